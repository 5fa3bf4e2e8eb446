-- turned for this claim out of the kit's print: the same functions, packed anew
import Derived.Test.YtfkglijnbgijbaaQx
import Derived.Test.YtfkglijnbgijbaaQspecl01Code
import Derived.Test.YtfkglijnbgijbaaQspecl05Code
import Derived.Test.YtfkglijnbgijbaaQspecl05Next
namespace Go.Proofs.Ytfkglijnbgijbaa.PAll
open Go.RowKit Go.Proofs.YtfkglijnbgijbaaW.PrintWords Go.Proofs.YtfkglijnbgijbaaW.PrintLast Go.Proofs.YtfkglijnbgijbaaW.PrintMore
attribute [local go_sem] Go.Proofs.Ytfkglijnbgijbaa.Aux.setCell_drewN Go.Proofs.Ytfkglijnbgijbaa.Aux.isSome_setCell max2_int min2_int max_two min_two max_three min_three max_four min_four   -- for this text's walks alone
set_option linter.unusedVariables false
set_option linter.unusedSimpArgs false
/-! ### spec_RayOf: function 50 -/
def spec_RayOf.l0 : Nat → Int → Int → List (S34) → Int → Int → Option ((List (S34)) × Int)
  | 0, _, _, _, _, _ => none
  | k + 1, x0, x3, x11, x1312000, x1312001 => if x3 > 0 then (if 0 ≤ (wrap64 ((x11.length : Int) - 1)) then (if (wrap64 ((x11.length : Int) - 1)) < (x11.length : Int) then ((spec_l05Next.f k x0 ((rd_T34 x11 (wrap64 ((x11.length : Int) - 1))).f0) ((rd_T34 x11 (wrap64 ((x11.length : Int) - 1))).f1) ((rd_T34 x11 (wrap64 ((x11.length : Int) - 1))).f2) x1312000 x1312001).bind fun bt1324 => (if bt1324.2.2.2 = true then (if x11.length < 5864062014805 then (spec_RayOf.l0 k x0 (wrap64 (x3 - 1)) (x11 ++ [(⟨bt1324.1, bt1324.2.1, bt1324.2.2.1⟩ : S34)]) x1312000 x1312001) else (none)) else (some (([] : List (S34)), 3)))) else (none)) else (none)) else (some (x11, 0))
def spec_RayOf.f (k : Nat) (a0 : Int) (a1_0 : Int) (a1_1 : Int) (a1_2 : Int) (a2_0 : Int) (a2_1 : Int) (a3 : Int) : Option ((List (S34)) × Int) := (spec_l05Code.f k a0 (([(⟨a1_0, a1_1, a1_2⟩ : S34)] : List (S34))) (([(⟨a2_0, a2_1⟩ : S24)] : List (S24)))).bind fun t1318 => (if t1318 = 0 then ((spec_l01In.f a3 0 12).bind fun t1319 => (if t1319 = true then (spec_RayOf.l0 k a0 a3 (([(⟨a1_0, a1_1, a1_2⟩ : S34)] : List (S34))) a2_0 a2_1) else (some (([] : List (S34)), 2)))) else (some (([] : List (S34)), t1318)))
theorem spec_RayOf.mono_l : ∀ k, (∀ y0 y1 y2 y3 y4, LeO (spec_RayOf.l0 k y0 y1 y2 y3 y4) (spec_RayOf.l0 (k + 1) y0 y1 y2 y3 y4))
  | 0 => fun _ _ _ _ _ r h => by simp [spec_RayOf.l0] at h
  | k + 1 => by
    have ih0 := spec_RayOf.mono_l k
    · intro y0 y1 y2 y3 y4
      unfold spec_RayOf.l0
      repeat' first
      | (with_reducible exact ih0 _ _ _ _ _)
      | (with_reducible exact spec_l05Code.mono _ _ _ _)
      | (with_reducible exact spec_l05Next.mono _ _ _ _ _ _ _)
      | (with_reducible exact LeO.refl _)
      | (with_reducible exact LeO.none _)
      | (with_reducible refine LeO.ite ?_ ?_)
      | (with_reducible refine LeO.bind ?_ (fun _ => ?_))
      | exact ih0 _ _ _ _ _
      | exact spec_l05Code.mono _ _ _ _
      | exact spec_l05Next.mono _ _ _ _ _ _ _
      | exact LeO.none _
      | refine LeO.ite ?_ ?_
      | refine LeO.bind ?_ (fun _ => ?_)
theorem spec_RayOf.mono : ∀ a0 a1 a2 a3 a4 a5 a6 k, LeO (spec_RayOf.f k a0 a1 a2 a3 a4 a5 a6) (spec_RayOf.f (k + 1) a0 a1 a2 a3 a4 a5 a6) := by
  intro a0 a1 a2 a3 a4 a5 a6 k
  have ih0 := spec_RayOf.mono_l k
  unfold spec_RayOf.f
  repeat' first
      | (with_reducible exact ih0 _ _ _ _ _)
      | (with_reducible exact spec_l05Code.mono _ _ _ _)
      | (with_reducible exact spec_l05Next.mono _ _ _ _ _ _ _)
      | (with_reducible exact LeO.refl _)
      | (with_reducible exact LeO.none _)
      | (with_reducible refine LeO.ite ?_ ?_)
      | (with_reducible refine LeO.bind ?_ (fun _ => ?_))
      | exact ih0 _ _ _ _ _
      | exact spec_l05Code.mono _ _ _ _
      | exact spec_l05Next.mono _ _ _ _ _ _ _
      | exact LeO.none _
      | refine LeO.ite ?_ ?_
      | refine LeO.bind ?_ (fun _ => ?_)
def spec_RayOf.T9 : Bool × List (List Nat × List Nat) := (true, [([], []), ([], []), ([], []), ([2], [2]), ([3], [3]), ([1, 4], [1, 4]), ([5], [5]), ([], []), ([0, 6, 7], [0, 6, 7]), ([8], [8]), ([9], [9]), ([9], [9]), ([], []), ([12, 10, 8, 0, 1, 2, 3, 4, 5, 6, 7, 8, 9, 10, 12], [10, 12]), ([11, 13, 0, 1, 2, 3, 4, 5, 6, 7, 8, 9, 10, 11, 12, 13], [11])])
def spec_RayOf.B9 : List Nat := [0, 0, 0, 4, 12, 30, 62, 0, 255, 511, 1023, 1023, 0, 6143, 16383]
theorem spec_RayOf.tab9 : rtab .any (opsOf Try.f50 9) = spec_RayOf.T9 := by kernel_rfl
theorem spec_RayOf.bits9 : waitsOk spec_RayOf.T9.2 spec_RayOf.B9 = true := by kernel_rfl
set_option maxHeartbeats 8000000 in
set_option maxRecDepth 100000 in
theorem spec_RayOf.calls (k : Nat) (a0 : Int) (a1_0 : Int) (a1_1 : Int) (a1_2 : Int) (a2_0 : Int) (a2_1 : Int) (a3 : Int) (r1 : List (S34)) (r2 : Int) (w : World) (h : spec_RayOf.f k a0 a1_0 a1_1 a1_2 a2_0 a2_1 a3 = some (r1, r2)) :
    Calls Try.prog 50 #[.int .i64 a0, .agg #[.int .i64 a1_0, .int .i64 a1_1, .int .i64 a1_2], .agg #[.int .i64 a2_0, .int .i64 a2_1], .int .i64 a3] w fun e w' => ∃ v0_ : Value, e = .returned (.tuple #[v0_, .int .i64 r2]) ∧ Kd.R k34 34 w' w.heap.size (fun _ => True) v0_ r1 ∧ Below w.heap.size w w' := by
  have hu34 := Try.underlying34
  have hu24 := Try.underlying24
  have HB := Aside0.mk (Below.refl w.heap.size w)
  have H : ((spec_l05Code.f k a0 (([(⟨a1_0, a1_1, a1_2⟩ : S34)] : List (S34))) (([(⟨a2_0, a2_1⟩ : S24)] : List (S24)))).bind fun t1318 => (if t1318 = 0 then ((spec_l01In.f a3 0 12).bind fun t1319 => (if t1319 = true then (spec_RayOf.l0 k a0 a3 (([(⟨a1_0, a1_1, a1_2⟩ : S34)] : List (S34))) a2_0 a2_1) else (some (([] : List (S34)), 2)))) else (some (([] : List (S34)), t1318)))) = some (r1, r2) := h
  clear h
  obtain ⟨y1312, hy1312⟩ : ∃ y_ : List (S34), y_ = (([(⟨a1_0, a1_1, a1_2⟩ : S34)] : List (S34))) := ⟨_, rfl⟩
  replace H : ((spec_l05Code.f k a0 y1312 (([(⟨a2_0, a2_1⟩ : S24)] : List (S24)))).bind fun t1318 => (if t1318 = 0 then ((spec_l01In.f a3 0 12).bind fun t1319 => (if t1319 = true then (spec_RayOf.l0 k a0 a3 (([(⟨a1_0, a1_1, a1_2⟩ : S34)] : List (S34))) a2_0 a2_1) else (some (([] : List (S34)), 2)))) else (some (([] : List (S34)), t1318)))) = some (r1, r2) := by first | (rw [hy1312]; with_reducible exact H) | (have H2_ := (Option.bind_some _ _).symm.trans H; rw [hy1312]; with_reducible exact H2_) | (have H2_ := (Option.bind_some _ _).symm.trans H; with_reducible exact H2_) | with_reducible exact H | (rw [hy1312]; exact H) | exact H
  have Ny1312 := Aside0.mk hy1312
  clear hy1312
  obtain ⟨y1315, hy1315⟩ : ∃ y_ : List (S24), y_ = (([(⟨a2_0, a2_1⟩ : S24)] : List (S24))) := ⟨_, rfl⟩
  replace H : ((spec_l05Code.f k a0 y1312 y1315).bind fun t1318 => (if t1318 = 0 then ((spec_l01In.f a3 0 12).bind fun t1319 => (if t1319 = true then (spec_RayOf.l0 k a0 a3 (([(⟨a1_0, a1_1, a1_2⟩ : S34)] : List (S34))) a2_0 a2_1) else (some (([] : List (S34)), 2)))) else (some (([] : List (S34)), t1318)))) = some (r1, r2) := by first | (rw [hy1315]; with_reducible exact H) | (have H2_ := (Option.bind_some _ _).symm.trans H; rw [hy1315]; with_reducible exact H2_) | (have H2_ := (Option.bind_some _ _).symm.trans H; with_reducible exact H2_) | with_reducible exact H | (rw [hy1315]; exact H) | exact H
  have Ny1315 := Aside0.mk hy1315
  clear hy1315
  replace H := Option.bind_eq_some_iff.mp H
  obtain ⟨t1318, A50, H⟩ := H
  replace H : (if t1318 = 0 then ((spec_l01In.f a3 0 12).bind fun t1319 => (if t1319 = true then (spec_RayOf.l0 k a0 a3 (([(⟨a1_0, a1_1, a1_2⟩ : S34)] : List (S34))) a2_0 a2_1) else (some (([] : List (S34)), 2)))) else (some (([] : List (S34)), t1318))) = some (r1, r2) := H
  have A5 := Aside0.mk A50
  clear A50
  by_cases c6 : t1318 = 0
  · rw [if_pos c6] at H
    have c6b0 : (t1318 == 0) = true := beq_iff_eq.mpr c6
    have c6b1 : (t1318 != 0) = false := bne_eq_false_iff_eq.mpr c6
    clear c6
    replace H := Option.bind_eq_some_iff.mp H
    obtain ⟨t1319, A70, H⟩ := H
    replace H : (if t1319 = true then (spec_RayOf.l0 k a0 a3 (([(⟨a1_0, a1_1, a1_2⟩ : S34)] : List (S34))) a2_0 a2_1) else (some (([] : List (S34)), 2))) = some (r1, r2) := H
    have A7 := Aside0.mk A70
    clear A70
    by_cases c8 : t1319 = true
    · subst c8
      have H1 : (spec_RayOf.l0 k a0 a3 (([(⟨a1_0, a1_1, a1_2⟩ : S34)] : List (S34))) a2_0 a2_1) = some (r1, r2) := by rw [if_pos rfl] at H; exact H
      clear H
      have H := H1
      clear H1
      obtain ⟨y1320, hy1320⟩ : ∃ y_ : List (S34), y_ = (([(⟨a1_0, a1_1, a1_2⟩ : S34)] : List (S34))) := ⟨_, rfl⟩
      replace H : (spec_RayOf.l0 k a0 a3 y1320 a2_0 a2_1) = some (r1, r2) := by first | (rw [hy1320]; with_reducible exact H) | (have H2_ := (Option.bind_some _ _).symm.trans H; rw [hy1320]; with_reducible exact H2_) | (have H2_ := (Option.bind_some _ _).symm.trans H; with_reducible exact H2_) | with_reducible exact H | (rw [hy1320]; exact H) | exact H
      have Ny1320 := Aside0.mk hy1320
      clear hy1320
      have H' := Aside0.mk H
      clear H
      go_enter Try.func50, Try.ntmps50
      go_wp2_with (first | ((with_reducible refine gate_dst (N := 5) rfl ?_); refine box_event ?hg (N := 5) ?hd (cs := #[.int .i64 a1_0, .int .i64 a1_1, .int .i64 a1_2]) (t := 34) ?hr ?_; (case hd => rfl); (case hg => rfl); (case hr => first | (go_simp; done) | (go_simp; rfl)); intro gb1310 hg w9 hbox hb; have n0_ := Aside0.mk (below_step blA hb); have n1_ := Aside0.mk (hbox); have n2_ := Aside0.mk (szA hg blA); have n3_ := Aside0.mk (szA hg blA); clear HB; have HB := n0_; have BK1310 := n1_; have GW1310 := n2_; have GE1310 := n3_; clear n0_ n1_ n2_ n3_; clear hb hbox hg) | ((with_reducible refine gate_dst (N := 6) rfl ?_); refine box_event ?hg (N := 6) ?hd (cs := #[.int .i64 a2_0, .int .i64 a2_1]) (t := 24) ?hr ?_; (case hd => rfl); (case hg => rfl); (case hr => first | (go_simp; done) | (go_simp; rfl)); intro gb1311 hg w10 hbox hb; have n0_ := Aside0.mk (blk_below (bkA BK1310) hb); have n1_ := Aside0.mk (below_step blA hb); have n2_ := Aside0.mk (hbox); have n3_ := Aside0.mk (szA hg blA); have n4_ := Aside0.mk (szA hg blA); have n5_ := Aside0.mk (neA hg (bkA BK1310)); have n6_ := Aside0.mk (neB hg (bkA BK1310)); clear BK1310; clear HB; have BK1310 := n0_; have HB := n1_; have BK1311 := n2_; have GW1311 := n3_; have GE1311 := n4_; have NB1310_1311 := n5_; have NB1311_1310 := n6_; clear n0_ n1_ n2_ n3_ n4_ n5_ n6_; clear hb hbox hg; have hnb11 := NB1310_1311.out; have hnc11 := NB1311_1310.out; have hcz12_0 : w10.cell? ⟨gb1310, 0, none⟩ = some (.int .i64 a1_0) := (blk_cell BK1310.out 0).trans rfl; have hcz12_1 : w10.cell? ⟨gb1310, 1, none⟩ = some (.int .i64 a1_1) := (blk_cell BK1310.out 1).trans rfl; have hcz12_2 : w10.cell? ⟨gb1310, 2, none⟩ = some (.int .i64 a1_2) := (blk_cell BK1310.out 2).trans rfl; have hfz12_0 := blk_frozen BK1310.out 0; have hfz12_1 := blk_frozen BK1310.out 1; have hfz12_2 := blk_frozen BK1310.out 2) | ((with_reducible refine gate_dst (N := 16) rfl ?_); refine Kd.R_lit k34 _ 34 ?hg (N := 16) ?hd (xs := ([(⟨a1_0, a1_1, a1_2⟩ : S34)] : List (S34))) (inner := [.int .i64 a1_0, .int .i64 a1_1, .int .i64 a1_2]) (ok := fun _ => True) (okp := fun _ => True) ?hr ?hp (fun _ hk => hk) trivial (Below.refl _ _) (Nat.le_refl _) (by simp) ?_; (case hd => rfl); (case hg => rfl); (case hr => first | (go_simp; done) | (go_simp; rfl)); (case hp => exact (Reps.c3 (show Kd.M k34 _ _ _ (⟨a1_0, a1_1, a1_2⟩ : S34) [.int .i64 a1_0, .int .i64 a1_1, .int .i64 a1_2] from (k34_mkM _ _ _ (⟨a1_0, a1_1, a1_2⟩ : S34) )) (Reps.none _ _))); intro v1313 w13 ho14 hb hg_ hnew_; clear hg_ hnew_; (first | rw [← Ny1312.out] at ho14 | (simp only [Int.reduceToNat] at ho14; rw [← Ny1312.out] at ho14)); have n0_ := Aside0.mk (Kd.R_lower (Kd.R_newB ho14 (bkA BK1310)) (below_size blA)); have n1_ := Aside0.mk (blk_below (bkA BK1310) hb); have n2_ := Aside0.mk (blk_below (bkA BK1311) hb); have n3_ := Aside0.mk (below_step blA hb); clear BK1310; clear BK1311; clear HB; have HO1314 := n0_; have BK1310 := n1_; have BK1311 := n2_; have HB := n3_; clear n0_ n1_ n2_ n3_; clear hb ho14; have hcz15_0 : w13.cell? ⟨gb1311, 0, none⟩ = some (.int .i64 a2_0) := (blk_cell BK1311.out 0).trans rfl; have hcz15_1 : w13.cell? ⟨gb1311, 1, none⟩ = some (.int .i64 a2_1) := (blk_cell BK1311.out 1).trans rfl; have hfz15_0 := blk_frozen BK1311.out 0; have hfz15_1 := blk_frozen BK1311.out 1) | ((with_reducible refine gate_dst (N := 18) rfl ?_); refine Kd.R_lit k24 _ 24 ?hg (N := 18) ?hd (xs := ([(⟨a2_0, a2_1⟩ : S24)] : List (S24))) (inner := [.int .i64 a2_0, .int .i64 a2_1]) (ok := fun _ => True) (okp := fun _ => True) ?hr ?hp (fun _ hk => hk) trivial (Below.refl _ _) (Nat.le_refl _) (by simp) ?_; (case hd => rfl); (case hg => rfl); (case hr => first | (go_simp; done) | (go_simp; rfl)); (case hp => exact (Reps.c2 (show Kd.M k24 _ _ _ (⟨a2_0, a2_1⟩ : S24) [.int .i64 a2_0, .int .i64 a2_1] from (k24_mkM _ _ _ (⟨a2_0, a2_1⟩ : S24) )) (Reps.none _ _))); intro v1316 w16 ho17 hb hg_ hnew_; clear hg_ hnew_; (first | rw [← Ny1315.out] at ho17 | (simp only [Int.reduceToNat] at ho17; rw [← Ny1315.out] at ho17)); have n0_ := Aside0.mk (Kd.R_below (by (with_reducible repeat (first | apply Kd.R_alloc | apply Kd.R_drewN | apply Kd.R_drew)); exact HO1314.out) hb); have n1_ := Aside0.mk (Kd.R_lower (Kd.R_newB ho17 (bkA BK1311)) (below_size blA)); have n2_ := Aside0.mk (blk_below (bkA BK1310) hb); have n3_ := Aside0.mk (blk_below (bkA BK1311) hb); have n4_ := Aside0.mk (below_step blA hb); clear HO1314; clear BK1310; clear BK1311; clear HB; have HO1314 := n0_; have HO1317 := n1_; have BK1310 := n2_; have BK1311 := n3_; have HB := n4_; clear n0_ n1_ n2_ n3_ n4_; clear hb ho17; obtain ⟨Ao18, co18, eo18⟩ := Kd.R_slice HO1314.out; subst eo18; obtain ⟨Ao19, co19, eo19⟩ := Kd.R_slice HO1317.out; subst eo19) | ((with_reducible refine gate_callee (f := 52) rfl ?_); refine goesL_ (some 19) rfl rfl Try.func52 (by kernel_rfl) rfl #[.int .i64 a0, .slice Ao18 y1312.length co18, .slice Ao19 y1315.length co19] rfl (by (try simp only [List.map_toArray, List.map_cons, List.map_nil]); first | done | rfl | (simp only [List.length_drop, List.length_take]; rfl)) ?_; (with_reducible refine (spec_l05Code.calls k a0 _ _ y1312 _ _ y1315 t1318 _ ?side1 ?side2 ?side3 ?side4 A5.out).mono ?_); (case side1 => repeat (first | exact (Kd.R_reads' HO1314.out).2.2 | (with_reducible refine Kd.C_alloc ?_ _) | (with_reducible refine Kd.C_drewN ?_ _) | (with_reducible refine Kd.C_drew ?_))); (case side2 => exact (Kd.R_reads' HO1314.out).2.1); (case side3 => repeat (first | exact (Kd.R_reads' HO1317.out).2.2 | (with_reducible refine Kd.C_alloc ?_ _) | (with_reducible refine Kd.C_drewN ?_ _) | (with_reducible refine Kd.C_drew ?_))); (case side4 => exact (Kd.R_reads' HO1317.out).2.1); rintro e w20 ⟨rfl, hb⟩; refine ⟨_, rfl, ?_⟩; have n0_ := Aside0.mk (Kd.R_below (by (with_reducible repeat (first | apply Kd.R_alloc | apply Kd.R_drewN | apply Kd.R_drew)); exact HO1314.out) hb); have n1_ := Aside0.mk (Kd.R_below (by (with_reducible repeat (first | apply Kd.R_alloc | apply Kd.R_drewN | apply Kd.R_drew)); exact HO1317.out) hb); have n2_ := Aside0.mk (blk_below (bkA BK1310) hb); have n3_ := Aside0.mk (blk_below (bkA BK1311) hb); have n4_ := Aside0.mk (below_step blA hb); clear HO1314; clear HO1317; clear BK1310; clear BK1311; clear HB; have HO1314 := n0_; have HO1317 := n1_; have BK1310 := n2_; have BK1311 := n3_; have HB := n4_; clear n0_ n1_ n2_ n3_ n4_; (try clear hb); (try clear hb2); (try clear hk); (try clear hi)) | ((with_reducible refine gate_callee (f := 74) rfl ?_); refine goesL_ (some 24) rfl rfl Try.func74 (by kernel_rfl) rfl #[.int .i64 a3, .int .i64 0, .int .i64 12] rfl (by (try simp only [List.map_toArray, List.map_cons, List.map_nil]); first | done | rfl | (simp only [List.length_drop, List.length_take]; rfl)) ?_; (with_reducible refine (spec_l01In.calls a3 0 12 true _ A7.out).mono ?_); rintro e w' ⟨rfl, ⟨nd, rfl⟩⟩; refine ⟨_, rfl, ?_⟩; have hcz21_0 : w20.cell? ⟨gb1310, 0, none⟩ = some (.int .i64 a1_0) := (blk_cell BK1310.out 0).trans rfl; have hcz21_1 : w20.cell? ⟨gb1310, 1, none⟩ = some (.int .i64 a1_1) := (blk_cell BK1310.out 1).trans rfl; have hcz21_2 : w20.cell? ⟨gb1310, 2, none⟩ = some (.int .i64 a1_2) := (blk_cell BK1310.out 2).trans rfl; have hfz21_0 := blk_frozen BK1310.out 0; have hfz21_1 := blk_frozen BK1310.out 1; have hfz21_2 := blk_frozen BK1310.out 2) | ((with_reducible refine gate_dst (N := 27) rfl ?_); refine Kd.R_lit k34 _ 34 ?hg (N := 27) ?hd (xs := ([(⟨a1_0, a1_1, a1_2⟩ : S34)] : List (S34))) (inner := [.int .i64 a1_0, .int .i64 a1_1, .int .i64 a1_2]) (ok := fun _ => True) (okp := fun _ => True) ?hr ?hp (fun _ hk => hk) trivial (Below.refl _ _) (Nat.le_refl _) (by simp) ?_; (case hd => rfl); (case hg => rfl); (case hr => first | (go_simp; done) | (go_simp; rfl)); (case hp => exact (Reps.c3 (show Kd.M k34 _ _ _ (⟨a1_0, a1_1, a1_2⟩ : S34) [.int .i64 a1_0, .int .i64 a1_1, .int .i64 a1_2] from (k34_mkM _ _ _ (⟨a1_0, a1_1, a1_2⟩ : S34) )) (Reps.none _ _))); intro v1321 w22 ho23 hb hg_ hnew_; clear hg_ hnew_; (first | rw [← Ny1320.out] at ho23 | (simp only [Int.reduceToNat] at ho23; rw [← Ny1320.out] at ho23)); have n0_ := Aside0.mk (Kd.R_elder' (by (with_reducible repeat (first | apply Kd.R_alloc | apply Kd.R_drewN | apply Kd.R_drew)); exact HO1314.out) (Kd.R_base ho23) hb); have n1_ := Aside0.mk (Kd.R_below (by (with_reducible repeat (first | apply Kd.R_alloc | apply Kd.R_drewN | apply Kd.R_drew)); exact HO1317.out) hb); have n2_ := Aside0.mk (Kd.R_lower (Kd.R_newB (Kd.R_new' ho23 (Kd.R_lt (by (with_reducible repeat (first | apply Kd.R_alloc | apply Kd.R_drewN | apply Kd.R_drew)); exact HO1314.out))) (bkA BK1310)) (below_size blA)); have n3_ := Aside0.mk (blk_below (bkA BK1310) hb); have n4_ := Aside0.mk (blk_below (bkA BK1311) hb); have n5_ := Aside0.mk (below_step blA hb); clear HO1314; clear HO1317; clear BK1310; clear BK1311; clear HB; have HO1314 := n0_; have HO1317 := n1_; have HO1322 := n2_; have BK1310 := n3_; have BK1311 := n4_; have HB := n5_; clear n0_ n1_ n2_ n3_ n4_ n5_; clear hb ho23))
      go_loopg [3, 11] k (fun kq v3 v11 w' => ∃ (x3_1 : Int) (x11_1 : List (S34)), v3 = .int .i64 x3_1 ∧ Aside0 (spec_RayOf.l0 kq a0 x3_1 x11_1 a2_0 a2_1 = some (r1, r2)) ∧ Aside0 (kq ≤ k) ∧ Aside0 (Kd.R k34 34 w' w.heap.size (fun k_ => k_ ≠ gb1310) v11 x11_1) ∧ Aside0 (w'.heap[gb1310]? = some (.cells #[.int .i64 a1_0, .int .i64 a1_1, .int .i64 a1_2] 34 (0, 0))) ∧ Aside0 (w'.heap[gb1311]? = some (.cells #[.int .i64 a2_0, .int .i64 a2_1] 24 (0, 0))) ∧ Aside0 (Below w.heap.size w w'))
      case atStart => exact ⟨(a3), (y1320), (by first | rfl | (simp; done) | (simp [*]; done)), H', ⟨Nat.le_refl _⟩, ⟨by (with_reducible repeat (first | apply Kd.R_alloc | apply Kd.R_drewN | apply Kd.R_drew)); exact Kd.R_mono HO1322.out (fun _ hk => hk.2)⟩, ⟨bkA BK1310⟩, ⟨bkA BK1311⟩, ⟨blA⟩⟩
      case round =>
        clear H'
        try clear c1
        try clear c2
        try clear p2
        try clear c3
        try clear c5
        try clear c6
        try clear c6b0
        try clear c6b1
        try clear c7
        try clear c8
        try clear c11
        try clear hcz12_0
        try clear hcz12_1
        try clear hcz12_2
        try clear hcz15_0
        try clear hcz15_1
        try clear hcz21_0
        try clear hcz21_1
        try clear hcz21_2
        try clear hfz12_0
        try clear hfz12_1
        try clear hfz12_2
        try clear hfz15_0
        try clear hfz15_1
        try clear hfz21_0
        try clear hfz21_1
        try clear hfz21_2
        obtain ⟨x3_1, x11_1, rfl, HA, HK1, HO_11, BK1310, BK1311, HB⟩ := hrel
        cases gk with
        | zero => exact absurd HA.out (by simp [spec_RayOf.l0])
        | succ k1 =>
          have H := HA.out
          clear HA
          simp only [spec_RayOf.l0] at H
          by_cases c24 : x3_1 > 0
          · rw [if_pos c24] at H
            have c24b0 : decide (0 < x3_1) = true := decide_eq_true c24
            clear c24
            obtain ⟨ji25, hji25⟩ : ∃ j_ : Int, (wrap64 ((x11_1.length : Int) - 1)) = j_ := ⟨_, rfl⟩
            replace H : (if 0 ≤ (ji25) then (if (ji25) < (x11_1.length : Int) then ((spec_l05Next.f k1 a0 ((rd_T34 x11_1 (ji25)).f0) ((rd_T34 x11_1 (ji25)).f1) ((rd_T34 x11_1 (ji25)).f2) a2_0 a2_1).bind fun bt1324 => (if bt1324.2.2.2 = true then (if x11_1.length < 5864062014805 then (spec_RayOf.l0 k1 a0 (wrap64 (x3_1 - 1)) (x11_1 ++ [(⟨bt1324.1, bt1324.2.1, bt1324.2.2.1⟩ : S34)]) a2_0 a2_1) else (none)) else (some (([] : List (S34)), 3)))) else (none)) else (none)) = some (r1, r2) := by first | (rw [hji25] at H; exact H) | (simp only [hji25] at H ⊢; exact H)
            have hji25w : (IntKind.i64.wrap ((x11_1.length : Int) - 1)) = ji25 := (i64_w _).trans hji25
            by_cases c26 : 0 ≤ (ji25)
            · rw [if_pos c26] at H
              have c26b0 : decide (0 ≤ (ji25)) = true := decide_eq_true c26
              clear c26
              by_cases c27 : (ji25) < (x11_1.length : Int)
              · rw [if_pos c27] at H
                have c27b0 : decide ((ji25) < (x11_1.length : Int)) = true := decide_eq_true c27
                clear c27
                replace H := Option.bind_eq_some_iff.mp H
                obtain ⟨⟨t1324, t1325, t1326, t1327⟩, A280, H⟩ := H
                replace H : (if t1327 = true then (if x11_1.length < 5864062014805 then (spec_RayOf.l0 k1 a0 (wrap64 (x3_1 - 1)) (x11_1 ++ [(⟨t1324, t1325, t1326⟩ : S34)]) a2_0 a2_1) else (none)) else (some (([] : List (S34)), 3))) = some (r1, r2) := H
                have A28 := Aside0.mk A280
                clear A280
                by_cases c29 : t1327 = true
                · subst c29
                  have H1 : (if x11_1.length < 5864062014805 then (spec_RayOf.l0 k1 a0 (wrap64 (x3_1 - 1)) (x11_1 ++ [(⟨t1324, t1325, t1326⟩ : S34)]) a2_0 a2_1) else (none)) = some (r1, r2) := by rw [if_pos rfl] at H; exact H
                  clear H
                  have H := H1
                  clear H1
                  by_cases c30 : x11_1.length < 5864062014805
                  · rw [if_pos c30] at H
                    have LMc30 := Aside0.mk c30
                    clear c30
                    obtain ⟨y1329, hy1329⟩ : ∃ y_ : List (S34), y_ = (x11_1 ++ [(⟨t1324, t1325, t1326⟩ : S34)]) := ⟨_, rfl⟩
                    replace H : (spec_RayOf.l0 k1 a0 (wrap64 (x3_1 - 1)) y1329 a2_0 a2_1) = some (r1, r2) := by first | (rw [hy1329]; with_reducible exact H) | (have H2_ := (Option.bind_some _ _).symm.trans H; rw [hy1329]; with_reducible exact H2_) | (have H2_ := (Option.bind_some _ _).symm.trans H; with_reducible exact H2_) | with_reducible exact H | (rw [hy1329]; exact H) | exact H
                    have Ny1329 := Aside0.mk hy1329
                    clear hy1329
                    have H' := Aside0.mk H
                    clear H
                    try go_wp2
                    have n0_ := Aside0.mk (Kd.R_drew HO_11.out)
                    have n1_ := Aside0.mk (blk_drew BK1310.out)
                    have n2_ := Aside0.mk (blk_drew BK1311.out)
                    have n3_ := Aside0.mk (below_drew1 HB.out)
                    clear HO_11
                    clear BK1310
                    clear BK1311
                    clear HB
                    have HO_11 := n0_
                    have BK1310 := n1_
                    have BK1311 := n2_
                    have HB := n3_
                    clear n0_ n1_ n2_ n3_
                    obtain ⟨Ao32, co32, eo32⟩ := Kd.R_slice HO_11.out
                    (first | subst eo32 | (injection eo32 with f1_ f2_ f3_; have f4_ := f1_.symm; have f5_ := f3_.symm; clear f1_ f2_ f3_; subst f4_; subst f5_))
                    have p1323 : 0 ≤ ((ji25) : Int) := of_decide_eq_true (by first | (with_reducible assumption) | assumption)
                    have q1323 : (ji25) < (x11_1.length : Int) := of_decide_eq_true (by first | (with_reducible assumption) | assumption)
                    obtain ⟨ad1323, e1323, hx1323_0, hx1323_1, hx1323_2⟩ := at_T34 (Kd.R_reads' HO_11.out).2.2 (ji25) p1323 q1323
                    cases e1323
                    replace p1323 := eq_true p1323
                    replace q1323 := eq_true q1323
                    refine start_ (n := 15) (S := fun w' => w'.cell? ⟨gb1311, 0, none⟩ = some (.int .i64 a2_0) ∧ w'.cell? ⟨gb1311, 1, none⟩ = some (.int .i64 a2_1) ∧ w'.cell? (ad1323.add (((ji25)).toNat * 3)) = some (.int .i64 ((rd_T34 x11_1 (ji25)).f0)) ∧ w'.cell? ⟨(ad1323.add (((ji25)).toNat * 3)).block, (ad1323.add (((ji25)).toNat * 3)).off + 1, none⟩ = some (.int .i64 ((rd_T34 x11_1 (ji25)).f1)) ∧ w'.cell? ⟨(ad1323.add (((ji25)).toNat * 3)).block, (ad1323.add (((ji25)).toNat * 3)).off + 2, none⟩ = some (.int .i64 ((rd_T34 x11_1 (ji25)).f2))) (ds := []) #[false, false, false, false, false, false, false, false, false, false, false, false, false, false, false] (by kernel_rfl) rfl rfl ⟨(blk_cell BK1311.out 0).trans rfl, (blk_cell BK1311.out 1).trans rfl, hx1323_0, hx1323_1, hx1323_2⟩ (fun hHeld => ?_); refine with_tabW spec_RayOf.tab9 spec_RayOf.bits9 (fun HT_ HW_ => ?_)
                    generalize wr.drew = w31 at HO_11 BK1310 BK1311 HB hx1323_0 hx1323_1 hx1323_2 hHeld ⊢
                    refine pure_ (i := 0) (N := some 33) (v := ?_) (a' := ?_) #[true, false, false, false, false, false, false, false, false, false, false, false, false, false, false] rfl rfl (any_of HT_.out (by kernel_rfl)) (fun _ _ _ h => h) (Or.inl ⟨by rfl, ?_⟩) ?_ ?_
                    rotate_left
                    · intro w'
                      go_simp
                      with_reducible rfl
                    rotate_left
                    · simp only [Act.put, List.setIfInBounds_toArray, List.set_cons_zero, List.set_cons_succ, i64_w, i32_w]
                      rfl
                    refine pure_ (i := 1) (N := some 34) (v := ?_) (a' := ?_) #[true, true, false, false, false, false, false, false, false, false, false, false, false, false, false] rfl rfl (any_of HT_.out (by kernel_rfl)) (fun _ _ _ h => h) (Or.inl ⟨by rfl, ?_⟩) ?_ ?_
                    rotate_left
                    · intro w'
                      go_simp
                      with_reducible rfl
                    rotate_left
                    · simp only [Act.put, List.setIfInBounds_toArray, List.set_cons_zero, List.set_cons_succ, i64_w, i32_w]
                      rfl
                    refine pure_ (i := 2) (N := some 35) (v := ?_) (a' := ?_) #[true, true, true, false, false, false, false, false, false, false, false, false, false, false, false] rfl rfl (any_of HT_.out (by kernel_rfl)) (fun _ _ _ h => h) (Or.inl ⟨by rfl, ?_⟩) ?_ ?_
                    rotate_left
                    · intro w'
                      go_simp
                      with_reducible rfl
                    rotate_left
                    · simp only [Act.put, List.setIfInBounds_toArray, List.set_cons_zero, List.set_cons_succ, i64_w, i32_w]
                      rfl
                    refine pure_ (i := 3) (N := some 36) (v := ?_) (a' := ?_) #[true, true, true, true, false, false, false, false, false, false, false, false, false, false, false] rfl rfl (any_of HT_.out (by kernel_rfl)) (fun _ _ _ h => h) (Or.inl ⟨by rfl, ?_⟩) ?_ ?_
                    rotate_left
                    · intro w'
                      go_simp
                      with_reducible rfl
                    rotate_left
                    · simp only [Act.put, List.setIfInBounds_toArray, List.set_cons_zero, List.set_cons_succ, i64_w, i32_w]
                      rfl
                    refine pure_ (i := 4) (N := some 37) (v := ?_) (a' := ?_) #[true, true, true, true, true, false, false, false, false, false, false, false, false, false, false] rfl rfl (any_of HT_.out (by kernel_rfl)) (fun _ _ _ h => h) (Or.inl ⟨by rfl, ?_⟩) ?_ ?_
                    rotate_left
                    · intro w'
                      go_simp
                      with_reducible rfl
                    rotate_left
                    · simp only [Act.put, List.setIfInBounds_toArray, List.set_cons_zero, List.set_cons_succ, i64_w, i32_w]
                      rfl
                    refine pure_ (i := 5) (N := some 38) (v := ?_) (a' := ?_) #[true, true, true, true, true, true, false, false, false, false, false, false, false, false, false] rfl rfl (any_of HT_.out (by kernel_rfl)) (fun _ _ _ h => h) (Or.inl ⟨by rfl, ?_⟩) ?_ ?_
                    rotate_left
                    · intro w'
                      go_simp
                      with_reducible rfl
                    rotate_left
                    · simp only [Act.put, List.setIfInBounds_toArray, List.set_cons_zero, List.set_cons_succ, i64_w, i32_w]
                      rfl
                    refine take_ (i := 6) (N := some 39) (v := ?_) (a' := ?_) #[true, true, true, true, true, true, true, false, false, false, false, false, false, false, false] rfl rfl (take_ofW HT_.out HW_.out (by kernel_rfl)) (fun _ _ _ h => h) (Or.inl ⟨by rfl, ?_⟩) hHeld ?_ ?_
                    rotate_left
                    · rintro w' ⟨s0, s1, s2, s3, s4⟩
                      go_simp
                      with_reducible rfl
                    rotate_left
                    · simp only [Act.put, List.setIfInBounds_toArray, List.set_cons_zero, List.set_cons_succ, i64_w, i32_w]
                      rfl
                    refine take_ (i := 7) (N := some 40) (v := ?_) (a' := ?_) #[true, true, true, true, true, true, true, true, false, false, false, false, false, false, false] rfl rfl (take_ofW HT_.out HW_.out (by kernel_rfl)) (fun _ _ _ h => h) (Or.inl ⟨by rfl, ?_⟩) hHeld ?_ ?_
                    rotate_left
                    · rintro w' ⟨s0, s1, s2, s3, s4⟩
                      go_simp
                      with_reducible rfl
                    rotate_left
                    · simp only [Act.put, List.setIfInBounds_toArray, List.set_cons_zero, List.set_cons_succ, i64_w, i32_w]
                      rfl
                    refine join_ (σ := Nat) 2 #[true, true, true, true, true, true, true, true, true, true, true, true, true, false, false] (fun s_ => [(41, .tuple #[.agg #[.int .i64 t1324, .int .i64 t1325, .int .i64 t1326], .bool true]), (12, .pointer (some ⟨s_, 0, none⟩)), (32, .tuple #[.agg #[.int .i64 t1324, .int .i64 t1325, .int .i64 t1326], .bool true]), (42, .agg #[.int .i64 t1324, .int .i64 t1325, .int .i64 t1326]), (43, .bool true)]) (fun s_ w' => (w'.cell? ⟨gb1311, 0, none⟩ = some (.int .i64 a2_0) ∧ w'.cell? ⟨gb1311, 1, none⟩ = some (.int .i64 a2_1) ∧ w'.cell? (ad1323.add (((ji25)).toNat * 3)) = some (.int .i64 ((rd_T34 x11_1 (ji25)).f0)) ∧ w'.cell? ⟨(ad1323.add (((ji25)).toNat * 3)).block, (ad1323.add (((ji25)).toNat * 3)).off + 1, none⟩ = some (.int .i64 ((rd_T34 x11_1 (ji25)).f1)) ∧ w'.cell? ⟨(ad1323.add (((ji25)).toNat * 3)).block, (ad1323.add (((ji25)).toNat * 3)).off + 2, none⟩ = some (.int .i64 ((rd_T34 x11_1 (ji25)).f2))) ∧ (Kd.R k34 34 w' w.heap.size (fun k_ => k_ ≠ gb1310 ∧ k_ ≠ s_) (.slice (some ad1323) x11_1.length co32) x11_1) ∧ (w'.heap[gb1310]? = some (.cells #[.int .i64 a1_0, .int .i64 a1_1, .int .i64 a1_2] 34 (0, 0))) ∧ (w'.heap[gb1311]? = some (.cells #[.int .i64 a2_0, .int .i64 a2_1] 24 (0, 0))) ∧ (w'.heap[s_]? = some (.cells #[.int .i64 0, .int .i64 0, .int .i64 0] 34 (0, 0))) ∧ (w.heap.size ≤ s_) ∧ (w.heap.size ≤ s_) ∧ (gb1310 ≠ s_) ∧ (s_ ≠ gb1310) ∧ (gb1311 ≠ s_) ∧ (s_ ≠ gb1311) ∧ (Below w.heap.size w w')) ?_ ?_
                    rotate_left
                    · intro hCont
                      refine two_ (i := 8) (j := 12) (Ni := some 41) (Nj := some 12) #[true, true, true, true, true, true, true, true, true, false, false, false, false, false, false] #[true, true, true, true, true, true, true, true, false, false, false, false, true, false, false] rfl rfl rfl rfl (two_of HT_.out (by kernel_rfl)) (by decide) (by decide) (fun K hK => ?_) (fun K hK => ?_)
                      · skip
                        refine goes_ Try.func113 (by kernel_rfl) rfl #[.int .i64 a0, .agg #[.int .i64 ((rd_T34 x11_1 (ji25)).f0), .int .i64 ((rd_T34 x11_1 (ji25)).f1), .int .i64 ((rd_T34 x11_1 (ji25)).f2)], .agg #[.int .i64 a2_0, .int .i64 a2_1]] (by rfl) rfl rfl (by (try simp only [List.map_toArray, List.map_cons, List.map_nil]); first | done | (simp only [hji25]; rfl) | rfl | (simp only [List.length_drop, List.length_take]; rfl)) ?_
                        with_reducible refine (spec_l05Next.calls k1 a0 ((rd_T34 x11_1 (ji25)).f0) ((rd_T34 x11_1 (ji25)).f1) ((rd_T34 x11_1 (ji25)).f2) a2_0 a2_1 t1324 t1325 t1326 true _ A28.out).mono ?_
                        rintro e w33 ⟨rfl, hb⟩
                        have HS2_ := (hb.cell (World.block_lt_of_cell? _ _ (hHeld.2.2.1))).trans (hHeld.2.2.1)
                        have HS3_ := (hb.cell (World.block_lt_of_cell? _ _ (hHeld.2.2.2.1))).trans (hHeld.2.2.2.1)
                        have HS4_ := (hb.cell (World.block_lt_of_cell? _ _ (hHeld.2.2.2.2))).trans (hHeld.2.2.2.2)
                        refine ⟨_, rfl, ?_⟩
                        have n0_ := Aside0.mk (Kd.R_below (by (with_reducible repeat (first | apply Kd.R_alloc | apply Kd.R_drewN | apply Kd.R_drew)); exact HO_11.out) hb)
                        have n1_ := Aside0.mk (blk_below (bkA BK1310) hb)
                        have n2_ := Aside0.mk (blk_below (bkA BK1311) hb)
                        have n3_ := Aside0.mk (below_step blA hb)
                        clear HO_11
                        clear BK1310
                        clear BK1311
                        clear HB
                        have HO_11 := n0_
                        have BK1310 := n1_
                        have BK1311 := n2_
                        have HB := n3_
                        clear n0_ n1_ n2_ n3_
                        (try clear hb)
                        (try clear hb2)
                        (try clear hk)
                        (try clear hi)
                        refine hK.out _ _ ⟨(blk_cell BK1311.out 0).trans rfl, (blk_cell BK1311.out 1).trans rfl, HS2_, HS3_, HS4_⟩ (fun hHeld => ?_)
                        clear hK K
                        refine norm_ (a' := ?_) ?_ ?_
                        rotate_left
                        · show Act.put _ (some 41) _ = _
                          simp only [Act.put, List.setIfInBounds_toArray, List.set_cons_zero, List.set_cons_succ, i64_w, i32_w]
                          rfl
                        refine pure_ (i := 9) (N := some 32) (v := ?_) (a' := ?_) #[true, true, true, true, true, true, true, true, true, true, false, false, false, false, false] rfl rfl (any_of HT_.out (by kernel_rfl)) (fun _ _ _ h => h) (Or.inl ⟨by rfl, ?_⟩) ?_ ?_
                        rotate_left
                        · intro w'
                          go_simp
                          with_reducible rfl
                        rotate_left
                        · simp only [Act.put, List.setIfInBounds_toArray, List.set_cons_zero, List.set_cons_succ, i64_w, i32_w]
                          rfl
                        refine pure_ (i := 10) (N := some 42) (v := ?_) (a' := ?_) #[true, true, true, true, true, true, true, true, true, true, true, false, false, false, false] rfl rfl (any_of HT_.out (by kernel_rfl)) (fun _ _ _ h => h) (Or.inl ⟨by rfl, ?_⟩) ?_ ?_
                        rotate_left
                        · intro w'
                          go_simp
                          with_reducible rfl
                        rotate_left
                        · simp only [Act.put, List.setIfInBounds_toArray, List.set_cons_zero, List.set_cons_succ, i64_w, i32_w]
                          rfl
                        refine pure_ (i := 11) (N := some 43) (v := ?_) (a' := ?_) #[true, true, true, true, true, true, true, true, true, true, true, true, false, false, false] rfl rfl (any_of HT_.out (by kernel_rfl)) (fun _ _ _ h => h) (Or.inl ⟨by rfl, ?_⟩) ?_ ?_
                        rotate_left
                        · intro w'
                          go_simp
                          with_reducible rfl
                        rotate_left
                        · simp only [Act.put, List.setIfInBounds_toArray, List.set_cons_zero, List.set_cons_succ, i64_w, i32_w]
                          rfl
                        refine one_ (i := 12) (N := some 12) #[true, true, true, true, true, true, true, true, true, true, true, true, true, false, false] rfl rfl (one_of HT_.out (by kernel_rfl)) (by decide) (fun K hK => ?_)
                        refine box_step ?hg (N := 12) ?hd (cs := #[.int .i64 0, .int .i64 0, .int .i64 0]) (t := 34) ?hr ?_; (case hd => rfl); (case hg => rfl); (case hr => first | (go_simp; done) | (go_simp; rfl))
                        intro gb1328 hg w34 hbox hb
                        have HS2_ := (hb.cell (World.block_lt_of_cell? _ _ (hHeld.2.2.1))).trans (hHeld.2.2.1)
                        have HS3_ := (hb.cell (World.block_lt_of_cell? _ _ (hHeld.2.2.2.1))).trans (hHeld.2.2.2.1)
                        have HS4_ := (hb.cell (World.block_lt_of_cell? _ _ (hHeld.2.2.2.2))).trans (hHeld.2.2.2.2)
                        have n0_ := Aside0.mk (Kd.R_below (Kd.R_elderB (by (with_reducible repeat (first | apply Kd.R_alloc | apply Kd.R_drewN | apply Kd.R_drew)); exact HO_11.out) gb1328 (Nat.le_of_eq hg.symm)) hb)
                        have n1_ := Aside0.mk (blk_below (bkA BK1310) hb)
                        have n2_ := Aside0.mk (blk_below (bkA BK1311) hb)
                        have n3_ := Aside0.mk (below_step blA hb)
                        have n4_ := Aside0.mk (hbox)
                        have n5_ := Aside0.mk (szA hg blA)
                        have n6_ := Aside0.mk (szA hg blA)
                        have n7_ := Aside0.mk (neA hg (bkA BK1310))
                        have n8_ := Aside0.mk (neB hg (bkA BK1310))
                        have n9_ := Aside0.mk (neA hg (bkA BK1311))
                        have n10_ := Aside0.mk (neB hg (bkA BK1311))
                        clear HO_11
                        clear BK1310
                        clear BK1311
                        clear HB
                        have HO_11 := n0_
                        have BK1310 := n1_
                        have BK1311 := n2_
                        have HB := n3_
                        have BK1328 := n4_
                        have GW1328 := n5_
                        have GE1328 := n6_
                        have NB1310_1328 := n7_
                        have NB1328_1310 := n8_
                        have NB1311_1328 := n9_
                        have NB1328_1311 := n10_
                        clear n0_ n1_ n2_ n3_ n4_ n5_ n6_ n7_ n8_ n9_ n10_
                        clear hb hbox hg
                        refine hK.out _ _ ⟨(blk_cell BK1311.out 0).trans rfl, (blk_cell BK1311.out 1).trans rfl, HS2_, HS3_, HS4_⟩ (fun hHeld => ?_)
                        clear hK K
                        refine norm_ (a' := ?_) ?_ ?_
                        rotate_left
                        · show Act.put _ (some 12) _ = _
                          simp only [Act.put, List.setIfInBounds_toArray, List.set_cons_zero, List.set_cons_succ, i64_w, i32_w]
                          rfl
                        exact norm_ (by simp only [putAll, Act.put, List.setIfInBounds_toArray, List.set_cons_zero, List.set_cons_succ]) (hCont (gb1328) _ ⟨hHeld, (by (with_reducible repeat (first | apply Kd.R_alloc | apply Kd.R_drewN | apply Kd.R_drew)); exact HO_11.out), (bkA BK1310), (bkA BK1311), (bkA BK1328), GW1328.out, GE1328.out, NB1310_1328.out, NB1328_1310.out, NB1311_1328.out, NB1328_1311.out, blA⟩)
                      · skip
                        refine box_step ?hg (N := 12) ?hd (cs := #[.int .i64 0, .int .i64 0, .int .i64 0]) (t := 34) ?hr ?_; (case hd => rfl); (case hg => rfl); (case hr => first | (go_simp; done) | (go_simp; rfl))
                        intro gb1328 hg w33 hbox hb
                        have HS2_ := (hb.cell (World.block_lt_of_cell? _ _ (hHeld.2.2.1))).trans (hHeld.2.2.1)
                        have HS3_ := (hb.cell (World.block_lt_of_cell? _ _ (hHeld.2.2.2.1))).trans (hHeld.2.2.2.1)
                        have HS4_ := (hb.cell (World.block_lt_of_cell? _ _ (hHeld.2.2.2.2))).trans (hHeld.2.2.2.2)
                        have n0_ := Aside0.mk (Kd.R_below (Kd.R_elderB (by (with_reducible repeat (first | apply Kd.R_alloc | apply Kd.R_drewN | apply Kd.R_drew)); exact HO_11.out) gb1328 (Nat.le_of_eq hg.symm)) hb)
                        have n1_ := Aside0.mk (blk_below (bkA BK1310) hb)
                        have n2_ := Aside0.mk (blk_below (bkA BK1311) hb)
                        have n3_ := Aside0.mk (below_step blA hb)
                        have n4_ := Aside0.mk (hbox)
                        have n5_ := Aside0.mk (szA hg blA)
                        have n6_ := Aside0.mk (szA hg blA)
                        have n7_ := Aside0.mk (neA hg (bkA BK1310))
                        have n8_ := Aside0.mk (neB hg (bkA BK1310))
                        have n9_ := Aside0.mk (neA hg (bkA BK1311))
                        have n10_ := Aside0.mk (neB hg (bkA BK1311))
                        clear HO_11
                        clear BK1310
                        clear BK1311
                        clear HB
                        have HO_11 := n0_
                        have BK1310 := n1_
                        have BK1311 := n2_
                        have HB := n3_
                        have BK1328 := n4_
                        have GW1328 := n5_
                        have GE1328 := n6_
                        have NB1310_1328 := n7_
                        have NB1328_1310 := n8_
                        have NB1311_1328 := n9_
                        have NB1328_1311 := n10_
                        clear n0_ n1_ n2_ n3_ n4_ n5_ n6_ n7_ n8_ n9_ n10_
                        clear hb hbox hg
                        refine hK.out _ _ ⟨(blk_cell BK1311.out 0).trans rfl, (blk_cell BK1311.out 1).trans rfl, HS2_, HS3_, HS4_⟩ (fun hHeld => ?_)
                        clear hK K
                        refine norm_ (a' := ?_) ?_ ?_
                        rotate_left
                        · show Act.put _ (some 12) _ = _
                          simp only [Act.put, List.setIfInBounds_toArray, List.set_cons_zero, List.set_cons_succ, i64_w, i32_w]
                          rfl
                        refine one_ (i := 8) (N := some 41) #[true, true, true, true, true, true, true, true, true, false, false, false, true, false, false] rfl rfl (one_of HT_.out (by kernel_rfl)) (by decide) (fun K hK => ?_)
                        refine goes_ Try.func113 (by kernel_rfl) rfl #[.int .i64 a0, .agg #[.int .i64 ((rd_T34 x11_1 (ji25)).f0), .int .i64 ((rd_T34 x11_1 (ji25)).f1), .int .i64 ((rd_T34 x11_1 (ji25)).f2)], .agg #[.int .i64 a2_0, .int .i64 a2_1]] (by rfl) rfl rfl (by (try simp only [List.map_toArray, List.map_cons, List.map_nil]); first | done | (simp only [hji25]; rfl) | rfl | (simp only [List.length_drop, List.length_take]; rfl)) ?_
                        with_reducible refine (spec_l05Next.calls k1 a0 ((rd_T34 x11_1 (ji25)).f0) ((rd_T34 x11_1 (ji25)).f1) ((rd_T34 x11_1 (ji25)).f2) a2_0 a2_1 t1324 t1325 t1326 true _ A28.out).mono ?_
                        rintro e w34 ⟨rfl, hb⟩
                        have HS2_ := (hb.cell (World.block_lt_of_cell? _ _ (hHeld.2.2.1))).trans (hHeld.2.2.1)
                        have HS3_ := (hb.cell (World.block_lt_of_cell? _ _ (hHeld.2.2.2.1))).trans (hHeld.2.2.2.1)
                        have HS4_ := (hb.cell (World.block_lt_of_cell? _ _ (hHeld.2.2.2.2))).trans (hHeld.2.2.2.2)
                        refine ⟨_, rfl, ?_⟩
                        have n0_ := Aside0.mk (Kd.R_below (by (with_reducible repeat (first | apply Kd.R_alloc | apply Kd.R_drewN | apply Kd.R_drew)); exact HO_11.out) hb)
                        have n1_ := Aside0.mk (blk_below (bkA BK1310) hb)
                        have n2_ := Aside0.mk (blk_below (bkA BK1311) hb)
                        have n3_ := Aside0.mk (blk_below (bkA BK1328) hb)
                        have n4_ := Aside0.mk (below_step blA hb)
                        clear HO_11
                        clear BK1310
                        clear BK1311
                        clear BK1328
                        clear HB
                        have HO_11 := n0_
                        have BK1310 := n1_
                        have BK1311 := n2_
                        have BK1328 := n3_
                        have HB := n4_
                        clear n0_ n1_ n2_ n3_ n4_
                        (try clear hb)
                        (try clear hb2)
                        (try clear hk)
                        (try clear hi)
                        refine hK.out _ _ ⟨(blk_cell BK1311.out 0).trans rfl, (blk_cell BK1311.out 1).trans rfl, HS2_, HS3_, HS4_⟩ (fun hHeld => ?_)
                        clear hK K
                        refine norm_ (a' := ?_) ?_ ?_
                        rotate_left
                        · show Act.put _ (some 41) _ = _
                          simp only [Act.put, List.setIfInBounds_toArray, List.set_cons_zero, List.set_cons_succ, i64_w, i32_w]
                          rfl
                        refine pure_ (i := 9) (N := some 32) (v := ?_) (a' := ?_) #[true, true, true, true, true, true, true, true, true, true, false, false, true, false, false] rfl rfl (any_of HT_.out (by kernel_rfl)) (fun _ _ _ h => h) (Or.inl ⟨by rfl, ?_⟩) ?_ ?_
                        rotate_left
                        · intro w'
                          go_simp
                          with_reducible rfl
                        rotate_left
                        · simp only [Act.put, List.setIfInBounds_toArray, List.set_cons_zero, List.set_cons_succ, i64_w, i32_w]
                          rfl
                        refine pure_ (i := 10) (N := some 42) (v := ?_) (a' := ?_) #[true, true, true, true, true, true, true, true, true, true, true, false, true, false, false] rfl rfl (any_of HT_.out (by kernel_rfl)) (fun _ _ _ h => h) (Or.inl ⟨by rfl, ?_⟩) ?_ ?_
                        rotate_left
                        · intro w'
                          go_simp
                          with_reducible rfl
                        rotate_left
                        · simp only [Act.put, List.setIfInBounds_toArray, List.set_cons_zero, List.set_cons_succ, i64_w, i32_w]
                          rfl
                        refine pure_ (i := 11) (N := some 43) (v := ?_) (a' := ?_) #[true, true, true, true, true, true, true, true, true, true, true, true, true, false, false] rfl rfl (any_of HT_.out (by kernel_rfl)) (fun _ _ _ h => h) (Or.inl ⟨by rfl, ?_⟩) ?_ ?_
                        rotate_left
                        · intro w'
                          go_simp
                          with_reducible rfl
                        rotate_left
                        · simp only [Act.put, List.setIfInBounds_toArray, List.set_cons_zero, List.set_cons_succ, i64_w, i32_w]
                          rfl
                        exact norm_ (by simp only [putAll, Act.put, List.setIfInBounds_toArray, List.set_cons_zero, List.set_cons_succ]) (hCont (gb1328) _ ⟨hHeld, (by (with_reducible repeat (first | apply Kd.R_alloc | apply Kd.R_drewN | apply Kd.R_drew)); exact HO_11.out), (bkA BK1310), (bkA BK1311), (bkA BK1328), GW1328.out, GE1328.out, NB1310_1328.out, NB1328_1310.out, NB1311_1328.out, NB1328_1311.out, blA⟩)
                    rintro gb1328 w35 ⟨hS_, h0_, h1_, h2_, h3_, h4_, h5_, h6_, h7_, h8_, h9_, h10_⟩
                    have n0_ : Aside0 (Kd.R k34 34 w35 w.heap.size (fun k_ => k_ ≠ gb1310 ∧ k_ ≠ gb1328) (.slice (some ad1323) x11_1.length co32) x11_1) := ⟨h0_⟩
                    have n1_ : Aside0 (w35.heap[gb1310]? = some (.cells #[.int .i64 a1_0, .int .i64 a1_1, .int .i64 a1_2] 34 (0, 0))) := ⟨h1_⟩
                    have n2_ : Aside0 (w35.heap[gb1311]? = some (.cells #[.int .i64 a2_0, .int .i64 a2_1] 24 (0, 0))) := ⟨h2_⟩
                    have n3_ : Aside0 (w35.heap[gb1328]? = some (.cells #[.int .i64 0, .int .i64 0, .int .i64 0] 34 (0, 0))) := ⟨h3_⟩
                    have n4_ : Aside0 (w.heap.size ≤ gb1328) := ⟨h4_⟩
                    have n5_ : Aside0 (w.heap.size ≤ gb1328) := ⟨h5_⟩
                    have n6_ : Aside0 (gb1310 ≠ gb1328) := ⟨h6_⟩
                    have n7_ : Aside0 (gb1328 ≠ gb1310) := ⟨h7_⟩
                    have n8_ : Aside0 (gb1311 ≠ gb1328) := ⟨h8_⟩
                    have n9_ : Aside0 (gb1328 ≠ gb1311) := ⟨h9_⟩
                    have n10_ : Aside0 (Below w.heap.size w w35) := ⟨h10_⟩
                    clear HO_11
                    clear BK1310
                    clear BK1311
                    clear HB
                    clear h0_ h1_ h2_ h3_ h4_ h5_ h6_ h7_ h8_ h9_ h10_
                    have HO_11 := n0_
                    have BK1310 := n1_
                    have BK1311 := n2_
                    have BK1328 := n3_
                    have GW1328 := n4_
                    have GE1328 := n5_
                    have NB1310_1328 := n6_
                    have NB1328_1310 := n7_
                    have NB1311_1328 := n8_
                    have NB1328_1311 := n9_
                    have HB := n10_
                    clear n0_ n1_ n2_ n3_ n4_ n5_ n6_ n7_ n8_ n9_ n10_
                    have hHeld : w35.cell? ⟨gb1311, 0, none⟩ = some (.int .i64 a2_0) ∧ w35.cell? ⟨gb1311, 1, none⟩ = some (.int .i64 a2_1) ∧ w35.cell? (ad1323.add (((ji25)).toNat * 3)) = some (.int .i64 ((rd_T34 x11_1 (ji25)).f0)) ∧ w35.cell? ⟨(ad1323.add (((ji25)).toNat * 3)).block, (ad1323.add (((ji25)).toNat * 3)).off + 1, none⟩ = some (.int .i64 ((rd_T34 x11_1 (ji25)).f1)) ∧ w35.cell? ⟨(ad1323.add (((ji25)).toNat * 3)).block, (ad1323.add (((ji25)).toNat * 3)).off + 2, none⟩ = some (.int .i64 ((rd_T34 x11_1 (ji25)).f2)) := hS_
                    refine norm_ (a' := ?_) ?_ ?_
                    rotate_left
                    · simp only [putAll, Act.put, List.setIfInBounds_toArray, List.set_cons_zero, List.set_cons_succ]
                      rfl
                    refine one_ (i := 13) (N := none) #[true, true, true, true, true, true, true, true, true, true, true, true, true, true, false] rfl rfl (one_of HT_.out (by kernel_rfl)) (by decide) (fun K hK => ?_)
                    have hs36 : w35.cell? ⟨gb1328, 0, none⟩ = some (.int .i64 0) := (blk_cell BK1328.out 0).trans rfl
                    have hfs36 := blk_frozen BK1328.out 0
                    have hns36_0 := NB1310_1328.out
                    have hns36_1 := NB1311_1328.out
                    have hms36_0 := NB1328_1310.out
                    have hms36_1 := NB1328_1311.out
                    have hs37 : w35.cell? ⟨gb1328, 1, none⟩ = some (.int .i64 0) := (blk_cell BK1328.out 1).trans rfl
                    have hfs37 := blk_frozen BK1328.out 1
                    have hns37_0 := NB1310_1328.out
                    have hns37_1 := NB1311_1328.out
                    have hms37_0 := NB1328_1310.out
                    have hms37_1 := NB1328_1311.out
                    have hs38 : w35.cell? ⟨gb1328, 2, none⟩ = some (.int .i64 0) := (blk_cell BK1328.out 2).trans rfl
                    have hfs38 := blk_frozen BK1328.out 2
                    have hns38_0 := NB1310_1328.out
                    have hns38_1 := NB1311_1328.out
                    have hms38_0 := NB1328_1310.out
                    have hms38_1 := NB1328_1311.out
                    refine skip_ (w1 := ?_) (by rfl) rfl ?_ ?_
                    rotate_left
                    · go_simp
                      rfl
                    refine hK.out _ _ ⟨((cell_far (p := ⟨gb1328, _, none⟩) NB1311_1328.out _).trans (((cell_far (p := ⟨gb1328, _, none⟩) NB1311_1328.out _).trans (((cell_far (p := ⟨gb1328, _, none⟩) NB1311_1328.out _).trans (hHeld.1)))))), ((cell_far (p := ⟨gb1328, _, none⟩) NB1311_1328.out _).trans (((cell_far (p := ⟨gb1328, _, none⟩) NB1311_1328.out _).trans (((cell_far (p := ⟨gb1328, _, none⟩) NB1311_1328.out _).trans (hHeld.2.1)))))), ((cell_far (p := ⟨gb1328, _, none⟩) (by first | exact Kd.own_blk (Kd.R_away HO_11.out (fun _ hk => hk.2)) | (rw [add_block]; exact Kd.own_blk (Kd.R_away HO_11.out (fun _ hk => hk.2))) | (show (Addr.add _ _).block ≠ _; rw [add_block]; exact Kd.own_blk (Kd.R_away HO_11.out (fun _ hk => hk.2))) | (dsimp only; exact Kd.own_blk (Kd.R_away HO_11.out (fun _ hk => hk.2)))) _).trans (((cell_far (p := ⟨gb1328, _, none⟩) (by first | exact Kd.own_blk (Kd.R_away HO_11.out (fun _ hk => hk.2)) | (rw [add_block]; exact Kd.own_blk (Kd.R_away HO_11.out (fun _ hk => hk.2))) | (show (Addr.add _ _).block ≠ _; rw [add_block]; exact Kd.own_blk (Kd.R_away HO_11.out (fun _ hk => hk.2))) | (dsimp only; exact Kd.own_blk (Kd.R_away HO_11.out (fun _ hk => hk.2)))) _).trans (((cell_far (p := ⟨gb1328, _, none⟩) (by first | exact Kd.own_blk (Kd.R_away HO_11.out (fun _ hk => hk.2)) | (rw [add_block]; exact Kd.own_blk (Kd.R_away HO_11.out (fun _ hk => hk.2))) | (show (Addr.add _ _).block ≠ _; rw [add_block]; exact Kd.own_blk (Kd.R_away HO_11.out (fun _ hk => hk.2))) | (dsimp only; exact Kd.own_blk (Kd.R_away HO_11.out (fun _ hk => hk.2)))) _).trans (hHeld.2.2.1)))))), ((cell_far (p := ⟨gb1328, _, none⟩) (by first | exact Kd.own_blk (Kd.R_away HO_11.out (fun _ hk => hk.2)) | (rw [add_block]; exact Kd.own_blk (Kd.R_away HO_11.out (fun _ hk => hk.2))) | (show (Addr.add _ _).block ≠ _; rw [add_block]; exact Kd.own_blk (Kd.R_away HO_11.out (fun _ hk => hk.2))) | (dsimp only; exact Kd.own_blk (Kd.R_away HO_11.out (fun _ hk => hk.2)))) _).trans (((cell_far (p := ⟨gb1328, _, none⟩) (by first | exact Kd.own_blk (Kd.R_away HO_11.out (fun _ hk => hk.2)) | (rw [add_block]; exact Kd.own_blk (Kd.R_away HO_11.out (fun _ hk => hk.2))) | (show (Addr.add _ _).block ≠ _; rw [add_block]; exact Kd.own_blk (Kd.R_away HO_11.out (fun _ hk => hk.2))) | (dsimp only; exact Kd.own_blk (Kd.R_away HO_11.out (fun _ hk => hk.2)))) _).trans (((cell_far (p := ⟨gb1328, _, none⟩) (by first | exact Kd.own_blk (Kd.R_away HO_11.out (fun _ hk => hk.2)) | (rw [add_block]; exact Kd.own_blk (Kd.R_away HO_11.out (fun _ hk => hk.2))) | (show (Addr.add _ _).block ≠ _; rw [add_block]; exact Kd.own_blk (Kd.R_away HO_11.out (fun _ hk => hk.2))) | (dsimp only; exact Kd.own_blk (Kd.R_away HO_11.out (fun _ hk => hk.2)))) _).trans (hHeld.2.2.2.1)))))), ((cell_far (p := ⟨gb1328, _, none⟩) (by first | exact Kd.own_blk (Kd.R_away HO_11.out (fun _ hk => hk.2)) | (rw [add_block]; exact Kd.own_blk (Kd.R_away HO_11.out (fun _ hk => hk.2))) | (show (Addr.add _ _).block ≠ _; rw [add_block]; exact Kd.own_blk (Kd.R_away HO_11.out (fun _ hk => hk.2))) | (dsimp only; exact Kd.own_blk (Kd.R_away HO_11.out (fun _ hk => hk.2)))) _).trans (((cell_far (p := ⟨gb1328, _, none⟩) (by first | exact Kd.own_blk (Kd.R_away HO_11.out (fun _ hk => hk.2)) | (rw [add_block]; exact Kd.own_blk (Kd.R_away HO_11.out (fun _ hk => hk.2))) | (show (Addr.add _ _).block ≠ _; rw [add_block]; exact Kd.own_blk (Kd.R_away HO_11.out (fun _ hk => hk.2))) | (dsimp only; exact Kd.own_blk (Kd.R_away HO_11.out (fun _ hk => hk.2)))) _).trans (((cell_far (p := ⟨gb1328, _, none⟩) (by first | exact Kd.own_blk (Kd.R_away HO_11.out (fun _ hk => hk.2)) | (rw [add_block]; exact Kd.own_blk (Kd.R_away HO_11.out (fun _ hk => hk.2))) | (show (Addr.add _ _).block ≠ _; rw [add_block]; exact Kd.own_blk (Kd.R_away HO_11.out (fun _ hk => hk.2))) | (dsimp only; exact Kd.own_blk (Kd.R_away HO_11.out (fun _ hk => hk.2)))) _).trans (hHeld.2.2.2.2))))))⟩ (fun hHeld => ?_)
                    clear hK K
                    refine pure_ (i := 14) (N := some 13) (v := ?_) (a' := ?_) #[true, true, true, true, true, true, true, true, true, true, true, true, true, true, true] rfl rfl (any_of HT_.out (by kernel_rfl)) (fun _ _ _ h => h) (Or.inl ⟨by rfl, ?_⟩) ?_ ?_
                    rotate_left
                    · intro w'
                      go_simp
                      with_reducible rfl
                    rotate_left
                    · simp only [Act.put, List.setIfInBounds_toArray, List.set_cons_zero, List.set_cons_succ, i64_w, i32_w]
                      rfl
                    refine done_ (done_of HT_.out (by kernel_rfl)) ?_
                    have hnb39 := NB1328_1310.out
                    have hnc39 := NB1310_1328.out
                    have hnb40 := NB1328_1311.out
                    have hnc40 := NB1311_1328.out
                    have hcz41_0 : w35.cell? ⟨gb1328, 0, none⟩ = some (.int .i64 0) := (blk_cell BK1328.out 0).trans rfl
                    have hcz41_1 : w35.cell? ⟨gb1328, 1, none⟩ = some (.int .i64 0) := (blk_cell BK1328.out 1).trans rfl
                    have hcz41_2 : w35.cell? ⟨gb1328, 2, none⟩ = some (.int .i64 0) := (blk_cell BK1328.out 2).trans rfl
                    have hfz41_0 := blk_frozen BK1328.out 0
                    have hfz41_1 := blk_frozen BK1328.out 1
                    have hfz41_2 := blk_frozen BK1328.out 2
                    try go_wp2_with (first | ((with_reducible refine gate_builtin (b := .append) (xs := #[.tmp 46, .tmp 48]) rfl ?_); at_builtin; refine Kd.R_append k34 (w0 := w) w.heap.size rfl (.tmp 46) (.tmp 48) 56 34 (.agg #[(.int .i64 0), (.int .i64 0), (.int .i64 0)]) 24 rfl Try.underlying56 info34 rfl (by decide) (by omega) (.slice (some ad1323) x11_1.length co32) x11_1 (⟨t1324, t1325, t1326⟩ : S34) [.int .i64 t1324, .int .i64 t1325, .int .i64 t1326] (fun k_ => k_ ≠ gb1310 ∧ k_ ≠ gb1328) (fun _ => False) rfl (by first | (go_simp; done) | (go_simp; rfl)) ?aP (fun _ hk => hk.elim) ?aF ?aO ?aB ?aS ?aL ?_; (case aP => exact k34_mkM _ _ _ (⟨t1324, t1325, t1326⟩ : S34)); (case aB => exact blA); (case aF => exact (fun k_ hk => ⟨Kd.freshB (g := gb1310) (o := .cells #[.int .i64 a1_0, .int .i64 a1_1, .int .i64 a1_2] 34 (0, 0)) (by (with_reducible repeat (first | refine blk_drewN ?_ _ | refine blk_drew ?_ | refine blk_alloc ?_ _)); refine blk_far ?_ NB1310_1328.out _; (with_reducible repeat (first | refine blk_drewN ?_ _ | refine blk_drew ?_ | refine blk_alloc ?_ _)); refine blk_far ?_ NB1310_1328.out _; (with_reducible repeat (first | refine blk_drewN ?_ _ | refine blk_drew ?_ | refine blk_alloc ?_ _)); refine blk_far ?_ NB1310_1328.out _; (with_reducible repeat (first | refine blk_drewN ?_ _ | refine blk_drew ?_ | refine blk_alloc ?_ _)); exact BK1310.out) k_ hk, Kd.freshB (g := gb1328) (o := .cells #[.int .i64 t1324, .int .i64 t1325, .int .i64 t1326] 34 (0, 0)) (by (with_reducible repeat (first | refine blk_drewN ?_ _ | refine blk_drew ?_ | refine blk_alloc ?_ _)); refine blk_put (cs := #[.int .i64 t1324, .int .i64 t1325, .int .i64 0]) ?_ 2 _ rfl; (with_reducible repeat (first | refine blk_drewN ?_ _ | refine blk_drew ?_ | refine blk_alloc ?_ _)); refine blk_put (cs := #[.int .i64 t1324, .int .i64 0, .int .i64 0]) ?_ 1 _ rfl; (with_reducible repeat (first | refine blk_drewN ?_ _ | refine blk_drew ?_ | refine blk_alloc ?_ _)); refine blk_put (cs := #[.int .i64 0, .int .i64 0, .int .i64 0]) ?_ 0 _ rfl; (with_reducible repeat (first | refine blk_drewN ?_ _ | refine blk_drew ?_ | refine blk_alloc ?_ _)); exact BK1328.out) k_ hk⟩)); (case aO => exact (by (with_reducible repeat (first | apply Kd.R_alloc | apply Kd.R_drewN | apply Kd.R_drew)); exact Kd.R_mono (Kd.R_far (p := ⟨gb1328, 2, none⟩) (Kd.R_far (p := ⟨gb1328, 1, none⟩) (Kd.R_far (p := ⟨gb1328, 0, none⟩) (Kd.R_mono HO_11.out (fun k_ hk => (⟨hk, hk.2⟩ : _ ∧ k_ ≠ gb1328))) (fun _ hk => hk.2) (.int .i64 t1324)) (fun _ hk => hk.2) (.int .i64 t1325)) (fun _ hk => hk.2) (.int .i64 t1326)) (fun _ hk => ⟨hk.1.1, hk.1.2⟩))); (case aS => exact (below_size blA)); (case aL => have := LMc30.out; omega); intro v1330 w42 ho hb hg hat; rw [← Ny1329.out] at ho; have n0_ := Aside0.mk (blk_grown (g := gb1310) (o := .cells #[.int .i64 a1_0, .int .i64 a1_1, .int .i64 a1_2] 34 (0, 0)) (by (with_reducible repeat (first | refine blk_drewN ?_ _ | refine blk_drew ?_ | refine blk_alloc ?_ _)); refine blk_far ?_ NB1310_1328.out _; (with_reducible repeat (first | refine blk_drewN ?_ _ | refine blk_drew ?_ | refine blk_alloc ?_ _)); refine blk_far ?_ NB1310_1328.out _; (with_reducible repeat (first | refine blk_drewN ?_ _ | refine blk_drew ?_ | refine blk_alloc ?_ _)); refine blk_far ?_ NB1310_1328.out _; (with_reducible repeat (first | refine blk_drewN ?_ _ | refine blk_drew ?_ | refine blk_alloc ?_ _)); exact BK1310.out) hg (Kd.R_away HO_11.out (fun _ hk => hk.1))); have n1_ := Aside0.mk (blk_grown (g := gb1311) (o := .cells #[.int .i64 a2_0, .int .i64 a2_1] 24 (0, 0)) (by (with_reducible repeat (first | refine blk_drewN ?_ _ | refine blk_drew ?_ | refine blk_alloc ?_ _)); refine blk_far ?_ NB1311_1328.out _; (with_reducible repeat (first | refine blk_drewN ?_ _ | refine blk_drew ?_ | refine blk_alloc ?_ _)); refine blk_far ?_ NB1311_1328.out _; (with_reducible repeat (first | refine blk_drewN ?_ _ | refine blk_drew ?_ | refine blk_alloc ?_ _)); refine blk_far ?_ NB1311_1328.out _; (with_reducible repeat (first | refine blk_drewN ?_ _ | refine blk_drew ?_ | refine blk_alloc ?_ _)); exact BK1311.out) hg (Kd.R_ne HO_11.out BK1311.out (by decide))); have n2_ := Aside0.mk (blk_grown (g := gb1328) (o := .cells #[.int .i64 t1324, .int .i64 t1325, .int .i64 t1326] 34 (0, 0)) (by (with_reducible repeat (first | refine blk_drewN ?_ _ | refine blk_drew ?_ | refine blk_alloc ?_ _)); refine blk_put (cs := #[.int .i64 t1324, .int .i64 t1325, .int .i64 0]) ?_ 2 _ rfl; (with_reducible repeat (first | refine blk_drewN ?_ _ | refine blk_drew ?_ | refine blk_alloc ?_ _)); refine blk_put (cs := #[.int .i64 t1324, .int .i64 0, .int .i64 0]) ?_ 1 _ rfl; (with_reducible repeat (first | refine blk_drewN ?_ _ | refine blk_drew ?_ | refine blk_alloc ?_ _)); refine blk_put (cs := #[.int .i64 0, .int .i64 0, .int .i64 0]) ?_ 0 _ rfl; (with_reducible repeat (first | refine blk_drewN ?_ _ | refine blk_drew ?_ | refine blk_alloc ?_ _)); exact BK1328.out) hg (Kd.R_away HO_11.out (fun _ hk => hk.2))); have n3_ := Aside0.mk (hb); have n4_ := Aside0.mk (ho); clear BK1310; clear BK1311; clear BK1328; clear HB; clear HO_11; have BK1310 := n0_; have BK1311 := n1_; have BK1328 := n2_; have HB := n3_; have HO1331 := n4_; clear n0_ n1_ n2_ n3_ n4_; clear ho hb hg hat))
                    go_roundg k1
                    case measure => have := HK1.out; omega
                    case rel => exact ⟨(wrap64 (x3_1 - 1)), (y1329), (by first | rfl | (simp; done) | (simp [*]; done)), H', ⟨by have := HK1.out; omega⟩, ⟨by (with_reducible repeat (first | apply Kd.R_alloc | apply Kd.R_drewN | apply Kd.R_drew)); exact Kd.R_mono HO1331.out (fun _ hk => hk.1)⟩, ⟨bkA BK1310⟩, ⟨bkA BK1311⟩, ⟨blA⟩⟩
                  · rw [if_neg c30] at H
                    exact absurd H (by simp)
                · replace c29 := Bool.eq_false_iff.mpr c29
                  subst c29
                  have H1 : (some (([] : List (S34)), 3)) = some (r1, r2) := by rw [if_neg (show ¬ (false = true) by decide)] at H; exact H
                  clear H
                  have H := H1
                  clear H1
                  simp only [Option.some.injEq, Prod.mk.injEq] at H
                  obtain ⟨rfl, rfl⟩ := H
                  try go_wp2
                  have n0_ := Aside0.mk (Kd.R_drew HO_11.out)
                  have n1_ := Aside0.mk (blk_drew BK1310.out)
                  have n2_ := Aside0.mk (blk_drew BK1311.out)
                  have n3_ := Aside0.mk (below_drew1 HB.out)
                  clear HO_11
                  clear BK1310
                  clear BK1311
                  clear HB
                  have HO_11 := n0_
                  have BK1310 := n1_
                  have BK1311 := n2_
                  have HB := n3_
                  clear n0_ n1_ n2_ n3_
                  obtain ⟨Ao44, co44, eo44⟩ := Kd.R_slice HO_11.out
                  (first | subst eo44 | (injection eo44 with f1_ f2_ f3_; have f4_ := f1_.symm; have f5_ := f3_.symm; clear f1_ f2_ f3_; subst f4_; subst f5_))
                  have p1323 : 0 ≤ ((ji25) : Int) := of_decide_eq_true (by first | (with_reducible assumption) | assumption)
                  have q1323 : (ji25) < (x11_1.length : Int) := of_decide_eq_true (by first | (with_reducible assumption) | assumption)
                  obtain ⟨ad1323, e1323, hx1323_0, hx1323_1, hx1323_2⟩ := at_T34 (Kd.R_reads' HO_11.out).2.2 (ji25) p1323 q1323
                  cases e1323
                  replace p1323 := eq_true p1323
                  replace q1323 := eq_true q1323
                  refine start_ (n := 15) (S := fun w' => w'.cell? ⟨gb1311, 0, none⟩ = some (.int .i64 a2_0) ∧ w'.cell? ⟨gb1311, 1, none⟩ = some (.int .i64 a2_1) ∧ w'.cell? (ad1323.add (((ji25)).toNat * 3)) = some (.int .i64 ((rd_T34 x11_1 (ji25)).f0)) ∧ w'.cell? ⟨(ad1323.add (((ji25)).toNat * 3)).block, (ad1323.add (((ji25)).toNat * 3)).off + 1, none⟩ = some (.int .i64 ((rd_T34 x11_1 (ji25)).f1)) ∧ w'.cell? ⟨(ad1323.add (((ji25)).toNat * 3)).block, (ad1323.add (((ji25)).toNat * 3)).off + 2, none⟩ = some (.int .i64 ((rd_T34 x11_1 (ji25)).f2))) (ds := []) #[false, false, false, false, false, false, false, false, false, false, false, false, false, false, false] (by kernel_rfl) rfl rfl ⟨(blk_cell BK1311.out 0).trans rfl, (blk_cell BK1311.out 1).trans rfl, hx1323_0, hx1323_1, hx1323_2⟩ (fun hHeld => ?_); refine with_tabW spec_RayOf.tab9 spec_RayOf.bits9 (fun HT_ HW_ => ?_)
                  generalize wr.drew = w43 at HO_11 BK1310 BK1311 HB hx1323_0 hx1323_1 hx1323_2 hHeld ⊢
                  refine pure_ (i := 0) (N := some 33) (v := ?_) (a' := ?_) #[true, false, false, false, false, false, false, false, false, false, false, false, false, false, false] rfl rfl (any_of HT_.out (by kernel_rfl)) (fun _ _ _ h => h) (Or.inl ⟨by rfl, ?_⟩) ?_ ?_
                  rotate_left
                  · intro w'
                    go_simp
                    with_reducible rfl
                  rotate_left
                  · simp only [Act.put, List.setIfInBounds_toArray, List.set_cons_zero, List.set_cons_succ, i64_w, i32_w]
                    rfl
                  refine pure_ (i := 1) (N := some 34) (v := ?_) (a' := ?_) #[true, true, false, false, false, false, false, false, false, false, false, false, false, false, false] rfl rfl (any_of HT_.out (by kernel_rfl)) (fun _ _ _ h => h) (Or.inl ⟨by rfl, ?_⟩) ?_ ?_
                  rotate_left
                  · intro w'
                    go_simp
                    with_reducible rfl
                  rotate_left
                  · simp only [Act.put, List.setIfInBounds_toArray, List.set_cons_zero, List.set_cons_succ, i64_w, i32_w]
                    rfl
                  refine pure_ (i := 2) (N := some 35) (v := ?_) (a' := ?_) #[true, true, true, false, false, false, false, false, false, false, false, false, false, false, false] rfl rfl (any_of HT_.out (by kernel_rfl)) (fun _ _ _ h => h) (Or.inl ⟨by rfl, ?_⟩) ?_ ?_
                  rotate_left
                  · intro w'
                    go_simp
                    with_reducible rfl
                  rotate_left
                  · simp only [Act.put, List.setIfInBounds_toArray, List.set_cons_zero, List.set_cons_succ, i64_w, i32_w]
                    rfl
                  refine pure_ (i := 3) (N := some 36) (v := ?_) (a' := ?_) #[true, true, true, true, false, false, false, false, false, false, false, false, false, false, false] rfl rfl (any_of HT_.out (by kernel_rfl)) (fun _ _ _ h => h) (Or.inl ⟨by rfl, ?_⟩) ?_ ?_
                  rotate_left
                  · intro w'
                    go_simp
                    with_reducible rfl
                  rotate_left
                  · simp only [Act.put, List.setIfInBounds_toArray, List.set_cons_zero, List.set_cons_succ, i64_w, i32_w]
                    rfl
                  refine pure_ (i := 4) (N := some 37) (v := ?_) (a' := ?_) #[true, true, true, true, true, false, false, false, false, false, false, false, false, false, false] rfl rfl (any_of HT_.out (by kernel_rfl)) (fun _ _ _ h => h) (Or.inl ⟨by rfl, ?_⟩) ?_ ?_
                  rotate_left
                  · intro w'
                    go_simp
                    with_reducible rfl
                  rotate_left
                  · simp only [Act.put, List.setIfInBounds_toArray, List.set_cons_zero, List.set_cons_succ, i64_w, i32_w]
                    rfl
                  refine pure_ (i := 5) (N := some 38) (v := ?_) (a' := ?_) #[true, true, true, true, true, true, false, false, false, false, false, false, false, false, false] rfl rfl (any_of HT_.out (by kernel_rfl)) (fun _ _ _ h => h) (Or.inl ⟨by rfl, ?_⟩) ?_ ?_
                  rotate_left
                  · intro w'
                    go_simp
                    with_reducible rfl
                  rotate_left
                  · simp only [Act.put, List.setIfInBounds_toArray, List.set_cons_zero, List.set_cons_succ, i64_w, i32_w]
                    rfl
                  refine take_ (i := 6) (N := some 39) (v := ?_) (a' := ?_) #[true, true, true, true, true, true, true, false, false, false, false, false, false, false, false] rfl rfl (take_ofW HT_.out HW_.out (by kernel_rfl)) (fun _ _ _ h => h) (Or.inl ⟨by rfl, ?_⟩) hHeld ?_ ?_
                  rotate_left
                  · rintro w' ⟨s0, s1, s2, s3, s4⟩
                    go_simp
                    with_reducible rfl
                  rotate_left
                  · simp only [Act.put, List.setIfInBounds_toArray, List.set_cons_zero, List.set_cons_succ, i64_w, i32_w]
                    rfl
                  refine take_ (i := 7) (N := some 40) (v := ?_) (a' := ?_) #[true, true, true, true, true, true, true, true, false, false, false, false, false, false, false] rfl rfl (take_ofW HT_.out HW_.out (by kernel_rfl)) (fun _ _ _ h => h) (Or.inl ⟨by rfl, ?_⟩) hHeld ?_ ?_
                  rotate_left
                  · rintro w' ⟨s0, s1, s2, s3, s4⟩
                    go_simp
                    with_reducible rfl
                  rotate_left
                  · simp only [Act.put, List.setIfInBounds_toArray, List.set_cons_zero, List.set_cons_succ, i64_w, i32_w]
                    rfl
                  refine join_ (σ := Nat) 2 #[true, true, true, true, true, true, true, true, true, true, true, true, true, false, false] (fun s_ => [(41, .tuple #[.agg #[.int .i64 t1324, .int .i64 t1325, .int .i64 t1326], .bool false]), (12, .pointer (some ⟨s_, 0, none⟩)), (32, .tuple #[.agg #[.int .i64 t1324, .int .i64 t1325, .int .i64 t1326], .bool false]), (42, .agg #[.int .i64 t1324, .int .i64 t1325, .int .i64 t1326]), (43, .bool false)]) (fun s_ w' => (w'.cell? ⟨gb1311, 0, none⟩ = some (.int .i64 a2_0) ∧ w'.cell? ⟨gb1311, 1, none⟩ = some (.int .i64 a2_1) ∧ w'.cell? (ad1323.add (((ji25)).toNat * 3)) = some (.int .i64 ((rd_T34 x11_1 (ji25)).f0)) ∧ w'.cell? ⟨(ad1323.add (((ji25)).toNat * 3)).block, (ad1323.add (((ji25)).toNat * 3)).off + 1, none⟩ = some (.int .i64 ((rd_T34 x11_1 (ji25)).f1)) ∧ w'.cell? ⟨(ad1323.add (((ji25)).toNat * 3)).block, (ad1323.add (((ji25)).toNat * 3)).off + 2, none⟩ = some (.int .i64 ((rd_T34 x11_1 (ji25)).f2))) ∧ (Kd.R k34 34 w' w.heap.size (fun k_ => k_ ≠ gb1310 ∧ k_ ≠ s_) (.slice (some ad1323) x11_1.length co44) x11_1) ∧ (w'.heap[gb1310]? = some (.cells #[.int .i64 a1_0, .int .i64 a1_1, .int .i64 a1_2] 34 (0, 0))) ∧ (w'.heap[gb1311]? = some (.cells #[.int .i64 a2_0, .int .i64 a2_1] 24 (0, 0))) ∧ (w'.heap[s_]? = some (.cells #[.int .i64 0, .int .i64 0, .int .i64 0] 34 (0, 0))) ∧ (w.heap.size ≤ s_) ∧ (w.heap.size ≤ s_) ∧ (gb1310 ≠ s_) ∧ (s_ ≠ gb1310) ∧ (gb1311 ≠ s_) ∧ (s_ ≠ gb1311) ∧ (Below w.heap.size w w')) ?_ ?_
                  rotate_left
                  · intro hCont
                    refine two_ (i := 8) (j := 12) (Ni := some 41) (Nj := some 12) #[true, true, true, true, true, true, true, true, true, false, false, false, false, false, false] #[true, true, true, true, true, true, true, true, false, false, false, false, true, false, false] rfl rfl rfl rfl (two_of HT_.out (by kernel_rfl)) (by decide) (by decide) (fun K hK => ?_) (fun K hK => ?_)
                    · skip
                      refine goes_ Try.func113 (by kernel_rfl) rfl #[.int .i64 a0, .agg #[.int .i64 ((rd_T34 x11_1 (ji25)).f0), .int .i64 ((rd_T34 x11_1 (ji25)).f1), .int .i64 ((rd_T34 x11_1 (ji25)).f2)], .agg #[.int .i64 a2_0, .int .i64 a2_1]] (by rfl) rfl rfl (by (try simp only [List.map_toArray, List.map_cons, List.map_nil]); first | done | (simp only [hji25]; rfl) | rfl | (simp only [List.length_drop, List.length_take]; rfl)) ?_
                      with_reducible refine (spec_l05Next.calls k1 a0 ((rd_T34 x11_1 (ji25)).f0) ((rd_T34 x11_1 (ji25)).f1) ((rd_T34 x11_1 (ji25)).f2) a2_0 a2_1 t1324 t1325 t1326 false _ A28.out).mono ?_
                      rintro e w45 ⟨rfl, hb⟩
                      have HS2_ := (hb.cell (World.block_lt_of_cell? _ _ (hHeld.2.2.1))).trans (hHeld.2.2.1)
                      have HS3_ := (hb.cell (World.block_lt_of_cell? _ _ (hHeld.2.2.2.1))).trans (hHeld.2.2.2.1)
                      have HS4_ := (hb.cell (World.block_lt_of_cell? _ _ (hHeld.2.2.2.2))).trans (hHeld.2.2.2.2)
                      refine ⟨_, rfl, ?_⟩
                      have n0_ := Aside0.mk (Kd.R_below (by (with_reducible repeat (first | apply Kd.R_alloc | apply Kd.R_drewN | apply Kd.R_drew)); exact HO_11.out) hb)
                      have n1_ := Aside0.mk (blk_below (bkA BK1310) hb)
                      have n2_ := Aside0.mk (blk_below (bkA BK1311) hb)
                      have n3_ := Aside0.mk (below_step blA hb)
                      clear HO_11
                      clear BK1310
                      clear BK1311
                      clear HB
                      have HO_11 := n0_
                      have BK1310 := n1_
                      have BK1311 := n2_
                      have HB := n3_
                      clear n0_ n1_ n2_ n3_
                      (try clear hb)
                      (try clear hb2)
                      (try clear hk)
                      (try clear hi)
                      refine hK.out _ _ ⟨(blk_cell BK1311.out 0).trans rfl, (blk_cell BK1311.out 1).trans rfl, HS2_, HS3_, HS4_⟩ (fun hHeld => ?_)
                      clear hK K
                      refine norm_ (a' := ?_) ?_ ?_
                      rotate_left
                      · show Act.put _ (some 41) _ = _
                        simp only [Act.put, List.setIfInBounds_toArray, List.set_cons_zero, List.set_cons_succ, i64_w, i32_w]
                        rfl
                      refine pure_ (i := 9) (N := some 32) (v := ?_) (a' := ?_) #[true, true, true, true, true, true, true, true, true, true, false, false, false, false, false] rfl rfl (any_of HT_.out (by kernel_rfl)) (fun _ _ _ h => h) (Or.inl ⟨by rfl, ?_⟩) ?_ ?_
                      rotate_left
                      · intro w'
                        go_simp
                        with_reducible rfl
                      rotate_left
                      · simp only [Act.put, List.setIfInBounds_toArray, List.set_cons_zero, List.set_cons_succ, i64_w, i32_w]
                        rfl
                      refine pure_ (i := 10) (N := some 42) (v := ?_) (a' := ?_) #[true, true, true, true, true, true, true, true, true, true, true, false, false, false, false] rfl rfl (any_of HT_.out (by kernel_rfl)) (fun _ _ _ h => h) (Or.inl ⟨by rfl, ?_⟩) ?_ ?_
                      rotate_left
                      · intro w'
                        go_simp
                        with_reducible rfl
                      rotate_left
                      · simp only [Act.put, List.setIfInBounds_toArray, List.set_cons_zero, List.set_cons_succ, i64_w, i32_w]
                        rfl
                      refine pure_ (i := 11) (N := some 43) (v := ?_) (a' := ?_) #[true, true, true, true, true, true, true, true, true, true, true, true, false, false, false] rfl rfl (any_of HT_.out (by kernel_rfl)) (fun _ _ _ h => h) (Or.inl ⟨by rfl, ?_⟩) ?_ ?_
                      rotate_left
                      · intro w'
                        go_simp
                        with_reducible rfl
                      rotate_left
                      · simp only [Act.put, List.setIfInBounds_toArray, List.set_cons_zero, List.set_cons_succ, i64_w, i32_w]
                        rfl
                      refine one_ (i := 12) (N := some 12) #[true, true, true, true, true, true, true, true, true, true, true, true, true, false, false] rfl rfl (one_of HT_.out (by kernel_rfl)) (by decide) (fun K hK => ?_)
                      refine box_step ?hg (N := 12) ?hd (cs := #[.int .i64 0, .int .i64 0, .int .i64 0]) (t := 34) ?hr ?_; (case hd => rfl); (case hg => rfl); (case hr => first | (go_simp; done) | (go_simp; rfl))
                      intro gb1328 hg w46 hbox hb
                      have HS2_ := (hb.cell (World.block_lt_of_cell? _ _ (hHeld.2.2.1))).trans (hHeld.2.2.1)
                      have HS3_ := (hb.cell (World.block_lt_of_cell? _ _ (hHeld.2.2.2.1))).trans (hHeld.2.2.2.1)
                      have HS4_ := (hb.cell (World.block_lt_of_cell? _ _ (hHeld.2.2.2.2))).trans (hHeld.2.2.2.2)
                      have n0_ := Aside0.mk (Kd.R_below (Kd.R_elderB (by (with_reducible repeat (first | apply Kd.R_alloc | apply Kd.R_drewN | apply Kd.R_drew)); exact HO_11.out) gb1328 (Nat.le_of_eq hg.symm)) hb)
                      have n1_ := Aside0.mk (blk_below (bkA BK1310) hb)
                      have n2_ := Aside0.mk (blk_below (bkA BK1311) hb)
                      have n3_ := Aside0.mk (below_step blA hb)
                      have n4_ := Aside0.mk (hbox)
                      have n5_ := Aside0.mk (szA hg blA)
                      have n6_ := Aside0.mk (szA hg blA)
                      have n7_ := Aside0.mk (neA hg (bkA BK1310))
                      have n8_ := Aside0.mk (neB hg (bkA BK1310))
                      have n9_ := Aside0.mk (neA hg (bkA BK1311))
                      have n10_ := Aside0.mk (neB hg (bkA BK1311))
                      clear HO_11
                      clear BK1310
                      clear BK1311
                      clear HB
                      have HO_11 := n0_
                      have BK1310 := n1_
                      have BK1311 := n2_
                      have HB := n3_
                      have BK1328 := n4_
                      have GW1328 := n5_
                      have GE1328 := n6_
                      have NB1310_1328 := n7_
                      have NB1328_1310 := n8_
                      have NB1311_1328 := n9_
                      have NB1328_1311 := n10_
                      clear n0_ n1_ n2_ n3_ n4_ n5_ n6_ n7_ n8_ n9_ n10_
                      clear hb hbox hg
                      refine hK.out _ _ ⟨(blk_cell BK1311.out 0).trans rfl, (blk_cell BK1311.out 1).trans rfl, HS2_, HS3_, HS4_⟩ (fun hHeld => ?_)
                      clear hK K
                      refine norm_ (a' := ?_) ?_ ?_
                      rotate_left
                      · show Act.put _ (some 12) _ = _
                        simp only [Act.put, List.setIfInBounds_toArray, List.set_cons_zero, List.set_cons_succ, i64_w, i32_w]
                        rfl
                      exact norm_ (by simp only [putAll, Act.put, List.setIfInBounds_toArray, List.set_cons_zero, List.set_cons_succ]) (hCont (gb1328) _ ⟨hHeld, (by (with_reducible repeat (first | apply Kd.R_alloc | apply Kd.R_drewN | apply Kd.R_drew)); exact HO_11.out), (bkA BK1310), (bkA BK1311), (bkA BK1328), GW1328.out, GE1328.out, NB1310_1328.out, NB1328_1310.out, NB1311_1328.out, NB1328_1311.out, blA⟩)
                    · skip
                      refine box_step ?hg (N := 12) ?hd (cs := #[.int .i64 0, .int .i64 0, .int .i64 0]) (t := 34) ?hr ?_; (case hd => rfl); (case hg => rfl); (case hr => first | (go_simp; done) | (go_simp; rfl))
                      intro gb1328 hg w45 hbox hb
                      have HS2_ := (hb.cell (World.block_lt_of_cell? _ _ (hHeld.2.2.1))).trans (hHeld.2.2.1)
                      have HS3_ := (hb.cell (World.block_lt_of_cell? _ _ (hHeld.2.2.2.1))).trans (hHeld.2.2.2.1)
                      have HS4_ := (hb.cell (World.block_lt_of_cell? _ _ (hHeld.2.2.2.2))).trans (hHeld.2.2.2.2)
                      have n0_ := Aside0.mk (Kd.R_below (Kd.R_elderB (by (with_reducible repeat (first | apply Kd.R_alloc | apply Kd.R_drewN | apply Kd.R_drew)); exact HO_11.out) gb1328 (Nat.le_of_eq hg.symm)) hb)
                      have n1_ := Aside0.mk (blk_below (bkA BK1310) hb)
                      have n2_ := Aside0.mk (blk_below (bkA BK1311) hb)
                      have n3_ := Aside0.mk (below_step blA hb)
                      have n4_ := Aside0.mk (hbox)
                      have n5_ := Aside0.mk (szA hg blA)
                      have n6_ := Aside0.mk (szA hg blA)
                      have n7_ := Aside0.mk (neA hg (bkA BK1310))
                      have n8_ := Aside0.mk (neB hg (bkA BK1310))
                      have n9_ := Aside0.mk (neA hg (bkA BK1311))
                      have n10_ := Aside0.mk (neB hg (bkA BK1311))
                      clear HO_11
                      clear BK1310
                      clear BK1311
                      clear HB
                      have HO_11 := n0_
                      have BK1310 := n1_
                      have BK1311 := n2_
                      have HB := n3_
                      have BK1328 := n4_
                      have GW1328 := n5_
                      have GE1328 := n6_
                      have NB1310_1328 := n7_
                      have NB1328_1310 := n8_
                      have NB1311_1328 := n9_
                      have NB1328_1311 := n10_
                      clear n0_ n1_ n2_ n3_ n4_ n5_ n6_ n7_ n8_ n9_ n10_
                      clear hb hbox hg
                      refine hK.out _ _ ⟨(blk_cell BK1311.out 0).trans rfl, (blk_cell BK1311.out 1).trans rfl, HS2_, HS3_, HS4_⟩ (fun hHeld => ?_)
                      clear hK K
                      refine norm_ (a' := ?_) ?_ ?_
                      rotate_left
                      · show Act.put _ (some 12) _ = _
                        simp only [Act.put, List.setIfInBounds_toArray, List.set_cons_zero, List.set_cons_succ, i64_w, i32_w]
                        rfl
                      refine one_ (i := 8) (N := some 41) #[true, true, true, true, true, true, true, true, true, false, false, false, true, false, false] rfl rfl (one_of HT_.out (by kernel_rfl)) (by decide) (fun K hK => ?_)
                      refine goes_ Try.func113 (by kernel_rfl) rfl #[.int .i64 a0, .agg #[.int .i64 ((rd_T34 x11_1 (ji25)).f0), .int .i64 ((rd_T34 x11_1 (ji25)).f1), .int .i64 ((rd_T34 x11_1 (ji25)).f2)], .agg #[.int .i64 a2_0, .int .i64 a2_1]] (by rfl) rfl rfl (by (try simp only [List.map_toArray, List.map_cons, List.map_nil]); first | done | (simp only [hji25]; rfl) | rfl | (simp only [List.length_drop, List.length_take]; rfl)) ?_
                      with_reducible refine (spec_l05Next.calls k1 a0 ((rd_T34 x11_1 (ji25)).f0) ((rd_T34 x11_1 (ji25)).f1) ((rd_T34 x11_1 (ji25)).f2) a2_0 a2_1 t1324 t1325 t1326 false _ A28.out).mono ?_
                      rintro e w46 ⟨rfl, hb⟩
                      have HS2_ := (hb.cell (World.block_lt_of_cell? _ _ (hHeld.2.2.1))).trans (hHeld.2.2.1)
                      have HS3_ := (hb.cell (World.block_lt_of_cell? _ _ (hHeld.2.2.2.1))).trans (hHeld.2.2.2.1)
                      have HS4_ := (hb.cell (World.block_lt_of_cell? _ _ (hHeld.2.2.2.2))).trans (hHeld.2.2.2.2)
                      refine ⟨_, rfl, ?_⟩
                      have n0_ := Aside0.mk (Kd.R_below (by (with_reducible repeat (first | apply Kd.R_alloc | apply Kd.R_drewN | apply Kd.R_drew)); exact HO_11.out) hb)
                      have n1_ := Aside0.mk (blk_below (bkA BK1310) hb)
                      have n2_ := Aside0.mk (blk_below (bkA BK1311) hb)
                      have n3_ := Aside0.mk (blk_below (bkA BK1328) hb)
                      have n4_ := Aside0.mk (below_step blA hb)
                      clear HO_11
                      clear BK1310
                      clear BK1311
                      clear BK1328
                      clear HB
                      have HO_11 := n0_
                      have BK1310 := n1_
                      have BK1311 := n2_
                      have BK1328 := n3_
                      have HB := n4_
                      clear n0_ n1_ n2_ n3_ n4_
                      (try clear hb)
                      (try clear hb2)
                      (try clear hk)
                      (try clear hi)
                      refine hK.out _ _ ⟨(blk_cell BK1311.out 0).trans rfl, (blk_cell BK1311.out 1).trans rfl, HS2_, HS3_, HS4_⟩ (fun hHeld => ?_)
                      clear hK K
                      refine norm_ (a' := ?_) ?_ ?_
                      rotate_left
                      · show Act.put _ (some 41) _ = _
                        simp only [Act.put, List.setIfInBounds_toArray, List.set_cons_zero, List.set_cons_succ, i64_w, i32_w]
                        rfl
                      refine pure_ (i := 9) (N := some 32) (v := ?_) (a' := ?_) #[true, true, true, true, true, true, true, true, true, true, false, false, true, false, false] rfl rfl (any_of HT_.out (by kernel_rfl)) (fun _ _ _ h => h) (Or.inl ⟨by rfl, ?_⟩) ?_ ?_
                      rotate_left
                      · intro w'
                        go_simp
                        with_reducible rfl
                      rotate_left
                      · simp only [Act.put, List.setIfInBounds_toArray, List.set_cons_zero, List.set_cons_succ, i64_w, i32_w]
                        rfl
                      refine pure_ (i := 10) (N := some 42) (v := ?_) (a' := ?_) #[true, true, true, true, true, true, true, true, true, true, true, false, true, false, false] rfl rfl (any_of HT_.out (by kernel_rfl)) (fun _ _ _ h => h) (Or.inl ⟨by rfl, ?_⟩) ?_ ?_
                      rotate_left
                      · intro w'
                        go_simp
                        with_reducible rfl
                      rotate_left
                      · simp only [Act.put, List.setIfInBounds_toArray, List.set_cons_zero, List.set_cons_succ, i64_w, i32_w]
                        rfl
                      refine pure_ (i := 11) (N := some 43) (v := ?_) (a' := ?_) #[true, true, true, true, true, true, true, true, true, true, true, true, true, false, false] rfl rfl (any_of HT_.out (by kernel_rfl)) (fun _ _ _ h => h) (Or.inl ⟨by rfl, ?_⟩) ?_ ?_
                      rotate_left
                      · intro w'
                        go_simp
                        with_reducible rfl
                      rotate_left
                      · simp only [Act.put, List.setIfInBounds_toArray, List.set_cons_zero, List.set_cons_succ, i64_w, i32_w]
                        rfl
                      exact norm_ (by simp only [putAll, Act.put, List.setIfInBounds_toArray, List.set_cons_zero, List.set_cons_succ]) (hCont (gb1328) _ ⟨hHeld, (by (with_reducible repeat (first | apply Kd.R_alloc | apply Kd.R_drewN | apply Kd.R_drew)); exact HO_11.out), (bkA BK1310), (bkA BK1311), (bkA BK1328), GW1328.out, GE1328.out, NB1310_1328.out, NB1328_1310.out, NB1311_1328.out, NB1328_1311.out, blA⟩)
                  rintro gb1328 w47 ⟨hS_, h0_, h1_, h2_, h3_, h4_, h5_, h6_, h7_, h8_, h9_, h10_⟩
                  have n0_ : Aside0 (Kd.R k34 34 w47 w.heap.size (fun k_ => k_ ≠ gb1310 ∧ k_ ≠ gb1328) (.slice (some ad1323) x11_1.length co44) x11_1) := ⟨h0_⟩
                  have n1_ : Aside0 (w47.heap[gb1310]? = some (.cells #[.int .i64 a1_0, .int .i64 a1_1, .int .i64 a1_2] 34 (0, 0))) := ⟨h1_⟩
                  have n2_ : Aside0 (w47.heap[gb1311]? = some (.cells #[.int .i64 a2_0, .int .i64 a2_1] 24 (0, 0))) := ⟨h2_⟩
                  have n3_ : Aside0 (w47.heap[gb1328]? = some (.cells #[.int .i64 0, .int .i64 0, .int .i64 0] 34 (0, 0))) := ⟨h3_⟩
                  have n4_ : Aside0 (w.heap.size ≤ gb1328) := ⟨h4_⟩
                  have n5_ : Aside0 (w.heap.size ≤ gb1328) := ⟨h5_⟩
                  have n6_ : Aside0 (gb1310 ≠ gb1328) := ⟨h6_⟩
                  have n7_ : Aside0 (gb1328 ≠ gb1310) := ⟨h7_⟩
                  have n8_ : Aside0 (gb1311 ≠ gb1328) := ⟨h8_⟩
                  have n9_ : Aside0 (gb1328 ≠ gb1311) := ⟨h9_⟩
                  have n10_ : Aside0 (Below w.heap.size w w47) := ⟨h10_⟩
                  clear HO_11
                  clear BK1310
                  clear BK1311
                  clear HB
                  clear h0_ h1_ h2_ h3_ h4_ h5_ h6_ h7_ h8_ h9_ h10_
                  have HO_11 := n0_
                  have BK1310 := n1_
                  have BK1311 := n2_
                  have BK1328 := n3_
                  have GW1328 := n4_
                  have GE1328 := n5_
                  have NB1310_1328 := n6_
                  have NB1328_1310 := n7_
                  have NB1311_1328 := n8_
                  have NB1328_1311 := n9_
                  have HB := n10_
                  clear n0_ n1_ n2_ n3_ n4_ n5_ n6_ n7_ n8_ n9_ n10_
                  have hHeld : w47.cell? ⟨gb1311, 0, none⟩ = some (.int .i64 a2_0) ∧ w47.cell? ⟨gb1311, 1, none⟩ = some (.int .i64 a2_1) ∧ w47.cell? (ad1323.add (((ji25)).toNat * 3)) = some (.int .i64 ((rd_T34 x11_1 (ji25)).f0)) ∧ w47.cell? ⟨(ad1323.add (((ji25)).toNat * 3)).block, (ad1323.add (((ji25)).toNat * 3)).off + 1, none⟩ = some (.int .i64 ((rd_T34 x11_1 (ji25)).f1)) ∧ w47.cell? ⟨(ad1323.add (((ji25)).toNat * 3)).block, (ad1323.add (((ji25)).toNat * 3)).off + 2, none⟩ = some (.int .i64 ((rd_T34 x11_1 (ji25)).f2)) := hS_
                  refine norm_ (a' := ?_) ?_ ?_
                  rotate_left
                  · simp only [putAll, Act.put, List.setIfInBounds_toArray, List.set_cons_zero, List.set_cons_succ]
                    rfl
                  refine one_ (i := 13) (N := none) #[true, true, true, true, true, true, true, true, true, true, true, true, true, true, false] rfl rfl (one_of HT_.out (by kernel_rfl)) (by decide) (fun K hK => ?_)
                  have hs48 : w47.cell? ⟨gb1328, 0, none⟩ = some (.int .i64 0) := (blk_cell BK1328.out 0).trans rfl
                  have hfs48 := blk_frozen BK1328.out 0
                  have hns48_0 := NB1310_1328.out
                  have hns48_1 := NB1311_1328.out
                  have hms48_0 := NB1328_1310.out
                  have hms48_1 := NB1328_1311.out
                  have hs49 : w47.cell? ⟨gb1328, 1, none⟩ = some (.int .i64 0) := (blk_cell BK1328.out 1).trans rfl
                  have hfs49 := blk_frozen BK1328.out 1
                  have hns49_0 := NB1310_1328.out
                  have hns49_1 := NB1311_1328.out
                  have hms49_0 := NB1328_1310.out
                  have hms49_1 := NB1328_1311.out
                  have hs50 : w47.cell? ⟨gb1328, 2, none⟩ = some (.int .i64 0) := (blk_cell BK1328.out 2).trans rfl
                  have hfs50 := blk_frozen BK1328.out 2
                  have hns50_0 := NB1310_1328.out
                  have hns50_1 := NB1311_1328.out
                  have hms50_0 := NB1328_1310.out
                  have hms50_1 := NB1328_1311.out
                  refine skip_ (w1 := ?_) (by rfl) rfl ?_ ?_
                  rotate_left
                  · go_simp
                    rfl
                  refine hK.out _ _ ⟨((cell_far (p := ⟨gb1328, _, none⟩) NB1311_1328.out _).trans (((cell_far (p := ⟨gb1328, _, none⟩) NB1311_1328.out _).trans (((cell_far (p := ⟨gb1328, _, none⟩) NB1311_1328.out _).trans (hHeld.1)))))), ((cell_far (p := ⟨gb1328, _, none⟩) NB1311_1328.out _).trans (((cell_far (p := ⟨gb1328, _, none⟩) NB1311_1328.out _).trans (((cell_far (p := ⟨gb1328, _, none⟩) NB1311_1328.out _).trans (hHeld.2.1)))))), ((cell_far (p := ⟨gb1328, _, none⟩) (by first | exact Kd.own_blk (Kd.R_away HO_11.out (fun _ hk => hk.2)) | (rw [add_block]; exact Kd.own_blk (Kd.R_away HO_11.out (fun _ hk => hk.2))) | (show (Addr.add _ _).block ≠ _; rw [add_block]; exact Kd.own_blk (Kd.R_away HO_11.out (fun _ hk => hk.2))) | (dsimp only; exact Kd.own_blk (Kd.R_away HO_11.out (fun _ hk => hk.2)))) _).trans (((cell_far (p := ⟨gb1328, _, none⟩) (by first | exact Kd.own_blk (Kd.R_away HO_11.out (fun _ hk => hk.2)) | (rw [add_block]; exact Kd.own_blk (Kd.R_away HO_11.out (fun _ hk => hk.2))) | (show (Addr.add _ _).block ≠ _; rw [add_block]; exact Kd.own_blk (Kd.R_away HO_11.out (fun _ hk => hk.2))) | (dsimp only; exact Kd.own_blk (Kd.R_away HO_11.out (fun _ hk => hk.2)))) _).trans (((cell_far (p := ⟨gb1328, _, none⟩) (by first | exact Kd.own_blk (Kd.R_away HO_11.out (fun _ hk => hk.2)) | (rw [add_block]; exact Kd.own_blk (Kd.R_away HO_11.out (fun _ hk => hk.2))) | (show (Addr.add _ _).block ≠ _; rw [add_block]; exact Kd.own_blk (Kd.R_away HO_11.out (fun _ hk => hk.2))) | (dsimp only; exact Kd.own_blk (Kd.R_away HO_11.out (fun _ hk => hk.2)))) _).trans (hHeld.2.2.1)))))), ((cell_far (p := ⟨gb1328, _, none⟩) (by first | exact Kd.own_blk (Kd.R_away HO_11.out (fun _ hk => hk.2)) | (rw [add_block]; exact Kd.own_blk (Kd.R_away HO_11.out (fun _ hk => hk.2))) | (show (Addr.add _ _).block ≠ _; rw [add_block]; exact Kd.own_blk (Kd.R_away HO_11.out (fun _ hk => hk.2))) | (dsimp only; exact Kd.own_blk (Kd.R_away HO_11.out (fun _ hk => hk.2)))) _).trans (((cell_far (p := ⟨gb1328, _, none⟩) (by first | exact Kd.own_blk (Kd.R_away HO_11.out (fun _ hk => hk.2)) | (rw [add_block]; exact Kd.own_blk (Kd.R_away HO_11.out (fun _ hk => hk.2))) | (show (Addr.add _ _).block ≠ _; rw [add_block]; exact Kd.own_blk (Kd.R_away HO_11.out (fun _ hk => hk.2))) | (dsimp only; exact Kd.own_blk (Kd.R_away HO_11.out (fun _ hk => hk.2)))) _).trans (((cell_far (p := ⟨gb1328, _, none⟩) (by first | exact Kd.own_blk (Kd.R_away HO_11.out (fun _ hk => hk.2)) | (rw [add_block]; exact Kd.own_blk (Kd.R_away HO_11.out (fun _ hk => hk.2))) | (show (Addr.add _ _).block ≠ _; rw [add_block]; exact Kd.own_blk (Kd.R_away HO_11.out (fun _ hk => hk.2))) | (dsimp only; exact Kd.own_blk (Kd.R_away HO_11.out (fun _ hk => hk.2)))) _).trans (hHeld.2.2.2.1)))))), ((cell_far (p := ⟨gb1328, _, none⟩) (by first | exact Kd.own_blk (Kd.R_away HO_11.out (fun _ hk => hk.2)) | (rw [add_block]; exact Kd.own_blk (Kd.R_away HO_11.out (fun _ hk => hk.2))) | (show (Addr.add _ _).block ≠ _; rw [add_block]; exact Kd.own_blk (Kd.R_away HO_11.out (fun _ hk => hk.2))) | (dsimp only; exact Kd.own_blk (Kd.R_away HO_11.out (fun _ hk => hk.2)))) _).trans (((cell_far (p := ⟨gb1328, _, none⟩) (by first | exact Kd.own_blk (Kd.R_away HO_11.out (fun _ hk => hk.2)) | (rw [add_block]; exact Kd.own_blk (Kd.R_away HO_11.out (fun _ hk => hk.2))) | (show (Addr.add _ _).block ≠ _; rw [add_block]; exact Kd.own_blk (Kd.R_away HO_11.out (fun _ hk => hk.2))) | (dsimp only; exact Kd.own_blk (Kd.R_away HO_11.out (fun _ hk => hk.2)))) _).trans (((cell_far (p := ⟨gb1328, _, none⟩) (by first | exact Kd.own_blk (Kd.R_away HO_11.out (fun _ hk => hk.2)) | (rw [add_block]; exact Kd.own_blk (Kd.R_away HO_11.out (fun _ hk => hk.2))) | (show (Addr.add _ _).block ≠ _; rw [add_block]; exact Kd.own_blk (Kd.R_away HO_11.out (fun _ hk => hk.2))) | (dsimp only; exact Kd.own_blk (Kd.R_away HO_11.out (fun _ hk => hk.2)))) _).trans (hHeld.2.2.2.2))))))⟩ (fun hHeld => ?_)
                  clear hK K
                  refine pure_ (i := 14) (N := some 13) (v := ?_) (a' := ?_) #[true, true, true, true, true, true, true, true, true, true, true, true, true, true, true] rfl rfl (any_of HT_.out (by kernel_rfl)) (fun _ _ _ h => h) (Or.inl ⟨by rfl, ?_⟩) ?_ ?_
                  rotate_left
                  · intro w'
                    go_simp
                    with_reducible rfl
                  rotate_left
                  · simp only [Act.put, List.setIfInBounds_toArray, List.set_cons_zero, List.set_cons_succ, i64_w, i32_w]
                    rfl
                  refine done_ (done_of HT_.out (by kernel_rfl)) ?_
                  try go_wp2
                  go_ret2
                  exact ⟨_, by first | rfl | (simp [errW_none, errW_some] <;> rfl) | (simp only [← hji25]; first | rfl | (simp [errW_none, errW_some] <;> rfl)) | (simp [*, errW_none, errW_some] <;> rfl), by first | exact Kd.R_nil _ _ _ _ _ | exact Kd.N_nil _ _ _ _ _ | exact Kd.V_nil _ _ _ _ _ | exact Kd.Q_nil _ _ _ _ _ | exact Kd.S_nil _ _ _ _ _, blA⟩
              · rw [if_neg c27] at H
                exact absurd H (by simp)
            · rw [if_neg c26] at H
              exact absurd H (by simp)
          · rw [if_neg c24] at H
            have c24b0 : decide (0 < x3_1) = false := decide_eq_false c24
            clear c24
            simp only [Option.some.injEq, Prod.mk.injEq] at H
            obtain ⟨rfl, rfl⟩ := H
            go_wp2
            go_ret2
            exact ⟨_, by first | rfl | (simp [errW_none, errW_some] <;> rfl) | (simp [*, errW_none, errW_some] <;> rfl), by (with_reducible repeat (first | apply Kd.R_alloc | apply Kd.R_drewN | apply Kd.R_drew)); exact Kd.R_mono HO_11.out (fun _ hk => trivial), blA⟩
    · replace c8 := Bool.eq_false_iff.mpr c8
      subst c8
      have H1 : (some (([] : List (S34)), 2)) = some (r1, r2) := by rw [if_neg (show ¬ (false = true) by decide)] at H; exact H
      clear H
      have H := H1
      clear H1
      simp only [Option.some.injEq, Prod.mk.injEq] at H
      obtain ⟨rfl, rfl⟩ := H
      go_enter Try.func50, Try.ntmps50
      go_wp2_with (first | ((with_reducible refine gate_dst (N := 5) rfl ?_); refine box_event ?hg (N := 5) ?hd (cs := #[.int .i64 a1_0, .int .i64 a1_1, .int .i64 a1_2]) (t := 34) ?hr ?_; (case hd => rfl); (case hg => rfl); (case hr => first | (go_simp; done) | (go_simp; rfl)); intro gb1310 hg w51 hbox hb; have n0_ := Aside0.mk (below_step blA hb); have n1_ := Aside0.mk (hbox); have n2_ := Aside0.mk (szA hg blA); have n3_ := Aside0.mk (szA hg blA); clear HB; have HB := n0_; have BK1310 := n1_; have GW1310 := n2_; have GE1310 := n3_; clear n0_ n1_ n2_ n3_; clear hb hbox hg) | ((with_reducible refine gate_dst (N := 6) rfl ?_); refine box_event ?hg (N := 6) ?hd (cs := #[.int .i64 a2_0, .int .i64 a2_1]) (t := 24) ?hr ?_; (case hd => rfl); (case hg => rfl); (case hr => first | (go_simp; done) | (go_simp; rfl)); intro gb1311 hg w52 hbox hb; have n0_ := Aside0.mk (blk_below (bkA BK1310) hb); have n1_ := Aside0.mk (below_step blA hb); have n2_ := Aside0.mk (hbox); have n3_ := Aside0.mk (szA hg blA); have n4_ := Aside0.mk (szA hg blA); have n5_ := Aside0.mk (neA hg (bkA BK1310)); have n6_ := Aside0.mk (neB hg (bkA BK1310)); clear BK1310; clear HB; have BK1310 := n0_; have HB := n1_; have BK1311 := n2_; have GW1311 := n3_; have GE1311 := n4_; have NB1310_1311 := n5_; have NB1311_1310 := n6_; clear n0_ n1_ n2_ n3_ n4_ n5_ n6_; clear hb hbox hg; have hnb53 := NB1310_1311.out; have hnc53 := NB1311_1310.out; have hcz54_0 : w52.cell? ⟨gb1310, 0, none⟩ = some (.int .i64 a1_0) := (blk_cell BK1310.out 0).trans rfl; have hcz54_1 : w52.cell? ⟨gb1310, 1, none⟩ = some (.int .i64 a1_1) := (blk_cell BK1310.out 1).trans rfl; have hcz54_2 : w52.cell? ⟨gb1310, 2, none⟩ = some (.int .i64 a1_2) := (blk_cell BK1310.out 2).trans rfl; have hfz54_0 := blk_frozen BK1310.out 0; have hfz54_1 := blk_frozen BK1310.out 1; have hfz54_2 := blk_frozen BK1310.out 2) | ((with_reducible refine gate_dst (N := 16) rfl ?_); refine Kd.R_lit k34 _ 34 ?hg (N := 16) ?hd (xs := ([(⟨a1_0, a1_1, a1_2⟩ : S34)] : List (S34))) (inner := [.int .i64 a1_0, .int .i64 a1_1, .int .i64 a1_2]) (ok := fun _ => True) (okp := fun _ => True) ?hr ?hp (fun _ hk => hk) trivial (Below.refl _ _) (Nat.le_refl _) (by simp) ?_; (case hd => rfl); (case hg => rfl); (case hr => first | (go_simp; done) | (go_simp; rfl)); (case hp => exact (Reps.c3 (show Kd.M k34 _ _ _ (⟨a1_0, a1_1, a1_2⟩ : S34) [.int .i64 a1_0, .int .i64 a1_1, .int .i64 a1_2] from (k34_mkM _ _ _ (⟨a1_0, a1_1, a1_2⟩ : S34) )) (Reps.none _ _))); intro v1313 w55 ho56 hb hg_ hnew_; clear hg_ hnew_; (first | rw [← Ny1312.out] at ho56 | (simp only [Int.reduceToNat] at ho56; rw [← Ny1312.out] at ho56)); have n0_ := Aside0.mk (Kd.R_lower (Kd.R_newB ho56 (bkA BK1310)) (below_size blA)); have n1_ := Aside0.mk (blk_below (bkA BK1310) hb); have n2_ := Aside0.mk (blk_below (bkA BK1311) hb); have n3_ := Aside0.mk (below_step blA hb); clear BK1310; clear BK1311; clear HB; have HO1314 := n0_; have BK1310 := n1_; have BK1311 := n2_; have HB := n3_; clear n0_ n1_ n2_ n3_; clear hb ho56; have hcz57_0 : w55.cell? ⟨gb1311, 0, none⟩ = some (.int .i64 a2_0) := (blk_cell BK1311.out 0).trans rfl; have hcz57_1 : w55.cell? ⟨gb1311, 1, none⟩ = some (.int .i64 a2_1) := (blk_cell BK1311.out 1).trans rfl; have hfz57_0 := blk_frozen BK1311.out 0; have hfz57_1 := blk_frozen BK1311.out 1) | ((with_reducible refine gate_dst (N := 18) rfl ?_); refine Kd.R_lit k24 _ 24 ?hg (N := 18) ?hd (xs := ([(⟨a2_0, a2_1⟩ : S24)] : List (S24))) (inner := [.int .i64 a2_0, .int .i64 a2_1]) (ok := fun _ => True) (okp := fun _ => True) ?hr ?hp (fun _ hk => hk) trivial (Below.refl _ _) (Nat.le_refl _) (by simp) ?_; (case hd => rfl); (case hg => rfl); (case hr => first | (go_simp; done) | (go_simp; rfl)); (case hp => exact (Reps.c2 (show Kd.M k24 _ _ _ (⟨a2_0, a2_1⟩ : S24) [.int .i64 a2_0, .int .i64 a2_1] from (k24_mkM _ _ _ (⟨a2_0, a2_1⟩ : S24) )) (Reps.none _ _))); intro v1316 w58 ho59 hb hg_ hnew_; clear hg_ hnew_; (first | rw [← Ny1315.out] at ho59 | (simp only [Int.reduceToNat] at ho59; rw [← Ny1315.out] at ho59)); have n0_ := Aside0.mk (Kd.R_below (by (with_reducible repeat (first | apply Kd.R_alloc | apply Kd.R_drewN | apply Kd.R_drew)); exact HO1314.out) hb); have n1_ := Aside0.mk (Kd.R_lower (Kd.R_newB ho59 (bkA BK1311)) (below_size blA)); have n2_ := Aside0.mk (blk_below (bkA BK1310) hb); have n3_ := Aside0.mk (blk_below (bkA BK1311) hb); have n4_ := Aside0.mk (below_step blA hb); clear HO1314; clear BK1310; clear BK1311; clear HB; have HO1314 := n0_; have HO1317 := n1_; have BK1310 := n2_; have BK1311 := n3_; have HB := n4_; clear n0_ n1_ n2_ n3_ n4_; clear hb ho59; obtain ⟨Ao60, co60, eo60⟩ := Kd.R_slice HO1314.out; subst eo60; obtain ⟨Ao61, co61, eo61⟩ := Kd.R_slice HO1317.out; subst eo61) | ((with_reducible refine gate_callee (f := 52) rfl ?_); refine goesL_ (some 19) rfl rfl Try.func52 (by kernel_rfl) rfl #[.int .i64 a0, .slice Ao60 y1312.length co60, .slice Ao61 y1315.length co61] rfl (by (try simp only [List.map_toArray, List.map_cons, List.map_nil]); first | done | rfl | (simp only [List.length_drop, List.length_take]; rfl)) ?_; (with_reducible refine (spec_l05Code.calls k a0 _ _ y1312 _ _ y1315 t1318 _ ?side1 ?side2 ?side3 ?side4 A5.out).mono ?_); (case side1 => repeat (first | exact (Kd.R_reads' HO1314.out).2.2 | (with_reducible refine Kd.C_alloc ?_ _) | (with_reducible refine Kd.C_drewN ?_ _) | (with_reducible refine Kd.C_drew ?_))); (case side2 => exact (Kd.R_reads' HO1314.out).2.1); (case side3 => repeat (first | exact (Kd.R_reads' HO1317.out).2.2 | (with_reducible refine Kd.C_alloc ?_ _) | (with_reducible refine Kd.C_drewN ?_ _) | (with_reducible refine Kd.C_drew ?_))); (case side4 => exact (Kd.R_reads' HO1317.out).2.1); rintro e w62 ⟨rfl, hb⟩; refine ⟨_, rfl, ?_⟩; have n0_ := Aside0.mk (Kd.R_below (by (with_reducible repeat (first | apply Kd.R_alloc | apply Kd.R_drewN | apply Kd.R_drew)); exact HO1314.out) hb); have n1_ := Aside0.mk (Kd.R_below (by (with_reducible repeat (first | apply Kd.R_alloc | apply Kd.R_drewN | apply Kd.R_drew)); exact HO1317.out) hb); have n2_ := Aside0.mk (blk_below (bkA BK1310) hb); have n3_ := Aside0.mk (blk_below (bkA BK1311) hb); have n4_ := Aside0.mk (below_step blA hb); clear HO1314; clear HO1317; clear BK1310; clear BK1311; clear HB; have HO1314 := n0_; have HO1317 := n1_; have BK1310 := n2_; have BK1311 := n3_; have HB := n4_; clear n0_ n1_ n2_ n3_ n4_; (try clear hb); (try clear hb2); (try clear hk); (try clear hi)) | ((with_reducible refine gate_callee (f := 74) rfl ?_); refine goesL_ (some 24) rfl rfl Try.func74 (by kernel_rfl) rfl #[.int .i64 a3, .int .i64 0, .int .i64 12] rfl (by (try simp only [List.map_toArray, List.map_cons, List.map_nil]); first | done | rfl | (simp only [List.length_drop, List.length_take]; rfl)) ?_; (with_reducible refine (spec_l01In.calls a3 0 12 false _ A7.out).mono ?_); rintro e w' ⟨rfl, ⟨nd, rfl⟩⟩; refine ⟨_, rfl, ?_⟩))
      go_ret2
      exact ⟨_, by first | rfl | (simp [errW_none, errW_some] <;> rfl) | (simp [*, errW_none, errW_some] <;> rfl), by first | exact Kd.R_nil _ _ _ _ _ | exact Kd.N_nil _ _ _ _ _ | exact Kd.V_nil _ _ _ _ _ | exact Kd.Q_nil _ _ _ _ _ | exact Kd.S_nil _ _ _ _ _, blA⟩
  · rw [if_neg c6] at H
    have c6b0 : (t1318 == 0) = false := beq_eq_false_iff_ne.mpr c6
    have c6b1 : (t1318 != 0) = true := bne_iff_ne.mpr c6
    simp only [Option.some.injEq, Prod.mk.injEq] at H
    obtain ⟨rfl, rfl⟩ := H
    go_enter Try.func50, Try.ntmps50
    go_wp2_with (first | ((with_reducible refine gate_dst (N := 5) rfl ?_); refine box_event ?hg (N := 5) ?hd (cs := #[.int .i64 a1_0, .int .i64 a1_1, .int .i64 a1_2]) (t := 34) ?hr ?_; (case hd => rfl); (case hg => rfl); (case hr => first | (go_simp; done) | (go_simp; rfl)); intro gb1310 hg w63 hbox hb; have n0_ := Aside0.mk (below_step blA hb); have n1_ := Aside0.mk (hbox); have n2_ := Aside0.mk (szA hg blA); have n3_ := Aside0.mk (szA hg blA); clear HB; have HB := n0_; have BK1310 := n1_; have GW1310 := n2_; have GE1310 := n3_; clear n0_ n1_ n2_ n3_; clear hb hbox hg) | ((with_reducible refine gate_dst (N := 6) rfl ?_); refine box_event ?hg (N := 6) ?hd (cs := #[.int .i64 a2_0, .int .i64 a2_1]) (t := 24) ?hr ?_; (case hd => rfl); (case hg => rfl); (case hr => first | (go_simp; done) | (go_simp; rfl)); intro gb1311 hg w64 hbox hb; have n0_ := Aside0.mk (blk_below (bkA BK1310) hb); have n1_ := Aside0.mk (below_step blA hb); have n2_ := Aside0.mk (hbox); have n3_ := Aside0.mk (szA hg blA); have n4_ := Aside0.mk (szA hg blA); have n5_ := Aside0.mk (neA hg (bkA BK1310)); have n6_ := Aside0.mk (neB hg (bkA BK1310)); clear BK1310; clear HB; have BK1310 := n0_; have HB := n1_; have BK1311 := n2_; have GW1311 := n3_; have GE1311 := n4_; have NB1310_1311 := n5_; have NB1311_1310 := n6_; clear n0_ n1_ n2_ n3_ n4_ n5_ n6_; clear hb hbox hg; have hnb65 := NB1310_1311.out; have hnc65 := NB1311_1310.out; have hcz66_0 : w64.cell? ⟨gb1310, 0, none⟩ = some (.int .i64 a1_0) := (blk_cell BK1310.out 0).trans rfl; have hcz66_1 : w64.cell? ⟨gb1310, 1, none⟩ = some (.int .i64 a1_1) := (blk_cell BK1310.out 1).trans rfl; have hcz66_2 : w64.cell? ⟨gb1310, 2, none⟩ = some (.int .i64 a1_2) := (blk_cell BK1310.out 2).trans rfl; have hfz66_0 := blk_frozen BK1310.out 0; have hfz66_1 := blk_frozen BK1310.out 1; have hfz66_2 := blk_frozen BK1310.out 2) | ((with_reducible refine gate_dst (N := 16) rfl ?_); refine Kd.R_lit k34 _ 34 ?hg (N := 16) ?hd (xs := ([(⟨a1_0, a1_1, a1_2⟩ : S34)] : List (S34))) (inner := [.int .i64 a1_0, .int .i64 a1_1, .int .i64 a1_2]) (ok := fun _ => True) (okp := fun _ => True) ?hr ?hp (fun _ hk => hk) trivial (Below.refl _ _) (Nat.le_refl _) (by simp) ?_; (case hd => rfl); (case hg => rfl); (case hr => first | (go_simp; done) | (go_simp; rfl)); (case hp => exact (Reps.c3 (show Kd.M k34 _ _ _ (⟨a1_0, a1_1, a1_2⟩ : S34) [.int .i64 a1_0, .int .i64 a1_1, .int .i64 a1_2] from (k34_mkM _ _ _ (⟨a1_0, a1_1, a1_2⟩ : S34) )) (Reps.none _ _))); intro v1313 w67 ho68 hb hg_ hnew_; clear hg_ hnew_; (first | rw [← Ny1312.out] at ho68 | (simp only [Int.reduceToNat] at ho68; rw [← Ny1312.out] at ho68)); have n0_ := Aside0.mk (Kd.R_lower (Kd.R_newB ho68 (bkA BK1310)) (below_size blA)); have n1_ := Aside0.mk (blk_below (bkA BK1310) hb); have n2_ := Aside0.mk (blk_below (bkA BK1311) hb); have n3_ := Aside0.mk (below_step blA hb); clear BK1310; clear BK1311; clear HB; have HO1314 := n0_; have BK1310 := n1_; have BK1311 := n2_; have HB := n3_; clear n0_ n1_ n2_ n3_; clear hb ho68; have hcz69_0 : w67.cell? ⟨gb1311, 0, none⟩ = some (.int .i64 a2_0) := (blk_cell BK1311.out 0).trans rfl; have hcz69_1 : w67.cell? ⟨gb1311, 1, none⟩ = some (.int .i64 a2_1) := (blk_cell BK1311.out 1).trans rfl; have hfz69_0 := blk_frozen BK1311.out 0; have hfz69_1 := blk_frozen BK1311.out 1) | ((with_reducible refine gate_dst (N := 18) rfl ?_); refine Kd.R_lit k24 _ 24 ?hg (N := 18) ?hd (xs := ([(⟨a2_0, a2_1⟩ : S24)] : List (S24))) (inner := [.int .i64 a2_0, .int .i64 a2_1]) (ok := fun _ => True) (okp := fun _ => True) ?hr ?hp (fun _ hk => hk) trivial (Below.refl _ _) (Nat.le_refl _) (by simp) ?_; (case hd => rfl); (case hg => rfl); (case hr => first | (go_simp; done) | (go_simp; rfl)); (case hp => exact (Reps.c2 (show Kd.M k24 _ _ _ (⟨a2_0, a2_1⟩ : S24) [.int .i64 a2_0, .int .i64 a2_1] from (k24_mkM _ _ _ (⟨a2_0, a2_1⟩ : S24) )) (Reps.none _ _))); intro v1316 w70 ho71 hb hg_ hnew_; clear hg_ hnew_; (first | rw [← Ny1315.out] at ho71 | (simp only [Int.reduceToNat] at ho71; rw [← Ny1315.out] at ho71)); have n0_ := Aside0.mk (Kd.R_below (by (with_reducible repeat (first | apply Kd.R_alloc | apply Kd.R_drewN | apply Kd.R_drew)); exact HO1314.out) hb); have n1_ := Aside0.mk (Kd.R_lower (Kd.R_newB ho71 (bkA BK1311)) (below_size blA)); have n2_ := Aside0.mk (blk_below (bkA BK1310) hb); have n3_ := Aside0.mk (blk_below (bkA BK1311) hb); have n4_ := Aside0.mk (below_step blA hb); clear HO1314; clear BK1310; clear BK1311; clear HB; have HO1314 := n0_; have HO1317 := n1_; have BK1310 := n2_; have BK1311 := n3_; have HB := n4_; clear n0_ n1_ n2_ n3_ n4_; clear hb ho71; obtain ⟨Ao72, co72, eo72⟩ := Kd.R_slice HO1314.out; subst eo72; obtain ⟨Ao73, co73, eo73⟩ := Kd.R_slice HO1317.out; subst eo73) | ((with_reducible refine gate_callee (f := 52) rfl ?_); refine goesL_ (some 19) rfl rfl Try.func52 (by kernel_rfl) rfl #[.int .i64 a0, .slice Ao72 y1312.length co72, .slice Ao73 y1315.length co73] rfl (by (try simp only [List.map_toArray, List.map_cons, List.map_nil]); first | done | rfl | (simp only [List.length_drop, List.length_take]; rfl)) ?_; (with_reducible refine (spec_l05Code.calls k a0 _ _ y1312 _ _ y1315 t1318 _ ?side1 ?side2 ?side3 ?side4 A5.out).mono ?_); (case side1 => repeat (first | exact (Kd.R_reads' HO1314.out).2.2 | (with_reducible refine Kd.C_alloc ?_ _) | (with_reducible refine Kd.C_drewN ?_ _) | (with_reducible refine Kd.C_drew ?_))); (case side2 => exact (Kd.R_reads' HO1314.out).2.1); (case side3 => repeat (first | exact (Kd.R_reads' HO1317.out).2.2 | (with_reducible refine Kd.C_alloc ?_ _) | (with_reducible refine Kd.C_drewN ?_ _) | (with_reducible refine Kd.C_drew ?_))); (case side4 => exact (Kd.R_reads' HO1317.out).2.1); rintro e w74 ⟨rfl, hb⟩; refine ⟨_, rfl, ?_⟩; have n0_ := Aside0.mk (Kd.R_below (by (with_reducible repeat (first | apply Kd.R_alloc | apply Kd.R_drewN | apply Kd.R_drew)); exact HO1314.out) hb); have n1_ := Aside0.mk (Kd.R_below (by (with_reducible repeat (first | apply Kd.R_alloc | apply Kd.R_drewN | apply Kd.R_drew)); exact HO1317.out) hb); have n2_ := Aside0.mk (blk_below (bkA BK1310) hb); have n3_ := Aside0.mk (blk_below (bkA BK1311) hb); have n4_ := Aside0.mk (below_step blA hb); clear HO1314; clear HO1317; clear BK1310; clear BK1311; clear HB; have HO1314 := n0_; have HO1317 := n1_; have BK1310 := n2_; have BK1311 := n3_; have HB := n4_; clear n0_ n1_ n2_ n3_ n4_; (try clear hb); (try clear hb2); (try clear hk); (try clear hi)))
    go_ret2
    exact ⟨_, by first | rfl | (simp [errW_none, errW_some] <;> rfl) | (simp [*, errW_none, errW_some] <;> rfl), by first | exact Kd.R_nil _ _ _ _ _ | exact Kd.N_nil _ _ _ _ _ | exact Kd.V_nil _ _ _ _ _ | exact Kd.Q_nil _ _ _ _ _ | exact Kd.S_nil _ _ _ _ _, blA⟩
end Go.Proofs.Ytfkglijnbgijbaa.PAll
