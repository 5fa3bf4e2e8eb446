-- turned for this claim out of the kit's print: the same functions, packed anew
import Derived.Test.YtmhajnfdbjnegaaQx
import Derived.Test.YtmhajnfdbjnegaaQLtoMatrixS
import Derived.Test.YtmhajnfdbjnegaaQimpltimes
import Derived.Test.YtmhajnfdbjnegaaQspecl01Code
namespace Go.Proofs.Ytmhajnfdbjnegaa.PAll
open Go.RowKit Go.Proofs.YtmhajnfdbjnegaaW.PrintWords Go.Proofs.YtmhajnfdbjnegaaW.PrintLast Go.Proofs.YtmhajnfdbjnegaaW.PrintMore
attribute [local go_sem] Go.Proofs.Ytmhajnfdbjnegaa.Aux.setCell_drewN Go.Proofs.Ytmhajnfdbjnegaa.Aux.isSome_setCell max2_int min2_int max_two min_two max_three min_three max_four min_four   -- for this text's walks alone
set_option linter.unusedVariables false
set_option linter.unusedSimpArgs false
attribute [local go_sem high] eqA55
/-! ### spec_StabiliserIn: function 46 -/
def spec_StabiliserIn.l0 : Nat → Int → List (S25) → List Int → Int → Int → Int → Int → Option (List Int × Int)
  | 0, _, _, _, _, _, _, _ => none
  | k + 1, x0, x1, x9, x10, x788000, x788001, x788002 => if x10 < (x1.length : Int) then (if 0 ≤ x10 then ((spec_l04Move.f k x0 ((rd_T25 x1 x10).f0.f0) ((rd_T25 x1 x10).f0.f1) ((rd_T25 x1 x10).f1.f0) ((rd_T25 x1 x10).f1.f1) x788000 x788001 x788002).bind fun bt803 => (if bt803.2.2.2 = true then (if (bt803.1 == x788000 && (bt803.2.1 == x788001 && (bt803.2.2.1 == x788002))) = true then (if x9.length < 17592186044416 then (spec_StabiliserIn.l0 k x0 x1 (x9 ++ [x10]) (wrap64 (x10 + 1)) x788000 x788001 x788002) else (none)) else (spec_StabiliserIn.l0 k x0 x1 x9 (wrap64 (x10 + 1)) x788000 x788001 x788002)) else (spec_StabiliserIn.l0 k x0 x1 x9 (wrap64 (x10 + 1)) x788000 x788001 x788002))) else (none)) else (some (x9, 0))
def spec_StabiliserIn.f (k : Nat) (a0 : Int) (l1 : List (S25)) (a2_0 : Int) (a2_1 : Int) (a2_2 : Int) : Option (List Int × Int) := (spec_l01Code.f k a0 (([(⟨a2_0, a2_1, a2_2⟩ : S55)] : List (S55)))).bind fun t791 => (if t791 = 0 then ((some (([(⟨(⟨1, 0⟩ : S22), (⟨0, 1⟩ : S22)⟩ : S25)] : List (S25)) : List (S25))).bind fun y792 => (if y792.length + l1.length < 4398046511104 then ((spec_l06Movers.f k (y792 ++ l1) 49).bind fun t798 => (if t798 = 0 then (spec_StabiliserIn.l0 k a0 l1 (([] : List Int)) 0 a2_0 a2_1 a2_2) else (some (([] : List Int), t798)))) else (none))) else (some (([] : List Int), 1)))
theorem spec_StabiliserIn.mono_l : ∀ k, (∀ y0 y1 y2 y3 y4 y5 y6, LeO (spec_StabiliserIn.l0 k y0 y1 y2 y3 y4 y5 y6) (spec_StabiliserIn.l0 (k + 1) y0 y1 y2 y3 y4 y5 y6))
  | 0 => fun _ _ _ _ _ _ _ r h => by simp [spec_StabiliserIn.l0] at h
  | k + 1 => by
    have ih0 := spec_StabiliserIn.mono_l k
    · intro y0 y1 y2 y3 y4 y5 y6
      unfold spec_StabiliserIn.l0
      repeat' first
      | (with_reducible exact ih0 _ _ _ _ _ _ _)
      | (with_reducible exact spec_l01Code.mono _ _ _)
      | (with_reducible exact spec_l04Move.mono _ _ _ _ _ _ _ _ _)
      | (with_reducible exact spec_l06Movers.mono _ _ _)
      | (with_reducible exact LeO.refl _)
      | (with_reducible exact LeO.none _)
      | (with_reducible refine LeO.ite ?_ ?_)
      | (with_reducible refine LeO.bind ?_ (fun _ => ?_))
      | exact ih0 _ _ _ _ _ _ _
      | exact spec_l01Code.mono _ _ _
      | exact spec_l04Move.mono _ _ _ _ _ _ _ _ _
      | exact spec_l06Movers.mono _ _ _
      | exact LeO.none _
      | refine LeO.ite ?_ ?_
      | refine LeO.bind ?_ (fun _ => ?_)
theorem spec_StabiliserIn.mono : ∀ a0 a1 a2 a3 a4 k, LeO (spec_StabiliserIn.f k a0 a1 a2 a3 a4) (spec_StabiliserIn.f (k + 1) a0 a1 a2 a3 a4) := by
  intro a0 a1 a2 a3 a4 k
  have ih0 := spec_StabiliserIn.mono_l k
  unfold spec_StabiliserIn.f
  repeat' first
      | (with_reducible exact ih0 _ _ _ _ _ _ _)
      | (with_reducible exact spec_l01Code.mono _ _ _)
      | (with_reducible exact spec_l04Move.mono _ _ _ _ _ _ _ _ _)
      | (with_reducible exact spec_l06Movers.mono _ _ _)
      | (with_reducible exact LeO.refl _)
      | (with_reducible exact LeO.none _)
      | (with_reducible refine LeO.ite ?_ ?_)
      | (with_reducible refine LeO.bind ?_ (fun _ => ?_))
      | exact ih0 _ _ _ _ _ _ _
      | exact spec_l01Code.mono _ _ _
      | exact spec_l04Move.mono _ _ _ _ _ _ _ _ _
      | exact spec_l06Movers.mono _ _ _
      | exact LeO.none _
      | refine LeO.ite ?_ ?_
      | refine LeO.bind ?_ (fun _ => ?_)
def spec_StabiliserIn.T10 : Bool × List (List Nat × List Nat) := (true, [([], []), ([], []), ([], []), ([1, 2], [1, 2]), ([3], [3]), ([], []), ([0, 4, 5], [0, 4, 5]), ([6], [6]), ([7], [7]), ([7], [7]), ([], []), ([10, 8, 6, 0, 1, 2, 3, 4, 5, 6, 7, 8, 10], [8, 10]), ([9, 11, 0, 1, 2, 3, 4, 5, 6, 7, 8, 9, 10, 11], [9])])
def spec_StabiliserIn.B10 : List Nat := [0, 0, 0, 6, 14, 0, 63, 127, 255, 255, 0, 1535, 4095]
theorem spec_StabiliserIn.tab10 : rtab .any (opsOf Try.f46 10) = spec_StabiliserIn.T10 := by kernel_rfl
theorem spec_StabiliserIn.bits10 : waitsOk spec_StabiliserIn.T10.2 spec_StabiliserIn.B10 = true := by kernel_rfl
set_option maxHeartbeats 8000000 in
set_option maxRecDepth 100000 in
theorem spec_StabiliserIn.calls (k : Nat) (a0 : Int) (A1 : Option Addr) (c1 : Nat) (l1 : List (S25)) (a2_0 : Int) (a2_1 : Int) (a2_2 : Int) (r1 : List Int) (r2 : Int) (w : World) (hr1 : Kd.C k25 w A1 l1.length l1) (hc1 : l1.length ≤ c1) (h : spec_StabiliserIn.f k a0 l1 a2_0 a2_1 a2_2 = some (r1, r2)) :
    Calls Try.prog 46 #[.int .i64 a0, .slice A1 l1.length c1, .agg #[.int .i64 a2_0, .int .i64 a2_1, .int .i64 a2_2]] w fun e w' => ∃ v0_ : Value, e = .returned (.tuple #[v0_, .int .i64 r2]) ∧ Kd.R (Kd.int .i64) 2 w' w.heap.size (fun _ => True) v0_ r1 ∧ Below w.heap.size w w' := by
  have hu55 := Try.underlying55
  have hu22 := Try.underlying22
  have hu25 := Try.underlying25
  have HR1 := Aside0.mk hr1
  have HC1 := Aside0.mk hc1
  clear hr1 hc1
  have HB := Aside0.mk (Below.refl w.heap.size w)
  have H : ((spec_l01Code.f k a0 (([(⟨a2_0, a2_1, a2_2⟩ : S55)] : List (S55)))).bind fun t791 => (if t791 = 0 then ((some (([(⟨(⟨1, 0⟩ : S22), (⟨0, 1⟩ : S22)⟩ : S25)] : List (S25)) : List (S25))).bind fun y792 => (if y792.length + l1.length < 4398046511104 then ((spec_l06Movers.f k (y792 ++ l1) 49).bind fun t798 => (if t798 = 0 then (spec_StabiliserIn.l0 k a0 l1 (([] : List Int)) 0 a2_0 a2_1 a2_2) else (some (([] : List Int), t798)))) else (none))) else (some (([] : List Int), 1)))) = some (r1, r2) := h
  clear h
  obtain ⟨y788, hy788⟩ : ∃ y_ : List (S55), y_ = (([(⟨a2_0, a2_1, a2_2⟩ : S55)] : List (S55))) := ⟨_, rfl⟩
  replace H : ((spec_l01Code.f k a0 y788).bind fun t791 => (if t791 = 0 then ((some (([(⟨(⟨1, 0⟩ : S22), (⟨0, 1⟩ : S22)⟩ : S25)] : List (S25)) : List (S25))).bind fun y792 => (if y792.length + l1.length < 4398046511104 then ((spec_l06Movers.f k (y792 ++ l1) 49).bind fun t798 => (if t798 = 0 then (spec_StabiliserIn.l0 k a0 l1 (([] : List Int)) 0 a2_0 a2_1 a2_2) else (some (([] : List Int), t798)))) else (none))) else (some (([] : List Int), 1)))) = some (r1, r2) := by first | (rw [hy788]; with_reducible exact H) | (have H2_ := (Option.bind_some _ _).symm.trans H; rw [hy788]; with_reducible exact H2_) | (have H2_ := (Option.bind_some _ _).symm.trans H; with_reducible exact H2_) | with_reducible exact H | (rw [hy788]; exact H) | exact H
  have Ny788 := Aside0.mk hy788
  clear hy788
  replace H := Option.bind_eq_some_iff.mp H
  obtain ⟨t791, A40, H⟩ := H
  replace H : (if t791 = 0 then ((some (([(⟨(⟨1, 0⟩ : S22), (⟨0, 1⟩ : S22)⟩ : S25)] : List (S25)) : List (S25))).bind fun y792 => (if y792.length + l1.length < 4398046511104 then ((spec_l06Movers.f k (y792 ++ l1) 49).bind fun t798 => (if t798 = 0 then (spec_StabiliserIn.l0 k a0 l1 (([] : List Int)) 0 a2_0 a2_1 a2_2) else (some (([] : List Int), t798)))) else (none))) else (some (([] : List Int), 1))) = some (r1, r2) := H
  have A4 := Aside0.mk A40
  clear A40
  by_cases c5 : t791 = 0
  · rw [if_pos c5] at H
    have c5b0 : (t791 == 0) = true := beq_iff_eq.mpr c5
    have c5b1 : (t791 != 0) = false := bne_eq_false_iff_eq.mpr c5
    clear c5
    obtain ⟨y792, hy792⟩ : ∃ y_ : List (S25), y_ = (([(⟨(⟨1, 0⟩ : S22), (⟨0, 1⟩ : S22)⟩ : S25)] : List (S25))) := ⟨_, rfl⟩
    replace H : (if y792.length + l1.length < 4398046511104 then ((spec_l06Movers.f k (y792 ++ l1) 49).bind fun t798 => (if t798 = 0 then (spec_StabiliserIn.l0 k a0 l1 (([] : List Int)) 0 a2_0 a2_1 a2_2) else (some (([] : List Int), t798)))) else (none)) = some (r1, r2) := by first | (rw [hy792]; with_reducible exact H) | (have H2_ := (Option.bind_some _ _).symm.trans H; rw [hy792]; with_reducible exact H2_) | (have H2_ := (Option.bind_some _ _).symm.trans H; with_reducible exact H2_) | with_reducible exact H | (rw [hy792]; exact H) | exact H
    have Ny792 := Aside0.mk hy792
    clear hy792
    by_cases c6 : y792.length + l1.length < 4398046511104
    · rw [if_pos c6] at H
      have LMc6 := Aside0.mk c6
      clear c6
      obtain ⟨y795, hy795⟩ : ∃ y_ : List (S25), y_ = (y792 ++ l1) := ⟨_, rfl⟩
      replace H : ((spec_l06Movers.f k y795 49).bind fun t798 => (if t798 = 0 then (spec_StabiliserIn.l0 k a0 l1 (([] : List Int)) 0 a2_0 a2_1 a2_2) else (some (([] : List Int), t798)))) = some (r1, r2) := by first | (rw [hy795]; with_reducible exact H) | (have H2_ := (Option.bind_some _ _).symm.trans H; rw [hy795]; with_reducible exact H2_) | (have H2_ := (Option.bind_some _ _).symm.trans H; with_reducible exact H2_) | with_reducible exact H | (rw [hy795]; exact H) | exact H
      have Ny795 := Aside0.mk hy795
      clear hy795
      replace H := Option.bind_eq_some_iff.mp H
      obtain ⟨t798, A70, H⟩ := H
      replace H : (if t798 = 0 then (spec_StabiliserIn.l0 k a0 l1 (([] : List Int)) 0 a2_0 a2_1 a2_2) else (some (([] : List Int), t798))) = some (r1, r2) := H
      have A7 := Aside0.mk A70
      clear A70
      by_cases c8 : t798 = 0
      · rw [if_pos c8] at H
        have c8b0 : (t798 == 0) = true := beq_iff_eq.mpr c8
        have c8b1 : (t798 != 0) = false := bne_eq_false_iff_eq.mpr c8
        clear c8
        obtain ⟨y799, hy799⟩ : ∃ y_ : List Int, y_ = (([] : List Int)) := ⟨_, rfl⟩
        replace H : (spec_StabiliserIn.l0 k a0 l1 y799 0 a2_0 a2_1 a2_2) = some (r1, r2) := by first | (rw [hy799]; with_reducible exact H) | (have H2_ := (Option.bind_some _ _).symm.trans H; rw [hy799]; with_reducible exact H2_) | (have H2_ := (Option.bind_some _ _).symm.trans H; with_reducible exact H2_) | with_reducible exact H | (rw [hy799]; exact H) | exact H
        have Ny799 := Aside0.mk hy799
        clear hy799
        have H' := Aside0.mk H
        clear H
        go_enter Try.func46, Try.ntmps46
        go_wp2_with (first | ((with_reducible refine gate_dst (N := 5) rfl ?_); refine box_event ?hg (N := 5) ?hd (cs := #[.int .i64 a2_0, .int .i64 a2_1, .int .i64 a2_2]) (t := 55) ?hr ?_; (case hd => rfl); (case hg => rfl); (case hr => first | (go_simp; done) | (go_simp; rfl)); intro gb787 hg w9 hbox hb; have n0_ := Aside0.mk (below_step blA hb); have n1_ := Aside0.mk (hbox); have n2_ := Aside0.mk (szA hg blA); have n3_ := Aside0.mk (szA hg blA); clear HB; have HB := n0_; have BK787 := n1_; have GW787 := n2_; have GE787 := n3_; clear n0_ n1_ n2_ n3_; clear hb hbox hg; have hcz10_0 : w9.cell? ⟨gb787, 0, none⟩ = some (.int .i64 a2_0) := (blk_cell BK787.out 0).trans rfl; have hcz10_1 : w9.cell? ⟨gb787, 1, none⟩ = some (.int .i64 a2_1) := (blk_cell BK787.out 1).trans rfl; have hcz10_2 : w9.cell? ⟨gb787, 2, none⟩ = some (.int .i64 a2_2) := (blk_cell BK787.out 2).trans rfl; have hfz10_0 := blk_frozen BK787.out 0; have hfz10_1 := blk_frozen BK787.out 1; have hfz10_2 := blk_frozen BK787.out 2) | ((with_reducible refine gate_dst (N := 15) rfl ?_); refine Kd.R_lit k55 _ 55 ?hg (N := 15) ?hd (xs := ([(⟨a2_0, a2_1, a2_2⟩ : S55)] : List (S55))) (inner := [.int .i64 a2_0, .int .i64 a2_1, .int .i64 a2_2]) (ok := fun _ => True) (okp := fun _ => True) ?hr ?hp (fun _ hk => hk) trivial (Below.refl _ _) (Nat.le_refl _) (by simp) ?_; (case hd => rfl); (case hg => rfl); (case hr => first | (go_simp; done) | (go_simp; rfl)); (case hp => exact (Reps.c3 (show Kd.M k55 _ _ _ (⟨a2_0, a2_1, a2_2⟩ : S55) [.int .i64 a2_0, .int .i64 a2_1, .int .i64 a2_2] from (k55_mkM _ _ _ (⟨a2_0, a2_1, a2_2⟩ : S55) )) (Reps.none _ _))); intro v789 w11 ho12 hb hg_ hnew_; clear hg_ hnew_; (first | rw [← Ny788.out] at ho12 | (simp only [Int.reduceToNat] at ho12; rw [← Ny788.out] at ho12)); have n0_ := Aside0.mk (Kd.R_lower (Kd.R_newB ho12 (bkA BK787)) (below_size blA)); have n1_ := Aside0.mk (blk_below (bkA BK787) hb); have n2_ := Aside0.mk (below_step blA hb); clear BK787; clear HB; have HO790 := n0_; have BK787 := n1_; have HB := n2_; clear n0_ n1_ n2_; clear hb ho12; obtain ⟨Ao13, co13, eo13⟩ := Kd.R_slice HO790.out; subst eo13) | ((with_reducible refine gate_callee (f := 83) rfl ?_); refine goesL_ (some 16) rfl rfl Try.func83 (by kernel_rfl) rfl #[.int .i64 a0, .slice Ao13 y788.length co13] rfl (by (try simp only [List.map_toArray, List.map_cons, List.map_nil]); first | done | rfl | (simp only [List.length_drop, List.length_take]; rfl)) ?_; (with_reducible refine (spec_l01Code.calls k a0 _ _ y788 t791 _ ?side1 ?side2 A4.out).mono ?_); (case side1 => repeat (first | exact (Kd.R_reads' HO790.out).2.2 | (with_reducible refine Kd.C_alloc ?_ _) | (with_reducible refine Kd.C_drewN ?_ _) | (with_reducible refine Kd.C_drew ?_))); (case side2 => exact (Kd.R_reads' HO790.out).2.1); rintro e w14 ⟨rfl, hb⟩; refine ⟨_, rfl, ?_⟩; have n0_ := Aside0.mk (Kd.R_below (by (with_reducible repeat (first | apply Kd.R_alloc | apply Kd.R_drewN | apply Kd.R_drew)); exact HO790.out) hb); have n1_ := Aside0.mk (blk_below (bkA BK787) hb); have n2_ := Aside0.mk (below_step blA hb); clear HO790; clear BK787; clear HB; have HO790 := n0_; have BK787 := n1_; have HB := n2_; clear n0_ n1_ n2_; (try clear hb); (try clear hb2); (try clear hk); (try clear hi)) | ((with_reducible refine gate_dst (N := 21) rfl ?_); refine Kd.R_lit k25 _ 25 ?hg (N := 21) ?hd (xs := ([(⟨(⟨1, 0⟩ : S22), (⟨0, 1⟩ : S22)⟩ : S25)] : List (S25))) (inner := [.int .i64 1, .int .i64 0, .int .i64 0, .int .i64 1]) (ok := fun _ => True) (okp := fun _ => True) ?hr ?hp (fun _ hk => hk) trivial (Below.refl _ _) (Nat.le_refl _) (by simp) ?_; (case hd => rfl); (case hg => rfl); (case hr => first | (go_simp; done) | (go_simp; rfl)); (case hp => exact (Reps.c4 (show Kd.M k25 _ _ _ (⟨(⟨1, 0⟩ : S22), (⟨0, 1⟩ : S22)⟩ : S25) [.int .i64 1, .int .i64 0, .int .i64 0, .int .i64 1] from (k25_mkM _ _ _ (⟨(⟨1, 0⟩ : S22), (⟨0, 1⟩ : S22)⟩ : S25) )) (Reps.none _ _))); intro v793 w15 ho16 hb hg_ hnew_; clear hg_ hnew_; (first | rw [← Ny792.out] at ho16 | (simp only [Int.reduceToNat] at ho16; rw [← Ny792.out] at ho16)); have n0_ := Aside0.mk (Kd.R_below (by (with_reducible repeat (first | apply Kd.R_alloc | apply Kd.R_drewN | apply Kd.R_drew)); exact HO790.out) hb); have n1_ := Aside0.mk (Kd.R_lower ho16 (below_size blA)); have n2_ := Aside0.mk (blk_below (bkA BK787) hb); have n3_ := Aside0.mk (below_step blA hb); clear HO790; clear BK787; clear HB; have HO790 := n0_; have HO794 := n1_; have BK787 := n2_; have HB := n3_; clear n0_ n1_ n2_ n3_; clear hb ho16) | ((with_reducible refine gate_builtin (b := .append) (xs := #[.tmp 21, .tmp 22]) rfl ?_); at_builtin; refine Kd.R_append_rows k25 (w0 := w) w.heap.size rfl (.tmp 21) (.tmp 22) 49 25 (.agg #[(.int .i64 0), (.int .i64 0), (.int .i64 0), (.int .i64 0)]) 32 rfl Try.underlying49 info25 rfl (by decide) (by omega) v793 y792 l1 _ _ _ (fun _ => True) (fun _ => False) rfl rfl ?aO ?aR (fun _ _ h => h) (fun _ h => h.elim) ?aF ?aB ?aS ?aL ?_; (case aR => repeat (first | exact (Kd.C_below HR1.out HB.out) | (with_reducible refine Kd.C_alloc ?_ _) | (with_reducible refine Kd.C_drewN ?_ _) | (with_reducible refine Kd.C_drew ?_))); (case aB => exact blA); (case aF => exact (fun _ _ => trivial)); (case aO => exact (by (with_reducible repeat (first | apply Kd.R_alloc | apply Kd.R_drewN | apply Kd.R_drew)); exact HO794.out)); (case aS => exact (below_size blA)); (case aL => have := LMc6.out; omega); intro v796 w17 ho hb hg hat; rw [← Ny795.out] at ho; have n0_ := Aside0.mk (blk_grown (bkA BK787) hg (Kd.R_ne HO794.out BK787.out (by decide))); have n1_ := Aside0.mk (Kd.R_over' (by (with_reducible repeat (first | apply Kd.R_alloc | apply Kd.R_drewN | apply Kd.R_drew)); exact HO790.out) (Kd.R_typed (by (with_reducible repeat (first | apply Kd.R_alloc | apply Kd.R_drewN | apply Kd.R_drew)); exact HO794.out)) (by decide) hg); have n2_ := Aside0.mk (hb); have n3_ := Aside0.mk (ho); clear BK787; clear HO790; clear HB; clear HO794; have BK787 := n0_; have HO790 := n1_; have HB := n2_; have HO797 := n3_; clear n0_ n1_ n2_ n3_; clear ho hb hg hat; obtain ⟨Ao18, co18, eo18⟩ := Kd.R_slice HO797.out; subst eo18) | ((with_reducible refine gate_callee (f := 74) rfl ?_); refine goesL_ (some 24) rfl rfl Try.func74 (by kernel_rfl) rfl #[.slice Ao18 y795.length co18, .int .i64 49] rfl (by (try simp only [List.map_toArray, List.map_cons, List.map_nil]); first | done | rfl | (simp only [List.length_drop, List.length_take]; rfl)) ?_; (with_reducible refine (spec_l06Movers.calls k _ _ y795 49 t798 _ ?side1 ?side2 A7.out).mono ?_); (case side1 => repeat (first | exact (Kd.R_reads' HO797.out).2.2 | (with_reducible refine Kd.C_alloc ?_ _) | (with_reducible refine Kd.C_drewN ?_ _) | (with_reducible refine Kd.C_drew ?_))); (case side2 => exact (Kd.R_reads' HO797.out).2.1); rintro e w19 ⟨rfl, hb⟩; refine ⟨_, rfl, ?_⟩; have n0_ := Aside0.mk (Kd.R_below (by (with_reducible repeat (first | apply Kd.R_alloc | apply Kd.R_drewN | apply Kd.R_drew)); exact HO790.out) hb); have n1_ := Aside0.mk (Kd.R_below (by (with_reducible repeat (first | apply Kd.R_alloc | apply Kd.R_drewN | apply Kd.R_drew)); exact HO797.out) hb); have n2_ := Aside0.mk (blk_below (bkA BK787) hb); have n3_ := Aside0.mk (below_step blA hb); clear HO790; clear HO797; clear BK787; clear HB; have HO790 := n0_; have HO797 := n1_; have BK787 := n2_; have HB := n3_; clear n0_ n1_ n2_ n3_; (try clear hb); (try clear hb2); (try clear hk); (try clear hi)) | ((with_reducible refine gate_dst (N := 28) rfl ?_); refine Kd.R_lit (Kd.int .i64) _ 2 ?hg (N := 28) ?hd (xs := ([] : List Int)) (inner := []) (ok := fun _ => True) (okp := fun _ => True) ?hr ?hp (fun _ hk => hk) trivial (Below.refl _ _) (Nat.le_refl _) (by simp) ?_; (case hd => rfl); (case hg => rfl); (case hr => first | (go_simp; done) | (go_simp; rfl)); (case hp => exact (Reps.none _ _)); intro v800 w20 ho21 hb hg_ hnew_; clear hg_ hnew_; (first | rw [← Ny799.out] at ho21 | (simp only [Int.reduceToNat] at ho21; rw [← Ny799.out] at ho21)); have n0_ := Aside0.mk (Kd.R_below (by (with_reducible repeat (first | apply Kd.R_alloc | apply Kd.R_drewN | apply Kd.R_drew)); exact HO790.out) hb); have n1_ := Aside0.mk (Kd.R_below (by (with_reducible repeat (first | apply Kd.R_alloc | apply Kd.R_drewN | apply Kd.R_drew)); exact HO797.out) hb); have n2_ := Aside0.mk (Kd.R_lower ho21 (below_size blA)); have n3_ := Aside0.mk (blk_below (bkA BK787) hb); have n4_ := Aside0.mk (below_step blA hb); clear HO790; clear HO797; clear BK787; clear HB; have HO790 := n0_; have HO797 := n1_; have HO801 := n2_; have BK787 := n3_; have HB := n4_; clear n0_ n1_ n2_ n3_ n4_; clear hb ho21))
        go_loopg [9, 10] k (fun kq v9 v10 w' => ∃ (x9_1 : List Int) (x10_1 : Int), v10 = .int .i64 x10_1 ∧ Aside0 (spec_StabiliserIn.l0 kq a0 l1 x9_1 x10_1 a2_0 a2_1 a2_2 = some (r1, r2)) ∧ Aside0 (kq ≤ k) ∧ Aside0 (Kd.R (Kd.int .i64) 2 w' w.heap.size (fun _ => True) v9 x9_1) ∧ Aside0 (w'.heap[gb787]? = some (.cells #[.int .i64 a2_0, .int .i64 a2_1, .int .i64 a2_2] 55 (0, 0))) ∧ Aside0 (Below w.heap.size w w'))
        case atStart => exact ⟨(y799), (0), (by first | rfl | (simp; done) | (simp [*]; done)), H', ⟨Nat.le_refl _⟩, ⟨by (with_reducible repeat (first | apply Kd.R_alloc | apply Kd.R_drewN | apply Kd.R_drew)); exact HO801.out⟩, ⟨bkA BK787⟩, ⟨blA⟩⟩
        case round =>
          clear H'
          try clear c1
          try clear p2
          try clear c3
          try clear c4
          try clear c5
          try clear c5b0
          try clear c5b1
          try clear c6
          try clear c7
          try clear c8
          try clear c8b0
          try clear c8b1
          try clear hcz10_0
          try clear hcz10_1
          try clear hcz10_2
          try clear hfz10_0
          try clear hfz10_1
          try clear hfz10_2
          obtain ⟨x9_1, x10_1, rfl, HA, HK1, HO_9, BK787, HB⟩ := hrel
          cases gk with
          | zero => exact absurd HA.out (by simp [spec_StabiliserIn.l0])
          | succ k1 =>
            have H := HA.out
            clear HA
            simp only [spec_StabiliserIn.l0] at H
            by_cases c22 : x10_1 < (l1.length : Int)
            · rw [if_pos c22] at H
              have c22b0 : decide (x10_1 < (l1.length : Int)) = true := decide_eq_true c22
              clear c22
              by_cases c23 : 0 ≤ x10_1
              · rw [if_pos c23] at H
                have c23b0 : decide (0 ≤ x10_1) = true := decide_eq_true c23
                clear c23
                replace H := Option.bind_eq_some_iff.mp H
                obtain ⟨⟨t803, t804, t805, t806⟩, A240, H⟩ := H
                replace H : (if t806 = true then (if (t803 == a2_0 && (t804 == a2_1 && (t805 == a2_2))) = true then (if x9_1.length < 17592186044416 then (spec_StabiliserIn.l0 k1 a0 l1 (x9_1 ++ [x10_1]) (wrap64 (x10_1 + 1)) a2_0 a2_1 a2_2) else (none)) else (spec_StabiliserIn.l0 k1 a0 l1 x9_1 (wrap64 (x10_1 + 1)) a2_0 a2_1 a2_2)) else (spec_StabiliserIn.l0 k1 a0 l1 x9_1 (wrap64 (x10_1 + 1)) a2_0 a2_1 a2_2)) = some (r1, r2) := H
                have A24 := Aside0.mk A240
                clear A240
                by_cases c25 : t806 = true
                · subst c25
                  have H1 : (if (t803 == a2_0 && (t804 == a2_1 && (t805 == a2_2))) = true then (if x9_1.length < 17592186044416 then (spec_StabiliserIn.l0 k1 a0 l1 (x9_1 ++ [x10_1]) (wrap64 (x10_1 + 1)) a2_0 a2_1 a2_2) else (none)) else (spec_StabiliserIn.l0 k1 a0 l1 x9_1 (wrap64 (x10_1 + 1)) a2_0 a2_1 a2_2)) = some (r1, r2) := by rw [if_pos rfl] at H; exact H
                  clear H
                  have H := H1
                  clear H1
                  by_cases c26 : (t803 == a2_0 && (t804 == a2_1 && (t805 == a2_2))) = true
                  · rw [if_pos c26] at H
                    have c26b0 : (t803 == a2_0 && (t804 == a2_1 && (t805 == a2_2))) = true := c26
                    (try (have c26b1 : decide (t803 = a2_0 && (t804 == a2_1 && (t805 == a2_2))) = true := by simpa using c26))
                    (try (have c26b2 : (t803 == a2_0 && (t804 == a2_1 && (t805 == a2_2))) = true := by simpa using c26))
                    clear c26
                    by_cases c27 : x9_1.length < 17592186044416
                    · rw [if_pos c27] at H
                      have LMc27 := Aside0.mk c27
                      clear c27
                      obtain ⟨y808, hy808⟩ : ∃ y_ : List Int, y_ = (x9_1 ++ [x10_1]) := ⟨_, rfl⟩
                      replace H : (spec_StabiliserIn.l0 k1 a0 l1 y808 (wrap64 (x10_1 + 1)) a2_0 a2_1 a2_2) = some (r1, r2) := by first | (rw [hy808]; with_reducible exact H) | (have H2_ := (Option.bind_some _ _).symm.trans H; rw [hy808]; with_reducible exact H2_) | (have H2_ := (Option.bind_some _ _).symm.trans H; with_reducible exact H2_) | with_reducible exact H | (rw [hy808]; exact H) | exact H
                      have Ny808 := Aside0.mk hy808
                      clear hy808
                      have H' := Aside0.mk H
                      clear H
                      try go_wp2
                      have n0_ := Aside0.mk (Kd.R_drew HO_9.out)
                      have n1_ := Aside0.mk (blk_drew BK787.out)
                      have n2_ := Aside0.mk (below_drew1 HB.out)
                      clear HO_9
                      clear BK787
                      clear HB
                      have HO_9 := n0_
                      have BK787 := n1_
                      have HB := n2_
                      clear n0_ n1_ n2_
                      have p802 : 0 ≤ (x10_1 : Int) := of_decide_eq_true (by first | (with_reducible assumption) | assumption)
                      have q802 : x10_1 < (l1.length : Int) := of_decide_eq_true (by first | (with_reducible assumption) | assumption)
                      obtain ⟨ad802, e802, hx802_0, hx802_1, hx802_2, hx802_3⟩ := at_T25 HR1.out x10_1 p802 q802
                      have hw802_3 := hx802_3
                      have hw802_2 := hx802_2
                      have hw802_1 := hx802_1
                      have hw802_0 := hx802_0
                      cases e802
                      replace hx802_0 := (HB.out.cell (World.block_lt_of_cell? w _ hx802_0)).trans hx802_0
                      replace hx802_1 := (HB.out.cell (World.block_lt_of_cell? w _ hx802_1)).trans hx802_1
                      replace hx802_2 := (HB.out.cell (World.block_lt_of_cell? w _ hx802_2)).trans hx802_2
                      replace hx802_3 := (HB.out.cell (World.block_lt_of_cell? w _ hx802_3)).trans hx802_3
                      replace p802 := eq_true p802
                      replace q802 := eq_true q802
                      refine start_ (n := 13) (S := fun w' => w'.cell? ⟨gb787, 0, none⟩ = some (.int .i64 a2_0) ∧ w'.cell? ⟨gb787, 1, none⟩ = some (.int .i64 a2_1) ∧ w'.cell? ⟨gb787, 2, none⟩ = some (.int .i64 a2_2) ∧ w'.cell? (ad802.add ((x10_1).toNat * 4)) = some (.int .i64 ((rd_T25 l1 x10_1).f0.f0)) ∧ w'.cell? ⟨(ad802.add ((x10_1).toNat * 4)).block, (ad802.add ((x10_1).toNat * 4)).off + 1, none⟩ = some (.int .i64 ((rd_T25 l1 x10_1).f0.f1)) ∧ w'.cell? ⟨(ad802.add ((x10_1).toNat * 4)).block, (ad802.add ((x10_1).toNat * 4)).off + 2, none⟩ = some (.int .i64 ((rd_T25 l1 x10_1).f1.f0)) ∧ w'.cell? ⟨(ad802.add ((x10_1).toNat * 4)).block, (ad802.add ((x10_1).toNat * 4)).off + 3, none⟩ = some (.int .i64 ((rd_T25 l1 x10_1).f1.f1))) (ds := []) #[false, false, false, false, false, false, false, false, false, false, false, false, false] (by kernel_rfl) rfl rfl ⟨(blk_cell BK787.out 0).trans rfl, (blk_cell BK787.out 1).trans rfl, (blk_cell BK787.out 2).trans rfl, ((HB.out.cell (World.block_lt_of_cell? w _ hw802_0)).trans hw802_0), ((HB.out.cell (World.block_lt_of_cell? w _ hw802_1)).trans hw802_1), ((HB.out.cell (World.block_lt_of_cell? w _ hw802_2)).trans hw802_2), ((HB.out.cell (World.block_lt_of_cell? w _ hw802_3)).trans hw802_3)⟩ (fun hHeld => ?_); refine with_tabW spec_StabiliserIn.tab10 spec_StabiliserIn.bits10 (fun HT_ HW_ => ?_)
                      generalize wr.drew = w28 at HO_9 BK787 HB hx802_0 hx802_1 hx802_2 hx802_3 hHeld ⊢
                      refine pure_ (i := 0) (N := some 36) (v := ?_) (a' := ?_) #[true, false, false, false, false, false, false, false, false, false, false, false, false] rfl rfl (any_of HT_.out (by kernel_rfl)) (fun _ _ _ h => h) (Or.inl ⟨by rfl, ?_⟩) ?_ ?_
                      rotate_left
                      · intro w'
                        go_simp
                        with_reducible rfl
                      rotate_left
                      · simp only [Act.put, List.setIfInBounds_toArray, List.set_cons_zero, List.set_cons_succ, i64_w, i32_w]
                        rfl
                      refine pure_ (i := 1) (N := some 37) (v := ?_) (a' := ?_) #[true, true, false, false, false, false, false, false, false, false, false, false, false] rfl rfl (any_of HT_.out (by kernel_rfl)) (fun _ _ _ h => h) (Or.inl ⟨by rfl, ?_⟩) ?_ ?_
                      rotate_left
                      · intro w'
                        go_simp
                        with_reducible rfl
                      rotate_left
                      · simp only [Act.put, List.setIfInBounds_toArray, List.set_cons_zero, List.set_cons_succ, i64_w, i32_w]
                        rfl
                      refine pure_ (i := 2) (N := some 38) (v := ?_) (a' := ?_) #[true, true, true, false, false, false, false, false, false, false, false, false, false] rfl rfl (any_of HT_.out (by kernel_rfl)) (fun _ _ _ h => h) (Or.inl ⟨by rfl, ?_⟩) ?_ ?_
                      rotate_left
                      · intro w'
                        go_simp
                        with_reducible rfl
                      rotate_left
                      · simp only [Act.put, List.setIfInBounds_toArray, List.set_cons_zero, List.set_cons_succ, i64_w, i32_w]
                        rfl
                      refine pure_ (i := 3) (N := some 39) (v := ?_) (a' := ?_) #[true, true, true, true, false, false, false, false, false, false, false, false, false] rfl rfl (any_of HT_.out (by kernel_rfl)) (fun _ _ _ h => h) (Or.inl ⟨by rfl, ?_⟩) ?_ ?_
                      rotate_left
                      · intro w'
                        go_simp
                        with_reducible rfl
                      rotate_left
                      · simp only [Act.put, List.setIfInBounds_toArray, List.set_cons_zero, List.set_cons_succ, i64_w, i32_w]
                        rfl
                      refine take_ (i := 4) (N := some 40) (v := ?_) (a' := ?_) #[true, true, true, true, true, false, false, false, false, false, false, false, false] rfl rfl (take_ofW HT_.out HW_.out (by kernel_rfl)) (fun _ _ _ h => h) (Or.inl ⟨by rfl, ?_⟩) hHeld ?_ ?_
                      rotate_left
                      · rintro w' ⟨s0, s1, s2, s3, s4, s5, s6⟩
                        go_simp
                        with_reducible rfl
                      rotate_left
                      · simp only [Act.put, List.setIfInBounds_toArray, List.set_cons_zero, List.set_cons_succ, i64_w, i32_w]
                        rfl
                      refine take_ (i := 5) (N := some 41) (v := ?_) (a' := ?_) #[true, true, true, true, true, true, false, false, false, false, false, false, false] rfl rfl (take_ofW HT_.out HW_.out (by kernel_rfl)) (fun _ _ _ h => h) (Or.inl ⟨by rfl, ?_⟩) hHeld ?_ ?_
                      rotate_left
                      · rintro w' ⟨s0, s1, s2, s3, s4, s5, s6⟩
                        go_simp
                        with_reducible rfl
                      rotate_left
                      · simp only [Act.put, List.setIfInBounds_toArray, List.set_cons_zero, List.set_cons_succ, i64_w, i32_w]
                        rfl
                      refine join_ (σ := Nat) 2 #[true, true, true, true, true, true, true, true, true, true, true, false, false] (fun s_ => [(42, .tuple #[.agg #[.int .i64 t803, .int .i64 t804, .int .i64 t805], .bool true]), (11, .pointer (some ⟨s_, 0, none⟩)), (35, .tuple #[.agg #[.int .i64 t803, .int .i64 t804, .int .i64 t805], .bool true]), (43, .agg #[.int .i64 t803, .int .i64 t804, .int .i64 t805]), (44, .bool true)]) (fun s_ w' => (w'.cell? ⟨gb787, 0, none⟩ = some (.int .i64 a2_0) ∧ w'.cell? ⟨gb787, 1, none⟩ = some (.int .i64 a2_1) ∧ w'.cell? ⟨gb787, 2, none⟩ = some (.int .i64 a2_2) ∧ w'.cell? (ad802.add ((x10_1).toNat * 4)) = some (.int .i64 ((rd_T25 l1 x10_1).f0.f0)) ∧ w'.cell? ⟨(ad802.add ((x10_1).toNat * 4)).block, (ad802.add ((x10_1).toNat * 4)).off + 1, none⟩ = some (.int .i64 ((rd_T25 l1 x10_1).f0.f1)) ∧ w'.cell? ⟨(ad802.add ((x10_1).toNat * 4)).block, (ad802.add ((x10_1).toNat * 4)).off + 2, none⟩ = some (.int .i64 ((rd_T25 l1 x10_1).f1.f0)) ∧ w'.cell? ⟨(ad802.add ((x10_1).toNat * 4)).block, (ad802.add ((x10_1).toNat * 4)).off + 3, none⟩ = some (.int .i64 ((rd_T25 l1 x10_1).f1.f1))) ∧ (Kd.R (Kd.int .i64) 2 w' w.heap.size (fun _ => True) u9 x9_1) ∧ (w'.heap[gb787]? = some (.cells #[.int .i64 a2_0, .int .i64 a2_1, .int .i64 a2_2] 55 (0, 0))) ∧ (w'.heap[s_]? = some (.cells #[.int .i64 0, .int .i64 0, .int .i64 0] 55 (0, 0))) ∧ (w.heap.size ≤ s_) ∧ (w.heap.size ≤ s_) ∧ (gb787 ≠ s_) ∧ (s_ ≠ gb787) ∧ (Below w.heap.size w w')) ?_ ?_
                      rotate_left
                      · intro hCont
                        refine two_ (i := 6) (j := 10) (Ni := some 42) (Nj := some 11) #[true, true, true, true, true, true, true, false, false, false, false, false, false] #[true, true, true, true, true, true, false, false, false, false, true, false, false] rfl rfl rfl rfl (two_of HT_.out (by kernel_rfl)) (by decide) (by decide) (fun K hK => ?_) (fun K hK => ?_)
                        · skip
                          refine goes_ Try.func77 (by kernel_rfl) rfl #[.int .i64 a0, .agg #[.int .i64 ((rd_T25 l1 x10_1).f0.f0), .int .i64 ((rd_T25 l1 x10_1).f0.f1), .int .i64 ((rd_T25 l1 x10_1).f1.f0), .int .i64 ((rd_T25 l1 x10_1).f1.f1)], .agg #[.int .i64 a2_0, .int .i64 a2_1, .int .i64 a2_2]] (by rfl) rfl rfl (by (try simp only [List.map_toArray, List.map_cons, List.map_nil]); first | done | rfl | (simp only [List.length_drop, List.length_take]; rfl)) ?_
                          with_reducible refine (spec_l04Move.calls k1 a0 ((rd_T25 l1 x10_1).f0.f0) ((rd_T25 l1 x10_1).f0.f1) ((rd_T25 l1 x10_1).f1.f0) ((rd_T25 l1 x10_1).f1.f1) a2_0 a2_1 a2_2 t803 t804 t805 true _ A24.out).mono ?_
                          rintro e w29 ⟨rfl, hb⟩
                          refine ⟨_, rfl, ?_⟩
                          have n0_ := Aside0.mk (Kd.R_below (by (with_reducible repeat (first | apply Kd.R_alloc | apply Kd.R_drewN | apply Kd.R_drew)); exact HO_9.out) hb)
                          have n1_ := Aside0.mk (blk_below (bkA BK787) hb)
                          have n2_ := Aside0.mk (below_step blA hb)
                          clear HO_9
                          clear BK787
                          clear HB
                          have HO_9 := n0_
                          have BK787 := n1_
                          have HB := n2_
                          clear n0_ n1_ n2_
                          (try clear hb)
                          (try clear hb2)
                          (try clear hk)
                          (try clear hi)
                          refine hK.out _ _ ⟨(blk_cell BK787.out 0).trans rfl, (blk_cell BK787.out 1).trans rfl, (blk_cell BK787.out 2).trans rfl, ((HB.out.cell (World.block_lt_of_cell? w _ hw802_0)).trans hw802_0), ((HB.out.cell (World.block_lt_of_cell? w _ hw802_1)).trans hw802_1), ((HB.out.cell (World.block_lt_of_cell? w _ hw802_2)).trans hw802_2), ((HB.out.cell (World.block_lt_of_cell? w _ hw802_3)).trans hw802_3)⟩ (fun hHeld => ?_)
                          clear hK K
                          refine norm_ (a' := ?_) ?_ ?_
                          rotate_left
                          · show Act.put _ (some 42) _ = _
                            simp only [Act.put, List.setIfInBounds_toArray, List.set_cons_zero, List.set_cons_succ, i64_w, i32_w]
                            rfl
                          refine pure_ (i := 7) (N := some 35) (v := ?_) (a' := ?_) #[true, true, true, true, true, true, true, true, false, false, false, false, false] rfl rfl (any_of HT_.out (by kernel_rfl)) (fun _ _ _ h => h) (Or.inl ⟨by rfl, ?_⟩) ?_ ?_
                          rotate_left
                          · intro w'
                            go_simp
                            with_reducible rfl
                          rotate_left
                          · simp only [Act.put, List.setIfInBounds_toArray, List.set_cons_zero, List.set_cons_succ, i64_w, i32_w]
                            rfl
                          refine pure_ (i := 8) (N := some 43) (v := ?_) (a' := ?_) #[true, true, true, true, true, true, true, true, true, false, false, false, false] rfl rfl (any_of HT_.out (by kernel_rfl)) (fun _ _ _ h => h) (Or.inl ⟨by rfl, ?_⟩) ?_ ?_
                          rotate_left
                          · intro w'
                            go_simp
                            with_reducible rfl
                          rotate_left
                          · simp only [Act.put, List.setIfInBounds_toArray, List.set_cons_zero, List.set_cons_succ, i64_w, i32_w]
                            rfl
                          refine pure_ (i := 9) (N := some 44) (v := ?_) (a' := ?_) #[true, true, true, true, true, true, true, true, true, true, false, false, false] rfl rfl (any_of HT_.out (by kernel_rfl)) (fun _ _ _ h => h) (Or.inl ⟨by rfl, ?_⟩) ?_ ?_
                          rotate_left
                          · intro w'
                            go_simp
                            with_reducible rfl
                          rotate_left
                          · simp only [Act.put, List.setIfInBounds_toArray, List.set_cons_zero, List.set_cons_succ, i64_w, i32_w]
                            rfl
                          refine one_ (i := 10) (N := some 11) #[true, true, true, true, true, true, true, true, true, true, true, false, false] rfl rfl (one_of HT_.out (by kernel_rfl)) (by decide) (fun K hK => ?_)
                          refine box_step ?hg (N := 11) ?hd (cs := #[.int .i64 0, .int .i64 0, .int .i64 0]) (t := 55) ?hr ?_; (case hd => rfl); (case hg => rfl); (case hr => first | (go_simp; done) | (go_simp; rfl))
                          intro gb807 hg w30 hbox hb
                          have n0_ := Aside0.mk (Kd.R_below (by (with_reducible repeat (first | apply Kd.R_alloc | apply Kd.R_drewN | apply Kd.R_drew)); exact HO_9.out) hb)
                          have n1_ := Aside0.mk (blk_below (bkA BK787) hb)
                          have n2_ := Aside0.mk (below_step blA hb)
                          have n3_ := Aside0.mk (hbox)
                          have n4_ := Aside0.mk (szA hg blA)
                          have n5_ := Aside0.mk (szA hg blA)
                          have n6_ := Aside0.mk (neA hg (bkA BK787))
                          have n7_ := Aside0.mk (neB hg (bkA BK787))
                          clear HO_9
                          clear BK787
                          clear HB
                          have HO_9 := n0_
                          have BK787 := n1_
                          have HB := n2_
                          have BK807 := n3_
                          have GW807 := n4_
                          have GE807 := n5_
                          have NB787_807 := n6_
                          have NB807_787 := n7_
                          clear n0_ n1_ n2_ n3_ n4_ n5_ n6_ n7_
                          clear hb hbox hg
                          refine hK.out _ _ ⟨(blk_cell BK787.out 0).trans rfl, (blk_cell BK787.out 1).trans rfl, (blk_cell BK787.out 2).trans rfl, ((HB.out.cell (World.block_lt_of_cell? w _ hw802_0)).trans hw802_0), ((HB.out.cell (World.block_lt_of_cell? w _ hw802_1)).trans hw802_1), ((HB.out.cell (World.block_lt_of_cell? w _ hw802_2)).trans hw802_2), ((HB.out.cell (World.block_lt_of_cell? w _ hw802_3)).trans hw802_3)⟩ (fun hHeld => ?_)
                          clear hK K
                          refine norm_ (a' := ?_) ?_ ?_
                          rotate_left
                          · show Act.put _ (some 11) _ = _
                            simp only [Act.put, List.setIfInBounds_toArray, List.set_cons_zero, List.set_cons_succ, i64_w, i32_w]
                            rfl
                          exact norm_ (by simp only [putAll, Act.put, List.setIfInBounds_toArray, List.set_cons_zero, List.set_cons_succ]) (hCont (gb807) _ ⟨hHeld, (by (with_reducible repeat (first | apply Kd.R_alloc | apply Kd.R_drewN | apply Kd.R_drew)); exact HO_9.out), (bkA BK787), (bkA BK807), GW807.out, GE807.out, NB787_807.out, NB807_787.out, blA⟩)
                        · skip
                          refine box_step ?hg (N := 11) ?hd (cs := #[.int .i64 0, .int .i64 0, .int .i64 0]) (t := 55) ?hr ?_; (case hd => rfl); (case hg => rfl); (case hr => first | (go_simp; done) | (go_simp; rfl))
                          intro gb807 hg w29 hbox hb
                          have n0_ := Aside0.mk (Kd.R_below (by (with_reducible repeat (first | apply Kd.R_alloc | apply Kd.R_drewN | apply Kd.R_drew)); exact HO_9.out) hb)
                          have n1_ := Aside0.mk (blk_below (bkA BK787) hb)
                          have n2_ := Aside0.mk (below_step blA hb)
                          have n3_ := Aside0.mk (hbox)
                          have n4_ := Aside0.mk (szA hg blA)
                          have n5_ := Aside0.mk (szA hg blA)
                          have n6_ := Aside0.mk (neA hg (bkA BK787))
                          have n7_ := Aside0.mk (neB hg (bkA BK787))
                          clear HO_9
                          clear BK787
                          clear HB
                          have HO_9 := n0_
                          have BK787 := n1_
                          have HB := n2_
                          have BK807 := n3_
                          have GW807 := n4_
                          have GE807 := n5_
                          have NB787_807 := n6_
                          have NB807_787 := n7_
                          clear n0_ n1_ n2_ n3_ n4_ n5_ n6_ n7_
                          clear hb hbox hg
                          refine hK.out _ _ ⟨(blk_cell BK787.out 0).trans rfl, (blk_cell BK787.out 1).trans rfl, (blk_cell BK787.out 2).trans rfl, ((HB.out.cell (World.block_lt_of_cell? w _ hw802_0)).trans hw802_0), ((HB.out.cell (World.block_lt_of_cell? w _ hw802_1)).trans hw802_1), ((HB.out.cell (World.block_lt_of_cell? w _ hw802_2)).trans hw802_2), ((HB.out.cell (World.block_lt_of_cell? w _ hw802_3)).trans hw802_3)⟩ (fun hHeld => ?_)
                          clear hK K
                          refine norm_ (a' := ?_) ?_ ?_
                          rotate_left
                          · show Act.put _ (some 11) _ = _
                            simp only [Act.put, List.setIfInBounds_toArray, List.set_cons_zero, List.set_cons_succ, i64_w, i32_w]
                            rfl
                          refine one_ (i := 6) (N := some 42) #[true, true, true, true, true, true, true, false, false, false, true, false, false] rfl rfl (one_of HT_.out (by kernel_rfl)) (by decide) (fun K hK => ?_)
                          refine goes_ Try.func77 (by kernel_rfl) rfl #[.int .i64 a0, .agg #[.int .i64 ((rd_T25 l1 x10_1).f0.f0), .int .i64 ((rd_T25 l1 x10_1).f0.f1), .int .i64 ((rd_T25 l1 x10_1).f1.f0), .int .i64 ((rd_T25 l1 x10_1).f1.f1)], .agg #[.int .i64 a2_0, .int .i64 a2_1, .int .i64 a2_2]] (by rfl) rfl rfl (by (try simp only [List.map_toArray, List.map_cons, List.map_nil]); first | done | rfl | (simp only [List.length_drop, List.length_take]; rfl)) ?_
                          with_reducible refine (spec_l04Move.calls k1 a0 ((rd_T25 l1 x10_1).f0.f0) ((rd_T25 l1 x10_1).f0.f1) ((rd_T25 l1 x10_1).f1.f0) ((rd_T25 l1 x10_1).f1.f1) a2_0 a2_1 a2_2 t803 t804 t805 true _ A24.out).mono ?_
                          rintro e w30 ⟨rfl, hb⟩
                          refine ⟨_, rfl, ?_⟩
                          have n0_ := Aside0.mk (Kd.R_below (by (with_reducible repeat (first | apply Kd.R_alloc | apply Kd.R_drewN | apply Kd.R_drew)); exact HO_9.out) hb)
                          have n1_ := Aside0.mk (blk_below (bkA BK787) hb)
                          have n2_ := Aside0.mk (blk_below (bkA BK807) hb)
                          have n3_ := Aside0.mk (below_step blA hb)
                          clear HO_9
                          clear BK787
                          clear BK807
                          clear HB
                          have HO_9 := n0_
                          have BK787 := n1_
                          have BK807 := n2_
                          have HB := n3_
                          clear n0_ n1_ n2_ n3_
                          (try clear hb)
                          (try clear hb2)
                          (try clear hk)
                          (try clear hi)
                          refine hK.out _ _ ⟨(blk_cell BK787.out 0).trans rfl, (blk_cell BK787.out 1).trans rfl, (blk_cell BK787.out 2).trans rfl, ((HB.out.cell (World.block_lt_of_cell? w _ hw802_0)).trans hw802_0), ((HB.out.cell (World.block_lt_of_cell? w _ hw802_1)).trans hw802_1), ((HB.out.cell (World.block_lt_of_cell? w _ hw802_2)).trans hw802_2), ((HB.out.cell (World.block_lt_of_cell? w _ hw802_3)).trans hw802_3)⟩ (fun hHeld => ?_)
                          clear hK K
                          refine norm_ (a' := ?_) ?_ ?_
                          rotate_left
                          · show Act.put _ (some 42) _ = _
                            simp only [Act.put, List.setIfInBounds_toArray, List.set_cons_zero, List.set_cons_succ, i64_w, i32_w]
                            rfl
                          refine pure_ (i := 7) (N := some 35) (v := ?_) (a' := ?_) #[true, true, true, true, true, true, true, true, false, false, true, false, false] rfl rfl (any_of HT_.out (by kernel_rfl)) (fun _ _ _ h => h) (Or.inl ⟨by rfl, ?_⟩) ?_ ?_
                          rotate_left
                          · intro w'
                            go_simp
                            with_reducible rfl
                          rotate_left
                          · simp only [Act.put, List.setIfInBounds_toArray, List.set_cons_zero, List.set_cons_succ, i64_w, i32_w]
                            rfl
                          refine pure_ (i := 8) (N := some 43) (v := ?_) (a' := ?_) #[true, true, true, true, true, true, true, true, true, false, true, false, false] rfl rfl (any_of HT_.out (by kernel_rfl)) (fun _ _ _ h => h) (Or.inl ⟨by rfl, ?_⟩) ?_ ?_
                          rotate_left
                          · intro w'
                            go_simp
                            with_reducible rfl
                          rotate_left
                          · simp only [Act.put, List.setIfInBounds_toArray, List.set_cons_zero, List.set_cons_succ, i64_w, i32_w]
                            rfl
                          refine pure_ (i := 9) (N := some 44) (v := ?_) (a' := ?_) #[true, true, true, true, true, true, true, true, true, true, true, false, false] rfl rfl (any_of HT_.out (by kernel_rfl)) (fun _ _ _ h => h) (Or.inl ⟨by rfl, ?_⟩) ?_ ?_
                          rotate_left
                          · intro w'
                            go_simp
                            with_reducible rfl
                          rotate_left
                          · simp only [Act.put, List.setIfInBounds_toArray, List.set_cons_zero, List.set_cons_succ, i64_w, i32_w]
                            rfl
                          exact norm_ (by simp only [putAll, Act.put, List.setIfInBounds_toArray, List.set_cons_zero, List.set_cons_succ]) (hCont (gb807) _ ⟨hHeld, (by (with_reducible repeat (first | apply Kd.R_alloc | apply Kd.R_drewN | apply Kd.R_drew)); exact HO_9.out), (bkA BK787), (bkA BK807), GW807.out, GE807.out, NB787_807.out, NB807_787.out, blA⟩)
                      rintro gb807 w31 ⟨hS_, h0_, h1_, h2_, h3_, h4_, h5_, h6_, h7_⟩
                      have n0_ : Aside0 (Kd.R (Kd.int .i64) 2 w31 w.heap.size (fun _ => True) u9 x9_1) := ⟨h0_⟩
                      have n1_ : Aside0 (w31.heap[gb787]? = some (.cells #[.int .i64 a2_0, .int .i64 a2_1, .int .i64 a2_2] 55 (0, 0))) := ⟨h1_⟩
                      have n2_ : Aside0 (w31.heap[gb807]? = some (.cells #[.int .i64 0, .int .i64 0, .int .i64 0] 55 (0, 0))) := ⟨h2_⟩
                      have n3_ : Aside0 (w.heap.size ≤ gb807) := ⟨h3_⟩
                      have n4_ : Aside0 (w.heap.size ≤ gb807) := ⟨h4_⟩
                      have n5_ : Aside0 (gb787 ≠ gb807) := ⟨h5_⟩
                      have n6_ : Aside0 (gb807 ≠ gb787) := ⟨h6_⟩
                      have n7_ : Aside0 (Below w.heap.size w w31) := ⟨h7_⟩
                      clear HO_9
                      clear BK787
                      clear HB
                      clear h0_ h1_ h2_ h3_ h4_ h5_ h6_ h7_
                      have HO_9 := n0_
                      have BK787 := n1_
                      have BK807 := n2_
                      have GW807 := n3_
                      have GE807 := n4_
                      have NB787_807 := n5_
                      have NB807_787 := n6_
                      have HB := n7_
                      clear n0_ n1_ n2_ n3_ n4_ n5_ n6_ n7_
                      have hHeld : w31.cell? ⟨gb787, 0, none⟩ = some (.int .i64 a2_0) ∧ w31.cell? ⟨gb787, 1, none⟩ = some (.int .i64 a2_1) ∧ w31.cell? ⟨gb787, 2, none⟩ = some (.int .i64 a2_2) ∧ w31.cell? (ad802.add ((x10_1).toNat * 4)) = some (.int .i64 ((rd_T25 l1 x10_1).f0.f0)) ∧ w31.cell? ⟨(ad802.add ((x10_1).toNat * 4)).block, (ad802.add ((x10_1).toNat * 4)).off + 1, none⟩ = some (.int .i64 ((rd_T25 l1 x10_1).f0.f1)) ∧ w31.cell? ⟨(ad802.add ((x10_1).toNat * 4)).block, (ad802.add ((x10_1).toNat * 4)).off + 2, none⟩ = some (.int .i64 ((rd_T25 l1 x10_1).f1.f0)) ∧ w31.cell? ⟨(ad802.add ((x10_1).toNat * 4)).block, (ad802.add ((x10_1).toNat * 4)).off + 3, none⟩ = some (.int .i64 ((rd_T25 l1 x10_1).f1.f1)) := hS_
                      refine norm_ (a' := ?_) ?_ ?_
                      rotate_left
                      · simp only [putAll, Act.put, List.setIfInBounds_toArray, List.set_cons_zero, List.set_cons_succ]
                        rfl
                      refine one_ (i := 11) (N := none) #[true, true, true, true, true, true, true, true, true, true, true, true, false] rfl rfl (one_of HT_.out (by kernel_rfl)) (by decide) (fun K hK => ?_)
                      have hs32 : w31.cell? ⟨gb807, 0, none⟩ = some (.int .i64 0) := (blk_cell BK807.out 0).trans rfl
                      have hfs32 := blk_frozen BK807.out 0
                      have hns32_0 := NB787_807.out
                      have hms32_0 := NB807_787.out
                      have hs33 : w31.cell? ⟨gb807, 1, none⟩ = some (.int .i64 0) := (blk_cell BK807.out 1).trans rfl
                      have hfs33 := blk_frozen BK807.out 1
                      have hns33_0 := NB787_807.out
                      have hms33_0 := NB807_787.out
                      have hs34 : w31.cell? ⟨gb807, 2, none⟩ = some (.int .i64 0) := (blk_cell BK807.out 2).trans rfl
                      have hfs34 := blk_frozen BK807.out 2
                      have hns34_0 := NB787_807.out
                      have hms34_0 := NB807_787.out
                      refine skip_ (w1 := ?_) (by rfl) rfl ?_ ?_
                      rotate_left
                      · go_simp
                        rfl
                      refine hK.out _ _ ⟨((cell_far (p := ⟨gb807, _, none⟩) NB787_807.out _).trans (((cell_far (p := ⟨gb807, _, none⟩) NB787_807.out _).trans (((cell_far (p := ⟨gb807, _, none⟩) NB787_807.out _).trans (hHeld.1)))))), ((cell_far (p := ⟨gb807, _, none⟩) NB787_807.out _).trans (((cell_far (p := ⟨gb807, _, none⟩) NB787_807.out _).trans (((cell_far (p := ⟨gb807, _, none⟩) NB787_807.out _).trans (hHeld.2.1)))))), ((cell_far (p := ⟨gb807, _, none⟩) NB787_807.out _).trans (((cell_far (p := ⟨gb807, _, none⟩) NB787_807.out _).trans (((cell_far (p := ⟨gb807, _, none⟩) NB787_807.out _).trans (hHeld.2.2.1)))))), ((cell_far (p := ⟨gb807, _, none⟩) (by first | exact Nat.ne_of_lt (Nat.lt_of_lt_of_le (by have := World.block_lt_of_cell? _ _ hw802_0; first | rwa [add_block] at this | exact this) GW807.out) | (rw [add_block]; exact Nat.ne_of_lt (Nat.lt_of_lt_of_le (by have := World.block_lt_of_cell? _ _ hw802_0; first | rwa [add_block] at this | exact this) GW807.out)) | (show (Addr.add _ _).block ≠ _; rw [add_block]; exact Nat.ne_of_lt (Nat.lt_of_lt_of_le (by have := World.block_lt_of_cell? _ _ hw802_0; first | rwa [add_block] at this | exact this) GW807.out)) | (dsimp only; exact Nat.ne_of_lt (Nat.lt_of_lt_of_le (by have := World.block_lt_of_cell? _ _ hw802_0; first | rwa [add_block] at this | exact this) GW807.out))) _).trans (((cell_far (p := ⟨gb807, _, none⟩) (by first | exact Nat.ne_of_lt (Nat.lt_of_lt_of_le (by have := World.block_lt_of_cell? _ _ hw802_0; first | rwa [add_block] at this | exact this) GW807.out) | (rw [add_block]; exact Nat.ne_of_lt (Nat.lt_of_lt_of_le (by have := World.block_lt_of_cell? _ _ hw802_0; first | rwa [add_block] at this | exact this) GW807.out)) | (show (Addr.add _ _).block ≠ _; rw [add_block]; exact Nat.ne_of_lt (Nat.lt_of_lt_of_le (by have := World.block_lt_of_cell? _ _ hw802_0; first | rwa [add_block] at this | exact this) GW807.out)) | (dsimp only; exact Nat.ne_of_lt (Nat.lt_of_lt_of_le (by have := World.block_lt_of_cell? _ _ hw802_0; first | rwa [add_block] at this | exact this) GW807.out))) _).trans (((cell_far (p := ⟨gb807, _, none⟩) (by first | exact Nat.ne_of_lt (Nat.lt_of_lt_of_le (by have := World.block_lt_of_cell? _ _ hw802_0; first | rwa [add_block] at this | exact this) GW807.out) | (rw [add_block]; exact Nat.ne_of_lt (Nat.lt_of_lt_of_le (by have := World.block_lt_of_cell? _ _ hw802_0; first | rwa [add_block] at this | exact this) GW807.out)) | (show (Addr.add _ _).block ≠ _; rw [add_block]; exact Nat.ne_of_lt (Nat.lt_of_lt_of_le (by have := World.block_lt_of_cell? _ _ hw802_0; first | rwa [add_block] at this | exact this) GW807.out)) | (dsimp only; exact Nat.ne_of_lt (Nat.lt_of_lt_of_le (by have := World.block_lt_of_cell? _ _ hw802_0; first | rwa [add_block] at this | exact this) GW807.out))) _).trans (hHeld.2.2.2.1)))))), ((cell_far (p := ⟨gb807, _, none⟩) (by first | exact Nat.ne_of_lt (Nat.lt_of_lt_of_le (by have := World.block_lt_of_cell? _ _ hw802_1; first | rwa [add_block] at this | exact this) GW807.out) | (rw [add_block]; exact Nat.ne_of_lt (Nat.lt_of_lt_of_le (by have := World.block_lt_of_cell? _ _ hw802_1; first | rwa [add_block] at this | exact this) GW807.out)) | (show (Addr.add _ _).block ≠ _; rw [add_block]; exact Nat.ne_of_lt (Nat.lt_of_lt_of_le (by have := World.block_lt_of_cell? _ _ hw802_1; first | rwa [add_block] at this | exact this) GW807.out)) | (dsimp only; exact Nat.ne_of_lt (Nat.lt_of_lt_of_le (by have := World.block_lt_of_cell? _ _ hw802_1; first | rwa [add_block] at this | exact this) GW807.out))) _).trans (((cell_far (p := ⟨gb807, _, none⟩) (by first | exact Nat.ne_of_lt (Nat.lt_of_lt_of_le (by have := World.block_lt_of_cell? _ _ hw802_1; first | rwa [add_block] at this | exact this) GW807.out) | (rw [add_block]; exact Nat.ne_of_lt (Nat.lt_of_lt_of_le (by have := World.block_lt_of_cell? _ _ hw802_1; first | rwa [add_block] at this | exact this) GW807.out)) | (show (Addr.add _ _).block ≠ _; rw [add_block]; exact Nat.ne_of_lt (Nat.lt_of_lt_of_le (by have := World.block_lt_of_cell? _ _ hw802_1; first | rwa [add_block] at this | exact this) GW807.out)) | (dsimp only; exact Nat.ne_of_lt (Nat.lt_of_lt_of_le (by have := World.block_lt_of_cell? _ _ hw802_1; first | rwa [add_block] at this | exact this) GW807.out))) _).trans (((cell_far (p := ⟨gb807, _, none⟩) (by first | exact Nat.ne_of_lt (Nat.lt_of_lt_of_le (by have := World.block_lt_of_cell? _ _ hw802_1; first | rwa [add_block] at this | exact this) GW807.out) | (rw [add_block]; exact Nat.ne_of_lt (Nat.lt_of_lt_of_le (by have := World.block_lt_of_cell? _ _ hw802_1; first | rwa [add_block] at this | exact this) GW807.out)) | (show (Addr.add _ _).block ≠ _; rw [add_block]; exact Nat.ne_of_lt (Nat.lt_of_lt_of_le (by have := World.block_lt_of_cell? _ _ hw802_1; first | rwa [add_block] at this | exact this) GW807.out)) | (dsimp only; exact Nat.ne_of_lt (Nat.lt_of_lt_of_le (by have := World.block_lt_of_cell? _ _ hw802_1; first | rwa [add_block] at this | exact this) GW807.out))) _).trans (hHeld.2.2.2.2.1)))))), ((cell_far (p := ⟨gb807, _, none⟩) (by first | exact Nat.ne_of_lt (Nat.lt_of_lt_of_le (by have := World.block_lt_of_cell? _ _ hw802_2; first | rwa [add_block] at this | exact this) GW807.out) | (rw [add_block]; exact Nat.ne_of_lt (Nat.lt_of_lt_of_le (by have := World.block_lt_of_cell? _ _ hw802_2; first | rwa [add_block] at this | exact this) GW807.out)) | (show (Addr.add _ _).block ≠ _; rw [add_block]; exact Nat.ne_of_lt (Nat.lt_of_lt_of_le (by have := World.block_lt_of_cell? _ _ hw802_2; first | rwa [add_block] at this | exact this) GW807.out)) | (dsimp only; exact Nat.ne_of_lt (Nat.lt_of_lt_of_le (by have := World.block_lt_of_cell? _ _ hw802_2; first | rwa [add_block] at this | exact this) GW807.out))) _).trans (((cell_far (p := ⟨gb807, _, none⟩) (by first | exact Nat.ne_of_lt (Nat.lt_of_lt_of_le (by have := World.block_lt_of_cell? _ _ hw802_2; first | rwa [add_block] at this | exact this) GW807.out) | (rw [add_block]; exact Nat.ne_of_lt (Nat.lt_of_lt_of_le (by have := World.block_lt_of_cell? _ _ hw802_2; first | rwa [add_block] at this | exact this) GW807.out)) | (show (Addr.add _ _).block ≠ _; rw [add_block]; exact Nat.ne_of_lt (Nat.lt_of_lt_of_le (by have := World.block_lt_of_cell? _ _ hw802_2; first | rwa [add_block] at this | exact this) GW807.out)) | (dsimp only; exact Nat.ne_of_lt (Nat.lt_of_lt_of_le (by have := World.block_lt_of_cell? _ _ hw802_2; first | rwa [add_block] at this | exact this) GW807.out))) _).trans (((cell_far (p := ⟨gb807, _, none⟩) (by first | exact Nat.ne_of_lt (Nat.lt_of_lt_of_le (by have := World.block_lt_of_cell? _ _ hw802_2; first | rwa [add_block] at this | exact this) GW807.out) | (rw [add_block]; exact Nat.ne_of_lt (Nat.lt_of_lt_of_le (by have := World.block_lt_of_cell? _ _ hw802_2; first | rwa [add_block] at this | exact this) GW807.out)) | (show (Addr.add _ _).block ≠ _; rw [add_block]; exact Nat.ne_of_lt (Nat.lt_of_lt_of_le (by have := World.block_lt_of_cell? _ _ hw802_2; first | rwa [add_block] at this | exact this) GW807.out)) | (dsimp only; exact Nat.ne_of_lt (Nat.lt_of_lt_of_le (by have := World.block_lt_of_cell? _ _ hw802_2; first | rwa [add_block] at this | exact this) GW807.out))) _).trans (hHeld.2.2.2.2.2.1)))))), ((cell_far (p := ⟨gb807, _, none⟩) (by first | exact Nat.ne_of_lt (Nat.lt_of_lt_of_le (by have := World.block_lt_of_cell? _ _ hw802_3; first | rwa [add_block] at this | exact this) GW807.out) | (rw [add_block]; exact Nat.ne_of_lt (Nat.lt_of_lt_of_le (by have := World.block_lt_of_cell? _ _ hw802_3; first | rwa [add_block] at this | exact this) GW807.out)) | (show (Addr.add _ _).block ≠ _; rw [add_block]; exact Nat.ne_of_lt (Nat.lt_of_lt_of_le (by have := World.block_lt_of_cell? _ _ hw802_3; first | rwa [add_block] at this | exact this) GW807.out)) | (dsimp only; exact Nat.ne_of_lt (Nat.lt_of_lt_of_le (by have := World.block_lt_of_cell? _ _ hw802_3; first | rwa [add_block] at this | exact this) GW807.out))) _).trans (((cell_far (p := ⟨gb807, _, none⟩) (by first | exact Nat.ne_of_lt (Nat.lt_of_lt_of_le (by have := World.block_lt_of_cell? _ _ hw802_3; first | rwa [add_block] at this | exact this) GW807.out) | (rw [add_block]; exact Nat.ne_of_lt (Nat.lt_of_lt_of_le (by have := World.block_lt_of_cell? _ _ hw802_3; first | rwa [add_block] at this | exact this) GW807.out)) | (show (Addr.add _ _).block ≠ _; rw [add_block]; exact Nat.ne_of_lt (Nat.lt_of_lt_of_le (by have := World.block_lt_of_cell? _ _ hw802_3; first | rwa [add_block] at this | exact this) GW807.out)) | (dsimp only; exact Nat.ne_of_lt (Nat.lt_of_lt_of_le (by have := World.block_lt_of_cell? _ _ hw802_3; first | rwa [add_block] at this | exact this) GW807.out))) _).trans (((cell_far (p := ⟨gb807, _, none⟩) (by first | exact Nat.ne_of_lt (Nat.lt_of_lt_of_le (by have := World.block_lt_of_cell? _ _ hw802_3; first | rwa [add_block] at this | exact this) GW807.out) | (rw [add_block]; exact Nat.ne_of_lt (Nat.lt_of_lt_of_le (by have := World.block_lt_of_cell? _ _ hw802_3; first | rwa [add_block] at this | exact this) GW807.out)) | (show (Addr.add _ _).block ≠ _; rw [add_block]; exact Nat.ne_of_lt (Nat.lt_of_lt_of_le (by have := World.block_lt_of_cell? _ _ hw802_3; first | rwa [add_block] at this | exact this) GW807.out)) | (dsimp only; exact Nat.ne_of_lt (Nat.lt_of_lt_of_le (by have := World.block_lt_of_cell? _ _ hw802_3; first | rwa [add_block] at this | exact this) GW807.out))) _).trans (hHeld.2.2.2.2.2.2))))))⟩ (fun hHeld => ?_)
                      clear hK K
                      refine pure_ (i := 12) (N := some 12) (v := ?_) (a' := ?_) #[true, true, true, true, true, true, true, true, true, true, true, true, true] rfl rfl (any_of HT_.out (by kernel_rfl)) (fun _ _ _ h => h) (Or.inl ⟨by rfl, ?_⟩) ?_ ?_
                      rotate_left
                      · intro w'
                        go_simp
                        with_reducible rfl
                      rotate_left
                      · simp only [Act.put, List.setIfInBounds_toArray, List.set_cons_zero, List.set_cons_succ, i64_w, i32_w]
                        rfl
                      refine done_ (done_of HT_.out (by kernel_rfl)) ?_
                      have hnb35 := NB807_787.out
                      have hnc35 := NB787_807.out
                      have hcz36_0 : w31.cell? ⟨gb807, 0, none⟩ = some (.int .i64 0) := (blk_cell BK807.out 0).trans rfl
                      have hcz36_1 : w31.cell? ⟨gb807, 1, none⟩ = some (.int .i64 0) := (blk_cell BK807.out 1).trans rfl
                      have hcz36_2 : w31.cell? ⟨gb807, 2, none⟩ = some (.int .i64 0) := (blk_cell BK807.out 2).trans rfl
                      have hfz36_0 := blk_frozen BK807.out 0
                      have hfz36_1 := blk_frozen BK807.out 1
                      have hfz36_2 := blk_frozen BK807.out 2
                      have hcz37_0 : w31.cell? ⟨gb787, 0, none⟩ = some (.int .i64 a2_0) := (blk_cell BK787.out 0).trans rfl
                      have hcz37_1 : w31.cell? ⟨gb787, 1, none⟩ = some (.int .i64 a2_1) := (blk_cell BK787.out 1).trans rfl
                      have hcz37_2 : w31.cell? ⟨gb787, 2, none⟩ = some (.int .i64 a2_2) := (blk_cell BK787.out 2).trans rfl
                      have hfz37_0 := blk_frozen BK787.out 0
                      have hfz37_1 := blk_frozen BK787.out 1
                      have hfz37_2 := blk_frozen BK787.out 2
                      try go_wp2_with (first | ((with_reducible refine gate_builtin (b := .append) (xs := #[.tmp 51, .tmp 53]) rfl ?_); at_builtin; refine Kd.R_append (Kd.int .i64) (w0 := w) w.heap.size rfl (.tmp 51) (.tmp 53) 62 2 (.int .i64 0) 8 rfl Try.underlying62 info2 rfl (by decide) (by omega) u9 x9_1 x10_1 [.int .i64 x10_1] (fun _ => True) (fun _ => False) rfl (by first | (go_simp; done) | (go_simp; rfl)) ?aP (fun _ hk => hk.elim) ?aF ?aO ?aB ?aS ?aL ?_; (case aP => exact rfl); (case aB => exact blA); (case aF => exact (fun _ _ => trivial)); (case aO => exact (by (with_reducible repeat (first | apply Kd.R_alloc | apply Kd.R_drewN | apply Kd.R_drew)); exact Kd.R_mono (Kd.R_far (p := ⟨gb807, 2, none⟩) (Kd.R_far (p := ⟨gb807, 1, none⟩) (Kd.R_far (p := ⟨gb807, 0, none⟩) (Kd.R_types HO_9.out BK807.out (by decide)) (fun _ hk => hk.2) (.int .i64 t803)) (fun _ hk => hk.2) (.int .i64 t804)) (fun _ hk => hk.2) (.int .i64 t805)) (fun _ hk => trivial))); (case aS => exact (below_size blA)); (case aL => have := LMc27.out; omega); intro v809 w38 ho hb hg hat; rw [← Ny808.out] at ho; have n0_ := Aside0.mk (blk_grown (g := gb787) (o := .cells #[.int .i64 a2_0, .int .i64 a2_1, .int .i64 a2_2] 55 (0, 0)) (by (with_reducible repeat (first | refine blk_drewN ?_ _ | refine blk_drew ?_ | refine blk_alloc ?_ _)); refine blk_far ?_ NB787_807.out _; (with_reducible repeat (first | refine blk_drewN ?_ _ | refine blk_drew ?_ | refine blk_alloc ?_ _)); refine blk_far ?_ NB787_807.out _; (with_reducible repeat (first | refine blk_drewN ?_ _ | refine blk_drew ?_ | refine blk_alloc ?_ _)); refine blk_far ?_ NB787_807.out _; (with_reducible repeat (first | refine blk_drewN ?_ _ | refine blk_drew ?_ | refine blk_alloc ?_ _)); exact BK787.out) hg (Kd.R_ne HO_9.out BK787.out (by decide))); have n1_ := Aside0.mk (blk_grown (g := gb807) (o := .cells #[.int .i64 t803, .int .i64 t804, .int .i64 t805] 55 (0, 0)) (by (with_reducible repeat (first | refine blk_drewN ?_ _ | refine blk_drew ?_ | refine blk_alloc ?_ _)); refine blk_put (cs := #[.int .i64 t803, .int .i64 t804, .int .i64 0]) ?_ 2 _ rfl; (with_reducible repeat (first | refine blk_drewN ?_ _ | refine blk_drew ?_ | refine blk_alloc ?_ _)); refine blk_put (cs := #[.int .i64 t803, .int .i64 0, .int .i64 0]) ?_ 1 _ rfl; (with_reducible repeat (first | refine blk_drewN ?_ _ | refine blk_drew ?_ | refine blk_alloc ?_ _)); refine blk_put (cs := #[.int .i64 0, .int .i64 0, .int .i64 0]) ?_ 0 _ rfl; (with_reducible repeat (first | refine blk_drewN ?_ _ | refine blk_drew ?_ | refine blk_alloc ?_ _)); exact BK807.out) hg (Kd.R_ne HO_9.out BK807.out (by decide))); have n2_ := Aside0.mk (hb); have n3_ := Aside0.mk (ho); clear BK787; clear BK807; clear HB; clear HO_9; have BK787 := n0_; have BK807 := n1_; have HB := n2_; have HO810 := n3_; clear n0_ n1_ n2_ n3_; clear ho hb hg hat))
                      go_roundg k1
                      case measure => have := HK1.out; omega
                      case rel => exact ⟨(y808), (wrap64 (x10_1 + 1)), (by first | rfl | (simp; done) | (simp [*]; done)), H', ⟨by have := HK1.out; omega⟩, ⟨by (with_reducible repeat (first | apply Kd.R_alloc | apply Kd.R_drewN | apply Kd.R_drew)); exact HO810.out⟩, ⟨bkA BK787⟩, ⟨blA⟩⟩
                    · rw [if_neg c27] at H
                      exact absurd H (by simp)
                  · rw [if_neg c26] at H
                    have c26b0 : (t803 == a2_0 && (t804 == a2_1 && (t805 == a2_2))) = false := by simpa using c26
                    (try (have c26b1 : decide (t803 = a2_0 && (t804 == a2_1 && (t805 == a2_2))) = false := by simpa using c26))
                    (try (have c26b2 : (t803 == a2_0 && (t804 == a2_1 && (t805 == a2_2))) = false := by simpa using c26))
                    (try (have c26b3 : ¬ (t803 = a2_0 && (t804 == a2_1 && (t805 == a2_2))) := by simpa using c26))
                    clear c26
                    have H' := Aside0.mk H
                    clear H
                    try go_wp2
                    have n0_ := Aside0.mk (Kd.R_drew HO_9.out)
                    have n1_ := Aside0.mk (blk_drew BK787.out)
                    have n2_ := Aside0.mk (below_drew1 HB.out)
                    clear HO_9
                    clear BK787
                    clear HB
                    have HO_9 := n0_
                    have BK787 := n1_
                    have HB := n2_
                    clear n0_ n1_ n2_
                    have p802 : 0 ≤ (x10_1 : Int) := of_decide_eq_true (by first | (with_reducible assumption) | assumption)
                    have q802 : x10_1 < (l1.length : Int) := of_decide_eq_true (by first | (with_reducible assumption) | assumption)
                    obtain ⟨ad802, e802, hx802_0, hx802_1, hx802_2, hx802_3⟩ := at_T25 HR1.out x10_1 p802 q802
                    have hw802_3 := hx802_3
                    have hw802_2 := hx802_2
                    have hw802_1 := hx802_1
                    have hw802_0 := hx802_0
                    cases e802
                    replace hx802_0 := (HB.out.cell (World.block_lt_of_cell? w _ hx802_0)).trans hx802_0
                    replace hx802_1 := (HB.out.cell (World.block_lt_of_cell? w _ hx802_1)).trans hx802_1
                    replace hx802_2 := (HB.out.cell (World.block_lt_of_cell? w _ hx802_2)).trans hx802_2
                    replace hx802_3 := (HB.out.cell (World.block_lt_of_cell? w _ hx802_3)).trans hx802_3
                    replace p802 := eq_true p802
                    replace q802 := eq_true q802
                    refine start_ (n := 13) (S := fun w' => w'.cell? ⟨gb787, 0, none⟩ = some (.int .i64 a2_0) ∧ w'.cell? ⟨gb787, 1, none⟩ = some (.int .i64 a2_1) ∧ w'.cell? ⟨gb787, 2, none⟩ = some (.int .i64 a2_2) ∧ w'.cell? (ad802.add ((x10_1).toNat * 4)) = some (.int .i64 ((rd_T25 l1 x10_1).f0.f0)) ∧ w'.cell? ⟨(ad802.add ((x10_1).toNat * 4)).block, (ad802.add ((x10_1).toNat * 4)).off + 1, none⟩ = some (.int .i64 ((rd_T25 l1 x10_1).f0.f1)) ∧ w'.cell? ⟨(ad802.add ((x10_1).toNat * 4)).block, (ad802.add ((x10_1).toNat * 4)).off + 2, none⟩ = some (.int .i64 ((rd_T25 l1 x10_1).f1.f0)) ∧ w'.cell? ⟨(ad802.add ((x10_1).toNat * 4)).block, (ad802.add ((x10_1).toNat * 4)).off + 3, none⟩ = some (.int .i64 ((rd_T25 l1 x10_1).f1.f1))) (ds := []) #[false, false, false, false, false, false, false, false, false, false, false, false, false] (by kernel_rfl) rfl rfl ⟨(blk_cell BK787.out 0).trans rfl, (blk_cell BK787.out 1).trans rfl, (blk_cell BK787.out 2).trans rfl, ((HB.out.cell (World.block_lt_of_cell? w _ hw802_0)).trans hw802_0), ((HB.out.cell (World.block_lt_of_cell? w _ hw802_1)).trans hw802_1), ((HB.out.cell (World.block_lt_of_cell? w _ hw802_2)).trans hw802_2), ((HB.out.cell (World.block_lt_of_cell? w _ hw802_3)).trans hw802_3)⟩ (fun hHeld => ?_); refine with_tabW spec_StabiliserIn.tab10 spec_StabiliserIn.bits10 (fun HT_ HW_ => ?_)
                    generalize wr.drew = w39 at HO_9 BK787 HB hx802_0 hx802_1 hx802_2 hx802_3 hHeld ⊢
                    refine pure_ (i := 0) (N := some 36) (v := ?_) (a' := ?_) #[true, false, false, false, false, false, false, false, false, false, false, false, false] rfl rfl (any_of HT_.out (by kernel_rfl)) (fun _ _ _ h => h) (Or.inl ⟨by rfl, ?_⟩) ?_ ?_
                    rotate_left
                    · intro w'
                      go_simp
                      with_reducible rfl
                    rotate_left
                    · simp only [Act.put, List.setIfInBounds_toArray, List.set_cons_zero, List.set_cons_succ, i64_w, i32_w]
                      rfl
                    refine pure_ (i := 1) (N := some 37) (v := ?_) (a' := ?_) #[true, true, false, false, false, false, false, false, false, false, false, false, false] rfl rfl (any_of HT_.out (by kernel_rfl)) (fun _ _ _ h => h) (Or.inl ⟨by rfl, ?_⟩) ?_ ?_
                    rotate_left
                    · intro w'
                      go_simp
                      with_reducible rfl
                    rotate_left
                    · simp only [Act.put, List.setIfInBounds_toArray, List.set_cons_zero, List.set_cons_succ, i64_w, i32_w]
                      rfl
                    refine pure_ (i := 2) (N := some 38) (v := ?_) (a' := ?_) #[true, true, true, false, false, false, false, false, false, false, false, false, false] rfl rfl (any_of HT_.out (by kernel_rfl)) (fun _ _ _ h => h) (Or.inl ⟨by rfl, ?_⟩) ?_ ?_
                    rotate_left
                    · intro w'
                      go_simp
                      with_reducible rfl
                    rotate_left
                    · simp only [Act.put, List.setIfInBounds_toArray, List.set_cons_zero, List.set_cons_succ, i64_w, i32_w]
                      rfl
                    refine pure_ (i := 3) (N := some 39) (v := ?_) (a' := ?_) #[true, true, true, true, false, false, false, false, false, false, false, false, false] rfl rfl (any_of HT_.out (by kernel_rfl)) (fun _ _ _ h => h) (Or.inl ⟨by rfl, ?_⟩) ?_ ?_
                    rotate_left
                    · intro w'
                      go_simp
                      with_reducible rfl
                    rotate_left
                    · simp only [Act.put, List.setIfInBounds_toArray, List.set_cons_zero, List.set_cons_succ, i64_w, i32_w]
                      rfl
                    refine take_ (i := 4) (N := some 40) (v := ?_) (a' := ?_) #[true, true, true, true, true, false, false, false, false, false, false, false, false] rfl rfl (take_ofW HT_.out HW_.out (by kernel_rfl)) (fun _ _ _ h => h) (Or.inl ⟨by rfl, ?_⟩) hHeld ?_ ?_
                    rotate_left
                    · rintro w' ⟨s0, s1, s2, s3, s4, s5, s6⟩
                      go_simp
                      with_reducible rfl
                    rotate_left
                    · simp only [Act.put, List.setIfInBounds_toArray, List.set_cons_zero, List.set_cons_succ, i64_w, i32_w]
                      rfl
                    refine take_ (i := 5) (N := some 41) (v := ?_) (a' := ?_) #[true, true, true, true, true, true, false, false, false, false, false, false, false] rfl rfl (take_ofW HT_.out HW_.out (by kernel_rfl)) (fun _ _ _ h => h) (Or.inl ⟨by rfl, ?_⟩) hHeld ?_ ?_
                    rotate_left
                    · rintro w' ⟨s0, s1, s2, s3, s4, s5, s6⟩
                      go_simp
                      with_reducible rfl
                    rotate_left
                    · simp only [Act.put, List.setIfInBounds_toArray, List.set_cons_zero, List.set_cons_succ, i64_w, i32_w]
                      rfl
                    refine join_ (σ := Nat) 2 #[true, true, true, true, true, true, true, true, true, true, true, false, false] (fun s_ => [(42, .tuple #[.agg #[.int .i64 t803, .int .i64 t804, .int .i64 t805], .bool true]), (11, .pointer (some ⟨s_, 0, none⟩)), (35, .tuple #[.agg #[.int .i64 t803, .int .i64 t804, .int .i64 t805], .bool true]), (43, .agg #[.int .i64 t803, .int .i64 t804, .int .i64 t805]), (44, .bool true)]) (fun s_ w' => (w'.cell? ⟨gb787, 0, none⟩ = some (.int .i64 a2_0) ∧ w'.cell? ⟨gb787, 1, none⟩ = some (.int .i64 a2_1) ∧ w'.cell? ⟨gb787, 2, none⟩ = some (.int .i64 a2_2) ∧ w'.cell? (ad802.add ((x10_1).toNat * 4)) = some (.int .i64 ((rd_T25 l1 x10_1).f0.f0)) ∧ w'.cell? ⟨(ad802.add ((x10_1).toNat * 4)).block, (ad802.add ((x10_1).toNat * 4)).off + 1, none⟩ = some (.int .i64 ((rd_T25 l1 x10_1).f0.f1)) ∧ w'.cell? ⟨(ad802.add ((x10_1).toNat * 4)).block, (ad802.add ((x10_1).toNat * 4)).off + 2, none⟩ = some (.int .i64 ((rd_T25 l1 x10_1).f1.f0)) ∧ w'.cell? ⟨(ad802.add ((x10_1).toNat * 4)).block, (ad802.add ((x10_1).toNat * 4)).off + 3, none⟩ = some (.int .i64 ((rd_T25 l1 x10_1).f1.f1))) ∧ (Kd.R (Kd.int .i64) 2 w' w.heap.size (fun _ => True) u9 x9_1) ∧ (w'.heap[gb787]? = some (.cells #[.int .i64 a2_0, .int .i64 a2_1, .int .i64 a2_2] 55 (0, 0))) ∧ (w'.heap[s_]? = some (.cells #[.int .i64 0, .int .i64 0, .int .i64 0] 55 (0, 0))) ∧ (w.heap.size ≤ s_) ∧ (w.heap.size ≤ s_) ∧ (gb787 ≠ s_) ∧ (s_ ≠ gb787) ∧ (Below w.heap.size w w')) ?_ ?_
                    rotate_left
                    · intro hCont
                      refine two_ (i := 6) (j := 10) (Ni := some 42) (Nj := some 11) #[true, true, true, true, true, true, true, false, false, false, false, false, false] #[true, true, true, true, true, true, false, false, false, false, true, false, false] rfl rfl rfl rfl (two_of HT_.out (by kernel_rfl)) (by decide) (by decide) (fun K hK => ?_) (fun K hK => ?_)
                      · skip
                        refine goes_ Try.func77 (by kernel_rfl) rfl #[.int .i64 a0, .agg #[.int .i64 ((rd_T25 l1 x10_1).f0.f0), .int .i64 ((rd_T25 l1 x10_1).f0.f1), .int .i64 ((rd_T25 l1 x10_1).f1.f0), .int .i64 ((rd_T25 l1 x10_1).f1.f1)], .agg #[.int .i64 a2_0, .int .i64 a2_1, .int .i64 a2_2]] (by rfl) rfl rfl (by (try simp only [List.map_toArray, List.map_cons, List.map_nil]); first | done | rfl | (simp only [List.length_drop, List.length_take]; rfl)) ?_
                        with_reducible refine (spec_l04Move.calls k1 a0 ((rd_T25 l1 x10_1).f0.f0) ((rd_T25 l1 x10_1).f0.f1) ((rd_T25 l1 x10_1).f1.f0) ((rd_T25 l1 x10_1).f1.f1) a2_0 a2_1 a2_2 t803 t804 t805 true _ A24.out).mono ?_
                        rintro e w40 ⟨rfl, hb⟩
                        refine ⟨_, rfl, ?_⟩
                        have n0_ := Aside0.mk (Kd.R_below (by (with_reducible repeat (first | apply Kd.R_alloc | apply Kd.R_drewN | apply Kd.R_drew)); exact HO_9.out) hb)
                        have n1_ := Aside0.mk (blk_below (bkA BK787) hb)
                        have n2_ := Aside0.mk (below_step blA hb)
                        clear HO_9
                        clear BK787
                        clear HB
                        have HO_9 := n0_
                        have BK787 := n1_
                        have HB := n2_
                        clear n0_ n1_ n2_
                        (try clear hb)
                        (try clear hb2)
                        (try clear hk)
                        (try clear hi)
                        refine hK.out _ _ ⟨(blk_cell BK787.out 0).trans rfl, (blk_cell BK787.out 1).trans rfl, (blk_cell BK787.out 2).trans rfl, ((HB.out.cell (World.block_lt_of_cell? w _ hw802_0)).trans hw802_0), ((HB.out.cell (World.block_lt_of_cell? w _ hw802_1)).trans hw802_1), ((HB.out.cell (World.block_lt_of_cell? w _ hw802_2)).trans hw802_2), ((HB.out.cell (World.block_lt_of_cell? w _ hw802_3)).trans hw802_3)⟩ (fun hHeld => ?_)
                        clear hK K
                        refine norm_ (a' := ?_) ?_ ?_
                        rotate_left
                        · show Act.put _ (some 42) _ = _
                          simp only [Act.put, List.setIfInBounds_toArray, List.set_cons_zero, List.set_cons_succ, i64_w, i32_w]
                          rfl
                        refine pure_ (i := 7) (N := some 35) (v := ?_) (a' := ?_) #[true, true, true, true, true, true, true, true, false, false, false, false, false] rfl rfl (any_of HT_.out (by kernel_rfl)) (fun _ _ _ h => h) (Or.inl ⟨by rfl, ?_⟩) ?_ ?_
                        rotate_left
                        · intro w'
                          go_simp
                          with_reducible rfl
                        rotate_left
                        · simp only [Act.put, List.setIfInBounds_toArray, List.set_cons_zero, List.set_cons_succ, i64_w, i32_w]
                          rfl
                        refine pure_ (i := 8) (N := some 43) (v := ?_) (a' := ?_) #[true, true, true, true, true, true, true, true, true, false, false, false, false] rfl rfl (any_of HT_.out (by kernel_rfl)) (fun _ _ _ h => h) (Or.inl ⟨by rfl, ?_⟩) ?_ ?_
                        rotate_left
                        · intro w'
                          go_simp
                          with_reducible rfl
                        rotate_left
                        · simp only [Act.put, List.setIfInBounds_toArray, List.set_cons_zero, List.set_cons_succ, i64_w, i32_w]
                          rfl
                        refine pure_ (i := 9) (N := some 44) (v := ?_) (a' := ?_) #[true, true, true, true, true, true, true, true, true, true, false, false, false] rfl rfl (any_of HT_.out (by kernel_rfl)) (fun _ _ _ h => h) (Or.inl ⟨by rfl, ?_⟩) ?_ ?_
                        rotate_left
                        · intro w'
                          go_simp
                          with_reducible rfl
                        rotate_left
                        · simp only [Act.put, List.setIfInBounds_toArray, List.set_cons_zero, List.set_cons_succ, i64_w, i32_w]
                          rfl
                        refine one_ (i := 10) (N := some 11) #[true, true, true, true, true, true, true, true, true, true, true, false, false] rfl rfl (one_of HT_.out (by kernel_rfl)) (by decide) (fun K hK => ?_)
                        refine box_step ?hg (N := 11) ?hd (cs := #[.int .i64 0, .int .i64 0, .int .i64 0]) (t := 55) ?hr ?_; (case hd => rfl); (case hg => rfl); (case hr => first | (go_simp; done) | (go_simp; rfl))
                        intro gb807 hg w41 hbox hb
                        have n0_ := Aside0.mk (Kd.R_below (by (with_reducible repeat (first | apply Kd.R_alloc | apply Kd.R_drewN | apply Kd.R_drew)); exact HO_9.out) hb)
                        have n1_ := Aside0.mk (blk_below (bkA BK787) hb)
                        have n2_ := Aside0.mk (below_step blA hb)
                        have n3_ := Aside0.mk (hbox)
                        have n4_ := Aside0.mk (szA hg blA)
                        have n5_ := Aside0.mk (szA hg blA)
                        have n6_ := Aside0.mk (neA hg (bkA BK787))
                        have n7_ := Aside0.mk (neB hg (bkA BK787))
                        clear HO_9
                        clear BK787
                        clear HB
                        have HO_9 := n0_
                        have BK787 := n1_
                        have HB := n2_
                        have BK807 := n3_
                        have GW807 := n4_
                        have GE807 := n5_
                        have NB787_807 := n6_
                        have NB807_787 := n7_
                        clear n0_ n1_ n2_ n3_ n4_ n5_ n6_ n7_
                        clear hb hbox hg
                        refine hK.out _ _ ⟨(blk_cell BK787.out 0).trans rfl, (blk_cell BK787.out 1).trans rfl, (blk_cell BK787.out 2).trans rfl, ((HB.out.cell (World.block_lt_of_cell? w _ hw802_0)).trans hw802_0), ((HB.out.cell (World.block_lt_of_cell? w _ hw802_1)).trans hw802_1), ((HB.out.cell (World.block_lt_of_cell? w _ hw802_2)).trans hw802_2), ((HB.out.cell (World.block_lt_of_cell? w _ hw802_3)).trans hw802_3)⟩ (fun hHeld => ?_)
                        clear hK K
                        refine norm_ (a' := ?_) ?_ ?_
                        rotate_left
                        · show Act.put _ (some 11) _ = _
                          simp only [Act.put, List.setIfInBounds_toArray, List.set_cons_zero, List.set_cons_succ, i64_w, i32_w]
                          rfl
                        exact norm_ (by simp only [putAll, Act.put, List.setIfInBounds_toArray, List.set_cons_zero, List.set_cons_succ]) (hCont (gb807) _ ⟨hHeld, (by (with_reducible repeat (first | apply Kd.R_alloc | apply Kd.R_drewN | apply Kd.R_drew)); exact HO_9.out), (bkA BK787), (bkA BK807), GW807.out, GE807.out, NB787_807.out, NB807_787.out, blA⟩)
                      · skip
                        refine box_step ?hg (N := 11) ?hd (cs := #[.int .i64 0, .int .i64 0, .int .i64 0]) (t := 55) ?hr ?_; (case hd => rfl); (case hg => rfl); (case hr => first | (go_simp; done) | (go_simp; rfl))
                        intro gb807 hg w40 hbox hb
                        have n0_ := Aside0.mk (Kd.R_below (by (with_reducible repeat (first | apply Kd.R_alloc | apply Kd.R_drewN | apply Kd.R_drew)); exact HO_9.out) hb)
                        have n1_ := Aside0.mk (blk_below (bkA BK787) hb)
                        have n2_ := Aside0.mk (below_step blA hb)
                        have n3_ := Aside0.mk (hbox)
                        have n4_ := Aside0.mk (szA hg blA)
                        have n5_ := Aside0.mk (szA hg blA)
                        have n6_ := Aside0.mk (neA hg (bkA BK787))
                        have n7_ := Aside0.mk (neB hg (bkA BK787))
                        clear HO_9
                        clear BK787
                        clear HB
                        have HO_9 := n0_
                        have BK787 := n1_
                        have HB := n2_
                        have BK807 := n3_
                        have GW807 := n4_
                        have GE807 := n5_
                        have NB787_807 := n6_
                        have NB807_787 := n7_
                        clear n0_ n1_ n2_ n3_ n4_ n5_ n6_ n7_
                        clear hb hbox hg
                        refine hK.out _ _ ⟨(blk_cell BK787.out 0).trans rfl, (blk_cell BK787.out 1).trans rfl, (blk_cell BK787.out 2).trans rfl, ((HB.out.cell (World.block_lt_of_cell? w _ hw802_0)).trans hw802_0), ((HB.out.cell (World.block_lt_of_cell? w _ hw802_1)).trans hw802_1), ((HB.out.cell (World.block_lt_of_cell? w _ hw802_2)).trans hw802_2), ((HB.out.cell (World.block_lt_of_cell? w _ hw802_3)).trans hw802_3)⟩ (fun hHeld => ?_)
                        clear hK K
                        refine norm_ (a' := ?_) ?_ ?_
                        rotate_left
                        · show Act.put _ (some 11) _ = _
                          simp only [Act.put, List.setIfInBounds_toArray, List.set_cons_zero, List.set_cons_succ, i64_w, i32_w]
                          rfl
                        refine one_ (i := 6) (N := some 42) #[true, true, true, true, true, true, true, false, false, false, true, false, false] rfl rfl (one_of HT_.out (by kernel_rfl)) (by decide) (fun K hK => ?_)
                        refine goes_ Try.func77 (by kernel_rfl) rfl #[.int .i64 a0, .agg #[.int .i64 ((rd_T25 l1 x10_1).f0.f0), .int .i64 ((rd_T25 l1 x10_1).f0.f1), .int .i64 ((rd_T25 l1 x10_1).f1.f0), .int .i64 ((rd_T25 l1 x10_1).f1.f1)], .agg #[.int .i64 a2_0, .int .i64 a2_1, .int .i64 a2_2]] (by rfl) rfl rfl (by (try simp only [List.map_toArray, List.map_cons, List.map_nil]); first | done | rfl | (simp only [List.length_drop, List.length_take]; rfl)) ?_
                        with_reducible refine (spec_l04Move.calls k1 a0 ((rd_T25 l1 x10_1).f0.f0) ((rd_T25 l1 x10_1).f0.f1) ((rd_T25 l1 x10_1).f1.f0) ((rd_T25 l1 x10_1).f1.f1) a2_0 a2_1 a2_2 t803 t804 t805 true _ A24.out).mono ?_
                        rintro e w41 ⟨rfl, hb⟩
                        refine ⟨_, rfl, ?_⟩
                        have n0_ := Aside0.mk (Kd.R_below (by (with_reducible repeat (first | apply Kd.R_alloc | apply Kd.R_drewN | apply Kd.R_drew)); exact HO_9.out) hb)
                        have n1_ := Aside0.mk (blk_below (bkA BK787) hb)
                        have n2_ := Aside0.mk (blk_below (bkA BK807) hb)
                        have n3_ := Aside0.mk (below_step blA hb)
                        clear HO_9
                        clear BK787
                        clear BK807
                        clear HB
                        have HO_9 := n0_
                        have BK787 := n1_
                        have BK807 := n2_
                        have HB := n3_
                        clear n0_ n1_ n2_ n3_
                        (try clear hb)
                        (try clear hb2)
                        (try clear hk)
                        (try clear hi)
                        refine hK.out _ _ ⟨(blk_cell BK787.out 0).trans rfl, (blk_cell BK787.out 1).trans rfl, (blk_cell BK787.out 2).trans rfl, ((HB.out.cell (World.block_lt_of_cell? w _ hw802_0)).trans hw802_0), ((HB.out.cell (World.block_lt_of_cell? w _ hw802_1)).trans hw802_1), ((HB.out.cell (World.block_lt_of_cell? w _ hw802_2)).trans hw802_2), ((HB.out.cell (World.block_lt_of_cell? w _ hw802_3)).trans hw802_3)⟩ (fun hHeld => ?_)
                        clear hK K
                        refine norm_ (a' := ?_) ?_ ?_
                        rotate_left
                        · show Act.put _ (some 42) _ = _
                          simp only [Act.put, List.setIfInBounds_toArray, List.set_cons_zero, List.set_cons_succ, i64_w, i32_w]
                          rfl
                        refine pure_ (i := 7) (N := some 35) (v := ?_) (a' := ?_) #[true, true, true, true, true, true, true, true, false, false, true, false, false] rfl rfl (any_of HT_.out (by kernel_rfl)) (fun _ _ _ h => h) (Or.inl ⟨by rfl, ?_⟩) ?_ ?_
                        rotate_left
                        · intro w'
                          go_simp
                          with_reducible rfl
                        rotate_left
                        · simp only [Act.put, List.setIfInBounds_toArray, List.set_cons_zero, List.set_cons_succ, i64_w, i32_w]
                          rfl
                        refine pure_ (i := 8) (N := some 43) (v := ?_) (a' := ?_) #[true, true, true, true, true, true, true, true, true, false, true, false, false] rfl rfl (any_of HT_.out (by kernel_rfl)) (fun _ _ _ h => h) (Or.inl ⟨by rfl, ?_⟩) ?_ ?_
                        rotate_left
                        · intro w'
                          go_simp
                          with_reducible rfl
                        rotate_left
                        · simp only [Act.put, List.setIfInBounds_toArray, List.set_cons_zero, List.set_cons_succ, i64_w, i32_w]
                          rfl
                        refine pure_ (i := 9) (N := some 44) (v := ?_) (a' := ?_) #[true, true, true, true, true, true, true, true, true, true, true, false, false] rfl rfl (any_of HT_.out (by kernel_rfl)) (fun _ _ _ h => h) (Or.inl ⟨by rfl, ?_⟩) ?_ ?_
                        rotate_left
                        · intro w'
                          go_simp
                          with_reducible rfl
                        rotate_left
                        · simp only [Act.put, List.setIfInBounds_toArray, List.set_cons_zero, List.set_cons_succ, i64_w, i32_w]
                          rfl
                        exact norm_ (by simp only [putAll, Act.put, List.setIfInBounds_toArray, List.set_cons_zero, List.set_cons_succ]) (hCont (gb807) _ ⟨hHeld, (by (with_reducible repeat (first | apply Kd.R_alloc | apply Kd.R_drewN | apply Kd.R_drew)); exact HO_9.out), (bkA BK787), (bkA BK807), GW807.out, GE807.out, NB787_807.out, NB807_787.out, blA⟩)
                    rintro gb807 w42 ⟨hS_, h0_, h1_, h2_, h3_, h4_, h5_, h6_, h7_⟩
                    have n0_ : Aside0 (Kd.R (Kd.int .i64) 2 w42 w.heap.size (fun _ => True) u9 x9_1) := ⟨h0_⟩
                    have n1_ : Aside0 (w42.heap[gb787]? = some (.cells #[.int .i64 a2_0, .int .i64 a2_1, .int .i64 a2_2] 55 (0, 0))) := ⟨h1_⟩
                    have n2_ : Aside0 (w42.heap[gb807]? = some (.cells #[.int .i64 0, .int .i64 0, .int .i64 0] 55 (0, 0))) := ⟨h2_⟩
                    have n3_ : Aside0 (w.heap.size ≤ gb807) := ⟨h3_⟩
                    have n4_ : Aside0 (w.heap.size ≤ gb807) := ⟨h4_⟩
                    have n5_ : Aside0 (gb787 ≠ gb807) := ⟨h5_⟩
                    have n6_ : Aside0 (gb807 ≠ gb787) := ⟨h6_⟩
                    have n7_ : Aside0 (Below w.heap.size w w42) := ⟨h7_⟩
                    clear HO_9
                    clear BK787
                    clear HB
                    clear h0_ h1_ h2_ h3_ h4_ h5_ h6_ h7_
                    have HO_9 := n0_
                    have BK787 := n1_
                    have BK807 := n2_
                    have GW807 := n3_
                    have GE807 := n4_
                    have NB787_807 := n5_
                    have NB807_787 := n6_
                    have HB := n7_
                    clear n0_ n1_ n2_ n3_ n4_ n5_ n6_ n7_
                    have hHeld : w42.cell? ⟨gb787, 0, none⟩ = some (.int .i64 a2_0) ∧ w42.cell? ⟨gb787, 1, none⟩ = some (.int .i64 a2_1) ∧ w42.cell? ⟨gb787, 2, none⟩ = some (.int .i64 a2_2) ∧ w42.cell? (ad802.add ((x10_1).toNat * 4)) = some (.int .i64 ((rd_T25 l1 x10_1).f0.f0)) ∧ w42.cell? ⟨(ad802.add ((x10_1).toNat * 4)).block, (ad802.add ((x10_1).toNat * 4)).off + 1, none⟩ = some (.int .i64 ((rd_T25 l1 x10_1).f0.f1)) ∧ w42.cell? ⟨(ad802.add ((x10_1).toNat * 4)).block, (ad802.add ((x10_1).toNat * 4)).off + 2, none⟩ = some (.int .i64 ((rd_T25 l1 x10_1).f1.f0)) ∧ w42.cell? ⟨(ad802.add ((x10_1).toNat * 4)).block, (ad802.add ((x10_1).toNat * 4)).off + 3, none⟩ = some (.int .i64 ((rd_T25 l1 x10_1).f1.f1)) := hS_
                    refine norm_ (a' := ?_) ?_ ?_
                    rotate_left
                    · simp only [putAll, Act.put, List.setIfInBounds_toArray, List.set_cons_zero, List.set_cons_succ]
                      rfl
                    refine one_ (i := 11) (N := none) #[true, true, true, true, true, true, true, true, true, true, true, true, false] rfl rfl (one_of HT_.out (by kernel_rfl)) (by decide) (fun K hK => ?_)
                    have hs43 : w42.cell? ⟨gb807, 0, none⟩ = some (.int .i64 0) := (blk_cell BK807.out 0).trans rfl
                    have hfs43 := blk_frozen BK807.out 0
                    have hns43_0 := NB787_807.out
                    have hms43_0 := NB807_787.out
                    have hs44 : w42.cell? ⟨gb807, 1, none⟩ = some (.int .i64 0) := (blk_cell BK807.out 1).trans rfl
                    have hfs44 := blk_frozen BK807.out 1
                    have hns44_0 := NB787_807.out
                    have hms44_0 := NB807_787.out
                    have hs45 : w42.cell? ⟨gb807, 2, none⟩ = some (.int .i64 0) := (blk_cell BK807.out 2).trans rfl
                    have hfs45 := blk_frozen BK807.out 2
                    have hns45_0 := NB787_807.out
                    have hms45_0 := NB807_787.out
                    refine skip_ (w1 := ?_) (by rfl) rfl ?_ ?_
                    rotate_left
                    · go_simp
                      rfl
                    refine hK.out _ _ ⟨((cell_far (p := ⟨gb807, _, none⟩) NB787_807.out _).trans (((cell_far (p := ⟨gb807, _, none⟩) NB787_807.out _).trans (((cell_far (p := ⟨gb807, _, none⟩) NB787_807.out _).trans (hHeld.1)))))), ((cell_far (p := ⟨gb807, _, none⟩) NB787_807.out _).trans (((cell_far (p := ⟨gb807, _, none⟩) NB787_807.out _).trans (((cell_far (p := ⟨gb807, _, none⟩) NB787_807.out _).trans (hHeld.2.1)))))), ((cell_far (p := ⟨gb807, _, none⟩) NB787_807.out _).trans (((cell_far (p := ⟨gb807, _, none⟩) NB787_807.out _).trans (((cell_far (p := ⟨gb807, _, none⟩) NB787_807.out _).trans (hHeld.2.2.1)))))), ((cell_far (p := ⟨gb807, _, none⟩) (by first | exact Nat.ne_of_lt (Nat.lt_of_lt_of_le (by have := World.block_lt_of_cell? _ _ hw802_0; first | rwa [add_block] at this | exact this) GW807.out) | (rw [add_block]; exact Nat.ne_of_lt (Nat.lt_of_lt_of_le (by have := World.block_lt_of_cell? _ _ hw802_0; first | rwa [add_block] at this | exact this) GW807.out)) | (show (Addr.add _ _).block ≠ _; rw [add_block]; exact Nat.ne_of_lt (Nat.lt_of_lt_of_le (by have := World.block_lt_of_cell? _ _ hw802_0; first | rwa [add_block] at this | exact this) GW807.out)) | (dsimp only; exact Nat.ne_of_lt (Nat.lt_of_lt_of_le (by have := World.block_lt_of_cell? _ _ hw802_0; first | rwa [add_block] at this | exact this) GW807.out))) _).trans (((cell_far (p := ⟨gb807, _, none⟩) (by first | exact Nat.ne_of_lt (Nat.lt_of_lt_of_le (by have := World.block_lt_of_cell? _ _ hw802_0; first | rwa [add_block] at this | exact this) GW807.out) | (rw [add_block]; exact Nat.ne_of_lt (Nat.lt_of_lt_of_le (by have := World.block_lt_of_cell? _ _ hw802_0; first | rwa [add_block] at this | exact this) GW807.out)) | (show (Addr.add _ _).block ≠ _; rw [add_block]; exact Nat.ne_of_lt (Nat.lt_of_lt_of_le (by have := World.block_lt_of_cell? _ _ hw802_0; first | rwa [add_block] at this | exact this) GW807.out)) | (dsimp only; exact Nat.ne_of_lt (Nat.lt_of_lt_of_le (by have := World.block_lt_of_cell? _ _ hw802_0; first | rwa [add_block] at this | exact this) GW807.out))) _).trans (((cell_far (p := ⟨gb807, _, none⟩) (by first | exact Nat.ne_of_lt (Nat.lt_of_lt_of_le (by have := World.block_lt_of_cell? _ _ hw802_0; first | rwa [add_block] at this | exact this) GW807.out) | (rw [add_block]; exact Nat.ne_of_lt (Nat.lt_of_lt_of_le (by have := World.block_lt_of_cell? _ _ hw802_0; first | rwa [add_block] at this | exact this) GW807.out)) | (show (Addr.add _ _).block ≠ _; rw [add_block]; exact Nat.ne_of_lt (Nat.lt_of_lt_of_le (by have := World.block_lt_of_cell? _ _ hw802_0; first | rwa [add_block] at this | exact this) GW807.out)) | (dsimp only; exact Nat.ne_of_lt (Nat.lt_of_lt_of_le (by have := World.block_lt_of_cell? _ _ hw802_0; first | rwa [add_block] at this | exact this) GW807.out))) _).trans (hHeld.2.2.2.1)))))), ((cell_far (p := ⟨gb807, _, none⟩) (by first | exact Nat.ne_of_lt (Nat.lt_of_lt_of_le (by have := World.block_lt_of_cell? _ _ hw802_1; first | rwa [add_block] at this | exact this) GW807.out) | (rw [add_block]; exact Nat.ne_of_lt (Nat.lt_of_lt_of_le (by have := World.block_lt_of_cell? _ _ hw802_1; first | rwa [add_block] at this | exact this) GW807.out)) | (show (Addr.add _ _).block ≠ _; rw [add_block]; exact Nat.ne_of_lt (Nat.lt_of_lt_of_le (by have := World.block_lt_of_cell? _ _ hw802_1; first | rwa [add_block] at this | exact this) GW807.out)) | (dsimp only; exact Nat.ne_of_lt (Nat.lt_of_lt_of_le (by have := World.block_lt_of_cell? _ _ hw802_1; first | rwa [add_block] at this | exact this) GW807.out))) _).trans (((cell_far (p := ⟨gb807, _, none⟩) (by first | exact Nat.ne_of_lt (Nat.lt_of_lt_of_le (by have := World.block_lt_of_cell? _ _ hw802_1; first | rwa [add_block] at this | exact this) GW807.out) | (rw [add_block]; exact Nat.ne_of_lt (Nat.lt_of_lt_of_le (by have := World.block_lt_of_cell? _ _ hw802_1; first | rwa [add_block] at this | exact this) GW807.out)) | (show (Addr.add _ _).block ≠ _; rw [add_block]; exact Nat.ne_of_lt (Nat.lt_of_lt_of_le (by have := World.block_lt_of_cell? _ _ hw802_1; first | rwa [add_block] at this | exact this) GW807.out)) | (dsimp only; exact Nat.ne_of_lt (Nat.lt_of_lt_of_le (by have := World.block_lt_of_cell? _ _ hw802_1; first | rwa [add_block] at this | exact this) GW807.out))) _).trans (((cell_far (p := ⟨gb807, _, none⟩) (by first | exact Nat.ne_of_lt (Nat.lt_of_lt_of_le (by have := World.block_lt_of_cell? _ _ hw802_1; first | rwa [add_block] at this | exact this) GW807.out) | (rw [add_block]; exact Nat.ne_of_lt (Nat.lt_of_lt_of_le (by have := World.block_lt_of_cell? _ _ hw802_1; first | rwa [add_block] at this | exact this) GW807.out)) | (show (Addr.add _ _).block ≠ _; rw [add_block]; exact Nat.ne_of_lt (Nat.lt_of_lt_of_le (by have := World.block_lt_of_cell? _ _ hw802_1; first | rwa [add_block] at this | exact this) GW807.out)) | (dsimp only; exact Nat.ne_of_lt (Nat.lt_of_lt_of_le (by have := World.block_lt_of_cell? _ _ hw802_1; first | rwa [add_block] at this | exact this) GW807.out))) _).trans (hHeld.2.2.2.2.1)))))), ((cell_far (p := ⟨gb807, _, none⟩) (by first | exact Nat.ne_of_lt (Nat.lt_of_lt_of_le (by have := World.block_lt_of_cell? _ _ hw802_2; first | rwa [add_block] at this | exact this) GW807.out) | (rw [add_block]; exact Nat.ne_of_lt (Nat.lt_of_lt_of_le (by have := World.block_lt_of_cell? _ _ hw802_2; first | rwa [add_block] at this | exact this) GW807.out)) | (show (Addr.add _ _).block ≠ _; rw [add_block]; exact Nat.ne_of_lt (Nat.lt_of_lt_of_le (by have := World.block_lt_of_cell? _ _ hw802_2; first | rwa [add_block] at this | exact this) GW807.out)) | (dsimp only; exact Nat.ne_of_lt (Nat.lt_of_lt_of_le (by have := World.block_lt_of_cell? _ _ hw802_2; first | rwa [add_block] at this | exact this) GW807.out))) _).trans (((cell_far (p := ⟨gb807, _, none⟩) (by first | exact Nat.ne_of_lt (Nat.lt_of_lt_of_le (by have := World.block_lt_of_cell? _ _ hw802_2; first | rwa [add_block] at this | exact this) GW807.out) | (rw [add_block]; exact Nat.ne_of_lt (Nat.lt_of_lt_of_le (by have := World.block_lt_of_cell? _ _ hw802_2; first | rwa [add_block] at this | exact this) GW807.out)) | (show (Addr.add _ _).block ≠ _; rw [add_block]; exact Nat.ne_of_lt (Nat.lt_of_lt_of_le (by have := World.block_lt_of_cell? _ _ hw802_2; first | rwa [add_block] at this | exact this) GW807.out)) | (dsimp only; exact Nat.ne_of_lt (Nat.lt_of_lt_of_le (by have := World.block_lt_of_cell? _ _ hw802_2; first | rwa [add_block] at this | exact this) GW807.out))) _).trans (((cell_far (p := ⟨gb807, _, none⟩) (by first | exact Nat.ne_of_lt (Nat.lt_of_lt_of_le (by have := World.block_lt_of_cell? _ _ hw802_2; first | rwa [add_block] at this | exact this) GW807.out) | (rw [add_block]; exact Nat.ne_of_lt (Nat.lt_of_lt_of_le (by have := World.block_lt_of_cell? _ _ hw802_2; first | rwa [add_block] at this | exact this) GW807.out)) | (show (Addr.add _ _).block ≠ _; rw [add_block]; exact Nat.ne_of_lt (Nat.lt_of_lt_of_le (by have := World.block_lt_of_cell? _ _ hw802_2; first | rwa [add_block] at this | exact this) GW807.out)) | (dsimp only; exact Nat.ne_of_lt (Nat.lt_of_lt_of_le (by have := World.block_lt_of_cell? _ _ hw802_2; first | rwa [add_block] at this | exact this) GW807.out))) _).trans (hHeld.2.2.2.2.2.1)))))), ((cell_far (p := ⟨gb807, _, none⟩) (by first | exact Nat.ne_of_lt (Nat.lt_of_lt_of_le (by have := World.block_lt_of_cell? _ _ hw802_3; first | rwa [add_block] at this | exact this) GW807.out) | (rw [add_block]; exact Nat.ne_of_lt (Nat.lt_of_lt_of_le (by have := World.block_lt_of_cell? _ _ hw802_3; first | rwa [add_block] at this | exact this) GW807.out)) | (show (Addr.add _ _).block ≠ _; rw [add_block]; exact Nat.ne_of_lt (Nat.lt_of_lt_of_le (by have := World.block_lt_of_cell? _ _ hw802_3; first | rwa [add_block] at this | exact this) GW807.out)) | (dsimp only; exact Nat.ne_of_lt (Nat.lt_of_lt_of_le (by have := World.block_lt_of_cell? _ _ hw802_3; first | rwa [add_block] at this | exact this) GW807.out))) _).trans (((cell_far (p := ⟨gb807, _, none⟩) (by first | exact Nat.ne_of_lt (Nat.lt_of_lt_of_le (by have := World.block_lt_of_cell? _ _ hw802_3; first | rwa [add_block] at this | exact this) GW807.out) | (rw [add_block]; exact Nat.ne_of_lt (Nat.lt_of_lt_of_le (by have := World.block_lt_of_cell? _ _ hw802_3; first | rwa [add_block] at this | exact this) GW807.out)) | (show (Addr.add _ _).block ≠ _; rw [add_block]; exact Nat.ne_of_lt (Nat.lt_of_lt_of_le (by have := World.block_lt_of_cell? _ _ hw802_3; first | rwa [add_block] at this | exact this) GW807.out)) | (dsimp only; exact Nat.ne_of_lt (Nat.lt_of_lt_of_le (by have := World.block_lt_of_cell? _ _ hw802_3; first | rwa [add_block] at this | exact this) GW807.out))) _).trans (((cell_far (p := ⟨gb807, _, none⟩) (by first | exact Nat.ne_of_lt (Nat.lt_of_lt_of_le (by have := World.block_lt_of_cell? _ _ hw802_3; first | rwa [add_block] at this | exact this) GW807.out) | (rw [add_block]; exact Nat.ne_of_lt (Nat.lt_of_lt_of_le (by have := World.block_lt_of_cell? _ _ hw802_3; first | rwa [add_block] at this | exact this) GW807.out)) | (show (Addr.add _ _).block ≠ _; rw [add_block]; exact Nat.ne_of_lt (Nat.lt_of_lt_of_le (by have := World.block_lt_of_cell? _ _ hw802_3; first | rwa [add_block] at this | exact this) GW807.out)) | (dsimp only; exact Nat.ne_of_lt (Nat.lt_of_lt_of_le (by have := World.block_lt_of_cell? _ _ hw802_3; first | rwa [add_block] at this | exact this) GW807.out))) _).trans (hHeld.2.2.2.2.2.2))))))⟩ (fun hHeld => ?_)
                    clear hK K
                    refine pure_ (i := 12) (N := some 12) (v := ?_) (a' := ?_) #[true, true, true, true, true, true, true, true, true, true, true, true, true] rfl rfl (any_of HT_.out (by kernel_rfl)) (fun _ _ _ h => h) (Or.inl ⟨by rfl, ?_⟩) ?_ ?_
                    rotate_left
                    · intro w'
                      go_simp
                      with_reducible rfl
                    rotate_left
                    · simp only [Act.put, List.setIfInBounds_toArray, List.set_cons_zero, List.set_cons_succ, i64_w, i32_w]
                      rfl
                    refine done_ (done_of HT_.out (by kernel_rfl)) ?_
                    have hnb46 := NB807_787.out
                    have hnc46 := NB787_807.out
                    have hcz47_0 : w42.cell? ⟨gb807, 0, none⟩ = some (.int .i64 0) := (blk_cell BK807.out 0).trans rfl
                    have hcz47_1 : w42.cell? ⟨gb807, 1, none⟩ = some (.int .i64 0) := (blk_cell BK807.out 1).trans rfl
                    have hcz47_2 : w42.cell? ⟨gb807, 2, none⟩ = some (.int .i64 0) := (blk_cell BK807.out 2).trans rfl
                    have hfz47_0 := blk_frozen BK807.out 0
                    have hfz47_1 := blk_frozen BK807.out 1
                    have hfz47_2 := blk_frozen BK807.out 2
                    have hcz48_0 : w42.cell? ⟨gb787, 0, none⟩ = some (.int .i64 a2_0) := (blk_cell BK787.out 0).trans rfl
                    have hcz48_1 : w42.cell? ⟨gb787, 1, none⟩ = some (.int .i64 a2_1) := (blk_cell BK787.out 1).trans rfl
                    have hcz48_2 : w42.cell? ⟨gb787, 2, none⟩ = some (.int .i64 a2_2) := (blk_cell BK787.out 2).trans rfl
                    have hfz48_0 := blk_frozen BK787.out 0
                    have hfz48_1 := blk_frozen BK787.out 1
                    have hfz48_2 := blk_frozen BK787.out 2
                    try go_wp2
                    go_roundg k1
                    case measure => have := HK1.out; omega
                    case rel => exact ⟨(x9_1), (wrap64 (x10_1 + 1)), (by first | rfl | (simp; done) | (simp [*]; done)), H', ⟨by have := HK1.out; omega⟩, ⟨by (with_reducible repeat (first | apply Kd.R_alloc | apply Kd.R_drewN | apply Kd.R_drew)); exact Kd.R_mono (Kd.R_far (p := ⟨gb807, 2, none⟩) (Kd.R_far (p := ⟨gb807, 1, none⟩) (Kd.R_far (p := ⟨gb807, 0, none⟩) (Kd.R_types HO_9.out BK807.out (by decide)) (fun _ hk => hk.2) (.int .i64 t803)) (fun _ hk => hk.2) (.int .i64 t804)) (fun _ hk => hk.2) (.int .i64 t805)) (fun _ hk => trivial)⟩, ⟨by (with_reducible repeat (first | refine blk_drewN ?_ _ | refine blk_drew ?_ | refine blk_alloc ?_ _)); refine blk_far ?_ NB787_807.out _; (with_reducible repeat (first | refine blk_drewN ?_ _ | refine blk_drew ?_ | refine blk_alloc ?_ _)); refine blk_far ?_ NB787_807.out _; (with_reducible repeat (first | refine blk_drewN ?_ _ | refine blk_drew ?_ | refine blk_alloc ?_ _)); refine blk_far ?_ NB787_807.out _; (with_reducible repeat (first | refine blk_drewN ?_ _ | refine blk_drew ?_ | refine blk_alloc ?_ _)); exact BK787.out⟩, ⟨blA⟩⟩
                · replace c25 := Bool.eq_false_iff.mpr c25
                  subst c25
                  have H1 : (spec_StabiliserIn.l0 k1 a0 l1 x9_1 (wrap64 (x10_1 + 1)) a2_0 a2_1 a2_2) = some (r1, r2) := by rw [if_neg (show ¬ (false = true) by decide)] at H; exact H
                  clear H
                  have H := H1
                  clear H1
                  have H' := Aside0.mk H
                  clear H
                  try go_wp2
                  have n0_ := Aside0.mk (Kd.R_drew HO_9.out)
                  have n1_ := Aside0.mk (blk_drew BK787.out)
                  have n2_ := Aside0.mk (below_drew1 HB.out)
                  clear HO_9
                  clear BK787
                  clear HB
                  have HO_9 := n0_
                  have BK787 := n1_
                  have HB := n2_
                  clear n0_ n1_ n2_
                  have p802 : 0 ≤ (x10_1 : Int) := of_decide_eq_true (by first | (with_reducible assumption) | assumption)
                  have q802 : x10_1 < (l1.length : Int) := of_decide_eq_true (by first | (with_reducible assumption) | assumption)
                  obtain ⟨ad802, e802, hx802_0, hx802_1, hx802_2, hx802_3⟩ := at_T25 HR1.out x10_1 p802 q802
                  have hw802_3 := hx802_3
                  have hw802_2 := hx802_2
                  have hw802_1 := hx802_1
                  have hw802_0 := hx802_0
                  cases e802
                  replace hx802_0 := (HB.out.cell (World.block_lt_of_cell? w _ hx802_0)).trans hx802_0
                  replace hx802_1 := (HB.out.cell (World.block_lt_of_cell? w _ hx802_1)).trans hx802_1
                  replace hx802_2 := (HB.out.cell (World.block_lt_of_cell? w _ hx802_2)).trans hx802_2
                  replace hx802_3 := (HB.out.cell (World.block_lt_of_cell? w _ hx802_3)).trans hx802_3
                  replace p802 := eq_true p802
                  replace q802 := eq_true q802
                  refine start_ (n := 13) (S := fun w' => w'.cell? ⟨gb787, 0, none⟩ = some (.int .i64 a2_0) ∧ w'.cell? ⟨gb787, 1, none⟩ = some (.int .i64 a2_1) ∧ w'.cell? ⟨gb787, 2, none⟩ = some (.int .i64 a2_2) ∧ w'.cell? (ad802.add ((x10_1).toNat * 4)) = some (.int .i64 ((rd_T25 l1 x10_1).f0.f0)) ∧ w'.cell? ⟨(ad802.add ((x10_1).toNat * 4)).block, (ad802.add ((x10_1).toNat * 4)).off + 1, none⟩ = some (.int .i64 ((rd_T25 l1 x10_1).f0.f1)) ∧ w'.cell? ⟨(ad802.add ((x10_1).toNat * 4)).block, (ad802.add ((x10_1).toNat * 4)).off + 2, none⟩ = some (.int .i64 ((rd_T25 l1 x10_1).f1.f0)) ∧ w'.cell? ⟨(ad802.add ((x10_1).toNat * 4)).block, (ad802.add ((x10_1).toNat * 4)).off + 3, none⟩ = some (.int .i64 ((rd_T25 l1 x10_1).f1.f1))) (ds := []) #[false, false, false, false, false, false, false, false, false, false, false, false, false] (by kernel_rfl) rfl rfl ⟨(blk_cell BK787.out 0).trans rfl, (blk_cell BK787.out 1).trans rfl, (blk_cell BK787.out 2).trans rfl, ((HB.out.cell (World.block_lt_of_cell? w _ hw802_0)).trans hw802_0), ((HB.out.cell (World.block_lt_of_cell? w _ hw802_1)).trans hw802_1), ((HB.out.cell (World.block_lt_of_cell? w _ hw802_2)).trans hw802_2), ((HB.out.cell (World.block_lt_of_cell? w _ hw802_3)).trans hw802_3)⟩ (fun hHeld => ?_); refine with_tabW spec_StabiliserIn.tab10 spec_StabiliserIn.bits10 (fun HT_ HW_ => ?_)
                  generalize wr.drew = w49 at HO_9 BK787 HB hx802_0 hx802_1 hx802_2 hx802_3 hHeld ⊢
                  refine pure_ (i := 0) (N := some 36) (v := ?_) (a' := ?_) #[true, false, false, false, false, false, false, false, false, false, false, false, false] rfl rfl (any_of HT_.out (by kernel_rfl)) (fun _ _ _ h => h) (Or.inl ⟨by rfl, ?_⟩) ?_ ?_
                  rotate_left
                  · intro w'
                    go_simp
                    with_reducible rfl
                  rotate_left
                  · simp only [Act.put, List.setIfInBounds_toArray, List.set_cons_zero, List.set_cons_succ, i64_w, i32_w]
                    rfl
                  refine pure_ (i := 1) (N := some 37) (v := ?_) (a' := ?_) #[true, true, false, false, false, false, false, false, false, false, false, false, false] rfl rfl (any_of HT_.out (by kernel_rfl)) (fun _ _ _ h => h) (Or.inl ⟨by rfl, ?_⟩) ?_ ?_
                  rotate_left
                  · intro w'
                    go_simp
                    with_reducible rfl
                  rotate_left
                  · simp only [Act.put, List.setIfInBounds_toArray, List.set_cons_zero, List.set_cons_succ, i64_w, i32_w]
                    rfl
                  refine pure_ (i := 2) (N := some 38) (v := ?_) (a' := ?_) #[true, true, true, false, false, false, false, false, false, false, false, false, false] rfl rfl (any_of HT_.out (by kernel_rfl)) (fun _ _ _ h => h) (Or.inl ⟨by rfl, ?_⟩) ?_ ?_
                  rotate_left
                  · intro w'
                    go_simp
                    with_reducible rfl
                  rotate_left
                  · simp only [Act.put, List.setIfInBounds_toArray, List.set_cons_zero, List.set_cons_succ, i64_w, i32_w]
                    rfl
                  refine pure_ (i := 3) (N := some 39) (v := ?_) (a' := ?_) #[true, true, true, true, false, false, false, false, false, false, false, false, false] rfl rfl (any_of HT_.out (by kernel_rfl)) (fun _ _ _ h => h) (Or.inl ⟨by rfl, ?_⟩) ?_ ?_
                  rotate_left
                  · intro w'
                    go_simp
                    with_reducible rfl
                  rotate_left
                  · simp only [Act.put, List.setIfInBounds_toArray, List.set_cons_zero, List.set_cons_succ, i64_w, i32_w]
                    rfl
                  refine take_ (i := 4) (N := some 40) (v := ?_) (a' := ?_) #[true, true, true, true, true, false, false, false, false, false, false, false, false] rfl rfl (take_ofW HT_.out HW_.out (by kernel_rfl)) (fun _ _ _ h => h) (Or.inl ⟨by rfl, ?_⟩) hHeld ?_ ?_
                  rotate_left
                  · rintro w' ⟨s0, s1, s2, s3, s4, s5, s6⟩
                    go_simp
                    with_reducible rfl
                  rotate_left
                  · simp only [Act.put, List.setIfInBounds_toArray, List.set_cons_zero, List.set_cons_succ, i64_w, i32_w]
                    rfl
                  refine take_ (i := 5) (N := some 41) (v := ?_) (a' := ?_) #[true, true, true, true, true, true, false, false, false, false, false, false, false] rfl rfl (take_ofW HT_.out HW_.out (by kernel_rfl)) (fun _ _ _ h => h) (Or.inl ⟨by rfl, ?_⟩) hHeld ?_ ?_
                  rotate_left
                  · rintro w' ⟨s0, s1, s2, s3, s4, s5, s6⟩
                    go_simp
                    with_reducible rfl
                  rotate_left
                  · simp only [Act.put, List.setIfInBounds_toArray, List.set_cons_zero, List.set_cons_succ, i64_w, i32_w]
                    rfl
                  refine join_ (σ := Nat) 2 #[true, true, true, true, true, true, true, true, true, true, true, false, false] (fun s_ => [(42, .tuple #[.agg #[.int .i64 t803, .int .i64 t804, .int .i64 t805], .bool false]), (11, .pointer (some ⟨s_, 0, none⟩)), (35, .tuple #[.agg #[.int .i64 t803, .int .i64 t804, .int .i64 t805], .bool false]), (43, .agg #[.int .i64 t803, .int .i64 t804, .int .i64 t805]), (44, .bool false)]) (fun s_ w' => (w'.cell? ⟨gb787, 0, none⟩ = some (.int .i64 a2_0) ∧ w'.cell? ⟨gb787, 1, none⟩ = some (.int .i64 a2_1) ∧ w'.cell? ⟨gb787, 2, none⟩ = some (.int .i64 a2_2) ∧ w'.cell? (ad802.add ((x10_1).toNat * 4)) = some (.int .i64 ((rd_T25 l1 x10_1).f0.f0)) ∧ w'.cell? ⟨(ad802.add ((x10_1).toNat * 4)).block, (ad802.add ((x10_1).toNat * 4)).off + 1, none⟩ = some (.int .i64 ((rd_T25 l1 x10_1).f0.f1)) ∧ w'.cell? ⟨(ad802.add ((x10_1).toNat * 4)).block, (ad802.add ((x10_1).toNat * 4)).off + 2, none⟩ = some (.int .i64 ((rd_T25 l1 x10_1).f1.f0)) ∧ w'.cell? ⟨(ad802.add ((x10_1).toNat * 4)).block, (ad802.add ((x10_1).toNat * 4)).off + 3, none⟩ = some (.int .i64 ((rd_T25 l1 x10_1).f1.f1))) ∧ (Kd.R (Kd.int .i64) 2 w' w.heap.size (fun _ => True) u9 x9_1) ∧ (w'.heap[gb787]? = some (.cells #[.int .i64 a2_0, .int .i64 a2_1, .int .i64 a2_2] 55 (0, 0))) ∧ (w'.heap[s_]? = some (.cells #[.int .i64 0, .int .i64 0, .int .i64 0] 55 (0, 0))) ∧ (w.heap.size ≤ s_) ∧ (w.heap.size ≤ s_) ∧ (gb787 ≠ s_) ∧ (s_ ≠ gb787) ∧ (Below w.heap.size w w')) ?_ ?_
                  rotate_left
                  · intro hCont
                    refine two_ (i := 6) (j := 10) (Ni := some 42) (Nj := some 11) #[true, true, true, true, true, true, true, false, false, false, false, false, false] #[true, true, true, true, true, true, false, false, false, false, true, false, false] rfl rfl rfl rfl (two_of HT_.out (by kernel_rfl)) (by decide) (by decide) (fun K hK => ?_) (fun K hK => ?_)
                    · skip
                      refine goes_ Try.func77 (by kernel_rfl) rfl #[.int .i64 a0, .agg #[.int .i64 ((rd_T25 l1 x10_1).f0.f0), .int .i64 ((rd_T25 l1 x10_1).f0.f1), .int .i64 ((rd_T25 l1 x10_1).f1.f0), .int .i64 ((rd_T25 l1 x10_1).f1.f1)], .agg #[.int .i64 a2_0, .int .i64 a2_1, .int .i64 a2_2]] (by rfl) rfl rfl (by (try simp only [List.map_toArray, List.map_cons, List.map_nil]); first | done | rfl | (simp only [List.length_drop, List.length_take]; rfl)) ?_
                      with_reducible refine (spec_l04Move.calls k1 a0 ((rd_T25 l1 x10_1).f0.f0) ((rd_T25 l1 x10_1).f0.f1) ((rd_T25 l1 x10_1).f1.f0) ((rd_T25 l1 x10_1).f1.f1) a2_0 a2_1 a2_2 t803 t804 t805 false _ A24.out).mono ?_
                      rintro e w50 ⟨rfl, hb⟩
                      refine ⟨_, rfl, ?_⟩
                      have n0_ := Aside0.mk (Kd.R_below (by (with_reducible repeat (first | apply Kd.R_alloc | apply Kd.R_drewN | apply Kd.R_drew)); exact HO_9.out) hb)
                      have n1_ := Aside0.mk (blk_below (bkA BK787) hb)
                      have n2_ := Aside0.mk (below_step blA hb)
                      clear HO_9
                      clear BK787
                      clear HB
                      have HO_9 := n0_
                      have BK787 := n1_
                      have HB := n2_
                      clear n0_ n1_ n2_
                      (try clear hb)
                      (try clear hb2)
                      (try clear hk)
                      (try clear hi)
                      refine hK.out _ _ ⟨(blk_cell BK787.out 0).trans rfl, (blk_cell BK787.out 1).trans rfl, (blk_cell BK787.out 2).trans rfl, ((HB.out.cell (World.block_lt_of_cell? w _ hw802_0)).trans hw802_0), ((HB.out.cell (World.block_lt_of_cell? w _ hw802_1)).trans hw802_1), ((HB.out.cell (World.block_lt_of_cell? w _ hw802_2)).trans hw802_2), ((HB.out.cell (World.block_lt_of_cell? w _ hw802_3)).trans hw802_3)⟩ (fun hHeld => ?_)
                      clear hK K
                      refine norm_ (a' := ?_) ?_ ?_
                      rotate_left
                      · show Act.put _ (some 42) _ = _
                        simp only [Act.put, List.setIfInBounds_toArray, List.set_cons_zero, List.set_cons_succ, i64_w, i32_w]
                        rfl
                      refine pure_ (i := 7) (N := some 35) (v := ?_) (a' := ?_) #[true, true, true, true, true, true, true, true, false, false, false, false, false] rfl rfl (any_of HT_.out (by kernel_rfl)) (fun _ _ _ h => h) (Or.inl ⟨by rfl, ?_⟩) ?_ ?_
                      rotate_left
                      · intro w'
                        go_simp
                        with_reducible rfl
                      rotate_left
                      · simp only [Act.put, List.setIfInBounds_toArray, List.set_cons_zero, List.set_cons_succ, i64_w, i32_w]
                        rfl
                      refine pure_ (i := 8) (N := some 43) (v := ?_) (a' := ?_) #[true, true, true, true, true, true, true, true, true, false, false, false, false] rfl rfl (any_of HT_.out (by kernel_rfl)) (fun _ _ _ h => h) (Or.inl ⟨by rfl, ?_⟩) ?_ ?_
                      rotate_left
                      · intro w'
                        go_simp
                        with_reducible rfl
                      rotate_left
                      · simp only [Act.put, List.setIfInBounds_toArray, List.set_cons_zero, List.set_cons_succ, i64_w, i32_w]
                        rfl
                      refine pure_ (i := 9) (N := some 44) (v := ?_) (a' := ?_) #[true, true, true, true, true, true, true, true, true, true, false, false, false] rfl rfl (any_of HT_.out (by kernel_rfl)) (fun _ _ _ h => h) (Or.inl ⟨by rfl, ?_⟩) ?_ ?_
                      rotate_left
                      · intro w'
                        go_simp
                        with_reducible rfl
                      rotate_left
                      · simp only [Act.put, List.setIfInBounds_toArray, List.set_cons_zero, List.set_cons_succ, i64_w, i32_w]
                        rfl
                      refine one_ (i := 10) (N := some 11) #[true, true, true, true, true, true, true, true, true, true, true, false, false] rfl rfl (one_of HT_.out (by kernel_rfl)) (by decide) (fun K hK => ?_)
                      refine box_step ?hg (N := 11) ?hd (cs := #[.int .i64 0, .int .i64 0, .int .i64 0]) (t := 55) ?hr ?_; (case hd => rfl); (case hg => rfl); (case hr => first | (go_simp; done) | (go_simp; rfl))
                      intro gb807 hg w51 hbox hb
                      have n0_ := Aside0.mk (Kd.R_below (by (with_reducible repeat (first | apply Kd.R_alloc | apply Kd.R_drewN | apply Kd.R_drew)); exact HO_9.out) hb)
                      have n1_ := Aside0.mk (blk_below (bkA BK787) hb)
                      have n2_ := Aside0.mk (below_step blA hb)
                      have n3_ := Aside0.mk (hbox)
                      have n4_ := Aside0.mk (szA hg blA)
                      have n5_ := Aside0.mk (szA hg blA)
                      have n6_ := Aside0.mk (neA hg (bkA BK787))
                      have n7_ := Aside0.mk (neB hg (bkA BK787))
                      clear HO_9
                      clear BK787
                      clear HB
                      have HO_9 := n0_
                      have BK787 := n1_
                      have HB := n2_
                      have BK807 := n3_
                      have GW807 := n4_
                      have GE807 := n5_
                      have NB787_807 := n6_
                      have NB807_787 := n7_
                      clear n0_ n1_ n2_ n3_ n4_ n5_ n6_ n7_
                      clear hb hbox hg
                      refine hK.out _ _ ⟨(blk_cell BK787.out 0).trans rfl, (blk_cell BK787.out 1).trans rfl, (blk_cell BK787.out 2).trans rfl, ((HB.out.cell (World.block_lt_of_cell? w _ hw802_0)).trans hw802_0), ((HB.out.cell (World.block_lt_of_cell? w _ hw802_1)).trans hw802_1), ((HB.out.cell (World.block_lt_of_cell? w _ hw802_2)).trans hw802_2), ((HB.out.cell (World.block_lt_of_cell? w _ hw802_3)).trans hw802_3)⟩ (fun hHeld => ?_)
                      clear hK K
                      refine norm_ (a' := ?_) ?_ ?_
                      rotate_left
                      · show Act.put _ (some 11) _ = _
                        simp only [Act.put, List.setIfInBounds_toArray, List.set_cons_zero, List.set_cons_succ, i64_w, i32_w]
                        rfl
                      exact norm_ (by simp only [putAll, Act.put, List.setIfInBounds_toArray, List.set_cons_zero, List.set_cons_succ]) (hCont (gb807) _ ⟨hHeld, (by (with_reducible repeat (first | apply Kd.R_alloc | apply Kd.R_drewN | apply Kd.R_drew)); exact HO_9.out), (bkA BK787), (bkA BK807), GW807.out, GE807.out, NB787_807.out, NB807_787.out, blA⟩)
                    · skip
                      refine box_step ?hg (N := 11) ?hd (cs := #[.int .i64 0, .int .i64 0, .int .i64 0]) (t := 55) ?hr ?_; (case hd => rfl); (case hg => rfl); (case hr => first | (go_simp; done) | (go_simp; rfl))
                      intro gb807 hg w50 hbox hb
                      have n0_ := Aside0.mk (Kd.R_below (by (with_reducible repeat (first | apply Kd.R_alloc | apply Kd.R_drewN | apply Kd.R_drew)); exact HO_9.out) hb)
                      have n1_ := Aside0.mk (blk_below (bkA BK787) hb)
                      have n2_ := Aside0.mk (below_step blA hb)
                      have n3_ := Aside0.mk (hbox)
                      have n4_ := Aside0.mk (szA hg blA)
                      have n5_ := Aside0.mk (szA hg blA)
                      have n6_ := Aside0.mk (neA hg (bkA BK787))
                      have n7_ := Aside0.mk (neB hg (bkA BK787))
                      clear HO_9
                      clear BK787
                      clear HB
                      have HO_9 := n0_
                      have BK787 := n1_
                      have HB := n2_
                      have BK807 := n3_
                      have GW807 := n4_
                      have GE807 := n5_
                      have NB787_807 := n6_
                      have NB807_787 := n7_
                      clear n0_ n1_ n2_ n3_ n4_ n5_ n6_ n7_
                      clear hb hbox hg
                      refine hK.out _ _ ⟨(blk_cell BK787.out 0).trans rfl, (blk_cell BK787.out 1).trans rfl, (blk_cell BK787.out 2).trans rfl, ((HB.out.cell (World.block_lt_of_cell? w _ hw802_0)).trans hw802_0), ((HB.out.cell (World.block_lt_of_cell? w _ hw802_1)).trans hw802_1), ((HB.out.cell (World.block_lt_of_cell? w _ hw802_2)).trans hw802_2), ((HB.out.cell (World.block_lt_of_cell? w _ hw802_3)).trans hw802_3)⟩ (fun hHeld => ?_)
                      clear hK K
                      refine norm_ (a' := ?_) ?_ ?_
                      rotate_left
                      · show Act.put _ (some 11) _ = _
                        simp only [Act.put, List.setIfInBounds_toArray, List.set_cons_zero, List.set_cons_succ, i64_w, i32_w]
                        rfl
                      refine one_ (i := 6) (N := some 42) #[true, true, true, true, true, true, true, false, false, false, true, false, false] rfl rfl (one_of HT_.out (by kernel_rfl)) (by decide) (fun K hK => ?_)
                      refine goes_ Try.func77 (by kernel_rfl) rfl #[.int .i64 a0, .agg #[.int .i64 ((rd_T25 l1 x10_1).f0.f0), .int .i64 ((rd_T25 l1 x10_1).f0.f1), .int .i64 ((rd_T25 l1 x10_1).f1.f0), .int .i64 ((rd_T25 l1 x10_1).f1.f1)], .agg #[.int .i64 a2_0, .int .i64 a2_1, .int .i64 a2_2]] (by rfl) rfl rfl (by (try simp only [List.map_toArray, List.map_cons, List.map_nil]); first | done | rfl | (simp only [List.length_drop, List.length_take]; rfl)) ?_
                      with_reducible refine (spec_l04Move.calls k1 a0 ((rd_T25 l1 x10_1).f0.f0) ((rd_T25 l1 x10_1).f0.f1) ((rd_T25 l1 x10_1).f1.f0) ((rd_T25 l1 x10_1).f1.f1) a2_0 a2_1 a2_2 t803 t804 t805 false _ A24.out).mono ?_
                      rintro e w51 ⟨rfl, hb⟩
                      refine ⟨_, rfl, ?_⟩
                      have n0_ := Aside0.mk (Kd.R_below (by (with_reducible repeat (first | apply Kd.R_alloc | apply Kd.R_drewN | apply Kd.R_drew)); exact HO_9.out) hb)
                      have n1_ := Aside0.mk (blk_below (bkA BK787) hb)
                      have n2_ := Aside0.mk (blk_below (bkA BK807) hb)
                      have n3_ := Aside0.mk (below_step blA hb)
                      clear HO_9
                      clear BK787
                      clear BK807
                      clear HB
                      have HO_9 := n0_
                      have BK787 := n1_
                      have BK807 := n2_
                      have HB := n3_
                      clear n0_ n1_ n2_ n3_
                      (try clear hb)
                      (try clear hb2)
                      (try clear hk)
                      (try clear hi)
                      refine hK.out _ _ ⟨(blk_cell BK787.out 0).trans rfl, (blk_cell BK787.out 1).trans rfl, (blk_cell BK787.out 2).trans rfl, ((HB.out.cell (World.block_lt_of_cell? w _ hw802_0)).trans hw802_0), ((HB.out.cell (World.block_lt_of_cell? w _ hw802_1)).trans hw802_1), ((HB.out.cell (World.block_lt_of_cell? w _ hw802_2)).trans hw802_2), ((HB.out.cell (World.block_lt_of_cell? w _ hw802_3)).trans hw802_3)⟩ (fun hHeld => ?_)
                      clear hK K
                      refine norm_ (a' := ?_) ?_ ?_
                      rotate_left
                      · show Act.put _ (some 42) _ = _
                        simp only [Act.put, List.setIfInBounds_toArray, List.set_cons_zero, List.set_cons_succ, i64_w, i32_w]
                        rfl
                      refine pure_ (i := 7) (N := some 35) (v := ?_) (a' := ?_) #[true, true, true, true, true, true, true, true, false, false, true, false, false] rfl rfl (any_of HT_.out (by kernel_rfl)) (fun _ _ _ h => h) (Or.inl ⟨by rfl, ?_⟩) ?_ ?_
                      rotate_left
                      · intro w'
                        go_simp
                        with_reducible rfl
                      rotate_left
                      · simp only [Act.put, List.setIfInBounds_toArray, List.set_cons_zero, List.set_cons_succ, i64_w, i32_w]
                        rfl
                      refine pure_ (i := 8) (N := some 43) (v := ?_) (a' := ?_) #[true, true, true, true, true, true, true, true, true, false, true, false, false] rfl rfl (any_of HT_.out (by kernel_rfl)) (fun _ _ _ h => h) (Or.inl ⟨by rfl, ?_⟩) ?_ ?_
                      rotate_left
                      · intro w'
                        go_simp
                        with_reducible rfl
                      rotate_left
                      · simp only [Act.put, List.setIfInBounds_toArray, List.set_cons_zero, List.set_cons_succ, i64_w, i32_w]
                        rfl
                      refine pure_ (i := 9) (N := some 44) (v := ?_) (a' := ?_) #[true, true, true, true, true, true, true, true, true, true, true, false, false] rfl rfl (any_of HT_.out (by kernel_rfl)) (fun _ _ _ h => h) (Or.inl ⟨by rfl, ?_⟩) ?_ ?_
                      rotate_left
                      · intro w'
                        go_simp
                        with_reducible rfl
                      rotate_left
                      · simp only [Act.put, List.setIfInBounds_toArray, List.set_cons_zero, List.set_cons_succ, i64_w, i32_w]
                        rfl
                      exact norm_ (by simp only [putAll, Act.put, List.setIfInBounds_toArray, List.set_cons_zero, List.set_cons_succ]) (hCont (gb807) _ ⟨hHeld, (by (with_reducible repeat (first | apply Kd.R_alloc | apply Kd.R_drewN | apply Kd.R_drew)); exact HO_9.out), (bkA BK787), (bkA BK807), GW807.out, GE807.out, NB787_807.out, NB807_787.out, blA⟩)
                  rintro gb807 w52 ⟨hS_, h0_, h1_, h2_, h3_, h4_, h5_, h6_, h7_⟩
                  have n0_ : Aside0 (Kd.R (Kd.int .i64) 2 w52 w.heap.size (fun _ => True) u9 x9_1) := ⟨h0_⟩
                  have n1_ : Aside0 (w52.heap[gb787]? = some (.cells #[.int .i64 a2_0, .int .i64 a2_1, .int .i64 a2_2] 55 (0, 0))) := ⟨h1_⟩
                  have n2_ : Aside0 (w52.heap[gb807]? = some (.cells #[.int .i64 0, .int .i64 0, .int .i64 0] 55 (0, 0))) := ⟨h2_⟩
                  have n3_ : Aside0 (w.heap.size ≤ gb807) := ⟨h3_⟩
                  have n4_ : Aside0 (w.heap.size ≤ gb807) := ⟨h4_⟩
                  have n5_ : Aside0 (gb787 ≠ gb807) := ⟨h5_⟩
                  have n6_ : Aside0 (gb807 ≠ gb787) := ⟨h6_⟩
                  have n7_ : Aside0 (Below w.heap.size w w52) := ⟨h7_⟩
                  clear HO_9
                  clear BK787
                  clear HB
                  clear h0_ h1_ h2_ h3_ h4_ h5_ h6_ h7_
                  have HO_9 := n0_
                  have BK787 := n1_
                  have BK807 := n2_
                  have GW807 := n3_
                  have GE807 := n4_
                  have NB787_807 := n5_
                  have NB807_787 := n6_
                  have HB := n7_
                  clear n0_ n1_ n2_ n3_ n4_ n5_ n6_ n7_
                  have hHeld : w52.cell? ⟨gb787, 0, none⟩ = some (.int .i64 a2_0) ∧ w52.cell? ⟨gb787, 1, none⟩ = some (.int .i64 a2_1) ∧ w52.cell? ⟨gb787, 2, none⟩ = some (.int .i64 a2_2) ∧ w52.cell? (ad802.add ((x10_1).toNat * 4)) = some (.int .i64 ((rd_T25 l1 x10_1).f0.f0)) ∧ w52.cell? ⟨(ad802.add ((x10_1).toNat * 4)).block, (ad802.add ((x10_1).toNat * 4)).off + 1, none⟩ = some (.int .i64 ((rd_T25 l1 x10_1).f0.f1)) ∧ w52.cell? ⟨(ad802.add ((x10_1).toNat * 4)).block, (ad802.add ((x10_1).toNat * 4)).off + 2, none⟩ = some (.int .i64 ((rd_T25 l1 x10_1).f1.f0)) ∧ w52.cell? ⟨(ad802.add ((x10_1).toNat * 4)).block, (ad802.add ((x10_1).toNat * 4)).off + 3, none⟩ = some (.int .i64 ((rd_T25 l1 x10_1).f1.f1)) := hS_
                  refine norm_ (a' := ?_) ?_ ?_
                  rotate_left
                  · simp only [putAll, Act.put, List.setIfInBounds_toArray, List.set_cons_zero, List.set_cons_succ]
                    rfl
                  refine one_ (i := 11) (N := none) #[true, true, true, true, true, true, true, true, true, true, true, true, false] rfl rfl (one_of HT_.out (by kernel_rfl)) (by decide) (fun K hK => ?_)
                  have hs53 : w52.cell? ⟨gb807, 0, none⟩ = some (.int .i64 0) := (blk_cell BK807.out 0).trans rfl
                  have hfs53 := blk_frozen BK807.out 0
                  have hns53_0 := NB787_807.out
                  have hms53_0 := NB807_787.out
                  have hs54 : w52.cell? ⟨gb807, 1, none⟩ = some (.int .i64 0) := (blk_cell BK807.out 1).trans rfl
                  have hfs54 := blk_frozen BK807.out 1
                  have hns54_0 := NB787_807.out
                  have hms54_0 := NB807_787.out
                  have hs55 : w52.cell? ⟨gb807, 2, none⟩ = some (.int .i64 0) := (blk_cell BK807.out 2).trans rfl
                  have hfs55 := blk_frozen BK807.out 2
                  have hns55_0 := NB787_807.out
                  have hms55_0 := NB807_787.out
                  refine skip_ (w1 := ?_) (by rfl) rfl ?_ ?_
                  rotate_left
                  · go_simp
                    rfl
                  refine hK.out _ _ ⟨((cell_far (p := ⟨gb807, _, none⟩) NB787_807.out _).trans (((cell_far (p := ⟨gb807, _, none⟩) NB787_807.out _).trans (((cell_far (p := ⟨gb807, _, none⟩) NB787_807.out _).trans (hHeld.1)))))), ((cell_far (p := ⟨gb807, _, none⟩) NB787_807.out _).trans (((cell_far (p := ⟨gb807, _, none⟩) NB787_807.out _).trans (((cell_far (p := ⟨gb807, _, none⟩) NB787_807.out _).trans (hHeld.2.1)))))), ((cell_far (p := ⟨gb807, _, none⟩) NB787_807.out _).trans (((cell_far (p := ⟨gb807, _, none⟩) NB787_807.out _).trans (((cell_far (p := ⟨gb807, _, none⟩) NB787_807.out _).trans (hHeld.2.2.1)))))), ((cell_far (p := ⟨gb807, _, none⟩) (by first | exact Nat.ne_of_lt (Nat.lt_of_lt_of_le (by have := World.block_lt_of_cell? _ _ hw802_0; first | rwa [add_block] at this | exact this) GW807.out) | (rw [add_block]; exact Nat.ne_of_lt (Nat.lt_of_lt_of_le (by have := World.block_lt_of_cell? _ _ hw802_0; first | rwa [add_block] at this | exact this) GW807.out)) | (show (Addr.add _ _).block ≠ _; rw [add_block]; exact Nat.ne_of_lt (Nat.lt_of_lt_of_le (by have := World.block_lt_of_cell? _ _ hw802_0; first | rwa [add_block] at this | exact this) GW807.out)) | (dsimp only; exact Nat.ne_of_lt (Nat.lt_of_lt_of_le (by have := World.block_lt_of_cell? _ _ hw802_0; first | rwa [add_block] at this | exact this) GW807.out))) _).trans (((cell_far (p := ⟨gb807, _, none⟩) (by first | exact Nat.ne_of_lt (Nat.lt_of_lt_of_le (by have := World.block_lt_of_cell? _ _ hw802_0; first | rwa [add_block] at this | exact this) GW807.out) | (rw [add_block]; exact Nat.ne_of_lt (Nat.lt_of_lt_of_le (by have := World.block_lt_of_cell? _ _ hw802_0; first | rwa [add_block] at this | exact this) GW807.out)) | (show (Addr.add _ _).block ≠ _; rw [add_block]; exact Nat.ne_of_lt (Nat.lt_of_lt_of_le (by have := World.block_lt_of_cell? _ _ hw802_0; first | rwa [add_block] at this | exact this) GW807.out)) | (dsimp only; exact Nat.ne_of_lt (Nat.lt_of_lt_of_le (by have := World.block_lt_of_cell? _ _ hw802_0; first | rwa [add_block] at this | exact this) GW807.out))) _).trans (((cell_far (p := ⟨gb807, _, none⟩) (by first | exact Nat.ne_of_lt (Nat.lt_of_lt_of_le (by have := World.block_lt_of_cell? _ _ hw802_0; first | rwa [add_block] at this | exact this) GW807.out) | (rw [add_block]; exact Nat.ne_of_lt (Nat.lt_of_lt_of_le (by have := World.block_lt_of_cell? _ _ hw802_0; first | rwa [add_block] at this | exact this) GW807.out)) | (show (Addr.add _ _).block ≠ _; rw [add_block]; exact Nat.ne_of_lt (Nat.lt_of_lt_of_le (by have := World.block_lt_of_cell? _ _ hw802_0; first | rwa [add_block] at this | exact this) GW807.out)) | (dsimp only; exact Nat.ne_of_lt (Nat.lt_of_lt_of_le (by have := World.block_lt_of_cell? _ _ hw802_0; first | rwa [add_block] at this | exact this) GW807.out))) _).trans (hHeld.2.2.2.1)))))), ((cell_far (p := ⟨gb807, _, none⟩) (by first | exact Nat.ne_of_lt (Nat.lt_of_lt_of_le (by have := World.block_lt_of_cell? _ _ hw802_1; first | rwa [add_block] at this | exact this) GW807.out) | (rw [add_block]; exact Nat.ne_of_lt (Nat.lt_of_lt_of_le (by have := World.block_lt_of_cell? _ _ hw802_1; first | rwa [add_block] at this | exact this) GW807.out)) | (show (Addr.add _ _).block ≠ _; rw [add_block]; exact Nat.ne_of_lt (Nat.lt_of_lt_of_le (by have := World.block_lt_of_cell? _ _ hw802_1; first | rwa [add_block] at this | exact this) GW807.out)) | (dsimp only; exact Nat.ne_of_lt (Nat.lt_of_lt_of_le (by have := World.block_lt_of_cell? _ _ hw802_1; first | rwa [add_block] at this | exact this) GW807.out))) _).trans (((cell_far (p := ⟨gb807, _, none⟩) (by first | exact Nat.ne_of_lt (Nat.lt_of_lt_of_le (by have := World.block_lt_of_cell? _ _ hw802_1; first | rwa [add_block] at this | exact this) GW807.out) | (rw [add_block]; exact Nat.ne_of_lt (Nat.lt_of_lt_of_le (by have := World.block_lt_of_cell? _ _ hw802_1; first | rwa [add_block] at this | exact this) GW807.out)) | (show (Addr.add _ _).block ≠ _; rw [add_block]; exact Nat.ne_of_lt (Nat.lt_of_lt_of_le (by have := World.block_lt_of_cell? _ _ hw802_1; first | rwa [add_block] at this | exact this) GW807.out)) | (dsimp only; exact Nat.ne_of_lt (Nat.lt_of_lt_of_le (by have := World.block_lt_of_cell? _ _ hw802_1; first | rwa [add_block] at this | exact this) GW807.out))) _).trans (((cell_far (p := ⟨gb807, _, none⟩) (by first | exact Nat.ne_of_lt (Nat.lt_of_lt_of_le (by have := World.block_lt_of_cell? _ _ hw802_1; first | rwa [add_block] at this | exact this) GW807.out) | (rw [add_block]; exact Nat.ne_of_lt (Nat.lt_of_lt_of_le (by have := World.block_lt_of_cell? _ _ hw802_1; first | rwa [add_block] at this | exact this) GW807.out)) | (show (Addr.add _ _).block ≠ _; rw [add_block]; exact Nat.ne_of_lt (Nat.lt_of_lt_of_le (by have := World.block_lt_of_cell? _ _ hw802_1; first | rwa [add_block] at this | exact this) GW807.out)) | (dsimp only; exact Nat.ne_of_lt (Nat.lt_of_lt_of_le (by have := World.block_lt_of_cell? _ _ hw802_1; first | rwa [add_block] at this | exact this) GW807.out))) _).trans (hHeld.2.2.2.2.1)))))), ((cell_far (p := ⟨gb807, _, none⟩) (by first | exact Nat.ne_of_lt (Nat.lt_of_lt_of_le (by have := World.block_lt_of_cell? _ _ hw802_2; first | rwa [add_block] at this | exact this) GW807.out) | (rw [add_block]; exact Nat.ne_of_lt (Nat.lt_of_lt_of_le (by have := World.block_lt_of_cell? _ _ hw802_2; first | rwa [add_block] at this | exact this) GW807.out)) | (show (Addr.add _ _).block ≠ _; rw [add_block]; exact Nat.ne_of_lt (Nat.lt_of_lt_of_le (by have := World.block_lt_of_cell? _ _ hw802_2; first | rwa [add_block] at this | exact this) GW807.out)) | (dsimp only; exact Nat.ne_of_lt (Nat.lt_of_lt_of_le (by have := World.block_lt_of_cell? _ _ hw802_2; first | rwa [add_block] at this | exact this) GW807.out))) _).trans (((cell_far (p := ⟨gb807, _, none⟩) (by first | exact Nat.ne_of_lt (Nat.lt_of_lt_of_le (by have := World.block_lt_of_cell? _ _ hw802_2; first | rwa [add_block] at this | exact this) GW807.out) | (rw [add_block]; exact Nat.ne_of_lt (Nat.lt_of_lt_of_le (by have := World.block_lt_of_cell? _ _ hw802_2; first | rwa [add_block] at this | exact this) GW807.out)) | (show (Addr.add _ _).block ≠ _; rw [add_block]; exact Nat.ne_of_lt (Nat.lt_of_lt_of_le (by have := World.block_lt_of_cell? _ _ hw802_2; first | rwa [add_block] at this | exact this) GW807.out)) | (dsimp only; exact Nat.ne_of_lt (Nat.lt_of_lt_of_le (by have := World.block_lt_of_cell? _ _ hw802_2; first | rwa [add_block] at this | exact this) GW807.out))) _).trans (((cell_far (p := ⟨gb807, _, none⟩) (by first | exact Nat.ne_of_lt (Nat.lt_of_lt_of_le (by have := World.block_lt_of_cell? _ _ hw802_2; first | rwa [add_block] at this | exact this) GW807.out) | (rw [add_block]; exact Nat.ne_of_lt (Nat.lt_of_lt_of_le (by have := World.block_lt_of_cell? _ _ hw802_2; first | rwa [add_block] at this | exact this) GW807.out)) | (show (Addr.add _ _).block ≠ _; rw [add_block]; exact Nat.ne_of_lt (Nat.lt_of_lt_of_le (by have := World.block_lt_of_cell? _ _ hw802_2; first | rwa [add_block] at this | exact this) GW807.out)) | (dsimp only; exact Nat.ne_of_lt (Nat.lt_of_lt_of_le (by have := World.block_lt_of_cell? _ _ hw802_2; first | rwa [add_block] at this | exact this) GW807.out))) _).trans (hHeld.2.2.2.2.2.1)))))), ((cell_far (p := ⟨gb807, _, none⟩) (by first | exact Nat.ne_of_lt (Nat.lt_of_lt_of_le (by have := World.block_lt_of_cell? _ _ hw802_3; first | rwa [add_block] at this | exact this) GW807.out) | (rw [add_block]; exact Nat.ne_of_lt (Nat.lt_of_lt_of_le (by have := World.block_lt_of_cell? _ _ hw802_3; first | rwa [add_block] at this | exact this) GW807.out)) | (show (Addr.add _ _).block ≠ _; rw [add_block]; exact Nat.ne_of_lt (Nat.lt_of_lt_of_le (by have := World.block_lt_of_cell? _ _ hw802_3; first | rwa [add_block] at this | exact this) GW807.out)) | (dsimp only; exact Nat.ne_of_lt (Nat.lt_of_lt_of_le (by have := World.block_lt_of_cell? _ _ hw802_3; first | rwa [add_block] at this | exact this) GW807.out))) _).trans (((cell_far (p := ⟨gb807, _, none⟩) (by first | exact Nat.ne_of_lt (Nat.lt_of_lt_of_le (by have := World.block_lt_of_cell? _ _ hw802_3; first | rwa [add_block] at this | exact this) GW807.out) | (rw [add_block]; exact Nat.ne_of_lt (Nat.lt_of_lt_of_le (by have := World.block_lt_of_cell? _ _ hw802_3; first | rwa [add_block] at this | exact this) GW807.out)) | (show (Addr.add _ _).block ≠ _; rw [add_block]; exact Nat.ne_of_lt (Nat.lt_of_lt_of_le (by have := World.block_lt_of_cell? _ _ hw802_3; first | rwa [add_block] at this | exact this) GW807.out)) | (dsimp only; exact Nat.ne_of_lt (Nat.lt_of_lt_of_le (by have := World.block_lt_of_cell? _ _ hw802_3; first | rwa [add_block] at this | exact this) GW807.out))) _).trans (((cell_far (p := ⟨gb807, _, none⟩) (by first | exact Nat.ne_of_lt (Nat.lt_of_lt_of_le (by have := World.block_lt_of_cell? _ _ hw802_3; first | rwa [add_block] at this | exact this) GW807.out) | (rw [add_block]; exact Nat.ne_of_lt (Nat.lt_of_lt_of_le (by have := World.block_lt_of_cell? _ _ hw802_3; first | rwa [add_block] at this | exact this) GW807.out)) | (show (Addr.add _ _).block ≠ _; rw [add_block]; exact Nat.ne_of_lt (Nat.lt_of_lt_of_le (by have := World.block_lt_of_cell? _ _ hw802_3; first | rwa [add_block] at this | exact this) GW807.out)) | (dsimp only; exact Nat.ne_of_lt (Nat.lt_of_lt_of_le (by have := World.block_lt_of_cell? _ _ hw802_3; first | rwa [add_block] at this | exact this) GW807.out))) _).trans (hHeld.2.2.2.2.2.2))))))⟩ (fun hHeld => ?_)
                  clear hK K
                  refine pure_ (i := 12) (N := some 12) (v := ?_) (a' := ?_) #[true, true, true, true, true, true, true, true, true, true, true, true, true] rfl rfl (any_of HT_.out (by kernel_rfl)) (fun _ _ _ h => h) (Or.inl ⟨by rfl, ?_⟩) ?_ ?_
                  rotate_left
                  · intro w'
                    go_simp
                    with_reducible rfl
                  rotate_left
                  · simp only [Act.put, List.setIfInBounds_toArray, List.set_cons_zero, List.set_cons_succ, i64_w, i32_w]
                    rfl
                  refine done_ (done_of HT_.out (by kernel_rfl)) ?_
                  try go_wp2
                  go_roundg k1
                  case measure => have := HK1.out; omega
                  case rel => exact ⟨(x9_1), (wrap64 (x10_1 + 1)), (by first | rfl | (simp; done) | (simp [*]; done)), H', ⟨by have := HK1.out; omega⟩, ⟨by (with_reducible repeat (first | apply Kd.R_alloc | apply Kd.R_drewN | apply Kd.R_drew)); exact Kd.R_mono (Kd.R_far (p := ⟨gb807, 2, none⟩) (Kd.R_far (p := ⟨gb807, 1, none⟩) (Kd.R_far (p := ⟨gb807, 0, none⟩) (Kd.R_types HO_9.out BK807.out (by decide)) (fun _ hk => hk.2) (.int .i64 t803)) (fun _ hk => hk.2) (.int .i64 t804)) (fun _ hk => hk.2) (.int .i64 t805)) (fun _ hk => trivial)⟩, ⟨by (with_reducible repeat (first | refine blk_drewN ?_ _ | refine blk_drew ?_ | refine blk_alloc ?_ _)); refine blk_far ?_ NB787_807.out _; (with_reducible repeat (first | refine blk_drewN ?_ _ | refine blk_drew ?_ | refine blk_alloc ?_ _)); refine blk_far ?_ NB787_807.out _; (with_reducible repeat (first | refine blk_drewN ?_ _ | refine blk_drew ?_ | refine blk_alloc ?_ _)); refine blk_far ?_ NB787_807.out _; (with_reducible repeat (first | refine blk_drewN ?_ _ | refine blk_drew ?_ | refine blk_alloc ?_ _)); exact BK787.out⟩, ⟨blA⟩⟩
              · rw [if_neg c23] at H
                exact absurd H (by simp)
            · rw [if_neg c22] at H
              have c22b0 : decide (x10_1 < (l1.length : Int)) = false := decide_eq_false c22
              clear c22
              simp only [Option.some.injEq, Prod.mk.injEq] at H
              obtain ⟨rfl, rfl⟩ := H
              go_wp2
              go_ret2
              exact ⟨_, by first | rfl | (simp [errW_none, errW_some] <;> rfl) | (simp [*, errW_none, errW_some] <;> rfl), by (with_reducible repeat (first | apply Kd.R_alloc | apply Kd.R_drewN | apply Kd.R_drew)); exact HO_9.out, blA⟩
      · rw [if_neg c8] at H
        have c8b0 : (t798 == 0) = false := beq_eq_false_iff_ne.mpr c8
        have c8b1 : (t798 != 0) = true := bne_iff_ne.mpr c8
        simp only [Option.some.injEq, Prod.mk.injEq] at H
        obtain ⟨rfl, rfl⟩ := H
        go_enter Try.func46, Try.ntmps46
        go_wp2_with (first | ((with_reducible refine gate_dst (N := 5) rfl ?_); refine box_event ?hg (N := 5) ?hd (cs := #[.int .i64 a2_0, .int .i64 a2_1, .int .i64 a2_2]) (t := 55) ?hr ?_; (case hd => rfl); (case hg => rfl); (case hr => first | (go_simp; done) | (go_simp; rfl)); intro gb787 hg w56 hbox hb; have n0_ := Aside0.mk (below_step blA hb); have n1_ := Aside0.mk (hbox); have n2_ := Aside0.mk (szA hg blA); have n3_ := Aside0.mk (szA hg blA); clear HB; have HB := n0_; have BK787 := n1_; have GW787 := n2_; have GE787 := n3_; clear n0_ n1_ n2_ n3_; clear hb hbox hg; have hcz57_0 : w56.cell? ⟨gb787, 0, none⟩ = some (.int .i64 a2_0) := (blk_cell BK787.out 0).trans rfl; have hcz57_1 : w56.cell? ⟨gb787, 1, none⟩ = some (.int .i64 a2_1) := (blk_cell BK787.out 1).trans rfl; have hcz57_2 : w56.cell? ⟨gb787, 2, none⟩ = some (.int .i64 a2_2) := (blk_cell BK787.out 2).trans rfl; have hfz57_0 := blk_frozen BK787.out 0; have hfz57_1 := blk_frozen BK787.out 1; have hfz57_2 := blk_frozen BK787.out 2) | ((with_reducible refine gate_dst (N := 15) rfl ?_); refine Kd.R_lit k55 _ 55 ?hg (N := 15) ?hd (xs := ([(⟨a2_0, a2_1, a2_2⟩ : S55)] : List (S55))) (inner := [.int .i64 a2_0, .int .i64 a2_1, .int .i64 a2_2]) (ok := fun _ => True) (okp := fun _ => True) ?hr ?hp (fun _ hk => hk) trivial (Below.refl _ _) (Nat.le_refl _) (by simp) ?_; (case hd => rfl); (case hg => rfl); (case hr => first | (go_simp; done) | (go_simp; rfl)); (case hp => exact (Reps.c3 (show Kd.M k55 _ _ _ (⟨a2_0, a2_1, a2_2⟩ : S55) [.int .i64 a2_0, .int .i64 a2_1, .int .i64 a2_2] from (k55_mkM _ _ _ (⟨a2_0, a2_1, a2_2⟩ : S55) )) (Reps.none _ _))); intro v789 w58 ho59 hb hg_ hnew_; clear hg_ hnew_; (first | rw [← Ny788.out] at ho59 | (simp only [Int.reduceToNat] at ho59; rw [← Ny788.out] at ho59)); have n0_ := Aside0.mk (Kd.R_lower (Kd.R_newB ho59 (bkA BK787)) (below_size blA)); have n1_ := Aside0.mk (blk_below (bkA BK787) hb); have n2_ := Aside0.mk (below_step blA hb); clear BK787; clear HB; have HO790 := n0_; have BK787 := n1_; have HB := n2_; clear n0_ n1_ n2_; clear hb ho59; obtain ⟨Ao60, co60, eo60⟩ := Kd.R_slice HO790.out; subst eo60) | ((with_reducible refine gate_callee (f := 83) rfl ?_); refine goesL_ (some 16) rfl rfl Try.func83 (by kernel_rfl) rfl #[.int .i64 a0, .slice Ao60 y788.length co60] rfl (by (try simp only [List.map_toArray, List.map_cons, List.map_nil]); first | done | rfl | (simp only [List.length_drop, List.length_take]; rfl)) ?_; (with_reducible refine (spec_l01Code.calls k a0 _ _ y788 t791 _ ?side1 ?side2 A4.out).mono ?_); (case side1 => repeat (first | exact (Kd.R_reads' HO790.out).2.2 | (with_reducible refine Kd.C_alloc ?_ _) | (with_reducible refine Kd.C_drewN ?_ _) | (with_reducible refine Kd.C_drew ?_))); (case side2 => exact (Kd.R_reads' HO790.out).2.1); rintro e w61 ⟨rfl, hb⟩; refine ⟨_, rfl, ?_⟩; have n0_ := Aside0.mk (Kd.R_below (by (with_reducible repeat (first | apply Kd.R_alloc | apply Kd.R_drewN | apply Kd.R_drew)); exact HO790.out) hb); have n1_ := Aside0.mk (blk_below (bkA BK787) hb); have n2_ := Aside0.mk (below_step blA hb); clear HO790; clear BK787; clear HB; have HO790 := n0_; have BK787 := n1_; have HB := n2_; clear n0_ n1_ n2_; (try clear hb); (try clear hb2); (try clear hk); (try clear hi)) | ((with_reducible refine gate_dst (N := 21) rfl ?_); refine Kd.R_lit k25 _ 25 ?hg (N := 21) ?hd (xs := ([(⟨(⟨1, 0⟩ : S22), (⟨0, 1⟩ : S22)⟩ : S25)] : List (S25))) (inner := [.int .i64 1, .int .i64 0, .int .i64 0, .int .i64 1]) (ok := fun _ => True) (okp := fun _ => True) ?hr ?hp (fun _ hk => hk) trivial (Below.refl _ _) (Nat.le_refl _) (by simp) ?_; (case hd => rfl); (case hg => rfl); (case hr => first | (go_simp; done) | (go_simp; rfl)); (case hp => exact (Reps.c4 (show Kd.M k25 _ _ _ (⟨(⟨1, 0⟩ : S22), (⟨0, 1⟩ : S22)⟩ : S25) [.int .i64 1, .int .i64 0, .int .i64 0, .int .i64 1] from (k25_mkM _ _ _ (⟨(⟨1, 0⟩ : S22), (⟨0, 1⟩ : S22)⟩ : S25) )) (Reps.none _ _))); intro v793 w62 ho63 hb hg_ hnew_; clear hg_ hnew_; (first | rw [← Ny792.out] at ho63 | (simp only [Int.reduceToNat] at ho63; rw [← Ny792.out] at ho63)); have n0_ := Aside0.mk (Kd.R_below (by (with_reducible repeat (first | apply Kd.R_alloc | apply Kd.R_drewN | apply Kd.R_drew)); exact HO790.out) hb); have n1_ := Aside0.mk (Kd.R_lower ho63 (below_size blA)); have n2_ := Aside0.mk (blk_below (bkA BK787) hb); have n3_ := Aside0.mk (below_step blA hb); clear HO790; clear BK787; clear HB; have HO790 := n0_; have HO794 := n1_; have BK787 := n2_; have HB := n3_; clear n0_ n1_ n2_ n3_; clear hb ho63) | ((with_reducible refine gate_builtin (b := .append) (xs := #[.tmp 21, .tmp 22]) rfl ?_); at_builtin; refine Kd.R_append_rows k25 (w0 := w) w.heap.size rfl (.tmp 21) (.tmp 22) 49 25 (.agg #[(.int .i64 0), (.int .i64 0), (.int .i64 0), (.int .i64 0)]) 32 rfl Try.underlying49 info25 rfl (by decide) (by omega) v793 y792 l1 _ _ _ (fun _ => True) (fun _ => False) rfl rfl ?aO ?aR (fun _ _ h => h) (fun _ h => h.elim) ?aF ?aB ?aS ?aL ?_; (case aR => repeat (first | exact (Kd.C_below HR1.out HB.out) | (with_reducible refine Kd.C_alloc ?_ _) | (with_reducible refine Kd.C_drewN ?_ _) | (with_reducible refine Kd.C_drew ?_))); (case aB => exact blA); (case aF => exact (fun _ _ => trivial)); (case aO => exact (by (with_reducible repeat (first | apply Kd.R_alloc | apply Kd.R_drewN | apply Kd.R_drew)); exact HO794.out)); (case aS => exact (below_size blA)); (case aL => have := LMc6.out; omega); intro v796 w64 ho hb hg hat; rw [← Ny795.out] at ho; have n0_ := Aside0.mk (blk_grown (bkA BK787) hg (Kd.R_ne HO794.out BK787.out (by decide))); have n1_ := Aside0.mk (Kd.R_over' (by (with_reducible repeat (first | apply Kd.R_alloc | apply Kd.R_drewN | apply Kd.R_drew)); exact HO790.out) (Kd.R_typed (by (with_reducible repeat (first | apply Kd.R_alloc | apply Kd.R_drewN | apply Kd.R_drew)); exact HO794.out)) (by decide) hg); have n2_ := Aside0.mk (hb); have n3_ := Aside0.mk (ho); clear BK787; clear HO790; clear HB; clear HO794; have BK787 := n0_; have HO790 := n1_; have HB := n2_; have HO797 := n3_; clear n0_ n1_ n2_ n3_; clear ho hb hg hat; obtain ⟨Ao65, co65, eo65⟩ := Kd.R_slice HO797.out; subst eo65) | ((with_reducible refine gate_callee (f := 74) rfl ?_); refine goesL_ (some 24) rfl rfl Try.func74 (by kernel_rfl) rfl #[.slice Ao65 y795.length co65, .int .i64 49] rfl (by (try simp only [List.map_toArray, List.map_cons, List.map_nil]); first | done | rfl | (simp only [List.length_drop, List.length_take]; rfl)) ?_; (with_reducible refine (spec_l06Movers.calls k _ _ y795 49 t798 _ ?side1 ?side2 A7.out).mono ?_); (case side1 => repeat (first | exact (Kd.R_reads' HO797.out).2.2 | (with_reducible refine Kd.C_alloc ?_ _) | (with_reducible refine Kd.C_drewN ?_ _) | (with_reducible refine Kd.C_drew ?_))); (case side2 => exact (Kd.R_reads' HO797.out).2.1); rintro e w66 ⟨rfl, hb⟩; refine ⟨_, rfl, ?_⟩; have n0_ := Aside0.mk (Kd.R_below (by (with_reducible repeat (first | apply Kd.R_alloc | apply Kd.R_drewN | apply Kd.R_drew)); exact HO790.out) hb); have n1_ := Aside0.mk (Kd.R_below (by (with_reducible repeat (first | apply Kd.R_alloc | apply Kd.R_drewN | apply Kd.R_drew)); exact HO797.out) hb); have n2_ := Aside0.mk (blk_below (bkA BK787) hb); have n3_ := Aside0.mk (below_step blA hb); clear HO790; clear HO797; clear BK787; clear HB; have HO790 := n0_; have HO797 := n1_; have BK787 := n2_; have HB := n3_; clear n0_ n1_ n2_ n3_; (try clear hb); (try clear hb2); (try clear hk); (try clear hi)))
        go_ret2
        exact ⟨_, by first | rfl | (simp [errW_none, errW_some] <;> rfl) | (simp [*, errW_none, errW_some] <;> rfl), by first | exact Kd.R_nil _ _ _ _ _ | exact Kd.N_nil _ _ _ _ _ | exact Kd.V_nil _ _ _ _ _ | exact Kd.Q_nil _ _ _ _ _ | exact Kd.S_nil _ _ _ _ _, blA⟩
    · rw [if_neg c6] at H
      exact absurd H (by simp)
  · rw [if_neg c5] at H
    have c5b0 : (t791 == 0) = false := beq_eq_false_iff_ne.mpr c5
    have c5b1 : (t791 != 0) = true := bne_iff_ne.mpr c5
    simp only [Option.some.injEq, Prod.mk.injEq] at H
    obtain ⟨rfl, rfl⟩ := H
    go_enter Try.func46, Try.ntmps46
    go_wp2_with (first | ((with_reducible refine gate_dst (N := 5) rfl ?_); refine box_event ?hg (N := 5) ?hd (cs := #[.int .i64 a2_0, .int .i64 a2_1, .int .i64 a2_2]) (t := 55) ?hr ?_; (case hd => rfl); (case hg => rfl); (case hr => first | (go_simp; done) | (go_simp; rfl)); intro gb787 hg w67 hbox hb; have n0_ := Aside0.mk (below_step blA hb); have n1_ := Aside0.mk (hbox); have n2_ := Aside0.mk (szA hg blA); have n3_ := Aside0.mk (szA hg blA); clear HB; have HB := n0_; have BK787 := n1_; have GW787 := n2_; have GE787 := n3_; clear n0_ n1_ n2_ n3_; clear hb hbox hg; have hcz68_0 : w67.cell? ⟨gb787, 0, none⟩ = some (.int .i64 a2_0) := (blk_cell BK787.out 0).trans rfl; have hcz68_1 : w67.cell? ⟨gb787, 1, none⟩ = some (.int .i64 a2_1) := (blk_cell BK787.out 1).trans rfl; have hcz68_2 : w67.cell? ⟨gb787, 2, none⟩ = some (.int .i64 a2_2) := (blk_cell BK787.out 2).trans rfl; have hfz68_0 := blk_frozen BK787.out 0; have hfz68_1 := blk_frozen BK787.out 1; have hfz68_2 := blk_frozen BK787.out 2) | ((with_reducible refine gate_dst (N := 15) rfl ?_); refine Kd.R_lit k55 _ 55 ?hg (N := 15) ?hd (xs := ([(⟨a2_0, a2_1, a2_2⟩ : S55)] : List (S55))) (inner := [.int .i64 a2_0, .int .i64 a2_1, .int .i64 a2_2]) (ok := fun _ => True) (okp := fun _ => True) ?hr ?hp (fun _ hk => hk) trivial (Below.refl _ _) (Nat.le_refl _) (by simp) ?_; (case hd => rfl); (case hg => rfl); (case hr => first | (go_simp; done) | (go_simp; rfl)); (case hp => exact (Reps.c3 (show Kd.M k55 _ _ _ (⟨a2_0, a2_1, a2_2⟩ : S55) [.int .i64 a2_0, .int .i64 a2_1, .int .i64 a2_2] from (k55_mkM _ _ _ (⟨a2_0, a2_1, a2_2⟩ : S55) )) (Reps.none _ _))); intro v789 w69 ho70 hb hg_ hnew_; clear hg_ hnew_; (first | rw [← Ny788.out] at ho70 | (simp only [Int.reduceToNat] at ho70; rw [← Ny788.out] at ho70)); have n0_ := Aside0.mk (Kd.R_lower (Kd.R_newB ho70 (bkA BK787)) (below_size blA)); have n1_ := Aside0.mk (blk_below (bkA BK787) hb); have n2_ := Aside0.mk (below_step blA hb); clear BK787; clear HB; have HO790 := n0_; have BK787 := n1_; have HB := n2_; clear n0_ n1_ n2_; clear hb ho70; obtain ⟨Ao71, co71, eo71⟩ := Kd.R_slice HO790.out; subst eo71) | ((with_reducible refine gate_callee (f := 83) rfl ?_); refine goesL_ (some 16) rfl rfl Try.func83 (by kernel_rfl) rfl #[.int .i64 a0, .slice Ao71 y788.length co71] rfl (by (try simp only [List.map_toArray, List.map_cons, List.map_nil]); first | done | rfl | (simp only [List.length_drop, List.length_take]; rfl)) ?_; (with_reducible refine (spec_l01Code.calls k a0 _ _ y788 t791 _ ?side1 ?side2 A4.out).mono ?_); (case side1 => repeat (first | exact (Kd.R_reads' HO790.out).2.2 | (with_reducible refine Kd.C_alloc ?_ _) | (with_reducible refine Kd.C_drewN ?_ _) | (with_reducible refine Kd.C_drew ?_))); (case side2 => exact (Kd.R_reads' HO790.out).2.1); rintro e w72 ⟨rfl, hb⟩; refine ⟨_, rfl, ?_⟩; have n0_ := Aside0.mk (Kd.R_below (by (with_reducible repeat (first | apply Kd.R_alloc | apply Kd.R_drewN | apply Kd.R_drew)); exact HO790.out) hb); have n1_ := Aside0.mk (blk_below (bkA BK787) hb); have n2_ := Aside0.mk (below_step blA hb); clear HO790; clear BK787; clear HB; have HO790 := n0_; have BK787 := n1_; have HB := n2_; clear n0_ n1_ n2_; (try clear hb); (try clear hb2); (try clear hk); (try clear hi)))
    go_ret2
    exact ⟨_, by first | rfl | (simp [errW_none, errW_some] <;> rfl) | (simp [*, errW_none, errW_some] <;> rfl), by first | exact Kd.R_nil _ _ _ _ _ | exact Kd.N_nil _ _ _ _ _ | exact Kd.V_nil _ _ _ _ _ | exact Kd.Q_nil _ _ _ _ _ | exact Kd.S_nil _ _ _ _ _, blA⟩
end Go.Proofs.Ytmhajnfdbjnegaa.PAll
