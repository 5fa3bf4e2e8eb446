-- turned for this claim out of the kit's print: the same functions, packed anew
import Derived.Test.YtfkglijnbgijbaaQx
import Derived.Test.YtfkglijnbgijbaaQimplIsEnd
import Derived.Test.YtfkglijnbgijbaaQimplbranch
import Derived.Test.YtfkglijnbgijbaaQimplmark
import Derived.Test.YtfkglijnbgijbaaQimplneighbour
namespace Go.Proofs.Ytfkglijnbgijbaa.PAll
open Go.RowKit Go.Proofs.YtfkglijnbgijbaaW.PrintWords Go.Proofs.YtfkglijnbgijbaaW.PrintLast Go.Proofs.YtfkglijnbgijbaaW.PrintMore
attribute [local go_sem] Go.Proofs.Ytfkglijnbgijbaa.Aux.setCell_drewN Go.Proofs.Ytfkglijnbgijbaa.Aux.isSome_setCell max2_int min2_int max_two min_two max_three min_three max_four min_four   -- for this text's walks alone
set_option linter.unusedVariables false
set_option linter.unusedSimpArgs false
/-! ### impl_RayOf: function 51 -/
mutual
def impl_RayOf.j0 : Nat → Int → Int → Bool → Int → Int → Int → Int → Int → Option ((List (S34)) × Int)
  | 0, _, _, _, _, _, _, _, _ => none
  | k + 1, x0, x3, x13, x1333000, x1333001, x1333002, x1334000, x1334001 => if x13 = true then (some (([] : List (S34)), 1)) else (if x3 < 0 then (some (([] : List (S34)), 2)) else (if x3 > 12 then (some (([] : List (S34)), 2)) else (impl_RayOf.l0 k x0 (([(⟨x1333000, x1333001, x1333002⟩ : S34)] : List (S34))) x3 0 x1333000 x1333001 x1333002 x1334000 x1334001)))
def impl_RayOf.l0 : Nat → Int → List (S34) → Int → Int → Int → Int → Int → Int → Int → Option ((List (S34)) × Int)
  | 0, _, _, _, _, _, _, _, _, _ => none
  | k + 1, x0, x10, x32, x33, x1333000, x1333001, x1333002, x1334000, x1334001 => if x33 < x32 then ((impl_branch.f k x0 x1333000 x1333001 x1333002 x1334000 x1334001).bind fun t1339 => ((impl_neighbour.f k x0 x1333000 x1333001 x1333002 t1339).bind fun bt1340 => (if bt1340.2.2.2 = true then (if x10.length < 5864062014805 then (impl_RayOf.l0 k x0 (x10 ++ [(⟨bt1340.1, bt1340.2.1, bt1340.2.2.1⟩ : S34)]) x32 (wrap64 (x33 + 1)) bt1340.1 bt1340.2.1 bt1340.2.2.1 x1334000 x1334001) else (none)) else (some (([] : List (S34)), 3))))) else (some (x10, 0))
end
def impl_RayOf.f (k : Nat) (a0 : Int) (a1_0 : Int) (a1_1 : Int) (a1_2 : Int) (a2_0 : Int) (a2_1 : Int) (a3 : Int) : Option ((List (S34)) × Int) := (impl_IsBall.f k a0 a1_0 a1_1 a1_2).bind fun t1334 => (if t1334 = true then ((impl_IsEnd.f k a2_0 a2_1).bind fun t1335 => (impl_RayOf.j0 k a0 a3 (!t1335) a1_0 a1_1 a1_2 a2_0 a2_1)) else (impl_RayOf.j0 k a0 a3 true a1_0 a1_1 a1_2 a2_0 a2_1))
theorem impl_RayOf.mono_l : ∀ k, (∀ y0 y1 y2 y3 y4 y5 y6 y7, LeO (impl_RayOf.j0 k y0 y1 y2 y3 y4 y5 y6 y7) (impl_RayOf.j0 (k + 1) y0 y1 y2 y3 y4 y5 y6 y7)) ∧ (∀ y0 y1 y2 y3 y4 y5 y6 y7 y8, LeO (impl_RayOf.l0 k y0 y1 y2 y3 y4 y5 y6 y7 y8) (impl_RayOf.l0 (k + 1) y0 y1 y2 y3 y4 y5 y6 y7 y8))
  | 0 => ⟨fun _ _ _ _ _ _ _ _ r h => by simp [impl_RayOf.j0] at h, fun _ _ _ _ _ _ _ _ _ r h => by simp [impl_RayOf.l0] at h⟩
  | k + 1 => by
    obtain ⟨ih0, ih1⟩ := impl_RayOf.mono_l k
    refine ⟨?_, ?_⟩
    · intro y0 y1 y2 y3 y4 y5 y6 y7
      unfold impl_RayOf.j0
      repeat' first
      | (with_reducible exact ih0 _ _ _ _ _ _ _ _)
      | (with_reducible exact ih1 _ _ _ _ _ _ _ _ _)
      | (with_reducible exact impl_IsBall.mono _ _ _ _ _)
      | (with_reducible exact impl_IsEnd.mono _ _ _)
      | (with_reducible exact impl_branch.mono _ _ _ _ _ _ _)
      | (with_reducible exact impl_neighbour.mono _ _ _ _ _ _)
      | (with_reducible exact LeO.refl _)
      | (with_reducible exact LeO.none _)
      | (with_reducible refine LeO.ite ?_ ?_)
      | (with_reducible refine LeO.bind ?_ (fun _ => ?_))
      | exact ih0 _ _ _ _ _ _ _ _
      | exact ih1 _ _ _ _ _ _ _ _ _
      | exact impl_IsBall.mono _ _ _ _ _
      | exact impl_IsEnd.mono _ _ _
      | exact impl_branch.mono _ _ _ _ _ _ _
      | exact impl_neighbour.mono _ _ _ _ _ _
      | exact LeO.none _
      | refine LeO.ite ?_ ?_
      | refine LeO.bind ?_ (fun _ => ?_)
    · intro y0 y1 y2 y3 y4 y5 y6 y7 y8
      unfold impl_RayOf.l0
      repeat' first
      | (with_reducible exact ih0 _ _ _ _ _ _ _ _)
      | (with_reducible exact ih1 _ _ _ _ _ _ _ _ _)
      | (with_reducible exact impl_IsBall.mono _ _ _ _ _)
      | (with_reducible exact impl_IsEnd.mono _ _ _)
      | (with_reducible exact impl_branch.mono _ _ _ _ _ _ _)
      | (with_reducible exact impl_neighbour.mono _ _ _ _ _ _)
      | (with_reducible exact LeO.refl _)
      | (with_reducible exact LeO.none _)
      | (with_reducible refine LeO.ite ?_ ?_)
      | (with_reducible refine LeO.bind ?_ (fun _ => ?_))
      | exact ih0 _ _ _ _ _ _ _ _
      | exact ih1 _ _ _ _ _ _ _ _ _
      | exact impl_IsBall.mono _ _ _ _ _
      | exact impl_IsEnd.mono _ _ _
      | exact impl_branch.mono _ _ _ _ _ _ _
      | exact impl_neighbour.mono _ _ _ _ _ _
      | exact LeO.none _
      | refine LeO.ite ?_ ?_
      | refine LeO.bind ?_ (fun _ => ?_)
theorem impl_RayOf.mono : ∀ a0 a1 a2 a3 a4 a5 a6 k, LeO (impl_RayOf.f k a0 a1 a2 a3 a4 a5 a6) (impl_RayOf.f (k + 1) a0 a1 a2 a3 a4 a5 a6) := by
  intro a0 a1 a2 a3 a4 a5 a6 k
  obtain ⟨ih0, ih1⟩ := impl_RayOf.mono_l k
  unfold impl_RayOf.f
  repeat' first
      | (with_reducible exact ih0 _ _ _ _ _ _ _ _)
      | (with_reducible exact ih1 _ _ _ _ _ _ _ _ _)
      | (with_reducible exact impl_IsBall.mono _ _ _ _ _)
      | (with_reducible exact impl_IsEnd.mono _ _ _)
      | (with_reducible exact impl_branch.mono _ _ _ _ _ _ _)
      | (with_reducible exact impl_neighbour.mono _ _ _ _ _ _)
      | (with_reducible exact LeO.refl _)
      | (with_reducible exact LeO.none _)
      | (with_reducible refine LeO.ite ?_ ?_)
      | (with_reducible refine LeO.bind ?_ (fun _ => ?_))
      | exact ih0 _ _ _ _ _ _ _ _
      | exact ih1 _ _ _ _ _ _ _ _ _
      | exact impl_IsBall.mono _ _ _ _ _
      | exact impl_IsEnd.mono _ _ _
      | exact impl_branch.mono _ _ _ _ _ _ _
      | exact impl_neighbour.mono _ _ _ _ _ _
      | exact LeO.none _
      | refine LeO.ite ?_ ?_
      | refine LeO.bind ?_ (fun _ => ?_)
def impl_RayOf.T8 : Bool × List (List Nat × List Nat) := (true, [([], []), ([], []), ([], []), ([], []), ([], []), ([2, 3, 4], [2, 3, 4]), ([0, 1, 5, 5], [0, 1, 5]), ([6], [6]), ([7], [7]), ([7], [7]), ([], []), ([10, 8, 6, 0, 1, 2, 3, 4, 5, 6, 7, 8, 10], [8, 10]), ([9, 11, 0, 1, 2, 3, 4, 5, 6, 7, 8, 9, 10, 11], [9])])
def impl_RayOf.B8 : List Nat := [0, 0, 0, 0, 0, 28, 63, 127, 255, 255, 0, 1535, 4095]
theorem impl_RayOf.tab8 : rtab .any (opsOf Try.f51 8) = impl_RayOf.T8 := by kernel_rfl
theorem impl_RayOf.bits8 : waitsOk impl_RayOf.T8.2 impl_RayOf.B8 = true := by kernel_rfl
set_option maxHeartbeats 8000000 in
set_option maxRecDepth 100000 in
theorem impl_RayOf.calls (k : Nat) (a0 : Int) (a1_0 : Int) (a1_1 : Int) (a1_2 : Int) (a2_0 : Int) (a2_1 : Int) (a3 : Int) (r1 : List (S34)) (r2 : Int) (w : World) (h : impl_RayOf.f k a0 a1_0 a1_1 a1_2 a2_0 a2_1 a3 = some (r1, r2)) :
    Calls Try.prog 51 #[.int .i64 a0, .agg #[.int .i64 a1_0, .int .i64 a1_1, .int .i64 a1_2], .agg #[.int .i64 a2_0, .int .i64 a2_1], .int .i64 a3] w fun e w' => ∃ v0_ : Value, e = .returned (.tuple #[v0_, .int .i64 r2]) ∧ Kd.R k34 34 w' w.heap.size (fun _ => True) v0_ r1 ∧ Below w.heap.size w w' := by
  have hu34 := Try.underlying34
  have hu24 := Try.underlying24
  have HB := Aside0.mk (Below.refl w.heap.size w)
  have H : ((impl_IsBall.f k a0 a1_0 a1_1 a1_2).bind fun t1334 => (if t1334 = true then ((impl_IsEnd.f k a2_0 a2_1).bind fun t1335 => (impl_RayOf.j0 k a0 a3 (!t1335) a1_0 a1_1 a1_2 a2_0 a2_1)) else (impl_RayOf.j0 k a0 a3 true a1_0 a1_1 a1_2 a2_0 a2_1))) = some (r1, r2) := h
  clear h
  have HC5 := Aside0.mk H
  clear H
  go_enter Try.func51, Try.ntmps51
  go_upto_region 1 with (first | ((with_reducible refine gate_dst (N := 5) rfl ?_); refine box_event ?hg (N := 5) ?hd (cs := #[.int .i64 a1_0, .int .i64 a1_1, .int .i64 a1_2]) (t := 34) ?hr ?_; (case hd => rfl); (case hg => rfl); (case hr => first | (go_simp; done) | (go_simp; rfl)); intro gb1332 hg w6 hbox hb; have n0_ := Aside0.mk (below_step blA hb); have n1_ := Aside0.mk (hbox); have n2_ := Aside0.mk (szA hg blA); have n3_ := Aside0.mk (szA hg blA); clear HB; have HB := n0_; have BK1332 := n1_; have GW1332 := n2_; have GE1332 := n3_; clear n0_ n1_ n2_ n3_; clear hb hbox hg) | ((with_reducible refine gate_dst (N := 6) rfl ?_); refine box_event ?hg (N := 6) ?hd (cs := #[.int .i64 a2_0, .int .i64 a2_1]) (t := 24) ?hr ?_; (case hd => rfl); (case hg => rfl); (case hr => first | (go_simp; done) | (go_simp; rfl)); intro gb1333 hg w7 hbox hb; have n0_ := Aside0.mk (blk_below (bkA BK1332) hb); have n1_ := Aside0.mk (below_step blA hb); have n2_ := Aside0.mk (hbox); have n3_ := Aside0.mk (szA hg blA); have n4_ := Aside0.mk (szA hg blA); have n5_ := Aside0.mk (neA hg (bkA BK1332)); have n6_ := Aside0.mk (neB hg (bkA BK1332)); clear BK1332; clear HB; have BK1332 := n0_; have HB := n1_; have BK1333 := n2_; have GW1333 := n3_; have GE1333 := n4_; have NB1332_1333 := n5_; have NB1333_1332 := n6_; clear n0_ n1_ n2_ n3_ n4_ n5_ n6_; clear hb hbox hg))
  (try simp only [Act.put, List.setIfInBounds_toArray, List.set_cons_zero, List.set_cons_succ])
  go_cut [13] (fun v13 wc => ∃ (kq : Nat) (x13_4 : Bool), v13 = .bool x13_4 ∧ Aside0 (impl_RayOf.j0 kq a0 a3 x13_4 a1_0 a1_1 a1_2 a2_0 a2_1 = some (r1, r2)) ∧ Aside0 (kq ≤ k) ∧ Aside0 (wc.heap[gb1332]? = some (.cells #[.int .i64 a1_0, .int .i64 a1_1, .int .i64 a1_2] 34 (0, 0))) ∧ Aside0 (wc.heap[gb1333]? = some (.cells #[.int .i64 a2_0, .int .i64 a2_1] 24 (0, 0))) ∧ Aside0 (Below w.heap.size w wc))
  case first =>
    have H := HC5.out
    clear HC5
    replace H := Option.bind_eq_some_iff.mp H
    obtain ⟨t1334, A80, H⟩ := H
    replace H : (if t1334 = true then ((impl_IsEnd.f k a2_0 a2_1).bind fun t1335 => (impl_RayOf.j0 k a0 a3 (!t1335) a1_0 a1_1 a1_2 a2_0 a2_1)) else (impl_RayOf.j0 k a0 a3 true a1_0 a1_1 a1_2 a2_0 a2_1)) = some (r1, r2) := H
    have A8 := Aside0.mk A80
    clear A80
    by_cases c9 : t1334 = true
    · subst c9
      have H1 : ((impl_IsEnd.f k a2_0 a2_1).bind fun t1335 => (impl_RayOf.j0 k a0 a3 (!t1335) a1_0 a1_1 a1_2 a2_0 a2_1)) = some (r1, r2) := by rw [if_pos rfl] at H; exact H
      clear H
      have H := H1
      clear H1
      replace H := Option.bind_eq_some_iff.mp H
      obtain ⟨t1335, A100, H⟩ := H
      replace H : (impl_RayOf.j0 k a0 a3 (!t1335) a1_0 a1_1 a1_2 a2_0 a2_1) = some (r1, r2) := H
      have A10 := Aside0.mk A100
      clear A100
      have H' := Aside0.mk H
      clear H
      have hnb11 := NB1332_1333.out
      have hnc11 := NB1333_1332.out
      have hcz12_0 : w7.cell? ⟨gb1332, 0, none⟩ = some (.int .i64 a1_0) := (blk_cell BK1332.out 0).trans rfl
      have hcz12_1 : w7.cell? ⟨gb1332, 1, none⟩ = some (.int .i64 a1_1) := (blk_cell BK1332.out 1).trans rfl
      have hcz12_2 : w7.cell? ⟨gb1332, 2, none⟩ = some (.int .i64 a1_2) := (blk_cell BK1332.out 2).trans rfl
      have hfz12_0 := blk_frozen BK1332.out 0
      have hfz12_1 := blk_frozen BK1332.out 1
      have hfz12_2 := blk_frozen BK1332.out 2
      go_wp2_with (first | ((with_reducible refine gate_callee (f := 77) rfl ?_); refine goesL_ (some 16) rfl rfl Try.func77 (by kernel_rfl) rfl #[.int .i64 a0, .agg #[.int .i64 a1_0, .int .i64 a1_1, .int .i64 a1_2]] rfl (by (try simp only [List.map_toArray, List.map_cons, List.map_nil]); first | done | rfl | (simp only [List.length_drop, List.length_take]; rfl)) ?_; (with_reducible refine (impl_IsBall.calls k a0 a1_0 a1_1 a1_2 true _ A8.out).mono ?_); rintro e w13 ⟨rfl, hb⟩; refine ⟨_, rfl, ?_⟩; have n0_ := Aside0.mk (blk_below (bkA BK1332) hb); have n1_ := Aside0.mk (blk_below (bkA BK1333) hb); have n2_ := Aside0.mk (below_step blA hb); clear BK1332; clear BK1333; clear HB; have BK1332 := n0_; have BK1333 := n1_; have HB := n2_; clear n0_ n1_ n2_; (try clear hb); (try clear hb2); (try clear hk); (try clear hi); have hcz14_0 : w13.cell? ⟨gb1333, 0, none⟩ = some (.int .i64 a2_0) := (blk_cell BK1333.out 0).trans rfl; have hcz14_1 : w13.cell? ⟨gb1333, 1, none⟩ = some (.int .i64 a2_1) := (blk_cell BK1333.out 1).trans rfl; have hfz14_0 := blk_frozen BK1333.out 0; have hfz14_1 := blk_frozen BK1333.out 1) | (go_at_call 98; (with_reducible refine (impl_IsEnd.calls k a2_0 a2_1 t1335 _ A10.out).mono ?_); rintro e w15 ⟨rfl, hb⟩; have n0_ := Aside0.mk (blk_below (bkA BK1332) hb); have n1_ := Aside0.mk (blk_below (bkA BK1333) hb); have n2_ := Aside0.mk (below_step blA hb); clear BK1332; clear BK1333; clear HB; have BK1332 := n0_; have BK1333 := n1_; have HB := n2_; clear n0_ n1_ n2_; (try clear hb); (try clear hb2); (try clear hk); (try clear hi)))
      go_meet
      case rel => exact ⟨_, (!t1335), (by first | rfl | (simp; done) | (simp [*]; done)), H', ⟨by first | omega | exact Nat.le_refl _⟩, ⟨bkA BK1332⟩, ⟨bkA BK1333⟩, ⟨blA⟩⟩
    · replace c9 := Bool.eq_false_iff.mpr c9
      subst c9
      have H1 : (impl_RayOf.j0 k a0 a3 true a1_0 a1_1 a1_2 a2_0 a2_1) = some (r1, r2) := by rw [if_neg (show ¬ (false = true) by decide)] at H; exact H
      clear H
      have H := H1
      clear H1
      have H' := Aside0.mk H
      clear H
      have hnb16 := NB1332_1333.out
      have hnc16 := NB1333_1332.out
      have hcz17_0 : w7.cell? ⟨gb1332, 0, none⟩ = some (.int .i64 a1_0) := (blk_cell BK1332.out 0).trans rfl
      have hcz17_1 : w7.cell? ⟨gb1332, 1, none⟩ = some (.int .i64 a1_1) := (blk_cell BK1332.out 1).trans rfl
      have hcz17_2 : w7.cell? ⟨gb1332, 2, none⟩ = some (.int .i64 a1_2) := (blk_cell BK1332.out 2).trans rfl
      have hfz17_0 := blk_frozen BK1332.out 0
      have hfz17_1 := blk_frozen BK1332.out 1
      have hfz17_2 := blk_frozen BK1332.out 2
      go_wp2_with (first | ((with_reducible refine gate_callee (f := 77) rfl ?_); refine goesL_ (some 16) rfl rfl Try.func77 (by kernel_rfl) rfl #[.int .i64 a0, .agg #[.int .i64 a1_0, .int .i64 a1_1, .int .i64 a1_2]] rfl (by (try simp only [List.map_toArray, List.map_cons, List.map_nil]); first | done | rfl | (simp only [List.length_drop, List.length_take]; rfl)) ?_; (with_reducible refine (impl_IsBall.calls k a0 a1_0 a1_1 a1_2 false _ A8.out).mono ?_); rintro e w18 ⟨rfl, hb⟩; refine ⟨_, rfl, ?_⟩; have n0_ := Aside0.mk (blk_below (bkA BK1332) hb); have n1_ := Aside0.mk (blk_below (bkA BK1333) hb); have n2_ := Aside0.mk (below_step blA hb); clear BK1332; clear BK1333; clear HB; have BK1332 := n0_; have BK1333 := n1_; have HB := n2_; clear n0_ n1_ n2_; (try clear hb); (try clear hb2); (try clear hk); (try clear hi)))
      go_meet
      case rel => exact ⟨_, (true), (by first | rfl | (simp; done) | (simp [*]; done)), H', ⟨by first | omega | exact Nat.le_refl _⟩, ⟨bkA BK1332⟩, ⟨bkA BK1333⟩, ⟨blA⟩⟩
  case rest =>
    clear HC5
    try clear c1
    try clear p2
    try clear c5
    try clear c7
    try clear c9
    try clear c11
    try clear c16
    try clear hcz12_0
    try clear hcz12_1
    try clear hcz12_2
    try clear hcz14_0
    try clear hcz14_1
    try clear hcz17_0
    try clear hcz17_1
    try clear hcz17_2
    try clear hfz12_0
    try clear hfz12_1
    try clear hfz12_2
    try clear hfz14_0
    try clear hfz14_1
    try clear hfz17_0
    try clear hfz17_1
    try clear hfz17_2
    obtain ⟨kq, x13_4, rfl, HA, HJ4, BK1332, BK1333, HB⟩ := hcut
    cases kq with
    | zero => exact absurd HA.out (by simp [impl_RayOf.j0])
    | succ kj4 =>
      have H := HA.out
      clear HA
      simp only [impl_RayOf.j0] at H
      by_cases c19 : x13_4 = true
      · subst c19
        have H1 : (some (([] : List (S34)), 1)) = some (r1, r2) := by rw [if_pos rfl] at H; exact H
        clear H
        have H := H1
        clear H1
        simp only [Option.some.injEq, Prod.mk.injEq] at H
        obtain ⟨rfl, rfl⟩ := H
        go_wp2
        go_ret2
        exact ⟨_, by first | rfl | (simp [errW_none, errW_some] <;> rfl) | (simp [*, errW_none, errW_some] <;> rfl), by first | exact Kd.R_nil _ _ _ _ _ | exact Kd.N_nil _ _ _ _ _ | exact Kd.V_nil _ _ _ _ _ | exact Kd.Q_nil _ _ _ _ _ | exact Kd.S_nil _ _ _ _ _, blA⟩
      · replace c19 := Bool.eq_false_iff.mpr c19
        subst c19
        have H1 : (if a3 < 0 then (some (([] : List (S34)), 2)) else (if a3 > 12 then (some (([] : List (S34)), 2)) else (impl_RayOf.l0 kj4 a0 (([(⟨a1_0, a1_1, a1_2⟩ : S34)] : List (S34))) a3 0 a1_0 a1_1 a1_2 a2_0 a2_1))) = some (r1, r2) := by rw [if_neg (show ¬ (false = true) by decide)] at H; exact H
        clear H
        have H := H1
        clear H1
        by_cases c20 : a3 < 0
        · rw [if_pos c20] at H
          have c20b0 : decide (a3 < 0) = true := decide_eq_true c20
          clear c20
          simp only [Option.some.injEq, Prod.mk.injEq] at H
          obtain ⟨rfl, rfl⟩ := H
          go_wp2
          go_ret2
          exact ⟨_, by first | rfl | (simp [errW_none, errW_some] <;> rfl) | (simp [*, errW_none, errW_some] <;> rfl), by first | exact Kd.R_nil _ _ _ _ _ | exact Kd.N_nil _ _ _ _ _ | exact Kd.V_nil _ _ _ _ _ | exact Kd.Q_nil _ _ _ _ _ | exact Kd.S_nil _ _ _ _ _, blA⟩
        · rw [if_neg c20] at H
          have c20b0 : decide (a3 < 0) = false := decide_eq_false c20
          clear c20
          by_cases c21 : a3 > 12
          · rw [if_pos c21] at H
            have c21b0 : decide (12 < a3) = true := decide_eq_true c21
            clear c21
            simp only [Option.some.injEq, Prod.mk.injEq] at H
            obtain ⟨rfl, rfl⟩ := H
            go_wp2
            go_ret2
            exact ⟨_, by first | rfl | (simp [errW_none, errW_some] <;> rfl) | (simp [*, errW_none, errW_some] <;> rfl), by first | exact Kd.R_nil _ _ _ _ _ | exact Kd.N_nil _ _ _ _ _ | exact Kd.V_nil _ _ _ _ _ | exact Kd.Q_nil _ _ _ _ _ | exact Kd.S_nil _ _ _ _ _, blA⟩
          · rw [if_neg c21] at H
            have c21b0 : decide (12 < a3) = false := decide_eq_false c21
            clear c21
            obtain ⟨y1336, hy1336⟩ : ∃ y_ : List (S34), y_ = (([(⟨a1_0, a1_1, a1_2⟩ : S34)] : List (S34))) := ⟨_, rfl⟩
            replace H : (impl_RayOf.l0 kj4 a0 y1336 a3 0 a1_0 a1_1 a1_2 a2_0 a2_1) = some (r1, r2) := by first | (rw [hy1336]; with_reducible exact H) | (have H2_ := (Option.bind_some _ _).symm.trans H; rw [hy1336]; with_reducible exact H2_) | (have H2_ := (Option.bind_some _ _).symm.trans H; with_reducible exact H2_) | with_reducible exact H | (rw [hy1336]; exact H) | exact H
            have Ny1336 := Aside0.mk hy1336
            clear hy1336
            have H' := Aside0.mk H
            clear H
            have hnb22 := NB1332_1333.out
            have hnc22 := NB1333_1332.out
            have hcz23_0 : wc.cell? ⟨gb1332, 0, none⟩ = some (.int .i64 a1_0) := (blk_cell BK1332.out 0).trans rfl
            have hcz23_1 : wc.cell? ⟨gb1332, 1, none⟩ = some (.int .i64 a1_1) := (blk_cell BK1332.out 1).trans rfl
            have hcz23_2 : wc.cell? ⟨gb1332, 2, none⟩ = some (.int .i64 a1_2) := (blk_cell BK1332.out 2).trans rfl
            have hfz23_0 := blk_frozen BK1332.out 0
            have hfz23_1 := blk_frozen BK1332.out 1
            have hfz23_2 := blk_frozen BK1332.out 2
            go_wp2_with (first | ((with_reducible refine gate_dst (N := 31) rfl ?_); refine Kd.R_lit k34 _ 34 ?hg (N := 31) ?hd (xs := ([(⟨a1_0, a1_1, a1_2⟩ : S34)] : List (S34))) (inner := [.int .i64 a1_0, .int .i64 a1_1, .int .i64 a1_2]) (ok := fun _ => True) (okp := fun _ => True) ?hr ?hp (fun _ hk => hk) trivial (Below.refl _ _) (Nat.le_refl _) (by simp) ?_; (case hd => rfl); (case hg => rfl); (case hr => first | (go_simp; done) | (go_simp; rfl)); (case hp => exact (Reps.c3 (show Kd.M k34 _ _ _ (⟨a1_0, a1_1, a1_2⟩ : S34) [.int .i64 a1_0, .int .i64 a1_1, .int .i64 a1_2] from (k34_mkM _ _ _ (⟨a1_0, a1_1, a1_2⟩ : S34) )) (Reps.none _ _))); intro v1337 w24 ho25 hb hg_ hnew_; clear hg_ hnew_; (first | rw [← Ny1336.out] at ho25 | (simp only [Int.reduceToNat] at ho25; rw [← Ny1336.out] at ho25)); have n0_ := Aside0.mk (Kd.R_lower (Kd.R_newB ho25 (bkA BK1332)) (below_size blA)); have n1_ := Aside0.mk (blk_below (bkA BK1332) hb); have n2_ := Aside0.mk (blk_below (bkA BK1333) hb); have n3_ := Aside0.mk (below_step blA hb); clear BK1332; clear BK1333; clear HB; have HO1338 := n0_; have BK1332 := n1_; have BK1333 := n2_; have HB := n3_; clear n0_ n1_ n2_ n3_; clear hb ho25))
            go_loopg [10, 33] kj4 (fun kq v10 v33 w' => ∃ (x10_2 : List (S34)) (x33_2 : Int) (x1333000_2 : Int) (x1333001_2 : Int) (x1333002_2 : Int), v33 = .int .i64 x33_2 ∧ Aside0 (impl_RayOf.l0 kq a0 x10_2 a3 x33_2 x1333000_2 x1333001_2 x1333002_2 a2_0 a2_1 = some (r1, r2)) ∧ Aside0 (kq ≤ kj4) ∧ Aside0 (Kd.R k34 34 w' w.heap.size (fun k_ => k_ ≠ gb1332) v10 x10_2) ∧ Aside0 (w'.heap[gb1332]? = some (.cells #[.int .i64 x1333000_2, .int .i64 x1333001_2, .int .i64 x1333002_2] 34 (0, 0))) ∧ Aside0 (w'.heap[gb1333]? = some (.cells #[.int .i64 a2_0, .int .i64 a2_1] 24 (0, 0))) ∧ Aside0 (Below w.heap.size w w'))
            case atStart => exact ⟨(y1336), (0), (a1_0), (a1_1), (a1_2), (by first | rfl | (simp; done) | (simp [*]; done)), H', ⟨Nat.le_refl _⟩, ⟨by (with_reducible repeat (first | apply Kd.R_alloc | apply Kd.R_drewN | apply Kd.R_drew)); exact Kd.R_mono HO1338.out (fun _ hk => hk.2)⟩, ⟨bkA BK1332⟩, ⟨bkA BK1333⟩, ⟨blA⟩⟩
            case round =>
              clear H'
              try clear c1
              try clear c2
              try clear p2
              try clear c3
              try clear c5
              try clear c7
              try clear c9
              try clear c11
              try clear c16
              try clear c19
              try clear c20
              try clear c20b0
              try clear c21
              try clear c21b0
              try clear c22
              try clear hcz12_0
              try clear hcz12_1
              try clear hcz12_2
              try clear hcz14_0
              try clear hcz14_1
              try clear hcz17_0
              try clear hcz17_1
              try clear hcz17_2
              try clear hcz23_0
              try clear hcz23_1
              try clear hcz23_2
              try clear hfz12_0
              try clear hfz12_1
              try clear hfz12_2
              try clear hfz14_0
              try clear hfz14_1
              try clear hfz17_0
              try clear hfz17_1
              try clear hfz17_2
              try clear hfz23_0
              try clear hfz23_1
              try clear hfz23_2
              try clear p2
              obtain ⟨x10_2, x33_2, x1333000_2, x1333001_2, x1333002_2, rfl, HA, HK2, HO_10, BK1332, BK1333, HB⟩ := hrel
              cases gk with
              | zero => exact absurd HA.out (by simp [impl_RayOf.l0])
              | succ k2 =>
                have H := HA.out
                clear HA
                simp only [impl_RayOf.l0] at H
                by_cases c26 : x33_2 < a3
                · rw [if_pos c26] at H
                  have c26b0 : decide (x33_2 < a3) = true := decide_eq_true c26
                  clear c26
                  replace H := Option.bind_eq_some_iff.mp H
                  obtain ⟨t1339, A270, H⟩ := H
                  replace H : ((impl_neighbour.f k2 a0 x1333000_2 x1333001_2 x1333002_2 t1339).bind fun bt1340 => (if bt1340.2.2.2 = true then (if x10_2.length < 5864062014805 then (impl_RayOf.l0 k2 a0 (x10_2 ++ [(⟨bt1340.1, bt1340.2.1, bt1340.2.2.1⟩ : S34)]) a3 (wrap64 (x33_2 + 1)) bt1340.1 bt1340.2.1 bt1340.2.2.1 a2_0 a2_1) else (none)) else (some (([] : List (S34)), 3)))) = some (r1, r2) := H
                  have A27 := Aside0.mk A270
                  clear A270
                  replace H := Option.bind_eq_some_iff.mp H
                  obtain ⟨⟨t1340, t1341, t1342, t1343⟩, A280, H⟩ := H
                  replace H : (if t1343 = true then (if x10_2.length < 5864062014805 then (impl_RayOf.l0 k2 a0 (x10_2 ++ [(⟨t1340, t1341, t1342⟩ : S34)]) a3 (wrap64 (x33_2 + 1)) t1340 t1341 t1342 a2_0 a2_1) else (none)) else (some (([] : List (S34)), 3))) = some (r1, r2) := H
                  have A28 := Aside0.mk A280
                  clear A280
                  by_cases c29 : t1343 = true
                  · subst c29
                    have H1 : (if x10_2.length < 5864062014805 then (impl_RayOf.l0 k2 a0 (x10_2 ++ [(⟨t1340, t1341, t1342⟩ : S34)]) a3 (wrap64 (x33_2 + 1)) t1340 t1341 t1342 a2_0 a2_1) else (none)) = some (r1, r2) := by rw [if_pos rfl] at H; exact H
                    clear H
                    have H := H1
                    clear H1
                    by_cases c30 : x10_2.length < 5864062014805
                    · rw [if_pos c30] at H
                      have LMc30 := Aside0.mk c30
                      clear c30
                      obtain ⟨y1345, hy1345⟩ : ∃ y_ : List (S34), y_ = (x10_2 ++ [(⟨t1340, t1341, t1342⟩ : S34)]) := ⟨_, rfl⟩
                      replace H : (impl_RayOf.l0 k2 a0 y1345 a3 (wrap64 (x33_2 + 1)) t1340 t1341 t1342 a2_0 a2_1) = some (r1, r2) := by first | (rw [hy1345]; with_reducible exact H) | (have H2_ := (Option.bind_some _ _).symm.trans H; rw [hy1345]; with_reducible exact H2_) | (have H2_ := (Option.bind_some _ _).symm.trans H; with_reducible exact H2_) | with_reducible exact H | (rw [hy1345]; exact H) | exact H
                      have Ny1345 := Aside0.mk hy1345
                      clear hy1345
                      have H' := Aside0.mk H
                      clear H
                      try go_wp2
                      have n0_ := Aside0.mk (Kd.R_drew HO_10.out)
                      have n1_ := Aside0.mk (blk_drew BK1332.out)
                      have n2_ := Aside0.mk (blk_drew BK1333.out)
                      have n3_ := Aside0.mk (below_drew1 HB.out)
                      clear HO_10
                      clear BK1332
                      clear BK1333
                      clear HB
                      have HO_10 := n0_
                      have BK1332 := n1_
                      have BK1333 := n2_
                      have HB := n3_
                      clear n0_ n1_ n2_ n3_
                      refine start_ (n := 13) (S := fun w' => w'.cell? ⟨gb1332, 0, none⟩ = some (.int .i64 x1333000_2) ∧ w'.cell? ⟨gb1332, 1, none⟩ = some (.int .i64 x1333001_2) ∧ w'.cell? ⟨gb1332, 2, none⟩ = some (.int .i64 x1333002_2) ∧ w'.cell? ⟨gb1333, 0, none⟩ = some (.int .i64 a2_0) ∧ w'.cell? ⟨gb1333, 1, none⟩ = some (.int .i64 a2_1)) (ds := []) #[false, false, false, false, false, false, false, false, false, false, false, false, false] (by kernel_rfl) rfl rfl ⟨(blk_cell BK1332.out 0).trans rfl, (blk_cell BK1332.out 1).trans rfl, (blk_cell BK1332.out 2).trans rfl, (blk_cell BK1333.out 0).trans rfl, (blk_cell BK1333.out 1).trans rfl⟩ (fun hHeld => ?_); refine with_tabW impl_RayOf.tab8 impl_RayOf.bits8 (fun HT_ HW_ => ?_)
                      generalize wr.drew = w31 at HO_10 BK1332 BK1333 HB hHeld ⊢
                      refine pure_ (i := 0) (N := some 36) (v := ?_) (a' := ?_) #[true, false, false, false, false, false, false, false, false, false, false, false, false] rfl rfl (any_of HT_.out (by kernel_rfl)) (fun _ _ _ h => h) (Or.inl ⟨by rfl, ?_⟩) ?_ ?_
                      rotate_left
                      · intro w'
                        go_simp
                        with_reducible rfl
                      rotate_left
                      · simp only [Act.put, List.setIfInBounds_toArray, List.set_cons_zero, List.set_cons_succ, i64_w, i32_w]
                        rfl
                      refine pure_ (i := 2) (N := some 38) (v := ?_) (a' := ?_) #[true, false, true, false, false, false, false, false, false, false, false, false, false] rfl rfl (any_of HT_.out (by kernel_rfl)) (fun _ _ _ h => h) (Or.inl ⟨by rfl, ?_⟩) ?_ ?_
                      rotate_left
                      · intro w'
                        go_simp
                        with_reducible rfl
                      rotate_left
                      · simp only [Act.put, List.setIfInBounds_toArray, List.set_cons_zero, List.set_cons_succ, i64_w, i32_w]
                        rfl
                      refine take_ (i := 1) (N := some 37) (v := ?_) (a' := ?_) #[true, true, true, false, false, false, false, false, false, false, false, false, false] rfl rfl (take_ofW HT_.out HW_.out (by kernel_rfl)) (fun _ _ _ h => h) (Or.inl ⟨by rfl, ?_⟩) hHeld ?_ ?_
                      rotate_left
                      · rintro w' ⟨s0, s1, s2, s3, s4⟩
                        go_simp
                        with_reducible rfl
                      rotate_left
                      · simp only [Act.put, List.setIfInBounds_toArray, List.set_cons_zero, List.set_cons_succ, i64_w, i32_w]
                        rfl
                      refine take_ (i := 3) (N := some 39) (v := ?_) (a' := ?_) #[true, true, true, true, false, false, false, false, false, false, false, false, false] rfl rfl (take_ofW HT_.out HW_.out (by kernel_rfl)) (fun _ _ _ h => h) (Or.inl ⟨by rfl, ?_⟩) hHeld ?_ ?_
                      rotate_left
                      · rintro w' ⟨s0, s1, s2, s3, s4⟩
                        go_simp
                        with_reducible rfl
                      rotate_left
                      · simp only [Act.put, List.setIfInBounds_toArray, List.set_cons_zero, List.set_cons_succ, i64_w, i32_w]
                        rfl
                      refine take_ (i := 4) (N := some 40) (v := ?_) (a' := ?_) #[true, true, true, true, true, false, false, false, false, false, false, false, false] rfl rfl (take_ofW HT_.out HW_.out (by kernel_rfl)) (fun _ _ _ h => h) (Or.inl ⟨by rfl, ?_⟩) hHeld ?_ ?_
                      rotate_left
                      · rintro w' ⟨s0, s1, s2, s3, s4⟩
                        go_simp
                        with_reducible rfl
                      rotate_left
                      · simp only [Act.put, List.setIfInBounds_toArray, List.set_cons_zero, List.set_cons_succ, i64_w, i32_w]
                        rfl
                      refine join_ (σ := Nat) 2 #[true, true, true, true, true, true, true, true, true, true, true, false, false] (fun s_ => [(41, .int .i64 t1339), (42, .tuple #[.agg #[.int .i64 t1340, .int .i64 t1341, .int .i64 t1342], .bool true]), (11, .pointer (some ⟨s_, 0, none⟩)), (35, .tuple #[.agg #[.int .i64 t1340, .int .i64 t1341, .int .i64 t1342], .bool true]), (43, .agg #[.int .i64 t1340, .int .i64 t1341, .int .i64 t1342]), (44, .bool true)]) (fun s_ w' => (w'.cell? ⟨gb1332, 0, none⟩ = some (.int .i64 x1333000_2) ∧ w'.cell? ⟨gb1332, 1, none⟩ = some (.int .i64 x1333001_2) ∧ w'.cell? ⟨gb1332, 2, none⟩ = some (.int .i64 x1333002_2) ∧ w'.cell? ⟨gb1333, 0, none⟩ = some (.int .i64 a2_0) ∧ w'.cell? ⟨gb1333, 1, none⟩ = some (.int .i64 a2_1)) ∧ (Kd.R k34 34 w' w.heap.size (fun k_ => k_ ≠ gb1332 ∧ k_ ≠ s_) u10 x10_2) ∧ (w'.heap[gb1332]? = some (.cells #[.int .i64 x1333000_2, .int .i64 x1333001_2, .int .i64 x1333002_2] 34 (0, 0))) ∧ (w'.heap[gb1333]? = some (.cells #[.int .i64 a2_0, .int .i64 a2_1] 24 (0, 0))) ∧ (w'.heap[s_]? = some (.cells #[.int .i64 0, .int .i64 0, .int .i64 0] 34 (0, 0))) ∧ (w.heap.size ≤ s_) ∧ (w.heap.size ≤ s_) ∧ (gb1332 ≠ s_) ∧ (s_ ≠ gb1332) ∧ (gb1333 ≠ s_) ∧ (s_ ≠ gb1333) ∧ (Below w.heap.size w w')) ?_ ?_
                      rotate_left
                      · intro hCont
                        refine two_ (i := 5) (j := 10) (Ni := some 41) (Nj := some 11) #[true, true, true, true, true, true, false, false, false, false, false, false, false] #[true, true, true, true, true, false, false, false, false, false, true, false, false] rfl rfl rfl rfl (two_of HT_.out (by kernel_rfl)) (by decide) (by decide) (fun K hK => ?_) (fun K hK => ?_)
                        · skip
                          refine goes_ Try.func99 (by kernel_rfl) rfl #[.int .i64 a0, .agg #[.int .i64 x1333000_2, .int .i64 x1333001_2, .int .i64 x1333002_2], .agg #[.int .i64 a2_0, .int .i64 a2_1]] (by rfl) rfl rfl (by (try simp only [List.map_toArray, List.map_cons, List.map_nil]); first | done | rfl | (simp only [List.length_drop, List.length_take]; rfl)) ?_
                          with_reducible refine (impl_branch.calls k2 a0 x1333000_2 x1333001_2 x1333002_2 a2_0 a2_1 t1339 _ A27.out).mono ?_
                          rintro e w32 ⟨rfl, hb⟩
                          refine ⟨_, rfl, ?_⟩
                          have n0_ := Aside0.mk (Kd.R_below (by (with_reducible repeat (first | apply Kd.R_alloc | apply Kd.R_drewN | apply Kd.R_drew)); exact HO_10.out) hb)
                          have n1_ := Aside0.mk (blk_below (bkA BK1332) hb)
                          have n2_ := Aside0.mk (blk_below (bkA BK1333) hb)
                          have n3_ := Aside0.mk (below_step blA hb)
                          clear HO_10
                          clear BK1332
                          clear BK1333
                          clear HB
                          have HO_10 := n0_
                          have BK1332 := n1_
                          have BK1333 := n2_
                          have HB := n3_
                          clear n0_ n1_ n2_ n3_
                          (try clear hb)
                          (try clear hb2)
                          (try clear hk)
                          (try clear hi)
                          refine hK.out _ _ ⟨(blk_cell BK1332.out 0).trans rfl, (blk_cell BK1332.out 1).trans rfl, (blk_cell BK1332.out 2).trans rfl, (blk_cell BK1333.out 0).trans rfl, (blk_cell BK1333.out 1).trans rfl⟩ (fun hHeld => ?_)
                          clear hK K
                          refine norm_ (a' := ?_) ?_ ?_
                          rotate_left
                          · show Act.put _ (some 41) _ = _
                            simp only [Act.put, List.setIfInBounds_toArray, List.set_cons_zero, List.set_cons_succ, i64_w, i32_w]
                            rfl
                          refine two_ (i := 6) (j := 10) (Ni := some 42) (Nj := some 11) #[true, true, true, true, true, true, true, false, false, false, false, false, false] #[true, true, true, true, true, true, false, false, false, false, true, false, false] rfl rfl rfl rfl (two_of HT_.out (by kernel_rfl)) (by decide) (by decide) (fun K hK => ?_) (fun K hK => ?_)
                          · skip
                            refine goes_ Try.func114 (by kernel_rfl) rfl #[.int .i64 a0, .agg #[.int .i64 x1333000_2, .int .i64 x1333001_2, .int .i64 x1333002_2], .int .i64 t1339] (by rfl) rfl rfl (by (try simp only [List.map_toArray, List.map_cons, List.map_nil]); first | done | rfl | (simp only [List.length_drop, List.length_take]; rfl)) ?_
                            with_reducible refine (impl_neighbour.calls k2 a0 x1333000_2 x1333001_2 x1333002_2 t1339 t1340 t1341 t1342 true _ A28.out).mono ?_
                            rintro e w33 ⟨rfl, hb⟩
                            refine ⟨_, rfl, ?_⟩
                            have n0_ := Aside0.mk (Kd.R_below (by (with_reducible repeat (first | apply Kd.R_alloc | apply Kd.R_drewN | apply Kd.R_drew)); exact HO_10.out) hb)
                            have n1_ := Aside0.mk (blk_below (bkA BK1332) hb)
                            have n2_ := Aside0.mk (blk_below (bkA BK1333) hb)
                            have n3_ := Aside0.mk (below_step blA hb)
                            clear HO_10
                            clear BK1332
                            clear BK1333
                            clear HB
                            have HO_10 := n0_
                            have BK1332 := n1_
                            have BK1333 := n2_
                            have HB := n3_
                            clear n0_ n1_ n2_ n3_
                            (try clear hb)
                            (try clear hb2)
                            (try clear hk)
                            (try clear hi)
                            refine hK.out _ _ ⟨(blk_cell BK1332.out 0).trans rfl, (blk_cell BK1332.out 1).trans rfl, (blk_cell BK1332.out 2).trans rfl, (blk_cell BK1333.out 0).trans rfl, (blk_cell BK1333.out 1).trans rfl⟩ (fun hHeld => ?_)
                            clear hK K
                            refine norm_ (a' := ?_) ?_ ?_
                            rotate_left
                            · show Act.put _ (some 42) _ = _
                              simp only [Act.put, List.setIfInBounds_toArray, List.set_cons_zero, List.set_cons_succ, i64_w, i32_w]
                              rfl
                            refine pure_ (i := 7) (N := some 35) (v := ?_) (a' := ?_) #[true, true, true, true, true, true, true, true, false, false, false, false, false] rfl rfl (any_of HT_.out (by kernel_rfl)) (fun _ _ _ h => h) (Or.inl ⟨by rfl, ?_⟩) ?_ ?_
                            rotate_left
                            · intro w'
                              go_simp
                              with_reducible rfl
                            rotate_left
                            · simp only [Act.put, List.setIfInBounds_toArray, List.set_cons_zero, List.set_cons_succ, i64_w, i32_w]
                              rfl
                            refine pure_ (i := 8) (N := some 43) (v := ?_) (a' := ?_) #[true, true, true, true, true, true, true, true, true, false, false, false, false] rfl rfl (any_of HT_.out (by kernel_rfl)) (fun _ _ _ h => h) (Or.inl ⟨by rfl, ?_⟩) ?_ ?_
                            rotate_left
                            · intro w'
                              go_simp
                              with_reducible rfl
                            rotate_left
                            · simp only [Act.put, List.setIfInBounds_toArray, List.set_cons_zero, List.set_cons_succ, i64_w, i32_w]
                              rfl
                            refine pure_ (i := 9) (N := some 44) (v := ?_) (a' := ?_) #[true, true, true, true, true, true, true, true, true, true, false, false, false] rfl rfl (any_of HT_.out (by kernel_rfl)) (fun _ _ _ h => h) (Or.inl ⟨by rfl, ?_⟩) ?_ ?_
                            rotate_left
                            · intro w'
                              go_simp
                              with_reducible rfl
                            rotate_left
                            · simp only [Act.put, List.setIfInBounds_toArray, List.set_cons_zero, List.set_cons_succ, i64_w, i32_w]
                              rfl
                            refine one_ (i := 10) (N := some 11) #[true, true, true, true, true, true, true, true, true, true, true, false, false] rfl rfl (one_of HT_.out (by kernel_rfl)) (by decide) (fun K hK => ?_)
                            refine box_step ?hg (N := 11) ?hd (cs := #[.int .i64 0, .int .i64 0, .int .i64 0]) (t := 34) ?hr ?_; (case hd => rfl); (case hg => rfl); (case hr => first | (go_simp; done) | (go_simp; rfl))
                            intro gb1344 hg w34 hbox hb
                            have n0_ := Aside0.mk (Kd.R_below (Kd.R_elderB (by (with_reducible repeat (first | apply Kd.R_alloc | apply Kd.R_drewN | apply Kd.R_drew)); exact HO_10.out) gb1344 (Nat.le_of_eq hg.symm)) hb)
                            have n1_ := Aside0.mk (blk_below (bkA BK1332) hb)
                            have n2_ := Aside0.mk (blk_below (bkA BK1333) hb)
                            have n3_ := Aside0.mk (below_step blA hb)
                            have n4_ := Aside0.mk (hbox)
                            have n5_ := Aside0.mk (szA hg blA)
                            have n6_ := Aside0.mk (szA hg blA)
                            have n7_ := Aside0.mk (neA hg (bkA BK1332))
                            have n8_ := Aside0.mk (neB hg (bkA BK1332))
                            have n9_ := Aside0.mk (neA hg (bkA BK1333))
                            have n10_ := Aside0.mk (neB hg (bkA BK1333))
                            clear HO_10
                            clear BK1332
                            clear BK1333
                            clear HB
                            have HO_10 := n0_
                            have BK1332 := n1_
                            have BK1333 := n2_
                            have HB := n3_
                            have BK1344 := n4_
                            have GW1344 := n5_
                            have GE1344 := n6_
                            have NB1332_1344 := n7_
                            have NB1344_1332 := n8_
                            have NB1333_1344 := n9_
                            have NB1344_1333 := n10_
                            clear n0_ n1_ n2_ n3_ n4_ n5_ n6_ n7_ n8_ n9_ n10_
                            clear hb hbox hg
                            refine hK.out _ _ ⟨(blk_cell BK1332.out 0).trans rfl, (blk_cell BK1332.out 1).trans rfl, (blk_cell BK1332.out 2).trans rfl, (blk_cell BK1333.out 0).trans rfl, (blk_cell BK1333.out 1).trans rfl⟩ (fun hHeld => ?_)
                            clear hK K
                            refine norm_ (a' := ?_) ?_ ?_
                            rotate_left
                            · show Act.put _ (some 11) _ = _
                              simp only [Act.put, List.setIfInBounds_toArray, List.set_cons_zero, List.set_cons_succ, i64_w, i32_w]
                              rfl
                            exact norm_ (by simp only [putAll, Act.put, List.setIfInBounds_toArray, List.set_cons_zero, List.set_cons_succ]) (hCont (gb1344) _ ⟨hHeld, (by (with_reducible repeat (first | apply Kd.R_alloc | apply Kd.R_drewN | apply Kd.R_drew)); exact HO_10.out), (bkA BK1332), (bkA BK1333), (bkA BK1344), GW1344.out, GE1344.out, NB1332_1344.out, NB1344_1332.out, NB1333_1344.out, NB1344_1333.out, blA⟩)
                          · skip
                            refine box_step ?hg (N := 11) ?hd (cs := #[.int .i64 0, .int .i64 0, .int .i64 0]) (t := 34) ?hr ?_; (case hd => rfl); (case hg => rfl); (case hr => first | (go_simp; done) | (go_simp; rfl))
                            intro gb1344 hg w33 hbox hb
                            have n0_ := Aside0.mk (Kd.R_below (Kd.R_elderB (by (with_reducible repeat (first | apply Kd.R_alloc | apply Kd.R_drewN | apply Kd.R_drew)); exact HO_10.out) gb1344 (Nat.le_of_eq hg.symm)) hb)
                            have n1_ := Aside0.mk (blk_below (bkA BK1332) hb)
                            have n2_ := Aside0.mk (blk_below (bkA BK1333) hb)
                            have n3_ := Aside0.mk (below_step blA hb)
                            have n4_ := Aside0.mk (hbox)
                            have n5_ := Aside0.mk (szA hg blA)
                            have n6_ := Aside0.mk (szA hg blA)
                            have n7_ := Aside0.mk (neA hg (bkA BK1332))
                            have n8_ := Aside0.mk (neB hg (bkA BK1332))
                            have n9_ := Aside0.mk (neA hg (bkA BK1333))
                            have n10_ := Aside0.mk (neB hg (bkA BK1333))
                            clear HO_10
                            clear BK1332
                            clear BK1333
                            clear HB
                            have HO_10 := n0_
                            have BK1332 := n1_
                            have BK1333 := n2_
                            have HB := n3_
                            have BK1344 := n4_
                            have GW1344 := n5_
                            have GE1344 := n6_
                            have NB1332_1344 := n7_
                            have NB1344_1332 := n8_
                            have NB1333_1344 := n9_
                            have NB1344_1333 := n10_
                            clear n0_ n1_ n2_ n3_ n4_ n5_ n6_ n7_ n8_ n9_ n10_
                            clear hb hbox hg
                            refine hK.out _ _ ⟨(blk_cell BK1332.out 0).trans rfl, (blk_cell BK1332.out 1).trans rfl, (blk_cell BK1332.out 2).trans rfl, (blk_cell BK1333.out 0).trans rfl, (blk_cell BK1333.out 1).trans rfl⟩ (fun hHeld => ?_)
                            clear hK K
                            refine norm_ (a' := ?_) ?_ ?_
                            rotate_left
                            · show Act.put _ (some 11) _ = _
                              simp only [Act.put, List.setIfInBounds_toArray, List.set_cons_zero, List.set_cons_succ, i64_w, i32_w]
                              rfl
                            refine one_ (i := 6) (N := some 42) #[true, true, true, true, true, true, true, false, false, false, true, false, false] rfl rfl (one_of HT_.out (by kernel_rfl)) (by decide) (fun K hK => ?_)
                            refine goes_ Try.func114 (by kernel_rfl) rfl #[.int .i64 a0, .agg #[.int .i64 x1333000_2, .int .i64 x1333001_2, .int .i64 x1333002_2], .int .i64 t1339] (by rfl) rfl rfl (by (try simp only [List.map_toArray, List.map_cons, List.map_nil]); first | done | rfl | (simp only [List.length_drop, List.length_take]; rfl)) ?_
                            with_reducible refine (impl_neighbour.calls k2 a0 x1333000_2 x1333001_2 x1333002_2 t1339 t1340 t1341 t1342 true _ A28.out).mono ?_
                            rintro e w34 ⟨rfl, hb⟩
                            refine ⟨_, rfl, ?_⟩
                            have n0_ := Aside0.mk (Kd.R_below (by (with_reducible repeat (first | apply Kd.R_alloc | apply Kd.R_drewN | apply Kd.R_drew)); exact HO_10.out) hb)
                            have n1_ := Aside0.mk (blk_below (bkA BK1332) hb)
                            have n2_ := Aside0.mk (blk_below (bkA BK1333) hb)
                            have n3_ := Aside0.mk (blk_below (bkA BK1344) hb)
                            have n4_ := Aside0.mk (below_step blA hb)
                            clear HO_10
                            clear BK1332
                            clear BK1333
                            clear BK1344
                            clear HB
                            have HO_10 := n0_
                            have BK1332 := n1_
                            have BK1333 := n2_
                            have BK1344 := n3_
                            have HB := n4_
                            clear n0_ n1_ n2_ n3_ n4_
                            (try clear hb)
                            (try clear hb2)
                            (try clear hk)
                            (try clear hi)
                            refine hK.out _ _ ⟨(blk_cell BK1332.out 0).trans rfl, (blk_cell BK1332.out 1).trans rfl, (blk_cell BK1332.out 2).trans rfl, (blk_cell BK1333.out 0).trans rfl, (blk_cell BK1333.out 1).trans rfl⟩ (fun hHeld => ?_)
                            clear hK K
                            refine norm_ (a' := ?_) ?_ ?_
                            rotate_left
                            · show Act.put _ (some 42) _ = _
                              simp only [Act.put, List.setIfInBounds_toArray, List.set_cons_zero, List.set_cons_succ, i64_w, i32_w]
                              rfl
                            refine pure_ (i := 7) (N := some 35) (v := ?_) (a' := ?_) #[true, true, true, true, true, true, true, true, false, false, true, false, false] rfl rfl (any_of HT_.out (by kernel_rfl)) (fun _ _ _ h => h) (Or.inl ⟨by rfl, ?_⟩) ?_ ?_
                            rotate_left
                            · intro w'
                              go_simp
                              with_reducible rfl
                            rotate_left
                            · simp only [Act.put, List.setIfInBounds_toArray, List.set_cons_zero, List.set_cons_succ, i64_w, i32_w]
                              rfl
                            refine pure_ (i := 8) (N := some 43) (v := ?_) (a' := ?_) #[true, true, true, true, true, true, true, true, true, false, true, false, false] rfl rfl (any_of HT_.out (by kernel_rfl)) (fun _ _ _ h => h) (Or.inl ⟨by rfl, ?_⟩) ?_ ?_
                            rotate_left
                            · intro w'
                              go_simp
                              with_reducible rfl
                            rotate_left
                            · simp only [Act.put, List.setIfInBounds_toArray, List.set_cons_zero, List.set_cons_succ, i64_w, i32_w]
                              rfl
                            refine pure_ (i := 9) (N := some 44) (v := ?_) (a' := ?_) #[true, true, true, true, true, true, true, true, true, true, true, false, false] rfl rfl (any_of HT_.out (by kernel_rfl)) (fun _ _ _ h => h) (Or.inl ⟨by rfl, ?_⟩) ?_ ?_
                            rotate_left
                            · intro w'
                              go_simp
                              with_reducible rfl
                            rotate_left
                            · simp only [Act.put, List.setIfInBounds_toArray, List.set_cons_zero, List.set_cons_succ, i64_w, i32_w]
                              rfl
                            exact norm_ (by simp only [putAll, Act.put, List.setIfInBounds_toArray, List.set_cons_zero, List.set_cons_succ]) (hCont (gb1344) _ ⟨hHeld, (by (with_reducible repeat (first | apply Kd.R_alloc | apply Kd.R_drewN | apply Kd.R_drew)); exact HO_10.out), (bkA BK1332), (bkA BK1333), (bkA BK1344), GW1344.out, GE1344.out, NB1332_1344.out, NB1344_1332.out, NB1333_1344.out, NB1344_1333.out, blA⟩)
                        · skip
                          refine box_step ?hg (N := 11) ?hd (cs := #[.int .i64 0, .int .i64 0, .int .i64 0]) (t := 34) ?hr ?_; (case hd => rfl); (case hg => rfl); (case hr => first | (go_simp; done) | (go_simp; rfl))
                          intro gb1344 hg w32 hbox hb
                          have n0_ := Aside0.mk (Kd.R_below (Kd.R_elderB (by (with_reducible repeat (first | apply Kd.R_alloc | apply Kd.R_drewN | apply Kd.R_drew)); exact HO_10.out) gb1344 (Nat.le_of_eq hg.symm)) hb)
                          have n1_ := Aside0.mk (blk_below (bkA BK1332) hb)
                          have n2_ := Aside0.mk (blk_below (bkA BK1333) hb)
                          have n3_ := Aside0.mk (below_step blA hb)
                          have n4_ := Aside0.mk (hbox)
                          have n5_ := Aside0.mk (szA hg blA)
                          have n6_ := Aside0.mk (szA hg blA)
                          have n7_ := Aside0.mk (neA hg (bkA BK1332))
                          have n8_ := Aside0.mk (neB hg (bkA BK1332))
                          have n9_ := Aside0.mk (neA hg (bkA BK1333))
                          have n10_ := Aside0.mk (neB hg (bkA BK1333))
                          clear HO_10
                          clear BK1332
                          clear BK1333
                          clear HB
                          have HO_10 := n0_
                          have BK1332 := n1_
                          have BK1333 := n2_
                          have HB := n3_
                          have BK1344 := n4_
                          have GW1344 := n5_
                          have GE1344 := n6_
                          have NB1332_1344 := n7_
                          have NB1344_1332 := n8_
                          have NB1333_1344 := n9_
                          have NB1344_1333 := n10_
                          clear n0_ n1_ n2_ n3_ n4_ n5_ n6_ n7_ n8_ n9_ n10_
                          clear hb hbox hg
                          refine hK.out _ _ ⟨(blk_cell BK1332.out 0).trans rfl, (blk_cell BK1332.out 1).trans rfl, (blk_cell BK1332.out 2).trans rfl, (blk_cell BK1333.out 0).trans rfl, (blk_cell BK1333.out 1).trans rfl⟩ (fun hHeld => ?_)
                          clear hK K
                          refine norm_ (a' := ?_) ?_ ?_
                          rotate_left
                          · show Act.put _ (some 11) _ = _
                            simp only [Act.put, List.setIfInBounds_toArray, List.set_cons_zero, List.set_cons_succ, i64_w, i32_w]
                            rfl
                          refine one_ (i := 5) (N := some 41) #[true, true, true, true, true, true, false, false, false, false, true, false, false] rfl rfl (one_of HT_.out (by kernel_rfl)) (by decide) (fun K hK => ?_)
                          refine goes_ Try.func99 (by kernel_rfl) rfl #[.int .i64 a0, .agg #[.int .i64 x1333000_2, .int .i64 x1333001_2, .int .i64 x1333002_2], .agg #[.int .i64 a2_0, .int .i64 a2_1]] (by rfl) rfl rfl (by (try simp only [List.map_toArray, List.map_cons, List.map_nil]); first | done | rfl | (simp only [List.length_drop, List.length_take]; rfl)) ?_
                          with_reducible refine (impl_branch.calls k2 a0 x1333000_2 x1333001_2 x1333002_2 a2_0 a2_1 t1339 _ A27.out).mono ?_
                          rintro e w33 ⟨rfl, hb⟩
                          refine ⟨_, rfl, ?_⟩
                          have n0_ := Aside0.mk (Kd.R_below (by (with_reducible repeat (first | apply Kd.R_alloc | apply Kd.R_drewN | apply Kd.R_drew)); exact HO_10.out) hb)
                          have n1_ := Aside0.mk (blk_below (bkA BK1332) hb)
                          have n2_ := Aside0.mk (blk_below (bkA BK1333) hb)
                          have n3_ := Aside0.mk (blk_below (bkA BK1344) hb)
                          have n4_ := Aside0.mk (below_step blA hb)
                          clear HO_10
                          clear BK1332
                          clear BK1333
                          clear BK1344
                          clear HB
                          have HO_10 := n0_
                          have BK1332 := n1_
                          have BK1333 := n2_
                          have BK1344 := n3_
                          have HB := n4_
                          clear n0_ n1_ n2_ n3_ n4_
                          (try clear hb)
                          (try clear hb2)
                          (try clear hk)
                          (try clear hi)
                          refine hK.out _ _ ⟨(blk_cell BK1332.out 0).trans rfl, (blk_cell BK1332.out 1).trans rfl, (blk_cell BK1332.out 2).trans rfl, (blk_cell BK1333.out 0).trans rfl, (blk_cell BK1333.out 1).trans rfl⟩ (fun hHeld => ?_)
                          clear hK K
                          refine norm_ (a' := ?_) ?_ ?_
                          rotate_left
                          · show Act.put _ (some 41) _ = _
                            simp only [Act.put, List.setIfInBounds_toArray, List.set_cons_zero, List.set_cons_succ, i64_w, i32_w]
                            rfl
                          refine one_ (i := 6) (N := some 42) #[true, true, true, true, true, true, true, false, false, false, true, false, false] rfl rfl (one_of HT_.out (by kernel_rfl)) (by decide) (fun K hK => ?_)
                          refine goes_ Try.func114 (by kernel_rfl) rfl #[.int .i64 a0, .agg #[.int .i64 x1333000_2, .int .i64 x1333001_2, .int .i64 x1333002_2], .int .i64 t1339] (by rfl) rfl rfl (by (try simp only [List.map_toArray, List.map_cons, List.map_nil]); first | done | rfl | (simp only [List.length_drop, List.length_take]; rfl)) ?_
                          with_reducible refine (impl_neighbour.calls k2 a0 x1333000_2 x1333001_2 x1333002_2 t1339 t1340 t1341 t1342 true _ A28.out).mono ?_
                          rintro e w34 ⟨rfl, hb⟩
                          refine ⟨_, rfl, ?_⟩
                          have n0_ := Aside0.mk (Kd.R_below (by (with_reducible repeat (first | apply Kd.R_alloc | apply Kd.R_drewN | apply Kd.R_drew)); exact HO_10.out) hb)
                          have n1_ := Aside0.mk (blk_below (bkA BK1332) hb)
                          have n2_ := Aside0.mk (blk_below (bkA BK1333) hb)
                          have n3_ := Aside0.mk (blk_below (bkA BK1344) hb)
                          have n4_ := Aside0.mk (below_step blA hb)
                          clear HO_10
                          clear BK1332
                          clear BK1333
                          clear BK1344
                          clear HB
                          have HO_10 := n0_
                          have BK1332 := n1_
                          have BK1333 := n2_
                          have BK1344 := n3_
                          have HB := n4_
                          clear n0_ n1_ n2_ n3_ n4_
                          (try clear hb)
                          (try clear hb2)
                          (try clear hk)
                          (try clear hi)
                          refine hK.out _ _ ⟨(blk_cell BK1332.out 0).trans rfl, (blk_cell BK1332.out 1).trans rfl, (blk_cell BK1332.out 2).trans rfl, (blk_cell BK1333.out 0).trans rfl, (blk_cell BK1333.out 1).trans rfl⟩ (fun hHeld => ?_)
                          clear hK K
                          refine norm_ (a' := ?_) ?_ ?_
                          rotate_left
                          · show Act.put _ (some 42) _ = _
                            simp only [Act.put, List.setIfInBounds_toArray, List.set_cons_zero, List.set_cons_succ, i64_w, i32_w]
                            rfl
                          refine pure_ (i := 7) (N := some 35) (v := ?_) (a' := ?_) #[true, true, true, true, true, true, true, true, false, false, true, false, false] rfl rfl (any_of HT_.out (by kernel_rfl)) (fun _ _ _ h => h) (Or.inl ⟨by rfl, ?_⟩) ?_ ?_
                          rotate_left
                          · intro w'
                            go_simp
                            with_reducible rfl
                          rotate_left
                          · simp only [Act.put, List.setIfInBounds_toArray, List.set_cons_zero, List.set_cons_succ, i64_w, i32_w]
                            rfl
                          refine pure_ (i := 8) (N := some 43) (v := ?_) (a' := ?_) #[true, true, true, true, true, true, true, true, true, false, true, false, false] rfl rfl (any_of HT_.out (by kernel_rfl)) (fun _ _ _ h => h) (Or.inl ⟨by rfl, ?_⟩) ?_ ?_
                          rotate_left
                          · intro w'
                            go_simp
                            with_reducible rfl
                          rotate_left
                          · simp only [Act.put, List.setIfInBounds_toArray, List.set_cons_zero, List.set_cons_succ, i64_w, i32_w]
                            rfl
                          refine pure_ (i := 9) (N := some 44) (v := ?_) (a' := ?_) #[true, true, true, true, true, true, true, true, true, true, true, false, false] rfl rfl (any_of HT_.out (by kernel_rfl)) (fun _ _ _ h => h) (Or.inl ⟨by rfl, ?_⟩) ?_ ?_
                          rotate_left
                          · intro w'
                            go_simp
                            with_reducible rfl
                          rotate_left
                          · simp only [Act.put, List.setIfInBounds_toArray, List.set_cons_zero, List.set_cons_succ, i64_w, i32_w]
                            rfl
                          exact norm_ (by simp only [putAll, Act.put, List.setIfInBounds_toArray, List.set_cons_zero, List.set_cons_succ]) (hCont (gb1344) _ ⟨hHeld, (by (with_reducible repeat (first | apply Kd.R_alloc | apply Kd.R_drewN | apply Kd.R_drew)); exact HO_10.out), (bkA BK1332), (bkA BK1333), (bkA BK1344), GW1344.out, GE1344.out, NB1332_1344.out, NB1344_1332.out, NB1333_1344.out, NB1344_1333.out, blA⟩)
                      rintro gb1344 w35 ⟨hS_, h0_, h1_, h2_, h3_, h4_, h5_, h6_, h7_, h8_, h9_, h10_⟩
                      have n0_ : Aside0 (Kd.R k34 34 w35 w.heap.size (fun k_ => k_ ≠ gb1332 ∧ k_ ≠ gb1344) u10 x10_2) := ⟨h0_⟩
                      have n1_ : Aside0 (w35.heap[gb1332]? = some (.cells #[.int .i64 x1333000_2, .int .i64 x1333001_2, .int .i64 x1333002_2] 34 (0, 0))) := ⟨h1_⟩
                      have n2_ : Aside0 (w35.heap[gb1333]? = some (.cells #[.int .i64 a2_0, .int .i64 a2_1] 24 (0, 0))) := ⟨h2_⟩
                      have n3_ : Aside0 (w35.heap[gb1344]? = some (.cells #[.int .i64 0, .int .i64 0, .int .i64 0] 34 (0, 0))) := ⟨h3_⟩
                      have n4_ : Aside0 (w.heap.size ≤ gb1344) := ⟨h4_⟩
                      have n5_ : Aside0 (w.heap.size ≤ gb1344) := ⟨h5_⟩
                      have n6_ : Aside0 (gb1332 ≠ gb1344) := ⟨h6_⟩
                      have n7_ : Aside0 (gb1344 ≠ gb1332) := ⟨h7_⟩
                      have n8_ : Aside0 (gb1333 ≠ gb1344) := ⟨h8_⟩
                      have n9_ : Aside0 (gb1344 ≠ gb1333) := ⟨h9_⟩
                      have n10_ : Aside0 (Below w.heap.size w w35) := ⟨h10_⟩
                      clear HO_10
                      clear BK1332
                      clear BK1333
                      clear HB
                      clear h0_ h1_ h2_ h3_ h4_ h5_ h6_ h7_ h8_ h9_ h10_
                      have HO_10 := n0_
                      have BK1332 := n1_
                      have BK1333 := n2_
                      have BK1344 := n3_
                      have GW1344 := n4_
                      have GE1344 := n5_
                      have NB1332_1344 := n6_
                      have NB1344_1332 := n7_
                      have NB1333_1344 := n8_
                      have NB1344_1333 := n9_
                      have HB := n10_
                      clear n0_ n1_ n2_ n3_ n4_ n5_ n6_ n7_ n8_ n9_ n10_
                      have hHeld : w35.cell? ⟨gb1332, 0, none⟩ = some (.int .i64 x1333000_2) ∧ w35.cell? ⟨gb1332, 1, none⟩ = some (.int .i64 x1333001_2) ∧ w35.cell? ⟨gb1332, 2, none⟩ = some (.int .i64 x1333002_2) ∧ w35.cell? ⟨gb1333, 0, none⟩ = some (.int .i64 a2_0) ∧ w35.cell? ⟨gb1333, 1, none⟩ = some (.int .i64 a2_1) := hS_
                      refine norm_ (a' := ?_) ?_ ?_
                      rotate_left
                      · simp only [putAll, Act.put, List.setIfInBounds_toArray, List.set_cons_zero, List.set_cons_succ]
                        rfl
                      refine one_ (i := 11) (N := none) #[true, true, true, true, true, true, true, true, true, true, true, true, false] rfl rfl (one_of HT_.out (by kernel_rfl)) (by decide) (fun K hK => ?_)
                      have hs36 : w35.cell? ⟨gb1344, 0, none⟩ = some (.int .i64 0) := (blk_cell BK1344.out 0).trans rfl
                      have hfs36 := blk_frozen BK1344.out 0
                      have hns36_0 := NB1332_1344.out
                      have hns36_1 := NB1333_1344.out
                      have hms36_0 := NB1344_1332.out
                      have hms36_1 := NB1344_1333.out
                      have hs37 : w35.cell? ⟨gb1344, 1, none⟩ = some (.int .i64 0) := (blk_cell BK1344.out 1).trans rfl
                      have hfs37 := blk_frozen BK1344.out 1
                      have hns37_0 := NB1332_1344.out
                      have hns37_1 := NB1333_1344.out
                      have hms37_0 := NB1344_1332.out
                      have hms37_1 := NB1344_1333.out
                      have hs38 : w35.cell? ⟨gb1344, 2, none⟩ = some (.int .i64 0) := (blk_cell BK1344.out 2).trans rfl
                      have hfs38 := blk_frozen BK1344.out 2
                      have hns38_0 := NB1332_1344.out
                      have hns38_1 := NB1333_1344.out
                      have hms38_0 := NB1344_1332.out
                      have hms38_1 := NB1344_1333.out
                      refine skip_ (w1 := ?_) (by rfl) rfl ?_ ?_
                      rotate_left
                      · go_simp
                        rfl
                      refine hK.out _ _ ⟨((cell_far (p := ⟨gb1344, _, none⟩) NB1332_1344.out _).trans (((cell_far (p := ⟨gb1344, _, none⟩) NB1332_1344.out _).trans (((cell_far (p := ⟨gb1344, _, none⟩) NB1332_1344.out _).trans (hHeld.1)))))), ((cell_far (p := ⟨gb1344, _, none⟩) NB1332_1344.out _).trans (((cell_far (p := ⟨gb1344, _, none⟩) NB1332_1344.out _).trans (((cell_far (p := ⟨gb1344, _, none⟩) NB1332_1344.out _).trans (hHeld.2.1)))))), ((cell_far (p := ⟨gb1344, _, none⟩) NB1332_1344.out _).trans (((cell_far (p := ⟨gb1344, _, none⟩) NB1332_1344.out _).trans (((cell_far (p := ⟨gb1344, _, none⟩) NB1332_1344.out _).trans (hHeld.2.2.1)))))), ((cell_far (p := ⟨gb1344, _, none⟩) NB1333_1344.out _).trans (((cell_far (p := ⟨gb1344, _, none⟩) NB1333_1344.out _).trans (((cell_far (p := ⟨gb1344, _, none⟩) NB1333_1344.out _).trans (hHeld.2.2.2.1)))))), ((cell_far (p := ⟨gb1344, _, none⟩) NB1333_1344.out _).trans (((cell_far (p := ⟨gb1344, _, none⟩) NB1333_1344.out _).trans (((cell_far (p := ⟨gb1344, _, none⟩) NB1333_1344.out _).trans (hHeld.2.2.2.2))))))⟩ (fun hHeld => ?_)
                      clear hK K
                      refine pure_ (i := 12) (N := some 12) (v := ?_) (a' := ?_) #[true, true, true, true, true, true, true, true, true, true, true, true, true] rfl rfl (any_of HT_.out (by kernel_rfl)) (fun _ _ _ h => h) (Or.inl ⟨by rfl, ?_⟩) ?_ ?_
                      rotate_left
                      · intro w'
                        go_simp
                        with_reducible rfl
                      rotate_left
                      · simp only [Act.put, List.setIfInBounds_toArray, List.set_cons_zero, List.set_cons_succ, i64_w, i32_w]
                        rfl
                      refine done_ (done_of HT_.out (by kernel_rfl)) ?_
                      have hnb39 := NB1344_1332.out
                      have hnc39 := NB1332_1344.out
                      have hnb40 := NB1344_1333.out
                      have hnc40 := NB1333_1344.out
                      have hcz41_0 : w35.cell? ⟨gb1344, 0, none⟩ = some (.int .i64 0) := (blk_cell BK1344.out 0).trans rfl
                      have hcz41_1 : w35.cell? ⟨gb1344, 1, none⟩ = some (.int .i64 0) := (blk_cell BK1344.out 1).trans rfl
                      have hcz41_2 : w35.cell? ⟨gb1344, 2, none⟩ = some (.int .i64 0) := (blk_cell BK1344.out 2).trans rfl
                      have hfz41_0 := blk_frozen BK1344.out 0
                      have hfz41_1 := blk_frozen BK1344.out 1
                      have hfz41_2 := blk_frozen BK1344.out 2
                      have hnb42 := NB1332_1333.out
                      have hnc42 := NB1333_1332.out
                      have hcz43_0 : w35.cell? ⟨gb1332, 0, none⟩ = some (.int .i64 x1333000_2) := (blk_cell BK1332.out 0).trans rfl
                      have hcz43_1 : w35.cell? ⟨gb1332, 1, none⟩ = some (.int .i64 x1333001_2) := (blk_cell BK1332.out 1).trans rfl
                      have hcz43_2 : w35.cell? ⟨gb1332, 2, none⟩ = some (.int .i64 x1333002_2) := (blk_cell BK1332.out 2).trans rfl
                      have hfz43_0 := blk_frozen BK1332.out 0
                      have hfz43_1 := blk_frozen BK1332.out 1
                      have hfz43_2 := blk_frozen BK1332.out 2
                      try go_wp2_with (first | ((with_reducible refine gate_builtin (b := .append) (xs := #[.tmp 48, .tmp 50]) rfl ?_); at_builtin; refine Kd.R_append k34 (w0 := w) w.heap.size rfl (.tmp 48) (.tmp 50) 56 34 (.agg #[(.int .i64 0), (.int .i64 0), (.int .i64 0)]) 24 rfl Try.underlying56 info34 rfl (by decide) (by omega) u10 x10_2 (⟨t1340, t1341, t1342⟩ : S34) [.int .i64 t1340, .int .i64 t1341, .int .i64 t1342] (fun k_ => k_ ≠ gb1332 ∧ k_ ≠ gb1344) (fun _ => False) rfl (by first | (go_simp; done) | (go_simp; rfl)) ?aP (fun _ hk => hk.elim) ?aF ?aO ?aB ?aS ?aL ?_; (case aP => exact k34_mkM _ _ _ (⟨t1340, t1341, t1342⟩ : S34)); (case aB => exact blA); (case aF => exact (fun k_ hk => ⟨Kd.freshB (g := gb1332) (o := .cells #[.int .i64 t1340, .int .i64 t1341, .int .i64 t1342] 34 (0, 0)) (by (with_reducible repeat (first | refine blk_drewN ?_ _ | refine blk_drew ?_ | refine blk_alloc ?_ _)); refine blk_put (cs := #[.int .i64 t1340, .int .i64 t1341, .int .i64 x1333002_2]) ?_ 2 _ rfl; (with_reducible repeat (first | refine blk_drewN ?_ _ | refine blk_drew ?_ | refine blk_alloc ?_ _)); refine blk_put (cs := #[.int .i64 t1340, .int .i64 x1333001_2, .int .i64 x1333002_2]) ?_ 1 _ rfl; (with_reducible repeat (first | refine blk_drewN ?_ _ | refine blk_drew ?_ | refine blk_alloc ?_ _)); refine blk_put (cs := #[.int .i64 x1333000_2, .int .i64 x1333001_2, .int .i64 x1333002_2]) ?_ 0 _ rfl; (with_reducible repeat (first | refine blk_drewN ?_ _ | refine blk_drew ?_ | refine blk_alloc ?_ _)); refine blk_far ?_ NB1332_1344.out _; (with_reducible repeat (first | refine blk_drewN ?_ _ | refine blk_drew ?_ | refine blk_alloc ?_ _)); refine blk_far ?_ NB1332_1344.out _; (with_reducible repeat (first | refine blk_drewN ?_ _ | refine blk_drew ?_ | refine blk_alloc ?_ _)); refine blk_far ?_ NB1332_1344.out _; (with_reducible repeat (first | refine blk_drewN ?_ _ | refine blk_drew ?_ | refine blk_alloc ?_ _)); exact BK1332.out) k_ hk, Kd.freshB (g := gb1344) (o := .cells #[.int .i64 t1340, .int .i64 t1341, .int .i64 t1342] 34 (0, 0)) (by (with_reducible repeat (first | refine blk_drewN ?_ _ | refine blk_drew ?_ | refine blk_alloc ?_ _)); refine blk_far ?_ NB1344_1332.out _; (with_reducible repeat (first | refine blk_drewN ?_ _ | refine blk_drew ?_ | refine blk_alloc ?_ _)); refine blk_far ?_ NB1344_1332.out _; (with_reducible repeat (first | refine blk_drewN ?_ _ | refine blk_drew ?_ | refine blk_alloc ?_ _)); refine blk_far ?_ NB1344_1332.out _; (with_reducible repeat (first | refine blk_drewN ?_ _ | refine blk_drew ?_ | refine blk_alloc ?_ _)); refine blk_put (cs := #[.int .i64 t1340, .int .i64 t1341, .int .i64 0]) ?_ 2 _ rfl; (with_reducible repeat (first | refine blk_drewN ?_ _ | refine blk_drew ?_ | refine blk_alloc ?_ _)); refine blk_put (cs := #[.int .i64 t1340, .int .i64 0, .int .i64 0]) ?_ 1 _ rfl; (with_reducible repeat (first | refine blk_drewN ?_ _ | refine blk_drew ?_ | refine blk_alloc ?_ _)); refine blk_put (cs := #[.int .i64 0, .int .i64 0, .int .i64 0]) ?_ 0 _ rfl; (with_reducible repeat (first | refine blk_drewN ?_ _ | refine blk_drew ?_ | refine blk_alloc ?_ _)); exact BK1344.out) k_ hk⟩)); (case aO => exact (by (with_reducible repeat (first | apply Kd.R_alloc | apply Kd.R_drewN | apply Kd.R_drew)); exact Kd.R_mono (Kd.R_far (p := ⟨gb1332, 2, none⟩) (Kd.R_far (p := ⟨gb1332, 1, none⟩) (Kd.R_far (p := ⟨gb1332, 0, none⟩) (Kd.R_far (p := ⟨gb1344, 2, none⟩) (Kd.R_far (p := ⟨gb1344, 1, none⟩) (Kd.R_far (p := ⟨gb1344, 0, none⟩) (Kd.R_mono (Kd.R_mono HO_10.out (fun k_ hk => (⟨hk, hk.2⟩ : _ ∧ k_ ≠ gb1344))) (fun k_ hk => (⟨hk, hk.1.1⟩ : _ ∧ k_ ≠ gb1332))) (fun _ hk => hk.1.2) (.int .i64 t1340)) (fun _ hk => hk.1.2) (.int .i64 t1341)) (fun _ hk => hk.1.2) (.int .i64 t1342)) (fun _ hk => hk.2) (.int .i64 t1340)) (fun _ hk => hk.2) (.int .i64 t1341)) (fun _ hk => hk.2) (.int .i64 t1342)) (fun _ hk => ⟨hk.1.1.1, hk.1.1.2⟩))); (case aS => exact (below_size blA)); (case aL => have := LMc30.out; omega); intro v1346 w44 ho hb hg hat; rw [← Ny1345.out] at ho; have n0_ := Aside0.mk (blk_grown (g := gb1332) (o := .cells #[.int .i64 t1340, .int .i64 t1341, .int .i64 t1342] 34 (0, 0)) (by (with_reducible repeat (first | refine blk_drewN ?_ _ | refine blk_drew ?_ | refine blk_alloc ?_ _)); refine blk_put (cs := #[.int .i64 t1340, .int .i64 t1341, .int .i64 x1333002_2]) ?_ 2 _ rfl; (with_reducible repeat (first | refine blk_drewN ?_ _ | refine blk_drew ?_ | refine blk_alloc ?_ _)); refine blk_put (cs := #[.int .i64 t1340, .int .i64 x1333001_2, .int .i64 x1333002_2]) ?_ 1 _ rfl; (with_reducible repeat (first | refine blk_drewN ?_ _ | refine blk_drew ?_ | refine blk_alloc ?_ _)); refine blk_put (cs := #[.int .i64 x1333000_2, .int .i64 x1333001_2, .int .i64 x1333002_2]) ?_ 0 _ rfl; (with_reducible repeat (first | refine blk_drewN ?_ _ | refine blk_drew ?_ | refine blk_alloc ?_ _)); refine blk_far ?_ NB1332_1344.out _; (with_reducible repeat (first | refine blk_drewN ?_ _ | refine blk_drew ?_ | refine blk_alloc ?_ _)); refine blk_far ?_ NB1332_1344.out _; (with_reducible repeat (first | refine blk_drewN ?_ _ | refine blk_drew ?_ | refine blk_alloc ?_ _)); refine blk_far ?_ NB1332_1344.out _; (with_reducible repeat (first | refine blk_drewN ?_ _ | refine blk_drew ?_ | refine blk_alloc ?_ _)); exact BK1332.out) hg (Kd.R_away HO_10.out (fun _ hk => hk.1))); have n1_ := Aside0.mk (blk_grown (g := gb1333) (o := .cells #[.int .i64 a2_0, .int .i64 a2_1] 24 (0, 0)) (by (with_reducible repeat (first | refine blk_drewN ?_ _ | refine blk_drew ?_ | refine blk_alloc ?_ _)); refine blk_far ?_ NB1333_1332.out _; (with_reducible repeat (first | refine blk_drewN ?_ _ | refine blk_drew ?_ | refine blk_alloc ?_ _)); refine blk_far ?_ NB1333_1332.out _; (with_reducible repeat (first | refine blk_drewN ?_ _ | refine blk_drew ?_ | refine blk_alloc ?_ _)); refine blk_far ?_ NB1333_1332.out _; (with_reducible repeat (first | refine blk_drewN ?_ _ | refine blk_drew ?_ | refine blk_alloc ?_ _)); refine blk_far ?_ NB1333_1344.out _; (with_reducible repeat (first | refine blk_drewN ?_ _ | refine blk_drew ?_ | refine blk_alloc ?_ _)); refine blk_far ?_ NB1333_1344.out _; (with_reducible repeat (first | refine blk_drewN ?_ _ | refine blk_drew ?_ | refine blk_alloc ?_ _)); refine blk_far ?_ NB1333_1344.out _; (with_reducible repeat (first | refine blk_drewN ?_ _ | refine blk_drew ?_ | refine blk_alloc ?_ _)); exact BK1333.out) hg (Kd.R_ne HO_10.out BK1333.out (by decide))); have n2_ := Aside0.mk (blk_grown (g := gb1344) (o := .cells #[.int .i64 t1340, .int .i64 t1341, .int .i64 t1342] 34 (0, 0)) (by (with_reducible repeat (first | refine blk_drewN ?_ _ | refine blk_drew ?_ | refine blk_alloc ?_ _)); refine blk_far ?_ NB1344_1332.out _; (with_reducible repeat (first | refine blk_drewN ?_ _ | refine blk_drew ?_ | refine blk_alloc ?_ _)); refine blk_far ?_ NB1344_1332.out _; (with_reducible repeat (first | refine blk_drewN ?_ _ | refine blk_drew ?_ | refine blk_alloc ?_ _)); refine blk_far ?_ NB1344_1332.out _; (with_reducible repeat (first | refine blk_drewN ?_ _ | refine blk_drew ?_ | refine blk_alloc ?_ _)); refine blk_put (cs := #[.int .i64 t1340, .int .i64 t1341, .int .i64 0]) ?_ 2 _ rfl; (with_reducible repeat (first | refine blk_drewN ?_ _ | refine blk_drew ?_ | refine blk_alloc ?_ _)); refine blk_put (cs := #[.int .i64 t1340, .int .i64 0, .int .i64 0]) ?_ 1 _ rfl; (with_reducible repeat (first | refine blk_drewN ?_ _ | refine blk_drew ?_ | refine blk_alloc ?_ _)); refine blk_put (cs := #[.int .i64 0, .int .i64 0, .int .i64 0]) ?_ 0 _ rfl; (with_reducible repeat (first | refine blk_drewN ?_ _ | refine blk_drew ?_ | refine blk_alloc ?_ _)); exact BK1344.out) hg (Kd.R_away HO_10.out (fun _ hk => hk.2))); have n3_ := Aside0.mk (hb); have n4_ := Aside0.mk (ho); clear BK1332; clear BK1333; clear BK1344; clear HB; clear HO_10; have BK1332 := n0_; have BK1333 := n1_; have BK1344 := n2_; have HB := n3_; have HO1347 := n4_; clear n0_ n1_ n2_ n3_ n4_; clear ho hb hg hat))
                      go_roundg k2
                      case measure => have := HJ4.out; have := HK2.out; omega
                      case rel => exact ⟨(y1345), (wrap64 (x33_2 + 1)), (t1340), (t1341), (t1342), (by first | rfl | (simp; done) | (simp [*]; done)), H', ⟨by have := HJ4.out; have := HK2.out; omega⟩, ⟨by (with_reducible repeat (first | apply Kd.R_alloc | apply Kd.R_drewN | apply Kd.R_drew)); exact Kd.R_mono HO1347.out (fun _ hk => hk.1)⟩, ⟨bkA BK1332⟩, ⟨bkA BK1333⟩, ⟨blA⟩⟩
                    · rw [if_neg c30] at H
                      exact absurd H (by simp)
                  · replace c29 := Bool.eq_false_iff.mpr c29
                    subst c29
                    have H1 : (some (([] : List (S34)), 3)) = some (r1, r2) := by rw [if_neg (show ¬ (false = true) by decide)] at H; exact H
                    clear H
                    have H := H1
                    clear H1
                    simp only [Option.some.injEq, Prod.mk.injEq] at H
                    obtain ⟨rfl, rfl⟩ := H
                    try go_wp2
                    have n0_ := Aside0.mk (Kd.R_drew HO_10.out)
                    have n1_ := Aside0.mk (blk_drew BK1332.out)
                    have n2_ := Aside0.mk (blk_drew BK1333.out)
                    have n3_ := Aside0.mk (below_drew1 HB.out)
                    clear HO_10
                    clear BK1332
                    clear BK1333
                    clear HB
                    have HO_10 := n0_
                    have BK1332 := n1_
                    have BK1333 := n2_
                    have HB := n3_
                    clear n0_ n1_ n2_ n3_
                    refine start_ (n := 13) (S := fun w' => w'.cell? ⟨gb1332, 0, none⟩ = some (.int .i64 x1333000_2) ∧ w'.cell? ⟨gb1332, 1, none⟩ = some (.int .i64 x1333001_2) ∧ w'.cell? ⟨gb1332, 2, none⟩ = some (.int .i64 x1333002_2) ∧ w'.cell? ⟨gb1333, 0, none⟩ = some (.int .i64 a2_0) ∧ w'.cell? ⟨gb1333, 1, none⟩ = some (.int .i64 a2_1)) (ds := []) #[false, false, false, false, false, false, false, false, false, false, false, false, false] (by kernel_rfl) rfl rfl ⟨(blk_cell BK1332.out 0).trans rfl, (blk_cell BK1332.out 1).trans rfl, (blk_cell BK1332.out 2).trans rfl, (blk_cell BK1333.out 0).trans rfl, (blk_cell BK1333.out 1).trans rfl⟩ (fun hHeld => ?_); refine with_tabW impl_RayOf.tab8 impl_RayOf.bits8 (fun HT_ HW_ => ?_)
                    generalize wr.drew = w45 at HO_10 BK1332 BK1333 HB hHeld ⊢
                    refine pure_ (i := 0) (N := some 36) (v := ?_) (a' := ?_) #[true, false, false, false, false, false, false, false, false, false, false, false, false] rfl rfl (any_of HT_.out (by kernel_rfl)) (fun _ _ _ h => h) (Or.inl ⟨by rfl, ?_⟩) ?_ ?_
                    rotate_left
                    · intro w'
                      go_simp
                      with_reducible rfl
                    rotate_left
                    · simp only [Act.put, List.setIfInBounds_toArray, List.set_cons_zero, List.set_cons_succ, i64_w, i32_w]
                      rfl
                    refine pure_ (i := 2) (N := some 38) (v := ?_) (a' := ?_) #[true, false, true, false, false, false, false, false, false, false, false, false, false] rfl rfl (any_of HT_.out (by kernel_rfl)) (fun _ _ _ h => h) (Or.inl ⟨by rfl, ?_⟩) ?_ ?_
                    rotate_left
                    · intro w'
                      go_simp
                      with_reducible rfl
                    rotate_left
                    · simp only [Act.put, List.setIfInBounds_toArray, List.set_cons_zero, List.set_cons_succ, i64_w, i32_w]
                      rfl
                    refine take_ (i := 1) (N := some 37) (v := ?_) (a' := ?_) #[true, true, true, false, false, false, false, false, false, false, false, false, false] rfl rfl (take_ofW HT_.out HW_.out (by kernel_rfl)) (fun _ _ _ h => h) (Or.inl ⟨by rfl, ?_⟩) hHeld ?_ ?_
                    rotate_left
                    · rintro w' ⟨s0, s1, s2, s3, s4⟩
                      go_simp
                      with_reducible rfl
                    rotate_left
                    · simp only [Act.put, List.setIfInBounds_toArray, List.set_cons_zero, List.set_cons_succ, i64_w, i32_w]
                      rfl
                    refine take_ (i := 3) (N := some 39) (v := ?_) (a' := ?_) #[true, true, true, true, false, false, false, false, false, false, false, false, false] rfl rfl (take_ofW HT_.out HW_.out (by kernel_rfl)) (fun _ _ _ h => h) (Or.inl ⟨by rfl, ?_⟩) hHeld ?_ ?_
                    rotate_left
                    · rintro w' ⟨s0, s1, s2, s3, s4⟩
                      go_simp
                      with_reducible rfl
                    rotate_left
                    · simp only [Act.put, List.setIfInBounds_toArray, List.set_cons_zero, List.set_cons_succ, i64_w, i32_w]
                      rfl
                    refine take_ (i := 4) (N := some 40) (v := ?_) (a' := ?_) #[true, true, true, true, true, false, false, false, false, false, false, false, false] rfl rfl (take_ofW HT_.out HW_.out (by kernel_rfl)) (fun _ _ _ h => h) (Or.inl ⟨by rfl, ?_⟩) hHeld ?_ ?_
                    rotate_left
                    · rintro w' ⟨s0, s1, s2, s3, s4⟩
                      go_simp
                      with_reducible rfl
                    rotate_left
                    · simp only [Act.put, List.setIfInBounds_toArray, List.set_cons_zero, List.set_cons_succ, i64_w, i32_w]
                      rfl
                    refine join_ (σ := Nat) 2 #[true, true, true, true, true, true, true, true, true, true, true, false, false] (fun s_ => [(41, .int .i64 t1339), (42, .tuple #[.agg #[.int .i64 t1340, .int .i64 t1341, .int .i64 t1342], .bool false]), (11, .pointer (some ⟨s_, 0, none⟩)), (35, .tuple #[.agg #[.int .i64 t1340, .int .i64 t1341, .int .i64 t1342], .bool false]), (43, .agg #[.int .i64 t1340, .int .i64 t1341, .int .i64 t1342]), (44, .bool false)]) (fun s_ w' => (w'.cell? ⟨gb1332, 0, none⟩ = some (.int .i64 x1333000_2) ∧ w'.cell? ⟨gb1332, 1, none⟩ = some (.int .i64 x1333001_2) ∧ w'.cell? ⟨gb1332, 2, none⟩ = some (.int .i64 x1333002_2) ∧ w'.cell? ⟨gb1333, 0, none⟩ = some (.int .i64 a2_0) ∧ w'.cell? ⟨gb1333, 1, none⟩ = some (.int .i64 a2_1)) ∧ (Kd.R k34 34 w' w.heap.size (fun k_ => k_ ≠ gb1332 ∧ k_ ≠ s_) u10 x10_2) ∧ (w'.heap[gb1332]? = some (.cells #[.int .i64 x1333000_2, .int .i64 x1333001_2, .int .i64 x1333002_2] 34 (0, 0))) ∧ (w'.heap[gb1333]? = some (.cells #[.int .i64 a2_0, .int .i64 a2_1] 24 (0, 0))) ∧ (w'.heap[s_]? = some (.cells #[.int .i64 0, .int .i64 0, .int .i64 0] 34 (0, 0))) ∧ (w.heap.size ≤ s_) ∧ (w.heap.size ≤ s_) ∧ (gb1332 ≠ s_) ∧ (s_ ≠ gb1332) ∧ (gb1333 ≠ s_) ∧ (s_ ≠ gb1333) ∧ (Below w.heap.size w w')) ?_ ?_
                    rotate_left
                    · intro hCont
                      refine two_ (i := 5) (j := 10) (Ni := some 41) (Nj := some 11) #[true, true, true, true, true, true, false, false, false, false, false, false, false] #[true, true, true, true, true, false, false, false, false, false, true, false, false] rfl rfl rfl rfl (two_of HT_.out (by kernel_rfl)) (by decide) (by decide) (fun K hK => ?_) (fun K hK => ?_)
                      · skip
                        refine goes_ Try.func99 (by kernel_rfl) rfl #[.int .i64 a0, .agg #[.int .i64 x1333000_2, .int .i64 x1333001_2, .int .i64 x1333002_2], .agg #[.int .i64 a2_0, .int .i64 a2_1]] (by rfl) rfl rfl (by (try simp only [List.map_toArray, List.map_cons, List.map_nil]); first | done | rfl | (simp only [List.length_drop, List.length_take]; rfl)) ?_
                        with_reducible refine (impl_branch.calls k2 a0 x1333000_2 x1333001_2 x1333002_2 a2_0 a2_1 t1339 _ A27.out).mono ?_
                        rintro e w46 ⟨rfl, hb⟩
                        refine ⟨_, rfl, ?_⟩
                        have n0_ := Aside0.mk (Kd.R_below (by (with_reducible repeat (first | apply Kd.R_alloc | apply Kd.R_drewN | apply Kd.R_drew)); exact HO_10.out) hb)
                        have n1_ := Aside0.mk (blk_below (bkA BK1332) hb)
                        have n2_ := Aside0.mk (blk_below (bkA BK1333) hb)
                        have n3_ := Aside0.mk (below_step blA hb)
                        clear HO_10
                        clear BK1332
                        clear BK1333
                        clear HB
                        have HO_10 := n0_
                        have BK1332 := n1_
                        have BK1333 := n2_
                        have HB := n3_
                        clear n0_ n1_ n2_ n3_
                        (try clear hb)
                        (try clear hb2)
                        (try clear hk)
                        (try clear hi)
                        refine hK.out _ _ ⟨(blk_cell BK1332.out 0).trans rfl, (blk_cell BK1332.out 1).trans rfl, (blk_cell BK1332.out 2).trans rfl, (blk_cell BK1333.out 0).trans rfl, (blk_cell BK1333.out 1).trans rfl⟩ (fun hHeld => ?_)
                        clear hK K
                        refine norm_ (a' := ?_) ?_ ?_
                        rotate_left
                        · show Act.put _ (some 41) _ = _
                          simp only [Act.put, List.setIfInBounds_toArray, List.set_cons_zero, List.set_cons_succ, i64_w, i32_w]
                          rfl
                        refine two_ (i := 6) (j := 10) (Ni := some 42) (Nj := some 11) #[true, true, true, true, true, true, true, false, false, false, false, false, false] #[true, true, true, true, true, true, false, false, false, false, true, false, false] rfl rfl rfl rfl (two_of HT_.out (by kernel_rfl)) (by decide) (by decide) (fun K hK => ?_) (fun K hK => ?_)
                        · skip
                          refine goes_ Try.func114 (by kernel_rfl) rfl #[.int .i64 a0, .agg #[.int .i64 x1333000_2, .int .i64 x1333001_2, .int .i64 x1333002_2], .int .i64 t1339] (by rfl) rfl rfl (by (try simp only [List.map_toArray, List.map_cons, List.map_nil]); first | done | rfl | (simp only [List.length_drop, List.length_take]; rfl)) ?_
                          with_reducible refine (impl_neighbour.calls k2 a0 x1333000_2 x1333001_2 x1333002_2 t1339 t1340 t1341 t1342 false _ A28.out).mono ?_
                          rintro e w47 ⟨rfl, hb⟩
                          refine ⟨_, rfl, ?_⟩
                          have n0_ := Aside0.mk (Kd.R_below (by (with_reducible repeat (first | apply Kd.R_alloc | apply Kd.R_drewN | apply Kd.R_drew)); exact HO_10.out) hb)
                          have n1_ := Aside0.mk (blk_below (bkA BK1332) hb)
                          have n2_ := Aside0.mk (blk_below (bkA BK1333) hb)
                          have n3_ := Aside0.mk (below_step blA hb)
                          clear HO_10
                          clear BK1332
                          clear BK1333
                          clear HB
                          have HO_10 := n0_
                          have BK1332 := n1_
                          have BK1333 := n2_
                          have HB := n3_
                          clear n0_ n1_ n2_ n3_
                          (try clear hb)
                          (try clear hb2)
                          (try clear hk)
                          (try clear hi)
                          refine hK.out _ _ ⟨(blk_cell BK1332.out 0).trans rfl, (blk_cell BK1332.out 1).trans rfl, (blk_cell BK1332.out 2).trans rfl, (blk_cell BK1333.out 0).trans rfl, (blk_cell BK1333.out 1).trans rfl⟩ (fun hHeld => ?_)
                          clear hK K
                          refine norm_ (a' := ?_) ?_ ?_
                          rotate_left
                          · show Act.put _ (some 42) _ = _
                            simp only [Act.put, List.setIfInBounds_toArray, List.set_cons_zero, List.set_cons_succ, i64_w, i32_w]
                            rfl
                          refine pure_ (i := 7) (N := some 35) (v := ?_) (a' := ?_) #[true, true, true, true, true, true, true, true, false, false, false, false, false] rfl rfl (any_of HT_.out (by kernel_rfl)) (fun _ _ _ h => h) (Or.inl ⟨by rfl, ?_⟩) ?_ ?_
                          rotate_left
                          · intro w'
                            go_simp
                            with_reducible rfl
                          rotate_left
                          · simp only [Act.put, List.setIfInBounds_toArray, List.set_cons_zero, List.set_cons_succ, i64_w, i32_w]
                            rfl
                          refine pure_ (i := 8) (N := some 43) (v := ?_) (a' := ?_) #[true, true, true, true, true, true, true, true, true, false, false, false, false] rfl rfl (any_of HT_.out (by kernel_rfl)) (fun _ _ _ h => h) (Or.inl ⟨by rfl, ?_⟩) ?_ ?_
                          rotate_left
                          · intro w'
                            go_simp
                            with_reducible rfl
                          rotate_left
                          · simp only [Act.put, List.setIfInBounds_toArray, List.set_cons_zero, List.set_cons_succ, i64_w, i32_w]
                            rfl
                          refine pure_ (i := 9) (N := some 44) (v := ?_) (a' := ?_) #[true, true, true, true, true, true, true, true, true, true, false, false, false] rfl rfl (any_of HT_.out (by kernel_rfl)) (fun _ _ _ h => h) (Or.inl ⟨by rfl, ?_⟩) ?_ ?_
                          rotate_left
                          · intro w'
                            go_simp
                            with_reducible rfl
                          rotate_left
                          · simp only [Act.put, List.setIfInBounds_toArray, List.set_cons_zero, List.set_cons_succ, i64_w, i32_w]
                            rfl
                          refine one_ (i := 10) (N := some 11) #[true, true, true, true, true, true, true, true, true, true, true, false, false] rfl rfl (one_of HT_.out (by kernel_rfl)) (by decide) (fun K hK => ?_)
                          refine box_step ?hg (N := 11) ?hd (cs := #[.int .i64 0, .int .i64 0, .int .i64 0]) (t := 34) ?hr ?_; (case hd => rfl); (case hg => rfl); (case hr => first | (go_simp; done) | (go_simp; rfl))
                          intro gb1344 hg w48 hbox hb
                          have n0_ := Aside0.mk (Kd.R_below (Kd.R_elderB (by (with_reducible repeat (first | apply Kd.R_alloc | apply Kd.R_drewN | apply Kd.R_drew)); exact HO_10.out) gb1344 (Nat.le_of_eq hg.symm)) hb)
                          have n1_ := Aside0.mk (blk_below (bkA BK1332) hb)
                          have n2_ := Aside0.mk (blk_below (bkA BK1333) hb)
                          have n3_ := Aside0.mk (below_step blA hb)
                          have n4_ := Aside0.mk (hbox)
                          have n5_ := Aside0.mk (szA hg blA)
                          have n6_ := Aside0.mk (szA hg blA)
                          have n7_ := Aside0.mk (neA hg (bkA BK1332))
                          have n8_ := Aside0.mk (neB hg (bkA BK1332))
                          have n9_ := Aside0.mk (neA hg (bkA BK1333))
                          have n10_ := Aside0.mk (neB hg (bkA BK1333))
                          clear HO_10
                          clear BK1332
                          clear BK1333
                          clear HB
                          have HO_10 := n0_
                          have BK1332 := n1_
                          have BK1333 := n2_
                          have HB := n3_
                          have BK1344 := n4_
                          have GW1344 := n5_
                          have GE1344 := n6_
                          have NB1332_1344 := n7_
                          have NB1344_1332 := n8_
                          have NB1333_1344 := n9_
                          have NB1344_1333 := n10_
                          clear n0_ n1_ n2_ n3_ n4_ n5_ n6_ n7_ n8_ n9_ n10_
                          clear hb hbox hg
                          refine hK.out _ _ ⟨(blk_cell BK1332.out 0).trans rfl, (blk_cell BK1332.out 1).trans rfl, (blk_cell BK1332.out 2).trans rfl, (blk_cell BK1333.out 0).trans rfl, (blk_cell BK1333.out 1).trans rfl⟩ (fun hHeld => ?_)
                          clear hK K
                          refine norm_ (a' := ?_) ?_ ?_
                          rotate_left
                          · show Act.put _ (some 11) _ = _
                            simp only [Act.put, List.setIfInBounds_toArray, List.set_cons_zero, List.set_cons_succ, i64_w, i32_w]
                            rfl
                          exact norm_ (by simp only [putAll, Act.put, List.setIfInBounds_toArray, List.set_cons_zero, List.set_cons_succ]) (hCont (gb1344) _ ⟨hHeld, (by (with_reducible repeat (first | apply Kd.R_alloc | apply Kd.R_drewN | apply Kd.R_drew)); exact HO_10.out), (bkA BK1332), (bkA BK1333), (bkA BK1344), GW1344.out, GE1344.out, NB1332_1344.out, NB1344_1332.out, NB1333_1344.out, NB1344_1333.out, blA⟩)
                        · skip
                          refine box_step ?hg (N := 11) ?hd (cs := #[.int .i64 0, .int .i64 0, .int .i64 0]) (t := 34) ?hr ?_; (case hd => rfl); (case hg => rfl); (case hr => first | (go_simp; done) | (go_simp; rfl))
                          intro gb1344 hg w47 hbox hb
                          have n0_ := Aside0.mk (Kd.R_below (Kd.R_elderB (by (with_reducible repeat (first | apply Kd.R_alloc | apply Kd.R_drewN | apply Kd.R_drew)); exact HO_10.out) gb1344 (Nat.le_of_eq hg.symm)) hb)
                          have n1_ := Aside0.mk (blk_below (bkA BK1332) hb)
                          have n2_ := Aside0.mk (blk_below (bkA BK1333) hb)
                          have n3_ := Aside0.mk (below_step blA hb)
                          have n4_ := Aside0.mk (hbox)
                          have n5_ := Aside0.mk (szA hg blA)
                          have n6_ := Aside0.mk (szA hg blA)
                          have n7_ := Aside0.mk (neA hg (bkA BK1332))
                          have n8_ := Aside0.mk (neB hg (bkA BK1332))
                          have n9_ := Aside0.mk (neA hg (bkA BK1333))
                          have n10_ := Aside0.mk (neB hg (bkA BK1333))
                          clear HO_10
                          clear BK1332
                          clear BK1333
                          clear HB
                          have HO_10 := n0_
                          have BK1332 := n1_
                          have BK1333 := n2_
                          have HB := n3_
                          have BK1344 := n4_
                          have GW1344 := n5_
                          have GE1344 := n6_
                          have NB1332_1344 := n7_
                          have NB1344_1332 := n8_
                          have NB1333_1344 := n9_
                          have NB1344_1333 := n10_
                          clear n0_ n1_ n2_ n3_ n4_ n5_ n6_ n7_ n8_ n9_ n10_
                          clear hb hbox hg
                          refine hK.out _ _ ⟨(blk_cell BK1332.out 0).trans rfl, (blk_cell BK1332.out 1).trans rfl, (blk_cell BK1332.out 2).trans rfl, (blk_cell BK1333.out 0).trans rfl, (blk_cell BK1333.out 1).trans rfl⟩ (fun hHeld => ?_)
                          clear hK K
                          refine norm_ (a' := ?_) ?_ ?_
                          rotate_left
                          · show Act.put _ (some 11) _ = _
                            simp only [Act.put, List.setIfInBounds_toArray, List.set_cons_zero, List.set_cons_succ, i64_w, i32_w]
                            rfl
                          refine one_ (i := 6) (N := some 42) #[true, true, true, true, true, true, true, false, false, false, true, false, false] rfl rfl (one_of HT_.out (by kernel_rfl)) (by decide) (fun K hK => ?_)
                          refine goes_ Try.func114 (by kernel_rfl) rfl #[.int .i64 a0, .agg #[.int .i64 x1333000_2, .int .i64 x1333001_2, .int .i64 x1333002_2], .int .i64 t1339] (by rfl) rfl rfl (by (try simp only [List.map_toArray, List.map_cons, List.map_nil]); first | done | rfl | (simp only [List.length_drop, List.length_take]; rfl)) ?_
                          with_reducible refine (impl_neighbour.calls k2 a0 x1333000_2 x1333001_2 x1333002_2 t1339 t1340 t1341 t1342 false _ A28.out).mono ?_
                          rintro e w48 ⟨rfl, hb⟩
                          refine ⟨_, rfl, ?_⟩
                          have n0_ := Aside0.mk (Kd.R_below (by (with_reducible repeat (first | apply Kd.R_alloc | apply Kd.R_drewN | apply Kd.R_drew)); exact HO_10.out) hb)
                          have n1_ := Aside0.mk (blk_below (bkA BK1332) hb)
                          have n2_ := Aside0.mk (blk_below (bkA BK1333) hb)
                          have n3_ := Aside0.mk (blk_below (bkA BK1344) hb)
                          have n4_ := Aside0.mk (below_step blA hb)
                          clear HO_10
                          clear BK1332
                          clear BK1333
                          clear BK1344
                          clear HB
                          have HO_10 := n0_
                          have BK1332 := n1_
                          have BK1333 := n2_
                          have BK1344 := n3_
                          have HB := n4_
                          clear n0_ n1_ n2_ n3_ n4_
                          (try clear hb)
                          (try clear hb2)
                          (try clear hk)
                          (try clear hi)
                          refine hK.out _ _ ⟨(blk_cell BK1332.out 0).trans rfl, (blk_cell BK1332.out 1).trans rfl, (blk_cell BK1332.out 2).trans rfl, (blk_cell BK1333.out 0).trans rfl, (blk_cell BK1333.out 1).trans rfl⟩ (fun hHeld => ?_)
                          clear hK K
                          refine norm_ (a' := ?_) ?_ ?_
                          rotate_left
                          · show Act.put _ (some 42) _ = _
                            simp only [Act.put, List.setIfInBounds_toArray, List.set_cons_zero, List.set_cons_succ, i64_w, i32_w]
                            rfl
                          refine pure_ (i := 7) (N := some 35) (v := ?_) (a' := ?_) #[true, true, true, true, true, true, true, true, false, false, true, false, false] rfl rfl (any_of HT_.out (by kernel_rfl)) (fun _ _ _ h => h) (Or.inl ⟨by rfl, ?_⟩) ?_ ?_
                          rotate_left
                          · intro w'
                            go_simp
                            with_reducible rfl
                          rotate_left
                          · simp only [Act.put, List.setIfInBounds_toArray, List.set_cons_zero, List.set_cons_succ, i64_w, i32_w]
                            rfl
                          refine pure_ (i := 8) (N := some 43) (v := ?_) (a' := ?_) #[true, true, true, true, true, true, true, true, true, false, true, false, false] rfl rfl (any_of HT_.out (by kernel_rfl)) (fun _ _ _ h => h) (Or.inl ⟨by rfl, ?_⟩) ?_ ?_
                          rotate_left
                          · intro w'
                            go_simp
                            with_reducible rfl
                          rotate_left
                          · simp only [Act.put, List.setIfInBounds_toArray, List.set_cons_zero, List.set_cons_succ, i64_w, i32_w]
                            rfl
                          refine pure_ (i := 9) (N := some 44) (v := ?_) (a' := ?_) #[true, true, true, true, true, true, true, true, true, true, true, false, false] rfl rfl (any_of HT_.out (by kernel_rfl)) (fun _ _ _ h => h) (Or.inl ⟨by rfl, ?_⟩) ?_ ?_
                          rotate_left
                          · intro w'
                            go_simp
                            with_reducible rfl
                          rotate_left
                          · simp only [Act.put, List.setIfInBounds_toArray, List.set_cons_zero, List.set_cons_succ, i64_w, i32_w]
                            rfl
                          exact norm_ (by simp only [putAll, Act.put, List.setIfInBounds_toArray, List.set_cons_zero, List.set_cons_succ]) (hCont (gb1344) _ ⟨hHeld, (by (with_reducible repeat (first | apply Kd.R_alloc | apply Kd.R_drewN | apply Kd.R_drew)); exact HO_10.out), (bkA BK1332), (bkA BK1333), (bkA BK1344), GW1344.out, GE1344.out, NB1332_1344.out, NB1344_1332.out, NB1333_1344.out, NB1344_1333.out, blA⟩)
                      · skip
                        refine box_step ?hg (N := 11) ?hd (cs := #[.int .i64 0, .int .i64 0, .int .i64 0]) (t := 34) ?hr ?_; (case hd => rfl); (case hg => rfl); (case hr => first | (go_simp; done) | (go_simp; rfl))
                        intro gb1344 hg w46 hbox hb
                        have n0_ := Aside0.mk (Kd.R_below (Kd.R_elderB (by (with_reducible repeat (first | apply Kd.R_alloc | apply Kd.R_drewN | apply Kd.R_drew)); exact HO_10.out) gb1344 (Nat.le_of_eq hg.symm)) hb)
                        have n1_ := Aside0.mk (blk_below (bkA BK1332) hb)
                        have n2_ := Aside0.mk (blk_below (bkA BK1333) hb)
                        have n3_ := Aside0.mk (below_step blA hb)
                        have n4_ := Aside0.mk (hbox)
                        have n5_ := Aside0.mk (szA hg blA)
                        have n6_ := Aside0.mk (szA hg blA)
                        have n7_ := Aside0.mk (neA hg (bkA BK1332))
                        have n8_ := Aside0.mk (neB hg (bkA BK1332))
                        have n9_ := Aside0.mk (neA hg (bkA BK1333))
                        have n10_ := Aside0.mk (neB hg (bkA BK1333))
                        clear HO_10
                        clear BK1332
                        clear BK1333
                        clear HB
                        have HO_10 := n0_
                        have BK1332 := n1_
                        have BK1333 := n2_
                        have HB := n3_
                        have BK1344 := n4_
                        have GW1344 := n5_
                        have GE1344 := n6_
                        have NB1332_1344 := n7_
                        have NB1344_1332 := n8_
                        have NB1333_1344 := n9_
                        have NB1344_1333 := n10_
                        clear n0_ n1_ n2_ n3_ n4_ n5_ n6_ n7_ n8_ n9_ n10_
                        clear hb hbox hg
                        refine hK.out _ _ ⟨(blk_cell BK1332.out 0).trans rfl, (blk_cell BK1332.out 1).trans rfl, (blk_cell BK1332.out 2).trans rfl, (blk_cell BK1333.out 0).trans rfl, (blk_cell BK1333.out 1).trans rfl⟩ (fun hHeld => ?_)
                        clear hK K
                        refine norm_ (a' := ?_) ?_ ?_
                        rotate_left
                        · show Act.put _ (some 11) _ = _
                          simp only [Act.put, List.setIfInBounds_toArray, List.set_cons_zero, List.set_cons_succ, i64_w, i32_w]
                          rfl
                        refine one_ (i := 5) (N := some 41) #[true, true, true, true, true, true, false, false, false, false, true, false, false] rfl rfl (one_of HT_.out (by kernel_rfl)) (by decide) (fun K hK => ?_)
                        refine goes_ Try.func99 (by kernel_rfl) rfl #[.int .i64 a0, .agg #[.int .i64 x1333000_2, .int .i64 x1333001_2, .int .i64 x1333002_2], .agg #[.int .i64 a2_0, .int .i64 a2_1]] (by rfl) rfl rfl (by (try simp only [List.map_toArray, List.map_cons, List.map_nil]); first | done | rfl | (simp only [List.length_drop, List.length_take]; rfl)) ?_
                        with_reducible refine (impl_branch.calls k2 a0 x1333000_2 x1333001_2 x1333002_2 a2_0 a2_1 t1339 _ A27.out).mono ?_
                        rintro e w47 ⟨rfl, hb⟩
                        refine ⟨_, rfl, ?_⟩
                        have n0_ := Aside0.mk (Kd.R_below (by (with_reducible repeat (first | apply Kd.R_alloc | apply Kd.R_drewN | apply Kd.R_drew)); exact HO_10.out) hb)
                        have n1_ := Aside0.mk (blk_below (bkA BK1332) hb)
                        have n2_ := Aside0.mk (blk_below (bkA BK1333) hb)
                        have n3_ := Aside0.mk (blk_below (bkA BK1344) hb)
                        have n4_ := Aside0.mk (below_step blA hb)
                        clear HO_10
                        clear BK1332
                        clear BK1333
                        clear BK1344
                        clear HB
                        have HO_10 := n0_
                        have BK1332 := n1_
                        have BK1333 := n2_
                        have BK1344 := n3_
                        have HB := n4_
                        clear n0_ n1_ n2_ n3_ n4_
                        (try clear hb)
                        (try clear hb2)
                        (try clear hk)
                        (try clear hi)
                        refine hK.out _ _ ⟨(blk_cell BK1332.out 0).trans rfl, (blk_cell BK1332.out 1).trans rfl, (blk_cell BK1332.out 2).trans rfl, (blk_cell BK1333.out 0).trans rfl, (blk_cell BK1333.out 1).trans rfl⟩ (fun hHeld => ?_)
                        clear hK K
                        refine norm_ (a' := ?_) ?_ ?_
                        rotate_left
                        · show Act.put _ (some 41) _ = _
                          simp only [Act.put, List.setIfInBounds_toArray, List.set_cons_zero, List.set_cons_succ, i64_w, i32_w]
                          rfl
                        refine one_ (i := 6) (N := some 42) #[true, true, true, true, true, true, true, false, false, false, true, false, false] rfl rfl (one_of HT_.out (by kernel_rfl)) (by decide) (fun K hK => ?_)
                        refine goes_ Try.func114 (by kernel_rfl) rfl #[.int .i64 a0, .agg #[.int .i64 x1333000_2, .int .i64 x1333001_2, .int .i64 x1333002_2], .int .i64 t1339] (by rfl) rfl rfl (by (try simp only [List.map_toArray, List.map_cons, List.map_nil]); first | done | rfl | (simp only [List.length_drop, List.length_take]; rfl)) ?_
                        with_reducible refine (impl_neighbour.calls k2 a0 x1333000_2 x1333001_2 x1333002_2 t1339 t1340 t1341 t1342 false _ A28.out).mono ?_
                        rintro e w48 ⟨rfl, hb⟩
                        refine ⟨_, rfl, ?_⟩
                        have n0_ := Aside0.mk (Kd.R_below (by (with_reducible repeat (first | apply Kd.R_alloc | apply Kd.R_drewN | apply Kd.R_drew)); exact HO_10.out) hb)
                        have n1_ := Aside0.mk (blk_below (bkA BK1332) hb)
                        have n2_ := Aside0.mk (blk_below (bkA BK1333) hb)
                        have n3_ := Aside0.mk (blk_below (bkA BK1344) hb)
                        have n4_ := Aside0.mk (below_step blA hb)
                        clear HO_10
                        clear BK1332
                        clear BK1333
                        clear BK1344
                        clear HB
                        have HO_10 := n0_
                        have BK1332 := n1_
                        have BK1333 := n2_
                        have BK1344 := n3_
                        have HB := n4_
                        clear n0_ n1_ n2_ n3_ n4_
                        (try clear hb)
                        (try clear hb2)
                        (try clear hk)
                        (try clear hi)
                        refine hK.out _ _ ⟨(blk_cell BK1332.out 0).trans rfl, (blk_cell BK1332.out 1).trans rfl, (blk_cell BK1332.out 2).trans rfl, (blk_cell BK1333.out 0).trans rfl, (blk_cell BK1333.out 1).trans rfl⟩ (fun hHeld => ?_)
                        clear hK K
                        refine norm_ (a' := ?_) ?_ ?_
                        rotate_left
                        · show Act.put _ (some 42) _ = _
                          simp only [Act.put, List.setIfInBounds_toArray, List.set_cons_zero, List.set_cons_succ, i64_w, i32_w]
                          rfl
                        refine pure_ (i := 7) (N := some 35) (v := ?_) (a' := ?_) #[true, true, true, true, true, true, true, true, false, false, true, false, false] rfl rfl (any_of HT_.out (by kernel_rfl)) (fun _ _ _ h => h) (Or.inl ⟨by rfl, ?_⟩) ?_ ?_
                        rotate_left
                        · intro w'
                          go_simp
                          with_reducible rfl
                        rotate_left
                        · simp only [Act.put, List.setIfInBounds_toArray, List.set_cons_zero, List.set_cons_succ, i64_w, i32_w]
                          rfl
                        refine pure_ (i := 8) (N := some 43) (v := ?_) (a' := ?_) #[true, true, true, true, true, true, true, true, true, false, true, false, false] rfl rfl (any_of HT_.out (by kernel_rfl)) (fun _ _ _ h => h) (Or.inl ⟨by rfl, ?_⟩) ?_ ?_
                        rotate_left
                        · intro w'
                          go_simp
                          with_reducible rfl
                        rotate_left
                        · simp only [Act.put, List.setIfInBounds_toArray, List.set_cons_zero, List.set_cons_succ, i64_w, i32_w]
                          rfl
                        refine pure_ (i := 9) (N := some 44) (v := ?_) (a' := ?_) #[true, true, true, true, true, true, true, true, true, true, true, false, false] rfl rfl (any_of HT_.out (by kernel_rfl)) (fun _ _ _ h => h) (Or.inl ⟨by rfl, ?_⟩) ?_ ?_
                        rotate_left
                        · intro w'
                          go_simp
                          with_reducible rfl
                        rotate_left
                        · simp only [Act.put, List.setIfInBounds_toArray, List.set_cons_zero, List.set_cons_succ, i64_w, i32_w]
                          rfl
                        exact norm_ (by simp only [putAll, Act.put, List.setIfInBounds_toArray, List.set_cons_zero, List.set_cons_succ]) (hCont (gb1344) _ ⟨hHeld, (by (with_reducible repeat (first | apply Kd.R_alloc | apply Kd.R_drewN | apply Kd.R_drew)); exact HO_10.out), (bkA BK1332), (bkA BK1333), (bkA BK1344), GW1344.out, GE1344.out, NB1332_1344.out, NB1344_1332.out, NB1333_1344.out, NB1344_1333.out, blA⟩)
                    rintro gb1344 w49 ⟨hS_, h0_, h1_, h2_, h3_, h4_, h5_, h6_, h7_, h8_, h9_, h10_⟩
                    have n0_ : Aside0 (Kd.R k34 34 w49 w.heap.size (fun k_ => k_ ≠ gb1332 ∧ k_ ≠ gb1344) u10 x10_2) := ⟨h0_⟩
                    have n1_ : Aside0 (w49.heap[gb1332]? = some (.cells #[.int .i64 x1333000_2, .int .i64 x1333001_2, .int .i64 x1333002_2] 34 (0, 0))) := ⟨h1_⟩
                    have n2_ : Aside0 (w49.heap[gb1333]? = some (.cells #[.int .i64 a2_0, .int .i64 a2_1] 24 (0, 0))) := ⟨h2_⟩
                    have n3_ : Aside0 (w49.heap[gb1344]? = some (.cells #[.int .i64 0, .int .i64 0, .int .i64 0] 34 (0, 0))) := ⟨h3_⟩
                    have n4_ : Aside0 (w.heap.size ≤ gb1344) := ⟨h4_⟩
                    have n5_ : Aside0 (w.heap.size ≤ gb1344) := ⟨h5_⟩
                    have n6_ : Aside0 (gb1332 ≠ gb1344) := ⟨h6_⟩
                    have n7_ : Aside0 (gb1344 ≠ gb1332) := ⟨h7_⟩
                    have n8_ : Aside0 (gb1333 ≠ gb1344) := ⟨h8_⟩
                    have n9_ : Aside0 (gb1344 ≠ gb1333) := ⟨h9_⟩
                    have n10_ : Aside0 (Below w.heap.size w w49) := ⟨h10_⟩
                    clear HO_10
                    clear BK1332
                    clear BK1333
                    clear HB
                    clear h0_ h1_ h2_ h3_ h4_ h5_ h6_ h7_ h8_ h9_ h10_
                    have HO_10 := n0_
                    have BK1332 := n1_
                    have BK1333 := n2_
                    have BK1344 := n3_
                    have GW1344 := n4_
                    have GE1344 := n5_
                    have NB1332_1344 := n6_
                    have NB1344_1332 := n7_
                    have NB1333_1344 := n8_
                    have NB1344_1333 := n9_
                    have HB := n10_
                    clear n0_ n1_ n2_ n3_ n4_ n5_ n6_ n7_ n8_ n9_ n10_
                    have hHeld : w49.cell? ⟨gb1332, 0, none⟩ = some (.int .i64 x1333000_2) ∧ w49.cell? ⟨gb1332, 1, none⟩ = some (.int .i64 x1333001_2) ∧ w49.cell? ⟨gb1332, 2, none⟩ = some (.int .i64 x1333002_2) ∧ w49.cell? ⟨gb1333, 0, none⟩ = some (.int .i64 a2_0) ∧ w49.cell? ⟨gb1333, 1, none⟩ = some (.int .i64 a2_1) := hS_
                    refine norm_ (a' := ?_) ?_ ?_
                    rotate_left
                    · simp only [putAll, Act.put, List.setIfInBounds_toArray, List.set_cons_zero, List.set_cons_succ]
                      rfl
                    refine one_ (i := 11) (N := none) #[true, true, true, true, true, true, true, true, true, true, true, true, false] rfl rfl (one_of HT_.out (by kernel_rfl)) (by decide) (fun K hK => ?_)
                    have hs50 : w49.cell? ⟨gb1344, 0, none⟩ = some (.int .i64 0) := (blk_cell BK1344.out 0).trans rfl
                    have hfs50 := blk_frozen BK1344.out 0
                    have hns50_0 := NB1332_1344.out
                    have hns50_1 := NB1333_1344.out
                    have hms50_0 := NB1344_1332.out
                    have hms50_1 := NB1344_1333.out
                    have hs51 : w49.cell? ⟨gb1344, 1, none⟩ = some (.int .i64 0) := (blk_cell BK1344.out 1).trans rfl
                    have hfs51 := blk_frozen BK1344.out 1
                    have hns51_0 := NB1332_1344.out
                    have hns51_1 := NB1333_1344.out
                    have hms51_0 := NB1344_1332.out
                    have hms51_1 := NB1344_1333.out
                    have hs52 : w49.cell? ⟨gb1344, 2, none⟩ = some (.int .i64 0) := (blk_cell BK1344.out 2).trans rfl
                    have hfs52 := blk_frozen BK1344.out 2
                    have hns52_0 := NB1332_1344.out
                    have hns52_1 := NB1333_1344.out
                    have hms52_0 := NB1344_1332.out
                    have hms52_1 := NB1344_1333.out
                    refine skip_ (w1 := ?_) (by rfl) rfl ?_ ?_
                    rotate_left
                    · go_simp
                      rfl
                    refine hK.out _ _ ⟨((cell_far (p := ⟨gb1344, _, none⟩) NB1332_1344.out _).trans (((cell_far (p := ⟨gb1344, _, none⟩) NB1332_1344.out _).trans (((cell_far (p := ⟨gb1344, _, none⟩) NB1332_1344.out _).trans (hHeld.1)))))), ((cell_far (p := ⟨gb1344, _, none⟩) NB1332_1344.out _).trans (((cell_far (p := ⟨gb1344, _, none⟩) NB1332_1344.out _).trans (((cell_far (p := ⟨gb1344, _, none⟩) NB1332_1344.out _).trans (hHeld.2.1)))))), ((cell_far (p := ⟨gb1344, _, none⟩) NB1332_1344.out _).trans (((cell_far (p := ⟨gb1344, _, none⟩) NB1332_1344.out _).trans (((cell_far (p := ⟨gb1344, _, none⟩) NB1332_1344.out _).trans (hHeld.2.2.1)))))), ((cell_far (p := ⟨gb1344, _, none⟩) NB1333_1344.out _).trans (((cell_far (p := ⟨gb1344, _, none⟩) NB1333_1344.out _).trans (((cell_far (p := ⟨gb1344, _, none⟩) NB1333_1344.out _).trans (hHeld.2.2.2.1)))))), ((cell_far (p := ⟨gb1344, _, none⟩) NB1333_1344.out _).trans (((cell_far (p := ⟨gb1344, _, none⟩) NB1333_1344.out _).trans (((cell_far (p := ⟨gb1344, _, none⟩) NB1333_1344.out _).trans (hHeld.2.2.2.2))))))⟩ (fun hHeld => ?_)
                    clear hK K
                    refine pure_ (i := 12) (N := some 12) (v := ?_) (a' := ?_) #[true, true, true, true, true, true, true, true, true, true, true, true, true] rfl rfl (any_of HT_.out (by kernel_rfl)) (fun _ _ _ h => h) (Or.inl ⟨by rfl, ?_⟩) ?_ ?_
                    rotate_left
                    · intro w'
                      go_simp
                      with_reducible rfl
                    rotate_left
                    · simp only [Act.put, List.setIfInBounds_toArray, List.set_cons_zero, List.set_cons_succ, i64_w, i32_w]
                      rfl
                    refine done_ (done_of HT_.out (by kernel_rfl)) ?_
                    try go_wp2
                    go_ret2
                    exact ⟨_, by first | rfl | (simp [errW_none, errW_some] <;> rfl) | (simp [*, errW_none, errW_some] <;> rfl), by first | exact Kd.R_nil _ _ _ _ _ | exact Kd.N_nil _ _ _ _ _ | exact Kd.V_nil _ _ _ _ _ | exact Kd.Q_nil _ _ _ _ _ | exact Kd.S_nil _ _ _ _ _, blA⟩
                · rw [if_neg c26] at H
                  have c26b0 : decide (x33_2 < a3) = false := decide_eq_false c26
                  clear c26
                  simp only [Option.some.injEq, Prod.mk.injEq] at H
                  obtain ⟨rfl, rfl⟩ := H
                  go_wp2
                  go_ret2
                  exact ⟨_, by first | rfl | (simp [errW_none, errW_some] <;> rfl) | (simp [*, errW_none, errW_some] <;> rfl), by (with_reducible repeat (first | apply Kd.R_alloc | apply Kd.R_drewN | apply Kd.R_drew)); exact Kd.R_mono HO_10.out (fun _ hk => trivial), blA⟩
end Go.Proofs.Ytfkglijnbgijbaa.PAll
