-- turned for this claim out of the kit's print: the same functions, packed anew
import Derived.Test.YtfkglijnbgijbaaQx
import Derived.Test.YtfkglijnbgijbaaQimplareEnds
import Derived.Test.YtfkglijnbgijbaaQspecl01Code
namespace Go.Proofs.Ytfkglijnbgijbaa.PAll
open Go.RowKit Go.Proofs.YtfkglijnbgijbaaW.PrintWords Go.Proofs.YtfkglijnbgijbaaW.PrintLast Go.Proofs.YtfkglijnbgijbaaW.PrintMore
attribute [local go_sem] Go.Proofs.Ytfkglijnbgijbaa.Aux.setCell_drewN Go.Proofs.Ytfkglijnbgijbaa.Aux.isSome_setCell max2_int min2_int max_two min_two max_three min_three max_four min_four   -- for this text's walks alone
set_option linter.unusedVariables false
set_option linter.unusedSimpArgs false
attribute [local go_sem high] eqA24
/-! ### impl_fractionsCode: function 107 -/
def impl_fractionsCode.j0 : Nat → Bool → Int → Int → Int → Int → Option (Int)
  | 0, _, _, _, _, _ => none
  | k + 1, x7, x1168000, x1168001, x1169000, x1169001 => if x7 = true then (some 1) else (if (x1168000 == x1169000 && (x1168001 == x1169001)) = true then (some 5) else (if x1168001 = 0 then (some 5) else (if x1169001 = 0 then (some 5) else (some 0))))
def impl_fractionsCode.f (k : Nat) (a0 : Int) (a1_0 : Int) (a1_1 : Int) (a2_0 : Int) (a2_1 : Int) : Option (Int) := (impl_isPrime.f a0).bind fun t1169 => (if t1169 = true then ((impl_areEnds.f k (([(⟨a1_0, a1_1⟩ : S24), (⟨a2_0, a2_1⟩ : S24)] : List (S24)))).bind fun t1173 => (impl_fractionsCode.j0 k (!t1173) a1_0 a1_1 a2_0 a2_1)) else (impl_fractionsCode.j0 k true a1_0 a1_1 a2_0 a2_1))
theorem impl_fractionsCode.mono_l : ∀ k, (∀ y0 y1 y2 y3 y4, LeO (impl_fractionsCode.j0 k y0 y1 y2 y3 y4) (impl_fractionsCode.j0 (k + 1) y0 y1 y2 y3 y4))
  | 0 => fun _ _ _ _ _ r h => by simp [impl_fractionsCode.j0] at h
  | k + 1 => by
    have ih0 := impl_fractionsCode.mono_l k
    · intro y0 y1 y2 y3 y4
      unfold impl_fractionsCode.j0
      repeat' first
      | (with_reducible exact ih0 _ _ _ _ _)
      | (with_reducible exact impl_areEnds.mono _ _)
      | (with_reducible exact LeO.refl _)
      | (with_reducible exact LeO.none _)
      | (with_reducible refine LeO.ite ?_ ?_)
      | (with_reducible refine LeO.bind ?_ (fun _ => ?_))
      | exact ih0 _ _ _ _ _
      | exact impl_areEnds.mono _ _
      | exact LeO.none _
      | refine LeO.ite ?_ ?_
      | refine LeO.bind ?_ (fun _ => ?_)
theorem impl_fractionsCode.mono : ∀ a0 a1 a2 a3 a4 k, LeO (impl_fractionsCode.f k a0 a1 a2 a3 a4) (impl_fractionsCode.f (k + 1) a0 a1 a2 a3 a4) := by
  intro a0 a1 a2 a3 a4 k
  have ih0 := impl_fractionsCode.mono_l k
  unfold impl_fractionsCode.f
  repeat' first
      | (with_reducible exact ih0 _ _ _ _ _)
      | (with_reducible exact impl_areEnds.mono _ _)
      | (with_reducible exact LeO.refl _)
      | (with_reducible exact LeO.none _)
      | (with_reducible refine LeO.ite ?_ ?_)
      | (with_reducible refine LeO.bind ?_ (fun _ => ?_))
      | exact ih0 _ _ _ _ _
      | exact impl_areEnds.mono _ _
      | exact LeO.none _
      | refine LeO.ite ?_ ?_
      | refine LeO.bind ?_ (fun _ => ?_)
set_option maxHeartbeats 8000000 in
set_option maxRecDepth 100000 in
theorem impl_fractionsCode.calls (k : Nat) (a0 : Int) (a1_0 : Int) (a1_1 : Int) (a2_0 : Int) (a2_1 : Int) (r : Int) (w : World) (h : impl_fractionsCode.f k a0 a1_0 a1_1 a2_0 a2_1 = some r) :
    Calls Try.prog 107 #[.int .i64 a0, .agg #[.int .i64 a1_0, .int .i64 a1_1], .agg #[.int .i64 a2_0, .int .i64 a2_1]] w fun e w' => e = .returned (.int .i64 r) ∧ Below w.heap.size w w' := by
  have hu24 := Try.underlying24
  have HB := Aside0.mk (Below.refl w.heap.size w)
  have H : ((impl_isPrime.f a0).bind fun t1169 => (if t1169 = true then ((impl_areEnds.f k (([(⟨a1_0, a1_1⟩ : S24), (⟨a2_0, a2_1⟩ : S24)] : List (S24)))).bind fun t1173 => (impl_fractionsCode.j0 k (!t1173) a1_0 a1_1 a2_0 a2_1)) else (impl_fractionsCode.j0 k true a1_0 a1_1 a2_0 a2_1))) = some r := h
  clear h
  have HC4 := Aside0.mk H
  clear H
  go_enter Try.func107, Try.ntmps107
  go_upto_region 1 with (first | ((with_reducible refine gate_dst (N := 4) rfl ?_); (try (refine gate_guard (by rfl) ?_; dsimp only)); refine box_event ?hg (N := 4) ?hd (cs := #[.int .i64 a1_0, .int .i64 a1_1]) (t := 24) ?hr ?_; (case hd => rfl); (case hg => rfl); (case hr => first | (go_simp; done) | (go_simp; rfl)); intro gb1167 hg w5 hbox hb; have n0_ := Aside0.mk (below_step (by repeat (first | (with_reducible first | exact HB.out | apply below_alloc | apply pw_below_drewN | apply below_drew1) | exact HB.out)) hb); have n1_ := Aside0.mk (hbox); have n2_ := Aside0.mk ((by rw [hg]; exact (below_size (by repeat (first | (with_reducible first | exact HB.out | apply below_alloc | apply pw_below_drewN | apply below_drew1) | exact HB.out))) : w.heap.size ≤ gb1167)); have n3_ := Aside0.mk ((by rw [hg]; exact (below_size (by repeat (first | (with_reducible first | exact HB.out | apply below_alloc | apply pw_below_drewN | apply below_drew1) | exact HB.out))) : w.heap.size ≤ gb1167)); clear HB; have HB := n0_; have BK1167 := n1_; have GW1167 := n2_; have GE1167 := n3_; clear n0_ n1_ n2_ n3_; clear hb hbox hg) | ((with_reducible refine gate_dst (N := 5) rfl ?_); (try (refine gate_guard (by rfl) ?_; dsimp only)); refine box_event ?hg (N := 5) ?hd (cs := #[.int .i64 a2_0, .int .i64 a2_1]) (t := 24) ?hr ?_; (case hd => rfl); (case hg => rfl); (case hr => first | (go_simp; done) | (go_simp; rfl)); intro gb1168 hg w6 hbox hb; have n0_ := Aside0.mk (blk_below (g := gb1167) (o := .cells #[.int .i64 a1_0, .int .i64 a1_1] 24 (0, 0)) (by (with_reducible repeat (first | refine blk_drewN ?_ _ | refine blk_drew ?_ | refine blk_alloc ?_ _)); exact BK1167.out) hb); have n1_ := Aside0.mk (below_step (by repeat (first | (with_reducible first | exact HB.out | apply below_alloc | apply pw_below_drewN | apply below_drew1 | refine below_set ?_ GE1167.out) | exact HB.out)) hb); have n2_ := Aside0.mk (hbox); have n3_ := Aside0.mk ((by rw [hg]; exact (below_size (by repeat (first | (with_reducible first | exact HB.out | apply below_alloc | apply pw_below_drewN | apply below_drew1 | refine below_set ?_ GE1167.out) | exact HB.out))) : w.heap.size ≤ gb1168)); have n4_ := Aside0.mk ((by rw [hg]; exact (below_size (by repeat (first | (with_reducible first | exact HB.out | apply below_alloc | apply pw_below_drewN | apply below_drew1 | refine below_set ?_ GE1167.out) | exact HB.out))) : w.heap.size ≤ gb1168)); have n5_ := Aside0.mk ((by rw [hg]; exact Nat.ne_of_lt (blk_lt (g := gb1167) (o := .cells #[.int .i64 a1_0, .int .i64 a1_1] 24 (0, 0)) (by (with_reducible repeat (first | refine blk_drewN ?_ _ | refine blk_drew ?_ | refine blk_alloc ?_ _)); exact BK1167.out)) : gb1167 ≠ gb1168)); have n6_ := Aside0.mk ((by rw [hg]; exact Nat.ne_of_gt (blk_lt (g := gb1167) (o := .cells #[.int .i64 a1_0, .int .i64 a1_1] 24 (0, 0)) (by (with_reducible repeat (first | refine blk_drewN ?_ _ | refine blk_drew ?_ | refine blk_alloc ?_ _)); exact BK1167.out)) : gb1168 ≠ gb1167)); clear BK1167; clear HB; have BK1167 := n0_; have HB := n1_; have BK1168 := n2_; have GW1168 := n3_; have GE1168 := n4_; have NB1167_1168 := n5_; have NB1168_1167 := n6_; clear n0_ n1_ n2_ n3_ n4_ n5_ n6_; clear hb hbox hg))
  (try simp only [Act.put, List.setIfInBounds_toArray, List.set_cons_zero, List.set_cons_succ])
  go_cut [7] (fun v7 wc => ∃ (kq : Nat) (x7_3 : Bool), v7 = .bool x7_3 ∧ Aside0 (impl_fractionsCode.j0 kq x7_3 a1_0 a1_1 a2_0 a2_1 = some r) ∧ Aside0 (kq ≤ k) ∧ Aside0 (wc.heap[gb1167]? = some (.cells #[.int .i64 a1_0, .int .i64 a1_1] 24 (0, 0))) ∧ Aside0 (wc.heap[gb1168]? = some (.cells #[.int .i64 a2_0, .int .i64 a2_1] 24 (0, 0))) ∧ Aside0 (Below w.heap.size w wc))
  case first =>
    have H := HC4.out
    clear HC4
    replace H := Option.bind_eq_some_iff.mp H
    obtain ⟨t1169, A70, H⟩ := H
    replace H : (if t1169 = true then ((impl_areEnds.f k (([(⟨a1_0, a1_1⟩ : S24), (⟨a2_0, a2_1⟩ : S24)] : List (S24)))).bind fun t1173 => (impl_fractionsCode.j0 k (!t1173) a1_0 a1_1 a2_0 a2_1)) else (impl_fractionsCode.j0 k true a1_0 a1_1 a2_0 a2_1)) = some r := H
    have A7 := Aside0.mk A70
    clear A70
    by_cases c8 : t1169 = true
    · subst c8
      have H1 : ((impl_areEnds.f k (([(⟨a1_0, a1_1⟩ : S24), (⟨a2_0, a2_1⟩ : S24)] : List (S24)))).bind fun t1173 => (impl_fractionsCode.j0 k (!t1173) a1_0 a1_1 a2_0 a2_1)) = some r := by rw [if_pos rfl] at H; exact H
      clear H
      have H := H1
      clear H1
      obtain ⟨y1170, hy1170⟩ : ∃ y_ : List (S24), y_ = (([(⟨a1_0, a1_1⟩ : S24), (⟨a2_0, a2_1⟩ : S24)] : List (S24))) := ⟨_, rfl⟩
      replace H : ((impl_areEnds.f k y1170).bind fun t1173 => (impl_fractionsCode.j0 k (!t1173) a1_0 a1_1 a2_0 a2_1)) = some r := by first | (rw [hy1170]; with_reducible exact H) | (have H2_ := (Option.bind_some _ _).symm.trans H; rw [hy1170]; with_reducible exact H2_) | (have H2_ := (Option.bind_some _ _).symm.trans H; with_reducible exact H2_) | with_reducible exact H | (rw [hy1170]; exact H) | exact H
      have Ny1170 := Aside0.mk hy1170
      clear hy1170
      replace H := Option.bind_eq_some_iff.mp H
      obtain ⟨t1173, A90, H⟩ := H
      replace H : (impl_fractionsCode.j0 k (!t1173) a1_0 a1_1 a2_0 a2_1) = some r := H
      have A9 := Aside0.mk A90
      clear A90
      have H' := Aside0.mk H
      clear H
      go_wp2_with (first | ((with_reducible refine gate_callee (f := 85) rfl ?_); refine goesL_ (some 9) rfl rfl Try.func85 (by kernel_rfl) rfl #[.int .i64 a0] rfl (by (try simp only [List.map_toArray, List.map_cons, List.map_nil]); first | done | rfl | (simp only [List.length_drop, List.length_take]; rfl)) ?_; (with_reducible refine (impl_isPrime.calls a0 true _ A7.out).mono ?_); rintro e w' ⟨rfl, ⟨nd, rfl⟩⟩; refine ⟨_, rfl, ?_⟩; have hnb10 := NB1167_1168.out; have hnc10 := NB1168_1167.out; have hcz11_0 : w6.cell? ⟨gb1167, 0, none⟩ = some (.int .i64 a1_0) := (blk_cell BK1167.out 0).trans rfl; have hcz11_1 : w6.cell? ⟨gb1167, 1, none⟩ = some (.int .i64 a1_1) := (blk_cell BK1167.out 1).trans rfl; have hfz11_0 := blk_frozen BK1167.out 0; have hfz11_1 := blk_frozen BK1167.out 1; have hcz12_0 : w6.cell? ⟨gb1168, 0, none⟩ = some (.int .i64 a2_0) := (blk_cell BK1168.out 0).trans rfl; have hcz12_1 : w6.cell? ⟨gb1168, 1, none⟩ = some (.int .i64 a2_1) := (blk_cell BK1168.out 1).trans rfl; have hfz12_0 := blk_frozen BK1168.out 0; have hfz12_1 := blk_frozen BK1168.out 1) | ((with_reducible refine gate_dst (N := 14) rfl ?_); (try (refine gate_guard (by rfl) ?_; dsimp only)); refine Kd.R_lit k24 _ 24 ?hg (N := 14) ?hd (xs := ([(⟨a1_0, a1_1⟩ : S24), (⟨a2_0, a2_1⟩ : S24)] : List (S24))) (inner := [.int .i64 a1_0, .int .i64 a1_1, .int .i64 a2_0, .int .i64 a2_1]) (ok := fun _ => True) (okp := fun _ => True) ?hr ?hp (fun _ hk => hk) trivial (Below.refl _ _) (Nat.le_refl _) (by simp) ?_; (case hd => rfl); (case hg => rfl); (case hr => first | (go_simp; done) | (go_simp; rfl)); (case hp => exact (Reps.c2 (show Kd.M k24 _ _ _ (⟨a1_0, a1_1⟩ : S24) [.int .i64 a1_0, .int .i64 a1_1] from (k24_mkM _ _ _ (⟨a1_0, a1_1⟩ : S24) )) (Reps.c2 (show Kd.M k24 _ _ _ (⟨a2_0, a2_1⟩ : S24) [.int .i64 a2_0, .int .i64 a2_1] from (k24_mkM _ _ _ (⟨a2_0, a2_1⟩ : S24) )) (Reps.none _ _)))); intro v1171 w13 ho14 hb hg_ hnew_; clear hg_ hnew_; (first | rw [← Ny1170.out] at ho14 | (simp only [Int.reduceToNat] at ho14; rw [← Ny1170.out] at ho14)); have n0_ := Aside0.mk (Kd.R_lower (Kd.R_newB (Kd.R_newB ho14 (g := gb1167) (o := .cells #[.int .i64 a1_0, .int .i64 a1_1] 24 (0, 0)) (by (with_reducible repeat (first | refine blk_drewN ?_ _ | refine blk_drew ?_ | refine blk_alloc ?_ _)); exact BK1167.out)) (g := gb1168) (o := .cells #[.int .i64 a2_0, .int .i64 a2_1] 24 (0, 0)) (by (with_reducible repeat (first | refine blk_drewN ?_ _ | refine blk_drew ?_ | refine blk_alloc ?_ _)); exact BK1168.out)) (below_size (by repeat (first | (with_reducible first | exact HB.out | apply below_alloc | apply pw_below_drewN | apply below_drew1 | refine below_set ?_ GE1167.out | refine below_set ?_ GE1168.out) | exact HB.out)))); have n1_ := Aside0.mk (blk_below (g := gb1167) (o := .cells #[.int .i64 a1_0, .int .i64 a1_1] 24 (0, 0)) (by (with_reducible repeat (first | refine blk_drewN ?_ _ | refine blk_drew ?_ | refine blk_alloc ?_ _)); exact BK1167.out) hb); have n2_ := Aside0.mk (blk_below (g := gb1168) (o := .cells #[.int .i64 a2_0, .int .i64 a2_1] 24 (0, 0)) (by (with_reducible repeat (first | refine blk_drewN ?_ _ | refine blk_drew ?_ | refine blk_alloc ?_ _)); exact BK1168.out) hb); have n3_ := Aside0.mk (below_step (by repeat (first | (with_reducible first | exact HB.out | apply below_alloc | apply pw_below_drewN | apply below_drew1 | refine below_set ?_ GE1167.out | refine below_set ?_ GE1168.out) | exact HB.out)) hb); clear BK1167; clear BK1168; clear HB; have HO1172 := n0_; have BK1167 := n1_; have BK1168 := n2_; have HB := n3_; clear n0_ n1_ n2_ n3_; clear hb ho14; obtain ⟨Ao15, co15, eo15⟩ := Kd.R_slice HO1172.out; subst eo15) | (go_at_call 117; (with_reducible refine (impl_areEnds.calls k _ _ y1170 t1173 _ ?side1 ?side2 A9.out).mono ?_); (case side1 => repeat (first | exact (Kd.R_reads' HO1172.out).2.2 | (with_reducible refine Kd.C_alloc ?_ _) | (with_reducible refine Kd.C_drewN ?_ _) | (with_reducible refine Kd.C_drew ?_))); (case side2 => exact (Kd.R_reads' HO1172.out).2.1); rintro e w16 ⟨rfl, hb⟩; have n0_ := Aside0.mk (Kd.R_below (by (with_reducible repeat (first | apply Kd.R_alloc | apply Kd.R_drewN | apply Kd.R_drew)); exact HO1172.out) hb); have n1_ := Aside0.mk (blk_below (g := gb1167) (o := .cells #[.int .i64 a1_0, .int .i64 a1_1] 24 (0, 0)) (by (with_reducible repeat (first | refine blk_drewN ?_ _ | refine blk_drew ?_ | refine blk_alloc ?_ _)); exact BK1167.out) hb); have n2_ := Aside0.mk (blk_below (g := gb1168) (o := .cells #[.int .i64 a2_0, .int .i64 a2_1] 24 (0, 0)) (by (with_reducible repeat (first | refine blk_drewN ?_ _ | refine blk_drew ?_ | refine blk_alloc ?_ _)); exact BK1168.out) hb); have n3_ := Aside0.mk (below_step (by repeat (first | (with_reducible first | exact HB.out | apply below_alloc | apply pw_below_drewN | apply below_drew1 | refine below_set ?_ GE1167.out | refine below_set ?_ GE1168.out) | exact HB.out)) hb); clear HO1172; clear BK1167; clear BK1168; clear HB; have HO1172 := n0_; have BK1167 := n1_; have BK1168 := n2_; have HB := n3_; clear n0_ n1_ n2_ n3_; (try clear hb); (try clear hb2); (try clear hk); (try clear hi)))
      go_meet
      case rel => exact ⟨_, (!t1173), (by first | rfl | (simp; done) | (simp [*]; done)), H', ⟨by first | omega | exact Nat.le_refl _⟩, ⟨by (with_reducible repeat (first | refine blk_drewN ?_ _ | refine blk_drew ?_ | refine blk_alloc ?_ _)); exact BK1167.out⟩, ⟨by (with_reducible repeat (first | refine blk_drewN ?_ _ | refine blk_drew ?_ | refine blk_alloc ?_ _)); exact BK1168.out⟩, ⟨by repeat (first | (with_reducible first | exact HB.out | apply below_alloc | apply pw_below_drewN | apply below_drew1 | refine below_set ?_ GE1167.out | refine below_set ?_ GE1168.out) | exact HB.out)⟩⟩
    · replace c8 := Bool.eq_false_iff.mpr c8
      subst c8
      have H1 : (impl_fractionsCode.j0 k true a1_0 a1_1 a2_0 a2_1) = some r := by rw [if_neg (show ¬ (false = true) by decide)] at H; exact H
      clear H
      have H := H1
      clear H1
      have H' := Aside0.mk H
      clear H
      go_wp2_with (first | ((with_reducible refine gate_callee (f := 85) rfl ?_); refine goesL_ (some 9) rfl rfl Try.func85 (by kernel_rfl) rfl #[.int .i64 a0] rfl (by (try simp only [List.map_toArray, List.map_cons, List.map_nil]); first | done | rfl | (simp only [List.length_drop, List.length_take]; rfl)) ?_; (with_reducible refine (impl_isPrime.calls a0 false _ A7.out).mono ?_); rintro e w' ⟨rfl, ⟨nd, rfl⟩⟩; refine ⟨_, rfl, ?_⟩))
      go_meet
      case rel => exact ⟨_, (true), (by first | rfl | (simp; done) | (simp [*]; done)), H', ⟨by first | omega | exact Nat.le_refl _⟩, ⟨by (with_reducible repeat (first | refine blk_drewN ?_ _ | refine blk_drew ?_ | refine blk_alloc ?_ _)); exact BK1167.out⟩, ⟨by (with_reducible repeat (first | refine blk_drewN ?_ _ | refine blk_drew ?_ | refine blk_alloc ?_ _)); exact BK1168.out⟩, ⟨by repeat (first | (with_reducible first | exact HB.out | apply below_alloc | apply pw_below_drewN | apply below_drew1 | refine below_set ?_ GE1167.out | refine below_set ?_ GE1168.out) | exact HB.out)⟩⟩
  case rest =>
    clear HC4
    try clear c1
    try clear c2
    try clear p2
    try clear c8
    try clear c10
    try clear hcz11_0
    try clear hcz11_1
    try clear hcz12_0
    try clear hcz12_1
    try clear hfz11_0
    try clear hfz11_1
    try clear hfz12_0
    try clear hfz12_1
    obtain ⟨kq, x7_3, rfl, HA, HJ3, BK1167, BK1168, HB⟩ := hcut
    cases kq with
    | zero => exact absurd HA.out (by simp [impl_fractionsCode.j0])
    | succ kj3 =>
      have H := HA.out
      clear HA
      simp only [impl_fractionsCode.j0] at H
      by_cases c17 : x7_3 = true
      · subst c17
        have H1 : (some 1) = some r := by rw [if_pos rfl] at H; exact H
        clear H
        have H := H1
        clear H1
        obtain rfl := Option.some.inj H
        go_wp2
        go_ret
        exact ⟨by first | rfl | (simp [errW_none, errW_some] <;> rfl) | (simp [*, errW_none, errW_some] <;> rfl), by repeat (first | (with_reducible first | exact HB.out | apply below_alloc | apply pw_below_drewN | apply below_drew1 | refine below_set ?_ GE1167.out | refine below_set ?_ GE1168.out) | exact HB.out)⟩
      · replace c17 := Bool.eq_false_iff.mpr c17
        subst c17
        have H1 : (if (a1_0 == a2_0 && (a1_1 == a2_1)) = true then (some 5) else (if a1_1 = 0 then (some 5) else (if a2_1 = 0 then (some 5) else (some 0)))) = some r := by rw [if_neg (show ¬ (false = true) by decide)] at H; exact H
        clear H
        have H := H1
        clear H1
        by_cases c18 : (a1_0 == a2_0 && (a1_1 == a2_1)) = true
        · rw [if_pos c18] at H
          have c18b0 : (a1_0 == a2_0 && (a1_1 == a2_1)) = true := c18
          (try (have c18b1 : decide (a1_0 = a2_0 && (a1_1 == a2_1)) = true := by simpa using c18))
          (try (have c18b2 : (a1_0 == a2_0 && (a1_1 == a2_1)) = true := by simpa using c18))
          clear c18
          obtain rfl := Option.some.inj H
          have hnb19 := NB1167_1168.out
          have hnc19 := NB1168_1167.out
          have hcz20_0 : wc.cell? ⟨gb1167, 0, none⟩ = some (.int .i64 a1_0) := (blk_cell BK1167.out 0).trans rfl
          have hcz20_1 : wc.cell? ⟨gb1167, 1, none⟩ = some (.int .i64 a1_1) := (blk_cell BK1167.out 1).trans rfl
          have hfz20_0 := blk_frozen BK1167.out 0
          have hfz20_1 := blk_frozen BK1167.out 1
          have hcz21_0 : wc.cell? ⟨gb1168, 0, none⟩ = some (.int .i64 a2_0) := (blk_cell BK1168.out 0).trans rfl
          have hcz21_1 : wc.cell? ⟨gb1168, 1, none⟩ = some (.int .i64 a2_1) := (blk_cell BK1168.out 1).trans rfl
          have hfz21_0 := blk_frozen BK1168.out 0
          have hfz21_1 := blk_frozen BK1168.out 1
          go_wp2
          go_ret
          exact ⟨by first | rfl | (simp [errW_none, errW_some] <;> rfl) | (simp [*, errW_none, errW_some] <;> rfl), by repeat (first | (with_reducible first | exact HB.out | apply below_alloc | apply pw_below_drewN | apply below_drew1 | refine below_set ?_ GE1167.out | refine below_set ?_ GE1168.out) | exact HB.out)⟩
        · rw [if_neg c18] at H
          have c18b0 : (a1_0 == a2_0 && (a1_1 == a2_1)) = false := by simpa using c18
          (try (have c18b1 : decide (a1_0 = a2_0 && (a1_1 == a2_1)) = false := by simpa using c18))
          (try (have c18b2 : (a1_0 == a2_0 && (a1_1 == a2_1)) = false := by simpa using c18))
          (try (have c18b3 : ¬ (a1_0 = a2_0 && (a1_1 == a2_1)) := by simpa using c18))
          clear c18
          by_cases c22 : a1_1 = 0
          · rw [if_pos c22] at H
            have c22b0 : (a1_1 == 0) = true := beq_iff_eq.mpr c22
            have c22b1 : (a1_1 != 0) = false := bne_eq_false_iff_eq.mpr c22
            clear c22
            obtain rfl := Option.some.inj H
            have hnb23 := NB1167_1168.out
            have hnc23 := NB1168_1167.out
            have hcz24_0 : wc.cell? ⟨gb1167, 0, none⟩ = some (.int .i64 a1_0) := (blk_cell BK1167.out 0).trans rfl
            have hcz24_1 : wc.cell? ⟨gb1167, 1, none⟩ = some (.int .i64 a1_1) := (blk_cell BK1167.out 1).trans rfl
            have hfz24_0 := blk_frozen BK1167.out 0
            have hfz24_1 := blk_frozen BK1167.out 1
            have hcz25_0 : wc.cell? ⟨gb1168, 0, none⟩ = some (.int .i64 a2_0) := (blk_cell BK1168.out 0).trans rfl
            have hcz25_1 : wc.cell? ⟨gb1168, 1, none⟩ = some (.int .i64 a2_1) := (blk_cell BK1168.out 1).trans rfl
            have hfz25_0 := blk_frozen BK1168.out 0
            have hfz25_1 := blk_frozen BK1168.out 1
            go_wp2
            go_ret
            exact ⟨by first | rfl | (simp [errW_none, errW_some] <;> rfl) | (simp [*, errW_none, errW_some] <;> rfl), by repeat (first | (with_reducible first | exact HB.out | apply below_alloc | apply pw_below_drewN | apply below_drew1 | refine below_set ?_ GE1167.out | refine below_set ?_ GE1168.out) | exact HB.out)⟩
          · rw [if_neg c22] at H
            have c22b0 : (a1_1 == 0) = false := beq_eq_false_iff_ne.mpr c22
            have c22b1 : (a1_1 != 0) = true := bne_iff_ne.mpr c22
            by_cases c26 : a2_1 = 0
            · rw [if_pos c26] at H
              have c26b0 : (a2_1 == 0) = true := beq_iff_eq.mpr c26
              have c26b1 : (a2_1 != 0) = false := bne_eq_false_iff_eq.mpr c26
              clear c26
              obtain rfl := Option.some.inj H
              have hnb27 := NB1167_1168.out
              have hnc27 := NB1168_1167.out
              have hcz28_0 : wc.cell? ⟨gb1167, 0, none⟩ = some (.int .i64 a1_0) := (blk_cell BK1167.out 0).trans rfl
              have hcz28_1 : wc.cell? ⟨gb1167, 1, none⟩ = some (.int .i64 a1_1) := (blk_cell BK1167.out 1).trans rfl
              have hfz28_0 := blk_frozen BK1167.out 0
              have hfz28_1 := blk_frozen BK1167.out 1
              have hcz29_0 : wc.cell? ⟨gb1168, 0, none⟩ = some (.int .i64 a2_0) := (blk_cell BK1168.out 0).trans rfl
              have hcz29_1 : wc.cell? ⟨gb1168, 1, none⟩ = some (.int .i64 a2_1) := (blk_cell BK1168.out 1).trans rfl
              have hfz29_0 := blk_frozen BK1168.out 0
              have hfz29_1 := blk_frozen BK1168.out 1
              go_wp2
              go_ret
              exact ⟨by first | rfl | (simp [errW_none, errW_some] <;> rfl) | (simp [*, errW_none, errW_some] <;> rfl), by repeat (first | (with_reducible first | exact HB.out | apply below_alloc | apply pw_below_drewN | apply below_drew1 | refine below_set ?_ GE1167.out | refine below_set ?_ GE1168.out) | exact HB.out)⟩
            · rw [if_neg c26] at H
              have c26b0 : (a2_1 == 0) = false := beq_eq_false_iff_ne.mpr c26
              have c26b1 : (a2_1 != 0) = true := bne_iff_ne.mpr c26
              obtain rfl := Option.some.inj H
              have hnb30 := NB1167_1168.out
              have hnc30 := NB1168_1167.out
              have hcz31_0 : wc.cell? ⟨gb1167, 0, none⟩ = some (.int .i64 a1_0) := (blk_cell BK1167.out 0).trans rfl
              have hcz31_1 : wc.cell? ⟨gb1167, 1, none⟩ = some (.int .i64 a1_1) := (blk_cell BK1167.out 1).trans rfl
              have hfz31_0 := blk_frozen BK1167.out 0
              have hfz31_1 := blk_frozen BK1167.out 1
              have hcz32_0 : wc.cell? ⟨gb1168, 0, none⟩ = some (.int .i64 a2_0) := (blk_cell BK1168.out 0).trans rfl
              have hcz32_1 : wc.cell? ⟨gb1168, 1, none⟩ = some (.int .i64 a2_1) := (blk_cell BK1168.out 1).trans rfl
              have hfz32_0 := blk_frozen BK1168.out 0
              have hfz32_1 := blk_frozen BK1168.out 1
              go_wp2
              go_ret
              exact ⟨by first | rfl | (simp [errW_none, errW_some] <;> rfl) | (simp [*, errW_none, errW_some] <;> rfl), by repeat (first | (with_reducible first | exact HB.out | apply below_alloc | apply pw_below_drewN | apply below_drew1 | refine below_set ?_ GE1167.out | refine below_set ?_ GE1168.out) | exact HB.out)⟩
end Go.Proofs.Ytfkglijnbgijbaa.PAll
