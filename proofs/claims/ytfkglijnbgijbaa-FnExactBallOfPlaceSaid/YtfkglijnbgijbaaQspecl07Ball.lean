-- turned for this claim out of the kit's print: the same functions, packed anew
import Derived.Test.YtfkglijnbgijbaaQx
import Derived.Test.YtfkglijnbgijbaaQimplfitted
import Derived.Test.YtfkglijnbgijbaaQspecl01MulMod
import Derived.Test.YtfkglijnbgijbaaQspecl07Next
namespace Go.Proofs.Ytfkglijnbgijbaa.PAll
open Go.RowKit Go.Proofs.YtfkglijnbgijbaaW.PrintWords Go.Proofs.YtfkglijnbgijbaaW.PrintLast Go.Proofs.YtfkglijnbgijbaaW.PrintMore
attribute [local go_sem] Go.Proofs.Ytfkglijnbgijbaa.Aux.setCell_drewN Go.Proofs.Ytfkglijnbgijbaa.Aux.isSome_setCell Go.Proofs.Ytfkglijnbgijbaa.Aux.max_eight max2_int min2_int max_two min_two max_three min_three max_four min_four   -- for this text's walks alone
set_option linter.unusedVariables false
set_option linter.unusedSimpArgs false
/-! ### spec_l07Ball: function 76 -/
mutual
def spec_l07Ball.l0 : Nat → Int → List Int → Int → Int → Int → Int → Option (Int × Int × Int × Bool)
  | 0, _, _, _, _, _, _ => none
  | k + 1, x0, x8, x9, x588000, x588001, x588002 => if x9 > 0 then ((spec_l07Parent.f x0 x9).bind fun t592 => ((spec_l07Child.f x0 t592).bind fun bt593 => (if x8.length < 17592186044416 then ((spec_l07Parent.f x0 x9).bind fun t598 => (spec_l07Ball.l0 k x0 (x8 ++ [wrap64 (x9 - bt593.1)]) t598 x588000 x588001 x588002)) else (none)))) else (spec_l07Ball.l1 k x0 x8 false (wrap64 ((x8.length : Int) - 1)) x588000 x588001 x588002 0 0 0)
def spec_l07Ball.l1 : Nat → Int → List Int → Bool → Int → Int → Int → Int → Int → Int → Int → Option (Int × Int × Int × Bool)
  | 0, _, _, _, _, _, _, _, _, _, _ => none
  | k + 1, x0, x8, x14, x15, x600000, x600001, x600002, x601000, x601001, x601002 => if x15 ≥ 0 then (if 0 ≤ x15 then (if x15 < (x8.length : Int) then ((spec_l07Next.f k x0 x600000 x600001 x600002 x601000 x601001 x601002 x14 (rd x8 x15)).bind fun bt602 => (if bt602.2.2.2 = true then (spec_l07Ball.l1 k x0 x8 true (wrap64 (x15 - 1)) bt602.1 bt602.2.1 bt602.2.2.1 x600000 x600001 x600002) else (some (0, 0, 0, false)))) else (none)) else (none)) else (some (x600000, x600001, x600002, true))
end
def spec_l07Ball.f (k : Nat) (a0 : Int) (a1_0 : Int) (a1_1 : Int) (a1_2 : Int) (a2 : Int) : Option (Int × Int × Int × Bool) := spec_l07Ball.l0 k a0 (([] : List Int)) a2 a1_0 a1_1 a1_2
theorem spec_l07Ball.mono_l : ∀ k, (∀ y0 y1 y2 y3 y4 y5, LeO (spec_l07Ball.l0 k y0 y1 y2 y3 y4 y5) (spec_l07Ball.l0 (k + 1) y0 y1 y2 y3 y4 y5)) ∧ (∀ y0 y1 y2 y3 y4 y5 y6 y7 y8 y9, LeO (spec_l07Ball.l1 k y0 y1 y2 y3 y4 y5 y6 y7 y8 y9) (spec_l07Ball.l1 (k + 1) y0 y1 y2 y3 y4 y5 y6 y7 y8 y9))
  | 0 => ⟨fun _ _ _ _ _ _ r h => by simp [spec_l07Ball.l0] at h, fun _ _ _ _ _ _ _ _ _ _ r h => by simp [spec_l07Ball.l1] at h⟩
  | k + 1 => by
    obtain ⟨ih0, ih1⟩ := spec_l07Ball.mono_l k
    refine ⟨?_, ?_⟩
    · intro y0 y1 y2 y3 y4 y5
      unfold spec_l07Ball.l0
      repeat' first
      | (with_reducible exact ih0 _ _ _ _ _ _)
      | (with_reducible exact ih1 _ _ _ _ _ _ _ _ _ _)
      | (with_reducible exact spec_l07Next.mono _ _ _ _ _ _ _ _ _ _)
      | (with_reducible exact LeO.refl _)
      | (with_reducible exact LeO.none _)
      | (with_reducible refine LeO.ite ?_ ?_)
      | (with_reducible refine LeO.bind ?_ (fun _ => ?_))
      | exact ih0 _ _ _ _ _ _
      | exact ih1 _ _ _ _ _ _ _ _ _ _
      | exact spec_l07Next.mono _ _ _ _ _ _ _ _ _ _
      | exact LeO.none _
      | refine LeO.ite ?_ ?_
      | refine LeO.bind ?_ (fun _ => ?_)
    · intro y0 y1 y2 y3 y4 y5 y6 y7 y8 y9
      unfold spec_l07Ball.l1
      repeat' first
      | (with_reducible exact ih0 _ _ _ _ _ _)
      | (with_reducible exact ih1 _ _ _ _ _ _ _ _ _ _)
      | (with_reducible exact spec_l07Next.mono _ _ _ _ _ _ _ _ _ _)
      | (with_reducible exact LeO.refl _)
      | (with_reducible exact LeO.none _)
      | (with_reducible refine LeO.ite ?_ ?_)
      | (with_reducible refine LeO.bind ?_ (fun _ => ?_))
      | exact ih0 _ _ _ _ _ _
      | exact ih1 _ _ _ _ _ _ _ _ _ _
      | exact spec_l07Next.mono _ _ _ _ _ _ _ _ _ _
      | exact LeO.none _
      | refine LeO.ite ?_ ?_
      | refine LeO.bind ?_ (fun _ => ?_)
theorem spec_l07Ball.mono : ∀ a0 a1 a2 a3 a4 k, LeO (spec_l07Ball.f k a0 a1 a2 a3 a4) (spec_l07Ball.f (k + 1) a0 a1 a2 a3 a4) := by
  intro a0 a1 a2 a3 a4 k
  obtain ⟨ih0, ih1⟩ := spec_l07Ball.mono_l k
  unfold spec_l07Ball.f
  repeat' first
      | (with_reducible exact ih0 _ _ _ _ _ _)
      | (with_reducible exact ih1 _ _ _ _ _ _ _ _ _ _)
      | (with_reducible exact spec_l07Next.mono _ _ _ _ _ _ _ _ _ _)
      | (with_reducible exact LeO.refl _)
      | (with_reducible exact LeO.none _)
      | (with_reducible refine LeO.ite ?_ ?_)
      | (with_reducible refine LeO.bind ?_ (fun _ => ?_))
      | exact ih0 _ _ _ _ _ _
      | exact ih1 _ _ _ _ _ _ _ _ _ _
      | exact spec_l07Next.mono _ _ _ _ _ _ _ _ _ _
      | exact LeO.none _
      | refine LeO.ite ?_ ?_
      | refine LeO.bind ?_ (fun _ => ?_)
def spec_l07Ball.T11 : Bool × List (List Nat × List Nat) := (true, [([], []), ([], []), ([], []), ([], []), ([], []), ([], []), ([4, 5], [4, 5]), ([6], [6]), ([0, 1, 2, 3, 7], [0, 1, 2, 3, 7]), ([8], [8]), ([9], [9]), ([9], [9]), ([], []), ([12, 10, 8, 0, 1, 2, 3, 4, 5, 6, 7, 8, 9, 10, 12], [10, 12]), ([11, 13, 0, 1, 2, 3, 4, 5, 6, 7, 8, 9, 10, 11, 12, 13], [11])])
def spec_l07Ball.B11 : List Nat := [0, 0, 0, 0, 0, 0, 48, 112, 255, 511, 1023, 1023, 0, 6143, 16383]
theorem spec_l07Ball.tab11 : rtab .any (opsOf Try.f76 11) = spec_l07Ball.T11 := by kernel_rfl
theorem spec_l07Ball.bits11 : waitsOk spec_l07Ball.T11.2 spec_l07Ball.B11 = true := by kernel_rfl
set_option maxHeartbeats 8000000 in
set_option maxRecDepth 100000 in
theorem spec_l07Ball.calls (k : Nat) (a0 : Int) (a1_0 : Int) (a1_1 : Int) (a1_2 : Int) (a2 : Int) (r1 : Int) (r2 : Int) (r3 : Int) (r4 : Bool) (w : World) (h : spec_l07Ball.f k a0 a1_0 a1_1 a1_2 a2 = some (r1, r2, r3, r4)) :
    Calls Try.prog 76 #[.int .i64 a0, .agg #[.int .i64 a1_0, .int .i64 a1_1, .int .i64 a1_2], .int .i64 a2] w fun e w' => e = .returned (.tuple #[.agg #[.int .i64 r1, .int .i64 r2, .int .i64 r3], .bool r4]) ∧ Below w.heap.size w w' := by
  have hu34 := Try.underlying34
  have HB := Aside0.mk (Below.refl w.heap.size w)
  have H : (spec_l07Ball.l0 k a0 (([] : List Int)) a2 a1_0 a1_1 a1_2) = some (r1, r2, r3, r4) := h
  clear h
  obtain ⟨y589, hy589⟩ : ∃ y_ : List Int, y_ = (([] : List Int)) := ⟨_, rfl⟩
  replace H : (spec_l07Ball.l0 k a0 y589 a2 a1_0 a1_1 a1_2) = some (r1, r2, r3, r4) := by first | (rw [hy589]; with_reducible exact H) | (have H2_ := (Option.bind_some _ _).symm.trans H; rw [hy589]; with_reducible exact H2_) | (have H2_ := (Option.bind_some _ _).symm.trans H; with_reducible exact H2_) | with_reducible exact H | (rw [hy589]; exact H) | exact H
  have Ny589 := Aside0.mk hy589
  clear hy589
  have H' := Aside0.mk H
  clear H
  go_enter Try.func76, Try.ntmps76
  go_wp2_with (first | ((with_reducible refine gate_dst (N := 4) rfl ?_); refine box_event ?hg (N := 4) ?hd (cs := #[.int .i64 a1_0, .int .i64 a1_1, .int .i64 a1_2]) (t := 34) ?hr ?_; (case hd => rfl); (case hg => rfl); (case hr => first | (go_simp; done) | (go_simp; rfl)); intro gb587 hg w4 hbox hb; have n0_ := Aside0.mk (below_step blA hb); have n1_ := Aside0.mk (hbox); have n2_ := Aside0.mk (szA hg blA); have n3_ := Aside0.mk (szA hg blA); clear HB; have HB := n0_; have BK587 := n1_; have GW587 := n2_; have GE587 := n3_; clear n0_ n1_ n2_ n3_; clear hb hbox hg) | ((with_reducible refine gate_dst (N := 6) rfl ?_); refine box_event ?hg (N := 6) ?hd (cs := #[.int .i64 0, .int .i64 0, .int .i64 0]) (t := 34) ?hr ?_; (case hd => rfl); (case hg => rfl); (case hr => first | (go_simp; done) | (go_simp; rfl)); intro gb588 hg w5 hbox hb; have n0_ := Aside0.mk (blk_below (bkA BK587) hb); have n1_ := Aside0.mk (below_step blA hb); have n2_ := Aside0.mk (hbox); have n3_ := Aside0.mk (szA hg blA); have n4_ := Aside0.mk (szA hg blA); have n5_ := Aside0.mk (neA hg (bkA BK587)); have n6_ := Aside0.mk (neB hg (bkA BK587)); clear BK587; clear HB; have BK587 := n0_; have HB := n1_; have BK588 := n2_; have GW588 := n3_; have GE588 := n4_; have NB587_588 := n5_; have NB588_587 := n6_; clear n0_ n1_ n2_ n3_ n4_ n5_ n6_; clear hb hbox hg) | ((with_reducible refine gate_dst (N := 18) rfl ?_); refine Kd.R_lit (Kd.int .i64) _ 2 ?hg (N := 18) ?hd (xs := ([] : List Int)) (inner := []) (ok := fun _ => True) (okp := fun _ => True) ?hr ?hp (fun _ hk => hk) trivial (Below.refl _ _) (Nat.le_refl _) (by simp) ?_; (case hd => rfl); (case hg => rfl); (case hr => first | (go_simp; done) | (go_simp; rfl)); (case hp => exact (Reps.none _ _)); intro v590 w6 ho7 hb hg_ hnew_; clear hg_ hnew_; (first | rw [← Ny589.out] at ho7 | (simp only [Int.reduceToNat] at ho7; rw [← Ny589.out] at ho7)); have n0_ := Aside0.mk (Kd.R_lower ho7 (below_size blA)); have n1_ := Aside0.mk (blk_below (bkA BK587) hb); have n2_ := Aside0.mk (blk_below (bkA BK588) hb); have n3_ := Aside0.mk (below_step blA hb); clear BK587; clear BK588; clear HB; have HO591 := n0_; have BK587 := n1_; have BK588 := n2_; have HB := n3_; clear n0_ n1_ n2_ n3_; clear hb ho7))
  go_loopg [8, 9] k (fun kq v8 v9 w' => ∃ (x8_1 : List Int) (x9_1 : Int), v9 = .int .i64 x9_1 ∧ Aside0 (spec_l07Ball.l0 kq a0 x8_1 x9_1 a1_0 a1_1 a1_2 = some (r1, r2, r3, r4)) ∧ Aside0 (kq ≤ k) ∧ Aside0 (Kd.R (Kd.int .i64) 2 w' w.heap.size (fun _ => True) v8 x8_1) ∧ Aside0 (w'.heap[gb587]? = some (.cells #[.int .i64 a1_0, .int .i64 a1_1, .int .i64 a1_2] 34 (0, 0))) ∧ Aside0 (w'.heap[gb588]? = some (.cells #[.int .i64 0, .int .i64 0, .int .i64 0] 34 (0, 0))) ∧ Aside0 (Below w.heap.size w w'))
  case atStart => exact ⟨(y589), (a2), (by first | rfl | (simp; done) | (simp [*]; done)), H', ⟨Nat.le_refl _⟩, ⟨by (with_reducible repeat (first | apply Kd.R_alloc | apply Kd.R_drewN | apply Kd.R_drew)); exact HO591.out⟩, ⟨bkA BK587⟩, ⟨bkA BK588⟩, ⟨blA⟩⟩
  case round =>
    clear H'
    try clear p2
    try clear c7
    obtain ⟨x8_1, x9_1, rfl, HA, HK1, HO_8, BK587, BK588, HB⟩ := hrel
    cases gk with
    | zero => exact absurd HA.out (by simp [spec_l07Ball.l0])
    | succ k1 =>
      have H := HA.out
      clear HA
      simp only [spec_l07Ball.l0] at H
      by_cases c8 : x9_1 > 0
      · rw [if_pos c8] at H
        have c8b0 : decide (0 < x9_1) = true := decide_eq_true c8
        clear c8
        replace H := Option.bind_eq_some_iff.mp H
        obtain ⟨t592, A90, H⟩ := H
        replace H : ((spec_l07Child.f a0 t592).bind fun bt593 => (if x8_1.length < 17592186044416 then ((spec_l07Parent.f a0 x9_1).bind fun t598 => (spec_l07Ball.l0 k1 a0 (x8_1 ++ [wrap64 (x9_1 - bt593.1)]) t598 a1_0 a1_1 a1_2)) else (none))) = some (r1, r2, r3, r4) := H
        have A9 := Aside0.mk A90
        clear A90
        replace H := Option.bind_eq_some_iff.mp H
        obtain ⟨⟨t593, t594⟩, A100, H⟩ := H
        replace H : (if x8_1.length < 17592186044416 then ((spec_l07Parent.f a0 x9_1).bind fun t598 => (spec_l07Ball.l0 k1 a0 (x8_1 ++ [wrap64 (x9_1 - t593)]) t598 a1_0 a1_1 a1_2)) else (none)) = some (r1, r2, r3, r4) := H
        have A10 := Aside0.mk A100
        clear A100
        by_cases c11 : x8_1.length < 17592186044416
        · rw [if_pos c11] at H
          have LMc11 := Aside0.mk c11
          clear c11
          obtain ⟨y595, hy595⟩ : ∃ y_ : List Int, y_ = (x8_1 ++ [wrap64 (x9_1 - t593)]) := ⟨_, rfl⟩
          replace H : ((spec_l07Parent.f a0 x9_1).bind fun t598 => (spec_l07Ball.l0 k1 a0 y595 t598 a1_0 a1_1 a1_2)) = some (r1, r2, r3, r4) := by first | (rw [hy595]; with_reducible exact H) | (have H2_ := (Option.bind_some _ _).symm.trans H; rw [hy595]; with_reducible exact H2_) | (have H2_ := (Option.bind_some _ _).symm.trans H; with_reducible exact H2_) | with_reducible exact H | (rw [hy595]; exact H) | exact H
          have Ny595 := Aside0.mk hy595
          clear hy595
          replace H := Option.bind_eq_some_iff.mp H
          obtain ⟨t598, A120, H⟩ := H
          replace H : (spec_l07Ball.l0 k1 a0 y595 t598 a1_0 a1_1 a1_2) = some (r1, r2, r3, r4) := H
          have A12 := Aside0.mk A120
          clear A120
          have H' := Aside0.mk H
          clear H
          go_wp2_with (first | ((with_reducible refine gate_callee (f := 91) rfl ?_); refine goesL_ (some 29) rfl rfl Try.func91 (by kernel_rfl) rfl #[.int .i64 a0, .int .i64 x9_1] rfl (by (try simp only [List.map_toArray, List.map_cons, List.map_nil]); first | done | rfl | (simp only [List.length_drop, List.length_take]; rfl)) ?_; (with_reducible refine (spec_l07Parent.calls a0 x9_1 t592 _ A9.out).mono ?_); rintro e w' ⟨rfl, ⟨nd, rfl⟩⟩; refine ⟨_, rfl, ?_⟩) | ((with_reducible refine gate_callee (f := 67) rfl ?_); refine goesL_ (some 30) rfl rfl Try.func67 (by kernel_rfl) rfl #[.int .i64 a0, .int .i64 t592] rfl (by (try simp only [List.map_toArray, List.map_cons, List.map_nil]); first | done | rfl | (simp only [List.length_drop, List.length_take]; rfl)) ?_; (with_reducible refine (spec_l07Child.calls a0 t592 t593 t594 _ A10.out).mono ?_); rintro e w' ⟨rfl, ⟨nd, rfl⟩⟩; refine ⟨_, rfl, ?_⟩) | ((with_reducible refine gate_builtin (b := .append) (xs := #[.tmp 33, .tmp 37]) rfl ?_); at_builtin; refine Kd.R_append (Kd.int .i64) (w0 := w) w.heap.size rfl (.tmp 33) (.tmp 37) 45 2 (.int .i64 0) 8 rfl Try.underlying45 info2 rfl (by decide) (by omega) u8 x8_1 (wrap64 (x9_1 - t593)) [.int .i64 (wrap64 (x9_1 - t593))] (fun _ => True) (fun _ => False) rfl rfl ?aP (fun _ hk => hk.elim) ?aF ?aO ?aB ?aS ?aL ?_; (case aP => exact rfl); (case aB => exact blA); (case aF => exact (fun _ _ => trivial)); (case aO => exact (by (with_reducible repeat (first | apply Kd.R_alloc | apply Kd.R_drewN | apply Kd.R_drew)); exact HO_8.out)); (case aS => exact (below_size blA)); (case aL => have := LMc11.out; omega); intro v596 w13 ho hb hg hat; rw [← Ny595.out] at ho; have n0_ := Aside0.mk (blk_grown (bkA BK587) hg (Kd.R_ne HO_8.out BK587.out (by decide))); have n1_ := Aside0.mk (blk_grown (bkA BK588) hg (Kd.R_ne HO_8.out BK588.out (by decide))); have n2_ := Aside0.mk (hb); have n3_ := Aside0.mk (ho); clear BK587; clear BK588; clear HB; clear HO_8; have BK587 := n0_; have BK588 := n1_; have HB := n2_; have HO597 := n3_; clear n0_ n1_ n2_ n3_; clear ho hb hg hat) | ((with_reducible refine gate_callee (f := 91) rfl ?_); refine goesL_ (some 24) rfl rfl Try.func91 (by kernel_rfl) rfl #[.int .i64 a0, .int .i64 x9_1] rfl (by (try simp only [List.map_toArray, List.map_cons, List.map_nil]); first | done | rfl | (simp only [List.length_drop, List.length_take]; rfl)) ?_; (with_reducible refine (spec_l07Parent.calls a0 x9_1 t598 _ A12.out).mono ?_); rintro e w' ⟨rfl, ⟨nd, rfl⟩⟩; refine ⟨_, rfl, ?_⟩))
          go_roundg k1
          case measure => have := HK1.out; omega
          case rel => exact ⟨(y595), (t598), (by first | rfl | (simp; done) | (simp [*]; done)), H', ⟨by have := HK1.out; omega⟩, ⟨by (with_reducible repeat (first | apply Kd.R_alloc | apply Kd.R_drewN | apply Kd.R_drew)); exact HO597.out⟩, ⟨bkA BK587⟩, ⟨bkA BK588⟩, ⟨blA⟩⟩
        · rw [if_neg c11] at H
          exact absurd H (by simp)
      · rw [if_neg c8] at H
        have c8b0 : decide (0 < x9_1) = false := decide_eq_false c8
        clear c8
        have H' := Aside0.mk H
        clear H
        have hnb14 := NB587_588.out
        have hnc14 := NB588_587.out
        have hcz15_0 : wr.cell? ⟨gb587, 0, none⟩ = some (.int .i64 a1_0) := (blk_cell BK587.out 0).trans rfl
        have hcz15_1 : wr.cell? ⟨gb587, 1, none⟩ = some (.int .i64 a1_1) := (blk_cell BK587.out 1).trans rfl
        have hcz15_2 : wr.cell? ⟨gb587, 2, none⟩ = some (.int .i64 a1_2) := (blk_cell BK587.out 2).trans rfl
        have hfz15_0 := blk_frozen BK587.out 0
        have hfz15_1 := blk_frozen BK587.out 1
        have hfz15_2 := blk_frozen BK587.out 2
        go_wp2_with (first | ((with_reducible refine gate_dst (N := 12) rfl ?_); refine box_event ?hg (N := 12) ?hd (cs := #[.int .i64 0, .int .i64 0, .int .i64 0]) (t := 34) ?hr ?_; (case hd => rfl); (case hg => rfl); (case hr => first | (go_simp; done) | (go_simp; rfl)); intro gb599 hg w16 hbox hb; have n0_ := Aside0.mk (Kd.R_below (by (with_reducible repeat (first | apply Kd.R_alloc | apply Kd.R_drewN | apply Kd.R_drew)); exact HO_8.out) hb); have n1_ := Aside0.mk (blk_below (bkA BK587) hb); have n2_ := Aside0.mk (blk_below (bkA BK588) hb); have n3_ := Aside0.mk (below_step blA hb); have n4_ := Aside0.mk (hbox); have n5_ := Aside0.mk (szA hg blA); have n6_ := Aside0.mk (szA hg blA); have n7_ := Aside0.mk (neA hg (bkA BK587)); have n8_ := Aside0.mk (neB hg (bkA BK587)); have n9_ := Aside0.mk (neA hg (bkA BK588)); have n10_ := Aside0.mk (neB hg (bkA BK588)); clear HO_8; clear BK587; clear BK588; clear HB; have HO_8 := n0_; have BK587 := n1_; have BK588 := n2_; have HB := n3_; have BK599 := n4_; have GW599 := n5_; have GE599 := n6_; have NB587_599 := n7_; have NB599_587 := n8_; have NB588_599 := n9_; have NB599_588 := n10_; clear n0_ n1_ n2_ n3_ n4_ n5_ n6_ n7_ n8_ n9_ n10_; clear hb hbox hg) | ((with_reducible refine gate_dst (N := 13) rfl ?_); refine box_event ?hg (N := 13) ?hd (cs := #[.int .i64 0, .int .i64 0, .int .i64 0]) (t := 34) ?hr ?_; (case hd => rfl); (case hg => rfl); (case hr => first | (go_simp; done) | (go_simp; rfl)); intro gb600 hg w17 hbox hb; have n0_ := Aside0.mk (Kd.R_below (by (with_reducible repeat (first | apply Kd.R_alloc | apply Kd.R_drewN | apply Kd.R_drew)); exact HO_8.out) hb); have n1_ := Aside0.mk (blk_below (bkA BK587) hb); have n2_ := Aside0.mk (blk_below (bkA BK588) hb); have n3_ := Aside0.mk (blk_below (bkA BK599) hb); have n4_ := Aside0.mk (below_step blA hb); have n5_ := Aside0.mk (hbox); have n6_ := Aside0.mk (szA hg blA); have n7_ := Aside0.mk (szA hg blA); have n8_ := Aside0.mk (neA hg (bkA BK587)); have n9_ := Aside0.mk (neB hg (bkA BK587)); have n10_ := Aside0.mk (neA hg (bkA BK588)); have n11_ := Aside0.mk (neB hg (bkA BK588)); have n12_ := Aside0.mk (neA hg (bkA BK599)); have n13_ := Aside0.mk (neB hg (bkA BK599)); clear HO_8; clear BK587; clear BK588; clear BK599; clear HB; have HO_8 := n0_; have BK587 := n1_; have BK588 := n2_; have BK599 := n3_; have HB := n4_; have BK600 := n5_; have GW600 := n6_; have GE600 := n7_; have NB587_600 := n8_; have NB600_587 := n9_; have NB588_600 := n10_; have NB600_588 := n11_; have NB599_600 := n12_; have NB600_599 := n13_; clear n0_ n1_ n2_ n3_ n4_ n5_ n6_ n7_ n8_ n9_ n10_ n11_ n12_ n13_; clear hb hbox hg; have hnb18 := NB599_587.out; have hnc18 := NB587_599.out; have hnb19 := NB599_588.out; have hnc19 := NB588_599.out; have hnb20 := NB599_600.out; have hnc20 := NB600_599.out; have hcz21_0 : w17.cell? ⟨gb599, 0, none⟩ = some (.int .i64 0) := (blk_cell BK599.out 0).trans rfl; have hcz21_1 : w17.cell? ⟨gb599, 1, none⟩ = some (.int .i64 0) := (blk_cell BK599.out 1).trans rfl; have hcz21_2 : w17.cell? ⟨gb599, 2, none⟩ = some (.int .i64 0) := (blk_cell BK599.out 2).trans rfl; have hfz21_0 := blk_frozen BK599.out 0; have hfz21_1 := blk_frozen BK599.out 1; have hfz21_2 := blk_frozen BK599.out 2; have hnb22 := NB600_587.out; have hnc22 := NB587_600.out; have hnb23 := NB600_588.out; have hnc23 := NB588_600.out; have hcz24_0 : w17.cell? ⟨gb600, 0, none⟩ = some (.int .i64 0) := (blk_cell BK600.out 0).trans rfl; have hcz24_1 : w17.cell? ⟨gb600, 1, none⟩ = some (.int .i64 0) := (blk_cell BK600.out 1).trans rfl; have hcz24_2 : w17.cell? ⟨gb600, 2, none⟩ = some (.int .i64 0) := (blk_cell BK600.out 2).trans rfl; have hfz24_0 := blk_frozen BK600.out 0; have hfz24_1 := blk_frozen BK600.out 1; have hfz24_2 := blk_frozen BK600.out 2; obtain ⟨Ao25, co25, eo25⟩ := Kd.R_slice HO_8.out; subst eo25))
        go_loopg [14, 15] k1 (fun kq v14 v15 w' => ∃ (x14_2 : Bool) (x15_2 : Int) (x589000_2 : Int) (x589001_2 : Int) (x589002_2 : Int) (x600000_2 : Int) (x600001_2 : Int) (x600002_2 : Int) (x601000_2 : Int) (x601001_2 : Int) (x601002_2 : Int), v14 = .bool x14_2 ∧ v15 = .int .i64 x15_2 ∧ Aside0 (spec_l07Ball.l1 kq a0 x8_1 x14_2 x15_2 x600000_2 x600001_2 x600002_2 x601000_2 x601001_2 x601002_2 = some (r1, r2, r3, r4)) ∧ Aside0 (kq ≤ k1) ∧ Aside0 (Kd.R (Kd.int .i64) 2 w' w.heap.size (fun _ => True) (.slice Ao25 x8_1.length co25) x8_1) ∧ Aside0 (w'.heap[gb587]? = some (.cells #[.int .i64 a1_0, .int .i64 a1_1, .int .i64 a1_2] 34 (0, 0))) ∧ Aside0 (w'.heap[gb588]? = some (.cells #[.int .i64 x589000_2, .int .i64 x589001_2, .int .i64 x589002_2] 34 (0, 0))) ∧ Aside0 (w'.heap[gb599]? = some (.cells #[.int .i64 x600000_2, .int .i64 x600001_2, .int .i64 x600002_2] 34 (0, 0))) ∧ Aside0 (w'.heap[gb600]? = some (.cells #[.int .i64 x601000_2, .int .i64 x601001_2, .int .i64 x601002_2] 34 (0, 0))) ∧ Aside0 (Below w.heap.size w w'))
        case atStart => exact ⟨(false), (wrap64 ((x8_1.length : Int) - 1)), (0), (0), (0), (a1_0), (a1_1), (a1_2), (0), (0), (0), (by first | rfl | (simp; done) | (simp [*]; done)), (by first | rfl | (simp; done) | (simp [*]; done)), H', ⟨Nat.le_refl _⟩, ⟨by (with_reducible repeat (first | apply Kd.R_alloc | apply Kd.R_drewN | apply Kd.R_drew)); exact Kd.R_mono (Kd.R_far (p := ⟨gb600, 2, none⟩) (Kd.R_far (p := ⟨gb600, 1, none⟩) (Kd.R_far (p := ⟨gb600, 0, none⟩) (Kd.R_far (p := ⟨gb599, 2, none⟩) (Kd.R_far (p := ⟨gb599, 1, none⟩) (Kd.R_far (p := ⟨gb599, 0, none⟩) (Kd.R_types (Kd.R_types HO_8.out BK599.out (by decide)) BK600.out (by decide)) (fun _ hk => hk.1.2) (.int .i64 a1_0)) (fun _ hk => hk.1.2) (.int .i64 a1_1)) (fun _ hk => hk.1.2) (.int .i64 a1_2)) (fun _ hk => hk.2) (.int .i64 0)) (fun _ hk => hk.2) (.int .i64 0)) (fun _ hk => hk.2) (.int .i64 0)) (fun _ hk => trivial)⟩, ⟨by (with_reducible repeat (first | refine blk_drewN ?_ _ | refine blk_drew ?_ | refine blk_alloc ?_ _)); refine blk_far ?_ NB587_600.out _; (with_reducible repeat (first | refine blk_drewN ?_ _ | refine blk_drew ?_ | refine blk_alloc ?_ _)); refine blk_far ?_ NB587_600.out _; (with_reducible repeat (first | refine blk_drewN ?_ _ | refine blk_drew ?_ | refine blk_alloc ?_ _)); refine blk_far ?_ NB587_600.out _; (with_reducible repeat (first | refine blk_drewN ?_ _ | refine blk_drew ?_ | refine blk_alloc ?_ _)); refine blk_far ?_ NB587_599.out _; (with_reducible repeat (first | refine blk_drewN ?_ _ | refine blk_drew ?_ | refine blk_alloc ?_ _)); refine blk_far ?_ NB587_599.out _; (with_reducible repeat (first | refine blk_drewN ?_ _ | refine blk_drew ?_ | refine blk_alloc ?_ _)); refine blk_far ?_ NB587_599.out _; (with_reducible repeat (first | refine blk_drewN ?_ _ | refine blk_drew ?_ | refine blk_alloc ?_ _)); exact BK587.out⟩, ⟨by (with_reducible repeat (first | refine blk_drewN ?_ _ | refine blk_drew ?_ | refine blk_alloc ?_ _)); refine blk_far ?_ NB588_600.out _; (with_reducible repeat (first | refine blk_drewN ?_ _ | refine blk_drew ?_ | refine blk_alloc ?_ _)); refine blk_far ?_ NB588_600.out _; (with_reducible repeat (first | refine blk_drewN ?_ _ | refine blk_drew ?_ | refine blk_alloc ?_ _)); refine blk_far ?_ NB588_600.out _; (with_reducible repeat (first | refine blk_drewN ?_ _ | refine blk_drew ?_ | refine blk_alloc ?_ _)); refine blk_far ?_ NB588_599.out _; (with_reducible repeat (first | refine blk_drewN ?_ _ | refine blk_drew ?_ | refine blk_alloc ?_ _)); refine blk_far ?_ NB588_599.out _; (with_reducible repeat (first | refine blk_drewN ?_ _ | refine blk_drew ?_ | refine blk_alloc ?_ _)); refine blk_far ?_ NB588_599.out _; (with_reducible repeat (first | refine blk_drewN ?_ _ | refine blk_drew ?_ | refine blk_alloc ?_ _)); exact BK588.out⟩, ⟨by (with_reducible repeat (first | refine blk_drewN ?_ _ | refine blk_drew ?_ | refine blk_alloc ?_ _)); refine blk_far ?_ NB599_600.out _; (with_reducible repeat (first | refine blk_drewN ?_ _ | refine blk_drew ?_ | refine blk_alloc ?_ _)); refine blk_far ?_ NB599_600.out _; (with_reducible repeat (first | refine blk_drewN ?_ _ | refine blk_drew ?_ | refine blk_alloc ?_ _)); refine blk_far ?_ NB599_600.out _; (with_reducible repeat (first | refine blk_drewN ?_ _ | refine blk_drew ?_ | refine blk_alloc ?_ _)); refine blk_put (cs := #[.int .i64 a1_0, .int .i64 a1_1, .int .i64 0]) ?_ 2 _ rfl; (with_reducible repeat (first | refine blk_drewN ?_ _ | refine blk_drew ?_ | refine blk_alloc ?_ _)); refine blk_put (cs := #[.int .i64 a1_0, .int .i64 0, .int .i64 0]) ?_ 1 _ rfl; (with_reducible repeat (first | refine blk_drewN ?_ _ | refine blk_drew ?_ | refine blk_alloc ?_ _)); refine blk_put (cs := #[.int .i64 0, .int .i64 0, .int .i64 0]) ?_ 0 _ rfl; (with_reducible repeat (first | refine blk_drewN ?_ _ | refine blk_drew ?_ | refine blk_alloc ?_ _)); exact BK599.out⟩, ⟨by (with_reducible repeat (first | refine blk_drewN ?_ _ | refine blk_drew ?_ | refine blk_alloc ?_ _)); refine blk_put (cs := #[.int .i64 0, .int .i64 0, .int .i64 0]) ?_ 2 _ rfl; (with_reducible repeat (first | refine blk_drewN ?_ _ | refine blk_drew ?_ | refine blk_alloc ?_ _)); refine blk_put (cs := #[.int .i64 0, .int .i64 0, .int .i64 0]) ?_ 1 _ rfl; (with_reducible repeat (first | refine blk_drewN ?_ _ | refine blk_drew ?_ | refine blk_alloc ?_ _)); refine blk_put (cs := #[.int .i64 0, .int .i64 0, .int .i64 0]) ?_ 0 _ rfl; (with_reducible repeat (first | refine blk_drewN ?_ _ | refine blk_drew ?_ | refine blk_alloc ?_ _)); refine blk_far ?_ NB600_599.out _; (with_reducible repeat (first | refine blk_drewN ?_ _ | refine blk_drew ?_ | refine blk_alloc ?_ _)); refine blk_far ?_ NB600_599.out _; (with_reducible repeat (first | refine blk_drewN ?_ _ | refine blk_drew ?_ | refine blk_alloc ?_ _)); refine blk_far ?_ NB600_599.out _; (with_reducible repeat (first | refine blk_drewN ?_ _ | refine blk_drew ?_ | refine blk_alloc ?_ _)); exact BK600.out⟩, ⟨blA⟩⟩
        case round =>
          clear H'
          try clear c1
          try clear c2
          try clear p2
          try clear c6
          try clear p6
          try clear c7
          try clear c8
          try clear c8b0
          try clear c9
          try clear c11
          try clear c14
          try clear c18
          try clear c19
          try clear c20
          try clear c22
          try clear c23
          try clear hcz15_0
          try clear hcz15_1
          try clear hcz15_2
          try clear hcz21_0
          try clear hcz21_1
          try clear hcz21_2
          try clear hcz24_0
          try clear hcz24_1
          try clear hcz24_2
          try clear hfz15_0
          try clear hfz15_1
          try clear hfz15_2
          try clear hfz21_0
          try clear hfz21_1
          try clear hfz21_2
          try clear hfz24_0
          try clear hfz24_1
          try clear hfz24_2
          try clear p2
          obtain ⟨x14_2, x15_2, x589000_2, x589001_2, x589002_2, x600000_2, x600001_2, x600002_2, x601000_2, x601001_2, x601002_2, rfl, rfl, HA, HK2, HO_8, BK587, BK588, BK599, BK600, HB⟩ := hrel
          cases gk with
          | zero => exact absurd HA.out (by simp [spec_l07Ball.l1])
          | succ k2 =>
            have H := HA.out
            clear HA
            simp only [spec_l07Ball.l1] at H
            by_cases c26 : x15_2 ≥ 0
            · rw [if_pos c26] at H
              have c26b0 : decide (0 ≤ x15_2) = true := decide_eq_true c26
              clear c26
              by_cases c27 : 0 ≤ x15_2
              · rw [if_pos c27] at H
                have c27b0 : decide (0 ≤ x15_2) = true := decide_eq_true c27
                clear c27
                by_cases c28 : x15_2 < (x8_1.length : Int)
                · rw [if_pos c28] at H
                  have c28b0 : decide (x15_2 < (x8_1.length : Int)) = true := decide_eq_true c28
                  clear c28
                  replace H := Option.bind_eq_some_iff.mp H
                  obtain ⟨⟨t602, t603, t604, t605⟩, A290, H⟩ := H
                  replace H : (if t605 = true then (spec_l07Ball.l1 k2 a0 x8_1 true (wrap64 (x15_2 - 1)) t602 t603 t604 x600000_2 x600001_2 x600002_2) else (some (0, 0, 0, false))) = some (r1, r2, r3, r4) := H
                  have A29 := Aside0.mk A290
                  clear A290
                  by_cases c30 : t605 = true
                  · subst c30
                    have H1 : (spec_l07Ball.l1 k2 a0 x8_1 true (wrap64 (x15_2 - 1)) t602 t603 t604 x600000_2 x600001_2 x600002_2) = some (r1, r2, r3, r4) := by rw [if_pos rfl] at H; exact H
                    clear H
                    have H := H1
                    clear H1
                    have H' := Aside0.mk H
                    clear H
                    try go_wp2
                    have n0_ := Aside0.mk (Kd.R_drew HO_8.out)
                    have n1_ := Aside0.mk (blk_drew BK587.out)
                    have n2_ := Aside0.mk (blk_drew BK588.out)
                    have n3_ := Aside0.mk (blk_drew BK599.out)
                    have n4_ := Aside0.mk (blk_drew BK600.out)
                    have n5_ := Aside0.mk (below_drew1 HB.out)
                    clear HO_8
                    clear BK587
                    clear BK588
                    clear BK599
                    clear BK600
                    clear HB
                    have HO_8 := n0_
                    have BK587 := n1_
                    have BK588 := n2_
                    have BK599 := n3_
                    have BK600 := n4_
                    have HB := n5_
                    clear n0_ n1_ n2_ n3_ n4_ n5_
                    have p601 : 0 ≤ (x15_2 : Int) := of_decide_eq_true (by first | (with_reducible assumption) | assumption)
                    have q601 : x15_2 < (x8_1.length : Int) := of_decide_eq_true (by first | (with_reducible assumption) | assumption)
                    obtain ⟨ad601, e601, hx601_0⟩ := Kd.at_int (Kd.R_reads' HO_8.out).2.2 x15_2 p601 q601
                    cases e601
                    replace p601 := eq_true p601
                    replace q601 := eq_true q601
                    refine start_ (n := 15) (S := fun w' => w'.cell? ⟨gb599, 0, none⟩ = some (.int .i64 x600000_2) ∧ w'.cell? ⟨gb599, 1, none⟩ = some (.int .i64 x600001_2) ∧ w'.cell? ⟨gb599, 2, none⟩ = some (.int .i64 x600002_2) ∧ w'.cell? ⟨gb600, 0, none⟩ = some (.int .i64 x601000_2) ∧ w'.cell? ⟨gb600, 1, none⟩ = some (.int .i64 x601001_2) ∧ w'.cell? ⟨gb600, 2, none⟩ = some (.int .i64 x601002_2) ∧ w'.cell? (ad601.add (x15_2).toNat) = some (.int .i64 (rd x8_1 x15_2))) (ds := []) #[false, false, false, false, false, false, false, false, false, false, false, false, false, false, false] (by kernel_rfl) rfl rfl ⟨(blk_cell BK599.out 0).trans rfl, (blk_cell BK599.out 1).trans rfl, (blk_cell BK599.out 2).trans rfl, (blk_cell BK600.out 0).trans rfl, (blk_cell BK600.out 1).trans rfl, (blk_cell BK600.out 2).trans rfl, hx601_0⟩ (fun hHeld => ?_); refine with_tabW spec_l07Ball.tab11 spec_l07Ball.bits11 (fun HT_ HW_ => ?_)
                    generalize wr.drew = w31 at HO_8 BK587 BK588 BK599 BK600 HB hx601_0 hHeld ⊢
                    refine pure_ (i := 0) (N := some 49) (v := ?_) (a' := ?_) #[true, false, false, false, false, false, false, false, false, false, false, false, false, false, false] rfl rfl (any_of HT_.out (by kernel_rfl)) (fun _ _ _ h => h) (Or.inl ⟨by rfl, ?_⟩) ?_ ?_
                    rotate_left
                    · intro w'
                      go_simp
                      with_reducible rfl
                    rotate_left
                    · simp only [Act.put, List.setIfInBounds_toArray, List.set_cons_zero, List.set_cons_succ, i64_w, i32_w]
                      rfl
                    refine pure_ (i := 3) (N := some 52) (v := ?_) (a' := ?_) #[true, false, false, true, false, false, false, false, false, false, false, false, false, false, false] rfl rfl (any_of HT_.out (by kernel_rfl)) (fun _ _ _ h => h) (Or.inl ⟨by rfl, ?_⟩) ?_ ?_
                    rotate_left
                    · intro w'
                      go_simp
                      with_reducible rfl
                    rotate_left
                    · simp only [Act.put, List.setIfInBounds_toArray, List.set_cons_zero, List.set_cons_succ, i64_w, i32_w]
                      rfl
                    refine pure_ (i := 4) (N := some 53) (v := ?_) (a' := ?_) #[true, false, false, true, true, false, false, false, false, false, false, false, false, false, false] rfl rfl (any_of HT_.out (by kernel_rfl)) (fun _ _ _ h => h) (Or.inl ⟨by rfl, ?_⟩) ?_ ?_
                    rotate_left
                    · intro w'
                      go_simp
                      with_reducible rfl
                    rotate_left
                    · simp only [Act.put, List.setIfInBounds_toArray, List.set_cons_zero, List.set_cons_succ, i64_w, i32_w]
                      rfl
                    refine pure_ (i := 5) (N := some 54) (v := ?_) (a' := ?_) #[true, false, false, true, true, true, false, false, false, false, false, false, false, false, false] rfl rfl (any_of HT_.out (by kernel_rfl)) (fun _ _ _ h => h) (Or.inl ⟨by rfl, ?_⟩) ?_ ?_
                    rotate_left
                    · intro w'
                      go_simp
                      with_reducible rfl
                    rotate_left
                    · simp only [Act.put, List.setIfInBounds_toArray, List.set_cons_zero, List.set_cons_succ, i64_w, i32_w]
                      rfl
                    refine pure_ (i := 6) (N := some 55) (v := ?_) (a' := ?_) #[true, false, false, true, true, true, true, false, false, false, false, false, false, false, false] rfl rfl (any_of HT_.out (by kernel_rfl)) (fun _ _ _ h => h) (Or.inl ⟨by rfl, ?_⟩) ?_ ?_
                    rotate_left
                    · intro w'
                      go_simp
                      with_reducible rfl
                    rotate_left
                    · simp only [Act.put, List.setIfInBounds_toArray, List.set_cons_zero, List.set_cons_succ, i64_w, i32_w]
                      rfl
                    refine take_ (i := 1) (N := some 50) (v := ?_) (a' := ?_) #[true, true, false, true, true, true, true, false, false, false, false, false, false, false, false] rfl rfl (take_ofW HT_.out HW_.out (by kernel_rfl)) (fun _ _ _ h => h) (Or.inl ⟨by rfl, ?_⟩) hHeld ?_ ?_
                    rotate_left
                    · rintro w' ⟨s0, s1, s2, s3, s4, s5, s6⟩
                      go_simp
                      with_reducible rfl
                    rotate_left
                    · simp only [Act.put, List.setIfInBounds_toArray, List.set_cons_zero, List.set_cons_succ, i64_w, i32_w]
                      rfl
                    refine take_ (i := 2) (N := some 51) (v := ?_) (a' := ?_) #[true, true, true, true, true, true, true, false, false, false, false, false, false, false, false] rfl rfl (take_ofW HT_.out HW_.out (by kernel_rfl)) (fun _ _ _ h => h) (Or.inl ⟨by rfl, ?_⟩) hHeld ?_ ?_
                    rotate_left
                    · rintro w' ⟨s0, s1, s2, s3, s4, s5, s6⟩
                      go_simp
                      with_reducible rfl
                    rotate_left
                    · simp only [Act.put, List.setIfInBounds_toArray, List.set_cons_zero, List.set_cons_succ, i64_w, i32_w]
                      rfl
                    refine take_ (i := 7) (N := some 56) (v := ?_) (a' := ?_) #[true, true, true, true, true, true, true, true, false, false, false, false, false, false, false] rfl rfl (take_ofW HT_.out HW_.out (by kernel_rfl)) (fun _ _ _ h => h) (Or.inl ⟨by rfl, ?_⟩) hHeld ?_ ?_
                    rotate_left
                    · rintro w' ⟨s0, s1, s2, s3, s4, s5, s6⟩
                      go_simp
                      with_reducible rfl
                    rotate_left
                    · simp only [Act.put, List.setIfInBounds_toArray, List.set_cons_zero, List.set_cons_succ, i64_w, i32_w]
                      rfl
                    refine join_ (σ := Nat) 2 #[true, true, true, true, true, true, true, true, true, true, true, true, true, false, false] (fun s_ => [(57, .tuple #[.agg #[.int .i64 t602, .int .i64 t603, .int .i64 t604], .bool true]), (16, .pointer (some ⟨s_, 0, none⟩)), (48, .tuple #[.agg #[.int .i64 t602, .int .i64 t603, .int .i64 t604], .bool true]), (58, .agg #[.int .i64 t602, .int .i64 t603, .int .i64 t604]), (59, .bool true)]) (fun s_ w' => (w'.cell? ⟨gb599, 0, none⟩ = some (.int .i64 x600000_2) ∧ w'.cell? ⟨gb599, 1, none⟩ = some (.int .i64 x600001_2) ∧ w'.cell? ⟨gb599, 2, none⟩ = some (.int .i64 x600002_2) ∧ w'.cell? ⟨gb600, 0, none⟩ = some (.int .i64 x601000_2) ∧ w'.cell? ⟨gb600, 1, none⟩ = some (.int .i64 x601001_2) ∧ w'.cell? ⟨gb600, 2, none⟩ = some (.int .i64 x601002_2) ∧ w'.cell? (ad601.add (x15_2).toNat) = some (.int .i64 (rd x8_1 x15_2))) ∧ (Kd.R (Kd.int .i64) 2 w' w.heap.size (fun _ => True) (.slice (some ad601) x8_1.length co25) x8_1) ∧ (w'.heap[gb587]? = some (.cells #[.int .i64 a1_0, .int .i64 a1_1, .int .i64 a1_2] 34 (0, 0))) ∧ (w'.heap[gb588]? = some (.cells #[.int .i64 x589000_2, .int .i64 x589001_2, .int .i64 x589002_2] 34 (0, 0))) ∧ (w'.heap[gb599]? = some (.cells #[.int .i64 x600000_2, .int .i64 x600001_2, .int .i64 x600002_2] 34 (0, 0))) ∧ (w'.heap[gb600]? = some (.cells #[.int .i64 x601000_2, .int .i64 x601001_2, .int .i64 x601002_2] 34 (0, 0))) ∧ (w'.heap[s_]? = some (.cells #[.int .i64 0, .int .i64 0, .int .i64 0] 34 (0, 0))) ∧ (w.heap.size ≤ s_) ∧ (w.heap.size ≤ s_) ∧ (gb587 ≠ s_) ∧ (s_ ≠ gb587) ∧ (gb588 ≠ s_) ∧ (s_ ≠ gb588) ∧ (gb599 ≠ s_) ∧ (s_ ≠ gb599) ∧ (gb600 ≠ s_) ∧ (s_ ≠ gb600) ∧ (Below w.heap.size w w')) ?_ ?_
                    rotate_left
                    · intro hCont
                      refine two_ (i := 8) (j := 12) (Ni := some 57) (Nj := some 16) #[true, true, true, true, true, true, true, true, true, false, false, false, false, false, false] #[true, true, true, true, true, true, true, true, false, false, false, false, true, false, false] rfl rfl rfl rfl (two_of HT_.out (by kernel_rfl)) (by decide) (by decide) (fun K hK => ?_) (fun K hK => ?_)
                      · skip
                        refine goes_ Try.func68 (by kernel_rfl) rfl #[.int .i64 a0, .agg #[.int .i64 x600000_2, .int .i64 x600001_2, .int .i64 x600002_2], .agg #[.int .i64 x601000_2, .int .i64 x601001_2, .int .i64 x601002_2], .bool x14_2, .int .i64 (rd x8_1 x15_2)] (by rfl) rfl rfl (by (try simp only [List.map_toArray, List.map_cons, List.map_nil]); first | done | rfl | (simp only [List.length_drop, List.length_take]; rfl)) ?_
                        with_reducible refine (spec_l07Next.calls k2 a0 x600000_2 x600001_2 x600002_2 x601000_2 x601001_2 x601002_2 x14_2 (rd x8_1 x15_2) t602 t603 t604 true _ A29.out).mono ?_
                        rintro e w32 ⟨rfl, hb⟩
                        have HS6_ := (hb.cell (World.block_lt_of_cell? _ _ (hHeld.2.2.2.2.2.2))).trans (hHeld.2.2.2.2.2.2)
                        refine ⟨_, rfl, ?_⟩
                        have n0_ := Aside0.mk (Kd.R_below (by (with_reducible repeat (first | apply Kd.R_alloc | apply Kd.R_drewN | apply Kd.R_drew)); exact HO_8.out) hb)
                        have n1_ := Aside0.mk (blk_below (bkA BK587) hb)
                        have n2_ := Aside0.mk (blk_below (bkA BK588) hb)
                        have n3_ := Aside0.mk (blk_below (bkA BK599) hb)
                        have n4_ := Aside0.mk (blk_below (bkA BK600) hb)
                        have n5_ := Aside0.mk (below_step blA hb)
                        clear HO_8
                        clear BK587
                        clear BK588
                        clear BK599
                        clear BK600
                        clear HB
                        have HO_8 := n0_
                        have BK587 := n1_
                        have BK588 := n2_
                        have BK599 := n3_
                        have BK600 := n4_
                        have HB := n5_
                        clear n0_ n1_ n2_ n3_ n4_ n5_
                        (try clear hb)
                        (try clear hb2)
                        (try clear hk)
                        (try clear hi)
                        refine hK.out _ _ ⟨(blk_cell BK599.out 0).trans rfl, (blk_cell BK599.out 1).trans rfl, (blk_cell BK599.out 2).trans rfl, (blk_cell BK600.out 0).trans rfl, (blk_cell BK600.out 1).trans rfl, (blk_cell BK600.out 2).trans rfl, HS6_⟩ (fun hHeld => ?_)
                        clear hK K
                        refine norm_ (a' := ?_) ?_ ?_
                        rotate_left
                        · show Act.put _ (some 57) _ = _
                          simp only [Act.put, List.setIfInBounds_toArray, List.set_cons_zero, List.set_cons_succ, i64_w, i32_w]
                          rfl
                        refine pure_ (i := 9) (N := some 48) (v := ?_) (a' := ?_) #[true, true, true, true, true, true, true, true, true, true, false, false, false, false, false] rfl rfl (any_of HT_.out (by kernel_rfl)) (fun _ _ _ h => h) (Or.inl ⟨by rfl, ?_⟩) ?_ ?_
                        rotate_left
                        · intro w'
                          go_simp
                          with_reducible rfl
                        rotate_left
                        · simp only [Act.put, List.setIfInBounds_toArray, List.set_cons_zero, List.set_cons_succ, i64_w, i32_w]
                          rfl
                        refine pure_ (i := 10) (N := some 58) (v := ?_) (a' := ?_) #[true, true, true, true, true, true, true, true, true, true, true, false, false, false, false] rfl rfl (any_of HT_.out (by kernel_rfl)) (fun _ _ _ h => h) (Or.inl ⟨by rfl, ?_⟩) ?_ ?_
                        rotate_left
                        · intro w'
                          go_simp
                          with_reducible rfl
                        rotate_left
                        · simp only [Act.put, List.setIfInBounds_toArray, List.set_cons_zero, List.set_cons_succ, i64_w, i32_w]
                          rfl
                        refine pure_ (i := 11) (N := some 59) (v := ?_) (a' := ?_) #[true, true, true, true, true, true, true, true, true, true, true, true, false, false, false] rfl rfl (any_of HT_.out (by kernel_rfl)) (fun _ _ _ h => h) (Or.inl ⟨by rfl, ?_⟩) ?_ ?_
                        rotate_left
                        · intro w'
                          go_simp
                          with_reducible rfl
                        rotate_left
                        · simp only [Act.put, List.setIfInBounds_toArray, List.set_cons_zero, List.set_cons_succ, i64_w, i32_w]
                          rfl
                        refine one_ (i := 12) (N := some 16) #[true, true, true, true, true, true, true, true, true, true, true, true, true, false, false] rfl rfl (one_of HT_.out (by kernel_rfl)) (by decide) (fun K hK => ?_)
                        refine box_step ?hg (N := 16) ?hd (cs := #[.int .i64 0, .int .i64 0, .int .i64 0]) (t := 34) ?hr ?_; (case hd => rfl); (case hg => rfl); (case hr => first | (go_simp; done) | (go_simp; rfl))
                        intro gb606 hg w33 hbox hb
                        have HS6_ := (hb.cell (World.block_lt_of_cell? _ _ (hHeld.2.2.2.2.2.2))).trans (hHeld.2.2.2.2.2.2)
                        have n0_ := Aside0.mk (Kd.R_below (by (with_reducible repeat (first | apply Kd.R_alloc | apply Kd.R_drewN | apply Kd.R_drew)); exact HO_8.out) hb)
                        have n1_ := Aside0.mk (blk_below (bkA BK587) hb)
                        have n2_ := Aside0.mk (blk_below (bkA BK588) hb)
                        have n3_ := Aside0.mk (blk_below (bkA BK599) hb)
                        have n4_ := Aside0.mk (blk_below (bkA BK600) hb)
                        have n5_ := Aside0.mk (below_step blA hb)
                        have n6_ := Aside0.mk (hbox)
                        have n7_ := Aside0.mk (szA hg blA)
                        have n8_ := Aside0.mk (szA hg blA)
                        have n9_ := Aside0.mk (neA hg (bkA BK587))
                        have n10_ := Aside0.mk (neB hg (bkA BK587))
                        have n11_ := Aside0.mk (neA hg (bkA BK588))
                        have n12_ := Aside0.mk (neB hg (bkA BK588))
                        have n13_ := Aside0.mk (neA hg (bkA BK599))
                        have n14_ := Aside0.mk (neB hg (bkA BK599))
                        have n15_ := Aside0.mk (neA hg (bkA BK600))
                        have n16_ := Aside0.mk (neB hg (bkA BK600))
                        clear HO_8
                        clear BK587
                        clear BK588
                        clear BK599
                        clear BK600
                        clear HB
                        have HO_8 := n0_
                        have BK587 := n1_
                        have BK588 := n2_
                        have BK599 := n3_
                        have BK600 := n4_
                        have HB := n5_
                        have BK606 := n6_
                        have GW606 := n7_
                        have GE606 := n8_
                        have NB587_606 := n9_
                        have NB606_587 := n10_
                        have NB588_606 := n11_
                        have NB606_588 := n12_
                        have NB599_606 := n13_
                        have NB606_599 := n14_
                        have NB600_606 := n15_
                        have NB606_600 := n16_
                        clear n0_ n1_ n2_ n3_ n4_ n5_ n6_ n7_ n8_ n9_ n10_ n11_ n12_ n13_ n14_ n15_ n16_
                        clear hb hbox hg
                        refine hK.out _ _ ⟨(blk_cell BK599.out 0).trans rfl, (blk_cell BK599.out 1).trans rfl, (blk_cell BK599.out 2).trans rfl, (blk_cell BK600.out 0).trans rfl, (blk_cell BK600.out 1).trans rfl, (blk_cell BK600.out 2).trans rfl, HS6_⟩ (fun hHeld => ?_)
                        clear hK K
                        refine norm_ (a' := ?_) ?_ ?_
                        rotate_left
                        · show Act.put _ (some 16) _ = _
                          simp only [Act.put, List.setIfInBounds_toArray, List.set_cons_zero, List.set_cons_succ, i64_w, i32_w]
                          rfl
                        exact norm_ (by simp only [putAll, Act.put, List.setIfInBounds_toArray, List.set_cons_zero, List.set_cons_succ]) (hCont (gb606) _ ⟨hHeld, (by (with_reducible repeat (first | apply Kd.R_alloc | apply Kd.R_drewN | apply Kd.R_drew)); exact HO_8.out), (bkA BK587), (bkA BK588), (bkA BK599), (bkA BK600), (bkA BK606), GW606.out, GE606.out, NB587_606.out, NB606_587.out, NB588_606.out, NB606_588.out, NB599_606.out, NB606_599.out, NB600_606.out, NB606_600.out, blA⟩)
                      · skip
                        refine box_step ?hg (N := 16) ?hd (cs := #[.int .i64 0, .int .i64 0, .int .i64 0]) (t := 34) ?hr ?_; (case hd => rfl); (case hg => rfl); (case hr => first | (go_simp; done) | (go_simp; rfl))
                        intro gb606 hg w32 hbox hb
                        have HS6_ := (hb.cell (World.block_lt_of_cell? _ _ (hHeld.2.2.2.2.2.2))).trans (hHeld.2.2.2.2.2.2)
                        have n0_ := Aside0.mk (Kd.R_below (by (with_reducible repeat (first | apply Kd.R_alloc | apply Kd.R_drewN | apply Kd.R_drew)); exact HO_8.out) hb)
                        have n1_ := Aside0.mk (blk_below (bkA BK587) hb)
                        have n2_ := Aside0.mk (blk_below (bkA BK588) hb)
                        have n3_ := Aside0.mk (blk_below (bkA BK599) hb)
                        have n4_ := Aside0.mk (blk_below (bkA BK600) hb)
                        have n5_ := Aside0.mk (below_step blA hb)
                        have n6_ := Aside0.mk (hbox)
                        have n7_ := Aside0.mk (szA hg blA)
                        have n8_ := Aside0.mk (szA hg blA)
                        have n9_ := Aside0.mk (neA hg (bkA BK587))
                        have n10_ := Aside0.mk (neB hg (bkA BK587))
                        have n11_ := Aside0.mk (neA hg (bkA BK588))
                        have n12_ := Aside0.mk (neB hg (bkA BK588))
                        have n13_ := Aside0.mk (neA hg (bkA BK599))
                        have n14_ := Aside0.mk (neB hg (bkA BK599))
                        have n15_ := Aside0.mk (neA hg (bkA BK600))
                        have n16_ := Aside0.mk (neB hg (bkA BK600))
                        clear HO_8
                        clear BK587
                        clear BK588
                        clear BK599
                        clear BK600
                        clear HB
                        have HO_8 := n0_
                        have BK587 := n1_
                        have BK588 := n2_
                        have BK599 := n3_
                        have BK600 := n4_
                        have HB := n5_
                        have BK606 := n6_
                        have GW606 := n7_
                        have GE606 := n8_
                        have NB587_606 := n9_
                        have NB606_587 := n10_
                        have NB588_606 := n11_
                        have NB606_588 := n12_
                        have NB599_606 := n13_
                        have NB606_599 := n14_
                        have NB600_606 := n15_
                        have NB606_600 := n16_
                        clear n0_ n1_ n2_ n3_ n4_ n5_ n6_ n7_ n8_ n9_ n10_ n11_ n12_ n13_ n14_ n15_ n16_
                        clear hb hbox hg
                        refine hK.out _ _ ⟨(blk_cell BK599.out 0).trans rfl, (blk_cell BK599.out 1).trans rfl, (blk_cell BK599.out 2).trans rfl, (blk_cell BK600.out 0).trans rfl, (blk_cell BK600.out 1).trans rfl, (blk_cell BK600.out 2).trans rfl, HS6_⟩ (fun hHeld => ?_)
                        clear hK K
                        refine norm_ (a' := ?_) ?_ ?_
                        rotate_left
                        · show Act.put _ (some 16) _ = _
                          simp only [Act.put, List.setIfInBounds_toArray, List.set_cons_zero, List.set_cons_succ, i64_w, i32_w]
                          rfl
                        refine one_ (i := 8) (N := some 57) #[true, true, true, true, true, true, true, true, true, false, false, false, true, false, false] rfl rfl (one_of HT_.out (by kernel_rfl)) (by decide) (fun K hK => ?_)
                        refine goes_ Try.func68 (by kernel_rfl) rfl #[.int .i64 a0, .agg #[.int .i64 x600000_2, .int .i64 x600001_2, .int .i64 x600002_2], .agg #[.int .i64 x601000_2, .int .i64 x601001_2, .int .i64 x601002_2], .bool x14_2, .int .i64 (rd x8_1 x15_2)] (by rfl) rfl rfl (by (try simp only [List.map_toArray, List.map_cons, List.map_nil]); first | done | rfl | (simp only [List.length_drop, List.length_take]; rfl)) ?_
                        with_reducible refine (spec_l07Next.calls k2 a0 x600000_2 x600001_2 x600002_2 x601000_2 x601001_2 x601002_2 x14_2 (rd x8_1 x15_2) t602 t603 t604 true _ A29.out).mono ?_
                        rintro e w33 ⟨rfl, hb⟩
                        have HS6_ := (hb.cell (World.block_lt_of_cell? _ _ (hHeld.2.2.2.2.2.2))).trans (hHeld.2.2.2.2.2.2)
                        refine ⟨_, rfl, ?_⟩
                        have n0_ := Aside0.mk (Kd.R_below (by (with_reducible repeat (first | apply Kd.R_alloc | apply Kd.R_drewN | apply Kd.R_drew)); exact HO_8.out) hb)
                        have n1_ := Aside0.mk (blk_below (bkA BK587) hb)
                        have n2_ := Aside0.mk (blk_below (bkA BK588) hb)
                        have n3_ := Aside0.mk (blk_below (bkA BK599) hb)
                        have n4_ := Aside0.mk (blk_below (bkA BK600) hb)
                        have n5_ := Aside0.mk (blk_below (bkA BK606) hb)
                        have n6_ := Aside0.mk (below_step blA hb)
                        clear HO_8
                        clear BK587
                        clear BK588
                        clear BK599
                        clear BK600
                        clear BK606
                        clear HB
                        have HO_8 := n0_
                        have BK587 := n1_
                        have BK588 := n2_
                        have BK599 := n3_
                        have BK600 := n4_
                        have BK606 := n5_
                        have HB := n6_
                        clear n0_ n1_ n2_ n3_ n4_ n5_ n6_
                        (try clear hb)
                        (try clear hb2)
                        (try clear hk)
                        (try clear hi)
                        refine hK.out _ _ ⟨(blk_cell BK599.out 0).trans rfl, (blk_cell BK599.out 1).trans rfl, (blk_cell BK599.out 2).trans rfl, (blk_cell BK600.out 0).trans rfl, (blk_cell BK600.out 1).trans rfl, (blk_cell BK600.out 2).trans rfl, HS6_⟩ (fun hHeld => ?_)
                        clear hK K
                        refine norm_ (a' := ?_) ?_ ?_
                        rotate_left
                        · show Act.put _ (some 57) _ = _
                          simp only [Act.put, List.setIfInBounds_toArray, List.set_cons_zero, List.set_cons_succ, i64_w, i32_w]
                          rfl
                        refine pure_ (i := 9) (N := some 48) (v := ?_) (a' := ?_) #[true, true, true, true, true, true, true, true, true, true, false, false, true, false, false] rfl rfl (any_of HT_.out (by kernel_rfl)) (fun _ _ _ h => h) (Or.inl ⟨by rfl, ?_⟩) ?_ ?_
                        rotate_left
                        · intro w'
                          go_simp
                          with_reducible rfl
                        rotate_left
                        · simp only [Act.put, List.setIfInBounds_toArray, List.set_cons_zero, List.set_cons_succ, i64_w, i32_w]
                          rfl
                        refine pure_ (i := 10) (N := some 58) (v := ?_) (a' := ?_) #[true, true, true, true, true, true, true, true, true, true, true, false, true, false, false] rfl rfl (any_of HT_.out (by kernel_rfl)) (fun _ _ _ h => h) (Or.inl ⟨by rfl, ?_⟩) ?_ ?_
                        rotate_left
                        · intro w'
                          go_simp
                          with_reducible rfl
                        rotate_left
                        · simp only [Act.put, List.setIfInBounds_toArray, List.set_cons_zero, List.set_cons_succ, i64_w, i32_w]
                          rfl
                        refine pure_ (i := 11) (N := some 59) (v := ?_) (a' := ?_) #[true, true, true, true, true, true, true, true, true, true, true, true, true, false, false] rfl rfl (any_of HT_.out (by kernel_rfl)) (fun _ _ _ h => h) (Or.inl ⟨by rfl, ?_⟩) ?_ ?_
                        rotate_left
                        · intro w'
                          go_simp
                          with_reducible rfl
                        rotate_left
                        · simp only [Act.put, List.setIfInBounds_toArray, List.set_cons_zero, List.set_cons_succ, i64_w, i32_w]
                          rfl
                        exact norm_ (by simp only [putAll, Act.put, List.setIfInBounds_toArray, List.set_cons_zero, List.set_cons_succ]) (hCont (gb606) _ ⟨hHeld, (by (with_reducible repeat (first | apply Kd.R_alloc | apply Kd.R_drewN | apply Kd.R_drew)); exact HO_8.out), (bkA BK587), (bkA BK588), (bkA BK599), (bkA BK600), (bkA BK606), GW606.out, GE606.out, NB587_606.out, NB606_587.out, NB588_606.out, NB606_588.out, NB599_606.out, NB606_599.out, NB600_606.out, NB606_600.out, blA⟩)
                    rintro gb606 w34 ⟨hS_, h0_, h1_, h2_, h3_, h4_, h5_, h6_, h7_, h8_, h9_, h10_, h11_, h12_, h13_, h14_, h15_, h16_⟩
                    have n0_ : Aside0 (Kd.R (Kd.int .i64) 2 w34 w.heap.size (fun _ => True) (.slice (some ad601) x8_1.length co25) x8_1) := ⟨h0_⟩
                    have n1_ : Aside0 (w34.heap[gb587]? = some (.cells #[.int .i64 a1_0, .int .i64 a1_1, .int .i64 a1_2] 34 (0, 0))) := ⟨h1_⟩
                    have n2_ : Aside0 (w34.heap[gb588]? = some (.cells #[.int .i64 x589000_2, .int .i64 x589001_2, .int .i64 x589002_2] 34 (0, 0))) := ⟨h2_⟩
                    have n3_ : Aside0 (w34.heap[gb599]? = some (.cells #[.int .i64 x600000_2, .int .i64 x600001_2, .int .i64 x600002_2] 34 (0, 0))) := ⟨h3_⟩
                    have n4_ : Aside0 (w34.heap[gb600]? = some (.cells #[.int .i64 x601000_2, .int .i64 x601001_2, .int .i64 x601002_2] 34 (0, 0))) := ⟨h4_⟩
                    have n5_ : Aside0 (w34.heap[gb606]? = some (.cells #[.int .i64 0, .int .i64 0, .int .i64 0] 34 (0, 0))) := ⟨h5_⟩
                    have n6_ : Aside0 (w.heap.size ≤ gb606) := ⟨h6_⟩
                    have n7_ : Aside0 (w.heap.size ≤ gb606) := ⟨h7_⟩
                    have n8_ : Aside0 (gb587 ≠ gb606) := ⟨h8_⟩
                    have n9_ : Aside0 (gb606 ≠ gb587) := ⟨h9_⟩
                    have n10_ : Aside0 (gb588 ≠ gb606) := ⟨h10_⟩
                    have n11_ : Aside0 (gb606 ≠ gb588) := ⟨h11_⟩
                    have n12_ : Aside0 (gb599 ≠ gb606) := ⟨h12_⟩
                    have n13_ : Aside0 (gb606 ≠ gb599) := ⟨h13_⟩
                    have n14_ : Aside0 (gb600 ≠ gb606) := ⟨h14_⟩
                    have n15_ : Aside0 (gb606 ≠ gb600) := ⟨h15_⟩
                    have n16_ : Aside0 (Below w.heap.size w w34) := ⟨h16_⟩
                    clear HO_8
                    clear BK587
                    clear BK588
                    clear BK599
                    clear BK600
                    clear HB
                    clear h0_ h1_ h2_ h3_ h4_ h5_ h6_ h7_ h8_ h9_ h10_ h11_ h12_ h13_ h14_ h15_ h16_
                    have HO_8 := n0_
                    have BK587 := n1_
                    have BK588 := n2_
                    have BK599 := n3_
                    have BK600 := n4_
                    have BK606 := n5_
                    have GW606 := n6_
                    have GE606 := n7_
                    have NB587_606 := n8_
                    have NB606_587 := n9_
                    have NB588_606 := n10_
                    have NB606_588 := n11_
                    have NB599_606 := n12_
                    have NB606_599 := n13_
                    have NB600_606 := n14_
                    have NB606_600 := n15_
                    have HB := n16_
                    clear n0_ n1_ n2_ n3_ n4_ n5_ n6_ n7_ n8_ n9_ n10_ n11_ n12_ n13_ n14_ n15_ n16_
                    have hHeld : w34.cell? ⟨gb599, 0, none⟩ = some (.int .i64 x600000_2) ∧ w34.cell? ⟨gb599, 1, none⟩ = some (.int .i64 x600001_2) ∧ w34.cell? ⟨gb599, 2, none⟩ = some (.int .i64 x600002_2) ∧ w34.cell? ⟨gb600, 0, none⟩ = some (.int .i64 x601000_2) ∧ w34.cell? ⟨gb600, 1, none⟩ = some (.int .i64 x601001_2) ∧ w34.cell? ⟨gb600, 2, none⟩ = some (.int .i64 x601002_2) ∧ w34.cell? (ad601.add (x15_2).toNat) = some (.int .i64 (rd x8_1 x15_2)) := hS_
                    refine norm_ (a' := ?_) ?_ ?_
                    rotate_left
                    · simp only [putAll, Act.put, List.setIfInBounds_toArray, List.set_cons_zero, List.set_cons_succ]
                      rfl
                    refine one_ (i := 13) (N := none) #[true, true, true, true, true, true, true, true, true, true, true, true, true, true, false] rfl rfl (one_of HT_.out (by kernel_rfl)) (by decide) (fun K hK => ?_)
                    have hs35 : w34.cell? ⟨gb606, 0, none⟩ = some (.int .i64 0) := (blk_cell BK606.out 0).trans rfl
                    have hfs35 := blk_frozen BK606.out 0
                    have hns35_0 := NB587_606.out
                    have hns35_1 := NB588_606.out
                    have hns35_2 := NB599_606.out
                    have hns35_3 := NB600_606.out
                    have hms35_0 := NB606_587.out
                    have hms35_1 := NB606_588.out
                    have hms35_2 := NB606_599.out
                    have hms35_3 := NB606_600.out
                    have hs36 : w34.cell? ⟨gb606, 1, none⟩ = some (.int .i64 0) := (blk_cell BK606.out 1).trans rfl
                    have hfs36 := blk_frozen BK606.out 1
                    have hns36_0 := NB587_606.out
                    have hns36_1 := NB588_606.out
                    have hns36_2 := NB599_606.out
                    have hns36_3 := NB600_606.out
                    have hms36_0 := NB606_587.out
                    have hms36_1 := NB606_588.out
                    have hms36_2 := NB606_599.out
                    have hms36_3 := NB606_600.out
                    have hs37 : w34.cell? ⟨gb606, 2, none⟩ = some (.int .i64 0) := (blk_cell BK606.out 2).trans rfl
                    have hfs37 := blk_frozen BK606.out 2
                    have hns37_0 := NB587_606.out
                    have hns37_1 := NB588_606.out
                    have hns37_2 := NB599_606.out
                    have hns37_3 := NB600_606.out
                    have hms37_0 := NB606_587.out
                    have hms37_1 := NB606_588.out
                    have hms37_2 := NB606_599.out
                    have hms37_3 := NB606_600.out
                    refine skip_ (w1 := ?_) (by rfl) rfl ?_ ?_
                    rotate_left
                    · go_simp
                      rfl
                    refine hK.out _ _ ⟨((cell_far (p := ⟨gb606, _, none⟩) NB599_606.out _).trans (((cell_far (p := ⟨gb606, _, none⟩) NB599_606.out _).trans (((cell_far (p := ⟨gb606, _, none⟩) NB599_606.out _).trans (hHeld.1)))))), ((cell_far (p := ⟨gb606, _, none⟩) NB599_606.out _).trans (((cell_far (p := ⟨gb606, _, none⟩) NB599_606.out _).trans (((cell_far (p := ⟨gb606, _, none⟩) NB599_606.out _).trans (hHeld.2.1)))))), ((cell_far (p := ⟨gb606, _, none⟩) NB599_606.out _).trans (((cell_far (p := ⟨gb606, _, none⟩) NB599_606.out _).trans (((cell_far (p := ⟨gb606, _, none⟩) NB599_606.out _).trans (hHeld.2.2.1)))))), ((cell_far (p := ⟨gb606, _, none⟩) NB600_606.out _).trans (((cell_far (p := ⟨gb606, _, none⟩) NB600_606.out _).trans (((cell_far (p := ⟨gb606, _, none⟩) NB600_606.out _).trans (hHeld.2.2.2.1)))))), ((cell_far (p := ⟨gb606, _, none⟩) NB600_606.out _).trans (((cell_far (p := ⟨gb606, _, none⟩) NB600_606.out _).trans (((cell_far (p := ⟨gb606, _, none⟩) NB600_606.out _).trans (hHeld.2.2.2.2.1)))))), ((cell_far (p := ⟨gb606, _, none⟩) NB600_606.out _).trans (((cell_far (p := ⟨gb606, _, none⟩) NB600_606.out _).trans (((cell_far (p := ⟨gb606, _, none⟩) NB600_606.out _).trans (hHeld.2.2.2.2.2.1)))))), ((cell_far (p := ⟨gb606, _, none⟩) (by first | exact Kd.own_blk (Kd.R_ne HO_8.out BK606.out (by decide)) | (rw [add_block]; exact Kd.own_blk (Kd.R_ne HO_8.out BK606.out (by decide))) | (show (Addr.add _ _).block ≠ _; rw [add_block]; exact Kd.own_blk (Kd.R_ne HO_8.out BK606.out (by decide))) | (dsimp only; exact Kd.own_blk (Kd.R_ne HO_8.out BK606.out (by decide)))) _).trans (((cell_far (p := ⟨gb606, _, none⟩) (by first | exact Kd.own_blk (Kd.R_ne HO_8.out BK606.out (by decide)) | (rw [add_block]; exact Kd.own_blk (Kd.R_ne HO_8.out BK606.out (by decide))) | (show (Addr.add _ _).block ≠ _; rw [add_block]; exact Kd.own_blk (Kd.R_ne HO_8.out BK606.out (by decide))) | (dsimp only; exact Kd.own_blk (Kd.R_ne HO_8.out BK606.out (by decide)))) _).trans (((cell_far (p := ⟨gb606, _, none⟩) (by first | exact Kd.own_blk (Kd.R_ne HO_8.out BK606.out (by decide)) | (rw [add_block]; exact Kd.own_blk (Kd.R_ne HO_8.out BK606.out (by decide))) | (show (Addr.add _ _).block ≠ _; rw [add_block]; exact Kd.own_blk (Kd.R_ne HO_8.out BK606.out (by decide))) | (dsimp only; exact Kd.own_blk (Kd.R_ne HO_8.out BK606.out (by decide)))) _).trans (hHeld.2.2.2.2.2.2))))))⟩ (fun hHeld => ?_)
                    clear hK K
                    refine pure_ (i := 14) (N := some 17) (v := ?_) (a' := ?_) #[true, true, true, true, true, true, true, true, true, true, true, true, true, true, true] rfl rfl (any_of HT_.out (by kernel_rfl)) (fun _ _ _ h => h) (Or.inl ⟨by rfl, ?_⟩) ?_ ?_
                    rotate_left
                    · intro w'
                      go_simp
                      with_reducible rfl
                    rotate_left
                    · simp only [Act.put, List.setIfInBounds_toArray, List.set_cons_zero, List.set_cons_succ, i64_w, i32_w]
                      rfl
                    refine done_ (done_of HT_.out (by kernel_rfl)) ?_
                    have hnb38 := NB599_587.out
                    have hnc38 := NB587_599.out
                    have hnb39 := NB599_588.out
                    have hnc39 := NB588_599.out
                    have hnb40 := NB599_600.out
                    have hnc40 := NB600_599.out
                    have hnb41 := NB599_606.out
                    have hnc41 := NB606_599.out
                    have hcz42_0 : w34.cell? ⟨gb599, 0, none⟩ = some (.int .i64 x600000_2) := (blk_cell BK599.out 0).trans rfl
                    have hcz42_1 : w34.cell? ⟨gb599, 1, none⟩ = some (.int .i64 x600001_2) := (blk_cell BK599.out 1).trans rfl
                    have hcz42_2 : w34.cell? ⟨gb599, 2, none⟩ = some (.int .i64 x600002_2) := (blk_cell BK599.out 2).trans rfl
                    have hfz42_0 := blk_frozen BK599.out 0
                    have hfz42_1 := blk_frozen BK599.out 1
                    have hfz42_2 := blk_frozen BK599.out 2
                    have hnb43 := NB600_587.out
                    have hnc43 := NB587_600.out
                    have hnb44 := NB600_588.out
                    have hnc44 := NB588_600.out
                    have hnb45 := NB600_606.out
                    have hnc45 := NB606_600.out
                    have hcz46_0 : w34.cell? ⟨gb600, 0, none⟩ = some (.int .i64 x601000_2) := (blk_cell BK600.out 0).trans rfl
                    have hcz46_1 : w34.cell? ⟨gb600, 1, none⟩ = some (.int .i64 x601001_2) := (blk_cell BK600.out 1).trans rfl
                    have hcz46_2 : w34.cell? ⟨gb600, 2, none⟩ = some (.int .i64 x601002_2) := (blk_cell BK600.out 2).trans rfl
                    have hfz46_0 := blk_frozen BK600.out 0
                    have hfz46_1 := blk_frozen BK600.out 1
                    have hfz46_2 := blk_frozen BK600.out 2
                    have hnb47 := NB606_587.out
                    have hnc47 := NB587_606.out
                    have hnb48 := NB606_588.out
                    have hnc48 := NB588_606.out
                    have hcz49_0 : w34.cell? ⟨gb606, 0, none⟩ = some (.int .i64 0) := (blk_cell BK606.out 0).trans rfl
                    have hcz49_1 : w34.cell? ⟨gb606, 1, none⟩ = some (.int .i64 0) := (blk_cell BK606.out 1).trans rfl
                    have hcz49_2 : w34.cell? ⟨gb606, 2, none⟩ = some (.int .i64 0) := (blk_cell BK606.out 2).trans rfl
                    have hfz49_0 := blk_frozen BK606.out 0
                    have hfz49_1 := blk_frozen BK606.out 1
                    have hfz49_2 := blk_frozen BK606.out 2
                    try go_wp2
                    go_roundg k2
                    case measure => have := HK1.out; have := HK2.out; omega
                    case rel => exact ⟨(true), (wrap64 (x15_2 - 1)), (x589000_2), (x589001_2), (x589002_2), (t602), (t603), (t604), (x600000_2), (x600001_2), (x600002_2), (by first | rfl | (simp; done) | (simp [*]; done)), (by first | rfl | (simp; done) | (simp [*]; done)), H', ⟨by have := HK1.out; have := HK2.out; omega⟩, ⟨by (with_reducible repeat (first | apply Kd.R_alloc | apply Kd.R_drewN | apply Kd.R_drew)); exact Kd.R_mono (Kd.R_far (p := ⟨gb599, 2, none⟩) (Kd.R_far (p := ⟨gb599, 1, none⟩) (Kd.R_far (p := ⟨gb599, 0, none⟩) (Kd.R_far (p := ⟨gb600, 2, none⟩) (Kd.R_far (p := ⟨gb600, 1, none⟩) (Kd.R_far (p := ⟨gb600, 0, none⟩) (Kd.R_far (p := ⟨gb606, 2, none⟩) (Kd.R_far (p := ⟨gb606, 1, none⟩) (Kd.R_far (p := ⟨gb606, 0, none⟩) (Kd.R_types (Kd.R_types (Kd.R_types HO_8.out BK606.out (by decide)) BK600.out (by decide)) BK599.out (by decide)) (fun _ hk => hk.1.1.2) (.int .i64 t602)) (fun _ hk => hk.1.1.2) (.int .i64 t603)) (fun _ hk => hk.1.1.2) (.int .i64 t604)) (fun _ hk => hk.1.2) (.int .i64 x600000_2)) (fun _ hk => hk.1.2) (.int .i64 x600001_2)) (fun _ hk => hk.1.2) (.int .i64 x600002_2)) (fun _ hk => hk.2) (.int .i64 t602)) (fun _ hk => hk.2) (.int .i64 t603)) (fun _ hk => hk.2) (.int .i64 t604)) (fun _ hk => trivial)⟩, ⟨by (with_reducible repeat (first | refine blk_drewN ?_ _ | refine blk_drew ?_ | refine blk_alloc ?_ _)); refine blk_far ?_ NB587_599.out _; (with_reducible repeat (first | refine blk_drewN ?_ _ | refine blk_drew ?_ | refine blk_alloc ?_ _)); refine blk_far ?_ NB587_599.out _; (with_reducible repeat (first | refine blk_drewN ?_ _ | refine blk_drew ?_ | refine blk_alloc ?_ _)); refine blk_far ?_ NB587_599.out _; (with_reducible repeat (first | refine blk_drewN ?_ _ | refine blk_drew ?_ | refine blk_alloc ?_ _)); refine blk_far ?_ NB587_600.out _; (with_reducible repeat (first | refine blk_drewN ?_ _ | refine blk_drew ?_ | refine blk_alloc ?_ _)); refine blk_far ?_ NB587_600.out _; (with_reducible repeat (first | refine blk_drewN ?_ _ | refine blk_drew ?_ | refine blk_alloc ?_ _)); refine blk_far ?_ NB587_600.out _; (with_reducible repeat (first | refine blk_drewN ?_ _ | refine blk_drew ?_ | refine blk_alloc ?_ _)); refine blk_far ?_ NB587_606.out _; (with_reducible repeat (first | refine blk_drewN ?_ _ | refine blk_drew ?_ | refine blk_alloc ?_ _)); refine blk_far ?_ NB587_606.out _; (with_reducible repeat (first | refine blk_drewN ?_ _ | refine blk_drew ?_ | refine blk_alloc ?_ _)); refine blk_far ?_ NB587_606.out _; (with_reducible repeat (first | refine blk_drewN ?_ _ | refine blk_drew ?_ | refine blk_alloc ?_ _)); exact BK587.out⟩, ⟨by (with_reducible repeat (first | refine blk_drewN ?_ _ | refine blk_drew ?_ | refine blk_alloc ?_ _)); refine blk_far ?_ NB588_599.out _; (with_reducible repeat (first | refine blk_drewN ?_ _ | refine blk_drew ?_ | refine blk_alloc ?_ _)); refine blk_far ?_ NB588_599.out _; (with_reducible repeat (first | refine blk_drewN ?_ _ | refine blk_drew ?_ | refine blk_alloc ?_ _)); refine blk_far ?_ NB588_599.out _; (with_reducible repeat (first | refine blk_drewN ?_ _ | refine blk_drew ?_ | refine blk_alloc ?_ _)); refine blk_far ?_ NB588_600.out _; (with_reducible repeat (first | refine blk_drewN ?_ _ | refine blk_drew ?_ | refine blk_alloc ?_ _)); refine blk_far ?_ NB588_600.out _; (with_reducible repeat (first | refine blk_drewN ?_ _ | refine blk_drew ?_ | refine blk_alloc ?_ _)); refine blk_far ?_ NB588_600.out _; (with_reducible repeat (first | refine blk_drewN ?_ _ | refine blk_drew ?_ | refine blk_alloc ?_ _)); refine blk_far ?_ NB588_606.out _; (with_reducible repeat (first | refine blk_drewN ?_ _ | refine blk_drew ?_ | refine blk_alloc ?_ _)); refine blk_far ?_ NB588_606.out _; (with_reducible repeat (first | refine blk_drewN ?_ _ | refine blk_drew ?_ | refine blk_alloc ?_ _)); refine blk_far ?_ NB588_606.out _; (with_reducible repeat (first | refine blk_drewN ?_ _ | refine blk_drew ?_ | refine blk_alloc ?_ _)); exact BK588.out⟩, ⟨by (with_reducible repeat (first | refine blk_drewN ?_ _ | refine blk_drew ?_ | refine blk_alloc ?_ _)); refine blk_put (cs := #[.int .i64 t602, .int .i64 t603, .int .i64 x600002_2]) ?_ 2 _ rfl; (with_reducible repeat (first | refine blk_drewN ?_ _ | refine blk_drew ?_ | refine blk_alloc ?_ _)); refine blk_put (cs := #[.int .i64 t602, .int .i64 x600001_2, .int .i64 x600002_2]) ?_ 1 _ rfl; (with_reducible repeat (first | refine blk_drewN ?_ _ | refine blk_drew ?_ | refine blk_alloc ?_ _)); refine blk_put (cs := #[.int .i64 x600000_2, .int .i64 x600001_2, .int .i64 x600002_2]) ?_ 0 _ rfl; (with_reducible repeat (first | refine blk_drewN ?_ _ | refine blk_drew ?_ | refine blk_alloc ?_ _)); refine blk_far ?_ NB599_600.out _; (with_reducible repeat (first | refine blk_drewN ?_ _ | refine blk_drew ?_ | refine blk_alloc ?_ _)); refine blk_far ?_ NB599_600.out _; (with_reducible repeat (first | refine blk_drewN ?_ _ | refine blk_drew ?_ | refine blk_alloc ?_ _)); refine blk_far ?_ NB599_600.out _; (with_reducible repeat (first | refine blk_drewN ?_ _ | refine blk_drew ?_ | refine blk_alloc ?_ _)); refine blk_far ?_ NB599_606.out _; (with_reducible repeat (first | refine blk_drewN ?_ _ | refine blk_drew ?_ | refine blk_alloc ?_ _)); refine blk_far ?_ NB599_606.out _; (with_reducible repeat (first | refine blk_drewN ?_ _ | refine blk_drew ?_ | refine blk_alloc ?_ _)); refine blk_far ?_ NB599_606.out _; (with_reducible repeat (first | refine blk_drewN ?_ _ | refine blk_drew ?_ | refine blk_alloc ?_ _)); exact BK599.out⟩, ⟨by (with_reducible repeat (first | refine blk_drewN ?_ _ | refine blk_drew ?_ | refine blk_alloc ?_ _)); refine blk_far ?_ NB600_599.out _; (with_reducible repeat (first | refine blk_drewN ?_ _ | refine blk_drew ?_ | refine blk_alloc ?_ _)); refine blk_far ?_ NB600_599.out _; (with_reducible repeat (first | refine blk_drewN ?_ _ | refine blk_drew ?_ | refine blk_alloc ?_ _)); refine blk_far ?_ NB600_599.out _; (with_reducible repeat (first | refine blk_drewN ?_ _ | refine blk_drew ?_ | refine blk_alloc ?_ _)); refine blk_put (cs := #[.int .i64 x600000_2, .int .i64 x600001_2, .int .i64 x601002_2]) ?_ 2 _ rfl; (with_reducible repeat (first | refine blk_drewN ?_ _ | refine blk_drew ?_ | refine blk_alloc ?_ _)); refine blk_put (cs := #[.int .i64 x600000_2, .int .i64 x601001_2, .int .i64 x601002_2]) ?_ 1 _ rfl; (with_reducible repeat (first | refine blk_drewN ?_ _ | refine blk_drew ?_ | refine blk_alloc ?_ _)); refine blk_put (cs := #[.int .i64 x601000_2, .int .i64 x601001_2, .int .i64 x601002_2]) ?_ 0 _ rfl; (with_reducible repeat (first | refine blk_drewN ?_ _ | refine blk_drew ?_ | refine blk_alloc ?_ _)); refine blk_far ?_ NB600_606.out _; (with_reducible repeat (first | refine blk_drewN ?_ _ | refine blk_drew ?_ | refine blk_alloc ?_ _)); refine blk_far ?_ NB600_606.out _; (with_reducible repeat (first | refine blk_drewN ?_ _ | refine blk_drew ?_ | refine blk_alloc ?_ _)); refine blk_far ?_ NB600_606.out _; (with_reducible repeat (first | refine blk_drewN ?_ _ | refine blk_drew ?_ | refine blk_alloc ?_ _)); exact BK600.out⟩, ⟨blA⟩⟩
                  · replace c30 := Bool.eq_false_iff.mpr c30
                    subst c30
                    have H1 : (some (0, 0, 0, false)) = some (r1, r2, r3, r4) := by rw [if_neg (show ¬ (false = true) by decide)] at H; exact H
                    clear H
                    have H := H1
                    clear H1
                    simp only [Option.some.injEq, Prod.mk.injEq] at H
                    obtain ⟨rfl, rfl, rfl, rfl⟩ := H
                    try go_wp2
                    have n0_ := Aside0.mk (Kd.R_drew HO_8.out)
                    have n1_ := Aside0.mk (blk_drew BK587.out)
                    have n2_ := Aside0.mk (blk_drew BK588.out)
                    have n3_ := Aside0.mk (blk_drew BK599.out)
                    have n4_ := Aside0.mk (blk_drew BK600.out)
                    have n5_ := Aside0.mk (below_drew1 HB.out)
                    clear HO_8
                    clear BK587
                    clear BK588
                    clear BK599
                    clear BK600
                    clear HB
                    have HO_8 := n0_
                    have BK587 := n1_
                    have BK588 := n2_
                    have BK599 := n3_
                    have BK600 := n4_
                    have HB := n5_
                    clear n0_ n1_ n2_ n3_ n4_ n5_
                    have p601 : 0 ≤ (x15_2 : Int) := of_decide_eq_true (by first | (with_reducible assumption) | assumption)
                    have q601 : x15_2 < (x8_1.length : Int) := of_decide_eq_true (by first | (with_reducible assumption) | assumption)
                    obtain ⟨ad601, e601, hx601_0⟩ := Kd.at_int (Kd.R_reads' HO_8.out).2.2 x15_2 p601 q601
                    cases e601
                    replace p601 := eq_true p601
                    replace q601 := eq_true q601
                    refine start_ (n := 15) (S := fun w' => w'.cell? ⟨gb599, 0, none⟩ = some (.int .i64 x600000_2) ∧ w'.cell? ⟨gb599, 1, none⟩ = some (.int .i64 x600001_2) ∧ w'.cell? ⟨gb599, 2, none⟩ = some (.int .i64 x600002_2) ∧ w'.cell? ⟨gb600, 0, none⟩ = some (.int .i64 x601000_2) ∧ w'.cell? ⟨gb600, 1, none⟩ = some (.int .i64 x601001_2) ∧ w'.cell? ⟨gb600, 2, none⟩ = some (.int .i64 x601002_2) ∧ w'.cell? (ad601.add (x15_2).toNat) = some (.int .i64 (rd x8_1 x15_2))) (ds := []) #[false, false, false, false, false, false, false, false, false, false, false, false, false, false, false] (by kernel_rfl) rfl rfl ⟨(blk_cell BK599.out 0).trans rfl, (blk_cell BK599.out 1).trans rfl, (blk_cell BK599.out 2).trans rfl, (blk_cell BK600.out 0).trans rfl, (blk_cell BK600.out 1).trans rfl, (blk_cell BK600.out 2).trans rfl, hx601_0⟩ (fun hHeld => ?_); refine with_tabW spec_l07Ball.tab11 spec_l07Ball.bits11 (fun HT_ HW_ => ?_)
                    generalize wr.drew = w50 at HO_8 BK587 BK588 BK599 BK600 HB hx601_0 hHeld ⊢
                    refine pure_ (i := 0) (N := some 49) (v := ?_) (a' := ?_) #[true, false, false, false, false, false, false, false, false, false, false, false, false, false, false] rfl rfl (any_of HT_.out (by kernel_rfl)) (fun _ _ _ h => h) (Or.inl ⟨by rfl, ?_⟩) ?_ ?_
                    rotate_left
                    · intro w'
                      go_simp
                      with_reducible rfl
                    rotate_left
                    · simp only [Act.put, List.setIfInBounds_toArray, List.set_cons_zero, List.set_cons_succ, i64_w, i32_w]
                      rfl
                    refine pure_ (i := 3) (N := some 52) (v := ?_) (a' := ?_) #[true, false, false, true, false, false, false, false, false, false, false, false, false, false, false] rfl rfl (any_of HT_.out (by kernel_rfl)) (fun _ _ _ h => h) (Or.inl ⟨by rfl, ?_⟩) ?_ ?_
                    rotate_left
                    · intro w'
                      go_simp
                      with_reducible rfl
                    rotate_left
                    · simp only [Act.put, List.setIfInBounds_toArray, List.set_cons_zero, List.set_cons_succ, i64_w, i32_w]
                      rfl
                    refine pure_ (i := 4) (N := some 53) (v := ?_) (a' := ?_) #[true, false, false, true, true, false, false, false, false, false, false, false, false, false, false] rfl rfl (any_of HT_.out (by kernel_rfl)) (fun _ _ _ h => h) (Or.inl ⟨by rfl, ?_⟩) ?_ ?_
                    rotate_left
                    · intro w'
                      go_simp
                      with_reducible rfl
                    rotate_left
                    · simp only [Act.put, List.setIfInBounds_toArray, List.set_cons_zero, List.set_cons_succ, i64_w, i32_w]
                      rfl
                    refine pure_ (i := 5) (N := some 54) (v := ?_) (a' := ?_) #[true, false, false, true, true, true, false, false, false, false, false, false, false, false, false] rfl rfl (any_of HT_.out (by kernel_rfl)) (fun _ _ _ h => h) (Or.inl ⟨by rfl, ?_⟩) ?_ ?_
                    rotate_left
                    · intro w'
                      go_simp
                      with_reducible rfl
                    rotate_left
                    · simp only [Act.put, List.setIfInBounds_toArray, List.set_cons_zero, List.set_cons_succ, i64_w, i32_w]
                      rfl
                    refine pure_ (i := 6) (N := some 55) (v := ?_) (a' := ?_) #[true, false, false, true, true, true, true, false, false, false, false, false, false, false, false] rfl rfl (any_of HT_.out (by kernel_rfl)) (fun _ _ _ h => h) (Or.inl ⟨by rfl, ?_⟩) ?_ ?_
                    rotate_left
                    · intro w'
                      go_simp
                      with_reducible rfl
                    rotate_left
                    · simp only [Act.put, List.setIfInBounds_toArray, List.set_cons_zero, List.set_cons_succ, i64_w, i32_w]
                      rfl
                    refine take_ (i := 1) (N := some 50) (v := ?_) (a' := ?_) #[true, true, false, true, true, true, true, false, false, false, false, false, false, false, false] rfl rfl (take_ofW HT_.out HW_.out (by kernel_rfl)) (fun _ _ _ h => h) (Or.inl ⟨by rfl, ?_⟩) hHeld ?_ ?_
                    rotate_left
                    · rintro w' ⟨s0, s1, s2, s3, s4, s5, s6⟩
                      go_simp
                      with_reducible rfl
                    rotate_left
                    · simp only [Act.put, List.setIfInBounds_toArray, List.set_cons_zero, List.set_cons_succ, i64_w, i32_w]
                      rfl
                    refine take_ (i := 2) (N := some 51) (v := ?_) (a' := ?_) #[true, true, true, true, true, true, true, false, false, false, false, false, false, false, false] rfl rfl (take_ofW HT_.out HW_.out (by kernel_rfl)) (fun _ _ _ h => h) (Or.inl ⟨by rfl, ?_⟩) hHeld ?_ ?_
                    rotate_left
                    · rintro w' ⟨s0, s1, s2, s3, s4, s5, s6⟩
                      go_simp
                      with_reducible rfl
                    rotate_left
                    · simp only [Act.put, List.setIfInBounds_toArray, List.set_cons_zero, List.set_cons_succ, i64_w, i32_w]
                      rfl
                    refine take_ (i := 7) (N := some 56) (v := ?_) (a' := ?_) #[true, true, true, true, true, true, true, true, false, false, false, false, false, false, false] rfl rfl (take_ofW HT_.out HW_.out (by kernel_rfl)) (fun _ _ _ h => h) (Or.inl ⟨by rfl, ?_⟩) hHeld ?_ ?_
                    rotate_left
                    · rintro w' ⟨s0, s1, s2, s3, s4, s5, s6⟩
                      go_simp
                      with_reducible rfl
                    rotate_left
                    · simp only [Act.put, List.setIfInBounds_toArray, List.set_cons_zero, List.set_cons_succ, i64_w, i32_w]
                      rfl
                    refine join_ (σ := Nat) 2 #[true, true, true, true, true, true, true, true, true, true, true, true, true, false, false] (fun s_ => [(57, .tuple #[.agg #[.int .i64 t602, .int .i64 t603, .int .i64 t604], .bool false]), (16, .pointer (some ⟨s_, 0, none⟩)), (48, .tuple #[.agg #[.int .i64 t602, .int .i64 t603, .int .i64 t604], .bool false]), (58, .agg #[.int .i64 t602, .int .i64 t603, .int .i64 t604]), (59, .bool false)]) (fun s_ w' => (w'.cell? ⟨gb599, 0, none⟩ = some (.int .i64 x600000_2) ∧ w'.cell? ⟨gb599, 1, none⟩ = some (.int .i64 x600001_2) ∧ w'.cell? ⟨gb599, 2, none⟩ = some (.int .i64 x600002_2) ∧ w'.cell? ⟨gb600, 0, none⟩ = some (.int .i64 x601000_2) ∧ w'.cell? ⟨gb600, 1, none⟩ = some (.int .i64 x601001_2) ∧ w'.cell? ⟨gb600, 2, none⟩ = some (.int .i64 x601002_2) ∧ w'.cell? (ad601.add (x15_2).toNat) = some (.int .i64 (rd x8_1 x15_2))) ∧ (Kd.R (Kd.int .i64) 2 w' w.heap.size (fun _ => True) (.slice (some ad601) x8_1.length co25) x8_1) ∧ (w'.heap[gb587]? = some (.cells #[.int .i64 a1_0, .int .i64 a1_1, .int .i64 a1_2] 34 (0, 0))) ∧ (w'.heap[gb588]? = some (.cells #[.int .i64 x589000_2, .int .i64 x589001_2, .int .i64 x589002_2] 34 (0, 0))) ∧ (w'.heap[gb599]? = some (.cells #[.int .i64 x600000_2, .int .i64 x600001_2, .int .i64 x600002_2] 34 (0, 0))) ∧ (w'.heap[gb600]? = some (.cells #[.int .i64 x601000_2, .int .i64 x601001_2, .int .i64 x601002_2] 34 (0, 0))) ∧ (w'.heap[s_]? = some (.cells #[.int .i64 0, .int .i64 0, .int .i64 0] 34 (0, 0))) ∧ (w.heap.size ≤ s_) ∧ (w.heap.size ≤ s_) ∧ (gb587 ≠ s_) ∧ (s_ ≠ gb587) ∧ (gb588 ≠ s_) ∧ (s_ ≠ gb588) ∧ (gb599 ≠ s_) ∧ (s_ ≠ gb599) ∧ (gb600 ≠ s_) ∧ (s_ ≠ gb600) ∧ (Below w.heap.size w w')) ?_ ?_
                    rotate_left
                    · intro hCont
                      refine two_ (i := 8) (j := 12) (Ni := some 57) (Nj := some 16) #[true, true, true, true, true, true, true, true, true, false, false, false, false, false, false] #[true, true, true, true, true, true, true, true, false, false, false, false, true, false, false] rfl rfl rfl rfl (two_of HT_.out (by kernel_rfl)) (by decide) (by decide) (fun K hK => ?_) (fun K hK => ?_)
                      · skip
                        refine goes_ Try.func68 (by kernel_rfl) rfl #[.int .i64 a0, .agg #[.int .i64 x600000_2, .int .i64 x600001_2, .int .i64 x600002_2], .agg #[.int .i64 x601000_2, .int .i64 x601001_2, .int .i64 x601002_2], .bool x14_2, .int .i64 (rd x8_1 x15_2)] (by rfl) rfl rfl (by (try simp only [List.map_toArray, List.map_cons, List.map_nil]); first | done | rfl | (simp only [List.length_drop, List.length_take]; rfl)) ?_
                        with_reducible refine (spec_l07Next.calls k2 a0 x600000_2 x600001_2 x600002_2 x601000_2 x601001_2 x601002_2 x14_2 (rd x8_1 x15_2) t602 t603 t604 false _ A29.out).mono ?_
                        rintro e w51 ⟨rfl, hb⟩
                        have HS6_ := (hb.cell (World.block_lt_of_cell? _ _ (hHeld.2.2.2.2.2.2))).trans (hHeld.2.2.2.2.2.2)
                        refine ⟨_, rfl, ?_⟩
                        have n0_ := Aside0.mk (Kd.R_below (by (with_reducible repeat (first | apply Kd.R_alloc | apply Kd.R_drewN | apply Kd.R_drew)); exact HO_8.out) hb)
                        have n1_ := Aside0.mk (blk_below (bkA BK587) hb)
                        have n2_ := Aside0.mk (blk_below (bkA BK588) hb)
                        have n3_ := Aside0.mk (blk_below (bkA BK599) hb)
                        have n4_ := Aside0.mk (blk_below (bkA BK600) hb)
                        have n5_ := Aside0.mk (below_step blA hb)
                        clear HO_8
                        clear BK587
                        clear BK588
                        clear BK599
                        clear BK600
                        clear HB
                        have HO_8 := n0_
                        have BK587 := n1_
                        have BK588 := n2_
                        have BK599 := n3_
                        have BK600 := n4_
                        have HB := n5_
                        clear n0_ n1_ n2_ n3_ n4_ n5_
                        (try clear hb)
                        (try clear hb2)
                        (try clear hk)
                        (try clear hi)
                        refine hK.out _ _ ⟨(blk_cell BK599.out 0).trans rfl, (blk_cell BK599.out 1).trans rfl, (blk_cell BK599.out 2).trans rfl, (blk_cell BK600.out 0).trans rfl, (blk_cell BK600.out 1).trans rfl, (blk_cell BK600.out 2).trans rfl, HS6_⟩ (fun hHeld => ?_)
                        clear hK K
                        refine norm_ (a' := ?_) ?_ ?_
                        rotate_left
                        · show Act.put _ (some 57) _ = _
                          simp only [Act.put, List.setIfInBounds_toArray, List.set_cons_zero, List.set_cons_succ, i64_w, i32_w]
                          rfl
                        refine pure_ (i := 9) (N := some 48) (v := ?_) (a' := ?_) #[true, true, true, true, true, true, true, true, true, true, false, false, false, false, false] rfl rfl (any_of HT_.out (by kernel_rfl)) (fun _ _ _ h => h) (Or.inl ⟨by rfl, ?_⟩) ?_ ?_
                        rotate_left
                        · intro w'
                          go_simp
                          with_reducible rfl
                        rotate_left
                        · simp only [Act.put, List.setIfInBounds_toArray, List.set_cons_zero, List.set_cons_succ, i64_w, i32_w]
                          rfl
                        refine pure_ (i := 10) (N := some 58) (v := ?_) (a' := ?_) #[true, true, true, true, true, true, true, true, true, true, true, false, false, false, false] rfl rfl (any_of HT_.out (by kernel_rfl)) (fun _ _ _ h => h) (Or.inl ⟨by rfl, ?_⟩) ?_ ?_
                        rotate_left
                        · intro w'
                          go_simp
                          with_reducible rfl
                        rotate_left
                        · simp only [Act.put, List.setIfInBounds_toArray, List.set_cons_zero, List.set_cons_succ, i64_w, i32_w]
                          rfl
                        refine pure_ (i := 11) (N := some 59) (v := ?_) (a' := ?_) #[true, true, true, true, true, true, true, true, true, true, true, true, false, false, false] rfl rfl (any_of HT_.out (by kernel_rfl)) (fun _ _ _ h => h) (Or.inl ⟨by rfl, ?_⟩) ?_ ?_
                        rotate_left
                        · intro w'
                          go_simp
                          with_reducible rfl
                        rotate_left
                        · simp only [Act.put, List.setIfInBounds_toArray, List.set_cons_zero, List.set_cons_succ, i64_w, i32_w]
                          rfl
                        refine one_ (i := 12) (N := some 16) #[true, true, true, true, true, true, true, true, true, true, true, true, true, false, false] rfl rfl (one_of HT_.out (by kernel_rfl)) (by decide) (fun K hK => ?_)
                        refine box_step ?hg (N := 16) ?hd (cs := #[.int .i64 0, .int .i64 0, .int .i64 0]) (t := 34) ?hr ?_; (case hd => rfl); (case hg => rfl); (case hr => first | (go_simp; done) | (go_simp; rfl))
                        intro gb606 hg w52 hbox hb
                        have HS6_ := (hb.cell (World.block_lt_of_cell? _ _ (hHeld.2.2.2.2.2.2))).trans (hHeld.2.2.2.2.2.2)
                        have n0_ := Aside0.mk (Kd.R_below (by (with_reducible repeat (first | apply Kd.R_alloc | apply Kd.R_drewN | apply Kd.R_drew)); exact HO_8.out) hb)
                        have n1_ := Aside0.mk (blk_below (bkA BK587) hb)
                        have n2_ := Aside0.mk (blk_below (bkA BK588) hb)
                        have n3_ := Aside0.mk (blk_below (bkA BK599) hb)
                        have n4_ := Aside0.mk (blk_below (bkA BK600) hb)
                        have n5_ := Aside0.mk (below_step blA hb)
                        have n6_ := Aside0.mk (hbox)
                        have n7_ := Aside0.mk (szA hg blA)
                        have n8_ := Aside0.mk (szA hg blA)
                        have n9_ := Aside0.mk (neA hg (bkA BK587))
                        have n10_ := Aside0.mk (neB hg (bkA BK587))
                        have n11_ := Aside0.mk (neA hg (bkA BK588))
                        have n12_ := Aside0.mk (neB hg (bkA BK588))
                        have n13_ := Aside0.mk (neA hg (bkA BK599))
                        have n14_ := Aside0.mk (neB hg (bkA BK599))
                        have n15_ := Aside0.mk (neA hg (bkA BK600))
                        have n16_ := Aside0.mk (neB hg (bkA BK600))
                        clear HO_8
                        clear BK587
                        clear BK588
                        clear BK599
                        clear BK600
                        clear HB
                        have HO_8 := n0_
                        have BK587 := n1_
                        have BK588 := n2_
                        have BK599 := n3_
                        have BK600 := n4_
                        have HB := n5_
                        have BK606 := n6_
                        have GW606 := n7_
                        have GE606 := n8_
                        have NB587_606 := n9_
                        have NB606_587 := n10_
                        have NB588_606 := n11_
                        have NB606_588 := n12_
                        have NB599_606 := n13_
                        have NB606_599 := n14_
                        have NB600_606 := n15_
                        have NB606_600 := n16_
                        clear n0_ n1_ n2_ n3_ n4_ n5_ n6_ n7_ n8_ n9_ n10_ n11_ n12_ n13_ n14_ n15_ n16_
                        clear hb hbox hg
                        refine hK.out _ _ ⟨(blk_cell BK599.out 0).trans rfl, (blk_cell BK599.out 1).trans rfl, (blk_cell BK599.out 2).trans rfl, (blk_cell BK600.out 0).trans rfl, (blk_cell BK600.out 1).trans rfl, (blk_cell BK600.out 2).trans rfl, HS6_⟩ (fun hHeld => ?_)
                        clear hK K
                        refine norm_ (a' := ?_) ?_ ?_
                        rotate_left
                        · show Act.put _ (some 16) _ = _
                          simp only [Act.put, List.setIfInBounds_toArray, List.set_cons_zero, List.set_cons_succ, i64_w, i32_w]
                          rfl
                        exact norm_ (by simp only [putAll, Act.put, List.setIfInBounds_toArray, List.set_cons_zero, List.set_cons_succ]) (hCont (gb606) _ ⟨hHeld, (by (with_reducible repeat (first | apply Kd.R_alloc | apply Kd.R_drewN | apply Kd.R_drew)); exact HO_8.out), (bkA BK587), (bkA BK588), (bkA BK599), (bkA BK600), (bkA BK606), GW606.out, GE606.out, NB587_606.out, NB606_587.out, NB588_606.out, NB606_588.out, NB599_606.out, NB606_599.out, NB600_606.out, NB606_600.out, blA⟩)
                      · skip
                        refine box_step ?hg (N := 16) ?hd (cs := #[.int .i64 0, .int .i64 0, .int .i64 0]) (t := 34) ?hr ?_; (case hd => rfl); (case hg => rfl); (case hr => first | (go_simp; done) | (go_simp; rfl))
                        intro gb606 hg w51 hbox hb
                        have HS6_ := (hb.cell (World.block_lt_of_cell? _ _ (hHeld.2.2.2.2.2.2))).trans (hHeld.2.2.2.2.2.2)
                        have n0_ := Aside0.mk (Kd.R_below (by (with_reducible repeat (first | apply Kd.R_alloc | apply Kd.R_drewN | apply Kd.R_drew)); exact HO_8.out) hb)
                        have n1_ := Aside0.mk (blk_below (bkA BK587) hb)
                        have n2_ := Aside0.mk (blk_below (bkA BK588) hb)
                        have n3_ := Aside0.mk (blk_below (bkA BK599) hb)
                        have n4_ := Aside0.mk (blk_below (bkA BK600) hb)
                        have n5_ := Aside0.mk (below_step blA hb)
                        have n6_ := Aside0.mk (hbox)
                        have n7_ := Aside0.mk (szA hg blA)
                        have n8_ := Aside0.mk (szA hg blA)
                        have n9_ := Aside0.mk (neA hg (bkA BK587))
                        have n10_ := Aside0.mk (neB hg (bkA BK587))
                        have n11_ := Aside0.mk (neA hg (bkA BK588))
                        have n12_ := Aside0.mk (neB hg (bkA BK588))
                        have n13_ := Aside0.mk (neA hg (bkA BK599))
                        have n14_ := Aside0.mk (neB hg (bkA BK599))
                        have n15_ := Aside0.mk (neA hg (bkA BK600))
                        have n16_ := Aside0.mk (neB hg (bkA BK600))
                        clear HO_8
                        clear BK587
                        clear BK588
                        clear BK599
                        clear BK600
                        clear HB
                        have HO_8 := n0_
                        have BK587 := n1_
                        have BK588 := n2_
                        have BK599 := n3_
                        have BK600 := n4_
                        have HB := n5_
                        have BK606 := n6_
                        have GW606 := n7_
                        have GE606 := n8_
                        have NB587_606 := n9_
                        have NB606_587 := n10_
                        have NB588_606 := n11_
                        have NB606_588 := n12_
                        have NB599_606 := n13_
                        have NB606_599 := n14_
                        have NB600_606 := n15_
                        have NB606_600 := n16_
                        clear n0_ n1_ n2_ n3_ n4_ n5_ n6_ n7_ n8_ n9_ n10_ n11_ n12_ n13_ n14_ n15_ n16_
                        clear hb hbox hg
                        refine hK.out _ _ ⟨(blk_cell BK599.out 0).trans rfl, (blk_cell BK599.out 1).trans rfl, (blk_cell BK599.out 2).trans rfl, (blk_cell BK600.out 0).trans rfl, (blk_cell BK600.out 1).trans rfl, (blk_cell BK600.out 2).trans rfl, HS6_⟩ (fun hHeld => ?_)
                        clear hK K
                        refine norm_ (a' := ?_) ?_ ?_
                        rotate_left
                        · show Act.put _ (some 16) _ = _
                          simp only [Act.put, List.setIfInBounds_toArray, List.set_cons_zero, List.set_cons_succ, i64_w, i32_w]
                          rfl
                        refine one_ (i := 8) (N := some 57) #[true, true, true, true, true, true, true, true, true, false, false, false, true, false, false] rfl rfl (one_of HT_.out (by kernel_rfl)) (by decide) (fun K hK => ?_)
                        refine goes_ Try.func68 (by kernel_rfl) rfl #[.int .i64 a0, .agg #[.int .i64 x600000_2, .int .i64 x600001_2, .int .i64 x600002_2], .agg #[.int .i64 x601000_2, .int .i64 x601001_2, .int .i64 x601002_2], .bool x14_2, .int .i64 (rd x8_1 x15_2)] (by rfl) rfl rfl (by (try simp only [List.map_toArray, List.map_cons, List.map_nil]); first | done | rfl | (simp only [List.length_drop, List.length_take]; rfl)) ?_
                        with_reducible refine (spec_l07Next.calls k2 a0 x600000_2 x600001_2 x600002_2 x601000_2 x601001_2 x601002_2 x14_2 (rd x8_1 x15_2) t602 t603 t604 false _ A29.out).mono ?_
                        rintro e w52 ⟨rfl, hb⟩
                        have HS6_ := (hb.cell (World.block_lt_of_cell? _ _ (hHeld.2.2.2.2.2.2))).trans (hHeld.2.2.2.2.2.2)
                        refine ⟨_, rfl, ?_⟩
                        have n0_ := Aside0.mk (Kd.R_below (by (with_reducible repeat (first | apply Kd.R_alloc | apply Kd.R_drewN | apply Kd.R_drew)); exact HO_8.out) hb)
                        have n1_ := Aside0.mk (blk_below (bkA BK587) hb)
                        have n2_ := Aside0.mk (blk_below (bkA BK588) hb)
                        have n3_ := Aside0.mk (blk_below (bkA BK599) hb)
                        have n4_ := Aside0.mk (blk_below (bkA BK600) hb)
                        have n5_ := Aside0.mk (blk_below (bkA BK606) hb)
                        have n6_ := Aside0.mk (below_step blA hb)
                        clear HO_8
                        clear BK587
                        clear BK588
                        clear BK599
                        clear BK600
                        clear BK606
                        clear HB
                        have HO_8 := n0_
                        have BK587 := n1_
                        have BK588 := n2_
                        have BK599 := n3_
                        have BK600 := n4_
                        have BK606 := n5_
                        have HB := n6_
                        clear n0_ n1_ n2_ n3_ n4_ n5_ n6_
                        (try clear hb)
                        (try clear hb2)
                        (try clear hk)
                        (try clear hi)
                        refine hK.out _ _ ⟨(blk_cell BK599.out 0).trans rfl, (blk_cell BK599.out 1).trans rfl, (blk_cell BK599.out 2).trans rfl, (blk_cell BK600.out 0).trans rfl, (blk_cell BK600.out 1).trans rfl, (blk_cell BK600.out 2).trans rfl, HS6_⟩ (fun hHeld => ?_)
                        clear hK K
                        refine norm_ (a' := ?_) ?_ ?_
                        rotate_left
                        · show Act.put _ (some 57) _ = _
                          simp only [Act.put, List.setIfInBounds_toArray, List.set_cons_zero, List.set_cons_succ, i64_w, i32_w]
                          rfl
                        refine pure_ (i := 9) (N := some 48) (v := ?_) (a' := ?_) #[true, true, true, true, true, true, true, true, true, true, false, false, true, false, false] rfl rfl (any_of HT_.out (by kernel_rfl)) (fun _ _ _ h => h) (Or.inl ⟨by rfl, ?_⟩) ?_ ?_
                        rotate_left
                        · intro w'
                          go_simp
                          with_reducible rfl
                        rotate_left
                        · simp only [Act.put, List.setIfInBounds_toArray, List.set_cons_zero, List.set_cons_succ, i64_w, i32_w]
                          rfl
                        refine pure_ (i := 10) (N := some 58) (v := ?_) (a' := ?_) #[true, true, true, true, true, true, true, true, true, true, true, false, true, false, false] rfl rfl (any_of HT_.out (by kernel_rfl)) (fun _ _ _ h => h) (Or.inl ⟨by rfl, ?_⟩) ?_ ?_
                        rotate_left
                        · intro w'
                          go_simp
                          with_reducible rfl
                        rotate_left
                        · simp only [Act.put, List.setIfInBounds_toArray, List.set_cons_zero, List.set_cons_succ, i64_w, i32_w]
                          rfl
                        refine pure_ (i := 11) (N := some 59) (v := ?_) (a' := ?_) #[true, true, true, true, true, true, true, true, true, true, true, true, true, false, false] rfl rfl (any_of HT_.out (by kernel_rfl)) (fun _ _ _ h => h) (Or.inl ⟨by rfl, ?_⟩) ?_ ?_
                        rotate_left
                        · intro w'
                          go_simp
                          with_reducible rfl
                        rotate_left
                        · simp only [Act.put, List.setIfInBounds_toArray, List.set_cons_zero, List.set_cons_succ, i64_w, i32_w]
                          rfl
                        exact norm_ (by simp only [putAll, Act.put, List.setIfInBounds_toArray, List.set_cons_zero, List.set_cons_succ]) (hCont (gb606) _ ⟨hHeld, (by (with_reducible repeat (first | apply Kd.R_alloc | apply Kd.R_drewN | apply Kd.R_drew)); exact HO_8.out), (bkA BK587), (bkA BK588), (bkA BK599), (bkA BK600), (bkA BK606), GW606.out, GE606.out, NB587_606.out, NB606_587.out, NB588_606.out, NB606_588.out, NB599_606.out, NB606_599.out, NB600_606.out, NB606_600.out, blA⟩)
                    rintro gb606 w53 ⟨hS_, h0_, h1_, h2_, h3_, h4_, h5_, h6_, h7_, h8_, h9_, h10_, h11_, h12_, h13_, h14_, h15_, h16_⟩
                    have n0_ : Aside0 (Kd.R (Kd.int .i64) 2 w53 w.heap.size (fun _ => True) (.slice (some ad601) x8_1.length co25) x8_1) := ⟨h0_⟩
                    have n1_ : Aside0 (w53.heap[gb587]? = some (.cells #[.int .i64 a1_0, .int .i64 a1_1, .int .i64 a1_2] 34 (0, 0))) := ⟨h1_⟩
                    have n2_ : Aside0 (w53.heap[gb588]? = some (.cells #[.int .i64 x589000_2, .int .i64 x589001_2, .int .i64 x589002_2] 34 (0, 0))) := ⟨h2_⟩
                    have n3_ : Aside0 (w53.heap[gb599]? = some (.cells #[.int .i64 x600000_2, .int .i64 x600001_2, .int .i64 x600002_2] 34 (0, 0))) := ⟨h3_⟩
                    have n4_ : Aside0 (w53.heap[gb600]? = some (.cells #[.int .i64 x601000_2, .int .i64 x601001_2, .int .i64 x601002_2] 34 (0, 0))) := ⟨h4_⟩
                    have n5_ : Aside0 (w53.heap[gb606]? = some (.cells #[.int .i64 0, .int .i64 0, .int .i64 0] 34 (0, 0))) := ⟨h5_⟩
                    have n6_ : Aside0 (w.heap.size ≤ gb606) := ⟨h6_⟩
                    have n7_ : Aside0 (w.heap.size ≤ gb606) := ⟨h7_⟩
                    have n8_ : Aside0 (gb587 ≠ gb606) := ⟨h8_⟩
                    have n9_ : Aside0 (gb606 ≠ gb587) := ⟨h9_⟩
                    have n10_ : Aside0 (gb588 ≠ gb606) := ⟨h10_⟩
                    have n11_ : Aside0 (gb606 ≠ gb588) := ⟨h11_⟩
                    have n12_ : Aside0 (gb599 ≠ gb606) := ⟨h12_⟩
                    have n13_ : Aside0 (gb606 ≠ gb599) := ⟨h13_⟩
                    have n14_ : Aside0 (gb600 ≠ gb606) := ⟨h14_⟩
                    have n15_ : Aside0 (gb606 ≠ gb600) := ⟨h15_⟩
                    have n16_ : Aside0 (Below w.heap.size w w53) := ⟨h16_⟩
                    clear HO_8
                    clear BK587
                    clear BK588
                    clear BK599
                    clear BK600
                    clear HB
                    clear h0_ h1_ h2_ h3_ h4_ h5_ h6_ h7_ h8_ h9_ h10_ h11_ h12_ h13_ h14_ h15_ h16_
                    have HO_8 := n0_
                    have BK587 := n1_
                    have BK588 := n2_
                    have BK599 := n3_
                    have BK600 := n4_
                    have BK606 := n5_
                    have GW606 := n6_
                    have GE606 := n7_
                    have NB587_606 := n8_
                    have NB606_587 := n9_
                    have NB588_606 := n10_
                    have NB606_588 := n11_
                    have NB599_606 := n12_
                    have NB606_599 := n13_
                    have NB600_606 := n14_
                    have NB606_600 := n15_
                    have HB := n16_
                    clear n0_ n1_ n2_ n3_ n4_ n5_ n6_ n7_ n8_ n9_ n10_ n11_ n12_ n13_ n14_ n15_ n16_
                    have hHeld : w53.cell? ⟨gb599, 0, none⟩ = some (.int .i64 x600000_2) ∧ w53.cell? ⟨gb599, 1, none⟩ = some (.int .i64 x600001_2) ∧ w53.cell? ⟨gb599, 2, none⟩ = some (.int .i64 x600002_2) ∧ w53.cell? ⟨gb600, 0, none⟩ = some (.int .i64 x601000_2) ∧ w53.cell? ⟨gb600, 1, none⟩ = some (.int .i64 x601001_2) ∧ w53.cell? ⟨gb600, 2, none⟩ = some (.int .i64 x601002_2) ∧ w53.cell? (ad601.add (x15_2).toNat) = some (.int .i64 (rd x8_1 x15_2)) := hS_
                    refine norm_ (a' := ?_) ?_ ?_
                    rotate_left
                    · simp only [putAll, Act.put, List.setIfInBounds_toArray, List.set_cons_zero, List.set_cons_succ]
                      rfl
                    refine one_ (i := 13) (N := none) #[true, true, true, true, true, true, true, true, true, true, true, true, true, true, false] rfl rfl (one_of HT_.out (by kernel_rfl)) (by decide) (fun K hK => ?_)
                    have hs54 : w53.cell? ⟨gb606, 0, none⟩ = some (.int .i64 0) := (blk_cell BK606.out 0).trans rfl
                    have hfs54 := blk_frozen BK606.out 0
                    have hns54_0 := NB587_606.out
                    have hns54_1 := NB588_606.out
                    have hns54_2 := NB599_606.out
                    have hns54_3 := NB600_606.out
                    have hms54_0 := NB606_587.out
                    have hms54_1 := NB606_588.out
                    have hms54_2 := NB606_599.out
                    have hms54_3 := NB606_600.out
                    have hs55 : w53.cell? ⟨gb606, 1, none⟩ = some (.int .i64 0) := (blk_cell BK606.out 1).trans rfl
                    have hfs55 := blk_frozen BK606.out 1
                    have hns55_0 := NB587_606.out
                    have hns55_1 := NB588_606.out
                    have hns55_2 := NB599_606.out
                    have hns55_3 := NB600_606.out
                    have hms55_0 := NB606_587.out
                    have hms55_1 := NB606_588.out
                    have hms55_2 := NB606_599.out
                    have hms55_3 := NB606_600.out
                    have hs56 : w53.cell? ⟨gb606, 2, none⟩ = some (.int .i64 0) := (blk_cell BK606.out 2).trans rfl
                    have hfs56 := blk_frozen BK606.out 2
                    have hns56_0 := NB587_606.out
                    have hns56_1 := NB588_606.out
                    have hns56_2 := NB599_606.out
                    have hns56_3 := NB600_606.out
                    have hms56_0 := NB606_587.out
                    have hms56_1 := NB606_588.out
                    have hms56_2 := NB606_599.out
                    have hms56_3 := NB606_600.out
                    refine skip_ (w1 := ?_) (by rfl) rfl ?_ ?_
                    rotate_left
                    · go_simp
                      rfl
                    refine hK.out _ _ ⟨((cell_far (p := ⟨gb606, _, none⟩) NB599_606.out _).trans (((cell_far (p := ⟨gb606, _, none⟩) NB599_606.out _).trans (((cell_far (p := ⟨gb606, _, none⟩) NB599_606.out _).trans (hHeld.1)))))), ((cell_far (p := ⟨gb606, _, none⟩) NB599_606.out _).trans (((cell_far (p := ⟨gb606, _, none⟩) NB599_606.out _).trans (((cell_far (p := ⟨gb606, _, none⟩) NB599_606.out _).trans (hHeld.2.1)))))), ((cell_far (p := ⟨gb606, _, none⟩) NB599_606.out _).trans (((cell_far (p := ⟨gb606, _, none⟩) NB599_606.out _).trans (((cell_far (p := ⟨gb606, _, none⟩) NB599_606.out _).trans (hHeld.2.2.1)))))), ((cell_far (p := ⟨gb606, _, none⟩) NB600_606.out _).trans (((cell_far (p := ⟨gb606, _, none⟩) NB600_606.out _).trans (((cell_far (p := ⟨gb606, _, none⟩) NB600_606.out _).trans (hHeld.2.2.2.1)))))), ((cell_far (p := ⟨gb606, _, none⟩) NB600_606.out _).trans (((cell_far (p := ⟨gb606, _, none⟩) NB600_606.out _).trans (((cell_far (p := ⟨gb606, _, none⟩) NB600_606.out _).trans (hHeld.2.2.2.2.1)))))), ((cell_far (p := ⟨gb606, _, none⟩) NB600_606.out _).trans (((cell_far (p := ⟨gb606, _, none⟩) NB600_606.out _).trans (((cell_far (p := ⟨gb606, _, none⟩) NB600_606.out _).trans (hHeld.2.2.2.2.2.1)))))), ((cell_far (p := ⟨gb606, _, none⟩) (by first | exact Kd.own_blk (Kd.R_ne HO_8.out BK606.out (by decide)) | (rw [add_block]; exact Kd.own_blk (Kd.R_ne HO_8.out BK606.out (by decide))) | (show (Addr.add _ _).block ≠ _; rw [add_block]; exact Kd.own_blk (Kd.R_ne HO_8.out BK606.out (by decide))) | (dsimp only; exact Kd.own_blk (Kd.R_ne HO_8.out BK606.out (by decide)))) _).trans (((cell_far (p := ⟨gb606, _, none⟩) (by first | exact Kd.own_blk (Kd.R_ne HO_8.out BK606.out (by decide)) | (rw [add_block]; exact Kd.own_blk (Kd.R_ne HO_8.out BK606.out (by decide))) | (show (Addr.add _ _).block ≠ _; rw [add_block]; exact Kd.own_blk (Kd.R_ne HO_8.out BK606.out (by decide))) | (dsimp only; exact Kd.own_blk (Kd.R_ne HO_8.out BK606.out (by decide)))) _).trans (((cell_far (p := ⟨gb606, _, none⟩) (by first | exact Kd.own_blk (Kd.R_ne HO_8.out BK606.out (by decide)) | (rw [add_block]; exact Kd.own_blk (Kd.R_ne HO_8.out BK606.out (by decide))) | (show (Addr.add _ _).block ≠ _; rw [add_block]; exact Kd.own_blk (Kd.R_ne HO_8.out BK606.out (by decide))) | (dsimp only; exact Kd.own_blk (Kd.R_ne HO_8.out BK606.out (by decide)))) _).trans (hHeld.2.2.2.2.2.2))))))⟩ (fun hHeld => ?_)
                    clear hK K
                    refine pure_ (i := 14) (N := some 17) (v := ?_) (a' := ?_) #[true, true, true, true, true, true, true, true, true, true, true, true, true, true, true] rfl rfl (any_of HT_.out (by kernel_rfl)) (fun _ _ _ h => h) (Or.inl ⟨by rfl, ?_⟩) ?_ ?_
                    rotate_left
                    · intro w'
                      go_simp
                      with_reducible rfl
                    rotate_left
                    · simp only [Act.put, List.setIfInBounds_toArray, List.set_cons_zero, List.set_cons_succ, i64_w, i32_w]
                      rfl
                    refine done_ (done_of HT_.out (by kernel_rfl)) ?_
                    have hnb57 := NB588_587.out
                    have hnc57 := NB587_588.out
                    have hnb58 := NB588_599.out
                    have hnc58 := NB599_588.out
                    have hnb59 := NB588_600.out
                    have hnc59 := NB600_588.out
                    have hnb60 := NB588_606.out
                    have hnc60 := NB606_588.out
                    have hcz61_0 : w53.cell? ⟨gb588, 0, none⟩ = some (.int .i64 x589000_2) := (blk_cell BK588.out 0).trans rfl
                    have hcz61_1 : w53.cell? ⟨gb588, 1, none⟩ = some (.int .i64 x589001_2) := (blk_cell BK588.out 1).trans rfl
                    have hcz61_2 : w53.cell? ⟨gb588, 2, none⟩ = some (.int .i64 x589002_2) := (blk_cell BK588.out 2).trans rfl
                    have hfz61_0 := blk_frozen BK588.out 0
                    have hfz61_1 := blk_frozen BK588.out 1
                    have hfz61_2 := blk_frozen BK588.out 2
                    try go_wp2
                    refine bodyPost_ret (results_ct rfl _ _ gb588 34 #[.int .i64 0, .int .i64 0, .int .i64 0] (0, 0) _ rfl (by (with_reducible repeat (first | refine blk_drewN ?_ _ | refine blk_drew ?_ | refine blk_alloc ?_ _)); refine blk_put (cs := #[.int .i64 0, .int .i64 0, .int .i64 x589002_2]) ?_ 2 _ rfl; (with_reducible repeat (first | refine blk_drewN ?_ _ | refine blk_drew ?_ | refine blk_alloc ?_ _)); refine blk_put (cs := #[.int .i64 0, .int .i64 x589001_2, .int .i64 x589002_2]) ?_ 1 _ rfl; (with_reducible repeat (first | refine blk_drewN ?_ _ | refine blk_drew ?_ | refine blk_alloc ?_ _)); refine blk_put (cs := #[.int .i64 x589000_2, .int .i64 x589001_2, .int .i64 x589002_2]) ?_ 0 _ rfl; (with_reducible repeat (first | refine blk_drewN ?_ _ | refine blk_drew ?_ | refine blk_alloc ?_ _)); refine blk_far ?_ NB588_606.out _; (with_reducible repeat (first | refine blk_drewN ?_ _ | refine blk_drew ?_ | refine blk_alloc ?_ _)); refine blk_far ?_ NB588_606.out _; (with_reducible repeat (first | refine blk_drewN ?_ _ | refine blk_drew ?_ | refine blk_alloc ?_ _)); refine blk_far ?_ NB588_606.out _; (with_reducible repeat (first | refine blk_drewN ?_ _ | refine blk_drew ?_ | refine blk_alloc ?_ _)); exact BK588.out) Try.underlying34 rfl (by kernel_rfl)) rfl ?_
                    exact ⟨by first | rfl | (simp [errW_none, errW_some] <;> rfl) | (simp [*, errW_none, errW_some] <;> rfl), blA⟩
                · rw [if_neg c28] at H
                  exact absurd H (by simp)
              · rw [if_neg c27] at H
                exact absurd H (by simp)
            · rw [if_neg c26] at H
              have c26b0 : decide (0 ≤ x15_2) = false := decide_eq_false c26
              clear c26
              simp only [Option.some.injEq, Prod.mk.injEq] at H
              obtain ⟨rfl, rfl, rfl, rfl⟩ := H
              have hnb62 := NB599_587.out
              have hnc62 := NB587_599.out
              have hnb63 := NB599_588.out
              have hnc63 := NB588_599.out
              have hnb64 := NB599_600.out
              have hnc64 := NB600_599.out
              have hcz65_0 : wr.cell? ⟨gb599, 0, none⟩ = some (.int .i64 x600000_2) := (blk_cell BK599.out 0).trans rfl
              have hcz65_1 : wr.cell? ⟨gb599, 1, none⟩ = some (.int .i64 x600001_2) := (blk_cell BK599.out 1).trans rfl
              have hcz65_2 : wr.cell? ⟨gb599, 2, none⟩ = some (.int .i64 x600002_2) := (blk_cell BK599.out 2).trans rfl
              have hfz65_0 := blk_frozen BK599.out 0
              have hfz65_1 := blk_frozen BK599.out 1
              have hfz65_2 := blk_frozen BK599.out 2
              have hnb66 := NB588_587.out
              have hnc66 := NB587_588.out
              have hnb67 := NB588_600.out
              have hnc67 := NB600_588.out
              have hcz68_0 : wr.cell? ⟨gb588, 0, none⟩ = some (.int .i64 x589000_2) := (blk_cell BK588.out 0).trans rfl
              have hcz68_1 : wr.cell? ⟨gb588, 1, none⟩ = some (.int .i64 x589001_2) := (blk_cell BK588.out 1).trans rfl
              have hcz68_2 : wr.cell? ⟨gb588, 2, none⟩ = some (.int .i64 x589002_2) := (blk_cell BK588.out 2).trans rfl
              have hfz68_0 := blk_frozen BK588.out 0
              have hfz68_1 := blk_frozen BK588.out 1
              have hfz68_2 := blk_frozen BK588.out 2
              go_wp2
              refine bodyPost_ret (results_ct rfl _ _ gb588 34 #[.int .i64 x600000_2, .int .i64 x600001_2, .int .i64 x600002_2] (0, 0) _ rfl (by (with_reducible repeat (first | refine blk_drewN ?_ _ | refine blk_drew ?_ | refine blk_alloc ?_ _)); refine blk_put (cs := #[.int .i64 x600000_2, .int .i64 x600001_2, .int .i64 x589002_2]) ?_ 2 _ rfl; (with_reducible repeat (first | refine blk_drewN ?_ _ | refine blk_drew ?_ | refine blk_alloc ?_ _)); refine blk_put (cs := #[.int .i64 x600000_2, .int .i64 x589001_2, .int .i64 x589002_2]) ?_ 1 _ rfl; (with_reducible repeat (first | refine blk_drewN ?_ _ | refine blk_drew ?_ | refine blk_alloc ?_ _)); refine blk_put (cs := #[.int .i64 x589000_2, .int .i64 x589001_2, .int .i64 x589002_2]) ?_ 0 _ rfl; (with_reducible repeat (first | refine blk_drewN ?_ _ | refine blk_drew ?_ | refine blk_alloc ?_ _)); exact BK588.out) Try.underlying34 rfl (by kernel_rfl)) rfl ?_
              exact ⟨by first | rfl | (simp [errW_none, errW_some] <;> rfl) | (simp [*, errW_none, errW_some] <;> rfl), blA⟩
end Go.Proofs.Ytfkglijnbgijbaa.PAll
