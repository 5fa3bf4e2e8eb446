-- turned for this claim out of the kit's print: the same functions, packed anew
import Derived.Test.YtccpccnnbacgjaaQx
import Derived.Test.YtccpccnnbacgjaaQimplneighbour
namespace Go.Proofs.Ytccpccnnbacgjaa.PAll
open Go.RowKit Go.Proofs.YtccpccnnbacgjaaW.PrintWords Go.Proofs.YtccpccnnbacgjaaW.PrintLast Go.Proofs.YtccpccnnbacgjaaW.PrintMore
attribute [local go_sem] Go.Proofs.Ytccpccnnbacgjaa.Aux.setCell_drewN Go.Proofs.Ytccpccnnbacgjaa.Aux.isSome_setCell max2_int min2_int max_two min_two max_three min_three max_four min_four   -- for this text's walks alone
set_option linter.unusedVariables false
set_option linter.unusedSimpArgs false
/-! ### impl_someNeighbours: function 121 -/
def impl_someNeighbours.l0 : Nat → Int → List (S39) → Int → Int → Int → Int → Option ((List (S39)) × Bool)
 | 0, _, _, _, _, _, _ => none
 | k + 1, x0, x8, x9, x300000, x300001, x300002 => if x9 ≤ x0 then ((impl_neighbour.f k x0 x300000 x300001 x300002 x9).bind fun bt303 => (if bt303.2.2.2 = true then (if x8.length < 5864062014805 then (impl_someNeighbours.l0 k x0 (x8 ++ [(⟨bt303.1, bt303.2.1, bt303.2.2.1⟩ : S39)]) (wrap64 (x9 + 1)) x300000 x300001 x300002) else (none)) else (some (([] : List (S39)), false)))) else (some (x8, true))
def impl_someNeighbours.f (k : Nat) (a0 : Int) (a1_0 : Int) (a1_1 : Int) (a1_2 : Int) (a2 : Int) : Option ((List (S39)) × Bool) := impl_someNeighbours.l0 k a0 (([] : List (S39))) a2 a1_0 a1_1 a1_2
theorem impl_someNeighbours.mono_l : ∀ k, (∀ y0 y1 y2 y3 y4 y5, LeO (impl_someNeighbours.l0 k y0 y1 y2 y3 y4 y5) (impl_someNeighbours.l0 (k + 1) y0 y1 y2 y3 y4 y5))
 | 0 => fun _ _ _ _ _ _ r h => by simp [impl_someNeighbours.l0] at h
 | k + 1 => by
  have ih0 := impl_someNeighbours.mono_l k
  ·
   intro y0 y1 y2 y3 y4 y5
   unfold impl_someNeighbours.l0
   repeat' first
   | (with_reducible exact ih0 _ _ _ _ _ _)
   | (with_reducible exact impl_neighbour.mono _ _ _ _ _ _)
   | (with_reducible exact LeO.refl _)
   | (with_reducible exact LeO.none _)
   | (with_reducible refine LeO.ite ?_ ?_)
   | (with_reducible refine LeO.bind ?_ (fun _ => ?_))
theorem impl_someNeighbours.mono : ∀ a0 a1 a2 a3 a4 k, LeO (impl_someNeighbours.f k a0 a1 a2 a3 a4) (impl_someNeighbours.f (k + 1) a0 a1 a2 a3 a4) := by
 intro a0 a1 a2 a3 a4 k
 have ih0 := impl_someNeighbours.mono_l k
 unfold impl_someNeighbours.f
 repeat' first
   | (with_reducible exact ih0 _ _ _ _ _ _)
   | (with_reducible exact impl_neighbour.mono _ _ _ _ _ _)
   | (with_reducible exact LeO.refl _)
   | (with_reducible exact LeO.none _)
   | (with_reducible refine LeO.ite ?_ ?_)
   | (with_reducible refine LeO.bind ?_ (fun _ => ?_))
set_option maxHeartbeats 8000000 in
set_option maxRecDepth 100000 in
theorem impl_someNeighbours.calls (k : Nat) (a0 : Int) (a1_0 : Int) (a1_1 : Int) (a1_2 : Int) (a2 : Int) (r1 : List (S39)) (r2 : Bool) (w : World) (h : impl_someNeighbours.f k a0 a1_0 a1_1 a1_2 a2 = some (r1, r2)) :
  Calls Try.prog 121 #[.int .i64 a0, .agg #[.int .i64 a1_0, .int .i64 a1_1, .int .i64 a1_2], .int .i64 a2] w fun e w' => ∃ v0_ : Value, e = .returned (.tuple #[v0_, .bool r2]) ∧ Kd.R k39 39 w' w.heap.size (fun _ => True) v0_ r1 ∧ Below w.heap.size w w' := by
 have hu39 := Try.underlying39
 have HB := Aside0.mk (Below.refl w.heap.size w)
 have H := h
 unfold impl_someNeighbours.f at H
 clear h
 obtain ⟨y300, hy300⟩ : ∃ y_ : List (S39), y_ = (([] : List (S39))) := ⟨_, rfl⟩
 replace H : (impl_someNeighbours.l0 k a0 y300 a2 a1_0 a1_1 a1_2) = some (r1, r2) := by first | (rw [hy300]; with_reducible exact H) | (have H2_ := (Option.bind_some _ _).symm.trans H; rw [hy300]; with_reducible exact H2_) | (have H2_ := (Option.bind_some _ _).symm.trans H; with_reducible exact H2_) | with_reducible exact H | (rw [hy300]; exact H) | exact H
 have Ny300 := Aside0.mk hy300
 clear hy300
 have H' := Aside0.mk H
 clear H
 go_enter Try.func121, Try.ntmps121
 go_wp2_with (first | ((with_reducible refine gate_dst (N := 4) rfl ?_); refine box_event ?hg (N := 4) ?hd (cs := #[.int .i64 a1_0, .int .i64 a1_1, .int .i64 a1_2]) (t := 39) ?hr ?_; (case hd => rfl); (case hg => rfl); (case hr => first | (go_simp; done) | (go_simp; rfl)); intro gb299 hg w4 hbox hb; have BK299 := Aside0.mk (hbox); have GW299 := sA hg; have GE299 := sA hg; replace HB := lB hb; clear hb hbox hg) | ((with_reducible refine gate_dst (N := 12) rfl ?_); refine Kd.R_lit k39 _ 39 ?hg (N := 12) ?hd (xs := ([] : List (S39))) (inner := []) (ok := fun _ => True) (okp := fun _ => True) ?hr ?hp (fun _ hk => hk) trivial (Below.refl _ _) (Nat.le_refl _) (by simp) ?_; (case hd => rfl); (case hg => rfl); (case hr => first | (go_simp; done) | (go_simp; rfl)); (case hp => exact (Reps.none _ _)); intro v301 w5 ho6 hb hg_ hnew_; clear hg_ hnew_; (first | rw [← Ny300.out] at ho6 | (simp only [Int.reduceToNat] at ho6; rw [← Ny300.out] at ho6)); have HO302 := Aside0.mk (Kd.R_lower (Kd.R_newB ho6 (bkA BK299)) (below_size blA)); replace BK299 := kB BK299 hb; replace HB := lB hb; clear hb ho6))
 go_loopg [8, 9] k (fun kq v8 v9 w' => ∃ (x8_1 : List (S39)) (x9_1 : Int), v9 = .int .i64 x9_1 ∧ Aside0 (impl_someNeighbours.l0 kq a0 x8_1 x9_1 a1_0 a1_1 a1_2 = some (r1, r2)) ∧ Aside0 (kq ≤ k) ∧ Aside0 (Kd.R k39 39 w' w.heap.size (fun k_ => k_ ≠ gb299) v8 x8_1) ∧ Aside0 (w'.heap[gb299]? = some (.cells #[.int .i64 a1_0, .int .i64 a1_1, .int .i64 a1_2] 39 (0, 0))) ∧ Aside0 (Below w.heap.size w w'))
 case atStart => exact ⟨(y300), (a2), hB, H', ⟨Nat.le_refl _⟩, ⟨by (with_reducible repeat (first | apply Kd.R_alloc | apply Kd.R_drewN | apply Kd.R_drew)); exact Kd.R_mono HO302.out (fun _ hk => hk.2)⟩, ⟨bkA BK299⟩, ⟨blA⟩⟩
 case round =>
  clear H'
  obtain ⟨x8_1, x9_1, rfl, HA, HK1, HO_8, BK299, HB⟩ := hrel
  cases gk with
  | zero => exact absurd HA.out (by simp [impl_someNeighbours.l0])
  | succ k1 =>
   have H := HA.out
   clear HA
   simp only [impl_someNeighbours.l0] at H
   by_cases c7 : x9_1 ≤ a0
   ·
    rw [if_pos c7] at H
    have c7b0 := decide_eq_true c7
    clear c7
    replace H := bS H
    obtain ⟨⟨t303, t304, t305, t306⟩, A8, H⟩ := H
    try dsimp only at H
    by_cases c9 : t306 = true
    ·
     subst c9
     rw [if_pos rfl] at H
     try dsimp only at H
     by_cases c10 : x8_1.length < 5864062014805
     ·
      rw [if_pos c10] at H
      have LMc10 := Aside0.mk c10
      clear c10
      obtain ⟨y308, hy308⟩ : ∃ y_ : List (S39), y_ = (x8_1 ++ [(⟨t303, t304, t305⟩ : S39)]) := ⟨_, rfl⟩
      replace H : (impl_someNeighbours.l0 k1 a0 y308 (wrap64 (x9_1 + 1)) a1_0 a1_1 a1_2) = some (r1, r2) := by first | (rw [hy308]; with_reducible exact H) | (have H2_ := (Option.bind_some _ _).symm.trans H; rw [hy308]; with_reducible exact H2_) | (have H2_ := (Option.bind_some _ _).symm.trans H; with_reducible exact H2_) | with_reducible exact H | (rw [hy308]; exact H) | exact H
      have Ny308 := Aside0.mk hy308
      clear hy308
      have H' := Aside0.mk H
      clear H
      have hcz11_0 : wr.cell? ⟨gb299, 0, none⟩ = some (.int .i64 a1_0) := cA BK299 0
      have hcz11_1 : wr.cell? ⟨gb299, 1, none⟩ = some (.int .i64 a1_1) := cA BK299 1
      have hcz11_2 : wr.cell? ⟨gb299, 2, none⟩ = some (.int .i64 a1_2) := cA BK299 2
      have hfz11_0 := blk_frozen BK299.out 0
      have hfz11_1 := blk_frozen BK299.out 1
      have hfz11_2 := blk_frozen BK299.out 2
      go_wp2_with (first | ((with_reducible refine gate_callee (f := 148) rfl ?_); refine goesL_ (some 23) rfl rfl Try.func148 (by kernel_rfl) rfl #[.int .i64 a0, .agg #[.int .i64 a1_0, .int .i64 a1_1, .int .i64 a1_2], .int .i64 x9_1] rfl hA ?_; (with_reducible refine (impl_neighbour.calls k1 a0 a1_0 a1_1 a1_2 x9_1 t303 t304 t305 true _ A8.out).mono ?_); rintro e w12 ⟨rfl, hb⟩; refine ⟨_, rfl, ?_⟩; replace HO_8 := Aside0.mk (Kd.R_below (rA HO_8) hb); replace BK299 := kB BK299 hb; replace HB := lB hb; (try clear hb); (try clear hb2); (try clear hk); (try clear hi)) | ((with_reducible refine gate_dst (N := 10) rfl ?_); refine box_event ?hg (N := 10) ?hd (cs := #[.int .i64 0, .int .i64 0, .int .i64 0]) (t := 39) ?hr ?_; (case hd => rfl); (case hg => rfl); (case hr => first | (go_simp; done) | (go_simp; rfl)); intro gb307 hg w13 hbox hb; have BK307 := Aside0.mk (hbox); have GW307 := sA hg; have GE307 := sA hg; have NB299_307 := nA hg BK299; have NB307_299 := nB hg BK299; replace HO_8 := Aside0.mk (Kd.R_below (Kd.R_elderB (rA HO_8) gb307 (Nat.le_of_eq hg.symm)) hb); replace BK299 := kB BK299 hb; replace HB := lB hb; clear hb hbox hg; have hnb14 := NB307_299.out; have hnc14 := NB299_307.out; have hcz15_0 : w13.cell? ⟨gb307, 0, none⟩ = some (.int .i64 0) := cA BK307 0; have hcz15_1 : w13.cell? ⟨gb307, 1, none⟩ = some (.int .i64 0) := cA BK307 1; have hcz15_2 : w13.cell? ⟨gb307, 2, none⟩ = some (.int .i64 0) := cA BK307 2; have hfz15_0 := blk_frozen BK307.out 0; have hfz15_1 := blk_frozen BK307.out 1; have hfz15_2 := blk_frozen BK307.out 2) | ((with_reducible refine gate_builtin (b := .append) (xs := #[.tmp 28, .tmp 30]) rfl ?_); at_builtin; refine Kd.R_append k39 (w0 := w) w.heap.size rfl (.tmp 28) (.tmp 30) 36 39 (.agg #[(.int .i64 0), (.int .i64 0), (.int .i64 0)]) 24 rfl Try.underlying36 info39 rfl (by decide) (by omega) u8 x8_1 (⟨t303, t304, t305⟩ : S39) [.int .i64 t303, .int .i64 t304, .int .i64 t305] (fun k_ => k_ ≠ gb299 ∧ k_ ≠ gb307) (fun _ => False) rfl (by first | (go_simp; done) | (go_simp; rfl)) ?aP (fun _ hk => hk.elim) ?aF ?aO ?aB ?aS ?aL ?_; (case aP => exact k39_mkM _ _ _ (⟨t303, t304, t305⟩ : S39)); (case aB => exact blA); (case aF => exact (fun k_ hk => ⟨Kd.freshB (g := gb299) (o := .cells #[.int .i64 a1_0, .int .i64 a1_1, .int .i64 a1_2] 39 (0, 0)) (bkF BK299) k_ hk, Kd.freshB (g := gb307) (o := .cells #[.int .i64 t303, .int .i64 t304, .int .i64 t305] 39 (0, 0)) (by (with_reducible repeat (first | refine blk_drewN ?_ _ | refine blk_drew ?_ | refine blk_alloc ?_ _)); refine blk_put (cs := #[.int .i64 t303, .int .i64 t304, .int .i64 0]) ?_ 2 _ rfl; (with_reducible repeat (first | refine blk_drewN ?_ _ | refine blk_drew ?_ | refine blk_alloc ?_ _)); refine blk_put (cs := #[.int .i64 t303, .int .i64 0, .int .i64 0]) ?_ 1 _ rfl; (with_reducible repeat (first | refine blk_drewN ?_ _ | refine blk_drew ?_ | refine blk_alloc ?_ _)); refine blk_put (cs := #[.int .i64 0, .int .i64 0, .int .i64 0]) ?_ 0 _ rfl; (with_reducible repeat (first | refine blk_drewN ?_ _ | refine blk_drew ?_ | refine blk_alloc ?_ _)); exact BK307.out) k_ hk⟩)); (case aO => exact (by (with_reducible repeat (first | apply Kd.R_alloc | apply Kd.R_drewN | apply Kd.R_drew)); exact Kd.R_mono (Kd.R_far (p := ⟨gb307, 2, none⟩) (Kd.R_far (p := ⟨gb307, 1, none⟩) (Kd.R_far (p := ⟨gb307, 0, none⟩) (Kd.R_mono HO_8.out (fun k_ hk => (⟨hk, hk.2⟩ : _ ∧ k_ ≠ gb307))) (fun _ hk => hk.2) (.int .i64 t303)) (fun _ hk => hk.2) (.int .i64 t304)) (fun _ hk => hk.2) (.int .i64 t305)) (fun _ hk => ⟨hk.1.1, hk.1.2⟩))); (case aS => exact (below_size blA)); (case aL => have := LMc10.out; omega); intro v309 w16 ho hb hg hat; rw [← Ny308.out] at ho; have n0_ := Aside0.mk (blk_grown (g := gb299) (o := .cells #[.int .i64 a1_0, .int .i64 a1_1, .int .i64 a1_2] 39 (0, 0)) (bkF BK299) hg (Kd.R_away HO_8.out (fun _ hk => hk.1))); have n1_ := Aside0.mk (blk_grown (g := gb307) (o := .cells #[.int .i64 t303, .int .i64 t304, .int .i64 t305] 39 (0, 0)) (by (with_reducible repeat (first | refine blk_drewN ?_ _ | refine blk_drew ?_ | refine blk_alloc ?_ _)); refine blk_put (cs := #[.int .i64 t303, .int .i64 t304, .int .i64 0]) ?_ 2 _ rfl; (with_reducible repeat (first | refine blk_drewN ?_ _ | refine blk_drew ?_ | refine blk_alloc ?_ _)); refine blk_put (cs := #[.int .i64 t303, .int .i64 0, .int .i64 0]) ?_ 1 _ rfl; (with_reducible repeat (first | refine blk_drewN ?_ _ | refine blk_drew ?_ | refine blk_alloc ?_ _)); refine blk_put (cs := #[.int .i64 0, .int .i64 0, .int .i64 0]) ?_ 0 _ rfl; (with_reducible repeat (first | refine blk_drewN ?_ _ | refine blk_drew ?_ | refine blk_alloc ?_ _)); exact BK307.out) hg (Kd.R_away HO_8.out (fun _ hk => hk.2))); have n2_ := Aside0.mk (hb); have n3_ := Aside0.mk (ho); clear BK299; clear BK307; clear HB; clear HO_8; have BK299 := n0_; have BK307 := n1_; have HB := n2_; have HO310 := n3_; clear n0_ n1_ n2_ n3_; clear ho hb hg hat))
      go_roundg k1
      case measure => have := HK1.out; omega
      case rel => exact ⟨(y308), (wrap64 (x9_1 + 1)), hB, H', ⟨by have := HK1.out; omega⟩, ⟨by (with_reducible repeat (first | apply Kd.R_alloc | apply Kd.R_drewN | apply Kd.R_drew)); exact Kd.R_mono HO310.out (fun _ hk => hk.1)⟩, ⟨bkA BK299⟩, ⟨blA⟩⟩
     ·
      rw [if_neg c10] at H
      exact absurd H (by simp)
    ·
     replace c9 := Bool.eq_false_iff.mpr c9
     subst c9
     rw [if_neg (show ¬ (false = true) by decide)] at H
     try dsimp only at H
     simp only [Option.some.injEq, Prod.mk.injEq] at H
     obtain ⟨rfl, rfl⟩ := H
     have hcz17_0 : wr.cell? ⟨gb299, 0, none⟩ = some (.int .i64 a1_0) := cA BK299 0
     have hcz17_1 : wr.cell? ⟨gb299, 1, none⟩ = some (.int .i64 a1_1) := cA BK299 1
     have hcz17_2 : wr.cell? ⟨gb299, 2, none⟩ = some (.int .i64 a1_2) := cA BK299 2
     have hfz17_0 := blk_frozen BK299.out 0
     have hfz17_1 := blk_frozen BK299.out 1
     have hfz17_2 := blk_frozen BK299.out 2
     go_wp2_with (first | ((with_reducible refine gate_callee (f := 148) rfl ?_); refine goesL_ (some 23) rfl rfl Try.func148 (by kernel_rfl) rfl #[.int .i64 a0, .agg #[.int .i64 a1_0, .int .i64 a1_1, .int .i64 a1_2], .int .i64 x9_1] rfl hA ?_; (with_reducible refine (impl_neighbour.calls k1 a0 a1_0 a1_1 a1_2 x9_1 t303 t304 t305 false _ A8.out).mono ?_); rintro e w18 ⟨rfl, hb⟩; refine ⟨_, rfl, ?_⟩; replace HO_8 := Aside0.mk (Kd.R_below (rA HO_8) hb); replace BK299 := kB BK299 hb; replace HB := lB hb; (try clear hb); (try clear hb2); (try clear hk); (try clear hi)) | ((with_reducible refine gate_dst (N := 10) rfl ?_); refine box_event ?hg (N := 10) ?hd (cs := #[.int .i64 0, .int .i64 0, .int .i64 0]) (t := 39) ?hr ?_; (case hd => rfl); (case hg => rfl); (case hr => first | (go_simp; done) | (go_simp; rfl)); intro gb307 hg w19 hbox hb; have BK307 := Aside0.mk (hbox); have GW307 := sA hg; have GE307 := sA hg; have NB299_307 := nA hg BK299; have NB307_299 := nB hg BK299; replace HO_8 := Aside0.mk (Kd.R_below (Kd.R_elderB (rA HO_8) gb307 (Nat.le_of_eq hg.symm)) hb); replace BK299 := kB BK299 hb; replace HB := lB hb; clear hb hbox hg; have hnb20 := NB307_299.out; have hnc20 := NB299_307.out; have hcz21_0 : w19.cell? ⟨gb307, 0, none⟩ = some (.int .i64 0) := cA BK307 0; have hcz21_1 : w19.cell? ⟨gb307, 1, none⟩ = some (.int .i64 0) := cA BK307 1; have hcz21_2 : w19.cell? ⟨gb307, 2, none⟩ = some (.int .i64 0) := cA BK307 2; have hfz21_0 := blk_frozen BK307.out 0; have hfz21_1 := blk_frozen BK307.out 1; have hfz21_2 := blk_frozen BK307.out 2))
     go_ret2
     exact ⟨_, by first | rfl | (simp [errW_none, errW_some] <;> rfl) | (simp [*, errW_none, errW_some] <;> rfl), by first | exact Kd.R_nil _ _ _ _ _ | exact Kd.N_nil _ _ _ _ _ | exact Kd.V_nil _ _ _ _ _ | exact Kd.Q_nil _ _ _ _ _ | exact Kd.S_nil _ _ _ _ _, blA⟩
   ·
    rw [if_neg c7] at H
    have c7b0 := decide_eq_false c7
    clear c7
    simp only [Option.some.injEq, Prod.mk.injEq] at H
    obtain ⟨rfl, rfl⟩ := H
    go_wp2
    go_ret2
    exact ⟨_, by first | rfl | (simp [errW_none, errW_some] <;> rfl) | (simp [*, errW_none, errW_some] <;> rfl), by (with_reducible repeat (first | apply Kd.R_alloc | apply Kd.R_drewN | apply Kd.R_drew)); exact Kd.R_mono HO_8.out (fun _ hk => trivial), blA⟩
end Go.Proofs.Ytccpccnnbacgjaa.PAll
