-- turned for this claim out of the kit's print: the same functions, packed anew
import Derived.Test.YtnejmbhpngdiiaaQx
import Derived.Test.YtnejmbhpngdiiaaQimplareEnds
import Derived.Test.YtnejmbhpngdiiaaQspecl05Code
namespace Go.Proofs.Ytnejmbhpngdiiaa.PAll
open Go.RowKit Go.Proofs.YtnejmbhpngdiiaaW.PrintWords Go.Proofs.YtnejmbhpngdiiaaW.PrintLast Go.Proofs.YtnejmbhpngdiiaaW.PrintMore
attribute [local go_sem] Go.Proofs.Ytnejmbhpngdiiaa.Aux.setCell_drewN Go.Proofs.Ytnejmbhpngdiiaa.Aux.isSome_setCell Go.Proofs.Ytnejmbhpngdiiaa.Aux.max_eight max2_int min2_int max_two min_two max_three min_three max_four min_four   -- for this text's walks alone
set_option linter.unusedVariables false
set_option linter.unusedSimpArgs false
/-! ### impl_endAt: function 17 -/
def impl_endAt.f (k : Nat) (a0 : Int) (a1 : Int) : Option (Int × Int × Bool) := if a1 = 0 then (some (1, 0, true)) else ((impl_gcd.f k a0 a1).bind fun t178 => (if a1 < 0 then (if (wrap64 (-t178)) = 0 then (none) else ((impl_IsEnd.f k (wrap64 (Int.tdiv a0 (wrap64 (-t178)))) (wrap64 (Int.tdiv a1 (wrap64 (-t178))))).bind fun t180 => (some (wrap64 (Int.tdiv a0 (wrap64 (-t178))), wrap64 (Int.tdiv a1 (wrap64 (-t178))), t180)))) else (if t178 = 0 then (none) else ((impl_IsEnd.f k (wrap64 (Int.tdiv a0 t178)) (wrap64 (Int.tdiv a1 t178))).bind fun t182 => (some (wrap64 (Int.tdiv a0 t178), wrap64 (Int.tdiv a1 t178), t182))))))
theorem impl_endAt.mono : ∀ a0 a1 k, LeO (impl_endAt.f k a0 a1) (impl_endAt.f (k + 1) a0 a1) := by
 intro a0 a1 k
 unfold impl_endAt.f
 repeat' first
   | (with_reducible exact impl_IsEnd.mono _ _ _)
   | (with_reducible exact impl_gcd.mono _ _ _)
   | (with_reducible exact LeO.refl _)
   | (with_reducible exact LeO.none _)
   | (with_reducible refine LeO.ite ?_ ?_)
   | (with_reducible refine LeO.bind ?_ (fun _ => ?_))
def impl_endAt.T6 : Bool × List (List Nat × List Nat) := (true, [([], []), ([], []), ([0, 1], [0, 1]), ([], []), ([], []), ([3, 4], [3, 4]), ([2, 5], [2, 5]), ([], []), ([7, 6, 0, 1, 2, 3, 4, 5, 6, 7], [6, 7])])
def impl_endAt.B6 : List Nat := [0, 0, 3, 0, 0, 24, 63, 0, 255]
theorem impl_endAt.tab6 : rtab .any (opsOf Try.f17 6) = impl_endAt.T6 := by kernel_rfl
theorem impl_endAt.bits6 : waitsOk impl_endAt.T6.2 impl_endAt.B6 = true := by kernel_rfl
set_option maxHeartbeats 8000000 in
set_option maxRecDepth 100000 in
theorem impl_endAt.calls (k : Nat) (a0 : Int) (a1 : Int) (r1 : Int) (r2 : Int) (r3 : Bool) (w : World) (h : impl_endAt.f k a0 a1 = some (r1, r2, r3)) :
  Calls Try.prog 17 #[.int .i64 a0, .int .i64 a1] w fun e w' => e = .returned (.tuple #[.agg #[.int .i64 r1, .int .i64 r2], .bool r3]) ∧ Below w.heap.size w w' := by
 have hu24 := Try.underlying24
 have HB := Aside0.mk (Below.refl w.heap.size w)
 have H := h
 unfold impl_endAt.f at H
 clear h
 by_cases c3 : a1 = 0
 ·
  rw [if_pos c3] at H
  have c3b0 : (a1 == 0) = true := beq_iff_eq.mpr c3
  have c3b1 : (a1 != 0) = false := bne_eq_false_iff_eq.mpr c3
  clear c3
  simp only [Option.some.injEq, Prod.mk.injEq] at H
  obtain ⟨rfl, rfl, rfl⟩ := H
  go_enter Try.func17, Try.ntmps17
  go_wp2_with (first | ((with_reducible refine gate_dst (N := 4) rfl ?_); refine box_event ?hg (N := 4) ?hd (cs := #[.int .i64 0, .int .i64 0]) (t := 24) ?hr ?_; (case hd => rfl); (case hg => rfl); (case hr => first | (go_simp; done) | (go_simp; rfl)); intro gb177 hg w4 hbox hb; have n0_ := lB hb; have n1_ := Aside0.mk (hbox); have n2_ := sA hg; have n3_ := sA hg; clear HB; have HB := n0_; have BK177 := n1_; have GW177 := n2_; have GE177 := n3_; clear n0_ n1_ n2_ n3_; clear hb hbox hg; obtain ⟨hcz5_0, hcz5_1, hfz5_0, hfz5_1⟩ := cz2 BK177))
  refine bodyPost_ret (results_ct rfl _ _ gb177 24 #[.int .i64 1, .int .i64 0] (0, 0) _ rfl (by refine dr ?_; refine blk_put (cs := #[.int .i64 1, .int .i64 0]) ?_ 1 _ rfl; refine dr ?_; refine blk_put (cs := #[.int .i64 0, .int .i64 0]) ?_ 0 _ rfl; exact bkA BK177) Try.underlying24 rfl (by kernel_rfl)) rfl ?_
  exact finA blA
 ·
  rw [if_neg c3] at H
  have c3b0 : (a1 == 0) = false := beq_eq_false_iff_ne.mpr c3
  have c3b1 : (a1 != 0) = true := bne_iff_ne.mpr c3
  replace H := bS H
  obtain ⟨t178, A6, H⟩ := H
  try dsimp only at H
  by_cases c7 : a1 < 0
  ·
   rw [if_pos c7] at H
   have c7b0 := decide_eq_true c7
   clear c7
   by_cases c8 : (wrap64 (-t178)) = 0
   ·
    rw [if_pos c8] at H
    exact absurd H (by simp)
   ·
    rw [if_neg c8] at H
    have c8b0 : ((wrap64 (-t178)) == 0) = false := beq_eq_false_iff_ne.mpr c8
    have c8b1 : ((wrap64 (-t178)) != 0) = true := bne_iff_ne.mpr c8
    replace H := bS H
    obtain ⟨t180, A9, H⟩ := H
    try dsimp only at H
    simp only [Option.some.injEq, Prod.mk.injEq] at H
    obtain ⟨rfl, rfl, rfl⟩ := H
    go_enter Try.func17, Try.ntmps17
    try go_wp2_with (first | ((with_reducible refine gate_dst (N := 4) rfl ?_); refine box_event ?hg (N := 4) ?hd (cs := #[.int .i64 0, .int .i64 0]) (t := 24) ?hr ?_; (case hd => rfl); (case hg => rfl); (case hr => first | (go_simp; done) | (go_simp; rfl)); intro gb177 hg w10 hbox hb; have n0_ := lB hb; have n1_ := Aside0.mk (hbox); have n2_ := sA hg; have n3_ := sA hg; clear HB; have HB := n0_; have BK177 := n1_; have GW177 := n2_; have GE177 := n3_; clear n0_ n1_ n2_ n3_; clear hb hbox hg) | ((with_reducible refine gate_callee (f := 14) rfl ?_); refine goesL_ (some 13) rfl rfl Try.func14 (by kernel_rfl) rfl #[.int .i64 a0, .int .i64 a1] rfl hA ?_; (with_reducible refine (impl_gcd.calls k a0 a1 t178 _ A6.out).mono ?_); rintro e w11 ⟨rfl, hb⟩; refine ⟨_, rfl, ?_⟩; have n0_ := kB BK177 hb; have n1_ := lB hb; clear BK177; clear HB; have BK177 := n0_; have HB := n1_; clear n0_ n1_; (try clear hb); (try clear hb2); (try clear hk); (try clear hi)))
    have n0_ := Aside0.mk (blk_drew BK177.out)
    have n1_ := Aside0.mk (below_drew1 HB.out)
    clear BK177
    clear HB
    have BK177 := n0_
    have HB := n1_
    clear n0_ n1_
    refine start_ (n := 9) (S := fun w' => True) (ds := []) #[Z, Z, Z, Z, Z, Z, Z, Z, Z] (by kernel_rfl) rfl rfl trivial (fun hHeld => ?_); refine with_tabW impl_endAt.tab6 impl_endAt.bits6 (fun HT_ HW_ => ?_)
    generalize w11.drew = w12 at BK177 HB hHeld ⊢
    refine puA (i := 0) (N := some 18) #[Y, Z, Z, Z, Z, Z, Z, Z, Z] rfl rfl HT_ ?_
    refine puA (i := 1) (N := some 19) #[Y, Y, Z, Z, Z, Z, Z, Z, Z] rfl rfl HT_ ?_
    refine puA (i := 2) (N := some 20) #[Y, Y, Y, Z, Z, Z, Z, Z, Z] rfl rfl HT_ ?_
    refine puA (i := 3) (N := some 21) #[Y, Y, Y, Y, Z, Z, Z, Z, Z] rfl rfl HT_ ?_
    refine puA (i := 4) (N := some 22) #[Y, Y, Y, Y, Y, Z, Z, Z, Z] rfl rfl HT_ ?_
    refine puA (i := 5) (N := some 23) #[Y, Y, Y, Y, Y, Y, Z, Z, Z] rfl rfl HT_ ?_
    refine puA (i := 6) (N := some 24) #[Y, Y, Y, Y, Y, Y, Y, Z, Z] rfl rfl HT_ ?_
    refine one_ (i := 7) (N := some 7) #[Y, Y, Y, Y, Y, Y, Y, Y, Z] rfl rfl (one_of HT_.out (by kernel_rfl)) (by decide) (fun K hK => ?_)
    refine box_step ?hg (N := 7) ?hd (cs := #[.int .i64 0, .int .i64 0]) (t := 24) ?hr ?_; (case hd => rfl); (case hg => rfl); (case hr => first | (go_simp; done) | (go_simp; rfl))
    intro gb179 hg w13 hbox hb
    have BK179 := Aside0.mk (hbox)
    have GW179 := sA hg
    have GE179 := sA hg
    have NB177_179 := nA hg BK177
    have NB179_177 := nB hg BK177
    replace BK177 := kB BK177 hb
    replace HB := lB hb
    clear hb hbox hg
    refine hK.out _ _ trivial (fun hHeld => ?_)
    clear hK K
    refine norm_ (a' := ?_) ?_ ?_
    rotate_left
    ·
     show Act.put _ (some 7) _ = _
     simp only [pA]
     rfl
    refine one_ (i := 8) (N := none) #[Y, Y, Y, Y, Y, Y, Y, Y, Y] rfl rfl (one_of HT_.out (by kernel_rfl)) (by decide) (fun K hK => ?_)
    have hs14 : w13.cell? ⟨gb179, 0, none⟩ = some (.int .i64 0) := cA BK179 0
    have hfs14 := blk_frozen BK179.out 0
    have hns14_0 := NB177_179.out
    have hms14_0 := NB179_177.out
    have hs15 : w13.cell? ⟨gb179, 1, none⟩ = some (.int .i64 0) := cA BK179 1
    have hfs15 := blk_frozen BK179.out 1
    have hns15_0 := NB177_179.out
    have hms15_0 := NB179_177.out
    refine skip_ (w1 := ?_) (by rfl) rfl ?_ ?_
    rotate_left
    ·
     go_simp
     rfl
    refine hK.out _ _ trivial (fun hHeld => ?_)
    clear hK K
    refine done_ (done_of HT_.out (by kernel_rfl)) ?_
    try go_wp2
    have n0_ : Aside0 (((w13.setCell ⟨gb179, 0, none⟩ (.int .i64 (wrap64 (Int.tdiv a0 (wrap64 (-t178)))))).setCell ⟨gb179, 1, none⟩ (.int .i64 (wrap64 (Int.tdiv a1 (wrap64 (-t178)))))).heap[gb177]? = some (.cells #[.int .i64 0, .int .i64 0] 24 (0, 0))) := ⟨bkF BK177⟩
    have n1_ : Aside0 (((w13.setCell ⟨gb179, 0, none⟩ (.int .i64 (wrap64 (Int.tdiv a0 (wrap64 (-t178)))))).setCell ⟨gb179, 1, none⟩ (.int .i64 (wrap64 (Int.tdiv a1 (wrap64 (-t178)))))).heap[gb179]? = some (.cells #[.int .i64 (wrap64 (Int.tdiv a0 (wrap64 (-t178)))), .int .i64 (wrap64 (Int.tdiv a1 (wrap64 (-t178))))] 24 (0, 0))) := ⟨by refine dr ?_; refine blk_put (cs := #[.int .i64 (wrap64 (Int.tdiv a0 (wrap64 (-t178)))), .int .i64 0]) ?_ 1 _ rfl; refine dr ?_; refine blk_put (cs := #[.int .i64 0, .int .i64 0]) ?_ 0 _ rfl; exact bkA BK179⟩
    have n2_ : Aside0 (Below w.heap.size w ((w13.setCell ⟨gb179, 0, none⟩ (.int .i64 (wrap64 (Int.tdiv a0 (wrap64 (-t178)))))).setCell ⟨gb179, 1, none⟩ (.int .i64 (wrap64 (Int.tdiv a1 (wrap64 (-t178))))))) := ⟨blA⟩
    (try clear BK177)
    (try clear BK179)
    (try clear HB)
    generalize ((w13.setCell ⟨gb179, 0, none⟩ (.int .i64 (wrap64 (Int.tdiv a0 (wrap64 (-t178)))))).setCell ⟨gb179, 1, none⟩ (.int .i64 (wrap64 (Int.tdiv a1 (wrap64 (-t178)))))) = w16 at n0_ n1_ n2_ ⊢
    have BK177 := n0_
    have BK179 := n1_
    have HB := n2_
    clear n0_ n1_ n2_
    have n0_ := Aside0.mk (blk_drew BK177.out)
    have n1_ := Aside0.mk (blk_drew BK179.out)
    have n2_ := Aside0.mk (below_drew1 HB.out)
    clear BK177
    clear BK179
    clear HB
    have BK177 := n0_
    have BK179 := n1_
    have HB := n2_
    clear n0_ n1_ n2_
    refine start_ (n := 5) (S := fun w' => w'.cell? ⟨gb179, 0, none⟩ = some (.int .i64 (wrap64 (Int.tdiv a0 (wrap64 (-t178))))) ∧ w'.cell? ⟨gb179, 1, none⟩ = some (.int .i64 (wrap64 (Int.tdiv a1 (wrap64 (-t178)))))) (ds := []) #[Z, Z, Z, Z, Z] (by kernel_rfl) rfl rfl ⟨cA BK179 0, cA BK179 1⟩ (fun hHeld => ?_)
    generalize w16.drew = w17 at BK177 BK179 HB hHeld ⊢
    refine take_ (i := 0) (N := some 25) (v := ?_) (a' := ?_) #[Y, Z, Z, Z, Z] rfl rfl (by kernel_rfl) (fun _ _ _ h => h) (Or.inl ⟨by rfl, ?_⟩) hHeld ?_ ?_
    rotate_left
    ·
     rintro w' ⟨s0, s1⟩
     go_simp
     with_reducible rfl
    rotate_left
    ·
     simp only [pA]
     rfl
    refine take_ (i := 1) (N := some 26) (v := ?_) (a' := ?_) #[Y, Y, Z, Z, Z] rfl rfl (by kernel_rfl) (fun _ _ _ h => h) (Or.inl ⟨by rfl, ?_⟩) hHeld ?_ ?_
    rotate_left
    ·
     rintro w' ⟨s0, s1⟩
     go_simp
     with_reducible rfl
    rotate_left
    ·
     simp only [pA]
     rfl
    refine one_ (i := 2) (N := some 27) #[Y, Y, Y, Z, Z] rfl rfl (by kernel_rfl) (by decide) (fun K hK => ?_)
    refine goes_ Try.func23 (by kernel_rfl) rfl #[.agg #[.int .i64 (wrap64 (Int.tdiv a0 (wrap64 (-t178)))), .int .i64 (wrap64 (Int.tdiv a1 (wrap64 (-t178))))]] (by rfl) rfl rfl hA ?_
    with_reducible refine (impl_IsEnd.calls k (wrap64 (Int.tdiv a0 (wrap64 (-t178)))) (wrap64 (Int.tdiv a1 (wrap64 (-t178)))) t180 _ A9.out).mono ?_
    rintro e w18 ⟨rfl, hb⟩
    refine ⟨_, rfl, ?_⟩
    replace BK177 := kB BK177 hb
    replace BK179 := kB BK179 hb
    replace HB := lB hb
    (try clear hb)
    (try clear hb2)
    (try clear hk)
    (try clear hi)
    refine hK.out _ _ ⟨cA BK179 0, cA BK179 1⟩ (fun hHeld => ?_)
    clear hK K
    refine norm_ (a' := ?_) ?_ ?_
    rotate_left
    ·
     show Act.put _ (some 27) _ = _
     simp only [pA]
     rfl
    refine one_ (i := 3) (N := none) #[Y, Y, Y, Y, Z] rfl rfl (by kernel_rfl) (by decide) (fun K hK => ?_)
    have hs19 : w18.cell? ⟨gb177, 0, none⟩ = some (.int .i64 0) := cA BK177 0
    have hfs19 := blk_frozen BK177.out 0
    have hns19_1 := NB179_177.out
    have hms19_1 := NB177_179.out
    have hs20 : w18.cell? ⟨gb177, 1, none⟩ = some (.int .i64 0) := cA BK177 1
    have hfs20 := blk_frozen BK177.out 1
    have hns20_1 := NB179_177.out
    have hms20_1 := NB177_179.out
    refine skip_ (w1 := ?_) (by rfl) rfl ?_ ?_
    rotate_left
    ·
     go_simp
     rfl
    refine hK.out _ _ ⟨((cell_far (p := ⟨gb177, _, none⟩) NB179_177.out _).trans (((cell_far (p := ⟨gb177, _, none⟩) NB179_177.out _).trans (hHeld.1)))), ((cell_far (p := ⟨gb177, _, none⟩) NB179_177.out _).trans (((cell_far (p := ⟨gb177, _, none⟩) NB179_177.out _).trans (hHeld.2))))⟩ (fun hHeld => ?_)
    clear hK K
    refine pure_ (i := 4) (N := some 5) (v := ?_) (a' := ?_) #[Y, Y, Y, Y, Y] rfl rfl (by kernel_rfl) (fun _ _ _ h => h) (Or.inl ⟨by rfl, ?_⟩) ?_ ?_
    rotate_left
    ·
     intro w'
     go_simp
     with_reducible rfl
    rotate_left
    ·
     simp only [pA]
     rfl
    refine done_ (by kernel_rfl) ?_
    try go_wp2
    refine bodyPost_ret (results_ct rfl _ _ gb177 24 #[.int .i64 (wrap64 (Int.tdiv a0 (wrap64 (-t178)))), .int .i64 (wrap64 (Int.tdiv a1 (wrap64 (-t178))))] (0, 0) _ rfl (by refine dr ?_; refine blk_put (cs := #[.int .i64 (wrap64 (Int.tdiv a0 (wrap64 (-t178)))), .int .i64 0]) ?_ 1 _ rfl; refine dr ?_; refine blk_put (cs := #[.int .i64 0, .int .i64 0]) ?_ 0 _ rfl; exact bkA BK177) Try.underlying24 rfl (by kernel_rfl)) rfl ?_
    exact finA blA
  ·
   rw [if_neg c7] at H
   have c7b0 := decide_eq_false c7
   clear c7
   by_cases c21 : t178 = 0
   ·
    rw [if_pos c21] at H
    exact absurd H (by simp)
   ·
    rw [if_neg c21] at H
    have c21b0 : (t178 == 0) = false := beq_eq_false_iff_ne.mpr c21
    have c21b1 : (t178 != 0) = true := bne_iff_ne.mpr c21
    replace H := bS H
    obtain ⟨t182, A22, H⟩ := H
    try dsimp only at H
    simp only [Option.some.injEq, Prod.mk.injEq] at H
    obtain ⟨rfl, rfl, rfl⟩ := H
    go_enter Try.func17, Try.ntmps17
    try go_wp2_with (first | ((with_reducible refine gate_dst (N := 4) rfl ?_); refine box_event ?hg (N := 4) ?hd (cs := #[.int .i64 0, .int .i64 0]) (t := 24) ?hr ?_; (case hd => rfl); (case hg => rfl); (case hr => first | (go_simp; done) | (go_simp; rfl)); intro gb177 hg w23 hbox hb; have n0_ := lB hb; have n1_ := Aside0.mk (hbox); have n2_ := sA hg; have n3_ := sA hg; clear HB; have HB := n0_; have BK177 := n1_; have GW177 := n2_; have GE177 := n3_; clear n0_ n1_ n2_ n3_; clear hb hbox hg) | ((with_reducible refine gate_callee (f := 14) rfl ?_); refine goesL_ (some 13) rfl rfl Try.func14 (by kernel_rfl) rfl #[.int .i64 a0, .int .i64 a1] rfl hA ?_; (with_reducible refine (impl_gcd.calls k a0 a1 t178 _ A6.out).mono ?_); rintro e w24 ⟨rfl, hb⟩; refine ⟨_, rfl, ?_⟩; have n0_ := kB BK177 hb; have n1_ := lB hb; clear BK177; clear HB; have BK177 := n0_; have HB := n1_; clear n0_ n1_; (try clear hb); (try clear hb2); (try clear hk); (try clear hi)))
    have n0_ := Aside0.mk (blk_drew BK177.out)
    have n1_ := Aside0.mk (below_drew1 HB.out)
    clear BK177
    clear HB
    have BK177 := n0_
    have HB := n1_
    clear n0_ n1_
    refine start_ (n := 9) (S := fun w' => True) (ds := []) #[Z, Z, Z, Z, Z, Z, Z, Z, Z] (by kernel_rfl) rfl rfl trivial (fun hHeld => ?_); refine with_tabW impl_endAt.tab6 impl_endAt.bits6 (fun HT_ HW_ => ?_)
    generalize w24.drew = w25 at BK177 HB hHeld ⊢
    refine puA (i := 0) (N := some 18) #[Y, Z, Z, Z, Z, Z, Z, Z, Z] rfl rfl HT_ ?_
    refine puA (i := 1) (N := some 19) #[Y, Y, Z, Z, Z, Z, Z, Z, Z] rfl rfl HT_ ?_
    refine puA (i := 2) (N := some 20) #[Y, Y, Y, Z, Z, Z, Z, Z, Z] rfl rfl HT_ ?_
    refine puA (i := 3) (N := some 21) #[Y, Y, Y, Y, Z, Z, Z, Z, Z] rfl rfl HT_ ?_
    refine puA (i := 4) (N := some 22) #[Y, Y, Y, Y, Y, Z, Z, Z, Z] rfl rfl HT_ ?_
    refine puA (i := 5) (N := some 23) #[Y, Y, Y, Y, Y, Y, Z, Z, Z] rfl rfl HT_ ?_
    refine puA (i := 6) (N := some 24) #[Y, Y, Y, Y, Y, Y, Y, Z, Z] rfl rfl HT_ ?_
    refine one_ (i := 7) (N := some 7) #[Y, Y, Y, Y, Y, Y, Y, Y, Z] rfl rfl (one_of HT_.out (by kernel_rfl)) (by decide) (fun K hK => ?_)
    refine box_step ?hg (N := 7) ?hd (cs := #[.int .i64 0, .int .i64 0]) (t := 24) ?hr ?_; (case hd => rfl); (case hg => rfl); (case hr => first | (go_simp; done) | (go_simp; rfl))
    intro gb181 hg w26 hbox hb
    have BK181 := Aside0.mk (hbox)
    have GW181 := sA hg
    have GE181 := sA hg
    have NB177_181 := nA hg BK177
    have NB181_177 := nB hg BK177
    replace BK177 := kB BK177 hb
    replace HB := lB hb
    clear hb hbox hg
    refine hK.out _ _ trivial (fun hHeld => ?_)
    clear hK K
    refine norm_ (a' := ?_) ?_ ?_
    rotate_left
    ·
     show Act.put _ (some 7) _ = _
     simp only [pA]
     rfl
    refine one_ (i := 8) (N := none) #[Y, Y, Y, Y, Y, Y, Y, Y, Y] rfl rfl (one_of HT_.out (by kernel_rfl)) (by decide) (fun K hK => ?_)
    have hs27 : w26.cell? ⟨gb181, 0, none⟩ = some (.int .i64 0) := cA BK181 0
    have hfs27 := blk_frozen BK181.out 0
    have hns27_0 := NB177_181.out
    have hms27_0 := NB181_177.out
    have hs28 : w26.cell? ⟨gb181, 1, none⟩ = some (.int .i64 0) := cA BK181 1
    have hfs28 := blk_frozen BK181.out 1
    have hns28_0 := NB177_181.out
    have hms28_0 := NB181_177.out
    refine skip_ (w1 := ?_) (by rfl) rfl ?_ ?_
    rotate_left
    ·
     go_simp
     rfl
    refine hK.out _ _ trivial (fun hHeld => ?_)
    clear hK K
    refine done_ (done_of HT_.out (by kernel_rfl)) ?_
    try go_wp2
    have n0_ : Aside0 (((w26.setCell ⟨gb181, 0, none⟩ (.int .i64 (wrap64 (Int.tdiv a0 t178)))).setCell ⟨gb181, 1, none⟩ (.int .i64 (wrap64 (Int.tdiv a1 t178)))).heap[gb177]? = some (.cells #[.int .i64 0, .int .i64 0] 24 (0, 0))) := ⟨bkF BK177⟩
    have n1_ : Aside0 (((w26.setCell ⟨gb181, 0, none⟩ (.int .i64 (wrap64 (Int.tdiv a0 t178)))).setCell ⟨gb181, 1, none⟩ (.int .i64 (wrap64 (Int.tdiv a1 t178)))).heap[gb181]? = some (.cells #[.int .i64 (wrap64 (Int.tdiv a0 t178)), .int .i64 (wrap64 (Int.tdiv a1 t178))] 24 (0, 0))) := ⟨by refine dr ?_; refine blk_put (cs := #[.int .i64 (wrap64 (Int.tdiv a0 t178)), .int .i64 0]) ?_ 1 _ rfl; refine dr ?_; refine blk_put (cs := #[.int .i64 0, .int .i64 0]) ?_ 0 _ rfl; exact bkA BK181⟩
    have n2_ : Aside0 (Below w.heap.size w ((w26.setCell ⟨gb181, 0, none⟩ (.int .i64 (wrap64 (Int.tdiv a0 t178)))).setCell ⟨gb181, 1, none⟩ (.int .i64 (wrap64 (Int.tdiv a1 t178))))) := ⟨blA⟩
    (try clear BK177)
    (try clear BK181)
    (try clear HB)
    generalize ((w26.setCell ⟨gb181, 0, none⟩ (.int .i64 (wrap64 (Int.tdiv a0 t178)))).setCell ⟨gb181, 1, none⟩ (.int .i64 (wrap64 (Int.tdiv a1 t178)))) = w29 at n0_ n1_ n2_ ⊢
    have BK177 := n0_
    have BK181 := n1_
    have HB := n2_
    clear n0_ n1_ n2_
    have n0_ := Aside0.mk (blk_drew BK177.out)
    have n1_ := Aside0.mk (blk_drew BK181.out)
    have n2_ := Aside0.mk (below_drew1 HB.out)
    clear BK177
    clear BK181
    clear HB
    have BK177 := n0_
    have BK181 := n1_
    have HB := n2_
    clear n0_ n1_ n2_
    refine start_ (n := 5) (S := fun w' => w'.cell? ⟨gb181, 0, none⟩ = some (.int .i64 (wrap64 (Int.tdiv a0 t178))) ∧ w'.cell? ⟨gb181, 1, none⟩ = some (.int .i64 (wrap64 (Int.tdiv a1 t178)))) (ds := []) #[Z, Z, Z, Z, Z] (by kernel_rfl) rfl rfl ⟨cA BK181 0, cA BK181 1⟩ (fun hHeld => ?_)
    generalize w29.drew = w30 at BK177 BK181 HB hHeld ⊢
    refine take_ (i := 0) (N := some 25) (v := ?_) (a' := ?_) #[Y, Z, Z, Z, Z] rfl rfl (by kernel_rfl) (fun _ _ _ h => h) (Or.inl ⟨by rfl, ?_⟩) hHeld ?_ ?_
    rotate_left
    ·
     rintro w' ⟨s0, s1⟩
     go_simp
     with_reducible rfl
    rotate_left
    ·
     simp only [pA]
     rfl
    refine take_ (i := 1) (N := some 26) (v := ?_) (a' := ?_) #[Y, Y, Z, Z, Z] rfl rfl (by kernel_rfl) (fun _ _ _ h => h) (Or.inl ⟨by rfl, ?_⟩) hHeld ?_ ?_
    rotate_left
    ·
     rintro w' ⟨s0, s1⟩
     go_simp
     with_reducible rfl
    rotate_left
    ·
     simp only [pA]
     rfl
    refine one_ (i := 2) (N := some 27) #[Y, Y, Y, Z, Z] rfl rfl (by kernel_rfl) (by decide) (fun K hK => ?_)
    refine goes_ Try.func23 (by kernel_rfl) rfl #[.agg #[.int .i64 (wrap64 (Int.tdiv a0 t178)), .int .i64 (wrap64 (Int.tdiv a1 t178))]] (by rfl) rfl rfl hA ?_
    with_reducible refine (impl_IsEnd.calls k (wrap64 (Int.tdiv a0 t178)) (wrap64 (Int.tdiv a1 t178)) t182 _ A22.out).mono ?_
    rintro e w31 ⟨rfl, hb⟩
    refine ⟨_, rfl, ?_⟩
    replace BK177 := kB BK177 hb
    replace BK181 := kB BK181 hb
    replace HB := lB hb
    (try clear hb)
    (try clear hb2)
    (try clear hk)
    (try clear hi)
    refine hK.out _ _ ⟨cA BK181 0, cA BK181 1⟩ (fun hHeld => ?_)
    clear hK K
    refine norm_ (a' := ?_) ?_ ?_
    rotate_left
    ·
     show Act.put _ (some 27) _ = _
     simp only [pA]
     rfl
    refine one_ (i := 3) (N := none) #[Y, Y, Y, Y, Z] rfl rfl (by kernel_rfl) (by decide) (fun K hK => ?_)
    have hs32 : w31.cell? ⟨gb177, 0, none⟩ = some (.int .i64 0) := cA BK177 0
    have hfs32 := blk_frozen BK177.out 0
    have hns32_1 := NB181_177.out
    have hms32_1 := NB177_181.out
    have hs33 : w31.cell? ⟨gb177, 1, none⟩ = some (.int .i64 0) := cA BK177 1
    have hfs33 := blk_frozen BK177.out 1
    have hns33_1 := NB181_177.out
    have hms33_1 := NB177_181.out
    refine skip_ (w1 := ?_) (by rfl) rfl ?_ ?_
    rotate_left
    ·
     go_simp
     rfl
    refine hK.out _ _ ⟨((cell_far (p := ⟨gb177, _, none⟩) NB181_177.out _).trans (((cell_far (p := ⟨gb177, _, none⟩) NB181_177.out _).trans (hHeld.1)))), ((cell_far (p := ⟨gb177, _, none⟩) NB181_177.out _).trans (((cell_far (p := ⟨gb177, _, none⟩) NB181_177.out _).trans (hHeld.2))))⟩ (fun hHeld => ?_)
    clear hK K
    refine pure_ (i := 4) (N := some 5) (v := ?_) (a' := ?_) #[Y, Y, Y, Y, Y] rfl rfl (by kernel_rfl) (fun _ _ _ h => h) (Or.inl ⟨by rfl, ?_⟩) ?_ ?_
    rotate_left
    ·
     intro w'
     go_simp
     with_reducible rfl
    rotate_left
    ·
     simp only [pA]
     rfl
    refine done_ (by kernel_rfl) ?_
    try go_wp2
    refine bodyPost_ret (results_ct rfl _ _ gb177 24 #[.int .i64 (wrap64 (Int.tdiv a0 t178)), .int .i64 (wrap64 (Int.tdiv a1 t178))] (0, 0) _ rfl (by refine dr ?_; refine blk_put (cs := #[.int .i64 (wrap64 (Int.tdiv a0 t178)), .int .i64 0]) ?_ 1 _ rfl; refine dr ?_; refine blk_put (cs := #[.int .i64 0, .int .i64 0]) ?_ 0 _ rfl; exact bkA BK177) Try.underlying24 rfl (by kernel_rfl)) rfl ?_
    exact finA blA
/-! ### impl_fourCode: function 12 -/
def impl_fourCode.f (k : Nat) (l0 : List (S24)) : Option (Int) := (impl_areEnds.f k l0).bind fun t171 => (if t171 = true then ((impl_areDifferent.f k l0).bind fun t172 => (if t172 = true then (some 0) else (some 5))) else (some 1))
theorem impl_fourCode.mono : ∀ a0 k, LeO (impl_fourCode.f k a0) (impl_fourCode.f (k + 1) a0) := by
 intro a0 k
 unfold impl_fourCode.f
 repeat' first
   | (with_reducible exact impl_areDifferent.mono _ _)
   | (with_reducible exact impl_areEnds.mono _ _)
   | (with_reducible exact LeO.refl _)
   | (with_reducible exact LeO.none _)
   | (with_reducible refine LeO.ite ?_ ?_)
   | (with_reducible refine LeO.bind ?_ (fun _ => ?_))
set_option maxHeartbeats 8000000 in
set_option maxRecDepth 100000 in
theorem impl_fourCode.calls (k : Nat) (A0 : Option Addr) (c0 : Nat) (l0 : List (S24)) (r : Int) (w : World) (hr0 : Kd.C k24 w A0 l0.length l0) (hc0 : l0.length ≤ c0) (h : impl_fourCode.f k l0 = some r) :
  Calls Try.prog 12 #[.slice A0 l0.length c0] w fun e w' => e = .returned (.int .i64 r) ∧ Below w.heap.size w w' := by
 have HR0 := Aside0.mk hr0
 have HC0 := Aside0.mk hc0
 clear hr0 hc0
 have HB := Aside0.mk (Below.refl w.heap.size w)
 have H := h
 unfold impl_fourCode.f at H
 clear h
 replace H := bS H
 obtain ⟨t171, A2, H⟩ := H
 try dsimp only at H
 by_cases c3 : t171 = true
 ·
  subst c3
  rw [if_pos rfl] at H
  try dsimp only at H
  replace H := bS H
  obtain ⟨t172, A4, H⟩ := H
  try dsimp only at H
  by_cases c5 : t172 = true
  ·
   subst c5
   rw [if_pos rfl] at H
   try dsimp only at H
   obtain rfl := Option.some.inj H
   go_enter Try.func12, Try.ntmps12
   go_wp2_with (first | ((with_reducible refine gate_callee (f := 21) rfl ?_); refine goesL_ (some 5) rfl rfl Try.func21 (by kernel_rfl) rfl #[.slice A0 l0.length c0] rfl hA ?_; (with_reducible refine (impl_areEnds.calls k _ _ l0 true _ ?side1 ?side2 A2.out).mono ?_); (case side1 => repeat (first | exact HR0.out | (with_reducible refine Kd.C_alloc ?_ _) | (with_reducible refine Kd.C_drewN ?_ _) | (with_reducible refine Kd.C_drew ?_))); (case side2 => exact HC0.out); rintro e w6 ⟨rfl, hb⟩; refine ⟨_, rfl, ?_⟩; replace HB := lB hb; (try clear hb); (try clear hb2); (try clear hk); (try clear hi)) | ((with_reducible refine gate_callee (f := 22) rfl ?_); refine goesL_ (some 9) rfl rfl Try.func22 (by kernel_rfl) rfl #[.slice A0 l0.length c0] rfl hA ?_; (with_reducible refine (impl_areDifferent.calls k _ _ l0 true _ ?side1 ?side2 A4.out).mono ?_); (case side1 => repeat (first | exact (Kd.C_below HR0.out HB.out) | (with_reducible refine Kd.C_alloc ?_ _) | (with_reducible refine Kd.C_drewN ?_ _) | (with_reducible refine Kd.C_drew ?_))); (case side2 => exact HC0.out); rintro e w7 ⟨rfl, hb⟩; refine ⟨_, rfl, ?_⟩; replace HB := lB hb; (try clear hb); (try clear hb2); (try clear hk); (try clear hi)))
   go_ret
   exact finA blA
  ·
   replace c5 := Bool.eq_false_iff.mpr c5
   subst c5
   rw [if_neg (show ¬ (false = true) by decide)] at H
   try dsimp only at H
   obtain rfl := Option.some.inj H
   go_enter Try.func12, Try.ntmps12
   go_wp2_with (first | ((with_reducible refine gate_callee (f := 21) rfl ?_); refine goesL_ (some 5) rfl rfl Try.func21 (by kernel_rfl) rfl #[.slice A0 l0.length c0] rfl hA ?_; (with_reducible refine (impl_areEnds.calls k _ _ l0 true _ ?side1 ?side2 A2.out).mono ?_); (case side1 => repeat (first | exact HR0.out | (with_reducible refine Kd.C_alloc ?_ _) | (with_reducible refine Kd.C_drewN ?_ _) | (with_reducible refine Kd.C_drew ?_))); (case side2 => exact HC0.out); rintro e w8 ⟨rfl, hb⟩; refine ⟨_, rfl, ?_⟩; replace HB := lB hb; (try clear hb); (try clear hb2); (try clear hk); (try clear hi)) | ((with_reducible refine gate_callee (f := 22) rfl ?_); refine goesL_ (some 9) rfl rfl Try.func22 (by kernel_rfl) rfl #[.slice A0 l0.length c0] rfl hA ?_; (with_reducible refine (impl_areDifferent.calls k _ _ l0 false _ ?side1 ?side2 A4.out).mono ?_); (case side1 => repeat (first | exact (Kd.C_below HR0.out HB.out) | (with_reducible refine Kd.C_alloc ?_ _) | (with_reducible refine Kd.C_drewN ?_ _) | (with_reducible refine Kd.C_drew ?_))); (case side2 => exact HC0.out); rintro e w9 ⟨rfl, hb⟩; refine ⟨_, rfl, ?_⟩; replace HB := lB hb; (try clear hb); (try clear hb2); (try clear hk); (try clear hi)))
   go_ret
   exact finA blA
 ·
  replace c3 := Bool.eq_false_iff.mpr c3
  subst c3
  rw [if_neg (show ¬ (false = true) by decide)] at H
  try dsimp only at H
  obtain rfl := Option.some.inj H
  go_enter Try.func12, Try.ntmps12
  go_wp2_with (first | ((with_reducible refine gate_callee (f := 21) rfl ?_); refine goesL_ (some 5) rfl rfl Try.func21 (by kernel_rfl) rfl #[.slice A0 l0.length c0] rfl hA ?_; (with_reducible refine (impl_areEnds.calls k _ _ l0 false _ ?side1 ?side2 A2.out).mono ?_); (case side1 => repeat (first | exact HR0.out | (with_reducible refine Kd.C_alloc ?_ _) | (with_reducible refine Kd.C_drewN ?_ _) | (with_reducible refine Kd.C_drew ?_))); (case side2 => exact HC0.out); rintro e w10 ⟨rfl, hb⟩; refine ⟨_, rfl, ?_⟩; replace HB := lB hb; (try clear hb); (try clear hb2); (try clear hk); (try clear hi)))
  go_ret
  exact finA blA
end Go.Proofs.Ytnejmbhpngdiiaa.PAll
