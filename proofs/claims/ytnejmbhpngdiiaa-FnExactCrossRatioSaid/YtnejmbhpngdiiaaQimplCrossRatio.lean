-- turned for this claim out of the kit's print: the same functions, packed anew
import Derived.Test.YtnejmbhpngdiiaaQx
import Derived.Test.YtnejmbhpngdiiaaQimplareEnds
import Derived.Test.YtnejmbhpngdiiaaQimplfourCode
namespace Go.Proofs.Ytnejmbhpngdiiaa.PAll
open Go.RowKit Go.Proofs.YtnejmbhpngdiiaaW.PrintWords Go.Proofs.YtnejmbhpngdiiaaW.PrintLast Go.Proofs.YtnejmbhpngdiiaaW.PrintMore
attribute [local go_sem] Go.Proofs.Ytnejmbhpngdiiaa.Aux.setCell_drewN Go.Proofs.Ytnejmbhpngdiiaa.Aux.isSome_setCell Go.Proofs.Ytnejmbhpngdiiaa.Aux.max_eight max2_int min2_int max_two min_two max_three min_three max_four min_four   -- for this text's walks alone
set_option linter.unusedVariables false
set_option linter.unusedSimpArgs false
/-! ### impl_CrossRatio: function 6 -/
mutual
def impl_CrossRatio.l0 : Nat → List Int → List Int → Int → Int → Option (Int × Int × Int)
 | 0, _, _, _, _ => none
 | k + 1, x11, x12, x41, x42 => if x42 < x41 then (impl_CrossRatio.l1 k x11 x12 x42 x41 x42 (x12.length : Int) 0) else ((impl_within.f k 1000000 x11).bind fun t209 => (if t209 = true then ((impl_within.f k 1000000 x12).bind fun t210 => (impl_CrossRatio.j2 k x11 x12 (!t210))) else (impl_CrossRatio.j2 k x11 x12 true)))
def impl_CrossRatio.l1 : Nat → List Int → List Int → Int → Int → Int → Int → Int → Option (Int × Int × Int)
 | 0, _, _, _, _, _, _, _ => none
 | k + 1, x11, x12, x13, x41, x42, x46, x47 => if x47 < x46 then (if 0 ≤ x13 then (if x13 < (x11.length : Int) then (if 0 ≤ x47 then (if x47 < (x12.length : Int) then ((impl_gcd.f k (rd x11 x13) (rd x12 x47)).bind fun t204 => (if t204 = 0 then (none) else (impl_CrossRatio.l1 k (x11.set (x13 : Int).toNat (wrap64 (Int.tdiv (rd x11 x13) t204))) (x12.set (x47 : Int).toNat (wrap64 (Int.tdiv (rd x12 x47) t204))) x13 x41 x42 x46 (wrap64 (x47 + 1))))) else (none)) else (none)) else (none)) else (none)) else (impl_CrossRatio.l0 k x11 x12 x41 (wrap64 (x42 + 1)))
def impl_CrossRatio.j2 : Nat → List Int → List Int → Bool → Option (Int × Int × Int)
 | 0, _, _, _ => none
 | k + 1, x11, x12, x82 => if x82 = true then (some (0, 0, 3)) else (if 0 < (x11.length : Int) then (if 1 < (x11.length : Int) then (if 0 < (x12.length : Int) then (if 1 < (x12.length : Int) then ((impl_endAt.f k (wrap64 ((rd x11 0) * (rd x11 1))) (wrap64 ((rd x12 0) * (rd x12 1)))).bind fun bt215 => ((impl_fittedEnd.f bt215.1 bt215.2.1 bt215.2.2).bind fun bt218 => (some (bt218.1, bt218.2.1, bt218.2.2)))) else (none)) else (none)) else (none)) else (none))
end
def impl_CrossRatio.f (k : Nat) (a0_0 : Int) (a0_1 : Int) (a1_0 : Int) (a1_1 : Int) (a2_0 : Int) (a2_1 : Int) (a3_0 : Int) (a3_1 : Int) : Option (Int × Int × Int) := (impl_fourCode.f k (([(⟨a0_0, a0_1⟩ : S24), (⟨a1_0, a1_1⟩ : S24), (⟨a2_0, a2_1⟩ : S24), (⟨a3_0, a3_1⟩ : S24)] : List (S24)))).bind fun t191 => (if t191 = 0 then ((impl_cross.f a0_0 a0_1 a2_0 a2_1).bind fun t192 => ((impl_cross.f a1_0 a1_1 a3_0 a3_1).bind fun t193 => ((some (([t192, t193] : List Int) : List Int)).bind fun y194 => ((impl_cross.f a0_0 a0_1 a3_0 a3_1).bind fun t197 => ((impl_cross.f a1_0 a1_1 a2_0 a2_1).bind fun t198 => (impl_CrossRatio.l0 k y194 (([t197, t198] : List Int)) (y194.length : Int) 0)))))) else (some (0, 0, t191)))
theorem impl_CrossRatio.mono_l : ∀ k, (∀ y0 y1 y2 y3, LeO (impl_CrossRatio.l0 k y0 y1 y2 y3) (impl_CrossRatio.l0 (k + 1) y0 y1 y2 y3)) ∧ (∀ y0 y1 y2 y3 y4 y5 y6, LeO (impl_CrossRatio.l1 k y0 y1 y2 y3 y4 y5 y6) (impl_CrossRatio.l1 (k + 1) y0 y1 y2 y3 y4 y5 y6)) ∧ (∀ y0 y1 y2, LeO (impl_CrossRatio.j2 k y0 y1 y2) (impl_CrossRatio.j2 (k + 1) y0 y1 y2))
 | 0 => ⟨fun _ _ _ _ r h => by simp [impl_CrossRatio.l0] at h, fun _ _ _ _ _ _ _ r h => by simp [impl_CrossRatio.l1] at h, fun _ _ _ r h => by simp [impl_CrossRatio.j2] at h⟩
 | k + 1 => by
  obtain ⟨ih0, ih1, ih2⟩ := impl_CrossRatio.mono_l k
  refine ⟨?_, ?_, ?_⟩
  ·
   intro y0 y1 y2 y3
   unfold impl_CrossRatio.l0
   repeat' first
   | (with_reducible exact ih0 _ _ _ _)
   | (with_reducible exact ih1 _ _ _ _ _ _ _)
   | (with_reducible exact ih2 _ _ _)
   | (with_reducible exact impl_endAt.mono _ _ _)
   | (with_reducible exact impl_fourCode.mono _ _)
   | (with_reducible exact impl_gcd.mono _ _ _)
   | (with_reducible exact impl_within.mono _ _ _)
   | (with_reducible exact LeO.refl _)
   | (with_reducible exact LeO.none _)
   | (with_reducible refine LeO.ite ?_ ?_)
   | (with_reducible refine LeO.bind ?_ (fun _ => ?_))
  ·
   intro y0 y1 y2 y3 y4 y5 y6
   unfold impl_CrossRatio.l1
   repeat' first
   | (with_reducible exact ih0 _ _ _ _)
   | (with_reducible exact ih1 _ _ _ _ _ _ _)
   | (with_reducible exact ih2 _ _ _)
   | (with_reducible exact impl_endAt.mono _ _ _)
   | (with_reducible exact impl_fourCode.mono _ _)
   | (with_reducible exact impl_gcd.mono _ _ _)
   | (with_reducible exact impl_within.mono _ _ _)
   | (with_reducible exact LeO.refl _)
   | (with_reducible exact LeO.none _)
   | (with_reducible refine LeO.ite ?_ ?_)
   | (with_reducible refine LeO.bind ?_ (fun _ => ?_))
  ·
   intro y0 y1 y2
   unfold impl_CrossRatio.j2
   repeat' first
   | (with_reducible exact ih0 _ _ _ _)
   | (with_reducible exact ih1 _ _ _ _ _ _ _)
   | (with_reducible exact ih2 _ _ _)
   | (with_reducible exact impl_endAt.mono _ _ _)
   | (with_reducible exact impl_fourCode.mono _ _)
   | (with_reducible exact impl_gcd.mono _ _ _)
   | (with_reducible exact impl_within.mono _ _ _)
   | (with_reducible exact LeO.refl _)
   | (with_reducible exact LeO.none _)
   | (with_reducible refine LeO.ite ?_ ?_)
   | (with_reducible refine LeO.bind ?_ (fun _ => ?_))
theorem impl_CrossRatio.mono : ∀ a0 a1 a2 a3 a4 a5 a6 a7 k, LeO (impl_CrossRatio.f k a0 a1 a2 a3 a4 a5 a6 a7) (impl_CrossRatio.f (k + 1) a0 a1 a2 a3 a4 a5 a6 a7) := by
 intro a0 a1 a2 a3 a4 a5 a6 a7 k
 obtain ⟨ih0, ih1, ih2⟩ := impl_CrossRatio.mono_l k
 unfold impl_CrossRatio.f
 repeat' first
   | (with_reducible exact ih0 _ _ _ _)
   | (with_reducible exact ih1 _ _ _ _ _ _ _)
   | (with_reducible exact ih2 _ _ _)
   | (with_reducible exact impl_endAt.mono _ _ _)
   | (with_reducible exact impl_fourCode.mono _ _)
   | (with_reducible exact impl_gcd.mono _ _ _)
   | (with_reducible exact impl_within.mono _ _ _)
   | (with_reducible exact LeO.refl _)
   | (with_reducible exact LeO.none _)
   | (with_reducible refine LeO.ite ?_ ?_)
   | (with_reducible refine LeO.bind ?_ (fun _ => ?_))
def impl_CrossRatio.T4 : Bool × List (List Nat × List Nat) := (true, [([], []), ([], []), ([0, 1], [0, 1]), ([], []), ([], []), ([3, 4, 2], [3, 4]), ([2, 5], [2, 5]), ([6, 5, 0, 1, 2, 3, 4, 5, 6], [6])])
def impl_CrossRatio.B4 : List Nat := [0, 0, 3, 0, 0, 31, 63, 127]
theorem impl_CrossRatio.tab4 : rtab .any (opsOf Try.f6 4) = impl_CrossRatio.T4 := by kernel_rfl
theorem impl_CrossRatio.bits4 : waitsOk impl_CrossRatio.T4.2 impl_CrossRatio.B4 = true := by kernel_rfl
def impl_CrossRatio.T5 : Bool × List (List Nat × List Nat) := (true, [([], []), ([], []), ([0, 1], [0, 1]), ([], []), ([], []), ([3, 4, 2], [3, 4]), ([2, 5], [2, 5]), ([6, 5, 0, 1, 2, 3, 4, 5, 6], [6])])
def impl_CrossRatio.B5 : List Nat := [0, 0, 3, 0, 0, 31, 63, 127]
theorem impl_CrossRatio.tab5 : rtab .any (opsOf Try.f6 5) = impl_CrossRatio.T5 := by kernel_rfl
theorem impl_CrossRatio.bits5 : waitsOk impl_CrossRatio.T5.2 impl_CrossRatio.B5 = true := by kernel_rfl
def impl_CrossRatio.T12 : Bool × List (List Nat × List Nat) := (true, [([], []), ([], []), ([0, 1], [0, 1]), ([2], [2]), ([], []), ([], []), ([4, 5], [4, 5]), ([6], [6]), ([3, 7], [3, 7]), ([8, 8, 0, 1, 2, 3, 4, 5, 6, 7, 8], [8])])
def impl_CrossRatio.B12 : List Nat := [0, 0, 3, 7, 0, 0, 48, 112, 255, 511]
theorem impl_CrossRatio.tab12 : rtab .any (opsOf Try.f6 12) = impl_CrossRatio.T12 := by kernel_rfl
theorem impl_CrossRatio.bits12 : waitsOk impl_CrossRatio.T12.2 impl_CrossRatio.B12 = true := by kernel_rfl
def impl_CrossRatio.T19 : Bool × List (List Nat × List Nat) := (true, [([], []), ([0], [0]), ([1], [1]), ([], []), ([3], [3]), ([4], [4]), ([2, 5], [2, 5]), ([], []), ([7], [7]), ([8], [8]), ([], []), ([10], [10]), ([11], [11]), ([9, 12], [9, 12]), ([6, 13], [6, 13]), ([14], [14]), ([14], [14]), ([15, 16, 14], [15, 16]), ([17], [17]), ([17], [17]), ([18, 17, 0, 1, 2, 3, 4, 5, 6, 7, 8, 9, 10, 11, 12, 13, 14, 15, 16, 17, 18, 19], [18]), ([19, 20, 0, 1, 2, 3, 4, 5, 6, 7, 8, 9, 10, 11, 12, 13, 14, 15, 16, 17, 18, 19, 20], [19])])
def impl_CrossRatio.B19 : List Nat := [0, 1, 3, 0, 8, 24, 63, 0, 128, 384, 0, 1024, 3072, 8064, 16383, 32767, 32767, 131071, 262143, 262143, 1048575, 2097151]
theorem impl_CrossRatio.tab19 : rtab .any (opsOf Try.f6 19) = impl_CrossRatio.T19 := by kernel_rfl
theorem impl_CrossRatio.bits19 : waitsOk impl_CrossRatio.T19.2 impl_CrossRatio.B19 = true := by kernel_rfl
set_option maxHeartbeats 8000000 in
set_option maxRecDepth 100000 in
theorem impl_CrossRatio.calls (k : Nat) (a0_0 : Int) (a0_1 : Int) (a1_0 : Int) (a1_1 : Int) (a2_0 : Int) (a2_1 : Int) (a3_0 : Int) (a3_1 : Int) (r1 : Int) (r2 : Int) (r3 : Int) (w : World) (h : impl_CrossRatio.f k a0_0 a0_1 a1_0 a1_1 a2_0 a2_1 a3_0 a3_1 = some (r1, r2, r3)) :
  Calls Try.prog 6 #[.agg #[.int .i64 a0_0, .int .i64 a0_1], .agg #[.int .i64 a1_0, .int .i64 a1_1], .agg #[.int .i64 a2_0, .int .i64 a2_1], .agg #[.int .i64 a3_0, .int .i64 a3_1]] w fun e w' => e = .returned (.tuple #[.agg #[.int .i64 r1, .int .i64 r2], .int .i64 r3]) ∧ Below w.heap.size w w' := by
 have hu24 := Try.underlying24
 have HB := Aside0.mk (Below.refl w.heap.size w)
 have H := h
 unfold impl_CrossRatio.f at H
 clear h
 obtain ⟨y188, hy188⟩ : ∃ y_ : List (S24), y_ = (([(⟨a0_0, a0_1⟩ : S24), (⟨a1_0, a1_1⟩ : S24), (⟨a2_0, a2_1⟩ : S24), (⟨a3_0, a3_1⟩ : S24)] : List (S24))) := ⟨_, rfl⟩
 replace H : ((impl_fourCode.f k y188).bind fun t191 => (if t191 = 0 then ((impl_cross.f a0_0 a0_1 a2_0 a2_1).bind fun t192 => ((impl_cross.f a1_0 a1_1 a3_0 a3_1).bind fun t193 => ((some (([t192, t193] : List Int) : List Int)).bind fun y194 => ((impl_cross.f a0_0 a0_1 a3_0 a3_1).bind fun t197 => ((impl_cross.f a1_0 a1_1 a2_0 a2_1).bind fun t198 => (impl_CrossRatio.l0 k y194 (([t197, t198] : List Int)) (y194.length : Int) 0)))))) else (some (0, 0, t191)))) = some (r1, r2, r3) := by first | (rw [hy188]; with_reducible exact H) | (have H2_ := (Option.bind_some _ _).symm.trans H; rw [hy188]; with_reducible exact H2_) | (have H2_ := (Option.bind_some _ _).symm.trans H; with_reducible exact H2_) | with_reducible exact H | (rw [hy188]; exact H) | exact H
 have Ny188 := Aside0.mk hy188
 clear hy188
 replace H := bS H
 obtain ⟨t191, A5, H⟩ := H
 try dsimp only at H
 by_cases c6 : t191 = 0
 ·
  rw [if_pos c6] at H
  have c6b0 : (t191 == 0) = true := beq_iff_eq.mpr c6
  have c6b1 : (t191 != 0) = false := bne_eq_false_iff_eq.mpr c6
  clear c6
  replace H := bS H
  obtain ⟨t192, A7, H⟩ := H
  try dsimp only at H
  replace H := bS H
  obtain ⟨t193, A8, H⟩ := H
  try dsimp only at H
  obtain ⟨y194, hy194⟩ : ∃ y_ : List Int, y_ = (([t192, t193] : List Int)) := ⟨_, rfl⟩
  replace H : ((impl_cross.f a0_0 a0_1 a3_0 a3_1).bind fun t197 => ((impl_cross.f a1_0 a1_1 a2_0 a2_1).bind fun t198 => (impl_CrossRatio.l0 k y194 (([t197, t198] : List Int)) (y194.length : Int) 0))) = some (r1, r2, r3) := by first | (rw [hy194]; with_reducible exact H) | (have H2_ := (Option.bind_some _ _).symm.trans H; rw [hy194]; with_reducible exact H2_) | (have H2_ := (Option.bind_some _ _).symm.trans H; with_reducible exact H2_) | with_reducible exact H | (rw [hy194]; exact H) | exact H
  have Ny194 := Aside0.mk hy194
  clear hy194
  replace H := bS H
  obtain ⟨t197, A9, H⟩ := H
  try dsimp only at H
  replace H := bS H
  obtain ⟨t198, A10, H⟩ := H
  try dsimp only at H
  obtain ⟨y199, hy199⟩ : ∃ y_ : List Int, y_ = (([t197, t198] : List Int)) := ⟨_, rfl⟩
  replace H : (impl_CrossRatio.l0 k y194 y199 (y194.length : Int) 0) = some (r1, r2, r3) := by first | (rw [hy199]; with_reducible exact H) | (have H2_ := (Option.bind_some _ _).symm.trans H; rw [hy199]; with_reducible exact H2_) | (have H2_ := (Option.bind_some _ _).symm.trans H; with_reducible exact H2_) | with_reducible exact H | (rw [hy199]; exact H) | exact H
  have Ny199 := Aside0.mk hy199
  clear hy199
  have H' := Aside0.mk H
  clear H
  go_enter Try.func6, Try.ntmps6
  try go_wp2_with (first | ((with_reducible refine gate_dst (N := 4) rfl ?_); refine box_event ?hg (N := 4) ?hd (cs := #[.int .i64 a0_0, .int .i64 a0_1]) (t := 24) ?hr ?_; (case hd => rfl); (case hg => rfl); (case hr => first | (go_simp; done) | (go_simp; rfl)); intro gb183 hg w11 hbox hb; have n0_ := lB hb; have n1_ := Aside0.mk (hbox); have n2_ := sA hg; have n3_ := sA hg; clear HB; have HB := n0_; have BK183 := n1_; have GW183 := n2_; have GE183 := n3_; clear n0_ n1_ n2_ n3_; clear hb hbox hg) | ((with_reducible refine gate_dst (N := 5) rfl ?_); refine box_event ?hg (N := 5) ?hd (cs := #[.int .i64 a1_0, .int .i64 a1_1]) (t := 24) ?hr ?_; (case hd => rfl); (case hg => rfl); (case hr => first | (go_simp; done) | (go_simp; rfl)); intro gb184 hg w12 hbox hb; have n0_ := kB BK183 hb; have n1_ := lB hb; have n2_ := Aside0.mk (hbox); have n3_ := sA hg; have n4_ := sA hg; have n5_ := nA hg BK183; have n6_ := nB hg BK183; clear BK183; clear HB; have BK183 := n0_; have HB := n1_; have BK184 := n2_; have GW184 := n3_; have GE184 := n4_; have NB183_184 := n5_; have NB184_183 := n6_; clear n0_ n1_ n2_ n3_ n4_ n5_ n6_; clear hb hbox hg) | ((with_reducible refine gate_dst (N := 6) rfl ?_); refine box_event ?hg (N := 6) ?hd (cs := #[.int .i64 a2_0, .int .i64 a2_1]) (t := 24) ?hr ?_; (case hd => rfl); (case hg => rfl); (case hr => first | (go_simp; done) | (go_simp; rfl)); intro gb185 hg w13 hbox hb; have n0_ := kB BK183 hb; have n1_ := kB BK184 hb; have n2_ := lB hb; have n3_ := Aside0.mk (hbox); have n4_ := sA hg; have n5_ := sA hg; have n6_ := nA hg BK183; have n7_ := nB hg BK183; have n8_ := nA hg BK184; have n9_ := nB hg BK184; clear BK183; clear BK184; clear HB; have BK183 := n0_; have BK184 := n1_; have HB := n2_; have BK185 := n3_; have GW185 := n4_; have GE185 := n5_; have NB183_185 := n6_; have NB185_183 := n7_; have NB184_185 := n8_; have NB185_184 := n9_; clear n0_ n1_ n2_ n3_ n4_ n5_ n6_ n7_ n8_ n9_; clear hb hbox hg) | ((with_reducible refine gate_dst (N := 7) rfl ?_); refine box_event ?hg (N := 7) ?hd (cs := #[.int .i64 a3_0, .int .i64 a3_1]) (t := 24) ?hr ?_; (case hd => rfl); (case hg => rfl); (case hr => first | (go_simp; done) | (go_simp; rfl)); intro gb186 hg w14 hbox hb; have n0_ := kB BK183 hb; have n1_ := kB BK184 hb; have n2_ := kB BK185 hb; have n3_ := lB hb; have n4_ := Aside0.mk (hbox); have n5_ := sA hg; have n6_ := sA hg; have n7_ := nA hg BK183; have n8_ := nB hg BK183; have n9_ := nA hg BK184; have n10_ := nB hg BK184; have n11_ := nA hg BK185; have n12_ := nB hg BK185; clear BK183; clear BK184; clear BK185; clear HB; have BK183 := n0_; have BK184 := n1_; have BK185 := n2_; have HB := n3_; have BK186 := n4_; have GW186 := n5_; have GE186 := n6_; have NB183_186 := n7_; have NB186_183 := n8_; have NB184_186 := n9_; have NB186_184 := n10_; have NB185_186 := n11_; have NB186_185 := n12_; clear n0_ n1_ n2_ n3_ n4_ n5_ n6_ n7_ n8_ n9_ n10_ n11_ n12_; clear hb hbox hg) | ((with_reducible refine gate_dst (N := 8) rfl ?_); refine box_event ?hg (N := 8) ?hd (cs := #[.int .i64 0, .int .i64 0]) (t := 24) ?hr ?_; (case hd => rfl); (case hg => rfl); (case hr => first | (go_simp; done) | (go_simp; rfl)); intro gb187 hg w15 hbox hb; have n0_ := kB BK183 hb; have n1_ := kB BK184 hb; have n2_ := kB BK185 hb; have n3_ := kB BK186 hb; have n4_ := lB hb; have n5_ := Aside0.mk (hbox); have n6_ := sA hg; have n7_ := sA hg; have n8_ := nA hg BK183; have n9_ := nB hg BK183; have n10_ := nA hg BK184; have n11_ := nB hg BK184; have n12_ := nA hg BK185; have n13_ := nB hg BK185; have n14_ := nA hg BK186; have n15_ := nB hg BK186; clear BK183; clear BK184; clear BK185; clear BK186; clear HB; have BK183 := n0_; have BK184 := n1_; have BK185 := n2_; have BK186 := n3_; have HB := n4_; have BK187 := n5_; have GW187 := n6_; have GE187 := n7_; have NB183_187 := n8_; have NB187_183 := n9_; have NB184_187 := n10_; have NB187_184 := n11_; have NB185_187 := n12_; have NB187_185 := n13_; have NB186_187 := n14_; have NB187_186 := n15_; clear n0_ n1_ n2_ n3_ n4_ n5_ n6_ n7_ n8_ n9_ n10_ n11_ n12_ n13_ n14_ n15_; clear hb hbox hg; have hnb16 := NB183_184.out; have hnc16 := NB184_183.out; have hnb17 := NB183_185.out; have hnc17 := NB185_183.out; have hnb18 := NB183_186.out; have hnc18 := NB186_183.out; have hnb19 := NB183_187.out; have hnc19 := NB187_183.out; obtain ⟨hcz20_0, hcz20_1, hfz20_0, hfz20_1⟩ := cz2 BK183; have hnb21 := NB184_185.out; have hnc21 := NB185_184.out; have hnb22 := NB184_186.out; have hnc22 := NB186_184.out; have hnb23 := NB184_187.out; have hnc23 := NB187_184.out; obtain ⟨hcz24_0, hcz24_1, hfz24_0, hfz24_1⟩ := cz2 BK184; have hnb25 := NB185_186.out; have hnc25 := NB186_185.out; have hnb26 := NB185_187.out; have hnc26 := NB187_185.out; obtain ⟨hcz27_0, hcz27_1, hfz27_0, hfz27_1⟩ := cz2 BK185; have hnb28 := NB186_187.out; have hnc28 := NB187_186.out; obtain ⟨hcz29_0, hcz29_1, hfz29_0, hfz29_1⟩ := cz2 BK186) | ((with_reducible refine gate_dst (N := 20) rfl ?_); refine Kd.R_lit k24 _ 24 ?hg (N := 20) ?hd (xs := ([(⟨a0_0, a0_1⟩ : S24), (⟨a1_0, a1_1⟩ : S24), (⟨a2_0, a2_1⟩ : S24), (⟨a3_0, a3_1⟩ : S24)] : List (S24))) (inner := [.int .i64 a0_0, .int .i64 a0_1, .int .i64 a1_0, .int .i64 a1_1, .int .i64 a2_0, .int .i64 a2_1, .int .i64 a3_0, .int .i64 a3_1]) (ok := fun _ => True) (okp := fun _ => True) ?hr ?hp (fun _ hk => hk) trivial (Below.refl _ _) (Nat.le_refl _) (by simp) ?_; (case hd => rfl); (case hg => rfl); (case hr => first | (go_simp; done) | (go_simp; rfl)); (case hp => exact (Reps.c2 (show Kd.M k24 _ _ _ (⟨a0_0, a0_1⟩ : S24) [.int .i64 a0_0, .int .i64 a0_1] from (k24_mkM _ _ _ (⟨a0_0, a0_1⟩ : S24) )) (Reps.c2 (show Kd.M k24 _ _ _ (⟨a1_0, a1_1⟩ : S24) [.int .i64 a1_0, .int .i64 a1_1] from (k24_mkM _ _ _ (⟨a1_0, a1_1⟩ : S24) )) (Reps.c2 (show Kd.M k24 _ _ _ (⟨a2_0, a2_1⟩ : S24) [.int .i64 a2_0, .int .i64 a2_1] from (k24_mkM _ _ _ (⟨a2_0, a2_1⟩ : S24) )) (Reps.c2 (show Kd.M k24 _ _ _ (⟨a3_0, a3_1⟩ : S24) [.int .i64 a3_0, .int .i64 a3_1] from (k24_mkM _ _ _ (⟨a3_0, a3_1⟩ : S24) )) (Reps.none _ _)))))); intro v189 w30 ho31 hb hg_ hnew_; clear hg_ hnew_; (first | rw [← Ny188.out] at ho31 | (simp only [Int.reduceToNat] at ho31; rw [← Ny188.out] at ho31)); have n0_ := Aside0.mk (Kd.R_lower (Kd.R_newB (Kd.R_newB (Kd.R_newB (Kd.R_newB (Kd.R_newB ho31 (bkA BK183)) (bkA BK184)) (bkA BK185)) (bkA BK186)) (bkA BK187)) (below_size blA)); have n1_ := kB BK183 hb; have n2_ := kB BK184 hb; have n3_ := kB BK185 hb; have n4_ := kB BK186 hb; have n5_ := kB BK187 hb; have n6_ := lB hb; clear BK183; clear BK184; clear BK185; clear BK186; clear BK187; clear HB; have HO190 := n0_; have BK183 := n1_; have BK184 := n2_; have BK185 := n3_; have BK186 := n4_; have BK187 := n5_; have HB := n6_; clear n0_ n1_ n2_ n3_ n4_ n5_ n6_; clear hb ho31; obtain ⟨Ao32, co32, eo32⟩ := Kd.R_slice HO190.out; subst eo32) | ((with_reducible refine gate_callee (f := 12) rfl ?_); refine goesL_ (some 21) rfl rfl Try.func12 (by kernel_rfl) rfl #[.slice Ao32 y188.length co32] rfl hA ?_; (with_reducible refine (impl_fourCode.calls k _ _ y188 t191 _ ?side1 ?side2 A5.out).mono ?_); (case side1 => repeat (first | exact (Kd.R_reads' HO190.out).2.2 | (with_reducible refine Kd.C_alloc ?_ _) | (with_reducible refine Kd.C_drewN ?_ _) | (with_reducible refine Kd.C_drew ?_))); (case side2 => exact (Kd.R_reads' HO190.out).2.1); rintro e w33 ⟨rfl, hb⟩; refine ⟨_, rfl, ?_⟩; have n0_ := Aside0.mk (Kd.R_below (rA HO190) hb); have n1_ := kB BK183 hb; have n2_ := kB BK184 hb; have n3_ := kB BK185 hb; have n4_ := kB BK186 hb; have n5_ := kB BK187 hb; have n6_ := lB hb; clear HO190; clear BK183; clear BK184; clear BK185; clear BK186; clear BK187; clear HB; have HO190 := n0_; have BK183 := n1_; have BK184 := n2_; have BK185 := n3_; have BK186 := n4_; have BK187 := n5_; have HB := n6_; clear n0_ n1_ n2_ n3_ n4_ n5_ n6_; (try clear hb); (try clear hb2); (try clear hk); (try clear hi)))
  have n0_ := Aside0.mk (Kd.R_drew HO190.out)
  have n1_ := Aside0.mk (blk_drew BK183.out)
  have n2_ := Aside0.mk (blk_drew BK184.out)
  have n3_ := Aside0.mk (blk_drew BK185.out)
  have n4_ := Aside0.mk (blk_drew BK186.out)
  have n5_ := Aside0.mk (blk_drew BK187.out)
  have n6_ := Aside0.mk (below_drew1 HB.out)
  clear HO190
  clear BK183
  clear BK184
  clear BK185
  clear BK186
  clear BK187
  clear HB
  have HO190 := n0_
  have BK183 := n1_
  have BK184 := n2_
  have BK185 := n3_
  have BK186 := n4_
  have BK187 := n5_
  have HB := n6_
  clear n0_ n1_ n2_ n3_ n4_ n5_ n6_
  refine start_ (n := 8) (S := fun w' => w'.cell? ⟨gb183, 0, none⟩ = some (.int .i64 a0_0) ∧ w'.cell? ⟨gb183, 1, none⟩ = some (.int .i64 a0_1) ∧ w'.cell? ⟨gb185, 0, none⟩ = some (.int .i64 a2_0) ∧ w'.cell? ⟨gb185, 1, none⟩ = some (.int .i64 a2_1) ∧ w'.cell? ⟨gb184, 0, none⟩ = some (.int .i64 a1_0) ∧ w'.cell? ⟨gb184, 1, none⟩ = some (.int .i64 a1_1) ∧ w'.cell? ⟨gb186, 0, none⟩ = some (.int .i64 a3_0) ∧ w'.cell? ⟨gb186, 1, none⟩ = some (.int .i64 a3_1)) (ds := []) #[Z, Z, Z, Z, Z, Z, Z, Z] (by kernel_rfl) rfl rfl ⟨cA BK183 0, cA BK183 1, cA BK185 0, cA BK185 1, cA BK184 0, cA BK184 1, cA BK186 0, cA BK186 1⟩ (fun hHeld => ?_); refine with_tabW impl_CrossRatio.tab4 impl_CrossRatio.bits4 (fun HT_ HW_ => ?_)
  generalize w33.drew = w34 at HO190 BK183 BK184 BK185 BK186 BK187 HB hHeld ⊢
  refine take_ (i := 0) (N := some 26) (v := ?_) (a' := ?_) #[Y, Z, Z, Z, Z, Z, Z, Z] rfl rfl (take_ofW HT_.out HW_.out (by kernel_rfl)) (fun _ _ _ h => h) (Or.inl ⟨by rfl, ?_⟩) hHeld ?_ ?_
  rotate_left
  ·
   rintro w' ⟨s0, s1, s2, s3, s4, s5, s6, s7⟩
   go_simp
   with_reducible rfl
  rotate_left
  ·
   simp only [pA]
   rfl
  refine take_ (i := 1) (N := some 27) (v := ?_) (a' := ?_) #[Y, Y, Z, Z, Z, Z, Z, Z] rfl rfl (take_ofW HT_.out HW_.out (by kernel_rfl)) (fun _ _ _ h => h) (Or.inl ⟨by rfl, ?_⟩) hHeld ?_ ?_
  rotate_left
  ·
   rintro w' ⟨s0, s1, s2, s3, s4, s5, s6, s7⟩
   go_simp
   with_reducible rfl
  rotate_left
  ·
   simp only [pA]
   rfl
  refine take_ (i := 3) (N := some 29) (v := ?_) (a' := ?_) #[Y, Y, Z, Y, Z, Z, Z, Z] rfl rfl (take_ofW HT_.out HW_.out (by kernel_rfl)) (fun _ _ _ h => h) (Or.inl ⟨by rfl, ?_⟩) hHeld ?_ ?_
  rotate_left
  ·
   rintro w' ⟨s0, s1, s2, s3, s4, s5, s6, s7⟩
   go_simp
   with_reducible rfl
  rotate_left
  ·
   simp only [pA]
   rfl
  refine take_ (i := 4) (N := some 30) (v := ?_) (a' := ?_) #[Y, Y, Z, Y, Y, Z, Z, Z] rfl rfl (take_ofW HT_.out HW_.out (by kernel_rfl)) (fun _ _ _ h => h) (Or.inl ⟨by rfl, ?_⟩) hHeld ?_ ?_
  rotate_left
  ·
   rintro w' ⟨s0, s1, s2, s3, s4, s5, s6, s7⟩
   go_simp
   with_reducible rfl
  rotate_left
  ·
   simp only [pA]
   rfl
  refine one_ (i := 2) (N := some 28) #[Y, Y, Y, Y, Y, Z, Z, Z] rfl rfl (one_of HT_.out (by kernel_rfl)) (by decide) (fun K hK => ?_)
  refine goes_ Try.func13 (by kernel_rfl) rfl #[.agg #[.int .i64 a0_0, .int .i64 a0_1], .agg #[.int .i64 a2_0, .int .i64 a2_1]] (by rfl) rfl rfl hA ?_
  with_reducible refine (impl_cross.calls a0_0 a0_1 a2_0 a2_1 t192 _ A7.out).mono ?_
  rintro e w35 ⟨rfl, hb⟩
  refine ⟨_, rfl, ?_⟩
  replace HO190 := Aside0.mk (Kd.R_below (rA HO190) hb)
  replace BK183 := kB BK183 hb
  replace BK184 := kB BK184 hb
  replace BK185 := kB BK185 hb
  replace BK186 := kB BK186 hb
  replace BK187 := kB BK187 hb
  replace HB := lB hb
  (try clear hb)
  (try clear hb2)
  (try clear hk)
  (try clear hi)
  refine hK.out _ _ ⟨cA BK183 0, cA BK183 1, cA BK185 0, cA BK185 1, cA BK184 0, cA BK184 1, cA BK186 0, cA BK186 1⟩ (fun hHeld => ?_)
  clear hK K
  refine norm_ (a' := ?_) ?_ ?_
  rotate_left
  ·
   show Act.put _ (some 28) _ = _
   simp only [pA]
   rfl
  refine one_ (i := 5) (N := some 31) #[Y, Y, Y, Y, Y, Y, Z, Z] rfl rfl (one_of HT_.out (by kernel_rfl)) (by decide) (fun K hK => ?_)
  refine goes_ Try.func13 (by kernel_rfl) rfl #[.agg #[.int .i64 a1_0, .int .i64 a1_1], .agg #[.int .i64 a3_0, .int .i64 a3_1]] (by rfl) rfl rfl hA ?_
  with_reducible refine (impl_cross.calls a1_0 a1_1 a3_0 a3_1 t193 _ A8.out).mono ?_
  rintro e w36 ⟨rfl, hb⟩
  refine ⟨_, rfl, ?_⟩
  replace HO190 := Aside0.mk (Kd.R_below (rA HO190) hb)
  replace BK183 := kB BK183 hb
  replace BK184 := kB BK184 hb
  replace BK185 := kB BK185 hb
  replace BK186 := kB BK186 hb
  replace BK187 := kB BK187 hb
  replace HB := lB hb
  (try clear hb)
  (try clear hb2)
  (try clear hk)
  (try clear hi)
  refine hK.out _ _ ⟨cA BK183 0, cA BK183 1, cA BK185 0, cA BK185 1, cA BK184 0, cA BK184 1, cA BK186 0, cA BK186 1⟩ (fun hHeld => ?_)
  clear hK K
  refine norm_ (a' := ?_) ?_ ?_
  rotate_left
  ·
   show Act.put _ (some 31) _ = _
   simp only [pA]
   rfl
  refine one_ (i := 6) (N := some 32) #[Y, Y, Y, Y, Y, Y, Y, Z] rfl rfl (one_of HT_.out (by kernel_rfl)) (by decide) (fun K hK => ?_)
  refine Kd.R_lit_step (Kd.int .i64) _ 2 ?hg (N := 32) ?hd (xs := ([t192, t193] : List Int)) (inner := [.int .i64 t192, .int .i64 t193]) (ok := fun _ => True) (okp := fun _ => True) ?hr ?hp (fun _ hk => hk) trivial (Below.refl _ _) (Nat.le_refl _) (by simp) ?_; (case hd => rfl); (case hg => rfl); (case hr => first | (go_simp; done) | (go_simp; rfl)); (case hp => exact (Reps.one (show Kd.M (Kd.int .i64) _ _ _ t192 [.int .i64 t192] from rfl) (Reps.one (show Kd.M (Kd.int .i64) _ _ _ t193 [.int .i64 t193] from rfl) (Reps.none _ _))))
  intro v195 w37 ho38 hb hg_ hnew_
  clear hg_ hnew_
  (first | rw [← Ny194.out] at ho38 | (simp only [Int.reduceToNat] at ho38; rw [← Ny194.out] at ho38))
  have HO196 := Aside0.mk (Kd.R_lower ho38 (below_size blA))
  replace HO190 := Aside0.mk (Kd.R_below (rA HO190) hb)
  replace BK183 := kB BK183 hb
  replace BK184 := kB BK184 hb
  replace BK185 := kB BK185 hb
  replace BK186 := kB BK186 hb
  replace BK187 := kB BK187 hb
  replace HB := lB hb
  clear hb ho38
  refine hK.out _ _ ⟨cA BK183 0, cA BK183 1, cA BK185 0, cA BK185 1, cA BK184 0, cA BK184 1, cA BK186 0, cA BK186 1⟩ (fun hHeld => ?_)
  clear hK K
  refine norm_ (a' := ?_) ?_ ?_
  rotate_left
  ·
   show Act.put _ (some 32) _ = _
   simp only [pA]
   rfl
  refine puA (i := 7) (N := some 11) #[Y, Y, Y, Y, Y, Y, Y, Y] rfl rfl HT_ ?_
  refine done_ (done_of HT_.out (by kernel_rfl)) ?_
  try go_wp2
  have n0_ := Aside0.mk (Kd.R_drew HO190.out)
  have n1_ := Aside0.mk (Kd.R_drew HO196.out)
  have n2_ := Aside0.mk (blk_drew BK183.out)
  have n3_ := Aside0.mk (blk_drew BK184.out)
  have n4_ := Aside0.mk (blk_drew BK185.out)
  have n5_ := Aside0.mk (blk_drew BK186.out)
  have n6_ := Aside0.mk (blk_drew BK187.out)
  have n7_ := Aside0.mk (below_drew1 HB.out)
  clear HO190
  clear HO196
  clear BK183
  clear BK184
  clear BK185
  clear BK186
  clear BK187
  clear HB
  have HO190 := n0_
  have HO196 := n1_
  have BK183 := n2_
  have BK184 := n3_
  have BK185 := n4_
  have BK186 := n5_
  have BK187 := n6_
  have HB := n7_
  clear n0_ n1_ n2_ n3_ n4_ n5_ n6_ n7_
  refine start_ (n := 8) (S := fun w' => w'.cell? ⟨gb183, 0, none⟩ = some (.int .i64 a0_0) ∧ w'.cell? ⟨gb183, 1, none⟩ = some (.int .i64 a0_1) ∧ w'.cell? ⟨gb186, 0, none⟩ = some (.int .i64 a3_0) ∧ w'.cell? ⟨gb186, 1, none⟩ = some (.int .i64 a3_1) ∧ w'.cell? ⟨gb184, 0, none⟩ = some (.int .i64 a1_0) ∧ w'.cell? ⟨gb184, 1, none⟩ = some (.int .i64 a1_1) ∧ w'.cell? ⟨gb185, 0, none⟩ = some (.int .i64 a2_0) ∧ w'.cell? ⟨gb185, 1, none⟩ = some (.int .i64 a2_1)) (ds := []) #[Z, Z, Z, Z, Z, Z, Z, Z] (by kernel_rfl) rfl rfl ⟨cA BK183 0, cA BK183 1, cA BK186 0, cA BK186 1, cA BK184 0, cA BK184 1, cA BK185 0, cA BK185 1⟩ (fun hHeld => ?_); refine with_tabW impl_CrossRatio.tab5 impl_CrossRatio.bits5 (fun HT_ HW_ => ?_)
  generalize w37.drew = w39 at HO190 HO196 BK183 BK184 BK185 BK186 BK187 HB hHeld ⊢
  refine take_ (i := 0) (N := some 33) (v := ?_) (a' := ?_) #[Y, Z, Z, Z, Z, Z, Z, Z] rfl rfl (take_ofW HT_.out HW_.out (by kernel_rfl)) (fun _ _ _ h => h) (Or.inl ⟨by rfl, ?_⟩) hHeld ?_ ?_
  rotate_left
  ·
   rintro w' ⟨s0, s1, s2, s3, s4, s5, s6, s7⟩
   go_simp
   with_reducible rfl
  rotate_left
  ·
   simp only [pA]
   rfl
  refine take_ (i := 1) (N := some 34) (v := ?_) (a' := ?_) #[Y, Y, Z, Z, Z, Z, Z, Z] rfl rfl (take_ofW HT_.out HW_.out (by kernel_rfl)) (fun _ _ _ h => h) (Or.inl ⟨by rfl, ?_⟩) hHeld ?_ ?_
  rotate_left
  ·
   rintro w' ⟨s0, s1, s2, s3, s4, s5, s6, s7⟩
   go_simp
   with_reducible rfl
  rotate_left
  ·
   simp only [pA]
   rfl
  refine take_ (i := 3) (N := some 36) (v := ?_) (a' := ?_) #[Y, Y, Z, Y, Z, Z, Z, Z] rfl rfl (take_ofW HT_.out HW_.out (by kernel_rfl)) (fun _ _ _ h => h) (Or.inl ⟨by rfl, ?_⟩) hHeld ?_ ?_
  rotate_left
  ·
   rintro w' ⟨s0, s1, s2, s3, s4, s5, s6, s7⟩
   go_simp
   with_reducible rfl
  rotate_left
  ·
   simp only [pA]
   rfl
  refine take_ (i := 4) (N := some 37) (v := ?_) (a' := ?_) #[Y, Y, Z, Y, Y, Z, Z, Z] rfl rfl (take_ofW HT_.out HW_.out (by kernel_rfl)) (fun _ _ _ h => h) (Or.inl ⟨by rfl, ?_⟩) hHeld ?_ ?_
  rotate_left
  ·
   rintro w' ⟨s0, s1, s2, s3, s4, s5, s6, s7⟩
   go_simp
   with_reducible rfl
  rotate_left
  ·
   simp only [pA]
   rfl
  refine one_ (i := 2) (N := some 35) #[Y, Y, Y, Y, Y, Z, Z, Z] rfl rfl (one_of HT_.out (by kernel_rfl)) (by decide) (fun K hK => ?_)
  refine goes_ Try.func13 (by kernel_rfl) rfl #[.agg #[.int .i64 a0_0, .int .i64 a0_1], .agg #[.int .i64 a3_0, .int .i64 a3_1]] (by rfl) rfl rfl hA ?_
  with_reducible refine (impl_cross.calls a0_0 a0_1 a3_0 a3_1 t197 _ A9.out).mono ?_
  rintro e w40 ⟨rfl, hb⟩
  refine ⟨_, rfl, ?_⟩
  replace HO190 := Aside0.mk (Kd.R_below (rA HO190) hb)
  replace HO196 := Aside0.mk (Kd.R_below (rA HO196) hb)
  replace BK183 := kB BK183 hb
  replace BK184 := kB BK184 hb
  replace BK185 := kB BK185 hb
  replace BK186 := kB BK186 hb
  replace BK187 := kB BK187 hb
  replace HB := lB hb
  (try clear hb)
  (try clear hb2)
  (try clear hk)
  (try clear hi)
  refine hK.out _ _ ⟨cA BK183 0, cA BK183 1, cA BK186 0, cA BK186 1, cA BK184 0, cA BK184 1, cA BK185 0, cA BK185 1⟩ (fun hHeld => ?_)
  clear hK K
  refine norm_ (a' := ?_) ?_ ?_
  rotate_left
  ·
   show Act.put _ (some 35) _ = _
   simp only [pA]
   rfl
  refine one_ (i := 5) (N := some 38) #[Y, Y, Y, Y, Y, Y, Z, Z] rfl rfl (one_of HT_.out (by kernel_rfl)) (by decide) (fun K hK => ?_)
  refine goes_ Try.func13 (by kernel_rfl) rfl #[.agg #[.int .i64 a1_0, .int .i64 a1_1], .agg #[.int .i64 a2_0, .int .i64 a2_1]] (by rfl) rfl rfl hA ?_
  with_reducible refine (impl_cross.calls a1_0 a1_1 a2_0 a2_1 t198 _ A10.out).mono ?_
  rintro e w41 ⟨rfl, hb⟩
  refine ⟨_, rfl, ?_⟩
  replace HO190 := Aside0.mk (Kd.R_below (rA HO190) hb)
  replace HO196 := Aside0.mk (Kd.R_below (rA HO196) hb)
  replace BK183 := kB BK183 hb
  replace BK184 := kB BK184 hb
  replace BK185 := kB BK185 hb
  replace BK186 := kB BK186 hb
  replace BK187 := kB BK187 hb
  replace HB := lB hb
  (try clear hb)
  (try clear hb2)
  (try clear hk)
  (try clear hi)
  refine hK.out _ _ ⟨cA BK183 0, cA BK183 1, cA BK186 0, cA BK186 1, cA BK184 0, cA BK184 1, cA BK185 0, cA BK185 1⟩ (fun hHeld => ?_)
  clear hK K
  refine norm_ (a' := ?_) ?_ ?_
  rotate_left
  ·
   show Act.put _ (some 38) _ = _
   simp only [pA]
   rfl
  refine one_ (i := 6) (N := some 39) #[Y, Y, Y, Y, Y, Y, Y, Z] rfl rfl (one_of HT_.out (by kernel_rfl)) (by decide) (fun K hK => ?_)
  refine Kd.R_lit_step (Kd.int .i64) _ 2 ?hg (N := 39) ?hd (xs := ([t197, t198] : List Int)) (inner := [.int .i64 t197, .int .i64 t198]) (ok := fun _ => True) (okp := fun _ => True) ?hr ?hp (fun _ hk => hk) trivial (Below.refl _ _) (Nat.le_refl _) (by simp) ?_; (case hd => rfl); (case hg => rfl); (case hr => first | (go_simp; done) | (go_simp; rfl)); (case hp => exact (Reps.one (show Kd.M (Kd.int .i64) _ _ _ t197 [.int .i64 t197] from rfl) (Reps.one (show Kd.M (Kd.int .i64) _ _ _ t198 [.int .i64 t198] from rfl) (Reps.none _ _))))
  intro v200 w42 ho43 hb hg_ hnew_
  clear hg_ hnew_
  (first | rw [← Ny199.out] at ho43 | (simp only [Int.reduceToNat] at ho43; rw [← Ny199.out] at ho43))
  have HO201 := Aside0.mk (Kd.R_lower (Kd.R_new' ho43 (Kd.R_lt (rA HO196))) (below_size blA))
  replace HO190 := Aside0.mk (Kd.R_below (rA HO190) hb)
  replace HO196 := Aside0.mk (Kd.R_elder' (rA HO196) (Kd.R_base ho43) hb)
  replace BK183 := kB BK183 hb
  replace BK184 := kB BK184 hb
  replace BK185 := kB BK185 hb
  replace BK186 := kB BK186 hb
  replace BK187 := kB BK187 hb
  replace HB := lB hb
  clear hb ho43
  refine hK.out _ _ ⟨cA BK183 0, cA BK183 1, cA BK186 0, cA BK186 1, cA BK184 0, cA BK184 1, cA BK185 0, cA BK185 1⟩ (fun hHeld => ?_)
  clear hK K
  refine norm_ (a' := ?_) ?_ ?_
  rotate_left
  ·
   show Act.put _ (some 39) _ = _
   simp only [pA]
   rfl
  refine puA (i := 7) (N := some 12) #[Y, Y, Y, Y, Y, Y, Y, Y] rfl rfl HT_ ?_
  refine done_ (done_of HT_.out (by kernel_rfl)) ?_
  obtain ⟨Ao44, co44, eo44⟩ := Kd.R_slice HO196.out
  subst eo44
  try go_wp2
  go_loopg [42] k (fun kq v42 w' => ∃ (x11_1 : List Int) (x12_1 : List Int) (x42_1 : Int), v42 = .int .i64 x42_1 ∧ Aside0 (impl_CrossRatio.l0 kq x11_1 x12_1 (y194.length : Int) x42_1 = some (r1, r2, r3)) ∧ Aside0 (kq ≤ k) ∧ Aside0 (Kd.R (Kd.int .i64) 2 w' w.heap.size (fun k_ => some k_ ≠ (v200 : Value).ownBlock) (.slice Ao44 y194.length co44) x11_1) ∧ Aside0 (Kd.R (Kd.int .i64) 2 w' w.heap.size (fun k_ => some k_ ≠ ((.slice Ao44 y194.length co44) : Value).ownBlock) v200 x12_1) ∧ Aside0 (w'.heap[gb183]? = some (.cells #[.int .i64 a0_0, .int .i64 a0_1] 24 (0, 0))) ∧ Aside0 (w'.heap[gb184]? = some (.cells #[.int .i64 a1_0, .int .i64 a1_1] 24 (0, 0))) ∧ Aside0 (w'.heap[gb185]? = some (.cells #[.int .i64 a2_0, .int .i64 a2_1] 24 (0, 0))) ∧ Aside0 (w'.heap[gb186]? = some (.cells #[.int .i64 a3_0, .int .i64 a3_1] 24 (0, 0))) ∧ Aside0 (w'.heap[gb187]? = some (.cells #[.int .i64 0, .int .i64 0] 24 (0, 0))) ∧ Aside0 (Below w.heap.size w w'))
  case atStart => exact ⟨(y194), (y199), (0), hB, H', ⟨Nat.le_refl _⟩, ⟨by (with_reducible repeat (first | apply Kd.R_alloc | apply Kd.R_drewN | apply Kd.R_drew)); exact Kd.R_mono HO196.out (fun _ hk => hk.2)⟩, ⟨by (with_reducible repeat (first | apply Kd.R_alloc | apply Kd.R_drewN | apply Kd.R_drew)); exact Kd.R_mono HO201.out (fun _ hk => hk.2)⟩, ⟨bkA BK183⟩, ⟨bkA BK184⟩, ⟨bkA BK185⟩, ⟨bkA BK186⟩, ⟨bkA BK187⟩, ⟨blA⟩⟩
  case round =>
   clear H'
   try clear c2
   try clear c6
   try clear c6b0
   try clear c6b1
   try clear hcz20_0
   try clear hcz20_1
   try clear hcz24_0
   try clear hcz24_1
   try clear hcz27_0
   try clear hcz27_1
   try clear hcz29_0
   try clear hcz29_1
   try clear hfz20_0
   try clear hfz20_1
   try clear hfz24_0
   try clear hfz24_1
   try clear hfz27_0
   try clear hfz27_1
   try clear hfz29_0
   try clear hfz29_1
   obtain ⟨x11_1, x12_1, x42_1, rfl, HA, HK1, HO_11, HO_12, BK183, BK184, BK185, BK186, BK187, HB⟩ := hrel
   have hl11_1 := (Kd.R_reads' HO_11.out).1
   rw [hl11_1] at HO_11
   (try simp only [hl11_1])
   (try simp only [hl11_1] at BK183)
   (try simp only [hl11_1] at BK184)
   (try simp only [hl11_1] at BK185)
   (try simp only [hl11_1] at BK186)
   (try simp only [hl11_1] at BK187)
   (try simp only [hl11_1] at HO_12)
   cases gk with
   | zero => exact absurd HA.out (by simp [impl_CrossRatio.l0])
   | succ k1 =>
    have H := HA.out
    clear HA
    simp only [impl_CrossRatio.l0] at H
    by_cases c45 : x42_1 < (y194.length : Int)
    ·
     rw [if_pos c45] at H
     have c45b0 := decide_eq_true c45
     try (have c45b9_0 := c45b0; simp only [hl11_1] at c45b9_0)
     clear c45
     have H' := Aside0.mk H
     clear H
     obtain ⟨Ao46, co46, eo46⟩ := Kd.R_slice HO_12.out
     subst eo46
     go_wp2
     go_loopg [47] k1 (fun kq v47 w' => ∃ (x11_2 : List Int) (x12_2 : List Int) (x47_2 : Int), v47 = .int .i64 x47_2 ∧ Aside0 (impl_CrossRatio.l1 kq x11_2 x12_2 x42_1 (y194.length : Int) x42_1 (x12_1.length : Int) x47_2 = some (r1, r2, r3)) ∧ Aside0 (kq ≤ k1) ∧ Aside0 (Kd.R (Kd.int .i64) 2 w' w.heap.size (fun k_ => some k_ ≠ ((.slice Ao46 x12_1.length co46) : Value).ownBlock) (.slice Ao44 x11_1.length co44) x11_2) ∧ Aside0 (Kd.R (Kd.int .i64) 2 w' w.heap.size (fun k_ => some k_ ≠ ((.slice Ao44 x11_1.length co44) : Value).ownBlock) (.slice Ao46 x12_1.length co46) x12_2) ∧ Aside0 (w'.heap[gb183]? = some (.cells #[.int .i64 a0_0, .int .i64 a0_1] 24 (0, 0))) ∧ Aside0 (w'.heap[gb184]? = some (.cells #[.int .i64 a1_0, .int .i64 a1_1] 24 (0, 0))) ∧ Aside0 (w'.heap[gb185]? = some (.cells #[.int .i64 a2_0, .int .i64 a2_1] 24 (0, 0))) ∧ Aside0 (w'.heap[gb186]? = some (.cells #[.int .i64 a3_0, .int .i64 a3_1] 24 (0, 0))) ∧ Aside0 (w'.heap[gb187]? = some (.cells #[.int .i64 0, .int .i64 0] 24 (0, 0))) ∧ Aside0 (Below w.heap.size w w'))
     case atStart => exact ⟨(x11_1), (x12_1), (0), hB, H', ⟨Nat.le_refl _⟩, ⟨by (try simp only [hl11_1]); (with_reducible repeat (first | apply Kd.R_alloc | apply Kd.R_drewN | apply Kd.R_drew)); exact HO_11.out⟩, ⟨by (try simp only [hl11_1]); (with_reducible repeat (first | apply Kd.R_alloc | apply Kd.R_drewN | apply Kd.R_drew)); exact HO_12.out⟩, ⟨by (try simp only [hl11_1]); exact bkA BK183⟩, ⟨by (try simp only [hl11_1]); exact bkA BK184⟩, ⟨by (try simp only [hl11_1]); exact bkA BK185⟩, ⟨by (try simp only [hl11_1]); exact bkA BK186⟩, ⟨by (try simp only [hl11_1]); exact bkA BK187⟩, ⟨blA⟩⟩
     case round =>
      clear H'
      try clear c2
      try clear c6
      try clear c6b0
      try clear c6b1
      try clear c45
      try clear c45b0
      try clear hcz20_0
      try clear hcz20_1
      try clear hcz24_0
      try clear hcz24_1
      try clear hcz27_0
      try clear hcz27_1
      try clear hcz29_0
      try clear hcz29_1
      try clear hfz20_0
      try clear hfz20_1
      try clear hfz24_0
      try clear hfz24_1
      try clear hfz27_0
      try clear hfz27_1
      try clear hfz29_0
      try clear hfz29_1
      obtain ⟨x11_2, x12_2, x47_2, rfl, HA, HK2, HO_11, HO_12, BK183, BK184, BK185, BK186, BK187, HB⟩ := hrel
      have hl11_2 := (Kd.R_reads' HO_11.out).1
      rw [hl11_2] at HO_11
      (try simp only [hl11_2])
      (try simp only [hl11_2] at BK183)
      (try simp only [hl11_2] at BK184)
      (try simp only [hl11_2] at BK185)
      (try simp only [hl11_2] at BK186)
      (try simp only [hl11_2] at BK187)
      (try simp only [hl11_2] at HO_12)
      have hl12_2 := (Kd.R_reads' HO_12.out).1
      rw [hl12_2] at HO_12
      (try simp only [hl12_2])
      (try simp only [hl12_2] at BK183)
      (try simp only [hl12_2] at BK184)
      (try simp only [hl12_2] at BK185)
      (try simp only [hl12_2] at BK186)
      (try simp only [hl12_2] at BK187)
      (try simp only [hl12_2] at HO_11)
      cases gk with
      | zero => exact absurd HA.out (by simp [impl_CrossRatio.l1])
      | succ k2 =>
       have H := HA.out
       clear HA
       simp only [impl_CrossRatio.l1] at H
       by_cases c47 : x47_2 < (x12_1.length : Int)
       ·
        rw [if_pos c47] at H
        have c47b0 := decide_eq_true c47
        try (have c47b9_0 := c47b0; simp only [hl11_1] at c47b9_0)
        try (have c47b9_1 := c47b0; simp only [hl11_2] at c47b9_1)
        try (have c47b9_2 := c47b0; simp only [hl12_2] at c47b9_2)
        clear c47
        by_cases c48 : 0 ≤ x42_1
        ·
         rw [if_pos c48] at H
         have c48b0 := decide_eq_true c48
         clear c48
         by_cases c49 : x42_1 < (x11_2.length : Int)
         ·
          rw [if_pos c49] at H
          have c49b0 := decide_eq_true c49
          try (have c49b9_0 := c49b0; simp only [hl11_1] at c49b9_0)
          try (have c49b9_1 := c49b0; simp only [hl11_2] at c49b9_1)
          try (have c49b9_2 := c49b0; simp only [hl12_2] at c49b9_2)
          clear c49
          by_cases c50 : 0 ≤ x47_2
          ·
           rw [if_pos c50] at H
           have c50b0 := decide_eq_true c50
           clear c50
           by_cases c51 : x47_2 < (x12_2.length : Int)
           ·
            rw [if_pos c51] at H
            have c51b0 := decide_eq_true c51
            try (have c51b9_0 := c51b0; simp only [hl11_1] at c51b9_0)
            try (have c51b9_1 := c51b0; simp only [hl11_2] at c51b9_1)
            try (have c51b9_2 := c51b0; simp only [hl12_2] at c51b9_2)
            clear c51
            replace H := bS H
            obtain ⟨t204, A52, H⟩ := H
            try dsimp only at H
            by_cases c53 : t204 = 0
            ·
             rw [if_pos c53] at H
             exact absurd H (by simp)
            ·
             rw [if_neg c53] at H
             have c53b0 : (t204 == 0) = false := beq_eq_false_iff_ne.mpr c53
             have c53b1 : (t204 != 0) = true := bne_iff_ne.mpr c53
             obtain ⟨y206, hy206⟩ : ∃ y_ : List Int, y_ = (x11_2.set (x42_1 : Int).toNat (wrap64 (Int.tdiv (rd x11_2 x42_1) t204))) := ⟨_, rfl⟩
             replace H : (impl_CrossRatio.l1 k2 y206 (x12_2.set (x47_2 : Int).toNat (wrap64 (Int.tdiv (rd x12_2 x47_2) t204))) x42_1 (y194.length : Int) x42_1 (x12_1.length : Int) (wrap64 (x47_2 + 1))) = some (r1, r2, r3) := by first | (rw [hy206]; with_reducible exact H) | (have H2_ := (Option.bind_some _ _).symm.trans H; rw [hy206]; with_reducible exact H2_) | (have H2_ := (Option.bind_some _ _).symm.trans H; with_reducible exact H2_) | with_reducible exact H | (rw [hy206]; exact H) | exact H
             have Ny206 := Aside0.mk hy206
             clear hy206
             obtain ⟨y208, hy208⟩ : ∃ y_ : List Int, y_ = (x12_2.set (x47_2 : Int).toNat (wrap64 (Int.tdiv (rd x12_2 x47_2) t204))) := ⟨_, rfl⟩
             replace H : (impl_CrossRatio.l1 k2 y206 y208 x42_1 (y194.length : Int) x42_1 (x12_1.length : Int) (wrap64 (x47_2 + 1))) = some (r1, r2, r3) := by first | (rw [hy208]; with_reducible exact H) | (have H2_ := (Option.bind_some _ _).symm.trans H; rw [hy208]; with_reducible exact H2_) | (have H2_ := (Option.bind_some _ _).symm.trans H; with_reducible exact H2_) | with_reducible exact H | (rw [hy208]; exact H) | exact H
             have Ny208 := Aside0.mk hy208
             clear hy208
             have H' := Aside0.mk H
             clear H
             try go_wp2
             have n0_ := Aside0.mk (Kd.R_drew HO_11.out)
             have n1_ := Aside0.mk (Kd.R_drew HO_12.out)
             have n2_ := Aside0.mk (blk_drew BK183.out)
             have n3_ := Aside0.mk (blk_drew BK184.out)
             have n4_ := Aside0.mk (blk_drew BK185.out)
             have n5_ := Aside0.mk (blk_drew BK186.out)
             have n6_ := Aside0.mk (blk_drew BK187.out)
             have n7_ := Aside0.mk (below_drew1 HB.out)
             clear HO_11
             clear HO_12
             clear BK183
             clear BK184
             clear BK185
             clear BK186
             clear BK187
             clear HB
             have HO_11 := n0_
             have HO_12 := n1_
             have BK183 := n2_
             have BK184 := n3_
             have BK185 := n4_
             have BK186 := n5_
             have BK187 := n6_
             have HB := n7_
             clear n0_ n1_ n2_ n3_ n4_ n5_ n6_ n7_
             have p202 : 0 ≤ (x42_1 : Int) := dA
             have q202 : x42_1 < (x11_2.length : Int) := dA
             obtain ⟨ad202, e202, hx202_0⟩ := Kd.at_int (Kd.R_reads' HO_11.out).2.2 x42_1 p202 q202
             cases e202
             replace p202 := eq_true p202
             replace q202 := eq_true q202
             have p203 : 0 ≤ (x47_2 : Int) := dA
             have q203 : x47_2 < (x12_2.length : Int) := dA
             obtain ⟨ad203, e203, hx203_0⟩ := Kd.at_int (Kd.R_reads' HO_12.out).2.2 x47_2 p203 q203
             cases e203
             replace p203 := eq_true p203
             replace q203 := eq_true q203
             refine start_ (n := 10) (S := fun w' => w'.cell? (ad202.add (x42_1).toNat) = some (.int .i64 (rd x11_2 x42_1)) ∧ w'.cell? (ad203.add (x47_2).toNat) = some (.int .i64 (rd x12_2 x47_2))) (ds := []) #[Z, Z, Z, Z, Z, Z, Z, Z, Z, Z] (by kernel_rfl) rfl rfl ⟨hx202_0, hx203_0⟩ (fun hHeld => ?_); refine with_tabW impl_CrossRatio.tab12 impl_CrossRatio.bits12 (fun HT_ HW_ => ?_)
             generalize wr.drew = w56 at HO_11 HO_12 BK183 BK184 BK185 BK186 BK187 HB hx202_0 hx203_0 hHeld ⊢
             refine puA (i := 0) (N := some 50) #[Y, Z, Z, Z, Z, Z, Z, Z, Z, Z] rfl rfl HT_ ?_
             refine puA (i := 1) (N := some 51) #[Y, Y, Z, Z, Z, Z, Z, Z, Z, Z] rfl rfl HT_ ?_
             refine puA (i := 2) (N := some 52) #[Y, Y, Y, Z, Z, Z, Z, Z, Z, Z] rfl rfl HT_ ?_
             refine puA (i := 4) (N := some 54) #[Y, Y, Y, Z, Y, Z, Z, Z, Z, Z] rfl rfl HT_ ?_
             refine puA (i := 5) (N := some 55) #[Y, Y, Y, Z, Y, Y, Z, Z, Z, Z] rfl rfl HT_ ?_
             refine puA (i := 6) (N := some 56) #[Y, Y, Y, Z, Y, Y, Y, Z, Z, Z] rfl rfl HT_ ?_
             refine take_ (i := 3) (N := some 53) (v := ?_) (a' := ?_) #[Y, Y, Y, Y, Y, Y, Y, Z, Z, Z] rfl rfl (take_ofW HT_.out HW_.out (by kernel_rfl)) (fun _ _ _ h => h) (Or.inl ⟨by rfl, ?_⟩) hHeld ?_ ?_
             rotate_left
             ·
              rintro w' ⟨s0, s1⟩
              go_simp
              with_reducible rfl
             rotate_left
             ·
              simp only [pA]
              rfl
             refine take_ (i := 7) (N := some 57) (v := ?_) (a' := ?_) #[Y, Y, Y, Y, Y, Y, Y, Y, Z, Z] rfl rfl (take_ofW HT_.out HW_.out (by kernel_rfl)) (fun _ _ _ h => h) (Or.inl ⟨by rfl, ?_⟩) hHeld ?_ ?_
             rotate_left
             ·
              rintro w' ⟨s0, s1⟩
              go_simp
              with_reducible rfl
             rotate_left
             ·
              simp only [pA]
              rfl
             refine one_ (i := 8) (N := some 58) #[Y, Y, Y, Y, Y, Y, Y, Y, Y, Z] rfl rfl (one_of HT_.out (by kernel_rfl)) (by decide) (fun K hK => ?_)
             refine goes_ Try.func14 (by kernel_rfl) rfl #[.int .i64 (rd x11_2 x42_1), .int .i64 (rd x12_2 x47_2)] (by rfl) rfl rfl hA ?_
             with_reducible refine (impl_gcd.calls k2 (rd x11_2 x42_1) (rd x12_2 x47_2) t204 _ A52.out).mono ?_
             rintro e w57 ⟨rfl, hb⟩
             have HS0_ := (hb.cell (World.block_lt_of_cell? _ _ (hHeld.1))).trans (hHeld.1)
             have HS1_ := (hb.cell (World.block_lt_of_cell? _ _ (hHeld.2))).trans (hHeld.2)
             refine ⟨_, rfl, ?_⟩
             replace HO_11 := Aside0.mk (Kd.R_below (rA HO_11) hb)
             replace HO_12 := Aside0.mk (Kd.R_below (rA HO_12) hb)
             replace BK183 := kB BK183 hb
             replace BK184 := kB BK184 hb
             replace BK185 := kB BK185 hb
             replace BK186 := kB BK186 hb
             replace BK187 := kB BK187 hb
             replace HB := lB hb
             (try clear hb)
             (try clear hb2)
             (try clear hk)
             (try clear hi)
             refine hK.out _ _ ⟨HS0_, HS1_⟩ (fun hHeld => ?_)
             clear hK K
             refine norm_ (a' := ?_) ?_ ?_
             rotate_left
             ·
              show Act.put _ (some 58) _ = _
              simp only [pA]
              rfl
             refine puA (i := 9) (N := some 15) #[Y, Y, Y, Y, Y, Y, Y, Y, Y, Y] rfl rfl HT_ ?_
             refine done_ (done_of HT_.out (by kernel_rfl)) ?_
             have p205 : 0 ≤ (x42_1 : Int) := dA
             have q205 : x42_1 < (x11_2.length : Int) := dA
             obtain ⟨ad205, e205, hx205_0⟩ := Kd.at_int (Kd.R_reads' HO_11.out).2.2 x42_1 p205 q205
             obtain rfl : ad202 = ad205 := (by injection e205)
             replace p205 := eq_true p205
             replace q205 := eq_true q205
             have p54 : 0 ≤ (x42_1 : Int) := dA
             have q54 : (x42_1 : Int) < ((x11_2.length : Int) : Int) := dA
             obtain ⟨go54, co54, eo54, gb54, gl54, cl54, HG54⟩ := Kd.R_form HO_11.out (by omega)
             (first | cases eo54 | (injection eo54 with ea_ en_ ec_; (first | subst ea_ | (injection ea_ with ea_; subst ea_)); subst ec_; clear en_))
             have GB54 := Aside0.mk gb54
             have GG54 := Aside0.mk HG54
             clear gb54 gl54 HG54
             (first | simp only [add_plain] at hx202_0 | skip)
             (first | simp only [add_plain] at hx205_0 | skip)
             obtain ⟨hx54_0, hf54_0⟩ := Kd.R_celln 0 HO_11.out (x42_1 : Int) p54 q54
             replace p54 := eq_true p54
             replace q54 := eq_true q54
             obtain ⟨hy58_, hz58_⟩ := Kd.R_celln 0 HO_11.out (x42_1 : Int) (dA) (dA)
             have HP58 := Kd.R_putg HO_11.out (x42_1 : Int) (wrap64 (Int.tdiv (rd x11_2 x42_1) t204))
             try go_wp2_with (first | ((with_reducible refine gate_store (t := 2) (p := 65) rfl ?_); refine store_event (t := 2) (p := 65) (v := ?vo_w59) (w1 := (w57.setCell ⟨go54, (x42_1 : Int).toNat, none⟩ (.int .i64 (wrap64 (Int.tdiv (rd x11_2 x42_1) t204))))) ?hg ?ho ?hn ?hr ?_; (case ho => rfl); (case hg => rfl); (case hn => rfl); (case hr => first | (go_simp; done) | (go_simp; rfl)); intro w59 hw; have hg : w57.grownBy w59 (some go54) := (by rw [hw]; exact HP58.2); have hp_ : Kd.R (Kd.int .i64) 2 w59 w.heap.size (fun k_ => some k_ ≠ (.slice (some ad203) x12_2.length co46 : Value).ownBlock) (.slice (some ⟨go54, 0, none⟩) x11_2.length co44) y206 := (by rw [hw, Ny206.out]; exact HP58.1); clear HP58; have n0_ := Aside0.mk (hp_); have n1_ := Aside0.mk (Kd.R_after (v := (.slice (some ⟨go54, 0, none⟩) x11_2.length co44)) (v1 := (.slice (some ⟨go54, 0, none⟩) x11_2.length co44)) (ok := (fun _ => True)) (by (with_reducible repeat (first | apply Kd.R_alloc | apply Kd.R_drewN | apply Kd.R_drew)); exact Kd.R_mono HO_12.out (fun _ hk => ⟨trivial, hk⟩)) hg (.inl rfl)); have n2_ := Aside0.mk (blk_grown (bkA BK183) hg (Kd.R_ne HO_11.out BK183.out (by decide))); have n3_ := Aside0.mk (blk_grown (bkA BK184) hg (Kd.R_ne HO_11.out BK184.out (by decide))); have n4_ := Aside0.mk (blk_grown (bkA BK185) hg (Kd.R_ne HO_11.out BK185.out (by decide))); have n5_ := Aside0.mk (blk_grown (bkA BK186) hg (Kd.R_ne HO_11.out BK186.out (by decide))); have n6_ := Aside0.mk (blk_grown (bkA BK187) hg (Kd.R_ne HO_11.out BK187.out (by decide))); have n7_ := Aside0.mk ((by rw [hw]; exact below_set (HB.out) GB54.out : Below w.heap.size w w59)); clear HO_11; clear HO_12; clear BK183; clear BK184; clear BK185; clear BK186; clear BK187; clear HB; have HO_11 := n0_; have HO_12 := n1_; have BK183 := n2_; have BK184 := n3_; have BK185 := n4_; have BK186 := n5_; have BK187 := n6_; have HB := n7_; clear n0_ n1_ n2_ n3_ n4_ n5_ n6_ n7_; clear hg hw hp_; have p207 : 0 ≤ (x47_2 : Int) := dA; have q207 : x47_2 < (x12_2.length : Int) := dA; obtain ⟨ad207, e207, hx207_0⟩ := Kd.at_int (Kd.R_reads' HO_12.out).2.2 x47_2 p207 q207; obtain rfl : ad203 = ad207 := (by injection e207); replace p207 := eq_true p207; replace q207 := eq_true q207; have p55 : 0 ≤ (x47_2 : Int) := dA; have q55 : (x47_2 : Int) < ((x12_2.length : Int) : Int) := dA; obtain ⟨go55, co55, eo55, gb55, gl55, cl55, HG55⟩ := Kd.R_form HO_12.out (by omega); (first | cases eo55 | (injection eo55 with ea_ en_ ec_; (first | subst ea_ | (injection ea_ with ea_; subst ea_)); subst ec_; clear en_)); have GB55 := Aside0.mk gb55; have GG55 := Aside0.mk HG55; clear gb55 gl55 HG55; (first | simp only [add_plain] at hx203_0 | skip); (first | simp only [add_plain] at hx207_0 | skip); obtain ⟨hx55_0, hf55_0⟩ := Kd.R_celln 0 HO_12.out (x47_2 : Int) p55 q55; replace p55 := eq_true p55; replace q55 := eq_true q55; have n_ := Aside0.mk (Kd.R_mono (ok' := (fun k_ => some k_ ≠ (.slice (some ⟨go54, 0, none⟩) x11_2.length co44 : Value).ownBlock)) HO_12.out (fun k_ hk => hk.2)); clear HO_12; have HO_12 := n_; clear n_; obtain ⟨hy60_, hz60_⟩ := Kd.R_celln 0 HO_12.out (x47_2 : Int) (dA) (dA); have HP60 := Kd.R_putg HO_12.out (x47_2 : Int) (wrap64 (Int.tdiv (rd x12_2 x47_2) t204))) | ((with_reducible refine gate_store (t := 2) (p := 72) rfl ?_); refine store_event (t := 2) (p := 72) (v := ?vo_w61) (w1 := (w59.setCell ⟨go55, (x47_2 : Int).toNat, none⟩ (.int .i64 (wrap64 (Int.tdiv (rd x12_2 x47_2) t204))))) ?hg ?ho ?hn ?hr ?_; (case ho => rfl); (case hg => rfl); (case hn => rfl); (case hr => first | (go_simp; done) | (go_simp; rfl)); intro w61 hw; have hg : w59.grownBy w61 (some go55) := (by rw [hw]; exact HP60.2); have hp_ : Kd.R (Kd.int .i64) 2 w61 w.heap.size (fun k_ => some k_ ≠ (.slice (some ⟨go54, 0, none⟩) x11_2.length co44 : Value).ownBlock) (.slice (some ⟨go55, 0, none⟩) x12_2.length co46) y208 := (by rw [hw, Ny208.out]; exact HP60.1); clear HP60; have n0_ := Aside0.mk (Kd.R_after (v := (.slice (some ⟨go55, 0, none⟩) x12_2.length co46)) (v1 := (.slice (some ⟨go55, 0, none⟩) x12_2.length co46)) (ok := (fun _ => True)) (by (with_reducible repeat (first | apply Kd.R_alloc | apply Kd.R_drewN | apply Kd.R_drew)); exact Kd.R_mono HO_11.out (fun _ hk => ⟨trivial, hk⟩)) hg (.inl rfl)); have n1_ := Aside0.mk (hp_); have n2_ := Aside0.mk (blk_grown (bkA BK183) hg (Kd.R_ne HO_12.out BK183.out (by decide))); have n3_ := Aside0.mk (blk_grown (bkA BK184) hg (Kd.R_ne HO_12.out BK184.out (by decide))); have n4_ := Aside0.mk (blk_grown (bkA BK185) hg (Kd.R_ne HO_12.out BK185.out (by decide))); have n5_ := Aside0.mk (blk_grown (bkA BK186) hg (Kd.R_ne HO_12.out BK186.out (by decide))); have n6_ := Aside0.mk (blk_grown (bkA BK187) hg (Kd.R_ne HO_12.out BK187.out (by decide))); have n7_ := Aside0.mk ((by rw [hw]; exact below_set (HB.out) GB55.out : Below w.heap.size w w61)); clear HO_11; clear HO_12; clear BK183; clear BK184; clear BK185; clear BK186; clear BK187; clear HB; have HO_11 := n0_; have HO_12 := n1_; have BK183 := n2_; have BK184 := n3_; have BK185 := n4_; have BK186 := n5_; have BK187 := n6_; have HB := n7_; clear n0_ n1_ n2_ n3_ n4_ n5_ n6_ n7_; clear hg hw hp_))
             (try simp only [← hl11_2, ← hl12_2])
             go_roundg k2
             case measure => have := HK1.out; have := HK2.out; omega
             case rel => exact ⟨(y206), (y208), (wrap64 (x47_2 + 1)), hB, H', ⟨by have := HK1.out; have := HK2.out; omega⟩, ⟨by (try simp only [hl11_1]); (try simp only [hl11_2]); (try simp only [hl12_2]); (with_reducible repeat (first | apply Kd.R_alloc | apply Kd.R_drewN | apply Kd.R_drew)); exact Kd.R_mono HO_11.out (fun _ hk => hk.2)⟩, ⟨by (try simp only [hl11_1]); (try simp only [hl11_2]); (try simp only [hl12_2]); (with_reducible repeat (first | apply Kd.R_alloc | apply Kd.R_drewN | apply Kd.R_drew)); exact HO_12.out⟩, ⟨by (try simp only [hl11_1]); (try simp only [hl11_2]); (try simp only [hl12_2]); exact bkA BK183⟩, ⟨by (try simp only [hl11_1]); (try simp only [hl11_2]); (try simp only [hl12_2]); exact bkA BK184⟩, ⟨by (try simp only [hl11_1]); (try simp only [hl11_2]); (try simp only [hl12_2]); exact bkA BK185⟩, ⟨by (try simp only [hl11_1]); (try simp only [hl11_2]); (try simp only [hl12_2]); exact bkA BK186⟩, ⟨by (try simp only [hl11_1]); (try simp only [hl11_2]); (try simp only [hl12_2]); exact bkA BK187⟩, ⟨blA⟩⟩
           ·
            rw [if_neg c51] at H
            exact absurd H (by simp)
          ·
           rw [if_neg c50] at H
           exact absurd H (by simp)
         ·
          rw [if_neg c49] at H
          exact absurd H (by simp)
        ·
         rw [if_neg c48] at H
         exact absurd H (by simp)
       ·
        rw [if_neg c47] at H
        have c47b0 := decide_eq_false c47
        try (have c47b9_0 := c47b0; simp only [hl11_1] at c47b9_0)
        try (have c47b9_1 := c47b0; simp only [hl11_2] at c47b9_1)
        try (have c47b9_2 := c47b0; simp only [hl12_2] at c47b9_2)
        clear c47
        have H' := Aside0.mk H
        clear H
        go_wp2
        (try simp only [← hl11_1, ← hl11_2, ← hl12_2])
        go_roundg k2
        case measure => have := HK1.out; have := HK2.out; omega
        case rel => exact ⟨(x11_2), (x12_2), (wrap64 (x42_1 + 1)), hB, H', ⟨by have := HK1.out; have := HK2.out; omega⟩, ⟨by (try simp only [hl11_1]); (try simp only [hl11_2]); (try simp only [hl12_2]); (with_reducible repeat (first | apply Kd.R_alloc | apply Kd.R_drewN | apply Kd.R_drew)); exact HO_11.out⟩, ⟨by (try simp only [hl11_1]); (try simp only [hl11_2]); (try simp only [hl12_2]); (with_reducible repeat (first | apply Kd.R_alloc | apply Kd.R_drewN | apply Kd.R_drew)); exact HO_12.out⟩, ⟨by (try simp only [hl11_1]); (try simp only [hl11_2]); (try simp only [hl12_2]); exact bkA BK183⟩, ⟨by (try simp only [hl11_1]); (try simp only [hl11_2]); (try simp only [hl12_2]); exact bkA BK184⟩, ⟨by (try simp only [hl11_1]); (try simp only [hl11_2]); (try simp only [hl12_2]); exact bkA BK185⟩, ⟨by (try simp only [hl11_1]); (try simp only [hl11_2]); (try simp only [hl12_2]); exact bkA BK186⟩, ⟨by (try simp only [hl11_1]); (try simp only [hl11_2]); (try simp only [hl12_2]); exact bkA BK187⟩, ⟨blA⟩⟩
    ·
     rw [if_neg c45] at H
     have c45b0 := decide_eq_false c45
     try (have c45b9_0 := c45b0; simp only [hl11_1] at c45b9_0)
     clear c45
     have HC62 := Aside0.mk H
     clear H
     go_upto_region 17 with (fail)
     go_cut [82] (fun v82 wc => ∃ (kq : Nat) (x82_61 : Bool), v82 = .bool x82_61 ∧ Aside0 (impl_CrossRatio.j2 kq x11_1 x12_1 x82_61 = some (r1, r2, r3)) ∧ Aside0 (kq ≤ k1) ∧ Aside0 (Kd.R (Kd.int .i64) 2 wc w.heap.size (fun k_ => some k_ ≠ (v200 : Value).ownBlock) (.slice Ao44 x11_1.length co44) x11_1) ∧ Aside0 (Kd.R (Kd.int .i64) 2 wc w.heap.size (fun k_ => some k_ ≠ ((.slice Ao44 x11_1.length co44) : Value).ownBlock) v200 x12_1) ∧ Aside0 (wc.heap[gb183]? = some (.cells #[.int .i64 a0_0, .int .i64 a0_1] 24 (0, 0))) ∧ Aside0 (wc.heap[gb184]? = some (.cells #[.int .i64 a1_0, .int .i64 a1_1] 24 (0, 0))) ∧ Aside0 (wc.heap[gb185]? = some (.cells #[.int .i64 a2_0, .int .i64 a2_1] 24 (0, 0))) ∧ Aside0 (wc.heap[gb186]? = some (.cells #[.int .i64 a3_0, .int .i64 a3_1] 24 (0, 0))) ∧ Aside0 (wc.heap[gb187]? = some (.cells #[.int .i64 0, .int .i64 0] 24 (0, 0))) ∧ Aside0 (Below w.heap.size w wc))
     case first =>
      have H := HC62.out
      clear HC62
      replace H := bS H
      obtain ⟨t209, A63, H⟩ := H
      try dsimp only at H
      by_cases c64 : t209 = true
      ·
       subst c64
       rw [if_pos rfl] at H
       try dsimp only at H
       replace H := bS H
       obtain ⟨t210, A65, H⟩ := H
       try dsimp only at H
       have H' := Aside0.mk H
       clear H
       go_wp2_with (first | ((with_reducible refine gate_callee (f := 15) rfl ?_); refine goesL_ (some 76) rfl rfl Try.func15 (by kernel_rfl) rfl #[.int .i64 1000000, .slice Ao44 x11_1.length co44] rfl hA ?_; (with_reducible refine (impl_within.calls k1 1000000 _ _ x11_1 true _ ?side1 ?side2 A63.out).mono ?_); (case side1 => repeat (first | exact (Kd.R_reads' HO_11.out).2.2 | (with_reducible refine Kd.C_alloc ?_ _) | (with_reducible refine Kd.C_drewN ?_ _) | (with_reducible refine Kd.C_drew ?_))); (case side2 => exact (Kd.R_reads' HO_11.out).2.1); rintro e w' ⟨rfl, ⟨nd, rfl⟩⟩; refine ⟨_, rfl, ?_⟩; obtain ⟨Ao66, co66, eo66⟩ := Kd.R_slice HO_12.out; subst eo66) | (go_at_call 15; (with_reducible refine (impl_within.calls k1 1000000 _ _ x12_1 t210 _ ?side1 ?side2 A65.out).mono ?_); (case side1 => repeat (first | exact (Kd.R_reads' HO_12.out).2.2 | (with_reducible refine Kd.C_alloc ?_ _) | (with_reducible refine Kd.C_drewN ?_ _) | (with_reducible refine Kd.C_drew ?_))); (case side2 => exact (Kd.R_reads' HO_12.out).2.1); rintro e w' ⟨rfl, ⟨nd, rfl⟩⟩))
       go_meet
       case rel => exact ⟨_, (!t210), hB, H', ⟨by have := HK1.out; first | omega | exact Nat.le_refl _⟩, ⟨by (try simp only [hl11_1]); (with_reducible repeat (first | apply Kd.R_alloc | apply Kd.R_drewN | apply Kd.R_drew)); exact HO_11.out⟩, ⟨by (try simp only [hl11_1]); (with_reducible repeat (first | apply Kd.R_alloc | apply Kd.R_drewN | apply Kd.R_drew)); exact HO_12.out⟩, ⟨by (try simp only [hl11_1]); exact bkA BK183⟩, ⟨by (try simp only [hl11_1]); exact bkA BK184⟩, ⟨by (try simp only [hl11_1]); exact bkA BK185⟩, ⟨by (try simp only [hl11_1]); exact bkA BK186⟩, ⟨by (try simp only [hl11_1]); exact bkA BK187⟩, ⟨blA⟩⟩
      ·
       replace c64 := Bool.eq_false_iff.mpr c64
       subst c64
       rw [if_neg (show ¬ (false = true) by decide)] at H
       try dsimp only at H
       have H' := Aside0.mk H
       clear H
       go_wp2_with (first | ((with_reducible refine gate_callee (f := 15) rfl ?_); refine goesL_ (some 76) rfl rfl Try.func15 (by kernel_rfl) rfl #[.int .i64 1000000, .slice Ao44 x11_1.length co44] rfl hA ?_; (with_reducible refine (impl_within.calls k1 1000000 _ _ x11_1 false _ ?side1 ?side2 A63.out).mono ?_); (case side1 => repeat (first | exact (Kd.R_reads' HO_11.out).2.2 | (with_reducible refine Kd.C_alloc ?_ _) | (with_reducible refine Kd.C_drewN ?_ _) | (with_reducible refine Kd.C_drew ?_))); (case side2 => exact (Kd.R_reads' HO_11.out).2.1); rintro e w' ⟨rfl, ⟨nd, rfl⟩⟩; refine ⟨_, rfl, ?_⟩))
       go_meet
       case rel => exact ⟨_, (true), hB, H', ⟨by have := HK1.out; first | omega | exact Nat.le_refl _⟩, ⟨by (try simp only [hl11_1]); (with_reducible repeat (first | apply Kd.R_alloc | apply Kd.R_drewN | apply Kd.R_drew)); exact HO_11.out⟩, ⟨by (try simp only [hl11_1]); (with_reducible repeat (first | apply Kd.R_alloc | apply Kd.R_drewN | apply Kd.R_drew)); exact HO_12.out⟩, ⟨by (try simp only [hl11_1]); exact bkA BK183⟩, ⟨by (try simp only [hl11_1]); exact bkA BK184⟩, ⟨by (try simp only [hl11_1]); exact bkA BK185⟩, ⟨by (try simp only [hl11_1]); exact bkA BK186⟩, ⟨by (try simp only [hl11_1]); exact bkA BK187⟩, ⟨blA⟩⟩
     case rest =>
      clear HC62
      try clear c2
      try clear c6
      try clear c6b0
      try clear c6b1
      try clear c45
      try clear c45b0
      try clear c47
      try clear c47b0
      try clear c48
      try clear c48b0
      try clear c49
      try clear c49b0
      try clear c50
      try clear c50b0
      try clear c51
      try clear c51b0
      try clear c53
      try clear c53b0
      try clear c53b1
      try clear p54
      try clear q54
      try clear p55
      try clear q55
      try clear c64
      try clear hcz20_0
      try clear hcz20_1
      try clear hcz24_0
      try clear hcz24_1
      try clear hcz27_0
      try clear hcz27_1
      try clear hcz29_0
      try clear hcz29_1
      try clear hfz20_0
      try clear hfz20_1
      try clear hfz24_0
      try clear hfz24_1
      try clear hfz27_0
      try clear hfz27_1
      try clear hfz29_0
      try clear hfz29_1
      try clear hx202_0
      try clear hx203_0
      try clear hx205_0
      try clear hx207_0
      try clear hx54_0
      try clear hx55_0
      try clear p202
      try clear p203
      try clear p205
      try clear p207
      try clear p54
      try clear p55
      try clear q202
      try clear q203
      try clear q205
      try clear q207
      try clear q54
      try clear q55
      obtain ⟨kq, x82_61, rfl, HA, HJ61, HO_11, HO_12, BK183, BK184, BK185, BK186, BK187, HB⟩ := hcut
      cases kq with
      | zero => exact absurd HA.out (by simp [impl_CrossRatio.j2])
      | succ kj61 =>
       have H := HA.out
       clear HA
       simp only [impl_CrossRatio.j2] at H
       by_cases c67 : x82_61 = true
       ·
        subst c67
        rw [if_pos rfl] at H
        try dsimp only at H
        simp only [Option.some.injEq, Prod.mk.injEq] at H
        obtain ⟨rfl, rfl, rfl⟩ := H
        have hnb68 := NB187_183.out
        have hnc68 := NB183_187.out
        have hnb69 := NB187_184.out
        have hnc69 := NB184_187.out
        have hnb70 := NB187_185.out
        have hnc70 := NB185_187.out
        have hnb71 := NB187_186.out
        have hnc71 := NB186_187.out
        obtain ⟨hcz72_0, hcz72_1, hfz72_0, hfz72_1⟩ := cz2 BK187
        go_wp2
        refine bodyPost_ret (results_ct rfl _ _ gb187 24 #[.int .i64 0, .int .i64 0] (0, 0) _ rfl (by refine dr ?_; refine blk_put (cs := #[.int .i64 0, .int .i64 0]) ?_ 1 _ rfl; refine dr ?_; refine blk_put (cs := #[.int .i64 0, .int .i64 0]) ?_ 0 _ rfl; exact bkA BK187) Try.underlying24 rfl (by kernel_rfl)) rfl ?_
        exact finA blA
       ·
        replace c67 := Bool.eq_false_iff.mpr c67
        subst c67
        rw [if_neg (show ¬ (false = true) by decide)] at H
        try dsimp only at H
        by_cases c73 : 0 < (x11_1.length : Int)
        ·
         rw [if_pos c73] at H
         have c73b0 := decide_eq_true c73
         try (have c73b9_0 := c73b0; simp only [hl11_1] at c73b9_0)
         have c73b1 : decide (0 < x11_1.length) = true := decide_eq_true (by omega)
         clear c73
         by_cases c74 : 1 < (x11_1.length : Int)
         ·
          rw [if_pos c74] at H
          have c74b0 := decide_eq_true c74
          try (have c74b9_0 := c74b0; simp only [hl11_1] at c74b9_0)
          have c74b1 : decide (1 < x11_1.length) = true := decide_eq_true (by omega)
          clear c74
          by_cases c75 : 0 < (x12_1.length : Int)
          ·
           rw [if_pos c75] at H
           have c75b0 := decide_eq_true c75
           try (have c75b9_0 := c75b0; simp only [hl11_1] at c75b9_0)
           have c75b1 : decide (0 < x12_1.length) = true := decide_eq_true (by omega)
           clear c75
           by_cases c76 : 1 < (x12_1.length : Int)
           ·
            rw [if_pos c76] at H
            have c76b0 := decide_eq_true c76
            try (have c76b9_0 := c76b0; simp only [hl11_1] at c76b9_0)
            have c76b1 : decide (1 < x12_1.length) = true := decide_eq_true (by omega)
            clear c76
            replace H := bS H
            obtain ⟨⟨t215, t216, t217⟩, A77, H⟩ := H
            try dsimp only at H
            replace H := bS H
            obtain ⟨⟨t218, t219, t220⟩, A78, H⟩ := H
            try dsimp only at H
            simp only [Option.some.injEq, Prod.mk.injEq] at H
            obtain ⟨rfl, rfl, rfl⟩ := H
            try go_wp2
            have n0_ := Aside0.mk (Kd.R_drew HO_11.out)
            have n1_ := Aside0.mk (Kd.R_drew HO_12.out)
            have n2_ := Aside0.mk (blk_drew BK183.out)
            have n3_ := Aside0.mk (blk_drew BK184.out)
            have n4_ := Aside0.mk (blk_drew BK185.out)
            have n5_ := Aside0.mk (blk_drew BK186.out)
            have n6_ := Aside0.mk (blk_drew BK187.out)
            have n7_ := Aside0.mk (below_drew1 HB.out)
            clear HO_11
            clear HO_12
            clear BK183
            clear BK184
            clear BK185
            clear BK186
            clear BK187
            clear HB
            have HO_11 := n0_
            have HO_12 := n1_
            have BK183 := n2_
            have BK184 := n3_
            have BK185 := n4_
            have BK186 := n5_
            have BK187 := n6_
            have HB := n7_
            clear n0_ n1_ n2_ n3_ n4_ n5_ n6_ n7_
            have p211 : 0 ≤ (0 : Int) := (by omega)
            have q211 : 0 < (x11_1.length : Int) := dA
            obtain ⟨ad211, e211, hx211_0⟩ := Kd.at_int (Kd.R_reads' HO_11.out).2.2 0 p211 q211
            cases e211
            have qi211 : (0 < x11_1.length) = True := eq_true (by omega)
            (try rw [show ((0 : Int)).toNat = 0 from rfl] at hx211_0)
            (try rw [Addr.add_zero'] at hx211_0)
            replace p211 := eq_true p211
            replace q211 := eq_true q211
            have p212 : 0 ≤ (1 : Int) := (by omega)
            have q212 : 1 < (x11_1.length : Int) := dA
            obtain ⟨ad212, e212, hx212_0⟩ := Kd.at_int (Kd.R_reads' HO_11.out).2.2 1 p212 q212
            obtain rfl : ad211 = ad212 := (by injection e212)
            (try simp only [show (1 : Int).toNat = 1 from rfl, Nat.reduceMul, Nat.reduceEqDiff, Go.Addr.add, ↓reduceIte] at hx212_0)
            have qi212 : (1 < x11_1.length) = True := eq_true (by omega)
            (try rw [show ((1 : Int)).toNat = 1 from rfl] at hx212_0)
            replace p212 := eq_true p212
            replace q212 := eq_true q212
            obtain ⟨Ao80, co80, eo80⟩ := Kd.R_slice HO_12.out
            (first | subst eo80 | (injection eo80 with f1_ f2_ f3_; have f4_ := f1_.symm; have f5_ := f3_.symm; clear f1_ f2_ f3_; subst f4_; subst f5_))
            have p213 : 0 ≤ (0 : Int) := (by omega)
            have q213 : 0 < (x12_1.length : Int) := dA
            obtain ⟨ad213, e213, hx213_0⟩ := Kd.at_int (Kd.R_reads' HO_12.out).2.2 0 p213 q213
            cases e213
            have qi213 : (0 < x12_1.length) = True := eq_true (by omega)
            (try rw [show ((0 : Int)).toNat = 0 from rfl] at hx213_0)
            (try rw [Addr.add_zero'] at hx213_0)
            replace p213 := eq_true p213
            replace q213 := eq_true q213
            have p214 : 0 ≤ (1 : Int) := (by omega)
            have q214 : 1 < (x12_1.length : Int) := dA
            obtain ⟨ad214, e214, hx214_0⟩ := Kd.at_int (Kd.R_reads' HO_12.out).2.2 1 p214 q214
            obtain rfl : ad213 = ad214 := (by injection e214)
            (try simp only [show (1 : Int).toNat = 1 from rfl, Nat.reduceMul, Nat.reduceEqDiff, Go.Addr.add, ↓reduceIte] at hx214_0)
            have qi214 : (1 < x12_1.length) = True := eq_true (by omega)
            (try rw [show ((1 : Int)).toNat = 1 from rfl] at hx214_0)
            replace p214 := eq_true p214
            replace q214 := eq_true q214
            refine start_ (n := 22) (S := fun w' => w'.cell? ad211 = some (.int .i64 (rd x11_1 0)) ∧ w'.cell? ⟨ad211.block, ad211.off + 1, none⟩ = some (.int .i64 (rd x11_1 1)) ∧ w'.cell? ad213 = some (.int .i64 (rd x12_1 0)) ∧ w'.cell? ⟨ad213.block, ad213.off + 1, none⟩ = some (.int .i64 (rd x12_1 1))) (ds := []) #[Z, Z, Z, Z, Z, Z, Z, Z, Z, Z, Z, Z, Z, Z, Z, Z, Z, Z, Z, Z, Z, Z] (by kernel_rfl) rfl rfl ⟨hx211_0, hx212_0, hx213_0, hx214_0⟩ (fun hHeld => ?_); refine with_tabW impl_CrossRatio.tab19 impl_CrossRatio.bits19 (fun HT_ HW_ => ?_)
            generalize wc.drew = w79 at HO_11 HO_12 BK183 BK184 BK185 BK186 BK187 HB hx211_0 hx212_0 hx213_0 hx214_0 hHeld ⊢
            refine puA (i := 0) (N := some 84) #[Y, Z, Z, Z, Z, Z, Z, Z, Z, Z, Z, Z, Z, Z, Z, Z, Z, Z, Z, Z, Z, Z] rfl rfl HT_ ?_
            refine puA (i := 1) (N := some 85) #[Y, Y, Z, Z, Z, Z, Z, Z, Z, Z, Z, Z, Z, Z, Z, Z, Z, Z, Z, Z, Z, Z] rfl rfl HT_ ?_
            refine puA (i := 3) (N := some 87) #[Y, Y, Z, Y, Z, Z, Z, Z, Z, Z, Z, Z, Z, Z, Z, Z, Z, Z, Z, Z, Z, Z] rfl rfl HT_ ?_
            refine puA (i := 4) (N := some 88) #[Y, Y, Z, Y, Y, Z, Z, Z, Z, Z, Z, Z, Z, Z, Z, Z, Z, Z, Z, Z, Z, Z] rfl rfl HT_ ?_
            refine puA (i := 7) (N := some 91) #[Y, Y, Z, Y, Y, Z, Z, Y, Z, Z, Z, Z, Z, Z, Z, Z, Z, Z, Z, Z, Z, Z] rfl rfl HT_ ?_
            refine puA (i := 8) (N := some 92) #[Y, Y, Z, Y, Y, Z, Z, Y, Y, Z, Z, Z, Z, Z, Z, Z, Z, Z, Z, Z, Z, Z] rfl rfl HT_ ?_
            refine puA (i := 10) (N := some 94) #[Y, Y, Z, Y, Y, Z, Z, Y, Y, Z, Y, Z, Z, Z, Z, Z, Z, Z, Z, Z, Z, Z] rfl rfl HT_ ?_
            refine puA (i := 11) (N := some 95) #[Y, Y, Z, Y, Y, Z, Z, Y, Y, Z, Y, Y, Z, Z, Z, Z, Z, Z, Z, Z, Z, Z] rfl rfl HT_ ?_
            refine take_ (i := 2) (N := some 86) (v := ?_) (a' := ?_) #[Y, Y, Y, Y, Y, Z, Z, Y, Y, Z, Y, Y, Z, Z, Z, Z, Z, Z, Z, Z, Z, Z] rfl rfl (take_ofW HT_.out HW_.out (by kernel_rfl)) (fun _ _ _ h => h) (Or.inl ⟨by rfl, ?_⟩) hHeld ?_ ?_
            rotate_left
            ·
             rintro w' ⟨s0, s1, s2, s3⟩
             go_simp
             with_reducible rfl
            rotate_left
            ·
             simp only [pA]
             rfl
            refine take_ (i := 5) (N := some 89) (v := ?_) (a' := ?_) #[Y, Y, Y, Y, Y, Y, Z, Y, Y, Z, Y, Y, Z, Z, Z, Z, Z, Z, Z, Z, Z, Z] rfl rfl (take_ofW HT_.out HW_.out (by kernel_rfl)) (fun _ _ _ h => h) (Or.inl ⟨by rfl, ?_⟩) hHeld ?_ ?_
            rotate_left
            ·
             rintro w' ⟨s0, s1, s2, s3⟩
             go_simp
             with_reducible rfl
            rotate_left
            ·
             simp only [pA]
             rfl
            refine puA (i := 6) (N := some 90) #[Y, Y, Y, Y, Y, Y, Y, Y, Y, Z, Y, Y, Z, Z, Z, Z, Z, Z, Z, Z, Z, Z] rfl rfl HT_ ?_
            refine take_ (i := 9) (N := some 93) (v := ?_) (a' := ?_) #[Y, Y, Y, Y, Y, Y, Y, Y, Y, Y, Y, Y, Z, Z, Z, Z, Z, Z, Z, Z, Z, Z] rfl rfl (take_ofW HT_.out HW_.out (by kernel_rfl)) (fun _ _ _ h => h) (Or.inl ⟨by rfl, ?_⟩) hHeld ?_ ?_
            rotate_left
            ·
             rintro w' ⟨s0, s1, s2, s3⟩
             go_simp
             with_reducible rfl
            rotate_left
            ·
             simp only [pA]
             rfl
            refine take_ (i := 12) (N := some 96) (v := ?_) (a' := ?_) #[Y, Y, Y, Y, Y, Y, Y, Y, Y, Y, Y, Y, Y, Z, Z, Z, Z, Z, Z, Z, Z, Z] rfl rfl (take_ofW HT_.out HW_.out (by kernel_rfl)) (fun _ _ _ h => h) (Or.inl ⟨by rfl, ?_⟩) hHeld ?_ ?_
            rotate_left
            ·
             rintro w' ⟨s0, s1, s2, s3⟩
             go_simp
             with_reducible rfl
            rotate_left
            ·
             simp only [pA]
             rfl
            refine puA (i := 13) (N := some 97) #[Y, Y, Y, Y, Y, Y, Y, Y, Y, Y, Y, Y, Y, Y, Z, Z, Z, Z, Z, Z, Z, Z] rfl rfl HT_ ?_
            refine one_ (i := 14) (N := some 98) #[Y, Y, Y, Y, Y, Y, Y, Y, Y, Y, Y, Y, Y, Y, Y, Z, Z, Z, Z, Z, Z, Z] rfl rfl (one_of HT_.out (by kernel_rfl)) (by decide) (fun K hK => ?_)
            refine goes_ Try.func17 (by kernel_rfl) rfl #[.int .i64 (wrap64 ((rd x11_1 0) * (rd x11_1 1))), .int .i64 (wrap64 ((rd x12_1 0) * (rd x12_1 1)))] (by rfl) rfl rfl hA ?_
            with_reducible refine (impl_endAt.calls kj61 (wrap64 ((rd x11_1 0) * (rd x11_1 1))) (wrap64 ((rd x12_1 0) * (rd x12_1 1))) t215 t216 t217 _ A77.out).mono ?_
            rintro e w81 ⟨rfl, hb⟩
            have HS0_ := (hb.cell (World.block_lt_of_cell? _ _ (hHeld.1))).trans (hHeld.1)
            have HS1_ := (hb.cell (World.block_lt_of_cell? _ _ (hHeld.2.1))).trans (hHeld.2.1)
            have HS2_ := (hb.cell (World.block_lt_of_cell? _ _ (hHeld.2.2.1))).trans (hHeld.2.2.1)
            have HS3_ := (hb.cell (World.block_lt_of_cell? _ _ (hHeld.2.2.2))).trans (hHeld.2.2.2)
            refine ⟨_, rfl, ?_⟩
            replace HO_11 := Aside0.mk (Kd.R_below (rA HO_11) hb)
            replace HO_12 := Aside0.mk (Kd.R_below (rA HO_12) hb)
            replace BK183 := kB BK183 hb
            replace BK184 := kB BK184 hb
            replace BK185 := kB BK185 hb
            replace BK186 := kB BK186 hb
            replace BK187 := kB BK187 hb
            replace HB := lB hb
            (try clear hb)
            (try clear hb2)
            (try clear hk)
            (try clear hi)
            refine hK.out _ _ ⟨HS0_, HS1_, HS2_, HS3_⟩ (fun hHeld => ?_)
            clear hK K
            refine norm_ (a' := ?_) ?_ ?_
            rotate_left
            ·
             show Act.put _ (some 98) _ = _
             simp only [pA]
             rfl
            refine puA (i := 15) (N := some 99) #[Y, Y, Y, Y, Y, Y, Y, Y, Y, Y, Y, Y, Y, Y, Y, Y, Z, Z, Z, Z, Z, Z] rfl rfl HT_ ?_
            refine puA (i := 16) (N := some 100) #[Y, Y, Y, Y, Y, Y, Y, Y, Y, Y, Y, Y, Y, Y, Y, Y, Y, Z, Z, Z, Z, Z] rfl rfl HT_ ?_
            refine one_ (i := 17) (N := some 101) #[Y, Y, Y, Y, Y, Y, Y, Y, Y, Y, Y, Y, Y, Y, Y, Y, Y, Y, Z, Z, Z, Z] rfl rfl (one_of HT_.out (by kernel_rfl)) (by decide) (fun K hK => ?_)
            refine goes_ Try.func16 (by kernel_rfl) rfl #[.agg #[.int .i64 t215, .int .i64 t216], .bool t217] (by rfl) rfl rfl hA ?_
            with_reducible refine (impl_fittedEnd.calls t215 t216 t217 t218 t219 t220 _ A78.out).mono ?_
            rintro e w82 ⟨rfl, hb⟩
            have HS0_ := (hb.cell (World.block_lt_of_cell? _ _ (hHeld.1))).trans (hHeld.1)
            have HS1_ := (hb.cell (World.block_lt_of_cell? _ _ (hHeld.2.1))).trans (hHeld.2.1)
            have HS2_ := (hb.cell (World.block_lt_of_cell? _ _ (hHeld.2.2.1))).trans (hHeld.2.2.1)
            have HS3_ := (hb.cell (World.block_lt_of_cell? _ _ (hHeld.2.2.2))).trans (hHeld.2.2.2)
            refine ⟨_, rfl, ?_⟩
            replace HO_11 := Aside0.mk (Kd.R_below (rA HO_11) hb)
            replace HO_12 := Aside0.mk (Kd.R_below (rA HO_12) hb)
            replace BK183 := kB BK183 hb
            replace BK184 := kB BK184 hb
            replace BK185 := kB BK185 hb
            replace BK186 := kB BK186 hb
            replace BK187 := kB BK187 hb
            replace HB := lB hb
            (try clear hb)
            (try clear hb2)
            (try clear hk)
            (try clear hi)
            refine hK.out _ _ ⟨HS0_, HS1_, HS2_, HS3_⟩ (fun hHeld => ?_)
            clear hK K
            refine norm_ (a' := ?_) ?_ ?_
            rotate_left
            ·
             show Act.put _ (some 101) _ = _
             simp only [pA]
             rfl
            refine puA (i := 18) (N := some 102) #[Y, Y, Y, Y, Y, Y, Y, Y, Y, Y, Y, Y, Y, Y, Y, Y, Y, Y, Y, Z, Z, Z] rfl rfl HT_ ?_
            refine puA (i := 19) (N := some 103) #[Y, Y, Y, Y, Y, Y, Y, Y, Y, Y, Y, Y, Y, Y, Y, Y, Y, Y, Y, Y, Z, Z] rfl rfl HT_ ?_
            refine one_ (i := 20) (N := none) #[Y, Y, Y, Y, Y, Y, Y, Y, Y, Y, Y, Y, Y, Y, Y, Y, Y, Y, Y, Y, Y, Z] rfl rfl (one_of HT_.out (by kernel_rfl)) (by decide) (fun K hK => ?_)
            have hs83 : w82.cell? ⟨gb187, 0, none⟩ = some (.int .i64 0) := cA BK187 0
            have hfs83 := blk_frozen BK187.out 0
            have hns83_0 := NB183_187.out
            have hns83_1 := NB184_187.out
            have hns83_2 := NB185_187.out
            have hns83_3 := NB186_187.out
            have hms83_0 := NB187_183.out
            have hms83_1 := NB187_184.out
            have hms83_2 := NB187_185.out
            have hms83_3 := NB187_186.out
            have hs84 : w82.cell? ⟨gb187, 1, none⟩ = some (.int .i64 0) := cA BK187 1
            have hfs84 := blk_frozen BK187.out 1
            have hns84_0 := NB183_187.out
            have hns84_1 := NB184_187.out
            have hns84_2 := NB185_187.out
            have hns84_3 := NB186_187.out
            have hms84_0 := NB187_183.out
            have hms84_1 := NB187_184.out
            have hms84_2 := NB187_185.out
            have hms84_3 := NB187_186.out
            refine skip_ (w1 := ?_) (by rfl) rfl ?_ ?_
            rotate_left
            ·
             go_simp
             rfl
            refine hK.out _ _ ⟨((cell_far (p := ⟨gb187, _, none⟩) (fB (Kd.own_blk (Kd.R_ne HO_11.out BK187.out (by decide)))) _).trans (((cell_far (p := ⟨gb187, _, none⟩) (fB (Kd.own_blk (Kd.R_ne HO_11.out BK187.out (by decide)))) _).trans (hHeld.1)))), ((cell_far (p := ⟨gb187, _, none⟩) (fB (Kd.own_blk (Kd.R_ne HO_11.out BK187.out (by decide)))) _).trans (((cell_far (p := ⟨gb187, _, none⟩) (fB (Kd.own_blk (Kd.R_ne HO_11.out BK187.out (by decide)))) _).trans (hHeld.2.1)))), ((cell_far (p := ⟨gb187, _, none⟩) (fB (Kd.own_blk (Kd.R_ne HO_12.out BK187.out (by decide)))) _).trans (((cell_far (p := ⟨gb187, _, none⟩) (fB (Kd.own_blk (Kd.R_ne HO_12.out BK187.out (by decide)))) _).trans (hHeld.2.2.1)))), ((cell_far (p := ⟨gb187, _, none⟩) (fB (Kd.own_blk (Kd.R_ne HO_12.out BK187.out (by decide)))) _).trans (((cell_far (p := ⟨gb187, _, none⟩) (fB (Kd.own_blk (Kd.R_ne HO_12.out BK187.out (by decide)))) _).trans (hHeld.2.2.2))))⟩ (fun hHeld => ?_)
            clear hK K
            refine puA (i := 21) (N := some 9) #[Y, Y, Y, Y, Y, Y, Y, Y, Y, Y, Y, Y, Y, Y, Y, Y, Y, Y, Y, Y, Y, Y] rfl rfl HT_ ?_
            refine done_ (done_of HT_.out (by kernel_rfl)) ?_
            try go_wp2
            refine bodyPost_ret (results_ct rfl _ _ gb187 24 #[.int .i64 t218, .int .i64 t219] (0, 0) _ rfl (by refine dr ?_; refine blk_put (cs := #[.int .i64 t218, .int .i64 0]) ?_ 1 _ rfl; refine dr ?_; refine blk_put (cs := #[.int .i64 0, .int .i64 0]) ?_ 0 _ rfl; exact bkA BK187) Try.underlying24 rfl (by kernel_rfl)) rfl ?_
            exact finA blA
           ·
            rw [if_neg c76] at H
            exact absurd H (by simp)
          ·
           rw [if_neg c75] at H
           exact absurd H (by simp)
         ·
          rw [if_neg c74] at H
          exact absurd H (by simp)
        ·
         rw [if_neg c73] at H
         exact absurd H (by simp)
 ·
  rw [if_neg c6] at H
  have c6b0 : (t191 == 0) = false := beq_eq_false_iff_ne.mpr c6
  have c6b1 : (t191 != 0) = true := bne_iff_ne.mpr c6
  simp only [Option.some.injEq, Prod.mk.injEq] at H
  obtain ⟨rfl, rfl, rfl⟩ := H
  go_enter Try.func6, Try.ntmps6
  go_wp2_with (first | ((with_reducible refine gate_dst (N := 4) rfl ?_); refine box_event ?hg (N := 4) ?hd (cs := #[.int .i64 a0_0, .int .i64 a0_1]) (t := 24) ?hr ?_; (case hd => rfl); (case hg => rfl); (case hr => first | (go_simp; done) | (go_simp; rfl)); intro gb183 hg w85 hbox hb; have n0_ := lB hb; have n1_ := Aside0.mk (hbox); have n2_ := sA hg; have n3_ := sA hg; clear HB; have HB := n0_; have BK183 := n1_; have GW183 := n2_; have GE183 := n3_; clear n0_ n1_ n2_ n3_; clear hb hbox hg) | ((with_reducible refine gate_dst (N := 5) rfl ?_); refine box_event ?hg (N := 5) ?hd (cs := #[.int .i64 a1_0, .int .i64 a1_1]) (t := 24) ?hr ?_; (case hd => rfl); (case hg => rfl); (case hr => first | (go_simp; done) | (go_simp; rfl)); intro gb184 hg w86 hbox hb; have n0_ := kB BK183 hb; have n1_ := lB hb; have n2_ := Aside0.mk (hbox); have n3_ := sA hg; have n4_ := sA hg; have n5_ := nA hg BK183; have n6_ := nB hg BK183; clear BK183; clear HB; have BK183 := n0_; have HB := n1_; have BK184 := n2_; have GW184 := n3_; have GE184 := n4_; have NB183_184 := n5_; have NB184_183 := n6_; clear n0_ n1_ n2_ n3_ n4_ n5_ n6_; clear hb hbox hg) | ((with_reducible refine gate_dst (N := 6) rfl ?_); refine box_event ?hg (N := 6) ?hd (cs := #[.int .i64 a2_0, .int .i64 a2_1]) (t := 24) ?hr ?_; (case hd => rfl); (case hg => rfl); (case hr => first | (go_simp; done) | (go_simp; rfl)); intro gb185 hg w87 hbox hb; have n0_ := kB BK183 hb; have n1_ := kB BK184 hb; have n2_ := lB hb; have n3_ := Aside0.mk (hbox); have n4_ := sA hg; have n5_ := sA hg; have n6_ := nA hg BK183; have n7_ := nB hg BK183; have n8_ := nA hg BK184; have n9_ := nB hg BK184; clear BK183; clear BK184; clear HB; have BK183 := n0_; have BK184 := n1_; have HB := n2_; have BK185 := n3_; have GW185 := n4_; have GE185 := n5_; have NB183_185 := n6_; have NB185_183 := n7_; have NB184_185 := n8_; have NB185_184 := n9_; clear n0_ n1_ n2_ n3_ n4_ n5_ n6_ n7_ n8_ n9_; clear hb hbox hg) | ((with_reducible refine gate_dst (N := 7) rfl ?_); refine box_event ?hg (N := 7) ?hd (cs := #[.int .i64 a3_0, .int .i64 a3_1]) (t := 24) ?hr ?_; (case hd => rfl); (case hg => rfl); (case hr => first | (go_simp; done) | (go_simp; rfl)); intro gb186 hg w88 hbox hb; have n0_ := kB BK183 hb; have n1_ := kB BK184 hb; have n2_ := kB BK185 hb; have n3_ := lB hb; have n4_ := Aside0.mk (hbox); have n5_ := sA hg; have n6_ := sA hg; have n7_ := nA hg BK183; have n8_ := nB hg BK183; have n9_ := nA hg BK184; have n10_ := nB hg BK184; have n11_ := nA hg BK185; have n12_ := nB hg BK185; clear BK183; clear BK184; clear BK185; clear HB; have BK183 := n0_; have BK184 := n1_; have BK185 := n2_; have HB := n3_; have BK186 := n4_; have GW186 := n5_; have GE186 := n6_; have NB183_186 := n7_; have NB186_183 := n8_; have NB184_186 := n9_; have NB186_184 := n10_; have NB185_186 := n11_; have NB186_185 := n12_; clear n0_ n1_ n2_ n3_ n4_ n5_ n6_ n7_ n8_ n9_ n10_ n11_ n12_; clear hb hbox hg) | ((with_reducible refine gate_dst (N := 8) rfl ?_); refine box_event ?hg (N := 8) ?hd (cs := #[.int .i64 0, .int .i64 0]) (t := 24) ?hr ?_; (case hd => rfl); (case hg => rfl); (case hr => first | (go_simp; done) | (go_simp; rfl)); intro gb187 hg w89 hbox hb; have n0_ := kB BK183 hb; have n1_ := kB BK184 hb; have n2_ := kB BK185 hb; have n3_ := kB BK186 hb; have n4_ := lB hb; have n5_ := Aside0.mk (hbox); have n6_ := sA hg; have n7_ := sA hg; have n8_ := nA hg BK183; have n9_ := nB hg BK183; have n10_ := nA hg BK184; have n11_ := nB hg BK184; have n12_ := nA hg BK185; have n13_ := nB hg BK185; have n14_ := nA hg BK186; have n15_ := nB hg BK186; clear BK183; clear BK184; clear BK185; clear BK186; clear HB; have BK183 := n0_; have BK184 := n1_; have BK185 := n2_; have BK186 := n3_; have HB := n4_; have BK187 := n5_; have GW187 := n6_; have GE187 := n7_; have NB183_187 := n8_; have NB187_183 := n9_; have NB184_187 := n10_; have NB187_184 := n11_; have NB185_187 := n12_; have NB187_185 := n13_; have NB186_187 := n14_; have NB187_186 := n15_; clear n0_ n1_ n2_ n3_ n4_ n5_ n6_ n7_ n8_ n9_ n10_ n11_ n12_ n13_ n14_ n15_; clear hb hbox hg; have hnb90 := NB183_184.out; have hnc90 := NB184_183.out; have hnb91 := NB183_185.out; have hnc91 := NB185_183.out; have hnb92 := NB183_186.out; have hnc92 := NB186_183.out; have hnb93 := NB183_187.out; have hnc93 := NB187_183.out; obtain ⟨hcz94_0, hcz94_1, hfz94_0, hfz94_1⟩ := cz2 BK183; have hnb95 := NB184_185.out; have hnc95 := NB185_184.out; have hnb96 := NB184_186.out; have hnc96 := NB186_184.out; have hnb97 := NB184_187.out; have hnc97 := NB187_184.out; obtain ⟨hcz98_0, hcz98_1, hfz98_0, hfz98_1⟩ := cz2 BK184; have hnb99 := NB185_186.out; have hnc99 := NB186_185.out; have hnb100 := NB185_187.out; have hnc100 := NB187_185.out; obtain ⟨hcz101_0, hcz101_1, hfz101_0, hfz101_1⟩ := cz2 BK185; have hnb102 := NB186_187.out; have hnc102 := NB187_186.out; obtain ⟨hcz103_0, hcz103_1, hfz103_0, hfz103_1⟩ := cz2 BK186) | ((with_reducible refine gate_dst (N := 20) rfl ?_); refine Kd.R_lit k24 _ 24 ?hg (N := 20) ?hd (xs := ([(⟨a0_0, a0_1⟩ : S24), (⟨a1_0, a1_1⟩ : S24), (⟨a2_0, a2_1⟩ : S24), (⟨a3_0, a3_1⟩ : S24)] : List (S24))) (inner := [.int .i64 a0_0, .int .i64 a0_1, .int .i64 a1_0, .int .i64 a1_1, .int .i64 a2_0, .int .i64 a2_1, .int .i64 a3_0, .int .i64 a3_1]) (ok := fun _ => True) (okp := fun _ => True) ?hr ?hp (fun _ hk => hk) trivial (Below.refl _ _) (Nat.le_refl _) (by simp) ?_; (case hd => rfl); (case hg => rfl); (case hr => first | (go_simp; done) | (go_simp; rfl)); (case hp => exact (Reps.c2 (show Kd.M k24 _ _ _ (⟨a0_0, a0_1⟩ : S24) [.int .i64 a0_0, .int .i64 a0_1] from (k24_mkM _ _ _ (⟨a0_0, a0_1⟩ : S24) )) (Reps.c2 (show Kd.M k24 _ _ _ (⟨a1_0, a1_1⟩ : S24) [.int .i64 a1_0, .int .i64 a1_1] from (k24_mkM _ _ _ (⟨a1_0, a1_1⟩ : S24) )) (Reps.c2 (show Kd.M k24 _ _ _ (⟨a2_0, a2_1⟩ : S24) [.int .i64 a2_0, .int .i64 a2_1] from (k24_mkM _ _ _ (⟨a2_0, a2_1⟩ : S24) )) (Reps.c2 (show Kd.M k24 _ _ _ (⟨a3_0, a3_1⟩ : S24) [.int .i64 a3_0, .int .i64 a3_1] from (k24_mkM _ _ _ (⟨a3_0, a3_1⟩ : S24) )) (Reps.none _ _)))))); intro v189 w104 ho105 hb hg_ hnew_; clear hg_ hnew_; (first | rw [← Ny188.out] at ho105 | (simp only [Int.reduceToNat] at ho105; rw [← Ny188.out] at ho105)); have n0_ := Aside0.mk (Kd.R_lower (Kd.R_newB (Kd.R_newB (Kd.R_newB (Kd.R_newB (Kd.R_newB ho105 (bkA BK183)) (bkA BK184)) (bkA BK185)) (bkA BK186)) (bkA BK187)) (below_size blA)); have n1_ := kB BK183 hb; have n2_ := kB BK184 hb; have n3_ := kB BK185 hb; have n4_ := kB BK186 hb; have n5_ := kB BK187 hb; have n6_ := lB hb; clear BK183; clear BK184; clear BK185; clear BK186; clear BK187; clear HB; have HO190 := n0_; have BK183 := n1_; have BK184 := n2_; have BK185 := n3_; have BK186 := n4_; have BK187 := n5_; have HB := n6_; clear n0_ n1_ n2_ n3_ n4_ n5_ n6_; clear hb ho105; obtain ⟨Ao106, co106, eo106⟩ := Kd.R_slice HO190.out; subst eo106) | ((with_reducible refine gate_callee (f := 12) rfl ?_); refine goesL_ (some 21) rfl rfl Try.func12 (by kernel_rfl) rfl #[.slice Ao106 y188.length co106] rfl hA ?_; (with_reducible refine (impl_fourCode.calls k _ _ y188 t191 _ ?side1 ?side2 A5.out).mono ?_); (case side1 => repeat (first | exact (Kd.R_reads' HO190.out).2.2 | (with_reducible refine Kd.C_alloc ?_ _) | (with_reducible refine Kd.C_drewN ?_ _) | (with_reducible refine Kd.C_drew ?_))); (case side2 => exact (Kd.R_reads' HO190.out).2.1); rintro e w107 ⟨rfl, hb⟩; refine ⟨_, rfl, ?_⟩; have n0_ := Aside0.mk (Kd.R_below (rA HO190) hb); have n1_ := kB BK183 hb; have n2_ := kB BK184 hb; have n3_ := kB BK185 hb; have n4_ := kB BK186 hb; have n5_ := kB BK187 hb; have n6_ := lB hb; clear HO190; clear BK183; clear BK184; clear BK185; clear BK186; clear BK187; clear HB; have HO190 := n0_; have BK183 := n1_; have BK184 := n2_; have BK185 := n3_; have BK186 := n4_; have BK187 := n5_; have HB := n6_; clear n0_ n1_ n2_ n3_ n4_ n5_ n6_; (try clear hb); (try clear hb2); (try clear hk); (try clear hi); obtain ⟨hcz108_0, hcz108_1, hfz108_0, hfz108_1⟩ := cz2 BK187))
  refine bodyPost_ret (results_ct rfl _ _ gb187 24 #[.int .i64 0, .int .i64 0] (0, 0) _ rfl (by refine dr ?_; refine blk_put (cs := #[.int .i64 0, .int .i64 0]) ?_ 1 _ rfl; refine dr ?_; refine blk_put (cs := #[.int .i64 0, .int .i64 0]) ?_ 0 _ rfl; exact bkA BK187) Try.underlying24 rfl (by kernel_rfl)) rfl ?_
  exact finA blA
end Go.Proofs.Ytnejmbhpngdiiaa.PAll
