-- turned for this claim out of the kit's print: the same functions, packed anew
import Derived.Test.YtfkglijnbgijbaaQx
import Derived.Test.YtfkglijnbgijbaaQspecl01Child
import Derived.Test.YtfkglijnbgijbaaQspecl01Parent
namespace Go.Proofs.Ytfkglijnbgijbaa.PAll
open Go.RowKit Go.Proofs.YtfkglijnbgijbaaW.PrintWords Go.Proofs.YtfkglijnbgijbaaW.PrintLast Go.Proofs.YtfkglijnbgijbaaW.PrintMore
attribute [local go_sem] Go.Proofs.Ytfkglijnbgijbaa.Aux.setCell_drewN Go.Proofs.Ytfkglijnbgijbaa.Aux.isSome_setCell Go.Proofs.Ytfkglijnbgijbaa.Aux.max_eight max2_int min2_int max_two min_two max_three min_three max_four min_four   -- for this text's walks alone
set_option linter.unusedVariables false
set_option linter.unusedSimpArgs false
attribute [local go_sem high] eqA34
/-! ### spec_l07Next: function 68 -/
mutual
def spec_l07Next.j0 : Nat → Int → Bool → Int → Bool → Bool → Int → Int → Int → Int → Int → Int → Int → Int → Int → Option (Int × Int × Int × Bool)
  | 0, _, _, _, _, _, _, _, _, _, _, _, _, _, _ => none
  | k + 1, x0, x3, x4, x13, x33, x443000, x443001, x443002, x444000, x444001, x444002, x450000, x450001, x450002 => if x33 = true then (if x4 = 0 then (some (x450000, x450001, x450002, x13)) else (spec_l07Next.j1 k x0 x3 (wrap64 (x4 - 1)) x443000 x443001 x443002 x444000 x444001 x444002)) else (spec_l07Next.j1 k x0 x3 x4 x443000 x443001 x443002 x444000 x444001 x444002)
def spec_l07Next.j1 : Nat → Int → Bool → Int → Int → Int → Int → Int → Int → Int → Option (Int × Int × Int × Bool)
  | 0, _, _, _, _, _, _, _, _, _ => none
  | k + 1, x0, x3, x4, x443000, x443001, x443002, x444000, x444001, x444002 => spec_l07Next.l0 k x0 x3 x4 0 x443000 x443001 x443002 x444000 x444001 x444002
def spec_l07Next.l0 : Nat → Int → Bool → Int → Int → Int → Int → Int → Int → Int → Int → Option (Int × Int × Int × Bool)
  | 0, _, _, _, _, _, _, _, _, _, _ => none
  | k + 1, x0, x3, x4, x14, x443000, x443001, x443002, x444000, x444001, x444002 => if x14 < x0 then ((spec_l01Child.f k x0 x443000 x443001 x443002 x14).bind fun bt450 => (if x3 = true then (if bt450.2.2.2 = true then (spec_l07Next.j3 k x0 x3 x4 x14 bt450.2.2.2 (bt450.1 == x444000 && (bt450.2.1 == x444001 && (bt450.2.2.1 == x444002))) x443000 x443001 x443002 x444000 x444001 x444002 bt450.1 bt450.2.1 bt450.2.2.1) else (spec_l07Next.j3 k x0 x3 x4 x14 bt450.2.2.2 false x443000 x443001 x443002 x444000 x444001 x444002 bt450.1 bt450.2.1 bt450.2.2.1)) else (spec_l07Next.j3 k x0 x3 x4 x14 bt450.2.2.2 false x443000 x443001 x443002 x444000 x444001 x444002 bt450.1 bt450.2.1 bt450.2.2.1))) else (some (0, 0, 0, false))
def spec_l07Next.j3 : Nat → Int → Bool → Int → Int → Bool → Bool → Int → Int → Int → Int → Int → Int → Int → Int → Int → Option (Int × Int × Int × Bool)
  | 0, _, _, _, _, _, _, _, _, _, _, _, _, _, _, _ => none
  | k + 1, x0, x3, x4, x14, x16, x60, x443000, x443001, x443002, x444000, x444001, x444002, x455000, x455001, x455002 => if x60 = true then (spec_l07Next.l0 k x0 x3 x4 (wrap64 (x14 + 1)) x443000 x443001 x443002 x444000 x444001 x444002) else (if x4 = 0 then (some (x455000, x455001, x455002, x16)) else (spec_l07Next.l0 k x0 x3 (wrap64 (x4 - 1)) (wrap64 (x14 + 1)) x443000 x443001 x443002 x444000 x444001 x444002))
end
def spec_l07Next.f (k : Nat) (a0 : Int) (a1_0 : Int) (a1_1 : Int) (a1_2 : Int) (a2_0 : Int) (a2_1 : Int) (a2_2 : Int) (a3 : Bool) (a4 : Int) : Option (Int × Int × Int × Bool) := (spec_l01Parent.f k a0 a1_0 a1_1 a1_2).bind fun bt445 => (if a3 = true then (if bt445.2.2.2 = true then (spec_l07Next.j0 k a0 a3 a4 bt445.2.2.2 (!(bt445.1 == a2_0) || (!(bt445.2.1 == a2_1) || (!(bt445.2.2.1 == a2_2)))) a1_0 a1_1 a1_2 a2_0 a2_1 a2_2 bt445.1 bt445.2.1 bt445.2.2.1) else (spec_l07Next.j0 k a0 a3 a4 bt445.2.2.2 true a1_0 a1_1 a1_2 a2_0 a2_1 a2_2 bt445.1 bt445.2.1 bt445.2.2.1)) else (spec_l07Next.j0 k a0 a3 a4 bt445.2.2.2 true a1_0 a1_1 a1_2 a2_0 a2_1 a2_2 bt445.1 bt445.2.1 bt445.2.2.1))
theorem spec_l07Next.mono_l : ∀ k, (∀ y0 y1 y2 y3 y4 y5 y6 y7 y8 y9 y10 y11 y12 y13, LeO (spec_l07Next.j0 k y0 y1 y2 y3 y4 y5 y6 y7 y8 y9 y10 y11 y12 y13) (spec_l07Next.j0 (k + 1) y0 y1 y2 y3 y4 y5 y6 y7 y8 y9 y10 y11 y12 y13)) ∧ (∀ y0 y1 y2 y3 y4 y5 y6 y7 y8, LeO (spec_l07Next.j1 k y0 y1 y2 y3 y4 y5 y6 y7 y8) (spec_l07Next.j1 (k + 1) y0 y1 y2 y3 y4 y5 y6 y7 y8)) ∧ (∀ y0 y1 y2 y3 y4 y5 y6 y7 y8 y9, LeO (spec_l07Next.l0 k y0 y1 y2 y3 y4 y5 y6 y7 y8 y9) (spec_l07Next.l0 (k + 1) y0 y1 y2 y3 y4 y5 y6 y7 y8 y9)) ∧ (∀ y0 y1 y2 y3 y4 y5 y6 y7 y8 y9 y10 y11 y12 y13 y14, LeO (spec_l07Next.j3 k y0 y1 y2 y3 y4 y5 y6 y7 y8 y9 y10 y11 y12 y13 y14) (spec_l07Next.j3 (k + 1) y0 y1 y2 y3 y4 y5 y6 y7 y8 y9 y10 y11 y12 y13 y14))
  | 0 => ⟨fun _ _ _ _ _ _ _ _ _ _ _ _ _ _ r h => by simp [spec_l07Next.j0] at h, fun _ _ _ _ _ _ _ _ _ r h => by simp [spec_l07Next.j1] at h, fun _ _ _ _ _ _ _ _ _ _ r h => by simp [spec_l07Next.l0] at h, fun _ _ _ _ _ _ _ _ _ _ _ _ _ _ _ r h => by simp [spec_l07Next.j3] at h⟩
  | k + 1 => by
    obtain ⟨ih0, ih1, ih2, ih3⟩ := spec_l07Next.mono_l k
    refine ⟨?_, ?_, ?_, ?_⟩
    · intro y0 y1 y2 y3 y4 y5 y6 y7 y8 y9 y10 y11 y12 y13
      unfold spec_l07Next.j0
      repeat' first
      | (with_reducible exact ih0 _ _ _ _ _ _ _ _ _ _ _ _ _ _)
      | (with_reducible exact ih1 _ _ _ _ _ _ _ _ _)
      | (with_reducible exact ih2 _ _ _ _ _ _ _ _ _ _)
      | (with_reducible exact ih3 _ _ _ _ _ _ _ _ _ _ _ _ _ _ _)
      | (with_reducible exact spec_l01Child.mono _ _ _ _ _ _)
      | (with_reducible exact spec_l01Parent.mono _ _ _ _ _)
      | (with_reducible exact LeO.refl _)
      | (with_reducible exact LeO.none _)
      | (with_reducible refine LeO.ite ?_ ?_)
      | (with_reducible refine LeO.bind ?_ (fun _ => ?_))
      | exact ih0 _ _ _ _ _ _ _ _ _ _ _ _ _ _
      | exact ih1 _ _ _ _ _ _ _ _ _
      | exact ih2 _ _ _ _ _ _ _ _ _ _
      | exact ih3 _ _ _ _ _ _ _ _ _ _ _ _ _ _ _
      | exact spec_l01Child.mono _ _ _ _ _ _
      | exact spec_l01Parent.mono _ _ _ _ _
      | exact LeO.none _
      | refine LeO.ite ?_ ?_
      | refine LeO.bind ?_ (fun _ => ?_)
    · intro y0 y1 y2 y3 y4 y5 y6 y7 y8
      unfold spec_l07Next.j1
      repeat' first
      | (with_reducible exact ih0 _ _ _ _ _ _ _ _ _ _ _ _ _ _)
      | (with_reducible exact ih1 _ _ _ _ _ _ _ _ _)
      | (with_reducible exact ih2 _ _ _ _ _ _ _ _ _ _)
      | (with_reducible exact ih3 _ _ _ _ _ _ _ _ _ _ _ _ _ _ _)
      | (with_reducible exact spec_l01Child.mono _ _ _ _ _ _)
      | (with_reducible exact spec_l01Parent.mono _ _ _ _ _)
      | (with_reducible exact LeO.refl _)
      | (with_reducible exact LeO.none _)
      | (with_reducible refine LeO.ite ?_ ?_)
      | (with_reducible refine LeO.bind ?_ (fun _ => ?_))
      | exact ih0 _ _ _ _ _ _ _ _ _ _ _ _ _ _
      | exact ih1 _ _ _ _ _ _ _ _ _
      | exact ih2 _ _ _ _ _ _ _ _ _ _
      | exact ih3 _ _ _ _ _ _ _ _ _ _ _ _ _ _ _
      | exact spec_l01Child.mono _ _ _ _ _ _
      | exact spec_l01Parent.mono _ _ _ _ _
      | exact LeO.none _
      | refine LeO.ite ?_ ?_
      | refine LeO.bind ?_ (fun _ => ?_)
    · intro y0 y1 y2 y3 y4 y5 y6 y7 y8 y9
      unfold spec_l07Next.l0
      repeat' first
      | (with_reducible exact ih0 _ _ _ _ _ _ _ _ _ _ _ _ _ _)
      | (with_reducible exact ih1 _ _ _ _ _ _ _ _ _)
      | (with_reducible exact ih2 _ _ _ _ _ _ _ _ _ _)
      | (with_reducible exact ih3 _ _ _ _ _ _ _ _ _ _ _ _ _ _ _)
      | (with_reducible exact spec_l01Child.mono _ _ _ _ _ _)
      | (with_reducible exact spec_l01Parent.mono _ _ _ _ _)
      | (with_reducible exact LeO.refl _)
      | (with_reducible exact LeO.none _)
      | (with_reducible refine LeO.ite ?_ ?_)
      | (with_reducible refine LeO.bind ?_ (fun _ => ?_))
      | exact ih0 _ _ _ _ _ _ _ _ _ _ _ _ _ _
      | exact ih1 _ _ _ _ _ _ _ _ _
      | exact ih2 _ _ _ _ _ _ _ _ _ _
      | exact ih3 _ _ _ _ _ _ _ _ _ _ _ _ _ _ _
      | exact spec_l01Child.mono _ _ _ _ _ _
      | exact spec_l01Parent.mono _ _ _ _ _
      | exact LeO.none _
      | refine LeO.ite ?_ ?_
      | refine LeO.bind ?_ (fun _ => ?_)
    · intro y0 y1 y2 y3 y4 y5 y6 y7 y8 y9 y10 y11 y12 y13 y14
      unfold spec_l07Next.j3
      repeat' first
      | (with_reducible exact ih0 _ _ _ _ _ _ _ _ _ _ _ _ _ _)
      | (with_reducible exact ih1 _ _ _ _ _ _ _ _ _)
      | (with_reducible exact ih2 _ _ _ _ _ _ _ _ _ _)
      | (with_reducible exact ih3 _ _ _ _ _ _ _ _ _ _ _ _ _ _ _)
      | (with_reducible exact spec_l01Child.mono _ _ _ _ _ _)
      | (with_reducible exact spec_l01Parent.mono _ _ _ _ _)
      | (with_reducible exact LeO.refl _)
      | (with_reducible exact LeO.none _)
      | (with_reducible refine LeO.ite ?_ ?_)
      | (with_reducible refine LeO.bind ?_ (fun _ => ?_))
      | exact ih0 _ _ _ _ _ _ _ _ _ _ _ _ _ _
      | exact ih1 _ _ _ _ _ _ _ _ _
      | exact ih2 _ _ _ _ _ _ _ _ _ _
      | exact ih3 _ _ _ _ _ _ _ _ _ _ _ _ _ _ _
      | exact spec_l01Child.mono _ _ _ _ _ _
      | exact spec_l01Parent.mono _ _ _ _ _
      | exact LeO.none _
      | refine LeO.ite ?_ ?_
      | refine LeO.bind ?_ (fun _ => ?_)
theorem spec_l07Next.mono : ∀ a0 a1 a2 a3 a4 a5 a6 a7 a8 k, LeO (spec_l07Next.f k a0 a1 a2 a3 a4 a5 a6 a7 a8) (spec_l07Next.f (k + 1) a0 a1 a2 a3 a4 a5 a6 a7 a8) := by
  intro a0 a1 a2 a3 a4 a5 a6 a7 a8 k
  obtain ⟨ih0, ih1, ih2, ih3⟩ := spec_l07Next.mono_l k
  unfold spec_l07Next.f
  repeat' first
      | (with_reducible exact ih0 _ _ _ _ _ _ _ _ _ _ _ _ _ _)
      | (with_reducible exact ih1 _ _ _ _ _ _ _ _ _)
      | (with_reducible exact ih2 _ _ _ _ _ _ _ _ _ _)
      | (with_reducible exact ih3 _ _ _ _ _ _ _ _ _ _ _ _ _ _ _)
      | (with_reducible exact spec_l01Child.mono _ _ _ _ _ _)
      | (with_reducible exact spec_l01Parent.mono _ _ _ _ _)
      | (with_reducible exact LeO.refl _)
      | (with_reducible exact LeO.none _)
      | (with_reducible refine LeO.ite ?_ ?_)
      | (with_reducible refine LeO.bind ?_ (fun _ => ?_))
      | exact ih0 _ _ _ _ _ _ _ _ _ _ _ _ _ _
      | exact ih1 _ _ _ _ _ _ _ _ _
      | exact ih2 _ _ _ _ _ _ _ _ _ _
      | exact ih3 _ _ _ _ _ _ _ _ _ _ _ _ _ _ _
      | exact spec_l01Child.mono _ _ _ _ _ _
      | exact spec_l01Parent.mono _ _ _ _ _
      | exact LeO.none _
      | refine LeO.ite ?_ ?_
      | refine LeO.bind ?_ (fun _ => ?_)
set_option maxHeartbeats 8000000 in
set_option maxRecDepth 100000 in
theorem spec_l07Next.calls (k : Nat) (a0 : Int) (a1_0 : Int) (a1_1 : Int) (a1_2 : Int) (a2_0 : Int) (a2_1 : Int) (a2_2 : Int) (a3 : Bool) (a4 : Int) (r1 : Int) (r2 : Int) (r3 : Int) (r4 : Bool) (w : World) (h : spec_l07Next.f k a0 a1_0 a1_1 a1_2 a2_0 a2_1 a2_2 a3 a4 = some (r1, r2, r3, r4)) :
    Calls Try.prog 68 #[.int .i64 a0, .agg #[.int .i64 a1_0, .int .i64 a1_1, .int .i64 a1_2], .agg #[.int .i64 a2_0, .int .i64 a2_1, .int .i64 a2_2], .bool a3, .int .i64 a4] w fun e w' => e = .returned (.tuple #[.agg #[.int .i64 r1, .int .i64 r2, .int .i64 r3], .bool r4]) ∧ Below w.heap.size w w' := by
  have hu34 := Try.underlying34
  have HB := Aside0.mk (Below.refl w.heap.size w)
  have H : ((spec_l01Parent.f k a0 a1_0 a1_1 a1_2).bind fun bt445 => (if a3 = true then (if bt445.2.2.2 = true then (spec_l07Next.j0 k a0 a3 a4 bt445.2.2.2 (!(bt445.1 == a2_0) || (!(bt445.2.1 == a2_1) || (!(bt445.2.2.1 == a2_2)))) a1_0 a1_1 a1_2 a2_0 a2_1 a2_2 bt445.1 bt445.2.1 bt445.2.2.1) else (spec_l07Next.j0 k a0 a3 a4 bt445.2.2.2 true a1_0 a1_1 a1_2 a2_0 a2_1 a2_2 bt445.1 bt445.2.1 bt445.2.2.1)) else (spec_l07Next.j0 k a0 a3 a4 bt445.2.2.2 true a1_0 a1_1 a1_2 a2_0 a2_1 a2_2 bt445.1 bt445.2.1 bt445.2.2.1))) = some (r1, r2, r3, r4) := h
  clear h
  replace H := Option.bind_eq_some_iff.mp H
  obtain ⟨⟨t445, t446, t447, t448⟩, A60, H⟩ := H
  replace H : (if a3 = true then (if t448 = true then (spec_l07Next.j0 k a0 a3 a4 t448 (!(t445 == a2_0) || (!(t446 == a2_1) || (!(t447 == a2_2)))) a1_0 a1_1 a1_2 a2_0 a2_1 a2_2 t445 t446 t447) else (spec_l07Next.j0 k a0 a3 a4 t448 true a1_0 a1_1 a1_2 a2_0 a2_1 a2_2 t445 t446 t447)) else (spec_l07Next.j0 k a0 a3 a4 t448 true a1_0 a1_1 a1_2 a2_0 a2_1 a2_2 t445 t446 t447)) = some (r1, r2, r3, r4) := H
  have A6 := Aside0.mk A60
  clear A60
  have HC7 := Aside0.mk H
  clear H
  go_enter Try.func68, Try.ntmps68
  go_upto_region 2 with (first | ((with_reducible refine gate_dst (N := 6) rfl ?_); refine box_event ?hg (N := 6) ?hd (cs := #[.int .i64 a1_0, .int .i64 a1_1, .int .i64 a1_2]) (t := 34) ?hr ?_; (case hd => rfl); (case hg => rfl); (case hr => first | (go_simp; done) | (go_simp; rfl)); intro gb442 hg w8 hbox hb; have n0_ := Aside0.mk (below_step blA hb); have n1_ := Aside0.mk (hbox); have n2_ := Aside0.mk (szA hg blA); have n3_ := Aside0.mk (szA hg blA); clear HB; have HB := n0_; have BK442 := n1_; have GW442 := n2_; have GE442 := n3_; clear n0_ n1_ n2_ n3_; clear hb hbox hg) | ((with_reducible refine gate_dst (N := 7) rfl ?_); refine box_event ?hg (N := 7) ?hd (cs := #[.int .i64 a2_0, .int .i64 a2_1, .int .i64 a2_2]) (t := 34) ?hr ?_; (case hd => rfl); (case hg => rfl); (case hr => first | (go_simp; done) | (go_simp; rfl)); intro gb443 hg w9 hbox hb; have n0_ := Aside0.mk (blk_below (bkA BK442) hb); have n1_ := Aside0.mk (below_step blA hb); have n2_ := Aside0.mk (hbox); have n3_ := Aside0.mk (szA hg blA); have n4_ := Aside0.mk (szA hg blA); have n5_ := Aside0.mk (neA hg (bkA BK442)); have n6_ := Aside0.mk (neB hg (bkA BK442)); clear BK442; clear HB; have BK442 := n0_; have HB := n1_; have BK443 := n2_; have GW443 := n3_; have GE443 := n4_; have NB442_443 := n5_; have NB443_442 := n6_; clear n0_ n1_ n2_ n3_ n4_ n5_ n6_; clear hb hbox hg) | ((with_reducible refine gate_dst (N := 10) rfl ?_); refine box_event ?hg (N := 10) ?hd (cs := #[.int .i64 0, .int .i64 0, .int .i64 0]) (t := 34) ?hr ?_; (case hd => rfl); (case hg => rfl); (case hr => first | (go_simp; done) | (go_simp; rfl)); intro gb444 hg w10 hbox hb; have n0_ := Aside0.mk (blk_below (bkA BK442) hb); have n1_ := Aside0.mk (blk_below (bkA BK443) hb); have n2_ := Aside0.mk (below_step blA hb); have n3_ := Aside0.mk (hbox); have n4_ := Aside0.mk (szA hg blA); have n5_ := Aside0.mk (szA hg blA); have n6_ := Aside0.mk (neA hg (bkA BK442)); have n7_ := Aside0.mk (neB hg (bkA BK442)); have n8_ := Aside0.mk (neA hg (bkA BK443)); have n9_ := Aside0.mk (neB hg (bkA BK443)); clear BK442; clear BK443; clear HB; have BK442 := n0_; have BK443 := n1_; have HB := n2_; have BK444 := n3_; have GW444 := n4_; have GE444 := n5_; have NB442_444 := n6_; have NB444_442 := n7_; have NB443_444 := n8_; have NB444_443 := n9_; clear n0_ n1_ n2_ n3_ n4_ n5_ n6_ n7_ n8_ n9_; clear hb hbox hg; have hnb11 := NB442_443.out; have hnc11 := NB443_442.out; have hnb12 := NB442_444.out; have hnc12 := NB444_442.out; have hcz13_0 : w10.cell? ⟨gb442, 0, none⟩ = some (.int .i64 a1_0) := (blk_cell BK442.out 0).trans rfl; have hcz13_1 : w10.cell? ⟨gb442, 1, none⟩ = some (.int .i64 a1_1) := (blk_cell BK442.out 1).trans rfl; have hcz13_2 : w10.cell? ⟨gb442, 2, none⟩ = some (.int .i64 a1_2) := (blk_cell BK442.out 2).trans rfl; have hfz13_0 := blk_frozen BK442.out 0; have hfz13_1 := blk_frozen BK442.out 1; have hfz13_2 := blk_frozen BK442.out 2) | ((with_reducible refine gate_callee (f := 123) rfl ?_); refine goesL_ (some 20) rfl rfl Try.func123 (by kernel_rfl) rfl #[.int .i64 a0, .agg #[.int .i64 a1_0, .int .i64 a1_1, .int .i64 a1_2]] rfl (by (try simp only [List.map_toArray, List.map_cons, List.map_nil]); first | done | rfl | (simp only [List.length_drop, List.length_take]; rfl)) ?_; (with_reducible refine (spec_l01Parent.calls k a0 a1_0 a1_1 a1_2 t445 t446 t447 t448 _ A6.out).mono ?_); rintro e w14 ⟨rfl, hb⟩; refine ⟨_, rfl, ?_⟩; have n0_ := Aside0.mk (blk_below (bkA BK442) hb); have n1_ := Aside0.mk (blk_below (bkA BK443) hb); have n2_ := Aside0.mk (blk_below (bkA BK444) hb); have n3_ := Aside0.mk (below_step blA hb); clear BK442; clear BK443; clear BK444; clear HB; have BK442 := n0_; have BK443 := n1_; have BK444 := n2_; have HB := n3_; clear n0_ n1_ n2_ n3_; (try clear hb); (try clear hb2); (try clear hk); (try clear hi)) | ((with_reducible refine gate_dst (N := 12) rfl ?_); refine box_event ?hg (N := 12) ?hd (cs := #[.int .i64 0, .int .i64 0, .int .i64 0]) (t := 34) ?hr ?_; (case hd => rfl); (case hg => rfl); (case hr => first | (go_simp; done) | (go_simp; rfl)); intro gb449 hg w15 hbox hb; have n0_ := Aside0.mk (blk_below (bkA BK442) hb); have n1_ := Aside0.mk (blk_below (bkA BK443) hb); have n2_ := Aside0.mk (blk_below (bkA BK444) hb); have n3_ := Aside0.mk (below_step blA hb); have n4_ := Aside0.mk (hbox); have n5_ := Aside0.mk (szA hg blA); have n6_ := Aside0.mk (szA hg blA); have n7_ := Aside0.mk (neA hg (bkA BK442)); have n8_ := Aside0.mk (neB hg (bkA BK442)); have n9_ := Aside0.mk (neA hg (bkA BK443)); have n10_ := Aside0.mk (neB hg (bkA BK443)); have n11_ := Aside0.mk (neA hg (bkA BK444)); have n12_ := Aside0.mk (neB hg (bkA BK444)); clear BK442; clear BK443; clear BK444; clear HB; have BK442 := n0_; have BK443 := n1_; have BK444 := n2_; have HB := n3_; have BK449 := n4_; have GW449 := n5_; have GE449 := n6_; have NB442_449 := n7_; have NB449_442 := n8_; have NB443_449 := n9_; have NB449_443 := n10_; have NB444_449 := n11_; have NB449_444 := n12_; clear n0_ n1_ n2_ n3_ n4_ n5_ n6_ n7_ n8_ n9_ n10_ n11_ n12_; clear hb hbox hg; have hnb16 := NB449_442.out; have hnc16 := NB442_449.out; have hnb17 := NB449_443.out; have hnc17 := NB443_449.out; have hnb18 := NB449_444.out; have hnc18 := NB444_449.out; have hcz19_0 : w15.cell? ⟨gb449, 0, none⟩ = some (.int .i64 0) := (blk_cell BK449.out 0).trans rfl; have hcz19_1 : w15.cell? ⟨gb449, 1, none⟩ = some (.int .i64 0) := (blk_cell BK449.out 1).trans rfl; have hcz19_2 : w15.cell? ⟨gb449, 2, none⟩ = some (.int .i64 0) := (blk_cell BK449.out 2).trans rfl; have hfz19_0 := blk_frozen BK449.out 0; have hfz19_1 := blk_frozen BK449.out 1; have hfz19_2 := blk_frozen BK449.out 2))
  (try simp only [Act.put, List.setIfInBounds_toArray, List.set_cons_zero, List.set_cons_succ])
  go_cut [33] (fun v33 wc => ∃ (kq : Nat) (x33_6 : Bool), v33 = .bool x33_6 ∧ Aside0 (spec_l07Next.j0 kq a0 a3 a4 t448 x33_6 a1_0 a1_1 a1_2 a2_0 a2_1 a2_2 t445 t446 t447 = some (r1, r2, r3, r4)) ∧ Aside0 (kq ≤ k) ∧ Aside0 (wc.heap[gb442]? = some (.cells #[.int .i64 a1_0, .int .i64 a1_1, .int .i64 a1_2] 34 (0, 0))) ∧ Aside0 (wc.heap[gb443]? = some (.cells #[.int .i64 a2_0, .int .i64 a2_1, .int .i64 a2_2] 34 (0, 0))) ∧ Aside0 (wc.heap[gb444]? = some (.cells #[.int .i64 0, .int .i64 0, .int .i64 0] 34 (0, 0))) ∧ Aside0 (wc.heap[gb449]? = some (.cells #[.int .i64 t445, .int .i64 t446, .int .i64 t447] 34 (0, 0))) ∧ Aside0 (Below w.heap.size w wc))
  case first =>
    have H := HC7.out
    clear HC7
    by_cases c20 : a3 = true
    · subst c20
      have H1 : (if t448 = true then (spec_l07Next.j0 k a0 true a4 t448 (!(t445 == a2_0) || (!(t446 == a2_1) || (!(t447 == a2_2)))) a1_0 a1_1 a1_2 a2_0 a2_1 a2_2 t445 t446 t447) else (spec_l07Next.j0 k a0 true a4 t448 true a1_0 a1_1 a1_2 a2_0 a2_1 a2_2 t445 t446 t447)) = some (r1, r2, r3, r4) := by rw [if_pos rfl] at H; exact H
      clear H
      have H := H1
      clear H1
      by_cases c21 : t448 = true
      · subst c21
        have H1 : (spec_l07Next.j0 k a0 true a4 true (!(t445 == a2_0) || (!(t446 == a2_1) || (!(t447 == a2_2)))) a1_0 a1_1 a1_2 a2_0 a2_1 a2_2 t445 t446 t447) = some (r1, r2, r3, r4) := by rw [if_pos rfl] at H; exact H
        clear H
        have H := H1
        clear H1
        have H' := Aside0.mk H
        clear H
        have hnb22 := NB449_442.out
        have hnc22 := NB442_449.out
        have hnb23 := NB449_443.out
        have hnc23 := NB443_449.out
        have hnb24 := NB449_444.out
        have hnc24 := NB444_449.out
        have hcz25_0 : w15.cell? ⟨gb449, 0, none⟩ = some (.int .i64 0) := (blk_cell BK449.out 0).trans rfl
        have hcz25_1 : w15.cell? ⟨gb449, 1, none⟩ = some (.int .i64 0) := (blk_cell BK449.out 1).trans rfl
        have hcz25_2 : w15.cell? ⟨gb449, 2, none⟩ = some (.int .i64 0) := (blk_cell BK449.out 2).trans rfl
        have hfz25_0 := blk_frozen BK449.out 0
        have hfz25_1 := blk_frozen BK449.out 1
        have hfz25_2 := blk_frozen BK449.out 2
        have hnb26 := NB443_442.out
        have hnc26 := NB442_443.out
        have hnb27 := NB443_444.out
        have hnc27 := NB444_443.out
        have hcz28_0 : w15.cell? ⟨gb443, 0, none⟩ = some (.int .i64 a2_0) := (blk_cell BK443.out 0).trans rfl
        have hcz28_1 : w15.cell? ⟨gb443, 1, none⟩ = some (.int .i64 a2_1) := (blk_cell BK443.out 1).trans rfl
        have hcz28_2 : w15.cell? ⟨gb443, 2, none⟩ = some (.int .i64 a2_2) := (blk_cell BK443.out 2).trans rfl
        have hfz28_0 := blk_frozen BK443.out 0
        have hfz28_1 := blk_frozen BK443.out 1
        have hfz28_2 := blk_frozen BK443.out 2
        go_wp2
        go_meet
        case rel => exact ⟨_, ((!(t445 == a2_0) || (!(t446 == a2_1) || (!(t447 == a2_2))))), (by first | rfl | (simp; done) | (simp [*]; done)), H', ⟨by first | omega | exact Nat.le_refl _⟩, ⟨by (with_reducible repeat (first | refine blk_drewN ?_ _ | refine blk_drew ?_ | refine blk_alloc ?_ _)); refine blk_far ?_ NB442_449.out _; (with_reducible repeat (first | refine blk_drewN ?_ _ | refine blk_drew ?_ | refine blk_alloc ?_ _)); refine blk_far ?_ NB442_449.out _; (with_reducible repeat (first | refine blk_drewN ?_ _ | refine blk_drew ?_ | refine blk_alloc ?_ _)); refine blk_far ?_ NB442_449.out _; (with_reducible repeat (first | refine blk_drewN ?_ _ | refine blk_drew ?_ | refine blk_alloc ?_ _)); exact BK442.out⟩, ⟨by (with_reducible repeat (first | refine blk_drewN ?_ _ | refine blk_drew ?_ | refine blk_alloc ?_ _)); refine blk_far ?_ NB443_449.out _; (with_reducible repeat (first | refine blk_drewN ?_ _ | refine blk_drew ?_ | refine blk_alloc ?_ _)); refine blk_far ?_ NB443_449.out _; (with_reducible repeat (first | refine blk_drewN ?_ _ | refine blk_drew ?_ | refine blk_alloc ?_ _)); refine blk_far ?_ NB443_449.out _; (with_reducible repeat (first | refine blk_drewN ?_ _ | refine blk_drew ?_ | refine blk_alloc ?_ _)); exact BK443.out⟩, ⟨by (with_reducible repeat (first | refine blk_drewN ?_ _ | refine blk_drew ?_ | refine blk_alloc ?_ _)); refine blk_far ?_ NB444_449.out _; (with_reducible repeat (first | refine blk_drewN ?_ _ | refine blk_drew ?_ | refine blk_alloc ?_ _)); refine blk_far ?_ NB444_449.out _; (with_reducible repeat (first | refine blk_drewN ?_ _ | refine blk_drew ?_ | refine blk_alloc ?_ _)); refine blk_far ?_ NB444_449.out _; (with_reducible repeat (first | refine blk_drewN ?_ _ | refine blk_drew ?_ | refine blk_alloc ?_ _)); exact BK444.out⟩, ⟨by (with_reducible repeat (first | refine blk_drewN ?_ _ | refine blk_drew ?_ | refine blk_alloc ?_ _)); refine blk_put (cs := #[.int .i64 t445, .int .i64 t446, .int .i64 0]) ?_ 2 _ rfl; (with_reducible repeat (first | refine blk_drewN ?_ _ | refine blk_drew ?_ | refine blk_alloc ?_ _)); refine blk_put (cs := #[.int .i64 t445, .int .i64 0, .int .i64 0]) ?_ 1 _ rfl; (with_reducible repeat (first | refine blk_drewN ?_ _ | refine blk_drew ?_ | refine blk_alloc ?_ _)); refine blk_put (cs := #[.int .i64 0, .int .i64 0, .int .i64 0]) ?_ 0 _ rfl; (with_reducible repeat (first | refine blk_drewN ?_ _ | refine blk_drew ?_ | refine blk_alloc ?_ _)); exact BK449.out⟩, ⟨blA⟩⟩
      · replace c21 := Bool.eq_false_iff.mpr c21
        subst c21
        have H1 : (spec_l07Next.j0 k a0 true a4 false true a1_0 a1_1 a1_2 a2_0 a2_1 a2_2 t445 t446 t447) = some (r1, r2, r3, r4) := by rw [if_neg (show ¬ (false = true) by decide)] at H; exact H
        clear H
        have H := H1
        clear H1
        have H' := Aside0.mk H
        clear H
        go_wp2
        go_meet
        case rel => exact ⟨_, (true), (by first | rfl | (simp; done) | (simp [*]; done)), H', ⟨by first | omega | exact Nat.le_refl _⟩, ⟨by (with_reducible repeat (first | refine blk_drewN ?_ _ | refine blk_drew ?_ | refine blk_alloc ?_ _)); refine blk_far ?_ NB442_449.out _; (with_reducible repeat (first | refine blk_drewN ?_ _ | refine blk_drew ?_ | refine blk_alloc ?_ _)); refine blk_far ?_ NB442_449.out _; (with_reducible repeat (first | refine blk_drewN ?_ _ | refine blk_drew ?_ | refine blk_alloc ?_ _)); refine blk_far ?_ NB442_449.out _; (with_reducible repeat (first | refine blk_drewN ?_ _ | refine blk_drew ?_ | refine blk_alloc ?_ _)); exact BK442.out⟩, ⟨by (with_reducible repeat (first | refine blk_drewN ?_ _ | refine blk_drew ?_ | refine blk_alloc ?_ _)); refine blk_far ?_ NB443_449.out _; (with_reducible repeat (first | refine blk_drewN ?_ _ | refine blk_drew ?_ | refine blk_alloc ?_ _)); refine blk_far ?_ NB443_449.out _; (with_reducible repeat (first | refine blk_drewN ?_ _ | refine blk_drew ?_ | refine blk_alloc ?_ _)); refine blk_far ?_ NB443_449.out _; (with_reducible repeat (first | refine blk_drewN ?_ _ | refine blk_drew ?_ | refine blk_alloc ?_ _)); exact BK443.out⟩, ⟨by (with_reducible repeat (first | refine blk_drewN ?_ _ | refine blk_drew ?_ | refine blk_alloc ?_ _)); refine blk_far ?_ NB444_449.out _; (with_reducible repeat (first | refine blk_drewN ?_ _ | refine blk_drew ?_ | refine blk_alloc ?_ _)); refine blk_far ?_ NB444_449.out _; (with_reducible repeat (first | refine blk_drewN ?_ _ | refine blk_drew ?_ | refine blk_alloc ?_ _)); refine blk_far ?_ NB444_449.out _; (with_reducible repeat (first | refine blk_drewN ?_ _ | refine blk_drew ?_ | refine blk_alloc ?_ _)); exact BK444.out⟩, ⟨by (with_reducible repeat (first | refine blk_drewN ?_ _ | refine blk_drew ?_ | refine blk_alloc ?_ _)); refine blk_put (cs := #[.int .i64 t445, .int .i64 t446, .int .i64 0]) ?_ 2 _ rfl; (with_reducible repeat (first | refine blk_drewN ?_ _ | refine blk_drew ?_ | refine blk_alloc ?_ _)); refine blk_put (cs := #[.int .i64 t445, .int .i64 0, .int .i64 0]) ?_ 1 _ rfl; (with_reducible repeat (first | refine blk_drewN ?_ _ | refine blk_drew ?_ | refine blk_alloc ?_ _)); refine blk_put (cs := #[.int .i64 0, .int .i64 0, .int .i64 0]) ?_ 0 _ rfl; (with_reducible repeat (first | refine blk_drewN ?_ _ | refine blk_drew ?_ | refine blk_alloc ?_ _)); exact BK449.out⟩, ⟨blA⟩⟩
    · replace c20 := Bool.eq_false_iff.mpr c20
      subst c20
      have H1 : (spec_l07Next.j0 k a0 false a4 t448 true a1_0 a1_1 a1_2 a2_0 a2_1 a2_2 t445 t446 t447) = some (r1, r2, r3, r4) := by rw [if_neg (show ¬ (false = true) by decide)] at H; exact H
      clear H
      have H := H1
      clear H1
      have H' := Aside0.mk H
      clear H
      go_wp2
      go_meet
      case rel => exact ⟨_, (true), (by first | rfl | (simp; done) | (simp [*]; done)), H', ⟨by first | omega | exact Nat.le_refl _⟩, ⟨by (with_reducible repeat (first | refine blk_drewN ?_ _ | refine blk_drew ?_ | refine blk_alloc ?_ _)); refine blk_far ?_ NB442_449.out _; (with_reducible repeat (first | refine blk_drewN ?_ _ | refine blk_drew ?_ | refine blk_alloc ?_ _)); refine blk_far ?_ NB442_449.out _; (with_reducible repeat (first | refine blk_drewN ?_ _ | refine blk_drew ?_ | refine blk_alloc ?_ _)); refine blk_far ?_ NB442_449.out _; (with_reducible repeat (first | refine blk_drewN ?_ _ | refine blk_drew ?_ | refine blk_alloc ?_ _)); exact BK442.out⟩, ⟨by (with_reducible repeat (first | refine blk_drewN ?_ _ | refine blk_drew ?_ | refine blk_alloc ?_ _)); refine blk_far ?_ NB443_449.out _; (with_reducible repeat (first | refine blk_drewN ?_ _ | refine blk_drew ?_ | refine blk_alloc ?_ _)); refine blk_far ?_ NB443_449.out _; (with_reducible repeat (first | refine blk_drewN ?_ _ | refine blk_drew ?_ | refine blk_alloc ?_ _)); refine blk_far ?_ NB443_449.out _; (with_reducible repeat (first | refine blk_drewN ?_ _ | refine blk_drew ?_ | refine blk_alloc ?_ _)); exact BK443.out⟩, ⟨by (with_reducible repeat (first | refine blk_drewN ?_ _ | refine blk_drew ?_ | refine blk_alloc ?_ _)); refine blk_far ?_ NB444_449.out _; (with_reducible repeat (first | refine blk_drewN ?_ _ | refine blk_drew ?_ | refine blk_alloc ?_ _)); refine blk_far ?_ NB444_449.out _; (with_reducible repeat (first | refine blk_drewN ?_ _ | refine blk_drew ?_ | refine blk_alloc ?_ _)); refine blk_far ?_ NB444_449.out _; (with_reducible repeat (first | refine blk_drewN ?_ _ | refine blk_drew ?_ | refine blk_alloc ?_ _)); exact BK444.out⟩, ⟨by (with_reducible repeat (first | refine blk_drewN ?_ _ | refine blk_drew ?_ | refine blk_alloc ?_ _)); refine blk_put (cs := #[.int .i64 t445, .int .i64 t446, .int .i64 0]) ?_ 2 _ rfl; (with_reducible repeat (first | refine blk_drewN ?_ _ | refine blk_drew ?_ | refine blk_alloc ?_ _)); refine blk_put (cs := #[.int .i64 t445, .int .i64 0, .int .i64 0]) ?_ 1 _ rfl; (with_reducible repeat (first | refine blk_drewN ?_ _ | refine blk_drew ?_ | refine blk_alloc ?_ _)); refine blk_put (cs := #[.int .i64 0, .int .i64 0, .int .i64 0]) ?_ 0 _ rfl; (with_reducible repeat (first | refine blk_drewN ?_ _ | refine blk_drew ?_ | refine blk_alloc ?_ _)); exact BK449.out⟩, ⟨blA⟩⟩
  case rest =>
    clear HC7
    try clear c1
    try clear c2
    try clear p2
    try clear c6
    try clear c11
    try clear c12
    try clear c16
    try clear c17
    try clear c18
    try clear c20
    try clear c21
    try clear c22
    try clear c23
    try clear c24
    try clear c26
    try clear c27
    try clear hcz13_0
    try clear hcz13_1
    try clear hcz13_2
    try clear hcz19_0
    try clear hcz19_1
    try clear hcz19_2
    try clear hcz25_0
    try clear hcz25_1
    try clear hcz25_2
    try clear hcz28_0
    try clear hcz28_1
    try clear hcz28_2
    try clear hfz13_0
    try clear hfz13_1
    try clear hfz13_2
    try clear hfz19_0
    try clear hfz19_1
    try clear hfz19_2
    try clear hfz25_0
    try clear hfz25_1
    try clear hfz25_2
    try clear hfz28_0
    try clear hfz28_1
    try clear hfz28_2
    obtain ⟨kq, x33_6, rfl, HA, HJ6, BK442, BK443, BK444, BK449, HB⟩ := hcut
    cases kq with
    | zero => exact absurd HA.out (by simp [spec_l07Next.j0])
    | succ kj6 =>
      have H := HA.out
      clear HA
      simp only [spec_l07Next.j0] at H
      have HC29 := Aside0.mk H
      clear H
      go_upto_if 33 with (fail)
      go_cut [4] (fun v4 wc => ∃ (kq : Nat) (x4_28 : Int) (x445000_28 : Int) (x445001_28 : Int) (x445002_28 : Int), v4 = .int .i64 x4_28 ∧ Aside0 (spec_l07Next.j1 kq a0 a3 x4_28 a1_0 a1_1 a1_2 a2_0 a2_1 a2_2 = some (r1, r2, r3, r4)) ∧ Aside0 (kq ≤ kj6) ∧ Aside0 (wc.heap[gb442]? = some (.cells #[.int .i64 a1_0, .int .i64 a1_1, .int .i64 a1_2] 34 (0, 0))) ∧ Aside0 (wc.heap[gb443]? = some (.cells #[.int .i64 a2_0, .int .i64 a2_1, .int .i64 a2_2] 34 (0, 0))) ∧ Aside0 (wc.heap[gb444]? = some (.cells #[.int .i64 x445000_28, .int .i64 x445001_28, .int .i64 x445002_28] 34 (0, 0))) ∧ Aside0 (wc.heap[gb449]? = some (.cells #[.int .i64 t445, .int .i64 t446, .int .i64 t447] 34 (0, 0))) ∧ Aside0 (Below w.heap.size w wc))
      case first =>
        have H := HC29.out
        clear HC29
        by_cases c30 : x33_6 = true
        · subst c30
          have H1 : (if a4 = 0 then (some (t445, t446, t447, t448)) else (spec_l07Next.j1 kj6 a0 a3 (wrap64 (a4 - 1)) a1_0 a1_1 a1_2 a2_0 a2_1 a2_2)) = some (r1, r2, r3, r4) := by rw [if_pos rfl] at H; exact H
          clear H
          have H := H1
          clear H1
          by_cases c31 : a4 = 0
          · rw [if_pos c31] at H
            have c31b0 : (a4 == 0) = true := beq_iff_eq.mpr c31
            have c31b1 : (a4 != 0) = false := bne_eq_false_iff_eq.mpr c31
            clear c31
            (first | rw [c31b0] | (simp only [i64_w, i32_w]; rw [c31b0]) | skip)
            simp only [Option.some.injEq, Prod.mk.injEq] at H
            obtain ⟨rfl, rfl, rfl, rfl⟩ := H
            have hnb32 := NB449_442.out
            have hnc32 := NB442_449.out
            have hnb33 := NB449_443.out
            have hnc33 := NB443_449.out
            have hnb34 := NB449_444.out
            have hnc34 := NB444_449.out
            have hcz35_0 : wc.cell? ⟨gb449, 0, none⟩ = some (.int .i64 t445) := (blk_cell BK449.out 0).trans rfl
            have hcz35_1 : wc.cell? ⟨gb449, 1, none⟩ = some (.int .i64 t446) := (blk_cell BK449.out 1).trans rfl
            have hcz35_2 : wc.cell? ⟨gb449, 2, none⟩ = some (.int .i64 t447) := (blk_cell BK449.out 2).trans rfl
            have hfz35_0 := blk_frozen BK449.out 0
            have hfz35_1 := blk_frozen BK449.out 1
            have hfz35_2 := blk_frozen BK449.out 2
            have hnb36 := NB444_442.out
            have hnc36 := NB442_444.out
            have hnb37 := NB444_443.out
            have hnc37 := NB443_444.out
            have hcz38_0 : wc.cell? ⟨gb444, 0, none⟩ = some (.int .i64 0) := (blk_cell BK444.out 0).trans rfl
            have hcz38_1 : wc.cell? ⟨gb444, 1, none⟩ = some (.int .i64 0) := (blk_cell BK444.out 1).trans rfl
            have hcz38_2 : wc.cell? ⟨gb444, 2, none⟩ = some (.int .i64 0) := (blk_cell BK444.out 2).trans rfl
            have hfz38_0 := blk_frozen BK444.out 0
            have hfz38_1 := blk_frozen BK444.out 1
            have hfz38_2 := blk_frozen BK444.out 2
            go_wp2
            refine bodyPost_ret (results_ct rfl _ _ gb444 34 #[.int .i64 t445, .int .i64 t446, .int .i64 t447] (0, 0) _ rfl (by (with_reducible repeat (first | refine blk_drewN ?_ _ | refine blk_drew ?_ | refine blk_alloc ?_ _)); refine blk_put (cs := #[.int .i64 t445, .int .i64 t446, .int .i64 0]) ?_ 2 _ rfl; (with_reducible repeat (first | refine blk_drewN ?_ _ | refine blk_drew ?_ | refine blk_alloc ?_ _)); refine blk_put (cs := #[.int .i64 t445, .int .i64 0, .int .i64 0]) ?_ 1 _ rfl; (with_reducible repeat (first | refine blk_drewN ?_ _ | refine blk_drew ?_ | refine blk_alloc ?_ _)); refine blk_put (cs := #[.int .i64 0, .int .i64 0, .int .i64 0]) ?_ 0 _ rfl; (with_reducible repeat (first | refine blk_drewN ?_ _ | refine blk_drew ?_ | refine blk_alloc ?_ _)); exact BK444.out) Try.underlying34 rfl (by kernel_rfl)) rfl ?_
            exact ⟨by first | rfl | (simp [errW_none, errW_some] <;> rfl) | (simp [*, errW_none, errW_some] <;> rfl), blA⟩
          · rw [if_neg c31] at H
            have c31b0 : (a4 == 0) = false := beq_eq_false_iff_ne.mpr c31
            have c31b1 : (a4 != 0) = true := bne_iff_ne.mpr c31
            (first | rw [c31b0] | (simp only [i64_w, i32_w]; rw [c31b0]) | skip)
            have H' := Aside0.mk H
            clear H
            go_wp2
            go_meet
            case rel => exact ⟨_, (wrap64 (a4 - 1)), (0), (0), (0), (by first | rfl | (simp; done) | (simp [*]; done)), H', ⟨by have := HJ6.out; first | omega | exact Nat.le_refl _⟩, ⟨bkA BK442⟩, ⟨bkA BK443⟩, ⟨bkA BK444⟩, ⟨bkA BK449⟩, ⟨blA⟩⟩
        · replace c30 := Bool.eq_false_iff.mpr c30
          subst c30
          have H1 : (spec_l07Next.j1 kj6 a0 a3 a4 a1_0 a1_1 a1_2 a2_0 a2_1 a2_2) = some (r1, r2, r3, r4) := by rw [if_neg (show ¬ (false = true) by decide)] at H; exact H
          clear H
          have H := H1
          clear H1
          have H' := Aside0.mk H
          clear H
          go_wp2
          go_meet
          case rel => exact ⟨_, (a4), (0), (0), (0), (by first | rfl | (simp; done) | (simp [*]; done)), H', ⟨by have := HJ6.out; first | omega | exact Nat.le_refl _⟩, ⟨bkA BK442⟩, ⟨bkA BK443⟩, ⟨bkA BK444⟩, ⟨bkA BK449⟩, ⟨blA⟩⟩
      case rest =>
        clear HC29
        try clear c1
        try clear c2
        try clear p2
        try clear c3
        try clear c6
        try clear p6
        try clear c11
        try clear c12
        try clear c16
        try clear c17
        try clear c18
        try clear c20
        try clear c21
        try clear c22
        try clear c23
        try clear c24
        try clear c26
        try clear c27
        try clear c30
        try clear c31
        try clear c31b0
        try clear c31b1
        try clear c32
        try clear c33
        try clear c34
        try clear c36
        try clear c37
        try clear hcz13_0
        try clear hcz13_1
        try clear hcz13_2
        try clear hcz19_0
        try clear hcz19_1
        try clear hcz19_2
        try clear hcz25_0
        try clear hcz25_1
        try clear hcz25_2
        try clear hcz28_0
        try clear hcz28_1
        try clear hcz28_2
        try clear hcz35_0
        try clear hcz35_1
        try clear hcz35_2
        try clear hcz38_0
        try clear hcz38_1
        try clear hcz38_2
        try clear hfz13_0
        try clear hfz13_1
        try clear hfz13_2
        try clear hfz19_0
        try clear hfz19_1
        try clear hfz19_2
        try clear hfz25_0
        try clear hfz25_1
        try clear hfz25_2
        try clear hfz28_0
        try clear hfz28_1
        try clear hfz28_2
        try clear hfz35_0
        try clear hfz35_1
        try clear hfz35_2
        try clear hfz38_0
        try clear hfz38_1
        try clear hfz38_2
        try clear p2
        obtain ⟨kq, x4_28, x445000_28, x445001_28, x445002_28, rfl, HA, HJ28, BK442, BK443, BK444, BK449, HB⟩ := hcut
        cases kq with
        | zero => exact absurd HA.out (by simp [spec_l07Next.j1])
        | succ kj28 =>
          have H := HA.out
          clear HA
          simp only [spec_l07Next.j1] at H
          have H' := Aside0.mk H
          clear H
          go_wp2
          go_loopg [4, 14] kj28 (fun kq v4 v14 w' => ∃ (x4_3 : Int) (x14_3 : Int) (x445000_3 : Int) (x445001_3 : Int) (x445002_3 : Int), v4 = .int .i64 x4_3 ∧ v14 = .int .i64 x14_3 ∧ Aside0 (spec_l07Next.l0 kq a0 a3 x4_3 x14_3 a1_0 a1_1 a1_2 a2_0 a2_1 a2_2 = some (r1, r2, r3, r4)) ∧ Aside0 (kq ≤ kj28) ∧ Aside0 (w'.heap[gb442]? = some (.cells #[.int .i64 a1_0, .int .i64 a1_1, .int .i64 a1_2] 34 (0, 0))) ∧ Aside0 (w'.heap[gb443]? = some (.cells #[.int .i64 a2_0, .int .i64 a2_1, .int .i64 a2_2] 34 (0, 0))) ∧ Aside0 (w'.heap[gb444]? = some (.cells #[.int .i64 x445000_3, .int .i64 x445001_3, .int .i64 x445002_3] 34 (0, 0))) ∧ Aside0 (w'.heap[gb449]? = some (.cells #[.int .i64 t445, .int .i64 t446, .int .i64 t447] 34 (0, 0))) ∧ Aside0 (Below w.heap.size w w'))
          case atStart => exact ⟨(x4_28), (0), (x445000_28), (x445001_28), (x445002_28), (by first | rfl | (simp; done) | (simp [*]; done)), (by first | rfl | (simp; done) | (simp [*]; done)), H', ⟨Nat.le_refl _⟩, ⟨bkA BK442⟩, ⟨bkA BK443⟩, ⟨bkA BK444⟩, ⟨bkA BK449⟩, ⟨blA⟩⟩
          case round =>
            clear H'
            try clear c1
            try clear c2
            try clear p2
            try clear c3
            try clear c6
            try clear p6
            try clear c11
            try clear c12
            try clear c16
            try clear c17
            try clear c18
            try clear c20
            try clear c21
            try clear c22
            try clear c23
            try clear c24
            try clear c26
            try clear c27
            try clear c30
            try clear c31
            try clear c31b0
            try clear c31b1
            try clear c32
            try clear c33
            try clear c34
            try clear c36
            try clear c37
            try clear hcz13_0
            try clear hcz13_1
            try clear hcz13_2
            try clear hcz19_0
            try clear hcz19_1
            try clear hcz19_2
            try clear hcz25_0
            try clear hcz25_1
            try clear hcz25_2
            try clear hcz28_0
            try clear hcz28_1
            try clear hcz28_2
            try clear hcz35_0
            try clear hcz35_1
            try clear hcz35_2
            try clear hcz38_0
            try clear hcz38_1
            try clear hcz38_2
            try clear hfz13_0
            try clear hfz13_1
            try clear hfz13_2
            try clear hfz19_0
            try clear hfz19_1
            try clear hfz19_2
            try clear hfz25_0
            try clear hfz25_1
            try clear hfz25_2
            try clear hfz28_0
            try clear hfz28_1
            try clear hfz28_2
            try clear hfz35_0
            try clear hfz35_1
            try clear hfz35_2
            try clear hfz38_0
            try clear hfz38_1
            try clear hfz38_2
            try clear p2
            try clear p6
            obtain ⟨x4_3, x14_3, x445000_3, x445001_3, x445002_3, rfl, rfl, HA, HK3, BK442, BK443, BK444, BK449, HB⟩ := hrel
            cases gk with
            | zero => exact absurd HA.out (by simp [spec_l07Next.l0])
            | succ k3 =>
              have H := HA.out
              clear HA
              simp only [spec_l07Next.l0] at H
              by_cases c39 : x14_3 < a0
              · rw [if_pos c39] at H
                have c39b0 : decide (x14_3 < a0) = true := decide_eq_true c39
                clear c39
                replace H := Option.bind_eq_some_iff.mp H
                obtain ⟨⟨t450, t451, t452, t453⟩, A400, H⟩ := H
                replace H : (if a3 = true then (if t453 = true then (spec_l07Next.j3 k3 a0 a3 x4_3 x14_3 t453 (t450 == a2_0 && (t451 == a2_1 && (t452 == a2_2))) a1_0 a1_1 a1_2 a2_0 a2_1 a2_2 t450 t451 t452) else (spec_l07Next.j3 k3 a0 a3 x4_3 x14_3 t453 false a1_0 a1_1 a1_2 a2_0 a2_1 a2_2 t450 t451 t452)) else (spec_l07Next.j3 k3 a0 a3 x4_3 x14_3 t453 false a1_0 a1_1 a1_2 a2_0 a2_1 a2_2 t450 t451 t452)) = some (r1, r2, r3, r4) := H
                have A40 := Aside0.mk A400
                clear A400
                have HC41 := Aside0.mk H
                clear H
                have hnb42 := NB442_443.out
                have hnc42 := NB443_442.out
                have hnb43 := NB442_444.out
                have hnc43 := NB444_442.out
                have hnb44 := NB442_449.out
                have hnc44 := NB449_442.out
                have hcz45_0 : wr.cell? ⟨gb442, 0, none⟩ = some (.int .i64 a1_0) := (blk_cell BK442.out 0).trans rfl
                have hcz45_1 : wr.cell? ⟨gb442, 1, none⟩ = some (.int .i64 a1_1) := (blk_cell BK442.out 1).trans rfl
                have hcz45_2 : wr.cell? ⟨gb442, 2, none⟩ = some (.int .i64 a1_2) := (blk_cell BK442.out 2).trans rfl
                have hfz45_0 := blk_frozen BK442.out 0
                have hfz45_1 := blk_frozen BK442.out 1
                have hfz45_2 := blk_frozen BK442.out 2
                go_upto_region 10 with (first | ((with_reducible refine gate_callee (f := 124) rfl ?_); refine goesL_ (some 49) rfl rfl Try.func124 (by kernel_rfl) rfl #[.int .i64 a0, .agg #[.int .i64 a1_0, .int .i64 a1_1, .int .i64 a1_2], .int .i64 x14_3] rfl (by (try simp only [List.map_toArray, List.map_cons, List.map_nil]); first | done | rfl | (simp only [List.length_drop, List.length_take]; rfl)) ?_; (with_reducible refine (spec_l01Child.calls k3 a0 a1_0 a1_1 a1_2 x14_3 t450 t451 t452 t453 _ A40.out).mono ?_); rintro e w46 ⟨rfl, hb⟩; refine ⟨_, rfl, ?_⟩; have n0_ := Aside0.mk (blk_below (bkA BK442) hb); have n1_ := Aside0.mk (blk_below (bkA BK443) hb); have n2_ := Aside0.mk (blk_below (bkA BK444) hb); have n3_ := Aside0.mk (blk_below (bkA BK449) hb); have n4_ := Aside0.mk (below_step blA hb); clear BK442; clear BK443; clear BK444; clear BK449; clear HB; have BK442 := n0_; have BK443 := n1_; have BK444 := n2_; have BK449 := n3_; have HB := n4_; clear n0_ n1_ n2_ n3_ n4_; (try clear hb); (try clear hb2); (try clear hk); (try clear hi)) | ((with_reducible refine gate_dst (N := 15) rfl ?_); refine box_event ?hg (N := 15) ?hd (cs := #[.int .i64 0, .int .i64 0, .int .i64 0]) (t := 34) ?hr ?_; (case hd => rfl); (case hg => rfl); (case hr => first | (go_simp; done) | (go_simp; rfl)); intro gb454 hg w47 hbox hb; have n0_ := Aside0.mk (blk_below (bkA BK442) hb); have n1_ := Aside0.mk (blk_below (bkA BK443) hb); have n2_ := Aside0.mk (blk_below (bkA BK444) hb); have n3_ := Aside0.mk (blk_below (bkA BK449) hb); have n4_ := Aside0.mk (below_step blA hb); have n5_ := Aside0.mk (hbox); have n6_ := Aside0.mk (szA hg blA); have n7_ := Aside0.mk (szA hg blA); have n8_ := Aside0.mk (neA hg (bkA BK442)); have n9_ := Aside0.mk (neB hg (bkA BK442)); have n10_ := Aside0.mk (neA hg (bkA BK443)); have n11_ := Aside0.mk (neB hg (bkA BK443)); have n12_ := Aside0.mk (neA hg (bkA BK444)); have n13_ := Aside0.mk (neB hg (bkA BK444)); have n14_ := Aside0.mk (neA hg (bkA BK449)); have n15_ := Aside0.mk (neB hg (bkA BK449)); clear BK442; clear BK443; clear BK444; clear BK449; clear HB; have BK442 := n0_; have BK443 := n1_; have BK444 := n2_; have BK449 := n3_; have HB := n4_; have BK454 := n5_; have GW454 := n6_; have GE454 := n7_; have NB442_454 := n8_; have NB454_442 := n9_; have NB443_454 := n10_; have NB454_443 := n11_; have NB444_454 := n12_; have NB454_444 := n13_; have NB449_454 := n14_; have NB454_449 := n15_; clear n0_ n1_ n2_ n3_ n4_ n5_ n6_ n7_ n8_ n9_ n10_ n11_ n12_ n13_ n14_ n15_; clear hb hbox hg; have hnb48 := NB454_442.out; have hnc48 := NB442_454.out; have hnb49 := NB454_443.out; have hnc49 := NB443_454.out; have hnb50 := NB454_444.out; have hnc50 := NB444_454.out; have hnb51 := NB454_449.out; have hnc51 := NB449_454.out; have hcz52_0 : w47.cell? ⟨gb454, 0, none⟩ = some (.int .i64 0) := (blk_cell BK454.out 0).trans rfl; have hcz52_1 : w47.cell? ⟨gb454, 1, none⟩ = some (.int .i64 0) := (blk_cell BK454.out 1).trans rfl; have hcz52_2 : w47.cell? ⟨gb454, 2, none⟩ = some (.int .i64 0) := (blk_cell BK454.out 2).trans rfl; have hfz52_0 := blk_frozen BK454.out 0; have hfz52_1 := blk_frozen BK454.out 1; have hfz52_2 := blk_frozen BK454.out 2))
                (try simp only [Act.put, List.setIfInBounds_toArray, List.set_cons_zero, List.set_cons_succ])
                go_cut [60] (fun v60 wc => ∃ (kq : Nat) (x60_40 : Bool), v60 = .bool x60_40 ∧ Aside0 (spec_l07Next.j3 kq a0 a3 x4_3 x14_3 t453 x60_40 a1_0 a1_1 a1_2 a2_0 a2_1 a2_2 t450 t451 t452 = some (r1, r2, r3, r4)) ∧ Aside0 (kq ≤ k3) ∧ Aside0 (wc.heap[gb442]? = some (.cells #[.int .i64 a1_0, .int .i64 a1_1, .int .i64 a1_2] 34 (0, 0))) ∧ Aside0 (wc.heap[gb443]? = some (.cells #[.int .i64 a2_0, .int .i64 a2_1, .int .i64 a2_2] 34 (0, 0))) ∧ Aside0 (wc.heap[gb444]? = some (.cells #[.int .i64 x445000_3, .int .i64 x445001_3, .int .i64 x445002_3] 34 (0, 0))) ∧ Aside0 (wc.heap[gb449]? = some (.cells #[.int .i64 t445, .int .i64 t446, .int .i64 t447] 34 (0, 0))) ∧ Aside0 (wc.heap[gb454]? = some (.cells #[.int .i64 t450, .int .i64 t451, .int .i64 t452] 34 (0, 0))) ∧ Aside0 (Below w.heap.size w wc))
                case first =>
                  have H := HC41.out
                  clear HC41
                  by_cases c53 : a3 = true
                  · subst c53
                    have H1 : (if t453 = true then (spec_l07Next.j3 k3 a0 true x4_3 x14_3 t453 (t450 == a2_0 && (t451 == a2_1 && (t452 == a2_2))) a1_0 a1_1 a1_2 a2_0 a2_1 a2_2 t450 t451 t452) else (spec_l07Next.j3 k3 a0 true x4_3 x14_3 t453 false a1_0 a1_1 a1_2 a2_0 a2_1 a2_2 t450 t451 t452)) = some (r1, r2, r3, r4) := by rw [if_pos rfl] at H; exact H
                    clear H
                    have H := H1
                    clear H1
                    by_cases c54 : t453 = true
                    · subst c54
                      have H1 : (spec_l07Next.j3 k3 a0 true x4_3 x14_3 true (t450 == a2_0 && (t451 == a2_1 && (t452 == a2_2))) a1_0 a1_1 a1_2 a2_0 a2_1 a2_2 t450 t451 t452) = some (r1, r2, r3, r4) := by rw [if_pos rfl] at H; exact H
                      clear H
                      have H := H1
                      clear H1
                      have H' := Aside0.mk H
                      clear H
                      have hnb55 := NB454_442.out
                      have hnc55 := NB442_454.out
                      have hnb56 := NB454_443.out
                      have hnc56 := NB443_454.out
                      have hnb57 := NB454_444.out
                      have hnc57 := NB444_454.out
                      have hnb58 := NB454_449.out
                      have hnc58 := NB449_454.out
                      have hcz59_0 : w47.cell? ⟨gb454, 0, none⟩ = some (.int .i64 0) := (blk_cell BK454.out 0).trans rfl
                      have hcz59_1 : w47.cell? ⟨gb454, 1, none⟩ = some (.int .i64 0) := (blk_cell BK454.out 1).trans rfl
                      have hcz59_2 : w47.cell? ⟨gb454, 2, none⟩ = some (.int .i64 0) := (blk_cell BK454.out 2).trans rfl
                      have hfz59_0 := blk_frozen BK454.out 0
                      have hfz59_1 := blk_frozen BK454.out 1
                      have hfz59_2 := blk_frozen BK454.out 2
                      have hnb60 := NB443_442.out
                      have hnc60 := NB442_443.out
                      have hnb61 := NB443_444.out
                      have hnc61 := NB444_443.out
                      have hnb62 := NB443_449.out
                      have hnc62 := NB449_443.out
                      have hcz63_0 : w47.cell? ⟨gb443, 0, none⟩ = some (.int .i64 a2_0) := (blk_cell BK443.out 0).trans rfl
                      have hcz63_1 : w47.cell? ⟨gb443, 1, none⟩ = some (.int .i64 a2_1) := (blk_cell BK443.out 1).trans rfl
                      have hcz63_2 : w47.cell? ⟨gb443, 2, none⟩ = some (.int .i64 a2_2) := (blk_cell BK443.out 2).trans rfl
                      have hfz63_0 := blk_frozen BK443.out 0
                      have hfz63_1 := blk_frozen BK443.out 1
                      have hfz63_2 := blk_frozen BK443.out 2
                      go_wp2
                      go_meet
                      case rel => exact ⟨_, ((t450 == a2_0 && (t451 == a2_1 && (t452 == a2_2)))), (by first | rfl | (simp; done) | (simp [*]; done)), H', ⟨by have := HJ6.out; have := HJ28.out; have := HK3.out; first | omega | exact Nat.le_refl _⟩, ⟨by (with_reducible repeat (first | refine blk_drewN ?_ _ | refine blk_drew ?_ | refine blk_alloc ?_ _)); refine blk_far ?_ NB442_454.out _; (with_reducible repeat (first | refine blk_drewN ?_ _ | refine blk_drew ?_ | refine blk_alloc ?_ _)); refine blk_far ?_ NB442_454.out _; (with_reducible repeat (first | refine blk_drewN ?_ _ | refine blk_drew ?_ | refine blk_alloc ?_ _)); refine blk_far ?_ NB442_454.out _; (with_reducible repeat (first | refine blk_drewN ?_ _ | refine blk_drew ?_ | refine blk_alloc ?_ _)); exact BK442.out⟩, ⟨by (with_reducible repeat (first | refine blk_drewN ?_ _ | refine blk_drew ?_ | refine blk_alloc ?_ _)); refine blk_far ?_ NB443_454.out _; (with_reducible repeat (first | refine blk_drewN ?_ _ | refine blk_drew ?_ | refine blk_alloc ?_ _)); refine blk_far ?_ NB443_454.out _; (with_reducible repeat (first | refine blk_drewN ?_ _ | refine blk_drew ?_ | refine blk_alloc ?_ _)); refine blk_far ?_ NB443_454.out _; (with_reducible repeat (first | refine blk_drewN ?_ _ | refine blk_drew ?_ | refine blk_alloc ?_ _)); exact BK443.out⟩, ⟨by (with_reducible repeat (first | refine blk_drewN ?_ _ | refine blk_drew ?_ | refine blk_alloc ?_ _)); refine blk_far ?_ NB444_454.out _; (with_reducible repeat (first | refine blk_drewN ?_ _ | refine blk_drew ?_ | refine blk_alloc ?_ _)); refine blk_far ?_ NB444_454.out _; (with_reducible repeat (first | refine blk_drewN ?_ _ | refine blk_drew ?_ | refine blk_alloc ?_ _)); refine blk_far ?_ NB444_454.out _; (with_reducible repeat (first | refine blk_drewN ?_ _ | refine blk_drew ?_ | refine blk_alloc ?_ _)); exact BK444.out⟩, ⟨by (with_reducible repeat (first | refine blk_drewN ?_ _ | refine blk_drew ?_ | refine blk_alloc ?_ _)); refine blk_far ?_ NB449_454.out _; (with_reducible repeat (first | refine blk_drewN ?_ _ | refine blk_drew ?_ | refine blk_alloc ?_ _)); refine blk_far ?_ NB449_454.out _; (with_reducible repeat (first | refine blk_drewN ?_ _ | refine blk_drew ?_ | refine blk_alloc ?_ _)); refine blk_far ?_ NB449_454.out _; (with_reducible repeat (first | refine blk_drewN ?_ _ | refine blk_drew ?_ | refine blk_alloc ?_ _)); exact BK449.out⟩, ⟨by (with_reducible repeat (first | refine blk_drewN ?_ _ | refine blk_drew ?_ | refine blk_alloc ?_ _)); refine blk_put (cs := #[.int .i64 t450, .int .i64 t451, .int .i64 0]) ?_ 2 _ rfl; (with_reducible repeat (first | refine blk_drewN ?_ _ | refine blk_drew ?_ | refine blk_alloc ?_ _)); refine blk_put (cs := #[.int .i64 t450, .int .i64 0, .int .i64 0]) ?_ 1 _ rfl; (with_reducible repeat (first | refine blk_drewN ?_ _ | refine blk_drew ?_ | refine blk_alloc ?_ _)); refine blk_put (cs := #[.int .i64 0, .int .i64 0, .int .i64 0]) ?_ 0 _ rfl; (with_reducible repeat (first | refine blk_drewN ?_ _ | refine blk_drew ?_ | refine blk_alloc ?_ _)); exact BK454.out⟩, ⟨blA⟩⟩
                    · replace c54 := Bool.eq_false_iff.mpr c54
                      subst c54
                      have H1 : (spec_l07Next.j3 k3 a0 true x4_3 x14_3 false false a1_0 a1_1 a1_2 a2_0 a2_1 a2_2 t450 t451 t452) = some (r1, r2, r3, r4) := by rw [if_neg (show ¬ (false = true) by decide)] at H; exact H
                      clear H
                      have H := H1
                      clear H1
                      have H' := Aside0.mk H
                      clear H
                      go_wp2
                      go_meet
                      case rel => exact ⟨_, (false), (by first | rfl | (simp; done) | (simp [*]; done)), H', ⟨by have := HJ6.out; have := HJ28.out; have := HK3.out; first | omega | exact Nat.le_refl _⟩, ⟨by (with_reducible repeat (first | refine blk_drewN ?_ _ | refine blk_drew ?_ | refine blk_alloc ?_ _)); refine blk_far ?_ NB442_454.out _; (with_reducible repeat (first | refine blk_drewN ?_ _ | refine blk_drew ?_ | refine blk_alloc ?_ _)); refine blk_far ?_ NB442_454.out _; (with_reducible repeat (first | refine blk_drewN ?_ _ | refine blk_drew ?_ | refine blk_alloc ?_ _)); refine blk_far ?_ NB442_454.out _; (with_reducible repeat (first | refine blk_drewN ?_ _ | refine blk_drew ?_ | refine blk_alloc ?_ _)); exact BK442.out⟩, ⟨by (with_reducible repeat (first | refine blk_drewN ?_ _ | refine blk_drew ?_ | refine blk_alloc ?_ _)); refine blk_far ?_ NB443_454.out _; (with_reducible repeat (first | refine blk_drewN ?_ _ | refine blk_drew ?_ | refine blk_alloc ?_ _)); refine blk_far ?_ NB443_454.out _; (with_reducible repeat (first | refine blk_drewN ?_ _ | refine blk_drew ?_ | refine blk_alloc ?_ _)); refine blk_far ?_ NB443_454.out _; (with_reducible repeat (first | refine blk_drewN ?_ _ | refine blk_drew ?_ | refine blk_alloc ?_ _)); exact BK443.out⟩, ⟨by (with_reducible repeat (first | refine blk_drewN ?_ _ | refine blk_drew ?_ | refine blk_alloc ?_ _)); refine blk_far ?_ NB444_454.out _; (with_reducible repeat (first | refine blk_drewN ?_ _ | refine blk_drew ?_ | refine blk_alloc ?_ _)); refine blk_far ?_ NB444_454.out _; (with_reducible repeat (first | refine blk_drewN ?_ _ | refine blk_drew ?_ | refine blk_alloc ?_ _)); refine blk_far ?_ NB444_454.out _; (with_reducible repeat (first | refine blk_drewN ?_ _ | refine blk_drew ?_ | refine blk_alloc ?_ _)); exact BK444.out⟩, ⟨by (with_reducible repeat (first | refine blk_drewN ?_ _ | refine blk_drew ?_ | refine blk_alloc ?_ _)); refine blk_far ?_ NB449_454.out _; (with_reducible repeat (first | refine blk_drewN ?_ _ | refine blk_drew ?_ | refine blk_alloc ?_ _)); refine blk_far ?_ NB449_454.out _; (with_reducible repeat (first | refine blk_drewN ?_ _ | refine blk_drew ?_ | refine blk_alloc ?_ _)); refine blk_far ?_ NB449_454.out _; (with_reducible repeat (first | refine blk_drewN ?_ _ | refine blk_drew ?_ | refine blk_alloc ?_ _)); exact BK449.out⟩, ⟨by (with_reducible repeat (first | refine blk_drewN ?_ _ | refine blk_drew ?_ | refine blk_alloc ?_ _)); refine blk_put (cs := #[.int .i64 t450, .int .i64 t451, .int .i64 0]) ?_ 2 _ rfl; (with_reducible repeat (first | refine blk_drewN ?_ _ | refine blk_drew ?_ | refine blk_alloc ?_ _)); refine blk_put (cs := #[.int .i64 t450, .int .i64 0, .int .i64 0]) ?_ 1 _ rfl; (with_reducible repeat (first | refine blk_drewN ?_ _ | refine blk_drew ?_ | refine blk_alloc ?_ _)); refine blk_put (cs := #[.int .i64 0, .int .i64 0, .int .i64 0]) ?_ 0 _ rfl; (with_reducible repeat (first | refine blk_drewN ?_ _ | refine blk_drew ?_ | refine blk_alloc ?_ _)); exact BK454.out⟩, ⟨blA⟩⟩
                  · replace c53 := Bool.eq_false_iff.mpr c53
                    subst c53
                    have H1 : (spec_l07Next.j3 k3 a0 false x4_3 x14_3 t453 false a1_0 a1_1 a1_2 a2_0 a2_1 a2_2 t450 t451 t452) = some (r1, r2, r3, r4) := by rw [if_neg (show ¬ (false = true) by decide)] at H; exact H
                    clear H
                    have H := H1
                    clear H1
                    have H' := Aside0.mk H
                    clear H
                    go_wp2
                    go_meet
                    case rel => exact ⟨_, (false), (by first | rfl | (simp; done) | (simp [*]; done)), H', ⟨by have := HJ6.out; have := HJ28.out; have := HK3.out; first | omega | exact Nat.le_refl _⟩, ⟨by (with_reducible repeat (first | refine blk_drewN ?_ _ | refine blk_drew ?_ | refine blk_alloc ?_ _)); refine blk_far ?_ NB442_454.out _; (with_reducible repeat (first | refine blk_drewN ?_ _ | refine blk_drew ?_ | refine blk_alloc ?_ _)); refine blk_far ?_ NB442_454.out _; (with_reducible repeat (first | refine blk_drewN ?_ _ | refine blk_drew ?_ | refine blk_alloc ?_ _)); refine blk_far ?_ NB442_454.out _; (with_reducible repeat (first | refine blk_drewN ?_ _ | refine blk_drew ?_ | refine blk_alloc ?_ _)); exact BK442.out⟩, ⟨by (with_reducible repeat (first | refine blk_drewN ?_ _ | refine blk_drew ?_ | refine blk_alloc ?_ _)); refine blk_far ?_ NB443_454.out _; (with_reducible repeat (first | refine blk_drewN ?_ _ | refine blk_drew ?_ | refine blk_alloc ?_ _)); refine blk_far ?_ NB443_454.out _; (with_reducible repeat (first | refine blk_drewN ?_ _ | refine blk_drew ?_ | refine blk_alloc ?_ _)); refine blk_far ?_ NB443_454.out _; (with_reducible repeat (first | refine blk_drewN ?_ _ | refine blk_drew ?_ | refine blk_alloc ?_ _)); exact BK443.out⟩, ⟨by (with_reducible repeat (first | refine blk_drewN ?_ _ | refine blk_drew ?_ | refine blk_alloc ?_ _)); refine blk_far ?_ NB444_454.out _; (with_reducible repeat (first | refine blk_drewN ?_ _ | refine blk_drew ?_ | refine blk_alloc ?_ _)); refine blk_far ?_ NB444_454.out _; (with_reducible repeat (first | refine blk_drewN ?_ _ | refine blk_drew ?_ | refine blk_alloc ?_ _)); refine blk_far ?_ NB444_454.out _; (with_reducible repeat (first | refine blk_drewN ?_ _ | refine blk_drew ?_ | refine blk_alloc ?_ _)); exact BK444.out⟩, ⟨by (with_reducible repeat (first | refine blk_drewN ?_ _ | refine blk_drew ?_ | refine blk_alloc ?_ _)); refine blk_far ?_ NB449_454.out _; (with_reducible repeat (first | refine blk_drewN ?_ _ | refine blk_drew ?_ | refine blk_alloc ?_ _)); refine blk_far ?_ NB449_454.out _; (with_reducible repeat (first | refine blk_drewN ?_ _ | refine blk_drew ?_ | refine blk_alloc ?_ _)); refine blk_far ?_ NB449_454.out _; (with_reducible repeat (first | refine blk_drewN ?_ _ | refine blk_drew ?_ | refine blk_alloc ?_ _)); exact BK449.out⟩, ⟨by (with_reducible repeat (first | refine blk_drewN ?_ _ | refine blk_drew ?_ | refine blk_alloc ?_ _)); refine blk_put (cs := #[.int .i64 t450, .int .i64 t451, .int .i64 0]) ?_ 2 _ rfl; (with_reducible repeat (first | refine blk_drewN ?_ _ | refine blk_drew ?_ | refine blk_alloc ?_ _)); refine blk_put (cs := #[.int .i64 t450, .int .i64 0, .int .i64 0]) ?_ 1 _ rfl; (with_reducible repeat (first | refine blk_drewN ?_ _ | refine blk_drew ?_ | refine blk_alloc ?_ _)); refine blk_put (cs := #[.int .i64 0, .int .i64 0, .int .i64 0]) ?_ 0 _ rfl; (with_reducible repeat (first | refine blk_drewN ?_ _ | refine blk_drew ?_ | refine blk_alloc ?_ _)); exact BK454.out⟩, ⟨blA⟩⟩
                case rest =>
                  clear HC41
                  try clear c1
                  try clear c2
                  try clear p2
                  try clear c3
                  try clear c4
                  try clear c5
                  try clear c6
                  try clear p6
                  try clear c11
                  try clear c12
                  try clear c16
                  try clear c17
                  try clear c18
                  try clear c20
                  try clear c21
                  try clear c22
                  try clear c23
                  try clear c24
                  try clear c26
                  try clear c27
                  try clear c30
                  try clear c31
                  try clear c31b0
                  try clear c31b1
                  try clear c32
                  try clear c33
                  try clear c34
                  try clear c36
                  try clear c37
                  try clear c39
                  try clear c39b0
                  try clear c42
                  try clear c43
                  try clear c44
                  try clear c48
                  try clear c49
                  try clear c50
                  try clear c51
                  try clear c53
                  try clear c54
                  try clear c55
                  try clear c56
                  try clear c57
                  try clear c58
                  try clear c60
                  try clear c61
                  try clear c62
                  try clear hcz13_0
                  try clear hcz13_1
                  try clear hcz13_2
                  try clear hcz19_0
                  try clear hcz19_1
                  try clear hcz19_2
                  try clear hcz25_0
                  try clear hcz25_1
                  try clear hcz25_2
                  try clear hcz28_0
                  try clear hcz28_1
                  try clear hcz28_2
                  try clear hcz35_0
                  try clear hcz35_1
                  try clear hcz35_2
                  try clear hcz38_0
                  try clear hcz38_1
                  try clear hcz38_2
                  try clear hcz45_0
                  try clear hcz45_1
                  try clear hcz45_2
                  try clear hcz52_0
                  try clear hcz52_1
                  try clear hcz52_2
                  try clear hcz59_0
                  try clear hcz59_1
                  try clear hcz59_2
                  try clear hcz63_0
                  try clear hcz63_1
                  try clear hcz63_2
                  try clear hfz13_0
                  try clear hfz13_1
                  try clear hfz13_2
                  try clear hfz19_0
                  try clear hfz19_1
                  try clear hfz19_2
                  try clear hfz25_0
                  try clear hfz25_1
                  try clear hfz25_2
                  try clear hfz28_0
                  try clear hfz28_1
                  try clear hfz28_2
                  try clear hfz35_0
                  try clear hfz35_1
                  try clear hfz35_2
                  try clear hfz38_0
                  try clear hfz38_1
                  try clear hfz38_2
                  try clear hfz45_0
                  try clear hfz45_1
                  try clear hfz45_2
                  try clear hfz52_0
                  try clear hfz52_1
                  try clear hfz52_2
                  try clear hfz59_0
                  try clear hfz59_1
                  try clear hfz59_2
                  try clear hfz63_0
                  try clear hfz63_1
                  try clear hfz63_2
                  try clear p2
                  try clear p6
                  obtain ⟨kq, x60_40, rfl, HA, HJ40, BK442, BK443, BK444, BK449, BK454, HB⟩ := hcut
                  cases kq with
                  | zero => exact absurd HA.out (by simp [spec_l07Next.j3])
                  | succ kj40 =>
                    have H := HA.out
                    clear HA
                    simp only [spec_l07Next.j3] at H
                    by_cases c64 : x60_40 = true
                    · subst c64
                      have H1 : (spec_l07Next.l0 kj40 a0 a3 x4_3 (wrap64 (x14_3 + 1)) a1_0 a1_1 a1_2 a2_0 a2_1 a2_2) = some (r1, r2, r3, r4) := by rw [if_pos rfl] at H; exact H
                      clear H
                      have H := H1
                      clear H1
                      have H' := Aside0.mk H
                      clear H
                      go_wp2
                      go_roundg kj40
                      case measure => have := HJ6.out; have := HJ28.out; have := HK3.out; have := HJ40.out; omega
                      case rel => exact ⟨(x4_3), (wrap64 (x14_3 + 1)), (x445000_3), (x445001_3), (x445002_3), (by first | rfl | (simp; done) | (simp [*]; done)), (by first | rfl | (simp; done) | (simp [*]; done)), H', ⟨by have := HJ6.out; have := HJ28.out; have := HK3.out; have := HJ40.out; omega⟩, ⟨bkA BK442⟩, ⟨bkA BK443⟩, ⟨bkA BK444⟩, ⟨bkA BK449⟩, ⟨blA⟩⟩
                    · replace c64 := Bool.eq_false_iff.mpr c64
                      subst c64
                      have H1 : (if x4_3 = 0 then (some (t450, t451, t452, t453)) else (spec_l07Next.l0 kj40 a0 a3 (wrap64 (x4_3 - 1)) (wrap64 (x14_3 + 1)) a1_0 a1_1 a1_2 a2_0 a2_1 a2_2)) = some (r1, r2, r3, r4) := by rw [if_neg (show ¬ (false = true) by decide)] at H; exact H
                      clear H
                      have H := H1
                      clear H1
                      by_cases c65 : x4_3 = 0
                      · rw [if_pos c65] at H
                        have c65b0 : (x4_3 == 0) = true := beq_iff_eq.mpr c65
                        have c65b1 : (x4_3 != 0) = false := bne_eq_false_iff_eq.mpr c65
                        clear c65
                        simp only [Option.some.injEq, Prod.mk.injEq] at H
                        obtain ⟨rfl, rfl, rfl, rfl⟩ := H
                        have hnb66 := NB454_442.out
                        have hnc66 := NB442_454.out
                        have hnb67 := NB454_443.out
                        have hnc67 := NB443_454.out
                        have hnb68 := NB454_444.out
                        have hnc68 := NB444_454.out
                        have hnb69 := NB454_449.out
                        have hnc69 := NB449_454.out
                        have hcz70_0 : wc.cell? ⟨gb454, 0, none⟩ = some (.int .i64 t450) := (blk_cell BK454.out 0).trans rfl
                        have hcz70_1 : wc.cell? ⟨gb454, 1, none⟩ = some (.int .i64 t451) := (blk_cell BK454.out 1).trans rfl
                        have hcz70_2 : wc.cell? ⟨gb454, 2, none⟩ = some (.int .i64 t452) := (blk_cell BK454.out 2).trans rfl
                        have hfz70_0 := blk_frozen BK454.out 0
                        have hfz70_1 := blk_frozen BK454.out 1
                        have hfz70_2 := blk_frozen BK454.out 2
                        have hnb71 := NB444_442.out
                        have hnc71 := NB442_444.out
                        have hnb72 := NB444_443.out
                        have hnc72 := NB443_444.out
                        have hnb73 := NB444_449.out
                        have hnc73 := NB449_444.out
                        have hcz74_0 : wc.cell? ⟨gb444, 0, none⟩ = some (.int .i64 x445000_3) := (blk_cell BK444.out 0).trans rfl
                        have hcz74_1 : wc.cell? ⟨gb444, 1, none⟩ = some (.int .i64 x445001_3) := (blk_cell BK444.out 1).trans rfl
                        have hcz74_2 : wc.cell? ⟨gb444, 2, none⟩ = some (.int .i64 x445002_3) := (blk_cell BK444.out 2).trans rfl
                        have hfz74_0 := blk_frozen BK444.out 0
                        have hfz74_1 := blk_frozen BK444.out 1
                        have hfz74_2 := blk_frozen BK444.out 2
                        go_wp2
                        refine bodyPost_ret (results_ct rfl _ _ gb444 34 #[.int .i64 t450, .int .i64 t451, .int .i64 t452] (0, 0) _ rfl (by (with_reducible repeat (first | refine blk_drewN ?_ _ | refine blk_drew ?_ | refine blk_alloc ?_ _)); refine blk_put (cs := #[.int .i64 t450, .int .i64 t451, .int .i64 x445002_3]) ?_ 2 _ rfl; (with_reducible repeat (first | refine blk_drewN ?_ _ | refine blk_drew ?_ | refine blk_alloc ?_ _)); refine blk_put (cs := #[.int .i64 t450, .int .i64 x445001_3, .int .i64 x445002_3]) ?_ 1 _ rfl; (with_reducible repeat (first | refine blk_drewN ?_ _ | refine blk_drew ?_ | refine blk_alloc ?_ _)); refine blk_put (cs := #[.int .i64 x445000_3, .int .i64 x445001_3, .int .i64 x445002_3]) ?_ 0 _ rfl; (with_reducible repeat (first | refine blk_drewN ?_ _ | refine blk_drew ?_ | refine blk_alloc ?_ _)); exact BK444.out) Try.underlying34 rfl (by kernel_rfl)) rfl ?_
                        exact ⟨by first | rfl | (simp [errW_none, errW_some] <;> rfl) | (simp [*, errW_none, errW_some] <;> rfl), blA⟩
                      · rw [if_neg c65] at H
                        have c65b0 : (x4_3 == 0) = false := beq_eq_false_iff_ne.mpr c65
                        have c65b1 : (x4_3 != 0) = true := bne_iff_ne.mpr c65
                        have H' := Aside0.mk H
                        clear H
                        go_wp2
                        go_roundg kj40
                        case measure => have := HJ6.out; have := HJ28.out; have := HK3.out; have := HJ40.out; omega
                        case rel => exact ⟨(wrap64 (x4_3 - 1)), (wrap64 (x14_3 + 1)), (x445000_3), (x445001_3), (x445002_3), (by first | rfl | (simp; done) | (simp [*]; done)), (by first | rfl | (simp; done) | (simp [*]; done)), H', ⟨by have := HJ6.out; have := HJ28.out; have := HK3.out; have := HJ40.out; omega⟩, ⟨bkA BK442⟩, ⟨bkA BK443⟩, ⟨bkA BK444⟩, ⟨bkA BK449⟩, ⟨blA⟩⟩
              · rw [if_neg c39] at H
                have c39b0 : decide (x14_3 < a0) = false := decide_eq_false c39
                clear c39
                simp only [Option.some.injEq, Prod.mk.injEq] at H
                obtain ⟨rfl, rfl, rfl, rfl⟩ := H
                have hnb75 := NB444_442.out
                have hnc75 := NB442_444.out
                have hnb76 := NB444_443.out
                have hnc76 := NB443_444.out
                have hnb77 := NB444_449.out
                have hnc77 := NB449_444.out
                have hcz78_0 : wr.cell? ⟨gb444, 0, none⟩ = some (.int .i64 x445000_3) := (blk_cell BK444.out 0).trans rfl
                have hcz78_1 : wr.cell? ⟨gb444, 1, none⟩ = some (.int .i64 x445001_3) := (blk_cell BK444.out 1).trans rfl
                have hcz78_2 : wr.cell? ⟨gb444, 2, none⟩ = some (.int .i64 x445002_3) := (blk_cell BK444.out 2).trans rfl
                have hfz78_0 := blk_frozen BK444.out 0
                have hfz78_1 := blk_frozen BK444.out 1
                have hfz78_2 := blk_frozen BK444.out 2
                go_wp2
                refine bodyPost_ret (results_ct rfl _ _ gb444 34 #[.int .i64 0, .int .i64 0, .int .i64 0] (0, 0) _ rfl (by (with_reducible repeat (first | refine blk_drewN ?_ _ | refine blk_drew ?_ | refine blk_alloc ?_ _)); refine blk_put (cs := #[.int .i64 0, .int .i64 0, .int .i64 x445002_3]) ?_ 2 _ rfl; (with_reducible repeat (first | refine blk_drewN ?_ _ | refine blk_drew ?_ | refine blk_alloc ?_ _)); refine blk_put (cs := #[.int .i64 0, .int .i64 x445001_3, .int .i64 x445002_3]) ?_ 1 _ rfl; (with_reducible repeat (first | refine blk_drewN ?_ _ | refine blk_drew ?_ | refine blk_alloc ?_ _)); refine blk_put (cs := #[.int .i64 x445000_3, .int .i64 x445001_3, .int .i64 x445002_3]) ?_ 0 _ rfl; (with_reducible repeat (first | refine blk_drewN ?_ _ | refine blk_drew ?_ | refine blk_alloc ?_ _)); exact BK444.out) Try.underlying34 rfl (by kernel_rfl)) rfl ?_
                exact ⟨by first | rfl | (simp [errW_none, errW_some] <;> rfl) | (simp [*, errW_none, errW_some] <;> rfl), blA⟩
end Go.Proofs.Ytfkglijnbgijbaa.PAll
