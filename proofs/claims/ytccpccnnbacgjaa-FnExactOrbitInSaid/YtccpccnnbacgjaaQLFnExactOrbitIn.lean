-- turned for this claim out of the kit's print: the same functions, packed anew
import Derived.Test.YtccpccnnbacgjaaQx
import Derived.Test.YtccpccnnbacgjaaQLmarkMatrixS
import Derived.Test.YtccpccnnbacgjaaQLtoBall
import Derived.Test.YtccpccnnbacgjaaQimplOrbitIn
import Derived.Test.YtccpccnnbacgjaaQimpldistance
import Derived.Test.YtccpccnnbacgjaaQspecOrbitIn
import Derived.Test.YtccpccnnbacgjaaQspecl02Join
import Derived.Test.YtccpccnnbacgjaaQspecl06Movers
namespace Go.Proofs.Ytccpccnnbacgjaa.PAll
open Go.RowKit Go.Proofs.YtccpccnnbacgjaaW.PrintWords Go.Proofs.YtccpccnnbacgjaaW.PrintLast Go.Proofs.YtccpccnnbacgjaaW.PrintMore
attribute [local go_sem] Go.Proofs.Ytccpccnnbacgjaa.Aux.setCell_drewN Go.Proofs.Ytccpccnnbacgjaa.Aux.isSome_setCell max2_int min2_int max_two min_two max_three min_three max_four min_four   -- for this text's walks alone
set_option linter.unusedVariables false
set_option linter.unusedSimpArgs false
/-! ### laws_FnExactOrbitIn: function 8 -/
mutual
def laws_FnExactOrbitIn.j0 : Nat → Int → List (S23) → Int → List (S39) → Int → List (S26) → List (S39) → Int → Bool → Int → Int → Int → Option (Bool)
 | 0, _, _, _, _, _, _, _, _, _, _, _, _ => none
 | k + 1, x0, x1, x3, x10, x11, x12, x13, x14, x54, x1146000, x1146001, x1146002 => if x54 = true then (none) else ((laws_toMatrixS.f k x1).bind fun t1168 => ((laws_eqMatrixS.f k x12 t1168).bind fun t1171 => (if t1171 = true then ((laws_markMatrixS.f k x12 1).bind fun t1172 => (if t1172 < 0 then (laws_FnExactOrbitIn.j1 k x0 x1 x3 x10 x11 x13 true x1146000 x1146001 x1146002) else ((laws_eqBallS.f k x13 x10).bind fun t1173 => (if t1173 = true then (laws_FnExactOrbitIn.j1 k x0 x1 x3 x10 x11 x13 (x14 != x11) x1146000 x1146001 x1146002) else (laws_FnExactOrbitIn.j1 k x0 x1 x3 x10 x11 x13 true x1146000 x1146001 x1146002))))) else (none))))
def laws_FnExactOrbitIn.j1 : Nat → Int → List (S23) → Int → List (S39) → Int → List (S39) → Bool → Int → Int → Int → Option (Bool)
 | 0, _, _, _, _, _, _, _, _, _, _ => none
 | k + 1, x0, x1, x3, x10, x11, x13, x75, x1146000, x1146001, x1146002 => if x75 = true then (none) else ((laws_markBallS.f k x13 1).bind fun bt1174 => ((laws_heldBallS.f k bt1174.2 1).bind fun t1176 => (if t1176 < 0 then (none) else (if t1176 = bt1174.1 then ((laws_toMatrixS.f k x1).bind fun t1177 => ((laws_toBall.f x1146000 x1146001 x1146002).bind fun bt1180 => ((impl_OrbitIn.f k x0 t1177 bt1180.1 bt1180.2.1 bt1180.2.2 x3).bind fun bt1183 => ((laws_eqBallS.f k bt1183.1 x10).bind fun t1187 => (if t1187 = true then (laws_FnExactOrbitIn.j2 k bt1174.2 bt1174.1 (bt1183.2 != x11)) else (laws_FnExactOrbitIn.j2 k bt1174.2 bt1174.1 true)))))) else (none)))))
def laws_FnExactOrbitIn.j2 : Nat → List (S39) → Int → Bool → Option (Bool)
 | 0, _, _, _ => none
 | k + 1, x13, x16, x105 => if x105 = true then (none) else ((laws_heldBallS.f k x13 1).bind fun t1188 => (if t1188 < 0 then (none) else (if t1188 = x16 then (some true) else (none))))
end
def laws_FnExactOrbitIn.f (k : Nat) (a0 : Int) (l1 : List (S23)) (a2_0 : Int) (a2_1 : Int) (a2_2 : Int) (a3 : Int) : Option (Bool) := (laws_szMatrixS.f l1 1048576).bind fun t1146 => (if t1146 < 0 then (some true) else ((laws_toMatrixS.f k l1).bind fun t1147 => ((laws_toBall.f a2_0 a2_1 a2_2).bind fun bt1150 => ((spec_OrbitIn.f k a0 t1147 bt1150.1 bt1150.2.1 bt1150.2.2 a3).bind fun bt1153 => ((laws_toMatrixS.f k l1).bind fun t1157 => ((laws_toBall.f a2_0 a2_1 a2_2).bind fun bt1160 => ((impl_OrbitIn.f k a0 t1157 bt1160.1 bt1160.2.1 bt1160.2.2 a3).bind fun bt1163 => ((laws_eqBallS.f k bt1163.1 bt1153.1).bind fun t1167 => (if t1167 = true then (laws_FnExactOrbitIn.j0 k a0 l1 a3 bt1153.1 bt1153.2 t1157 bt1163.1 bt1163.2 (bt1163.2 != bt1153.2) a2_0 a2_1 a2_2) else (laws_FnExactOrbitIn.j0 k a0 l1 a3 bt1153.1 bt1153.2 t1157 bt1163.1 bt1163.2 true a2_0 a2_1 a2_2))))))))))
theorem laws_FnExactOrbitIn.mono_l : ∀ k, (∀ y0 y1 y2 y3 y4 y5 y6 y7 y8 y9 y10 y11, LeO (laws_FnExactOrbitIn.j0 k y0 y1 y2 y3 y4 y5 y6 y7 y8 y9 y10 y11) (laws_FnExactOrbitIn.j0 (k + 1) y0 y1 y2 y3 y4 y5 y6 y7 y8 y9 y10 y11)) ∧ (∀ y0 y1 y2 y3 y4 y5 y6 y7 y8 y9, LeO (laws_FnExactOrbitIn.j1 k y0 y1 y2 y3 y4 y5 y6 y7 y8 y9) (laws_FnExactOrbitIn.j1 (k + 1) y0 y1 y2 y3 y4 y5 y6 y7 y8 y9)) ∧ (∀ y0 y1 y2, LeO (laws_FnExactOrbitIn.j2 k y0 y1 y2) (laws_FnExactOrbitIn.j2 (k + 1) y0 y1 y2))
 | 0 => ⟨fun _ _ _ _ _ _ _ _ _ _ _ _ r h => by simp [laws_FnExactOrbitIn.j0] at h, fun _ _ _ _ _ _ _ _ _ _ r h => by simp [laws_FnExactOrbitIn.j1] at h, fun _ _ _ r h => by simp [laws_FnExactOrbitIn.j2] at h⟩
 | k + 1 => by
  obtain ⟨ih0, ih1, ih2⟩ := laws_FnExactOrbitIn.mono_l k
  refine ⟨?_, ?_, ?_⟩
  ·
   intro y0 y1 y2 y3 y4 y5 y6 y7 y8 y9 y10 y11
   unfold laws_FnExactOrbitIn.j0
   repeat' first
   | (with_reducible exact ih0 _ _ _ _ _ _ _ _ _ _ _ _)
   | (with_reducible exact ih1 _ _ _ _ _ _ _ _ _ _)
   | (with_reducible exact ih2 _ _ _)
   | (with_reducible exact impl_OrbitIn.mono _ _ _ _ _ _ _)
   | (with_reducible exact laws_eqBallS.mono _ _ _)
   | (with_reducible exact laws_eqMatrixS.mono _ _ _)
   | (with_reducible exact laws_heldBallS.mono _ _ _)
   | (with_reducible exact laws_markBallS.mono _ _ _)
   | (with_reducible exact laws_markMatrixS.mono _ _ _)
   | (with_reducible exact laws_toMatrixS.mono _ _)
   | (with_reducible exact spec_OrbitIn.mono _ _ _ _ _ _ _)
   | (with_reducible exact LeO.refl _)
   | (with_reducible exact LeO.none _)
   | (with_reducible refine LeO.ite ?_ ?_)
   | (with_reducible refine LeO.bind ?_ (fun _ => ?_))
  ·
   intro y0 y1 y2 y3 y4 y5 y6 y7 y8 y9
   unfold laws_FnExactOrbitIn.j1
   repeat' first
   | (with_reducible exact ih0 _ _ _ _ _ _ _ _ _ _ _ _)
   | (with_reducible exact ih1 _ _ _ _ _ _ _ _ _ _)
   | (with_reducible exact ih2 _ _ _)
   | (with_reducible exact impl_OrbitIn.mono _ _ _ _ _ _ _)
   | (with_reducible exact laws_eqBallS.mono _ _ _)
   | (with_reducible exact laws_eqMatrixS.mono _ _ _)
   | (with_reducible exact laws_heldBallS.mono _ _ _)
   | (with_reducible exact laws_markBallS.mono _ _ _)
   | (with_reducible exact laws_markMatrixS.mono _ _ _)
   | (with_reducible exact laws_toMatrixS.mono _ _)
   | (with_reducible exact spec_OrbitIn.mono _ _ _ _ _ _ _)
   | (with_reducible exact LeO.refl _)
   | (with_reducible exact LeO.none _)
   | (with_reducible refine LeO.ite ?_ ?_)
   | (with_reducible refine LeO.bind ?_ (fun _ => ?_))
  ·
   intro y0 y1 y2
   unfold laws_FnExactOrbitIn.j2
   repeat' first
   | (with_reducible exact ih0 _ _ _ _ _ _ _ _ _ _ _ _)
   | (with_reducible exact ih1 _ _ _ _ _ _ _ _ _ _)
   | (with_reducible exact ih2 _ _ _)
   | (with_reducible exact impl_OrbitIn.mono _ _ _ _ _ _ _)
   | (with_reducible exact laws_eqBallS.mono _ _ _)
   | (with_reducible exact laws_eqMatrixS.mono _ _ _)
   | (with_reducible exact laws_heldBallS.mono _ _ _)
   | (with_reducible exact laws_markBallS.mono _ _ _)
   | (with_reducible exact laws_markMatrixS.mono _ _ _)
   | (with_reducible exact laws_toMatrixS.mono _ _)
   | (with_reducible exact spec_OrbitIn.mono _ _ _ _ _ _ _)
   | (with_reducible exact LeO.refl _)
   | (with_reducible exact LeO.none _)
   | (with_reducible refine LeO.ite ?_ ?_)
   | (with_reducible refine LeO.bind ?_ (fun _ => ?_))
theorem laws_FnExactOrbitIn.mono : ∀ a0 a1 a2 a3 a4 a5 k, LeO (laws_FnExactOrbitIn.f k a0 a1 a2 a3 a4 a5) (laws_FnExactOrbitIn.f (k + 1) a0 a1 a2 a3 a4 a5) := by
 intro a0 a1 a2 a3 a4 a5 k
 obtain ⟨ih0, ih1, ih2⟩ := laws_FnExactOrbitIn.mono_l k
 unfold laws_FnExactOrbitIn.f
 repeat' first
   | (with_reducible exact ih0 _ _ _ _ _ _ _ _ _ _ _ _)
   | (with_reducible exact ih1 _ _ _ _ _ _ _ _ _ _)
   | (with_reducible exact ih2 _ _ _)
   | (with_reducible exact impl_OrbitIn.mono _ _ _ _ _ _ _)
   | (with_reducible exact laws_eqBallS.mono _ _ _)
   | (with_reducible exact laws_eqMatrixS.mono _ _ _)
   | (with_reducible exact laws_heldBallS.mono _ _ _)
   | (with_reducible exact laws_markBallS.mono _ _ _)
   | (with_reducible exact laws_markMatrixS.mono _ _ _)
   | (with_reducible exact laws_toMatrixS.mono _ _)
   | (with_reducible exact spec_OrbitIn.mono _ _ _ _ _ _ _)
   | (with_reducible exact LeO.refl _)
   | (with_reducible exact LeO.none _)
   | (with_reducible refine LeO.ite ?_ ?_)
   | (with_reducible refine LeO.bind ?_ (fun _ => ?_))
def laws_FnExactOrbitIn.T5 : Bool × List (List Nat × List Nat) := (true, [([], []), ([], []), ([1], [1]), ([], []), ([3, 2], [3]), ([], []), ([0, 2, 4, 5, 4], [0, 2, 4, 5]), ([6], [6]), ([7], [7]), ([7], [7]), ([8, 6, 0, 1, 2, 3, 4, 5, 6, 7, 8], [8]), ([9, 10, 0, 1, 2, 3, 4, 5, 6, 7, 8, 9, 10], [9])])
def laws_FnExactOrbitIn.B5 : List Nat := [0, 0, 2, 0, 14, 0, 63, 127, 255, 255, 511, 2047]
theorem laws_FnExactOrbitIn.tab5 : rtab .any (opsOf Try.f8 5) = laws_FnExactOrbitIn.T5 := by kernel_rfl
theorem laws_FnExactOrbitIn.bits5 : waitsOk laws_FnExactOrbitIn.T5.2 laws_FnExactOrbitIn.B5 = true := by kernel_rfl
def laws_FnExactOrbitIn.T24 : Bool × List (List Nat × List Nat) := (true, [([], []), ([], []), ([1], [1]), ([], []), ([3, 2], [3]), ([], []), ([0, 2, 4, 5, 4], [0, 2, 4, 5]), ([6], [6]), ([7], [7]), ([7], [7]), ([8, 6, 0, 1, 2, 3, 4, 5, 6, 7, 8], [8]), ([9, 10, 0, 1, 2, 3, 4, 5, 6, 7, 8, 9, 10], [9])])
def laws_FnExactOrbitIn.B24 : List Nat := [0, 0, 2, 0, 14, 0, 63, 127, 255, 255, 511, 2047]
theorem laws_FnExactOrbitIn.tab24 : rtab .any (opsOf Try.f8 24) = laws_FnExactOrbitIn.T24 := by kernel_rfl
theorem laws_FnExactOrbitIn.bits24 : waitsOk laws_FnExactOrbitIn.T24.2 laws_FnExactOrbitIn.B24 = true := by kernel_rfl
set_option maxHeartbeats 8000000 in
set_option maxRecDepth 100000 in
theorem laws_FnExactOrbitIn.calls (k : Nat) (a0 : Int) (A1 : Option Addr) (c1 : Nat) (l1 : List (S23)) (a2_0 : Int) (a2_1 : Int) (a2_2 : Int) (a3 : Int) (r : Bool) (w : World) (hr1 : Kd.C k23 w A1 l1.length l1) (hc1 : l1.length ≤ c1) (h : laws_FnExactOrbitIn.f k a0 l1 a2_0 a2_1 a2_2 a3 = some r) :
  Calls Try.prog 8 #[.int .i64 a0, .slice A1 l1.length c1, .agg #[.int .i64 a2_0, .int .i64 a2_1, .int .i64 a2_2], .int .i64 a3] w fun e w' => e = .returned (.bool r) ∧ Below w.heap.size w w' := by
 have hu35 := Try.underlying35
 have HR1 := Aside0.mk hr1
 have HC1 := Aside0.mk hc1
 clear hr1 hc1
 have HB := Aside0.mk (Below.refl w.heap.size w)
 have H := h
 unfold laws_FnExactOrbitIn.f at H
 clear h
 replace H := bS H
 obtain ⟨t1146, A5, H⟩ := H
 try dsimp only at H
 by_cases c6 : t1146 < 0
 ·
  rw [if_pos c6] at H
  have c6b0 := decide_eq_true c6
  clear c6
  obtain rfl := Option.some.inj H
  go_enter Try.func8, Try.ntmps8
  go_wp2_with (first | ((with_reducible refine gate_dst (N := 6) rfl ?_); refine box_event ?hg (N := 6) ?hd (cs := #[.int .i64 a2_0, .int .i64 a2_1, .int .i64 a2_2]) (t := 35) ?hr ?_; (case hd => rfl); (case hg => rfl); (case hr => first | (go_simp; done) | (go_simp; rfl)); intro gb1145 hg w7 hbox hb; have n0_ := lB hb; have n1_ := Aside0.mk (hbox); have n2_ := sA hg; have n3_ := sA hg; clear HB; have HB := n0_; have BK1145 := n1_; have GW1145 := n2_; have GE1145 := n3_; clear n0_ n1_ n2_ n3_; clear hb hbox hg) | ((with_reducible refine gate_callee (f := 39) rfl ?_); refine goesL_ (some 22) rfl rfl Try.func39 (by kernel_rfl) rfl #[.slice A1 l1.length c1, .int .i64 1048576] rfl hA ?_; (with_reducible refine (laws_szMatrixS.calls _ _ l1 1048576 t1146 _ ?side1 ?side2 A5.out).mono ?_); (case side1 => repeat (first | exact (Kd.C_below HR1.out HB.out) | (with_reducible refine Kd.C_alloc ?_ _) | (with_reducible refine Kd.C_drewN ?_ _) | (with_reducible refine Kd.C_drew ?_))); (case side2 => exact HC1.out); rintro e w' ⟨rfl, ⟨nd, rfl⟩⟩; refine ⟨_, rfl, ?_⟩))
  go_ret
  exact finA blA
 ·
  rw [if_neg c6] at H
  have c6b0 := decide_eq_false c6
  clear c6
  replace H := bS H
  obtain ⟨t1147, A8, H⟩ := H
  try dsimp only at H
  replace H := bS H
  obtain ⟨⟨t1150, t1151, t1152⟩, A9, H⟩ := H
  try dsimp only at H
  replace H := bS H
  obtain ⟨⟨t1153, t1156⟩, A10, H⟩ := H
  try dsimp only at H
  replace H := bS H
  obtain ⟨t1157, A11, H⟩ := H
  try dsimp only at H
  replace H := bS H
  obtain ⟨⟨t1160, t1161, t1162⟩, A12, H⟩ := H
  try dsimp only at H
  replace H := bS H
  obtain ⟨⟨t1163, t1166⟩, A13, H⟩ := H
  try dsimp only at H
  have HC14 := Aside0.mk H
  clear H
  go_enter Try.func8, Try.ntmps8
  try go_wp2_with (first | ((with_reducible refine gate_dst (N := 6) rfl ?_); refine box_event ?hg (N := 6) ?hd (cs := #[.int .i64 a2_0, .int .i64 a2_1, .int .i64 a2_2]) (t := 35) ?hr ?_; (case hd => rfl); (case hg => rfl); (case hr => first | (go_simp; done) | (go_simp; rfl)); intro gb1145 hg w15 hbox hb; have n0_ := lB hb; have n1_ := Aside0.mk (hbox); have n2_ := sA hg; have n3_ := sA hg; clear HB; have HB := n0_; have BK1145 := n1_; have GW1145 := n2_; have GE1145 := n3_; clear n0_ n1_ n2_ n3_; clear hb hbox hg) | ((with_reducible refine gate_callee (f := 39) rfl ?_); refine goesL_ (some 22) rfl rfl Try.func39 (by kernel_rfl) rfl #[.slice A1 l1.length c1, .int .i64 1048576] rfl hA ?_; (with_reducible refine (laws_szMatrixS.calls _ _ l1 1048576 t1146 _ ?side1 ?side2 A5.out).mono ?_); (case side1 => repeat (first | exact (Kd.C_below HR1.out HB.out) | (with_reducible refine Kd.C_alloc ?_ _) | (with_reducible refine Kd.C_drewN ?_ _) | (with_reducible refine Kd.C_drew ?_))); (case side2 => exact HC1.out); rintro e w' ⟨rfl, ⟨nd, rfl⟩⟩; refine ⟨_, rfl, ?_⟩))
  (try (rw [drewN_self w15]; generalize hq_ : World.drewN w15 _ = w15; have n0_ : Aside0 (w15.heap[gb1145]? = some (.cells #[.int .i64 a2_0, .int .i64 a2_1, .int .i64 a2_2] 35 (0, 0))) := ⟨by rw [← hq_]; exact (bkA BK1145)⟩; have n1_ : Aside0 (Below w.heap.size w w15) := ⟨by rw [← hq_]; exact blA⟩; clear BK1145 HB hq_; have BK1145 := n0_; have HB := n1_; clear n0_ n1_))
  have n0_ := Aside0.mk (blk_drew BK1145.out)
  have n1_ := Aside0.mk (below_drew1 HB.out)
  clear BK1145
  clear HB
  have BK1145 := n0_
  have HB := n1_
  clear n0_ n1_
  refine start_ (n := 12) (S := fun w' => w'.cell? ⟨gb1145, 0, none⟩ = some (.int .i64 a2_0) ∧ w'.cell? ⟨gb1145, 1, none⟩ = some (.int .i64 a2_1) ∧ w'.cell? ⟨gb1145, 2, none⟩ = some (.int .i64 a2_2)) (ds := []) #[Z, Z, Z, Z, Z, Z, Z, Z, Z, Z, Z, Z] (by kernel_rfl) rfl rfl ⟨cA BK1145 0, cA BK1145 1, cA BK1145 2⟩ (fun hHeld => ?_); refine with_tabW laws_FnExactOrbitIn.tab5 laws_FnExactOrbitIn.bits5 (fun HT_ HW_ => ?_)
  generalize w15.drew = w16 at BK1145 HB hHeld ⊢
  refine puA (i := 0) (N := some 26) #[Y, Z, Z, Z, Z, Z, Z, Z, Z, Z, Z, Z] rfl rfl HT_ ?_
  refine puA (i := 1) (N := some 27) #[Y, Y, Z, Z, Z, Z, Z, Z, Z, Z, Z, Z] rfl rfl HT_ ?_
  refine puA (i := 5) (N := some 31) #[Y, Y, Z, Z, Z, Y, Z, Z, Z, Z, Z, Z] rfl rfl HT_ ?_
  refine take_ (i := 3) (N := some 29) (v := ?_) (a' := ?_) #[Y, Y, Z, Y, Z, Y, Z, Z, Z, Z, Z, Z] rfl rfl (take_ofW HT_.out HW_.out (by kernel_rfl)) (fun _ _ _ h => h) (Or.inl ⟨by rfl, ?_⟩) hHeld ?_ ?_
  rotate_left
  ·
   rintro w' ⟨s0, s1, s2⟩
   go_simp
   with_reducible rfl
  rotate_left
  ·
   simp only [pA]
   rfl
  refine one_ (i := 2) (N := some 28) #[Y, Y, Y, Y, Z, Y, Z, Z, Z, Z, Z, Z] rfl rfl (one_of HT_.out (by kernel_rfl)) (by decide) (fun K hK => ?_)
  refine goes_ Try.func41 (by kernel_rfl) rfl #[.slice A1 l1.length c1] (by rfl) rfl rfl hA ?_
  with_reducible refine (laws_toMatrixS.calls k _ _ l1 t1147 _ ?side1 ?side2 A8.out).mono ?_
  (case side1 => repeat (first | exact (Kd.C_below HR1.out HB.out) | (with_reducible refine Kd.C_alloc ?_ _) | (with_reducible refine Kd.C_drewN ?_ _) | (with_reducible refine Kd.C_drew ?_)))
  (case side2 => exact HC1.out)
  rintro e w17 ⟨v1148, rfl, ho0, hb⟩
  refine ⟨_, rfl, ?_⟩
  have HO1149 := Aside0.mk (Kd.R_lower ho0 (below_size blA))
  replace BK1145 := kB BK1145 hb
  replace HB := lB hb
  (try clear hb)
  (try clear hb2)
  (try clear hk)
  (try clear hi)
  (try clear ho0)
  refine hK.out _ _ ⟨cA BK1145 0, cA BK1145 1, cA BK1145 2⟩ (fun hHeld => ?_)
  clear hK K
  refine norm_ (a' := ?_) ?_ ?_
  rotate_left
  ·
   show Act.put _ (some 28) _ = _
   simp only [pA]
   rfl
  refine one_ (i := 4) (N := some 30) #[Y, Y, Y, Y, Y, Y, Z, Z, Z, Z, Z, Z] rfl rfl (one_of HT_.out (by kernel_rfl)) (by decide) (fun K hK => ?_)
  refine goes_ Try.func20 (by kernel_rfl) rfl #[.agg #[.int .i64 a2_0, .int .i64 a2_1, .int .i64 a2_2]] (by rfl) rfl rfl hA ?_
  with_reducible refine (laws_toBall.calls a2_0 a2_1 a2_2 t1150 t1151 t1152 _ A9.out).mono ?_
  rintro e w18 ⟨rfl, hb⟩
  refine ⟨_, rfl, ?_⟩
  replace HO1149 := Aside0.mk (Kd.R_below (rA HO1149) hb)
  replace BK1145 := kB BK1145 hb
  replace HB := lB hb
  (try clear hb)
  (try clear hb2)
  (try clear hk)
  (try clear hi)
  obtain ⟨Ao19, co19, eo19⟩ := Kd.R_slice HO1149.out
  (first | subst eo19 | (injection eo19 with f1_ f2_ f3_; have f4_ := f1_.symm; have f5_ := f3_.symm; clear f1_ f2_ f3_; subst f4_; subst f5_))
  refine hK.out _ _ ⟨cA BK1145 0, cA BK1145 1, cA BK1145 2⟩ (fun hHeld => ?_)
  clear hK K
  refine norm_ (a' := ?_) ?_ ?_
  rotate_left
  ·
   show Act.put _ (some 30) _ = _
   simp only [pA]
   rfl
  refine one_ (i := 6) (N := some 32) #[Y, Y, Y, Y, Y, Y, Y, Z, Z, Z, Z, Z] rfl rfl (one_of HT_.out (by kernel_rfl)) (by decide) (fun K hK => ?_)
  refine goes_ Try.func40 (by kernel_rfl) rfl #[.int .i64 a0, .slice Ao19 t1147.length co19, .agg #[.int .i64 t1150, .int .i64 t1151, .int .i64 t1152], .int .i64 a3] (by rfl) rfl rfl hA ?_
  with_reducible refine (spec_OrbitIn.calls k a0 _ _ t1147 t1150 t1151 t1152 a3 t1153 t1156 _ ?side1 ?side2 A10.out).mono ?_
  (case side1 => repeat (first | exact (Kd.R_reads' HO1149.out).2.2 | (with_reducible refine Kd.C_alloc ?_ _) | (with_reducible refine Kd.C_drewN ?_ _) | (with_reducible refine Kd.C_drew ?_)))
  (case side2 => exact (Kd.R_reads' HO1149.out).2.1)
  rintro e w20 ⟨v1154, rfl, ho0, hb⟩
  refine ⟨_, rfl, ?_⟩
  have HO1155 := Aside0.mk (Kd.R_lower ho0 (below_size blA))
  replace HO1149 := Aside0.mk (Kd.R_below (rA HO1149) hb)
  replace BK1145 := kB BK1145 hb
  replace HB := lB hb
  (try clear hb)
  (try clear hb2)
  (try clear hk)
  (try clear hi)
  (try clear ho0)
  refine hK.out _ _ ⟨cA BK1145 0, cA BK1145 1, cA BK1145 2⟩ (fun hHeld => ?_)
  clear hK K
  refine norm_ (a' := ?_) ?_ ?_
  rotate_left
  ·
   show Act.put _ (some 32) _ = _
   simp only [pA]
   rfl
  refine puA (i := 7) (N := some 25) #[Y, Y, Y, Y, Y, Y, Y, Y, Z, Z, Z, Z] rfl rfl HT_ ?_
  refine puA (i := 8) (N := some 33) #[Y, Y, Y, Y, Y, Y, Y, Y, Y, Z, Z, Z] rfl rfl HT_ ?_
  refine puA (i := 9) (N := some 34) #[Y, Y, Y, Y, Y, Y, Y, Y, Y, Y, Z, Z] rfl rfl HT_ ?_
  refine puA (i := 10) (N := some 10) #[Y, Y, Y, Y, Y, Y, Y, Y, Y, Y, Y, Z] rfl rfl HT_ ?_
  refine puA (i := 11) (N := some 11) #[Y, Y, Y, Y, Y, Y, Y, Y, Y, Y, Y, Y] rfl rfl HT_ ?_
  refine done_ (done_of HT_.out (by kernel_rfl)) ?_
  go_upto_region 8 with (first | ((with_reducible refine gate_callee (f := 41) rfl ?_); refine goesL_ (some 36) rfl rfl Try.func41 (by kernel_rfl) rfl #[.slice A1 l1.length c1] rfl hA ?_; (with_reducible refine (laws_toMatrixS.calls k _ _ l1 t1157 _ ?side1 ?side2 A11.out).mono ?_); (case side1 => repeat (first | exact (Kd.C_below HR1.out HB.out) | (with_reducible refine Kd.C_alloc ?_ _) | (with_reducible refine Kd.C_drewN ?_ _) | (with_reducible refine Kd.C_drew ?_))); (case side2 => exact HC1.out); rintro e w21 ⟨v1158, rfl, ho0, hb⟩; refine ⟨_, rfl, ?_⟩; have n0_ := Aside0.mk (Kd.R_elder' (rA HO1149) (Kd.R_base ho0) hb); have n1_ := Aside0.mk (Kd.R_below (rA HO1155) hb); have n2_ := Aside0.mk (Kd.R_lower (Kd.R_new' ho0 (Kd.R_lt (rA HO1149))) (below_size blA)); have n3_ := kB BK1145 hb; have n4_ := lB hb; clear HO1149; clear HO1155; clear BK1145; clear HB; have HO1149 := n0_; have HO1155 := n1_; have HO1159 := n2_; have BK1145 := n3_; have HB := n4_; clear n0_ n1_ n2_ n3_ n4_; (try clear hb); (try clear hb2); (try clear hk); (try clear hi); (try clear ho0); obtain ⟨hcz22_0, hcz22_1, hcz22_2, hfz22_0, hfz22_1, hfz22_2⟩ := cz3 BK1145) | ((with_reducible refine gate_callee (f := 20) rfl ?_); refine goesL_ (some 41) rfl rfl Try.func20 (by kernel_rfl) rfl #[.agg #[.int .i64 a2_0, .int .i64 a2_1, .int .i64 a2_2]] rfl hA ?_; (with_reducible refine (laws_toBall.calls a2_0 a2_1 a2_2 t1160 t1161 t1162 _ A12.out).mono ?_); rintro e w23 ⟨rfl, hb⟩; refine ⟨_, rfl, ?_⟩; have n0_ := Aside0.mk (Kd.R_below (rA HO1149) hb); have n1_ := Aside0.mk (Kd.R_below (rA HO1155) hb); have n2_ := Aside0.mk (Kd.R_below (rA HO1159) hb); have n3_ := kB BK1145 hb; have n4_ := lB hb; clear HO1149; clear HO1155; clear HO1159; clear BK1145; clear HB; have HO1149 := n0_; have HO1155 := n1_; have HO1159 := n2_; have BK1145 := n3_; have HB := n4_; clear n0_ n1_ n2_ n3_ n4_; (try clear hb); (try clear hb2); (try clear hk); (try clear hi); obtain ⟨Ao24, co24, eo24⟩ := Kd.R_slice HO1159.out; subst eo24) | ((with_reducible refine gate_callee (f := 42) rfl ?_); refine goesL_ (some 43) rfl rfl Try.func42 (by kernel_rfl) rfl #[.int .i64 a0, .slice Ao24 t1157.length co24, .agg #[.int .i64 t1160, .int .i64 t1161, .int .i64 t1162], .int .i64 a3] rfl hA ?_; (with_reducible refine (impl_OrbitIn.calls k a0 _ _ t1157 t1160 t1161 t1162 a3 t1163 t1166 _ ?side1 ?side2 A13.out).mono ?_); (case side1 => repeat (first | exact (Kd.R_reads' HO1159.out).2.2 | (with_reducible refine Kd.C_alloc ?_ _) | (with_reducible refine Kd.C_drewN ?_ _) | (with_reducible refine Kd.C_drew ?_))); (case side2 => exact (Kd.R_reads' HO1159.out).2.1); rintro e w25 ⟨v1164, rfl, ho0, hb⟩; refine ⟨_, rfl, ?_⟩; have n0_ := Aside0.mk (Kd.R_below (rA HO1149) hb); have n1_ := Aside0.mk (Kd.R_elder' (rA HO1155) (Kd.R_base ho0) hb); have n2_ := Aside0.mk (Kd.R_below (rA HO1159) hb); have n3_ := Aside0.mk (Kd.R_lower (Kd.R_new' ho0 (Kd.R_lt (rA HO1155))) (below_size blA)); have n4_ := kB BK1145 hb; have n5_ := lB hb; clear HO1149; clear HO1155; clear HO1159; clear BK1145; clear HB; have HO1149 := n0_; have HO1155 := n1_; have HO1159 := n2_; have HO1165 := n3_; have BK1145 := n4_; have HB := n5_; clear n0_ n1_ n2_ n3_ n4_ n5_; (try clear hb); (try clear hb2); (try clear hk); (try clear hi); (try clear ho0)))
  (try simp only [Act.put, List.setIfInBounds_toArray, List.set_cons_zero, List.set_cons_succ])
  go_cut [54] (fun v54 wc => ∃ (kq : Nat) (x54_13 : Bool), v54 = .bool x54_13 ∧ Aside0 (laws_FnExactOrbitIn.j0 kq a0 l1 a3 t1153 t1156 t1157 t1163 t1166 x54_13 a2_0 a2_1 a2_2 = some r) ∧ Aside0 (kq ≤ k) ∧ Aside0 (Kd.R k39 39 wc w.heap.size (fun k_ => some k_ ≠ (v1164 : Value).ownBlock) v1154 t1153) ∧ Aside0 (Kd.R k26 26 wc w.heap.size (fun _ => True) (.slice Ao24 t1157.length co24) t1157) ∧ Aside0 (Kd.R k39 39 wc w.heap.size (fun k_ => some k_ ≠ (v1154 : Value).ownBlock) v1164 t1163) ∧ Aside0 (wc.heap[gb1145]? = some (.cells #[.int .i64 a2_0, .int .i64 a2_1, .int .i64 a2_2] 35 (0, 0))) ∧ Aside0 (Below w.heap.size w wc))
  case first =>
   have H := HC14.out
   clear HC14
   replace H := bS H
   obtain ⟨t1167, A26, H⟩ := H
   try dsimp only at H
   by_cases c27 : t1167 = true
   ·
    subst c27
    rw [if_pos rfl] at H
    try dsimp only at H
    have H' := Aside0.mk H
    clear H
    obtain ⟨Ao28, co28, eo28⟩ := Kd.R_slice HO1165.out
    subst eo28
    obtain ⟨Ao29, co29, eo29⟩ := Kd.R_slice HO1155.out
    subst eo29
    go_wp2_with (first | ((with_reducible refine gate_callee (f := 22) rfl ?_); refine goesL_ (some 48) rfl rfl Try.func22 (by kernel_rfl) rfl #[.slice Ao28 t1163.length co28, .slice Ao29 t1153.length co29] rfl hA ?_; (with_reducible refine (laws_eqBallS.calls k _ _ t1163 _ _ t1153 true _ ?side1 ?side2 ?side3 ?side4 A26.out).mono ?_); (case side1 => repeat (first | exact (Kd.R_reads' HO1165.out).2.2 | (with_reducible refine Kd.C_alloc ?_ _) | (with_reducible refine Kd.C_drewN ?_ _) | (with_reducible refine Kd.C_drew ?_))); (case side2 => exact (Kd.R_reads' HO1165.out).2.1); (case side3 => repeat (first | exact (Kd.R_reads' HO1155.out).2.2 | (with_reducible refine Kd.C_alloc ?_ _) | (with_reducible refine Kd.C_drewN ?_ _) | (with_reducible refine Kd.C_drew ?_))); (case side4 => exact (Kd.R_reads' HO1155.out).2.1); rintro e w30 ⟨rfl, hb⟩; refine ⟨_, rfl, ?_⟩; have n0_ := Aside0.mk (Kd.R_below (rA HO1149) hb); have n1_ := Aside0.mk (Kd.R_below (rA HO1155) hb); have n2_ := Aside0.mk (Kd.R_below (rA HO1159) hb); have n3_ := Aside0.mk (Kd.R_below (rA HO1165) hb); have n4_ := kB BK1145 hb; have n5_ := lB hb; clear HO1149; clear HO1155; clear HO1159; clear HO1165; clear BK1145; clear HB; have HO1149 := n0_; have HO1155 := n1_; have HO1159 := n2_; have HO1165 := n3_; have BK1145 := n4_; have HB := n5_; clear n0_ n1_ n2_ n3_ n4_ n5_; (try clear hb); (try clear hb2); (try clear hk); (try clear hi)))
    go_meet
    case rel => exact ⟨_, ((t1166 != t1156)), hB, H', ⟨by first | omega | exact Nat.le_refl _⟩, ⟨by (with_reducible repeat (first | apply Kd.R_alloc | apply Kd.R_drewN | apply Kd.R_drew)); exact Kd.R_mono HO1155.out (fun _ hk => hk.2)⟩, ⟨by (with_reducible repeat (first | apply Kd.R_alloc | apply Kd.R_drewN | apply Kd.R_drew)); exact Kd.R_mono HO1159.out (fun _ hk => trivial)⟩, ⟨by (with_reducible repeat (first | apply Kd.R_alloc | apply Kd.R_drewN | apply Kd.R_drew)); exact Kd.R_mono HO1165.out (fun _ hk => hk.2)⟩, ⟨bkA BK1145⟩, ⟨blA⟩⟩
   ·
    replace c27 := Bool.eq_false_iff.mpr c27
    subst c27
    rw [if_neg (show ¬ (false = true) by decide)] at H
    try dsimp only at H
    have H' := Aside0.mk H
    clear H
    obtain ⟨Ao31, co31, eo31⟩ := Kd.R_slice HO1165.out
    subst eo31
    obtain ⟨Ao32, co32, eo32⟩ := Kd.R_slice HO1155.out
    subst eo32
    go_wp2_with (first | ((with_reducible refine gate_callee (f := 22) rfl ?_); refine goesL_ (some 48) rfl rfl Try.func22 (by kernel_rfl) rfl #[.slice Ao31 t1163.length co31, .slice Ao32 t1153.length co32] rfl hA ?_; (with_reducible refine (laws_eqBallS.calls k _ _ t1163 _ _ t1153 false _ ?side1 ?side2 ?side3 ?side4 A26.out).mono ?_); (case side1 => repeat (first | exact (Kd.R_reads' HO1165.out).2.2 | (with_reducible refine Kd.C_alloc ?_ _) | (with_reducible refine Kd.C_drewN ?_ _) | (with_reducible refine Kd.C_drew ?_))); (case side2 => exact (Kd.R_reads' HO1165.out).2.1); (case side3 => repeat (first | exact (Kd.R_reads' HO1155.out).2.2 | (with_reducible refine Kd.C_alloc ?_ _) | (with_reducible refine Kd.C_drewN ?_ _) | (with_reducible refine Kd.C_drew ?_))); (case side4 => exact (Kd.R_reads' HO1155.out).2.1); rintro e w33 ⟨rfl, hb⟩; refine ⟨_, rfl, ?_⟩; have n0_ := Aside0.mk (Kd.R_below (rA HO1149) hb); have n1_ := Aside0.mk (Kd.R_below (rA HO1155) hb); have n2_ := Aside0.mk (Kd.R_below (rA HO1159) hb); have n3_ := Aside0.mk (Kd.R_below (rA HO1165) hb); have n4_ := kB BK1145 hb; have n5_ := lB hb; clear HO1149; clear HO1155; clear HO1159; clear HO1165; clear BK1145; clear HB; have HO1149 := n0_; have HO1155 := n1_; have HO1159 := n2_; have HO1165 := n3_; have BK1145 := n4_; have HB := n5_; clear n0_ n1_ n2_ n3_ n4_ n5_; (try clear hb); (try clear hb2); (try clear hk); (try clear hi)))
    go_meet
    case rel => exact ⟨_, (true), hB, H', ⟨by first | omega | exact Nat.le_refl _⟩, ⟨by (with_reducible repeat (first | apply Kd.R_alloc | apply Kd.R_drewN | apply Kd.R_drew)); exact Kd.R_mono HO1155.out (fun _ hk => hk.2)⟩, ⟨by (with_reducible repeat (first | apply Kd.R_alloc | apply Kd.R_drewN | apply Kd.R_drew)); exact Kd.R_mono HO1159.out (fun _ hk => trivial)⟩, ⟨by (with_reducible repeat (first | apply Kd.R_alloc | apply Kd.R_drewN | apply Kd.R_drew)); exact Kd.R_mono HO1165.out (fun _ hk => hk.2)⟩, ⟨bkA BK1145⟩, ⟨blA⟩⟩
  case rest =>
   clear HC14
   try clear c1
   try clear c6
   try clear c6b0
   try clear c27
   try clear hcz22_0
   try clear hcz22_1
   try clear hcz22_2
   try clear hfz22_0
   try clear hfz22_1
   try clear hfz22_2
   obtain ⟨kq, x54_13, rfl, HA, HJ13, HO_10, HO_12, HO_13, BK1145, HB⟩ := hcut
   cases kq with
   | zero => exact absurd HA.out (by simp [laws_FnExactOrbitIn.j0])
   | succ kj13 =>
    have H := HA.out
    clear HA
    simp only [laws_FnExactOrbitIn.j0] at H
    by_cases c34 : x54_13 = true
    ·
     subst c34
     rw [if_pos rfl] at H
     try dsimp only at H
     exact absurd H (by simp)
    ·
     replace c34 := Bool.eq_false_iff.mpr c34
     subst c34
     rw [if_neg (show ¬ (false = true) by decide)] at H
     try dsimp only at H
     replace H := bS H
     obtain ⟨t1168, A35, H⟩ := H
     try dsimp only at H
     replace H := bS H
     obtain ⟨t1171, A36, H⟩ := H
     try dsimp only at H
     by_cases c37 : t1171 = true
     ·
      subst c37
      rw [if_pos rfl] at H
      try dsimp only at H
      replace H := bS H
      obtain ⟨t1172, A38, H⟩ := H
      try dsimp only at H
      have HC39 := Aside0.mk H
      clear H
      go_upto_region 14 with (first | ((with_reducible refine gate_callee (f := 41) rfl ?_); refine goesL_ (some 57) rfl rfl Try.func41 (by kernel_rfl) rfl #[.slice A1 l1.length c1] rfl hA ?_; (with_reducible refine (laws_toMatrixS.calls kj13 _ _ l1 t1168 _ ?side1 ?side2 A35.out).mono ?_); (case side1 => repeat (first | exact (Kd.C_below HR1.out HB.out) | (with_reducible refine Kd.C_alloc ?_ _) | (with_reducible refine Kd.C_drewN ?_ _) | (with_reducible refine Kd.C_drew ?_))); (case side2 => exact HC1.out); rintro e w40 ⟨v1169, rfl, ho0, hb⟩; refine ⟨_, rfl, ?_⟩; have n0_ := Aside0.mk (Kd.R_below (rA HO_10) hb); have n1_ := Aside0.mk (Kd.R_elder' (rA HO_12) (Kd.R_base ho0) hb); have n2_ := Aside0.mk (Kd.R_below (rA HO_13) hb); have n3_ := Aside0.mk (Kd.R_lower (Kd.R_new' ho0 (Kd.R_lt (rA HO_12))) (below_size blA)); have n4_ := kB BK1145 hb; have n5_ := lB hb; clear HO_10; clear HO_12; clear HO_13; clear BK1145; clear HB; have HO_10 := n0_; have HO_12 := n1_; have HO_13 := n2_; have HO1170 := n3_; have BK1145 := n4_; have HB := n5_; clear n0_ n1_ n2_ n3_ n4_ n5_; (try clear hb); (try clear hb2); (try clear hk); (try clear hi); (try clear ho0); obtain ⟨Ao41, co41, eo41⟩ := Kd.R_slice HO1170.out; subst eo41) | ((with_reducible refine gate_callee (f := 43) rfl ?_); refine goesL_ (some 58) rfl rfl Try.func43 (by kernel_rfl) rfl #[.slice Ao24 t1157.length co24, .slice Ao41 t1168.length co41] rfl hA ?_; (with_reducible refine (laws_eqMatrixS.calls kj13 _ _ t1157 _ _ t1168 true _ ?side1 ?side2 ?side3 ?side4 A36.out).mono ?_); (case side1 => repeat (first | exact (Kd.R_reads' HO_12.out).2.2 | (with_reducible refine Kd.C_alloc ?_ _) | (with_reducible refine Kd.C_drewN ?_ _) | (with_reducible refine Kd.C_drew ?_))); (case side2 => exact (Kd.R_reads' HO_12.out).2.1); (case side3 => repeat (first | exact (Kd.R_reads' HO1170.out).2.2 | (with_reducible refine Kd.C_alloc ?_ _) | (with_reducible refine Kd.C_drewN ?_ _) | (with_reducible refine Kd.C_drew ?_))); (case side4 => exact (Kd.R_reads' HO1170.out).2.1); rintro e w42 ⟨rfl, hb⟩; refine ⟨_, rfl, ?_⟩; have n0_ := Aside0.mk (Kd.R_below (rA HO_10) hb); have n1_ := Aside0.mk (Kd.R_below (rA HO_12) hb); have n2_ := Aside0.mk (Kd.R_below (rA HO_13) hb); have n3_ := Aside0.mk (Kd.R_below (rA HO1170) hb); have n4_ := kB BK1145 hb; have n5_ := lB hb; clear HO_10; clear HO_12; clear HO_13; clear HO1170; clear BK1145; clear HB; have HO_10 := n0_; have HO_12 := n1_; have HO_13 := n2_; have HO1170 := n3_; have BK1145 := n4_; have HB := n5_; clear n0_ n1_ n2_ n3_ n4_ n5_; (try clear hb); (try clear hb2); (try clear hk); (try clear hi)) | ((with_reducible refine gate_callee (f := 44) rfl ?_); refine goesL_ (some 62) rfl rfl Try.func44 (by kernel_rfl) rfl #[.slice Ao24 t1157.length co24, .int .i64 1] rfl hA ?_; (with_reducible refine (laws_markMatrixS.calls kj13 _ _ t1157 1 t1172 _ ?side1 ?side2 A38.out).mono ?_); (case side1 => repeat (first | exact (Kd.R_reads' HO_12.out).2.2 | (with_reducible refine Kd.C_alloc ?_ _) | (with_reducible refine Kd.C_drewN ?_ _) | (with_reducible refine Kd.C_drew ?_))); (case side2 => exact (Kd.R_reads' HO_12.out).2.1); rintro e w' ⟨rfl, ⟨nd, rfl⟩⟩; refine ⟨_, rfl, ?_⟩))
      (try simp only [Act.put, List.setIfInBounds_toArray, List.set_cons_zero, List.set_cons_succ])
      go_cut [75] (fun v75 wc => ∃ (kq : Nat) (x75_38 : Bool), v75 = .bool x75_38 ∧ Aside0 (laws_FnExactOrbitIn.j1 kq a0 l1 a3 t1153 t1156 t1163 x75_38 a2_0 a2_1 a2_2 = some r) ∧ Aside0 (kq ≤ kj13) ∧ Aside0 (Kd.R k39 39 wc w.heap.size (fun k_ => some k_ ≠ (v1164 : Value).ownBlock) v1154 t1153) ∧ Aside0 (Kd.R k39 39 wc w.heap.size (fun k_ => some k_ ≠ (v1154 : Value).ownBlock) v1164 t1163) ∧ Aside0 (wc.heap[gb1145]? = some (.cells #[.int .i64 a2_0, .int .i64 a2_1, .int .i64 a2_2] 35 (0, 0))) ∧ Aside0 (Below w.heap.size w wc))
      case first =>
       have H := HC39.out
       clear HC39
       by_cases c43 : t1172 < 0
       ·
        rw [if_pos c43] at H
        have c43b0 := decide_eq_true c43
        clear c43
        (first | rw [c43b0] | (simp only [i64_w, i32_w]; rw [c43b0]) | skip)
        have H' := Aside0.mk H
        clear H
        go_wp2
        go_meet
        case rel => exact ⟨_, (true), hB, H', ⟨by have := HJ13.out; first | omega | exact Nat.le_refl _⟩, ⟨rA HO_10⟩, ⟨rA HO_13⟩, ⟨bkA BK1145⟩, ⟨blA⟩⟩
       ·
        rw [if_neg c43] at H
        have c43b0 := decide_eq_false c43
        clear c43
        (first | rw [c43b0] | (simp only [i64_w, i32_w]; rw [c43b0]) | skip)
        replace H := bS H
        obtain ⟨t1173, A44, H⟩ := H
        try dsimp only at H
        by_cases c45 : t1173 = true
        ·
         subst c45
         rw [if_pos rfl] at H
         try dsimp only at H
         have H' := Aside0.mk H
         clear H
         obtain ⟨Ao46, co46, eo46⟩ := Kd.R_slice HO_13.out
         subst eo46
         obtain ⟨Ao47, co47, eo47⟩ := Kd.R_slice HO_10.out
         subst eo47
         go_wp2_with (first | (go_at_call 22; (with_reducible refine (laws_eqBallS.calls kj13 _ _ t1163 _ _ t1153 true _ ?side1 ?side2 ?side3 ?side4 A44.out).mono ?_); (case side1 => repeat (first | exact (Kd.R_reads' HO_13.out).2.2 | (with_reducible refine Kd.C_alloc ?_ _) | (with_reducible refine Kd.C_drewN ?_ _) | (with_reducible refine Kd.C_drew ?_))); (case side2 => exact (Kd.R_reads' HO_13.out).2.1); (case side3 => repeat (first | exact (Kd.R_reads' HO_10.out).2.2 | (with_reducible refine Kd.C_alloc ?_ _) | (with_reducible refine Kd.C_drewN ?_ _) | (with_reducible refine Kd.C_drew ?_))); (case side4 => exact (Kd.R_reads' HO_10.out).2.1); rintro e w48 ⟨rfl, hb⟩; have n0_ := Aside0.mk (Kd.R_below (rA HO_10) hb); have n1_ := Aside0.mk (Kd.R_below (rA HO_12) hb); have n2_ := Aside0.mk (Kd.R_below (rA HO_13) hb); have n3_ := Aside0.mk (Kd.R_below (rA HO1170) hb); have n4_ := kB BK1145 hb; have n5_ := lB hb; clear HO_10; clear HO_12; clear HO_13; clear HO1170; clear BK1145; clear HB; have HO_10 := n0_; have HO_12 := n1_; have HO_13 := n2_; have HO1170 := n3_; have BK1145 := n4_; have HB := n5_; clear n0_ n1_ n2_ n3_ n4_ n5_; (try clear hb); (try clear hb2); (try clear hk); (try clear hi)))
         go_meet
         case rel => exact ⟨_, ((t1166 != t1156)), hB, H', ⟨by have := HJ13.out; first | omega | exact Nat.le_refl _⟩, ⟨rA HO_10⟩, ⟨rA HO_13⟩, ⟨bkA BK1145⟩, ⟨blA⟩⟩
        ·
         replace c45 := Bool.eq_false_iff.mpr c45
         subst c45
         rw [if_neg (show ¬ (false = true) by decide)] at H
         try dsimp only at H
         have H' := Aside0.mk H
         clear H
         obtain ⟨Ao49, co49, eo49⟩ := Kd.R_slice HO_13.out
         subst eo49
         obtain ⟨Ao50, co50, eo50⟩ := Kd.R_slice HO_10.out
         subst eo50
         go_wp2_with (first | (go_at_call 22; (with_reducible refine (laws_eqBallS.calls kj13 _ _ t1163 _ _ t1153 false _ ?side1 ?side2 ?side3 ?side4 A44.out).mono ?_); (case side1 => repeat (first | exact (Kd.R_reads' HO_13.out).2.2 | (with_reducible refine Kd.C_alloc ?_ _) | (with_reducible refine Kd.C_drewN ?_ _) | (with_reducible refine Kd.C_drew ?_))); (case side2 => exact (Kd.R_reads' HO_13.out).2.1); (case side3 => repeat (first | exact (Kd.R_reads' HO_10.out).2.2 | (with_reducible refine Kd.C_alloc ?_ _) | (with_reducible refine Kd.C_drewN ?_ _) | (with_reducible refine Kd.C_drew ?_))); (case side4 => exact (Kd.R_reads' HO_10.out).2.1); rintro e w51 ⟨rfl, hb⟩; have n0_ := Aside0.mk (Kd.R_below (rA HO_10) hb); have n1_ := Aside0.mk (Kd.R_below (rA HO_12) hb); have n2_ := Aside0.mk (Kd.R_below (rA HO_13) hb); have n3_ := Aside0.mk (Kd.R_below (rA HO1170) hb); have n4_ := kB BK1145 hb; have n5_ := lB hb; clear HO_10; clear HO_12; clear HO_13; clear HO1170; clear BK1145; clear HB; have HO_10 := n0_; have HO_12 := n1_; have HO_13 := n2_; have HO1170 := n3_; have BK1145 := n4_; have HB := n5_; clear n0_ n1_ n2_ n3_ n4_ n5_; (try clear hb); (try clear hb2); (try clear hk); (try clear hi)))
         go_meet
         case rel => exact ⟨_, (true), hB, H', ⟨by have := HJ13.out; first | omega | exact Nat.le_refl _⟩, ⟨rA HO_10⟩, ⟨rA HO_13⟩, ⟨bkA BK1145⟩, ⟨blA⟩⟩
      case rest =>
       clear HC39
       try clear c1
       try clear c6
       try clear c6b0
       try clear c27
       try clear c34
       try clear c37
       try clear c43
       try clear c43b0
       try clear c45
       try clear hcz22_0
       try clear hcz22_1
       try clear hcz22_2
       try clear hfz22_0
       try clear hfz22_1
       try clear hfz22_2
       obtain ⟨kq, x75_38, rfl, HA, HJ38, HO_10, HO_13, BK1145, HB⟩ := hcut
       cases kq with
       | zero => exact absurd HA.out (by simp [laws_FnExactOrbitIn.j1])
       | succ kj38 =>
        have H := HA.out
        clear HA
        simp only [laws_FnExactOrbitIn.j1] at H
        by_cases c52 : x75_38 = true
        ·
         subst c52
         rw [if_pos rfl] at H
         try dsimp only at H
         exact absurd H (by simp)
        ·
         replace c52 := Bool.eq_false_iff.mpr c52
         subst c52
         rw [if_neg (show ¬ (false = true) by decide)] at H
         try dsimp only at H
         replace H := bS H
         obtain ⟨⟨t1174, t1175⟩, A53, H⟩ := H
         try dsimp only at H
         replace H := bS H
         obtain ⟨t1176, A54, H⟩ := H
         try dsimp only at H
         by_cases c55 : t1176 < 0
         ·
          rw [if_pos c55] at H
          exact absurd H (by simp)
         ·
          rw [if_neg c55] at H
          have c55b0 := decide_eq_false c55
          clear c55
          by_cases c56 : t1176 = t1174
          ·
           rw [if_pos c56] at H
           have c56b0 : (t1176 == t1174) = true := beq_iff_eq.mpr c56
           have c56b1 : (t1176 != t1174) = false := bne_eq_false_iff_eq.mpr c56
           clear c56
           replace H := bS H
           obtain ⟨t1177, A57, H⟩ := H
           try dsimp only at H
           replace H := bS H
           obtain ⟨⟨t1180, t1181, t1182⟩, A58, H⟩ := H
           try dsimp only at H
           replace H := bS H
           obtain ⟨⟨t1183, t1186⟩, A59, H⟩ := H
           try dsimp only at H
           have HC60 := Aside0.mk H
           clear H
           obtain ⟨Ao61, co61, eo61⟩ := Kd.R_slice HO_13.out
           subst eo61
           try go_wp2_with (first | ((with_reducible refine gate_callee (f := 23) rfl ?_); refine goesL_ (some 78) rfl rfl Try.func23 (by kernel_rfl) rfl #[.slice Ao61 t1163.length co61, .int .i64 1] rfl hA ?_; (with_reducible refine (laws_markBallS.calls kj38 (fun k_ => some k_ = (.slice Ao61 t1163.length co61 : Value).ownBlock) (.slice Ao61 t1163.length co61) t1163 1 t1174 t1175 w _ ?side1 ?side2 A53.out).mono ?_); (case side1 => repeat (first | (with_reducible first | exact HB.out | apply below_alloc | apply pw_below_drewN | apply below_drew1 | refine below_set ?_ GE1145.out) | exact HB.out)); (case side2 => exact Kd.R_tight rfl HO_13.out); rintro e w62 ⟨rfl, hy0, hb, hkp⟩; refine ⟨_, rfl, ?_⟩; have n0_ := Aside0.mk (Kd.R_mono (ok' := fun k_ => some k_ ≠ (.slice Ao61 t1163.length co61 : Value).ownBlock) (Kd.R_keptB (HO_10.out) hkp (fun k_ hk_ hs_ => (hk_) hs_)) (fun k_ hk_ => hk_.1)); have n1_ := Aside0.mk (Kd.R_reok rfl hy0 (fun k_ e_ => HO_13.out.1 k_ e_)); have n2_ := Aside0.mk (blk_kept (bkA BK1145) hkp (fun hs_ => (fun e_ => (Kd.R_ne HO_13.out BK1145.out (by decide)) e_) hs_)); have n3_ := Aside0.mk (hb); clear HO_10; clear HO_13; clear BK1145; clear HB; have HO_10 := n0_; have HO_13 := n1_; have BK1145 := n2_; have HB := n3_; clear n0_ n1_ n2_ n3_; (try clear hb); (try clear hkp); (try clear hy0)) | ((with_reducible refine gate_callee (f := 24) rfl ?_); refine goesL_ (some 81) rfl rfl Try.func24 (by kernel_rfl) rfl #[.slice Ao61 t1175.length co61, .int .i64 1] rfl (by (try simp only [List.map_toArray, List.map_cons, List.map_nil]); first | done | (rw [show t1175.length = t1163.length from (Kd.R_reads' HO_13.out).1.symm] <;> rfl) | rfl | (simp only [List.length_drop, List.length_take]; rfl)) ?_; (with_reducible refine (laws_heldBallS.calls kj38 _ _ t1175 1 t1176 _ ?side1 ?side2 A54.out).mono ?_); (case side1 => repeat (first | exact (Kd.R_reads' HO_13.out).2.2 | (with_reducible refine Kd.C_alloc ?_ _) | (with_reducible refine Kd.C_drewN ?_ _) | (with_reducible refine Kd.C_drew ?_))); (case side2 => rw [show t1175.length = t1163.length from (Kd.R_reads' HO_13.out).1.symm]; exact (Kd.R_reads' HO_13.out).2.1); rintro e w' ⟨rfl, ⟨nd, rfl⟩⟩; refine ⟨_, rfl, ?_⟩))
           (try (rw [drewN_self w62]; generalize hq_ : World.drewN w62 _ = w62; have n0_ : Aside0 (Kd.R k39 39 w62 w.heap.size (fun k_ => some k_ ≠ (.slice Ao61 t1163.length co61 : Value).ownBlock) v1154 t1153) := ⟨by rw [← hq_]; exact (rA HO_10)⟩; have n1_ : Aside0 (Kd.R k39 39 w62 w.heap.size (fun k_ => some k_ ≠ (v1154 : Value).ownBlock) (.slice Ao61 t1163.length co61) t1175) := ⟨by rw [← hq_]; exact (rA HO_13)⟩; have n2_ : Aside0 (w62.heap[gb1145]? = some (.cells #[.int .i64 a2_0, .int .i64 a2_1, .int .i64 a2_2] 35 (0, 0))) := ⟨by rw [← hq_]; exact (bkA BK1145)⟩; have n3_ : Aside0 (Below w.heap.size w w62) := ⟨by rw [← hq_]; exact blA⟩; clear HO_10 HO_13 BK1145 HB hq_; have HO_10 := n0_; have HO_13 := n1_; have BK1145 := n2_; have HB := n3_; clear n0_ n1_ n2_ n3_))
           have n0_ := Aside0.mk (Kd.R_drew HO_10.out)
           have n1_ := Aside0.mk (Kd.R_drew HO_13.out)
           have n2_ := Aside0.mk (blk_drew BK1145.out)
           have n3_ := Aside0.mk (below_drew1 HB.out)
           clear HO_10
           clear HO_13
           clear BK1145
           clear HB
           have HO_10 := n0_
           have HO_13 := n1_
           have BK1145 := n2_
           have HB := n3_
           clear n0_ n1_ n2_ n3_
           refine start_ (n := 12) (S := fun w' => w'.cell? ⟨gb1145, 0, none⟩ = some (.int .i64 a2_0) ∧ w'.cell? ⟨gb1145, 1, none⟩ = some (.int .i64 a2_1) ∧ w'.cell? ⟨gb1145, 2, none⟩ = some (.int .i64 a2_2)) (ds := []) #[Z, Z, Z, Z, Z, Z, Z, Z, Z, Z, Z, Z] (by kernel_rfl) rfl rfl ⟨cA BK1145 0, cA BK1145 1, cA BK1145 2⟩ (fun hHeld => ?_); refine with_tabW laws_FnExactOrbitIn.tab24 laws_FnExactOrbitIn.bits24 (fun HT_ HW_ => ?_)
           generalize w62.drew = w63 at HO_10 HO_13 BK1145 HB hHeld ⊢
           refine puA (i := 0) (N := some 88) #[Y, Z, Z, Z, Z, Z, Z, Z, Z, Z, Z, Z] rfl rfl HT_ ?_
           refine puA (i := 1) (N := some 89) #[Y, Y, Z, Z, Z, Z, Z, Z, Z, Z, Z, Z] rfl rfl HT_ ?_
           refine puA (i := 5) (N := some 93) #[Y, Y, Z, Z, Z, Y, Z, Z, Z, Z, Z, Z] rfl rfl HT_ ?_
           refine take_ (i := 3) (N := some 91) (v := ?_) (a' := ?_) #[Y, Y, Z, Y, Z, Y, Z, Z, Z, Z, Z, Z] rfl rfl (take_ofW HT_.out HW_.out (by kernel_rfl)) (fun _ _ _ h => h) (Or.inl ⟨by rfl, ?_⟩) hHeld ?_ ?_
           rotate_left
           ·
            rintro w' ⟨s0, s1, s2⟩
            go_simp
            with_reducible rfl
           rotate_left
           ·
            simp only [pA]
            rfl
           refine one_ (i := 2) (N := some 90) #[Y, Y, Y, Y, Z, Y, Z, Z, Z, Z, Z, Z] rfl rfl (one_of HT_.out (by kernel_rfl)) (by decide) (fun K hK => ?_)
           refine goes_ Try.func41 (by kernel_rfl) rfl #[.slice A1 l1.length c1] (by rfl) rfl rfl hA ?_
           with_reducible refine (laws_toMatrixS.calls kj38 _ _ l1 t1177 _ ?side1 ?side2 A57.out).mono ?_
           (case side1 => repeat (first | exact (Kd.C_below HR1.out HB.out) | (with_reducible refine Kd.C_alloc ?_ _) | (with_reducible refine Kd.C_drewN ?_ _) | (with_reducible refine Kd.C_drew ?_)))
           (case side2 => exact HC1.out)
           rintro e w64 ⟨v1178, rfl, ho0, hb⟩
           refine ⟨_, rfl, ?_⟩
           have HO1179 := Aside0.mk (Kd.R_lower ho0 (below_size blA))
           replace HO_10 := Aside0.mk (Kd.R_below (rA HO_10) hb)
           replace HO_13 := Aside0.mk (Kd.R_below (rA HO_13) hb)
           replace BK1145 := kB BK1145 hb
           replace HB := lB hb
           (try clear hb)
           (try clear hb2)
           (try clear hk)
           (try clear hi)
           (try clear ho0)
           refine hK.out _ _ ⟨cA BK1145 0, cA BK1145 1, cA BK1145 2⟩ (fun hHeld => ?_)
           clear hK K
           refine norm_ (a' := ?_) ?_ ?_
           rotate_left
           ·
            show Act.put _ (some 90) _ = _
            simp only [pA]
            rfl
           refine one_ (i := 4) (N := some 92) #[Y, Y, Y, Y, Y, Y, Z, Z, Z, Z, Z, Z] rfl rfl (one_of HT_.out (by kernel_rfl)) (by decide) (fun K hK => ?_)
           refine goes_ Try.func20 (by kernel_rfl) rfl #[.agg #[.int .i64 a2_0, .int .i64 a2_1, .int .i64 a2_2]] (by rfl) rfl rfl hA ?_
           with_reducible refine (laws_toBall.calls a2_0 a2_1 a2_2 t1180 t1181 t1182 _ A58.out).mono ?_
           rintro e w65 ⟨rfl, hb⟩
           refine ⟨_, rfl, ?_⟩
           replace HO_10 := Aside0.mk (Kd.R_below (rA HO_10) hb)
           replace HO_13 := Aside0.mk (Kd.R_below (rA HO_13) hb)
           replace HO1179 := Aside0.mk (Kd.R_below (rA HO1179) hb)
           replace BK1145 := kB BK1145 hb
           replace HB := lB hb
           (try clear hb)
           (try clear hb2)
           (try clear hk)
           (try clear hi)
           obtain ⟨Ao66, co66, eo66⟩ := Kd.R_slice HO1179.out
           (first | subst eo66 | (injection eo66 with f1_ f2_ f3_; have f4_ := f1_.symm; have f5_ := f3_.symm; clear f1_ f2_ f3_; subst f4_; subst f5_))
           refine hK.out _ _ ⟨cA BK1145 0, cA BK1145 1, cA BK1145 2⟩ (fun hHeld => ?_)
           clear hK K
           refine norm_ (a' := ?_) ?_ ?_
           rotate_left
           ·
            show Act.put _ (some 92) _ = _
            simp only [pA]
            rfl
           refine one_ (i := 6) (N := some 94) #[Y, Y, Y, Y, Y, Y, Y, Z, Z, Z, Z, Z] rfl rfl (one_of HT_.out (by kernel_rfl)) (by decide) (fun K hK => ?_)
           refine goes_ Try.func42 (by kernel_rfl) rfl #[.int .i64 a0, .slice Ao66 t1177.length co66, .agg #[.int .i64 t1180, .int .i64 t1181, .int .i64 t1182], .int .i64 a3] (by rfl) rfl rfl hA ?_
           with_reducible refine (impl_OrbitIn.calls kj38 a0 _ _ t1177 t1180 t1181 t1182 a3 t1183 t1186 _ ?side1 ?side2 A59.out).mono ?_
           (case side1 => repeat (first | exact (Kd.R_reads' HO1179.out).2.2 | (with_reducible refine Kd.C_alloc ?_ _) | (with_reducible refine Kd.C_drewN ?_ _) | (with_reducible refine Kd.C_drew ?_)))
           (case side2 => exact (Kd.R_reads' HO1179.out).2.1)
           rintro e w67 ⟨v1184, rfl, ho0, hb⟩
           refine ⟨_, rfl, ?_⟩
           have HO1185 := Aside0.mk (Kd.R_lower (Kd.R_new' (Kd.R_new' ho0 (Kd.R_lt (rA HO_10))) (Kd.R_lt (rA HO_13))) (below_size blA))
           replace HO_10 := Aside0.mk (Kd.R_elder' (rA HO_10) (Kd.R_base ho0) hb)
           replace HO_13 := Aside0.mk (Kd.R_elder' (rA HO_13) (Kd.R_base ho0) hb)
           replace HO1179 := Aside0.mk (Kd.R_below (rA HO1179) hb)
           replace BK1145 := kB BK1145 hb
           replace HB := lB hb
           (try clear hb)
           (try clear hb2)
           (try clear hk)
           (try clear hi)
           (try clear ho0)
           refine hK.out _ _ ⟨cA BK1145 0, cA BK1145 1, cA BK1145 2⟩ (fun hHeld => ?_)
           clear hK K
           refine norm_ (a' := ?_) ?_ ?_
           rotate_left
           ·
            show Act.put _ (some 94) _ = _
            simp only [pA]
            rfl
           refine puA (i := 7) (N := some 87) #[Y, Y, Y, Y, Y, Y, Y, Y, Z, Z, Z, Z] rfl rfl HT_ ?_
           refine puA (i := 8) (N := some 95) #[Y, Y, Y, Y, Y, Y, Y, Y, Y, Z, Z, Z] rfl rfl HT_ ?_
           refine puA (i := 9) (N := some 96) #[Y, Y, Y, Y, Y, Y, Y, Y, Y, Y, Z, Z] rfl rfl HT_ ?_
           refine puA (i := 10) (N := some 18) #[Y, Y, Y, Y, Y, Y, Y, Y, Y, Y, Y, Z] rfl rfl HT_ ?_
           refine puA (i := 11) (N := some 19) #[Y, Y, Y, Y, Y, Y, Y, Y, Y, Y, Y, Y] rfl rfl HT_ ?_
           refine done_ (done_of HT_.out (by kernel_rfl)) ?_
           go_upto_region 25 with (fail)
           go_cut [105] (fun v105 wc => ∃ (kq : Nat) (x105_59 : Bool), v105 = .bool x105_59 ∧ Aside0 (laws_FnExactOrbitIn.j2 kq t1175 t1174 x105_59 = some r) ∧ Aside0 (kq ≤ kj38) ∧ Aside0 (Kd.R k39 39 wc w.heap.size (fun _ => True) (.slice Ao61 t1163.length co61) t1175) ∧ Aside0 (wc.heap[gb1145]? = some (.cells #[.int .i64 a2_0, .int .i64 a2_1, .int .i64 a2_2] 35 (0, 0))) ∧ Aside0 (Below w.heap.size w wc))
           case first =>
            have H := HC60.out
            clear HC60
            replace H := bS H
            obtain ⟨t1187, A68, H⟩ := H
            try dsimp only at H
            by_cases c69 : t1187 = true
            ·
             subst c69
             rw [if_pos rfl] at H
             try dsimp only at H
             have H' := Aside0.mk H
             clear H
             obtain ⟨Ao70, co70, eo70⟩ := Kd.R_slice HO1185.out
             subst eo70
             obtain ⟨Ao71, co71, eo71⟩ := Kd.R_slice HO_10.out
             subst eo71
             go_wp2_with (first | ((with_reducible refine gate_callee (f := 22) rfl ?_); refine goesL_ (some 99) rfl rfl Try.func22 (by kernel_rfl) rfl #[.slice Ao70 t1183.length co70, .slice Ao71 t1153.length co71] rfl hA ?_; (with_reducible refine (laws_eqBallS.calls kj38 _ _ t1183 _ _ t1153 true _ ?side1 ?side2 ?side3 ?side4 A68.out).mono ?_); (case side1 => repeat (first | exact (Kd.R_reads' HO1185.out).2.2 | (with_reducible refine Kd.C_alloc ?_ _) | (with_reducible refine Kd.C_drewN ?_ _) | (with_reducible refine Kd.C_drew ?_))); (case side2 => exact (Kd.R_reads' HO1185.out).2.1); (case side3 => repeat (first | exact (Kd.R_reads' HO_10.out).2.2 | (with_reducible refine Kd.C_alloc ?_ _) | (with_reducible refine Kd.C_drewN ?_ _) | (with_reducible refine Kd.C_drew ?_))); (case side4 => exact (Kd.R_reads' HO_10.out).2.1); rintro e w72 ⟨rfl, hb⟩; refine ⟨_, rfl, ?_⟩; have n0_ := Aside0.mk (Kd.R_below (rA HO_10) hb); have n1_ := Aside0.mk (Kd.R_below (rA HO_13) hb); have n2_ := Aside0.mk (Kd.R_below (rA HO1179) hb); have n3_ := Aside0.mk (Kd.R_below (rA HO1185) hb); have n4_ := kB BK1145 hb; have n5_ := lB hb; clear HO_10; clear HO_13; clear HO1179; clear HO1185; clear BK1145; clear HB; have HO_10 := n0_; have HO_13 := n1_; have HO1179 := n2_; have HO1185 := n3_; have BK1145 := n4_; have HB := n5_; clear n0_ n1_ n2_ n3_ n4_ n5_; (try clear hb); (try clear hb2); (try clear hk); (try clear hi)))
             go_meet
             case rel => exact ⟨_, ((t1186 != t1156)), hB, H', ⟨by have := HJ13.out; have := HJ38.out; first | omega | exact Nat.le_refl _⟩, ⟨by (with_reducible repeat (first | apply Kd.R_alloc | apply Kd.R_drewN | apply Kd.R_drew)); exact Kd.R_mono HO_13.out (fun _ hk => trivial)⟩, ⟨bkA BK1145⟩, ⟨blA⟩⟩
            ·
             replace c69 := Bool.eq_false_iff.mpr c69
             subst c69
             rw [if_neg (show ¬ (false = true) by decide)] at H
             try dsimp only at H
             have H' := Aside0.mk H
             clear H
             obtain ⟨Ao73, co73, eo73⟩ := Kd.R_slice HO1185.out
             subst eo73
             obtain ⟨Ao74, co74, eo74⟩ := Kd.R_slice HO_10.out
             subst eo74
             go_wp2_with (first | ((with_reducible refine gate_callee (f := 22) rfl ?_); refine goesL_ (some 99) rfl rfl Try.func22 (by kernel_rfl) rfl #[.slice Ao73 t1183.length co73, .slice Ao74 t1153.length co74] rfl hA ?_; (with_reducible refine (laws_eqBallS.calls kj38 _ _ t1183 _ _ t1153 false _ ?side1 ?side2 ?side3 ?side4 A68.out).mono ?_); (case side1 => repeat (first | exact (Kd.R_reads' HO1185.out).2.2 | (with_reducible refine Kd.C_alloc ?_ _) | (with_reducible refine Kd.C_drewN ?_ _) | (with_reducible refine Kd.C_drew ?_))); (case side2 => exact (Kd.R_reads' HO1185.out).2.1); (case side3 => repeat (first | exact (Kd.R_reads' HO_10.out).2.2 | (with_reducible refine Kd.C_alloc ?_ _) | (with_reducible refine Kd.C_drewN ?_ _) | (with_reducible refine Kd.C_drew ?_))); (case side4 => exact (Kd.R_reads' HO_10.out).2.1); rintro e w75 ⟨rfl, hb⟩; refine ⟨_, rfl, ?_⟩; have n0_ := Aside0.mk (Kd.R_below (rA HO_10) hb); have n1_ := Aside0.mk (Kd.R_below (rA HO_13) hb); have n2_ := Aside0.mk (Kd.R_below (rA HO1179) hb); have n3_ := Aside0.mk (Kd.R_below (rA HO1185) hb); have n4_ := kB BK1145 hb; have n5_ := lB hb; clear HO_10; clear HO_13; clear HO1179; clear HO1185; clear BK1145; clear HB; have HO_10 := n0_; have HO_13 := n1_; have HO1179 := n2_; have HO1185 := n3_; have BK1145 := n4_; have HB := n5_; clear n0_ n1_ n2_ n3_ n4_ n5_; (try clear hb); (try clear hb2); (try clear hk); (try clear hi)))
             go_meet
             case rel => exact ⟨_, (true), hB, H', ⟨by have := HJ13.out; have := HJ38.out; first | omega | exact Nat.le_refl _⟩, ⟨by (with_reducible repeat (first | apply Kd.R_alloc | apply Kd.R_drewN | apply Kd.R_drew)); exact Kd.R_mono HO_13.out (fun _ hk => trivial)⟩, ⟨bkA BK1145⟩, ⟨blA⟩⟩
           case rest =>
            clear HC60
            try clear c1
            try clear c6
            try clear c6b0
            try clear c27
            try clear c34
            try clear c37
            try clear c43
            try clear c43b0
            try clear c45
            try clear c52
            try clear c55
            try clear c55b0
            try clear c56
            try clear c56b0
            try clear c56b1
            try clear c69
            try clear hcz22_0
            try clear hcz22_1
            try clear hcz22_2
            try clear hfz22_0
            try clear hfz22_1
            try clear hfz22_2
            obtain ⟨kq, x105_59, rfl, HA, HJ59, HO_13, BK1145, HB⟩ := hcut
            have hl13_59 := (Kd.R_reads' HO_13.out).1
            rw [hl13_59] at HO_13
            (try simp only [hl13_59])
            (try simp only [hl13_59] at BK1145)
            cases kq with
            | zero => exact absurd HA.out (by simp [laws_FnExactOrbitIn.j2])
            | succ kj59 =>
             have H := HA.out
             clear HA
             simp only [laws_FnExactOrbitIn.j2] at H
             by_cases c76 : x105_59 = true
             ·
              subst c76
              rw [if_pos rfl] at H
              try dsimp only at H
              exact absurd H (by simp)
             ·
              replace c76 := Bool.eq_false_iff.mpr c76
              subst c76
              rw [if_neg (show ¬ (false = true) by decide)] at H
              try dsimp only at H
              replace H := bS H
              obtain ⟨t1188, A77, H⟩ := H
              try dsimp only at H
              by_cases c78 : t1188 < 0
              ·
               rw [if_pos c78] at H
               exact absurd H (by simp)
              ·
               rw [if_neg c78] at H
               have c78b0 := decide_eq_false c78
               clear c78
               by_cases c79 : t1188 = t1174
               ·
                rw [if_pos c79] at H
                have c79b0 : (t1188 == t1174) = true := beq_iff_eq.mpr c79
                have c79b1 : (t1188 != t1174) = false := bne_eq_false_iff_eq.mpr c79
                clear c79
                obtain rfl := Option.some.inj H
                go_wp2_with (first | ((with_reducible refine gate_callee (f := 24) rfl ?_); refine goesL_ (some 108) rfl rfl Try.func24 (by kernel_rfl) rfl #[.slice Ao61 t1175.length co61, .int .i64 1] rfl hA ?_; (with_reducible refine (laws_heldBallS.calls kj59 _ _ t1175 1 t1188 _ ?side1 ?side2 A77.out).mono ?_); (case side1 => repeat (first | exact (Kd.R_reads' HO_13.out).2.2 | (with_reducible refine Kd.C_alloc ?_ _) | (with_reducible refine Kd.C_drewN ?_ _) | (with_reducible refine Kd.C_drew ?_))); (case side2 => exact (Kd.R_reads' HO_13.out).2.1); rintro e w' ⟨rfl, ⟨nd, rfl⟩⟩; refine ⟨_, rfl, ?_⟩))
                go_ret
                exact finA blA
               ·
                rw [if_neg c79] at H
                exact absurd H (by simp)
          ·
           rw [if_neg c56] at H
           exact absurd H (by simp)
     ·
      replace c37 := Bool.eq_false_iff.mpr c37
      subst c37
      rw [if_neg (show ¬ (false = true) by decide)] at H
      try dsimp only at H
      exact absurd H (by simp)
end Go.Proofs.Ytccpccnnbacgjaa.PAll
