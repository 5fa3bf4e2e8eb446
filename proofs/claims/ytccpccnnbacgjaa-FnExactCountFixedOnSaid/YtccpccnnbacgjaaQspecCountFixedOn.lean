-- turned for this claim out of the kit's print: the same functions, packed anew
import Derived.Test.YtccpccnnbacgjaaQx
import Derived.Test.YtccpccnnbacgjaaQspecSphereAround
import Derived.Test.YtccpccnnbacgjaaQspecl04Move
import Derived.Test.YtccpccnnbacgjaaQspecl06Sphere
namespace Go.Proofs.Ytccpccnnbacgjaa.PAll
open Go.RowKit Go.Proofs.YtccpccnnbacgjaaW.PrintWords Go.Proofs.YtccpccnnbacgjaaW.PrintLast Go.Proofs.YtccpccnnbacgjaaW.PrintMore
attribute [local go_sem] Go.Proofs.Ytccpccnnbacgjaa.Aux.setCell_drewN Go.Proofs.Ytccpccnnbacgjaa.Aux.isSome_setCell max2_int min2_int max_two min_two max_three min_three max_four min_four   -- for this text's walks alone
set_option linter.unusedVariables false
set_option linter.unusedSimpArgs false
attribute [local go_sem high] eqA39
/-! ### spec_CountFixedOn: function 11 -/
def spec_CountFixedOn.l0 : Nat → Int → List (S39) → Int → Int → Int → Int → Int → Int → Option (Int × Int)
 | 0, _, _, _, _, _, _, _, _ => none
 | k + 1, x0, x9, x11, x12, x234000, x234001, x234002, x234003 => if x12 < (x9.length : Int) then (if 0 ≤ x12 then ((spec_l04Move.f k x0 x234000 x234001 x234002 x234003 ((rd_T39 x9 x12).f0) ((rd_T39 x9 x12).f1) ((rd_T39 x9 x12).f2)).bind fun bt240 => (if bt240.2.2.2 = true then (if (bt240.1 == ((rd_T39 x9 x12).f0) && (bt240.2.1 == ((rd_T39 x9 x12).f1) && (bt240.2.2.1 == ((rd_T39 x9 x12).f2)))) = true then (spec_CountFixedOn.l0 k x0 x9 (wrap64 (x11 + 1)) (wrap64 (x12 + 1)) x234000 x234001 x234002 x234003) else (spec_CountFixedOn.l0 k x0 x9 x11 (wrap64 (x12 + 1)) x234000 x234001 x234002 x234003)) else (spec_CountFixedOn.l0 k x0 x9 x11 (wrap64 (x12 + 1)) x234000 x234001 x234002 x234003))) else (none)) else (some (x11, 0))
def spec_CountFixedOn.f (k : Nat) (a0 : Int) (a1_0 : Int) (a1_1 : Int) (a1_2 : Int) (a1_3 : Int) (a2 : Int) : Option (Int × Int) := (spec_l06Sphere.f k a0 a1_0 a1_1 a1_2 a1_3 a2).bind fun t234 => (if t234 = 0 then ((spec_SphereAround.f k a0 0 0 0 a2).bind fun bt235 => (spec_CountFixedOn.l0 k a0 bt235.1 0 0 a1_0 a1_1 a1_2 a1_3)) else (some (0, t234)))
theorem spec_CountFixedOn.mono_l : ∀ k, (∀ y0 y1 y2 y3 y4 y5 y6 y7, LeO (spec_CountFixedOn.l0 k y0 y1 y2 y3 y4 y5 y6 y7) (spec_CountFixedOn.l0 (k + 1) y0 y1 y2 y3 y4 y5 y6 y7))
 | 0 => fun _ _ _ _ _ _ _ _ r h => by simp [spec_CountFixedOn.l0] at h
 | k + 1 => by
  have ih0 := spec_CountFixedOn.mono_l k
  ·
   intro y0 y1 y2 y3 y4 y5 y6 y7
   unfold spec_CountFixedOn.l0
   repeat' first
   | (with_reducible exact ih0 _ _ _ _ _ _ _ _)
   | (with_reducible exact spec_SphereAround.mono _ _ _ _ _ _)
   | (with_reducible exact spec_l04Move.mono _ _ _ _ _ _ _ _ _)
   | (with_reducible exact spec_l06Sphere.mono _ _ _ _ _ _ _)
   | (with_reducible exact LeO.refl _)
   | (with_reducible exact LeO.none _)
   | (with_reducible refine LeO.ite ?_ ?_)
   | (with_reducible refine LeO.bind ?_ (fun _ => ?_))
   | exact ih0 _ _ _ _ _ _ _ _
   | exact spec_SphereAround.mono _ _ _ _ _ _
   | exact spec_l04Move.mono _ _ _ _ _ _ _ _ _
   | exact spec_l06Sphere.mono _ _ _ _ _ _ _
   | exact LeO.none _
   | refine LeO.ite ?_ ?_
   | refine LeO.bind ?_ (fun _ => ?_)
theorem spec_CountFixedOn.mono : ∀ a0 a1 a2 a3 a4 a5 k, LeO (spec_CountFixedOn.f k a0 a1 a2 a3 a4 a5) (spec_CountFixedOn.f (k + 1) a0 a1 a2 a3 a4 a5) := by
 intro a0 a1 a2 a3 a4 a5 k
 have ih0 := spec_CountFixedOn.mono_l k
 unfold spec_CountFixedOn.f
 repeat' first
   | (with_reducible exact ih0 _ _ _ _ _ _ _ _)
   | (with_reducible exact spec_SphereAround.mono _ _ _ _ _ _)
   | (with_reducible exact spec_l04Move.mono _ _ _ _ _ _ _ _ _)
   | (with_reducible exact spec_l06Sphere.mono _ _ _ _ _ _ _)
   | (with_reducible exact LeO.refl _)
   | (with_reducible exact LeO.none _)
   | (with_reducible refine LeO.ite ?_ ?_)
   | (with_reducible refine LeO.bind ?_ (fun _ => ?_))
   | exact ih0 _ _ _ _ _ _ _ _
   | exact spec_SphereAround.mono _ _ _ _ _ _
   | exact spec_l04Move.mono _ _ _ _ _ _ _ _ _
   | exact spec_l06Sphere.mono _ _ _ _ _ _ _
   | exact LeO.none _
   | refine LeO.ite ?_ ?_
   | refine LeO.bind ?_ (fun _ => ?_)
def spec_CountFixedOn.T9 : Bool × List (List Nat × List Nat) := (true, [([], []), ([], []), ([], []), ([], []), ([2, 3], [2, 3]), ([4], [4]), ([0, 1, 5], [0, 1, 5]), ([6], [6]), ([7], [7]), ([7], [7]), ([], []), ([10, 8, 6, 0, 1, 2, 3, 4, 5, 6, 7, 8, 10], [8, 10]), ([9, 11, 0, 1, 2, 3, 4, 5, 6, 7, 8, 9, 10, 11], [9])])
def spec_CountFixedOn.B9 : List Nat := [0, 0, 0, 0, 12, 28, 63, 127, 255, 255, 0, 1535, 4095]
theorem spec_CountFixedOn.tab9 : rtab .any (opsOf Try.f11 9) = spec_CountFixedOn.T9 := by kernel_rfl
theorem spec_CountFixedOn.bits9 : waitsOk spec_CountFixedOn.T9.2 spec_CountFixedOn.B9 = true := by kernel_rfl
def spec_CountFixedOn.T10 : Bool × List (List Nat × List Nat) := (true, [([], []), ([0], [0]), ([1], [1]), ([1], [1]), ([1], [1]), ([3, 4, 1], [1, 3, 4]), ([5, 1], [1, 5]), ([2, 6, 1], [1, 2, 6]), ([1, 7], [1, 7])])
def spec_CountFixedOn.B10 : List Nat := [0, 1, 3, 3, 3, 27, 59, 127, 255]
theorem spec_CountFixedOn.tab10 : rtab .any (opsOf Try.f11 10) = spec_CountFixedOn.T10 := by kernel_rfl
theorem spec_CountFixedOn.bits10 : waitsOk spec_CountFixedOn.T10.2 spec_CountFixedOn.B10 = true := by kernel_rfl
set_option maxHeartbeats 8000000 in
set_option maxRecDepth 100000 in
theorem spec_CountFixedOn.calls (k : Nat) (a0 : Int) (a1_0 : Int) (a1_1 : Int) (a1_2 : Int) (a1_3 : Int) (a2 : Int) (r1 : Int) (r2 : Int) (w : World) (h : spec_CountFixedOn.f k a0 a1_0 a1_1 a1_2 a1_3 a2 = some (r1, r2)) :
  Calls Try.prog 11 #[.int .i64 a0, .agg #[.int .i64 a1_0, .int .i64 a1_1, .int .i64 a1_2, .int .i64 a1_3], .int .i64 a2] w fun e w' => e = .returned (.tuple #[.int .i64 r1, .int .i64 r2]) ∧ Below w.heap.size w w' := by
 have hu26 := Try.underlying26
 have hu39 := Try.underlying39
 have HB := Aside0.mk (Below.refl w.heap.size w)
 have H := h
 unfold spec_CountFixedOn.f at H
 clear h
 replace H := bS H
 obtain ⟨t234, A4, H⟩ := H
 try dsimp only at H
 by_cases c5 : t234 = 0
 ·
  rw [if_pos c5] at H
  have c5b0 : (t234 == 0) = true := beq_iff_eq.mpr c5
  have c5b1 : (t234 != 0) = false := bne_eq_false_iff_eq.mpr c5
  clear c5
  replace H := bS H
  obtain ⟨⟨t235, t238⟩, A6, H⟩ := H
  try dsimp only at H
  have H' := Aside0.mk H
  clear H
  go_enter Try.func11, Try.ntmps11
  go_wp2_with (first | ((with_reducible refine gate_dst (N := 4) rfl ?_); refine box_event ?hg (N := 4) ?hd (cs := #[.int .i64 a1_0, .int .i64 a1_1, .int .i64 a1_2, .int .i64 a1_3]) (t := 26) ?hr ?_; (case hd => rfl); (case hg => rfl); (case hr => first | (go_simp; done) | (go_simp; rfl)); intro gb233 hg w7 hbox hb; have n0_ := lB hb; have n1_ := Aside0.mk (hbox); have n2_ := sA hg; have n3_ := sA hg; clear HB; have HB := n0_; have BK233 := n1_; have GW233 := n2_; have GE233 := n3_; clear n0_ n1_ n2_ n3_; clear hb hbox hg; have hcz8_0 : w7.cell? ⟨gb233, 0, none⟩ = some (.int .i64 a1_0) := cA BK233 0; have hcz8_1 : w7.cell? ⟨gb233, 1, none⟩ = some (.int .i64 a1_1) := cA BK233 1; have hcz8_2 : w7.cell? ⟨gb233, 2, none⟩ = some (.int .i64 a1_2) := cA BK233 2; have hcz8_3 : w7.cell? ⟨gb233, 3, none⟩ = some (.int .i64 a1_3) := cA BK233 3; have hfz8_0 := blk_frozen BK233.out 0; have hfz8_1 := blk_frozen BK233.out 1; have hfz8_2 := blk_frozen BK233.out 2; have hfz8_3 := blk_frozen BK233.out 3) | ((with_reducible refine gate_callee (f := 60) rfl ?_); refine goesL_ (some 18) rfl rfl Try.func60 (by kernel_rfl) rfl #[.int .i64 a0, .agg #[.int .i64 a1_0, .int .i64 a1_1, .int .i64 a1_2, .int .i64 a1_3], .int .i64 a2] rfl hA ?_; (with_reducible refine (spec_l06Sphere.calls k a0 a1_0 a1_1 a1_2 a1_3 a2 t234 _ A4.out).mono ?_); rintro e w9 ⟨rfl, hb⟩; refine ⟨_, rfl, ?_⟩; have n0_ := kB BK233 hb; have n1_ := lB hb; clear BK233; clear HB; have BK233 := n0_; have HB := n1_; clear n0_ n1_; (try clear hb); (try clear hb2); (try clear hk); (try clear hi)) | ((with_reducible refine gate_callee (f := 61) rfl ?_); refine goesL_ (some 26) rfl rfl Try.func61 (by kernel_rfl) rfl #[.int .i64 a0, .agg #[.int .i64 0, .int .i64 0, .int .i64 0], .int .i64 a2] rfl hA ?_; (with_reducible refine (spec_SphereAround.calls k a0 0 0 0 a2 t235 t238 _ A6.out).mono ?_); rintro e w10 ⟨v236, rfl, ho0, hb⟩; refine ⟨_, rfl, ?_⟩; have n0_ := Aside0.mk (Kd.R_lower ho0 (below_size blA)); have n1_ := kB BK233 hb; have n2_ := lB hb; clear BK233; clear HB; have HO237 := n0_; have BK233 := n1_; have HB := n2_; clear n0_ n1_ n2_; (try clear hb); (try clear hb2); (try clear hk); (try clear hi); (try clear ho0)))
  go_loopg [11, 12] k (fun kq v11 v12 w' => ∃ (x11_1 : Int) (x12_1 : Int), v11 = .int .i64 x11_1 ∧ v12 = .int .i64 x12_1 ∧ Aside0 (spec_CountFixedOn.l0 kq a0 t235 x11_1 x12_1 a1_0 a1_1 a1_2 a1_3 = some (r1, r2)) ∧ Aside0 (kq ≤ k) ∧ Aside0 (Kd.R k39 39 w' w.heap.size (fun _ => True) v236 t235) ∧ Aside0 (w'.heap[gb233]? = some (.cells #[.int .i64 a1_0, .int .i64 a1_1, .int .i64 a1_2, .int .i64 a1_3] 26 (0, 0))) ∧ Aside0 (Below w.heap.size w w'))
  case atStart => exact ⟨(0), (0), hB, hB, H', ⟨Nat.le_refl _⟩, ⟨rA HO237⟩, ⟨bkA BK233⟩, ⟨blA⟩⟩
  case round =>
   clear H'
   try clear c1
   try clear p2
   try clear c5
   try clear c5b0
   try clear c5b1
   try clear c6
   try clear hcz8_0
   try clear hcz8_1
   try clear hcz8_2
   try clear hcz8_3
   try clear hfz8_0
   try clear hfz8_1
   try clear hfz8_2
   try clear hfz8_3
   obtain ⟨x11_1, x12_1, rfl, rfl, HA, HK1, HO_9, BK233, HB⟩ := hrel
   cases gk with
   | zero => exact absurd HA.out (by simp [spec_CountFixedOn.l0])
   | succ k1 =>
    have H := HA.out
    clear HA
    simp only [spec_CountFixedOn.l0] at H
    by_cases c11 : x12_1 < (t235.length : Int)
    ·
     rw [if_pos c11] at H
     have c11b0 := decide_eq_true c11
     clear c11
     by_cases c12 : 0 ≤ x12_1
     ·
      rw [if_pos c12] at H
      have c12b0 := decide_eq_true c12
      clear c12
      replace H := bS H
      obtain ⟨⟨t240, t241, t242, t243⟩, A13, H⟩ := H
      try dsimp only at H
      by_cases c14 : t243 = true
      ·
       subst c14
       rw [if_pos rfl] at H
       try dsimp only at H
       by_cases c15 : (t240 == ((rd_T39 t235 x12_1).f0) && (t241 == ((rd_T39 t235 x12_1).f1) && (t242 == ((rd_T39 t235 x12_1).f2)))) = true
       ·
        rw [if_pos c15] at H
        have c15b0 : (t240 == ((rd_T39 t235 x12_1).f0) && (t241 == ((rd_T39 t235 x12_1).f1) && (t242 == ((rd_T39 t235 x12_1).f2)))) = true := c15
        (try (have c15b1 : decide (t240 = ((rd_T39 t235 x12_1).f0) && (t241 == ((rd_T39 t235 x12_1).f1) && (t242 == ((rd_T39 t235 x12_1).f2)))) = true := by simpa using c15))
        (try (have c15b2 : (t240 == ((rd_T39 t235 x12_1).f0) && (t241 == ((rd_T39 t235 x12_1).f1) && (t242 == ((rd_T39 t235 x12_1).f2)))) = true := by simpa using c15))
        clear c15
        have H' := Aside0.mk H
        clear H
        obtain ⟨Ao16, co16, eo16⟩ := Kd.R_slice HO_9.out
        subst eo16
        try go_wp2
        have n0_ := Aside0.mk (Kd.R_drew HO_9.out)
        have n1_ := Aside0.mk (blk_drew BK233.out)
        have n2_ := Aside0.mk (below_drew1 HB.out)
        clear HO_9
        clear BK233
        clear HB
        have HO_9 := n0_
        have BK233 := n1_
        have HB := n2_
        clear n0_ n1_ n2_
        have p239 : 0 ≤ (x12_1 : Int) := dA
        have q239 : x12_1 < (t235.length : Int) := dA
        obtain ⟨ad239, e239, hx239_0, hx239_1, hx239_2⟩ := at_T39 (Kd.R_reads' HO_9.out).2.2 x12_1 p239 q239
        cases e239
        replace p239 := eq_true p239
        replace q239 := eq_true q239
        refine start_ (n := 13) (S := fun w' => w'.cell? ⟨gb233, 0, none⟩ = some (.int .i64 a1_0) ∧ w'.cell? ⟨gb233, 1, none⟩ = some (.int .i64 a1_1) ∧ w'.cell? ⟨gb233, 2, none⟩ = some (.int .i64 a1_2) ∧ w'.cell? ⟨gb233, 3, none⟩ = some (.int .i64 a1_3) ∧ w'.cell? (ad239.add ((x12_1).toNat * 3)) = some (.int .i64 ((rd_T39 t235 x12_1).f0)) ∧ w'.cell? ⟨(ad239.add ((x12_1).toNat * 3)).block, (ad239.add ((x12_1).toNat * 3)).off + 1, none⟩ = some (.int .i64 ((rd_T39 t235 x12_1).f1)) ∧ w'.cell? ⟨(ad239.add ((x12_1).toNat * 3)).block, (ad239.add ((x12_1).toNat * 3)).off + 2, none⟩ = some (.int .i64 ((rd_T39 t235 x12_1).f2))) (ds := []) #[Z, Z, Z, Z, Z, Z, Z, Z, Z, Z, Z, Z, Z] (by kernel_rfl) rfl rfl ⟨cA BK233 0, cA BK233 1, cA BK233 2, cA BK233 3, hx239_0, hx239_1, hx239_2⟩ (fun hHeld => ?_); refine with_tabW spec_CountFixedOn.tab9 spec_CountFixedOn.bits9 (fun HT_ HW_ => ?_)
        generalize wr.drew = w17 at HO_9 BK233 HB hx239_0 hx239_1 hx239_2 hHeld ⊢
        refine pure_ (i := 0) (N := some 36) (v := ?_) (a' := ?_) #[Y, Z, Z, Z, Z, Z, Z, Z, Z, Z, Z, Z, Z] rfl rfl (any_of HT_.out (by kernel_rfl)) (fun _ _ _ h => h) (Or.inl ⟨by rfl, ?_⟩) ?_ ?_
        rotate_left
        ·
         intro w'
         go_simp
         with_reducible rfl
        rotate_left
        ·
         simp only [pA]
         rfl
        refine pure_ (i := 2) (N := some 38) (v := ?_) (a' := ?_) #[Y, Z, Y, Z, Z, Z, Z, Z, Z, Z, Z, Z, Z] rfl rfl (any_of HT_.out (by kernel_rfl)) (fun _ _ _ h => h) (Or.inl ⟨by rfl, ?_⟩) ?_ ?_
        rotate_left
        ·
         intro w'
         go_simp
         with_reducible rfl
        rotate_left
        ·
         simp only [pA]
         rfl
        refine pure_ (i := 3) (N := some 39) (v := ?_) (a' := ?_) #[Y, Z, Y, Y, Z, Z, Z, Z, Z, Z, Z, Z, Z] rfl rfl (any_of HT_.out (by kernel_rfl)) (fun _ _ _ h => h) (Or.inl ⟨by rfl, ?_⟩) ?_ ?_
        rotate_left
        ·
         intro w'
         go_simp
         with_reducible rfl
        rotate_left
        ·
         simp only [pA]
         rfl
        refine pure_ (i := 4) (N := some 40) (v := ?_) (a' := ?_) #[Y, Z, Y, Y, Y, Z, Z, Z, Z, Z, Z, Z, Z] rfl rfl (any_of HT_.out (by kernel_rfl)) (fun _ _ _ h => h) (Or.inl ⟨by rfl, ?_⟩) ?_ ?_
        rotate_left
        ·
         intro w'
         go_simp
         with_reducible rfl
        rotate_left
        ·
         simp only [pA]
         rfl
        refine take_ (i := 1) (N := some 37) (v := ?_) (a' := ?_) #[Y, Y, Y, Y, Y, Z, Z, Z, Z, Z, Z, Z, Z] rfl rfl (take_ofW HT_.out HW_.out (by kernel_rfl)) (fun _ _ _ h => h) (Or.inl ⟨by rfl, ?_⟩) hHeld ?_ ?_
        rotate_left
        ·
         rintro w' ⟨s0, s1, s2, s3, s4, s5, s6⟩
         go_simp
         with_reducible rfl
        rotate_left
        ·
         simp only [pA]
         rfl
        refine take_ (i := 5) (N := some 41) (v := ?_) (a' := ?_) #[Y, Y, Y, Y, Y, Y, Z, Z, Z, Z, Z, Z, Z] rfl rfl (take_ofW HT_.out HW_.out (by kernel_rfl)) (fun _ _ _ h => h) (Or.inl ⟨by rfl, ?_⟩) hHeld ?_ ?_
        rotate_left
        ·
         rintro w' ⟨s0, s1, s2, s3, s4, s5, s6⟩
         go_simp
         with_reducible rfl
        rotate_left
        ·
         simp only [pA]
         rfl
        refine join_ (σ := Nat) 2 #[Y, Y, Y, Y, Y, Y, Y, Y, Y, Y, Y, Z, Z] (fun s_ => [(42, .tuple #[.agg #[.int .i64 t240, .int .i64 t241, .int .i64 t242], .bool true]), (13, .pointer (some ⟨s_, 0, none⟩)), (35, .tuple #[.agg #[.int .i64 t240, .int .i64 t241, .int .i64 t242], .bool true]), (43, .agg #[.int .i64 t240, .int .i64 t241, .int .i64 t242]), (44, .bool true)]) (fun s_ w' => (w'.cell? ⟨gb233, 0, none⟩ = some (.int .i64 a1_0) ∧ w'.cell? ⟨gb233, 1, none⟩ = some (.int .i64 a1_1) ∧ w'.cell? ⟨gb233, 2, none⟩ = some (.int .i64 a1_2) ∧ w'.cell? ⟨gb233, 3, none⟩ = some (.int .i64 a1_3) ∧ w'.cell? (ad239.add ((x12_1).toNat * 3)) = some (.int .i64 ((rd_T39 t235 x12_1).f0)) ∧ w'.cell? ⟨(ad239.add ((x12_1).toNat * 3)).block, (ad239.add ((x12_1).toNat * 3)).off + 1, none⟩ = some (.int .i64 ((rd_T39 t235 x12_1).f1)) ∧ w'.cell? ⟨(ad239.add ((x12_1).toNat * 3)).block, (ad239.add ((x12_1).toNat * 3)).off + 2, none⟩ = some (.int .i64 ((rd_T39 t235 x12_1).f2))) ∧ (Kd.R k39 39 w' w.heap.size (fun k_ => k_ ≠ s_) (.slice (some ad239) t235.length co16) t235) ∧ (w'.heap[gb233]? = some (.cells #[.int .i64 a1_0, .int .i64 a1_1, .int .i64 a1_2, .int .i64 a1_3] 26 (0, 0))) ∧ (w'.heap[s_]? = some (.cells #[.int .i64 0, .int .i64 0, .int .i64 0] 39 (0, 0))) ∧ (w.heap.size ≤ s_) ∧ (w.heap.size ≤ s_) ∧ (gb233 ≠ s_) ∧ (s_ ≠ gb233) ∧ (Below w.heap.size w w')) ?_ ?_
        rotate_left
        ·
         intro hCont
         refine two_ (i := 6) (j := 10) (Ni := some 42) (Nj := some 13) #[Y, Y, Y, Y, Y, Y, Y, Z, Z, Z, Z, Z, Z] #[Y, Y, Y, Y, Y, Y, Z, Z, Z, Z, Y, Z, Z] rfl rfl rfl rfl (two_of HT_.out (by kernel_rfl)) (by decide) (by decide) (fun K hK => ?_) (fun K hK => ?_)
         ·
          skip
          refine goes_ Try.func62 (by kernel_rfl) rfl #[.int .i64 a0, .agg #[.int .i64 a1_0, .int .i64 a1_1, .int .i64 a1_2, .int .i64 a1_3], .agg #[.int .i64 ((rd_T39 t235 x12_1).f0), .int .i64 ((rd_T39 t235 x12_1).f1), .int .i64 ((rd_T39 t235 x12_1).f2)]] (by rfl) rfl rfl hA ?_
          with_reducible refine (spec_l04Move.calls k1 a0 a1_0 a1_1 a1_2 a1_3 ((rd_T39 t235 x12_1).f0) ((rd_T39 t235 x12_1).f1) ((rd_T39 t235 x12_1).f2) t240 t241 t242 true _ A13.out).mono ?_
          rintro e w18 ⟨rfl, hb⟩
          have HS4_ := (hb.cell (World.block_lt_of_cell? _ _ (hHeld.2.2.2.2.1))).trans (hHeld.2.2.2.2.1)
          have HS5_ := (hb.cell (World.block_lt_of_cell? _ _ (hHeld.2.2.2.2.2.1))).trans (hHeld.2.2.2.2.2.1)
          have HS6_ := (hb.cell (World.block_lt_of_cell? _ _ (hHeld.2.2.2.2.2.2))).trans (hHeld.2.2.2.2.2.2)
          refine ⟨_, rfl, ?_⟩
          replace HO_9 := Aside0.mk (Kd.R_below (rA HO_9) hb)
          replace BK233 := kB BK233 hb
          replace HB := lB hb
          (try clear hb)
          (try clear hb2)
          (try clear hk)
          (try clear hi)
          refine hK.out _ _ ⟨cA BK233 0, cA BK233 1, cA BK233 2, cA BK233 3, HS4_, HS5_, HS6_⟩ (fun hHeld => ?_)
          clear hK K
          refine norm_ (a' := ?_) ?_ ?_
          rotate_left
          ·
           show Act.put _ (some 42) _ = _
           simp only [pA]
           rfl
          refine pure_ (i := 7) (N := some 35) (v := ?_) (a' := ?_) #[Y, Y, Y, Y, Y, Y, Y, Y, Z, Z, Z, Z, Z] rfl rfl (any_of HT_.out (by kernel_rfl)) (fun _ _ _ h => h) (Or.inl ⟨by rfl, ?_⟩) ?_ ?_
          rotate_left
          ·
           intro w'
           go_simp
           with_reducible rfl
          rotate_left
          ·
           simp only [pA]
           rfl
          refine pure_ (i := 8) (N := some 43) (v := ?_) (a' := ?_) #[Y, Y, Y, Y, Y, Y, Y, Y, Y, Z, Z, Z, Z] rfl rfl (any_of HT_.out (by kernel_rfl)) (fun _ _ _ h => h) (Or.inl ⟨by rfl, ?_⟩) ?_ ?_
          rotate_left
          ·
           intro w'
           go_simp
           with_reducible rfl
          rotate_left
          ·
           simp only [pA]
           rfl
          refine pure_ (i := 9) (N := some 44) (v := ?_) (a' := ?_) #[Y, Y, Y, Y, Y, Y, Y, Y, Y, Y, Z, Z, Z] rfl rfl (any_of HT_.out (by kernel_rfl)) (fun _ _ _ h => h) (Or.inl ⟨by rfl, ?_⟩) ?_ ?_
          rotate_left
          ·
           intro w'
           go_simp
           with_reducible rfl
          rotate_left
          ·
           simp only [pA]
           rfl
          refine one_ (i := 10) (N := some 13) #[Y, Y, Y, Y, Y, Y, Y, Y, Y, Y, Y, Z, Z] rfl rfl (one_of HT_.out (by kernel_rfl)) (by decide) (fun K hK => ?_)
          refine box_step ?hg (N := 13) ?hd (cs := #[.int .i64 0, .int .i64 0, .int .i64 0]) (t := 39) ?hr ?_; (case hd => rfl); (case hg => rfl); (case hr => first | (go_simp; done) | (go_simp; rfl))
          intro gb244 hg w19 hbox hb
          have HS4_ := (hb.cell (World.block_lt_of_cell? _ _ (hHeld.2.2.2.2.1))).trans (hHeld.2.2.2.2.1)
          have HS5_ := (hb.cell (World.block_lt_of_cell? _ _ (hHeld.2.2.2.2.2.1))).trans (hHeld.2.2.2.2.2.1)
          have HS6_ := (hb.cell (World.block_lt_of_cell? _ _ (hHeld.2.2.2.2.2.2))).trans (hHeld.2.2.2.2.2.2)
          have BK244 := Aside0.mk (hbox)
          have GW244 := sA hg
          have GE244 := sA hg
          have NB233_244 := nA hg BK233
          have NB244_233 := nB hg BK233
          replace HO_9 := Aside0.mk (Kd.R_below (Kd.R_elderB (rA HO_9) gb244 (Nat.le_of_eq hg.symm)) hb)
          replace BK233 := kB BK233 hb
          replace HB := lB hb
          clear hb hbox hg
          refine hK.out _ _ ⟨cA BK233 0, cA BK233 1, cA BK233 2, cA BK233 3, HS4_, HS5_, HS6_⟩ (fun hHeld => ?_)
          clear hK K
          refine norm_ (a' := ?_) ?_ ?_
          rotate_left
          ·
           show Act.put _ (some 13) _ = _
           simp only [pA]
           rfl
          exact norm_ (by simp only [putAll, Act.put, List.setIfInBounds_toArray, List.set_cons_zero, List.set_cons_succ]) (hCont (gb244) _ ⟨hHeld, (by (with_reducible repeat (first | apply Kd.R_alloc | apply Kd.R_drewN | apply Kd.R_drew)); exact Kd.R_mono HO_9.out (fun _ hk => hk.2)), (bkA BK233), (bkA BK244), GW244.out, GE244.out, NB233_244.out, NB244_233.out, blA⟩)
         ·
          skip
          refine box_step ?hg (N := 13) ?hd (cs := #[.int .i64 0, .int .i64 0, .int .i64 0]) (t := 39) ?hr ?_; (case hd => rfl); (case hg => rfl); (case hr => first | (go_simp; done) | (go_simp; rfl))
          intro gb244 hg w18 hbox hb
          have HS4_ := (hb.cell (World.block_lt_of_cell? _ _ (hHeld.2.2.2.2.1))).trans (hHeld.2.2.2.2.1)
          have HS5_ := (hb.cell (World.block_lt_of_cell? _ _ (hHeld.2.2.2.2.2.1))).trans (hHeld.2.2.2.2.2.1)
          have HS6_ := (hb.cell (World.block_lt_of_cell? _ _ (hHeld.2.2.2.2.2.2))).trans (hHeld.2.2.2.2.2.2)
          have BK244 := Aside0.mk (hbox)
          have GW244 := sA hg
          have GE244 := sA hg
          have NB233_244 := nA hg BK233
          have NB244_233 := nB hg BK233
          replace HO_9 := Aside0.mk (Kd.R_below (Kd.R_elderB (rA HO_9) gb244 (Nat.le_of_eq hg.symm)) hb)
          replace BK233 := kB BK233 hb
          replace HB := lB hb
          clear hb hbox hg
          refine hK.out _ _ ⟨cA BK233 0, cA BK233 1, cA BK233 2, cA BK233 3, HS4_, HS5_, HS6_⟩ (fun hHeld => ?_)
          clear hK K
          refine norm_ (a' := ?_) ?_ ?_
          rotate_left
          ·
           show Act.put _ (some 13) _ = _
           simp only [pA]
           rfl
          refine one_ (i := 6) (N := some 42) #[Y, Y, Y, Y, Y, Y, Y, Z, Z, Z, Y, Z, Z] rfl rfl (one_of HT_.out (by kernel_rfl)) (by decide) (fun K hK => ?_)
          refine goes_ Try.func62 (by kernel_rfl) rfl #[.int .i64 a0, .agg #[.int .i64 a1_0, .int .i64 a1_1, .int .i64 a1_2, .int .i64 a1_3], .agg #[.int .i64 ((rd_T39 t235 x12_1).f0), .int .i64 ((rd_T39 t235 x12_1).f1), .int .i64 ((rd_T39 t235 x12_1).f2)]] (by rfl) rfl rfl hA ?_
          with_reducible refine (spec_l04Move.calls k1 a0 a1_0 a1_1 a1_2 a1_3 ((rd_T39 t235 x12_1).f0) ((rd_T39 t235 x12_1).f1) ((rd_T39 t235 x12_1).f2) t240 t241 t242 true _ A13.out).mono ?_
          rintro e w19 ⟨rfl, hb⟩
          have HS4_ := (hb.cell (World.block_lt_of_cell? _ _ (hHeld.2.2.2.2.1))).trans (hHeld.2.2.2.2.1)
          have HS5_ := (hb.cell (World.block_lt_of_cell? _ _ (hHeld.2.2.2.2.2.1))).trans (hHeld.2.2.2.2.2.1)
          have HS6_ := (hb.cell (World.block_lt_of_cell? _ _ (hHeld.2.2.2.2.2.2))).trans (hHeld.2.2.2.2.2.2)
          refine ⟨_, rfl, ?_⟩
          replace HO_9 := Aside0.mk (Kd.R_below (rA HO_9) hb)
          replace BK233 := kB BK233 hb
          replace BK244 := kB BK244 hb
          replace HB := lB hb
          (try clear hb)
          (try clear hb2)
          (try clear hk)
          (try clear hi)
          refine hK.out _ _ ⟨cA BK233 0, cA BK233 1, cA BK233 2, cA BK233 3, HS4_, HS5_, HS6_⟩ (fun hHeld => ?_)
          clear hK K
          refine norm_ (a' := ?_) ?_ ?_
          rotate_left
          ·
           show Act.put _ (some 42) _ = _
           simp only [pA]
           rfl
          refine pure_ (i := 7) (N := some 35) (v := ?_) (a' := ?_) #[Y, Y, Y, Y, Y, Y, Y, Y, Z, Z, Y, Z, Z] rfl rfl (any_of HT_.out (by kernel_rfl)) (fun _ _ _ h => h) (Or.inl ⟨by rfl, ?_⟩) ?_ ?_
          rotate_left
          ·
           intro w'
           go_simp
           with_reducible rfl
          rotate_left
          ·
           simp only [pA]
           rfl
          refine pure_ (i := 8) (N := some 43) (v := ?_) (a' := ?_) #[Y, Y, Y, Y, Y, Y, Y, Y, Y, Z, Y, Z, Z] rfl rfl (any_of HT_.out (by kernel_rfl)) (fun _ _ _ h => h) (Or.inl ⟨by rfl, ?_⟩) ?_ ?_
          rotate_left
          ·
           intro w'
           go_simp
           with_reducible rfl
          rotate_left
          ·
           simp only [pA]
           rfl
          refine pure_ (i := 9) (N := some 44) (v := ?_) (a' := ?_) #[Y, Y, Y, Y, Y, Y, Y, Y, Y, Y, Y, Z, Z] rfl rfl (any_of HT_.out (by kernel_rfl)) (fun _ _ _ h => h) (Or.inl ⟨by rfl, ?_⟩) ?_ ?_
          rotate_left
          ·
           intro w'
           go_simp
           with_reducible rfl
          rotate_left
          ·
           simp only [pA]
           rfl
          exact norm_ (by simp only [putAll, Act.put, List.setIfInBounds_toArray, List.set_cons_zero, List.set_cons_succ]) (hCont (gb244) _ ⟨hHeld, (by (with_reducible repeat (first | apply Kd.R_alloc | apply Kd.R_drewN | apply Kd.R_drew)); exact Kd.R_mono HO_9.out (fun _ hk => hk.2)), (bkA BK233), (bkA BK244), GW244.out, GE244.out, NB233_244.out, NB244_233.out, blA⟩)
        rintro gb244 w20 ⟨hS_, h0_, h1_, h2_, h3_, h4_, h5_, h6_, h7_⟩
        have BK244 := Aside0.mk h2_
        have GW244 := Aside0.mk h3_
        have GE244 := Aside0.mk h4_
        have NB233_244 := Aside0.mk h5_
        have NB244_233 := Aside0.mk h6_
        replace HO_9 := Aside0.mk h0_
        replace BK233 := Aside0.mk h1_
        replace HB := Aside0.mk h7_
        clear h0_ h1_ h2_ h3_ h4_ h5_ h6_ h7_
        have hHeld : w20.cell? ⟨gb233, 0, none⟩ = some (.int .i64 a1_0) ∧ w20.cell? ⟨gb233, 1, none⟩ = some (.int .i64 a1_1) ∧ w20.cell? ⟨gb233, 2, none⟩ = some (.int .i64 a1_2) ∧ w20.cell? ⟨gb233, 3, none⟩ = some (.int .i64 a1_3) ∧ w20.cell? (ad239.add ((x12_1).toNat * 3)) = some (.int .i64 ((rd_T39 t235 x12_1).f0)) ∧ w20.cell? ⟨(ad239.add ((x12_1).toNat * 3)).block, (ad239.add ((x12_1).toNat * 3)).off + 1, none⟩ = some (.int .i64 ((rd_T39 t235 x12_1).f1)) ∧ w20.cell? ⟨(ad239.add ((x12_1).toNat * 3)).block, (ad239.add ((x12_1).toNat * 3)).off + 2, none⟩ = some (.int .i64 ((rd_T39 t235 x12_1).f2)) := hS_
        refine norm_ (a' := ?_) ?_ ?_
        rotate_left
        ·
         simp only [putAll, Act.put, List.setIfInBounds_toArray, List.set_cons_zero, List.set_cons_succ]
         rfl
        refine one_ (i := 11) (N := none) #[Y, Y, Y, Y, Y, Y, Y, Y, Y, Y, Y, Y, Z] rfl rfl (one_of HT_.out (by kernel_rfl)) (by decide) (fun K hK => ?_)
        have hs21 : w20.cell? ⟨gb244, 0, none⟩ = some (.int .i64 0) := cA BK244 0
        have hfs21 := blk_frozen BK244.out 0
        have hns21_0 := NB233_244.out
        have hms21_0 := NB244_233.out
        have hs22 : w20.cell? ⟨gb244, 1, none⟩ = some (.int .i64 0) := cA BK244 1
        have hfs22 := blk_frozen BK244.out 1
        have hns22_0 := NB233_244.out
        have hms22_0 := NB244_233.out
        have hs23 : w20.cell? ⟨gb244, 2, none⟩ = some (.int .i64 0) := cA BK244 2
        have hfs23 := blk_frozen BK244.out 2
        have hns23_0 := NB233_244.out
        have hms23_0 := NB244_233.out
        refine skip_ (w1 := ?_) (by rfl) rfl ?_ ?_
        rotate_left
        ·
         go_simp
         rfl
        refine hK.out _ _ ⟨((cell_far (p := ⟨gb244, _, none⟩) NB233_244.out _).trans (((cell_far (p := ⟨gb244, _, none⟩) NB233_244.out _).trans (((cell_far (p := ⟨gb244, _, none⟩) NB233_244.out _).trans (hHeld.1)))))), ((cell_far (p := ⟨gb244, _, none⟩) NB233_244.out _).trans (((cell_far (p := ⟨gb244, _, none⟩) NB233_244.out _).trans (((cell_far (p := ⟨gb244, _, none⟩) NB233_244.out _).trans (hHeld.2.1)))))), ((cell_far (p := ⟨gb244, _, none⟩) NB233_244.out _).trans (((cell_far (p := ⟨gb244, _, none⟩) NB233_244.out _).trans (((cell_far (p := ⟨gb244, _, none⟩) NB233_244.out _).trans (hHeld.2.2.1)))))), ((cell_far (p := ⟨gb244, _, none⟩) NB233_244.out _).trans (((cell_far (p := ⟨gb244, _, none⟩) NB233_244.out _).trans (((cell_far (p := ⟨gb244, _, none⟩) NB233_244.out _).trans (hHeld.2.2.2.1)))))), ((cell_far (p := ⟨gb244, _, none⟩) (fB (Kd.own_blk (Kd.R_away HO_9.out (fun _ hk => hk)))) _).trans (((cell_far (p := ⟨gb244, _, none⟩) (fB (Kd.own_blk (Kd.R_away HO_9.out (fun _ hk => hk)))) _).trans (((cell_far (p := ⟨gb244, _, none⟩) (fB (Kd.own_blk (Kd.R_away HO_9.out (fun _ hk => hk)))) _).trans (hHeld.2.2.2.2.1)))))), ((cell_far (p := ⟨gb244, _, none⟩) (fB (Kd.own_blk (Kd.R_away HO_9.out (fun _ hk => hk)))) _).trans (((cell_far (p := ⟨gb244, _, none⟩) (fB (Kd.own_blk (Kd.R_away HO_9.out (fun _ hk => hk)))) _).trans (((cell_far (p := ⟨gb244, _, none⟩) (fB (Kd.own_blk (Kd.R_away HO_9.out (fun _ hk => hk)))) _).trans (hHeld.2.2.2.2.2.1)))))), ((cell_far (p := ⟨gb244, _, none⟩) (fB (Kd.own_blk (Kd.R_away HO_9.out (fun _ hk => hk)))) _).trans (((cell_far (p := ⟨gb244, _, none⟩) (fB (Kd.own_blk (Kd.R_away HO_9.out (fun _ hk => hk)))) _).trans (((cell_far (p := ⟨gb244, _, none⟩) (fB (Kd.own_blk (Kd.R_away HO_9.out (fun _ hk => hk)))) _).trans (hHeld.2.2.2.2.2.2))))))⟩ (fun hHeld => ?_)
        clear hK K
        refine pure_ (i := 12) (N := some 14) (v := ?_) (a' := ?_) #[Y, Y, Y, Y, Y, Y, Y, Y, Y, Y, Y, Y, Y] rfl rfl (any_of HT_.out (by kernel_rfl)) (fun _ _ _ h => h) (Or.inl ⟨by rfl, ?_⟩) ?_ ?_
        rotate_left
        ·
         intro w'
         go_simp
         with_reducible rfl
        rotate_left
        ·
         simp only [pA]
         rfl
        refine done_ (done_of HT_.out (by kernel_rfl)) ?_
        try go_wp2
        have n0_ : Aside0 (Kd.R k39 39 (((w20.setCell ⟨gb244, 0, none⟩ (.int .i64 t240)).setCell ⟨gb244, 1, none⟩ (.int .i64 t241)).setCell ⟨gb244, 2, none⟩ (.int .i64 t242)) w.heap.size (fun k_ => k_ ≠ gb244) (.slice (some ad239) t235.length co16) t235) := ⟨by (with_reducible repeat (first | apply Kd.R_alloc | apply Kd.R_drewN | apply Kd.R_drew)); exact Kd.R_mono (Kd.R_far (p := ⟨gb244, 2, none⟩) (Kd.R_far (p := ⟨gb244, 1, none⟩) (Kd.R_far (p := ⟨gb244, 0, none⟩) (Kd.R_mono HO_9.out (fun k_ hk => (⟨hk, hk⟩ : _ ∧ k_ ≠ gb244))) (fun _ hk => hk.2) (.int .i64 t240)) (fun _ hk => hk.2) (.int .i64 t241)) (fun _ hk => hk.2) (.int .i64 t242)) (fun _ hk => hk.1)⟩
        have n1_ : Aside0 ((((w20.setCell ⟨gb244, 0, none⟩ (.int .i64 t240)).setCell ⟨gb244, 1, none⟩ (.int .i64 t241)).setCell ⟨gb244, 2, none⟩ (.int .i64 t242)).heap[gb233]? = some (.cells #[.int .i64 a1_0, .int .i64 a1_1, .int .i64 a1_2, .int .i64 a1_3] 26 (0, 0))) := ⟨bkF BK233⟩
        have n2_ : Aside0 ((((w20.setCell ⟨gb244, 0, none⟩ (.int .i64 t240)).setCell ⟨gb244, 1, none⟩ (.int .i64 t241)).setCell ⟨gb244, 2, none⟩ (.int .i64 t242)).heap[gb244]? = some (.cells #[.int .i64 t240, .int .i64 t241, .int .i64 t242] 39 (0, 0))) := ⟨by (with_reducible repeat (first | refine blk_drewN ?_ _ | refine blk_drew ?_ | refine blk_alloc ?_ _)); refine blk_put (cs := #[.int .i64 t240, .int .i64 t241, .int .i64 0]) ?_ 2 _ rfl; (with_reducible repeat (first | refine blk_drewN ?_ _ | refine blk_drew ?_ | refine blk_alloc ?_ _)); refine blk_put (cs := #[.int .i64 t240, .int .i64 0, .int .i64 0]) ?_ 1 _ rfl; (with_reducible repeat (first | refine blk_drewN ?_ _ | refine blk_drew ?_ | refine blk_alloc ?_ _)); refine blk_put (cs := #[.int .i64 0, .int .i64 0, .int .i64 0]) ?_ 0 _ rfl; (with_reducible repeat (first | refine blk_drewN ?_ _ | refine blk_drew ?_ | refine blk_alloc ?_ _)); exact BK244.out⟩
        have n3_ : Aside0 (Below w.heap.size w (((w20.setCell ⟨gb244, 0, none⟩ (.int .i64 t240)).setCell ⟨gb244, 1, none⟩ (.int .i64 t241)).setCell ⟨gb244, 2, none⟩ (.int .i64 t242))) := ⟨blA⟩
        (try clear HO_9)
        (try clear BK233)
        (try clear BK244)
        (try clear HB)
        generalize (((w20.setCell ⟨gb244, 0, none⟩ (.int .i64 t240)).setCell ⟨gb244, 1, none⟩ (.int .i64 t241)).setCell ⟨gb244, 2, none⟩ (.int .i64 t242)) = w24 at n0_ n1_ n2_ n3_ ⊢
        have HO_9 := n0_
        have BK233 := n1_
        have BK244 := n2_
        have HB := n3_
        clear n0_ n1_ n2_ n3_
        have n0_ := Aside0.mk (Kd.R_drew HO_9.out)
        have n1_ := Aside0.mk (blk_drew BK233.out)
        have n2_ := Aside0.mk (blk_drew BK244.out)
        have n3_ := Aside0.mk (below_drew1 HB.out)
        clear HO_9
        clear BK233
        clear BK244
        clear HB
        have HO_9 := n0_
        have BK233 := n1_
        have BK244 := n2_
        have HB := n3_
        clear n0_ n1_ n2_ n3_
        have p245 : 0 ≤ (x12_1 : Int) := dA
        have q245 : x12_1 < (t235.length : Int) := dA
        obtain ⟨ad245, e245, hx245_0, hx245_1, hx245_2⟩ := at_T39 (Kd.R_reads' HO_9.out).2.2 x12_1 p245 q245
        obtain rfl : ad239 = ad245 := (by injection e245)
        replace p245 := eq_true p245
        replace q245 := eq_true q245
        refine start_ (n := 9) (S := fun w' => w'.cell? ⟨gb244, 0, none⟩ = some (.int .i64 t240) ∧ w'.cell? ⟨gb244, 1, none⟩ = some (.int .i64 t241) ∧ w'.cell? ⟨gb244, 2, none⟩ = some (.int .i64 t242) ∧ w'.cell? (ad239.add ((x12_1).toNat * 3)) = some (.int .i64 ((rd_T39 t235 x12_1).f0)) ∧ w'.cell? ⟨(ad239.add ((x12_1).toNat * 3)).block, (ad239.add ((x12_1).toNat * 3)).off + 1, none⟩ = some (.int .i64 ((rd_T39 t235 x12_1).f1)) ∧ w'.cell? ⟨(ad239.add ((x12_1).toNat * 3)).block, (ad239.add ((x12_1).toNat * 3)).off + 2, none⟩ = some (.int .i64 ((rd_T39 t235 x12_1).f2))) (ds := []) #[Z, Z, Z, Z, Z, Z, Z, Z, Z] (by kernel_rfl) rfl rfl ⟨cA BK244 0, cA BK244 1, cA BK244 2, hx245_0, hx245_1, hx245_2⟩ (fun hHeld => ?_); refine with_tabW spec_CountFixedOn.tab10 spec_CountFixedOn.bits10 (fun HT_ HW_ => ?_)
        generalize w24.drew = w25 at HO_9 BK233 BK244 HB hx245_0 hx245_1 hx245_2 hHeld ⊢
        refine pure_ (i := 0) (N := some 45) (v := ?_) (a' := ?_) #[Y, Z, Z, Z, Z, Z, Z, Z, Z] rfl rfl (any_of HT_.out (by kernel_rfl)) (fun _ _ _ h => h) (Or.inl ⟨by rfl, ?_⟩) ?_ ?_
        rotate_left
        ·
         intro w'
         go_simp
         with_reducible rfl
        rotate_left
        ·
         simp only [pA]
         rfl
        refine pure_ (i := 1) (N := some 46) (v := ?_) (a' := ?_) #[Y, Y, Z, Z, Z, Z, Z, Z, Z] rfl rfl (any_of HT_.out (by kernel_rfl)) (fun _ _ _ h => h) (Or.inl ⟨by rfl, ?_⟩) ?_ ?_
        rotate_left
        ·
         intro w'
         go_simp
         with_reducible rfl
        rotate_left
        ·
         simp only [pA]
         rfl
        refine pure_ (i := 3) (N := some 48) (v := ?_) (a' := ?_) #[Y, Y, Z, Y, Z, Z, Z, Z, Z] rfl rfl (any_of HT_.out (by kernel_rfl)) (fun _ _ _ h => h) (Or.inl ⟨by rfl, ?_⟩) ?_ ?_
        rotate_left
        ·
         intro w'
         go_simp
         with_reducible rfl
        rotate_left
        ·
         simp only [pA]
         rfl
        refine pure_ (i := 4) (N := some 49) (v := ?_) (a' := ?_) #[Y, Y, Z, Y, Y, Z, Z, Z, Z] rfl rfl (any_of HT_.out (by kernel_rfl)) (fun _ _ _ h => h) (Or.inl ⟨by rfl, ?_⟩) ?_ ?_
        rotate_left
        ·
         intro w'
         go_simp
         with_reducible rfl
        rotate_left
        ·
         simp only [pA]
         rfl
        refine pure_ (i := 5) (N := some 50) (v := ?_) (a' := ?_) #[Y, Y, Z, Y, Y, Y, Z, Z, Z] rfl rfl (any_of HT_.out (by kernel_rfl)) (fun _ _ _ h => h) (Or.inl ⟨by rfl, ?_⟩) ?_ ?_
        rotate_left
        ·
         intro w'
         go_simp
         with_reducible rfl
        rotate_left
        ·
         simp only [pA]
         rfl
        refine take_ (i := 2) (N := some 47) (v := ?_) (a' := ?_) #[Y, Y, Y, Y, Y, Y, Z, Z, Z] rfl rfl (take_ofW HT_.out HW_.out (by kernel_rfl)) (fun _ _ _ h => h) (Or.inl ⟨by rfl, ?_⟩) hHeld ?_ ?_
        rotate_left
        ·
         rintro w' ⟨s0, s1, s2, s3, s4, s5⟩
         go_simp
         with_reducible rfl
        rotate_left
        ·
         simp only [pA]
         rfl
        refine take_ (i := 6) (N := some 51) (v := ?_) (a' := ?_) #[Y, Y, Y, Y, Y, Y, Y, Z, Z] rfl rfl (take_ofW HT_.out HW_.out (by kernel_rfl)) (fun _ _ _ h => h) (Or.inl ⟨by rfl, ?_⟩) hHeld ?_ ?_
        rotate_left
        ·
         rintro w' ⟨s0, s1, s2, s3, s4, s5⟩
         go_simp
         with_reducible rfl
        rotate_left
        ·
         simp only [pA]
         rfl
        refine pure_ (i := 7) (N := some 52) (v := ?_) (a' := ?_) #[Y, Y, Y, Y, Y, Y, Y, Y, Z] rfl rfl (any_of HT_.out (by kernel_rfl)) (fun _ _ _ h => h) (Or.inl ⟨by rfl, ?_⟩) ?_ ?_
        rotate_left
        ·
         intro w'
         go_simp
         with_reducible rfl
        rotate_left
        ·
         simp only [pA]
         rfl
        refine pure_ (i := 8) (N := some 53) (v := ?_) (a' := ?_) #[Y, Y, Y, Y, Y, Y, Y, Y, Y] rfl rfl (any_of HT_.out (by kernel_rfl)) (fun _ _ _ h => h) (Or.inl ⟨by rfl, ?_⟩) ?_ ?_
        rotate_left
        ·
         intro w'
         go_simp
         with_reducible rfl
        rotate_left
        ·
         simp only [pA]
         rfl
        refine done_ (done_of HT_.out (by kernel_rfl)) ?_
        try go_wp2
        go_roundg k1
        case measure => have := HK1.out; omega
        case rel => exact ⟨(wrap64 (x11_1 + 1)), (wrap64 (x12_1 + 1)), hB, hB, H', ⟨by have := HK1.out; omega⟩, ⟨by (with_reducible repeat (first | apply Kd.R_alloc | apply Kd.R_drewN | apply Kd.R_drew)); exact Kd.R_mono HO_9.out (fun _ hk => trivial)⟩, ⟨bkA BK233⟩, ⟨blA⟩⟩
       ·
        rw [if_neg c15] at H
        have c15b0 : (t240 == ((rd_T39 t235 x12_1).f0) && (t241 == ((rd_T39 t235 x12_1).f1) && (t242 == ((rd_T39 t235 x12_1).f2)))) = false := by simpa using c15
        (try (have c15b1 : decide (t240 = ((rd_T39 t235 x12_1).f0) && (t241 == ((rd_T39 t235 x12_1).f1) && (t242 == ((rd_T39 t235 x12_1).f2)))) = false := by simpa using c15))
        (try (have c15b2 : (t240 == ((rd_T39 t235 x12_1).f0) && (t241 == ((rd_T39 t235 x12_1).f1) && (t242 == ((rd_T39 t235 x12_1).f2)))) = false := by simpa using c15))
        (try (have c15b3 : ¬ (t240 = ((rd_T39 t235 x12_1).f0) && (t241 == ((rd_T39 t235 x12_1).f1) && (t242 == ((rd_T39 t235 x12_1).f2)))) := by simpa using c15))
        clear c15
        have H' := Aside0.mk H
        clear H
        obtain ⟨Ao26, co26, eo26⟩ := Kd.R_slice HO_9.out
        subst eo26
        try go_wp2
        have n0_ := Aside0.mk (Kd.R_drew HO_9.out)
        have n1_ := Aside0.mk (blk_drew BK233.out)
        have n2_ := Aside0.mk (below_drew1 HB.out)
        clear HO_9
        clear BK233
        clear HB
        have HO_9 := n0_
        have BK233 := n1_
        have HB := n2_
        clear n0_ n1_ n2_
        have p239 : 0 ≤ (x12_1 : Int) := dA
        have q239 : x12_1 < (t235.length : Int) := dA
        obtain ⟨ad239, e239, hx239_0, hx239_1, hx239_2⟩ := at_T39 (Kd.R_reads' HO_9.out).2.2 x12_1 p239 q239
        cases e239
        replace p239 := eq_true p239
        replace q239 := eq_true q239
        refine start_ (n := 13) (S := fun w' => w'.cell? ⟨gb233, 0, none⟩ = some (.int .i64 a1_0) ∧ w'.cell? ⟨gb233, 1, none⟩ = some (.int .i64 a1_1) ∧ w'.cell? ⟨gb233, 2, none⟩ = some (.int .i64 a1_2) ∧ w'.cell? ⟨gb233, 3, none⟩ = some (.int .i64 a1_3) ∧ w'.cell? (ad239.add ((x12_1).toNat * 3)) = some (.int .i64 ((rd_T39 t235 x12_1).f0)) ∧ w'.cell? ⟨(ad239.add ((x12_1).toNat * 3)).block, (ad239.add ((x12_1).toNat * 3)).off + 1, none⟩ = some (.int .i64 ((rd_T39 t235 x12_1).f1)) ∧ w'.cell? ⟨(ad239.add ((x12_1).toNat * 3)).block, (ad239.add ((x12_1).toNat * 3)).off + 2, none⟩ = some (.int .i64 ((rd_T39 t235 x12_1).f2))) (ds := []) #[Z, Z, Z, Z, Z, Z, Z, Z, Z, Z, Z, Z, Z] (by kernel_rfl) rfl rfl ⟨cA BK233 0, cA BK233 1, cA BK233 2, cA BK233 3, hx239_0, hx239_1, hx239_2⟩ (fun hHeld => ?_); refine with_tabW spec_CountFixedOn.tab9 spec_CountFixedOn.bits9 (fun HT_ HW_ => ?_)
        generalize wr.drew = w27 at HO_9 BK233 HB hx239_0 hx239_1 hx239_2 hHeld ⊢
        refine pure_ (i := 0) (N := some 36) (v := ?_) (a' := ?_) #[Y, Z, Z, Z, Z, Z, Z, Z, Z, Z, Z, Z, Z] rfl rfl (any_of HT_.out (by kernel_rfl)) (fun _ _ _ h => h) (Or.inl ⟨by rfl, ?_⟩) ?_ ?_
        rotate_left
        ·
         intro w'
         go_simp
         with_reducible rfl
        rotate_left
        ·
         simp only [pA]
         rfl
        refine pure_ (i := 2) (N := some 38) (v := ?_) (a' := ?_) #[Y, Z, Y, Z, Z, Z, Z, Z, Z, Z, Z, Z, Z] rfl rfl (any_of HT_.out (by kernel_rfl)) (fun _ _ _ h => h) (Or.inl ⟨by rfl, ?_⟩) ?_ ?_
        rotate_left
        ·
         intro w'
         go_simp
         with_reducible rfl
        rotate_left
        ·
         simp only [pA]
         rfl
        refine pure_ (i := 3) (N := some 39) (v := ?_) (a' := ?_) #[Y, Z, Y, Y, Z, Z, Z, Z, Z, Z, Z, Z, Z] rfl rfl (any_of HT_.out (by kernel_rfl)) (fun _ _ _ h => h) (Or.inl ⟨by rfl, ?_⟩) ?_ ?_
        rotate_left
        ·
         intro w'
         go_simp
         with_reducible rfl
        rotate_left
        ·
         simp only [pA]
         rfl
        refine pure_ (i := 4) (N := some 40) (v := ?_) (a' := ?_) #[Y, Z, Y, Y, Y, Z, Z, Z, Z, Z, Z, Z, Z] rfl rfl (any_of HT_.out (by kernel_rfl)) (fun _ _ _ h => h) (Or.inl ⟨by rfl, ?_⟩) ?_ ?_
        rotate_left
        ·
         intro w'
         go_simp
         with_reducible rfl
        rotate_left
        ·
         simp only [pA]
         rfl
        refine take_ (i := 1) (N := some 37) (v := ?_) (a' := ?_) #[Y, Y, Y, Y, Y, Z, Z, Z, Z, Z, Z, Z, Z] rfl rfl (take_ofW HT_.out HW_.out (by kernel_rfl)) (fun _ _ _ h => h) (Or.inl ⟨by rfl, ?_⟩) hHeld ?_ ?_
        rotate_left
        ·
         rintro w' ⟨s0, s1, s2, s3, s4, s5, s6⟩
         go_simp
         with_reducible rfl
        rotate_left
        ·
         simp only [pA]
         rfl
        refine take_ (i := 5) (N := some 41) (v := ?_) (a' := ?_) #[Y, Y, Y, Y, Y, Y, Z, Z, Z, Z, Z, Z, Z] rfl rfl (take_ofW HT_.out HW_.out (by kernel_rfl)) (fun _ _ _ h => h) (Or.inl ⟨by rfl, ?_⟩) hHeld ?_ ?_
        rotate_left
        ·
         rintro w' ⟨s0, s1, s2, s3, s4, s5, s6⟩
         go_simp
         with_reducible rfl
        rotate_left
        ·
         simp only [pA]
         rfl
        refine join_ (σ := Nat) 2 #[Y, Y, Y, Y, Y, Y, Y, Y, Y, Y, Y, Z, Z] (fun s_ => [(42, .tuple #[.agg #[.int .i64 t240, .int .i64 t241, .int .i64 t242], .bool true]), (13, .pointer (some ⟨s_, 0, none⟩)), (35, .tuple #[.agg #[.int .i64 t240, .int .i64 t241, .int .i64 t242], .bool true]), (43, .agg #[.int .i64 t240, .int .i64 t241, .int .i64 t242]), (44, .bool true)]) (fun s_ w' => (w'.cell? ⟨gb233, 0, none⟩ = some (.int .i64 a1_0) ∧ w'.cell? ⟨gb233, 1, none⟩ = some (.int .i64 a1_1) ∧ w'.cell? ⟨gb233, 2, none⟩ = some (.int .i64 a1_2) ∧ w'.cell? ⟨gb233, 3, none⟩ = some (.int .i64 a1_3) ∧ w'.cell? (ad239.add ((x12_1).toNat * 3)) = some (.int .i64 ((rd_T39 t235 x12_1).f0)) ∧ w'.cell? ⟨(ad239.add ((x12_1).toNat * 3)).block, (ad239.add ((x12_1).toNat * 3)).off + 1, none⟩ = some (.int .i64 ((rd_T39 t235 x12_1).f1)) ∧ w'.cell? ⟨(ad239.add ((x12_1).toNat * 3)).block, (ad239.add ((x12_1).toNat * 3)).off + 2, none⟩ = some (.int .i64 ((rd_T39 t235 x12_1).f2))) ∧ (Kd.R k39 39 w' w.heap.size (fun k_ => k_ ≠ s_) (.slice (some ad239) t235.length co26) t235) ∧ (w'.heap[gb233]? = some (.cells #[.int .i64 a1_0, .int .i64 a1_1, .int .i64 a1_2, .int .i64 a1_3] 26 (0, 0))) ∧ (w'.heap[s_]? = some (.cells #[.int .i64 0, .int .i64 0, .int .i64 0] 39 (0, 0))) ∧ (w.heap.size ≤ s_) ∧ (w.heap.size ≤ s_) ∧ (gb233 ≠ s_) ∧ (s_ ≠ gb233) ∧ (Below w.heap.size w w')) ?_ ?_
        rotate_left
        ·
         intro hCont
         refine two_ (i := 6) (j := 10) (Ni := some 42) (Nj := some 13) #[Y, Y, Y, Y, Y, Y, Y, Z, Z, Z, Z, Z, Z] #[Y, Y, Y, Y, Y, Y, Z, Z, Z, Z, Y, Z, Z] rfl rfl rfl rfl (two_of HT_.out (by kernel_rfl)) (by decide) (by decide) (fun K hK => ?_) (fun K hK => ?_)
         ·
          skip
          refine goes_ Try.func62 (by kernel_rfl) rfl #[.int .i64 a0, .agg #[.int .i64 a1_0, .int .i64 a1_1, .int .i64 a1_2, .int .i64 a1_3], .agg #[.int .i64 ((rd_T39 t235 x12_1).f0), .int .i64 ((rd_T39 t235 x12_1).f1), .int .i64 ((rd_T39 t235 x12_1).f2)]] (by rfl) rfl rfl hA ?_
          with_reducible refine (spec_l04Move.calls k1 a0 a1_0 a1_1 a1_2 a1_3 ((rd_T39 t235 x12_1).f0) ((rd_T39 t235 x12_1).f1) ((rd_T39 t235 x12_1).f2) t240 t241 t242 true _ A13.out).mono ?_
          rintro e w28 ⟨rfl, hb⟩
          have HS4_ := (hb.cell (World.block_lt_of_cell? _ _ (hHeld.2.2.2.2.1))).trans (hHeld.2.2.2.2.1)
          have HS5_ := (hb.cell (World.block_lt_of_cell? _ _ (hHeld.2.2.2.2.2.1))).trans (hHeld.2.2.2.2.2.1)
          have HS6_ := (hb.cell (World.block_lt_of_cell? _ _ (hHeld.2.2.2.2.2.2))).trans (hHeld.2.2.2.2.2.2)
          refine ⟨_, rfl, ?_⟩
          replace HO_9 := Aside0.mk (Kd.R_below (rA HO_9) hb)
          replace BK233 := kB BK233 hb
          replace HB := lB hb
          (try clear hb)
          (try clear hb2)
          (try clear hk)
          (try clear hi)
          refine hK.out _ _ ⟨cA BK233 0, cA BK233 1, cA BK233 2, cA BK233 3, HS4_, HS5_, HS6_⟩ (fun hHeld => ?_)
          clear hK K
          refine norm_ (a' := ?_) ?_ ?_
          rotate_left
          ·
           show Act.put _ (some 42) _ = _
           simp only [pA]
           rfl
          refine pure_ (i := 7) (N := some 35) (v := ?_) (a' := ?_) #[Y, Y, Y, Y, Y, Y, Y, Y, Z, Z, Z, Z, Z] rfl rfl (any_of HT_.out (by kernel_rfl)) (fun _ _ _ h => h) (Or.inl ⟨by rfl, ?_⟩) ?_ ?_
          rotate_left
          ·
           intro w'
           go_simp
           with_reducible rfl
          rotate_left
          ·
           simp only [pA]
           rfl
          refine pure_ (i := 8) (N := some 43) (v := ?_) (a' := ?_) #[Y, Y, Y, Y, Y, Y, Y, Y, Y, Z, Z, Z, Z] rfl rfl (any_of HT_.out (by kernel_rfl)) (fun _ _ _ h => h) (Or.inl ⟨by rfl, ?_⟩) ?_ ?_
          rotate_left
          ·
           intro w'
           go_simp
           with_reducible rfl
          rotate_left
          ·
           simp only [pA]
           rfl
          refine pure_ (i := 9) (N := some 44) (v := ?_) (a' := ?_) #[Y, Y, Y, Y, Y, Y, Y, Y, Y, Y, Z, Z, Z] rfl rfl (any_of HT_.out (by kernel_rfl)) (fun _ _ _ h => h) (Or.inl ⟨by rfl, ?_⟩) ?_ ?_
          rotate_left
          ·
           intro w'
           go_simp
           with_reducible rfl
          rotate_left
          ·
           simp only [pA]
           rfl
          refine one_ (i := 10) (N := some 13) #[Y, Y, Y, Y, Y, Y, Y, Y, Y, Y, Y, Z, Z] rfl rfl (one_of HT_.out (by kernel_rfl)) (by decide) (fun K hK => ?_)
          refine box_step ?hg (N := 13) ?hd (cs := #[.int .i64 0, .int .i64 0, .int .i64 0]) (t := 39) ?hr ?_; (case hd => rfl); (case hg => rfl); (case hr => first | (go_simp; done) | (go_simp; rfl))
          intro gb244 hg w29 hbox hb
          have HS4_ := (hb.cell (World.block_lt_of_cell? _ _ (hHeld.2.2.2.2.1))).trans (hHeld.2.2.2.2.1)
          have HS5_ := (hb.cell (World.block_lt_of_cell? _ _ (hHeld.2.2.2.2.2.1))).trans (hHeld.2.2.2.2.2.1)
          have HS6_ := (hb.cell (World.block_lt_of_cell? _ _ (hHeld.2.2.2.2.2.2))).trans (hHeld.2.2.2.2.2.2)
          have BK244 := Aside0.mk (hbox)
          have GW244 := sA hg
          have GE244 := sA hg
          have NB233_244 := nA hg BK233
          have NB244_233 := nB hg BK233
          replace HO_9 := Aside0.mk (Kd.R_below (Kd.R_elderB (rA HO_9) gb244 (Nat.le_of_eq hg.symm)) hb)
          replace BK233 := kB BK233 hb
          replace HB := lB hb
          clear hb hbox hg
          refine hK.out _ _ ⟨cA BK233 0, cA BK233 1, cA BK233 2, cA BK233 3, HS4_, HS5_, HS6_⟩ (fun hHeld => ?_)
          clear hK K
          refine norm_ (a' := ?_) ?_ ?_
          rotate_left
          ·
           show Act.put _ (some 13) _ = _
           simp only [pA]
           rfl
          exact norm_ (by simp only [putAll, Act.put, List.setIfInBounds_toArray, List.set_cons_zero, List.set_cons_succ]) (hCont (gb244) _ ⟨hHeld, (by (with_reducible repeat (first | apply Kd.R_alloc | apply Kd.R_drewN | apply Kd.R_drew)); exact Kd.R_mono HO_9.out (fun _ hk => hk.2)), (bkA BK233), (bkA BK244), GW244.out, GE244.out, NB233_244.out, NB244_233.out, blA⟩)
         ·
          skip
          refine box_step ?hg (N := 13) ?hd (cs := #[.int .i64 0, .int .i64 0, .int .i64 0]) (t := 39) ?hr ?_; (case hd => rfl); (case hg => rfl); (case hr => first | (go_simp; done) | (go_simp; rfl))
          intro gb244 hg w28 hbox hb
          have HS4_ := (hb.cell (World.block_lt_of_cell? _ _ (hHeld.2.2.2.2.1))).trans (hHeld.2.2.2.2.1)
          have HS5_ := (hb.cell (World.block_lt_of_cell? _ _ (hHeld.2.2.2.2.2.1))).trans (hHeld.2.2.2.2.2.1)
          have HS6_ := (hb.cell (World.block_lt_of_cell? _ _ (hHeld.2.2.2.2.2.2))).trans (hHeld.2.2.2.2.2.2)
          have BK244 := Aside0.mk (hbox)
          have GW244 := sA hg
          have GE244 := sA hg
          have NB233_244 := nA hg BK233
          have NB244_233 := nB hg BK233
          replace HO_9 := Aside0.mk (Kd.R_below (Kd.R_elderB (rA HO_9) gb244 (Nat.le_of_eq hg.symm)) hb)
          replace BK233 := kB BK233 hb
          replace HB := lB hb
          clear hb hbox hg
          refine hK.out _ _ ⟨cA BK233 0, cA BK233 1, cA BK233 2, cA BK233 3, HS4_, HS5_, HS6_⟩ (fun hHeld => ?_)
          clear hK K
          refine norm_ (a' := ?_) ?_ ?_
          rotate_left
          ·
           show Act.put _ (some 13) _ = _
           simp only [pA]
           rfl
          refine one_ (i := 6) (N := some 42) #[Y, Y, Y, Y, Y, Y, Y, Z, Z, Z, Y, Z, Z] rfl rfl (one_of HT_.out (by kernel_rfl)) (by decide) (fun K hK => ?_)
          refine goes_ Try.func62 (by kernel_rfl) rfl #[.int .i64 a0, .agg #[.int .i64 a1_0, .int .i64 a1_1, .int .i64 a1_2, .int .i64 a1_3], .agg #[.int .i64 ((rd_T39 t235 x12_1).f0), .int .i64 ((rd_T39 t235 x12_1).f1), .int .i64 ((rd_T39 t235 x12_1).f2)]] (by rfl) rfl rfl hA ?_
          with_reducible refine (spec_l04Move.calls k1 a0 a1_0 a1_1 a1_2 a1_3 ((rd_T39 t235 x12_1).f0) ((rd_T39 t235 x12_1).f1) ((rd_T39 t235 x12_1).f2) t240 t241 t242 true _ A13.out).mono ?_
          rintro e w29 ⟨rfl, hb⟩
          have HS4_ := (hb.cell (World.block_lt_of_cell? _ _ (hHeld.2.2.2.2.1))).trans (hHeld.2.2.2.2.1)
          have HS5_ := (hb.cell (World.block_lt_of_cell? _ _ (hHeld.2.2.2.2.2.1))).trans (hHeld.2.2.2.2.2.1)
          have HS6_ := (hb.cell (World.block_lt_of_cell? _ _ (hHeld.2.2.2.2.2.2))).trans (hHeld.2.2.2.2.2.2)
          refine ⟨_, rfl, ?_⟩
          replace HO_9 := Aside0.mk (Kd.R_below (rA HO_9) hb)
          replace BK233 := kB BK233 hb
          replace BK244 := kB BK244 hb
          replace HB := lB hb
          (try clear hb)
          (try clear hb2)
          (try clear hk)
          (try clear hi)
          refine hK.out _ _ ⟨cA BK233 0, cA BK233 1, cA BK233 2, cA BK233 3, HS4_, HS5_, HS6_⟩ (fun hHeld => ?_)
          clear hK K
          refine norm_ (a' := ?_) ?_ ?_
          rotate_left
          ·
           show Act.put _ (some 42) _ = _
           simp only [pA]
           rfl
          refine pure_ (i := 7) (N := some 35) (v := ?_) (a' := ?_) #[Y, Y, Y, Y, Y, Y, Y, Y, Z, Z, Y, Z, Z] rfl rfl (any_of HT_.out (by kernel_rfl)) (fun _ _ _ h => h) (Or.inl ⟨by rfl, ?_⟩) ?_ ?_
          rotate_left
          ·
           intro w'
           go_simp
           with_reducible rfl
          rotate_left
          ·
           simp only [pA]
           rfl
          refine pure_ (i := 8) (N := some 43) (v := ?_) (a' := ?_) #[Y, Y, Y, Y, Y, Y, Y, Y, Y, Z, Y, Z, Z] rfl rfl (any_of HT_.out (by kernel_rfl)) (fun _ _ _ h => h) (Or.inl ⟨by rfl, ?_⟩) ?_ ?_
          rotate_left
          ·
           intro w'
           go_simp
           with_reducible rfl
          rotate_left
          ·
           simp only [pA]
           rfl
          refine pure_ (i := 9) (N := some 44) (v := ?_) (a' := ?_) #[Y, Y, Y, Y, Y, Y, Y, Y, Y, Y, Y, Z, Z] rfl rfl (any_of HT_.out (by kernel_rfl)) (fun _ _ _ h => h) (Or.inl ⟨by rfl, ?_⟩) ?_ ?_
          rotate_left
          ·
           intro w'
           go_simp
           with_reducible rfl
          rotate_left
          ·
           simp only [pA]
           rfl
          exact norm_ (by simp only [putAll, Act.put, List.setIfInBounds_toArray, List.set_cons_zero, List.set_cons_succ]) (hCont (gb244) _ ⟨hHeld, (by (with_reducible repeat (first | apply Kd.R_alloc | apply Kd.R_drewN | apply Kd.R_drew)); exact Kd.R_mono HO_9.out (fun _ hk => hk.2)), (bkA BK233), (bkA BK244), GW244.out, GE244.out, NB233_244.out, NB244_233.out, blA⟩)
        rintro gb244 w30 ⟨hS_, h0_, h1_, h2_, h3_, h4_, h5_, h6_, h7_⟩
        have BK244 := Aside0.mk h2_
        have GW244 := Aside0.mk h3_
        have GE244 := Aside0.mk h4_
        have NB233_244 := Aside0.mk h5_
        have NB244_233 := Aside0.mk h6_
        replace HO_9 := Aside0.mk h0_
        replace BK233 := Aside0.mk h1_
        replace HB := Aside0.mk h7_
        clear h0_ h1_ h2_ h3_ h4_ h5_ h6_ h7_
        have hHeld : w30.cell? ⟨gb233, 0, none⟩ = some (.int .i64 a1_0) ∧ w30.cell? ⟨gb233, 1, none⟩ = some (.int .i64 a1_1) ∧ w30.cell? ⟨gb233, 2, none⟩ = some (.int .i64 a1_2) ∧ w30.cell? ⟨gb233, 3, none⟩ = some (.int .i64 a1_3) ∧ w30.cell? (ad239.add ((x12_1).toNat * 3)) = some (.int .i64 ((rd_T39 t235 x12_1).f0)) ∧ w30.cell? ⟨(ad239.add ((x12_1).toNat * 3)).block, (ad239.add ((x12_1).toNat * 3)).off + 1, none⟩ = some (.int .i64 ((rd_T39 t235 x12_1).f1)) ∧ w30.cell? ⟨(ad239.add ((x12_1).toNat * 3)).block, (ad239.add ((x12_1).toNat * 3)).off + 2, none⟩ = some (.int .i64 ((rd_T39 t235 x12_1).f2)) := hS_
        refine norm_ (a' := ?_) ?_ ?_
        rotate_left
        ·
         simp only [putAll, Act.put, List.setIfInBounds_toArray, List.set_cons_zero, List.set_cons_succ]
         rfl
        refine one_ (i := 11) (N := none) #[Y, Y, Y, Y, Y, Y, Y, Y, Y, Y, Y, Y, Z] rfl rfl (one_of HT_.out (by kernel_rfl)) (by decide) (fun K hK => ?_)
        have hs31 : w30.cell? ⟨gb244, 0, none⟩ = some (.int .i64 0) := cA BK244 0
        have hfs31 := blk_frozen BK244.out 0
        have hns31_0 := NB233_244.out
        have hms31_0 := NB244_233.out
        have hs32 : w30.cell? ⟨gb244, 1, none⟩ = some (.int .i64 0) := cA BK244 1
        have hfs32 := blk_frozen BK244.out 1
        have hns32_0 := NB233_244.out
        have hms32_0 := NB244_233.out
        have hs33 : w30.cell? ⟨gb244, 2, none⟩ = some (.int .i64 0) := cA BK244 2
        have hfs33 := blk_frozen BK244.out 2
        have hns33_0 := NB233_244.out
        have hms33_0 := NB244_233.out
        refine skip_ (w1 := ?_) (by rfl) rfl ?_ ?_
        rotate_left
        ·
         go_simp
         rfl
        refine hK.out _ _ ⟨((cell_far (p := ⟨gb244, _, none⟩) NB233_244.out _).trans (((cell_far (p := ⟨gb244, _, none⟩) NB233_244.out _).trans (((cell_far (p := ⟨gb244, _, none⟩) NB233_244.out _).trans (hHeld.1)))))), ((cell_far (p := ⟨gb244, _, none⟩) NB233_244.out _).trans (((cell_far (p := ⟨gb244, _, none⟩) NB233_244.out _).trans (((cell_far (p := ⟨gb244, _, none⟩) NB233_244.out _).trans (hHeld.2.1)))))), ((cell_far (p := ⟨gb244, _, none⟩) NB233_244.out _).trans (((cell_far (p := ⟨gb244, _, none⟩) NB233_244.out _).trans (((cell_far (p := ⟨gb244, _, none⟩) NB233_244.out _).trans (hHeld.2.2.1)))))), ((cell_far (p := ⟨gb244, _, none⟩) NB233_244.out _).trans (((cell_far (p := ⟨gb244, _, none⟩) NB233_244.out _).trans (((cell_far (p := ⟨gb244, _, none⟩) NB233_244.out _).trans (hHeld.2.2.2.1)))))), ((cell_far (p := ⟨gb244, _, none⟩) (fB (Kd.own_blk (Kd.R_away HO_9.out (fun _ hk => hk)))) _).trans (((cell_far (p := ⟨gb244, _, none⟩) (fB (Kd.own_blk (Kd.R_away HO_9.out (fun _ hk => hk)))) _).trans (((cell_far (p := ⟨gb244, _, none⟩) (fB (Kd.own_blk (Kd.R_away HO_9.out (fun _ hk => hk)))) _).trans (hHeld.2.2.2.2.1)))))), ((cell_far (p := ⟨gb244, _, none⟩) (fB (Kd.own_blk (Kd.R_away HO_9.out (fun _ hk => hk)))) _).trans (((cell_far (p := ⟨gb244, _, none⟩) (fB (Kd.own_blk (Kd.R_away HO_9.out (fun _ hk => hk)))) _).trans (((cell_far (p := ⟨gb244, _, none⟩) (fB (Kd.own_blk (Kd.R_away HO_9.out (fun _ hk => hk)))) _).trans (hHeld.2.2.2.2.2.1)))))), ((cell_far (p := ⟨gb244, _, none⟩) (fB (Kd.own_blk (Kd.R_away HO_9.out (fun _ hk => hk)))) _).trans (((cell_far (p := ⟨gb244, _, none⟩) (fB (Kd.own_blk (Kd.R_away HO_9.out (fun _ hk => hk)))) _).trans (((cell_far (p := ⟨gb244, _, none⟩) (fB (Kd.own_blk (Kd.R_away HO_9.out (fun _ hk => hk)))) _).trans (hHeld.2.2.2.2.2.2))))))⟩ (fun hHeld => ?_)
        clear hK K
        refine pure_ (i := 12) (N := some 14) (v := ?_) (a' := ?_) #[Y, Y, Y, Y, Y, Y, Y, Y, Y, Y, Y, Y, Y] rfl rfl (any_of HT_.out (by kernel_rfl)) (fun _ _ _ h => h) (Or.inl ⟨by rfl, ?_⟩) ?_ ?_
        rotate_left
        ·
         intro w'
         go_simp
         with_reducible rfl
        rotate_left
        ·
         simp only [pA]
         rfl
        refine done_ (done_of HT_.out (by kernel_rfl)) ?_
        try go_wp2
        have n0_ : Aside0 (Kd.R k39 39 (((w30.setCell ⟨gb244, 0, none⟩ (.int .i64 t240)).setCell ⟨gb244, 1, none⟩ (.int .i64 t241)).setCell ⟨gb244, 2, none⟩ (.int .i64 t242)) w.heap.size (fun k_ => k_ ≠ gb244) (.slice (some ad239) t235.length co26) t235) := ⟨by (with_reducible repeat (first | apply Kd.R_alloc | apply Kd.R_drewN | apply Kd.R_drew)); exact Kd.R_mono (Kd.R_far (p := ⟨gb244, 2, none⟩) (Kd.R_far (p := ⟨gb244, 1, none⟩) (Kd.R_far (p := ⟨gb244, 0, none⟩) (Kd.R_mono HO_9.out (fun k_ hk => (⟨hk, hk⟩ : _ ∧ k_ ≠ gb244))) (fun _ hk => hk.2) (.int .i64 t240)) (fun _ hk => hk.2) (.int .i64 t241)) (fun _ hk => hk.2) (.int .i64 t242)) (fun _ hk => hk.1)⟩
        have n1_ : Aside0 ((((w30.setCell ⟨gb244, 0, none⟩ (.int .i64 t240)).setCell ⟨gb244, 1, none⟩ (.int .i64 t241)).setCell ⟨gb244, 2, none⟩ (.int .i64 t242)).heap[gb233]? = some (.cells #[.int .i64 a1_0, .int .i64 a1_1, .int .i64 a1_2, .int .i64 a1_3] 26 (0, 0))) := ⟨bkF BK233⟩
        have n2_ : Aside0 ((((w30.setCell ⟨gb244, 0, none⟩ (.int .i64 t240)).setCell ⟨gb244, 1, none⟩ (.int .i64 t241)).setCell ⟨gb244, 2, none⟩ (.int .i64 t242)).heap[gb244]? = some (.cells #[.int .i64 t240, .int .i64 t241, .int .i64 t242] 39 (0, 0))) := ⟨by (with_reducible repeat (first | refine blk_drewN ?_ _ | refine blk_drew ?_ | refine blk_alloc ?_ _)); refine blk_put (cs := #[.int .i64 t240, .int .i64 t241, .int .i64 0]) ?_ 2 _ rfl; (with_reducible repeat (first | refine blk_drewN ?_ _ | refine blk_drew ?_ | refine blk_alloc ?_ _)); refine blk_put (cs := #[.int .i64 t240, .int .i64 0, .int .i64 0]) ?_ 1 _ rfl; (with_reducible repeat (first | refine blk_drewN ?_ _ | refine blk_drew ?_ | refine blk_alloc ?_ _)); refine blk_put (cs := #[.int .i64 0, .int .i64 0, .int .i64 0]) ?_ 0 _ rfl; (with_reducible repeat (first | refine blk_drewN ?_ _ | refine blk_drew ?_ | refine blk_alloc ?_ _)); exact BK244.out⟩
        have n3_ : Aside0 (Below w.heap.size w (((w30.setCell ⟨gb244, 0, none⟩ (.int .i64 t240)).setCell ⟨gb244, 1, none⟩ (.int .i64 t241)).setCell ⟨gb244, 2, none⟩ (.int .i64 t242))) := ⟨blA⟩
        (try clear HO_9)
        (try clear BK233)
        (try clear BK244)
        (try clear HB)
        generalize (((w30.setCell ⟨gb244, 0, none⟩ (.int .i64 t240)).setCell ⟨gb244, 1, none⟩ (.int .i64 t241)).setCell ⟨gb244, 2, none⟩ (.int .i64 t242)) = w34 at n0_ n1_ n2_ n3_ ⊢
        have HO_9 := n0_
        have BK233 := n1_
        have BK244 := n2_
        have HB := n3_
        clear n0_ n1_ n2_ n3_
        have n0_ := Aside0.mk (Kd.R_drew HO_9.out)
        have n1_ := Aside0.mk (blk_drew BK233.out)
        have n2_ := Aside0.mk (blk_drew BK244.out)
        have n3_ := Aside0.mk (below_drew1 HB.out)
        clear HO_9
        clear BK233
        clear BK244
        clear HB
        have HO_9 := n0_
        have BK233 := n1_
        have BK244 := n2_
        have HB := n3_
        clear n0_ n1_ n2_ n3_
        have p245 : 0 ≤ (x12_1 : Int) := dA
        have q245 : x12_1 < (t235.length : Int) := dA
        obtain ⟨ad245, e245, hx245_0, hx245_1, hx245_2⟩ := at_T39 (Kd.R_reads' HO_9.out).2.2 x12_1 p245 q245
        obtain rfl : ad239 = ad245 := (by injection e245)
        replace p245 := eq_true p245
        replace q245 := eq_true q245
        refine start_ (n := 9) (S := fun w' => w'.cell? ⟨gb244, 0, none⟩ = some (.int .i64 t240) ∧ w'.cell? ⟨gb244, 1, none⟩ = some (.int .i64 t241) ∧ w'.cell? ⟨gb244, 2, none⟩ = some (.int .i64 t242) ∧ w'.cell? (ad239.add ((x12_1).toNat * 3)) = some (.int .i64 ((rd_T39 t235 x12_1).f0)) ∧ w'.cell? ⟨(ad239.add ((x12_1).toNat * 3)).block, (ad239.add ((x12_1).toNat * 3)).off + 1, none⟩ = some (.int .i64 ((rd_T39 t235 x12_1).f1)) ∧ w'.cell? ⟨(ad239.add ((x12_1).toNat * 3)).block, (ad239.add ((x12_1).toNat * 3)).off + 2, none⟩ = some (.int .i64 ((rd_T39 t235 x12_1).f2))) (ds := []) #[Z, Z, Z, Z, Z, Z, Z, Z, Z] (by kernel_rfl) rfl rfl ⟨cA BK244 0, cA BK244 1, cA BK244 2, hx245_0, hx245_1, hx245_2⟩ (fun hHeld => ?_); refine with_tabW spec_CountFixedOn.tab10 spec_CountFixedOn.bits10 (fun HT_ HW_ => ?_)
        generalize w34.drew = w35 at HO_9 BK233 BK244 HB hx245_0 hx245_1 hx245_2 hHeld ⊢
        refine pure_ (i := 0) (N := some 45) (v := ?_) (a' := ?_) #[Y, Z, Z, Z, Z, Z, Z, Z, Z] rfl rfl (any_of HT_.out (by kernel_rfl)) (fun _ _ _ h => h) (Or.inl ⟨by rfl, ?_⟩) ?_ ?_
        rotate_left
        ·
         intro w'
         go_simp
         with_reducible rfl
        rotate_left
        ·
         simp only [pA]
         rfl
        refine pure_ (i := 1) (N := some 46) (v := ?_) (a' := ?_) #[Y, Y, Z, Z, Z, Z, Z, Z, Z] rfl rfl (any_of HT_.out (by kernel_rfl)) (fun _ _ _ h => h) (Or.inl ⟨by rfl, ?_⟩) ?_ ?_
        rotate_left
        ·
         intro w'
         go_simp
         with_reducible rfl
        rotate_left
        ·
         simp only [pA]
         rfl
        refine pure_ (i := 3) (N := some 48) (v := ?_) (a' := ?_) #[Y, Y, Z, Y, Z, Z, Z, Z, Z] rfl rfl (any_of HT_.out (by kernel_rfl)) (fun _ _ _ h => h) (Or.inl ⟨by rfl, ?_⟩) ?_ ?_
        rotate_left
        ·
         intro w'
         go_simp
         with_reducible rfl
        rotate_left
        ·
         simp only [pA]
         rfl
        refine pure_ (i := 4) (N := some 49) (v := ?_) (a' := ?_) #[Y, Y, Z, Y, Y, Z, Z, Z, Z] rfl rfl (any_of HT_.out (by kernel_rfl)) (fun _ _ _ h => h) (Or.inl ⟨by rfl, ?_⟩) ?_ ?_
        rotate_left
        ·
         intro w'
         go_simp
         with_reducible rfl
        rotate_left
        ·
         simp only [pA]
         rfl
        refine pure_ (i := 5) (N := some 50) (v := ?_) (a' := ?_) #[Y, Y, Z, Y, Y, Y, Z, Z, Z] rfl rfl (any_of HT_.out (by kernel_rfl)) (fun _ _ _ h => h) (Or.inl ⟨by rfl, ?_⟩) ?_ ?_
        rotate_left
        ·
         intro w'
         go_simp
         with_reducible rfl
        rotate_left
        ·
         simp only [pA]
         rfl
        refine take_ (i := 2) (N := some 47) (v := ?_) (a' := ?_) #[Y, Y, Y, Y, Y, Y, Z, Z, Z] rfl rfl (take_ofW HT_.out HW_.out (by kernel_rfl)) (fun _ _ _ h => h) (Or.inl ⟨by rfl, ?_⟩) hHeld ?_ ?_
        rotate_left
        ·
         rintro w' ⟨s0, s1, s2, s3, s4, s5⟩
         go_simp
         with_reducible rfl
        rotate_left
        ·
         simp only [pA]
         rfl
        refine take_ (i := 6) (N := some 51) (v := ?_) (a' := ?_) #[Y, Y, Y, Y, Y, Y, Y, Z, Z] rfl rfl (take_ofW HT_.out HW_.out (by kernel_rfl)) (fun _ _ _ h => h) (Or.inl ⟨by rfl, ?_⟩) hHeld ?_ ?_
        rotate_left
        ·
         rintro w' ⟨s0, s1, s2, s3, s4, s5⟩
         go_simp
         with_reducible rfl
        rotate_left
        ·
         simp only [pA]
         rfl
        refine pure_ (i := 7) (N := some 52) (v := ?_) (a' := ?_) #[Y, Y, Y, Y, Y, Y, Y, Y, Z] rfl rfl (any_of HT_.out (by kernel_rfl)) (fun _ _ _ h => h) (Or.inl ⟨by rfl, ?_⟩) ?_ ?_
        rotate_left
        ·
         intro w'
         go_simp
         with_reducible rfl
        rotate_left
        ·
         simp only [pA]
         rfl
        refine pure_ (i := 8) (N := some 53) (v := ?_) (a' := ?_) #[Y, Y, Y, Y, Y, Y, Y, Y, Y] rfl rfl (any_of HT_.out (by kernel_rfl)) (fun _ _ _ h => h) (Or.inl ⟨by rfl, ?_⟩) ?_ ?_
        rotate_left
        ·
         intro w'
         go_simp
         with_reducible rfl
        rotate_left
        ·
         simp only [pA]
         rfl
        refine done_ (done_of HT_.out (by kernel_rfl)) ?_
        try go_wp2
        go_roundg k1
        case measure => have := HK1.out; omega
        case rel => exact ⟨(x11_1), (wrap64 (x12_1 + 1)), hB, hB, H', ⟨by have := HK1.out; omega⟩, ⟨by (with_reducible repeat (first | apply Kd.R_alloc | apply Kd.R_drewN | apply Kd.R_drew)); exact Kd.R_mono HO_9.out (fun _ hk => trivial)⟩, ⟨bkA BK233⟩, ⟨blA⟩⟩
      ·
       replace c14 := Bool.eq_false_iff.mpr c14
       subst c14
       rw [if_neg (show ¬ (false = true) by decide)] at H
       try dsimp only at H
       have H' := Aside0.mk H
       clear H
       obtain ⟨Ao36, co36, eo36⟩ := Kd.R_slice HO_9.out
       subst eo36
       try go_wp2
       have n0_ := Aside0.mk (Kd.R_drew HO_9.out)
       have n1_ := Aside0.mk (blk_drew BK233.out)
       have n2_ := Aside0.mk (below_drew1 HB.out)
       clear HO_9
       clear BK233
       clear HB
       have HO_9 := n0_
       have BK233 := n1_
       have HB := n2_
       clear n0_ n1_ n2_
       have p239 : 0 ≤ (x12_1 : Int) := dA
       have q239 : x12_1 < (t235.length : Int) := dA
       obtain ⟨ad239, e239, hx239_0, hx239_1, hx239_2⟩ := at_T39 (Kd.R_reads' HO_9.out).2.2 x12_1 p239 q239
       cases e239
       replace p239 := eq_true p239
       replace q239 := eq_true q239
       refine start_ (n := 13) (S := fun w' => w'.cell? ⟨gb233, 0, none⟩ = some (.int .i64 a1_0) ∧ w'.cell? ⟨gb233, 1, none⟩ = some (.int .i64 a1_1) ∧ w'.cell? ⟨gb233, 2, none⟩ = some (.int .i64 a1_2) ∧ w'.cell? ⟨gb233, 3, none⟩ = some (.int .i64 a1_3) ∧ w'.cell? (ad239.add ((x12_1).toNat * 3)) = some (.int .i64 ((rd_T39 t235 x12_1).f0)) ∧ w'.cell? ⟨(ad239.add ((x12_1).toNat * 3)).block, (ad239.add ((x12_1).toNat * 3)).off + 1, none⟩ = some (.int .i64 ((rd_T39 t235 x12_1).f1)) ∧ w'.cell? ⟨(ad239.add ((x12_1).toNat * 3)).block, (ad239.add ((x12_1).toNat * 3)).off + 2, none⟩ = some (.int .i64 ((rd_T39 t235 x12_1).f2))) (ds := []) #[Z, Z, Z, Z, Z, Z, Z, Z, Z, Z, Z, Z, Z] (by kernel_rfl) rfl rfl ⟨cA BK233 0, cA BK233 1, cA BK233 2, cA BK233 3, hx239_0, hx239_1, hx239_2⟩ (fun hHeld => ?_); refine with_tabW spec_CountFixedOn.tab9 spec_CountFixedOn.bits9 (fun HT_ HW_ => ?_)
       generalize wr.drew = w37 at HO_9 BK233 HB hx239_0 hx239_1 hx239_2 hHeld ⊢
       refine pure_ (i := 0) (N := some 36) (v := ?_) (a' := ?_) #[Y, Z, Z, Z, Z, Z, Z, Z, Z, Z, Z, Z, Z] rfl rfl (any_of HT_.out (by kernel_rfl)) (fun _ _ _ h => h) (Or.inl ⟨by rfl, ?_⟩) ?_ ?_
       rotate_left
       ·
        intro w'
        go_simp
        with_reducible rfl
       rotate_left
       ·
        simp only [pA]
        rfl
       refine pure_ (i := 2) (N := some 38) (v := ?_) (a' := ?_) #[Y, Z, Y, Z, Z, Z, Z, Z, Z, Z, Z, Z, Z] rfl rfl (any_of HT_.out (by kernel_rfl)) (fun _ _ _ h => h) (Or.inl ⟨by rfl, ?_⟩) ?_ ?_
       rotate_left
       ·
        intro w'
        go_simp
        with_reducible rfl
       rotate_left
       ·
        simp only [pA]
        rfl
       refine pure_ (i := 3) (N := some 39) (v := ?_) (a' := ?_) #[Y, Z, Y, Y, Z, Z, Z, Z, Z, Z, Z, Z, Z] rfl rfl (any_of HT_.out (by kernel_rfl)) (fun _ _ _ h => h) (Or.inl ⟨by rfl, ?_⟩) ?_ ?_
       rotate_left
       ·
        intro w'
        go_simp
        with_reducible rfl
       rotate_left
       ·
        simp only [pA]
        rfl
       refine pure_ (i := 4) (N := some 40) (v := ?_) (a' := ?_) #[Y, Z, Y, Y, Y, Z, Z, Z, Z, Z, Z, Z, Z] rfl rfl (any_of HT_.out (by kernel_rfl)) (fun _ _ _ h => h) (Or.inl ⟨by rfl, ?_⟩) ?_ ?_
       rotate_left
       ·
        intro w'
        go_simp
        with_reducible rfl
       rotate_left
       ·
        simp only [pA]
        rfl
       refine take_ (i := 1) (N := some 37) (v := ?_) (a' := ?_) #[Y, Y, Y, Y, Y, Z, Z, Z, Z, Z, Z, Z, Z] rfl rfl (take_ofW HT_.out HW_.out (by kernel_rfl)) (fun _ _ _ h => h) (Or.inl ⟨by rfl, ?_⟩) hHeld ?_ ?_
       rotate_left
       ·
        rintro w' ⟨s0, s1, s2, s3, s4, s5, s6⟩
        go_simp
        with_reducible rfl
       rotate_left
       ·
        simp only [pA]
        rfl
       refine take_ (i := 5) (N := some 41) (v := ?_) (a' := ?_) #[Y, Y, Y, Y, Y, Y, Z, Z, Z, Z, Z, Z, Z] rfl rfl (take_ofW HT_.out HW_.out (by kernel_rfl)) (fun _ _ _ h => h) (Or.inl ⟨by rfl, ?_⟩) hHeld ?_ ?_
       rotate_left
       ·
        rintro w' ⟨s0, s1, s2, s3, s4, s5, s6⟩
        go_simp
        with_reducible rfl
       rotate_left
       ·
        simp only [pA]
        rfl
       refine join_ (σ := Nat) 2 #[Y, Y, Y, Y, Y, Y, Y, Y, Y, Y, Y, Z, Z] (fun s_ => [(42, .tuple #[.agg #[.int .i64 t240, .int .i64 t241, .int .i64 t242], .bool false]), (13, .pointer (some ⟨s_, 0, none⟩)), (35, .tuple #[.agg #[.int .i64 t240, .int .i64 t241, .int .i64 t242], .bool false]), (43, .agg #[.int .i64 t240, .int .i64 t241, .int .i64 t242]), (44, .bool false)]) (fun s_ w' => (w'.cell? ⟨gb233, 0, none⟩ = some (.int .i64 a1_0) ∧ w'.cell? ⟨gb233, 1, none⟩ = some (.int .i64 a1_1) ∧ w'.cell? ⟨gb233, 2, none⟩ = some (.int .i64 a1_2) ∧ w'.cell? ⟨gb233, 3, none⟩ = some (.int .i64 a1_3) ∧ w'.cell? (ad239.add ((x12_1).toNat * 3)) = some (.int .i64 ((rd_T39 t235 x12_1).f0)) ∧ w'.cell? ⟨(ad239.add ((x12_1).toNat * 3)).block, (ad239.add ((x12_1).toNat * 3)).off + 1, none⟩ = some (.int .i64 ((rd_T39 t235 x12_1).f1)) ∧ w'.cell? ⟨(ad239.add ((x12_1).toNat * 3)).block, (ad239.add ((x12_1).toNat * 3)).off + 2, none⟩ = some (.int .i64 ((rd_T39 t235 x12_1).f2))) ∧ (Kd.R k39 39 w' w.heap.size (fun k_ => k_ ≠ s_) (.slice (some ad239) t235.length co36) t235) ∧ (w'.heap[gb233]? = some (.cells #[.int .i64 a1_0, .int .i64 a1_1, .int .i64 a1_2, .int .i64 a1_3] 26 (0, 0))) ∧ (w'.heap[s_]? = some (.cells #[.int .i64 0, .int .i64 0, .int .i64 0] 39 (0, 0))) ∧ (w.heap.size ≤ s_) ∧ (w.heap.size ≤ s_) ∧ (gb233 ≠ s_) ∧ (s_ ≠ gb233) ∧ (Below w.heap.size w w')) ?_ ?_
       rotate_left
       ·
        intro hCont
        refine two_ (i := 6) (j := 10) (Ni := some 42) (Nj := some 13) #[Y, Y, Y, Y, Y, Y, Y, Z, Z, Z, Z, Z, Z] #[Y, Y, Y, Y, Y, Y, Z, Z, Z, Z, Y, Z, Z] rfl rfl rfl rfl (two_of HT_.out (by kernel_rfl)) (by decide) (by decide) (fun K hK => ?_) (fun K hK => ?_)
        ·
         skip
         refine goes_ Try.func62 (by kernel_rfl) rfl #[.int .i64 a0, .agg #[.int .i64 a1_0, .int .i64 a1_1, .int .i64 a1_2, .int .i64 a1_3], .agg #[.int .i64 ((rd_T39 t235 x12_1).f0), .int .i64 ((rd_T39 t235 x12_1).f1), .int .i64 ((rd_T39 t235 x12_1).f2)]] (by rfl) rfl rfl hA ?_
         with_reducible refine (spec_l04Move.calls k1 a0 a1_0 a1_1 a1_2 a1_3 ((rd_T39 t235 x12_1).f0) ((rd_T39 t235 x12_1).f1) ((rd_T39 t235 x12_1).f2) t240 t241 t242 false _ A13.out).mono ?_
         rintro e w38 ⟨rfl, hb⟩
         have HS4_ := (hb.cell (World.block_lt_of_cell? _ _ (hHeld.2.2.2.2.1))).trans (hHeld.2.2.2.2.1)
         have HS5_ := (hb.cell (World.block_lt_of_cell? _ _ (hHeld.2.2.2.2.2.1))).trans (hHeld.2.2.2.2.2.1)
         have HS6_ := (hb.cell (World.block_lt_of_cell? _ _ (hHeld.2.2.2.2.2.2))).trans (hHeld.2.2.2.2.2.2)
         refine ⟨_, rfl, ?_⟩
         replace HO_9 := Aside0.mk (Kd.R_below (rA HO_9) hb)
         replace BK233 := kB BK233 hb
         replace HB := lB hb
         (try clear hb)
         (try clear hb2)
         (try clear hk)
         (try clear hi)
         refine hK.out _ _ ⟨cA BK233 0, cA BK233 1, cA BK233 2, cA BK233 3, HS4_, HS5_, HS6_⟩ (fun hHeld => ?_)
         clear hK K
         refine norm_ (a' := ?_) ?_ ?_
         rotate_left
         ·
          show Act.put _ (some 42) _ = _
          simp only [pA]
          rfl
         refine pure_ (i := 7) (N := some 35) (v := ?_) (a' := ?_) #[Y, Y, Y, Y, Y, Y, Y, Y, Z, Z, Z, Z, Z] rfl rfl (any_of HT_.out (by kernel_rfl)) (fun _ _ _ h => h) (Or.inl ⟨by rfl, ?_⟩) ?_ ?_
         rotate_left
         ·
          intro w'
          go_simp
          with_reducible rfl
         rotate_left
         ·
          simp only [pA]
          rfl
         refine pure_ (i := 8) (N := some 43) (v := ?_) (a' := ?_) #[Y, Y, Y, Y, Y, Y, Y, Y, Y, Z, Z, Z, Z] rfl rfl (any_of HT_.out (by kernel_rfl)) (fun _ _ _ h => h) (Or.inl ⟨by rfl, ?_⟩) ?_ ?_
         rotate_left
         ·
          intro w'
          go_simp
          with_reducible rfl
         rotate_left
         ·
          simp only [pA]
          rfl
         refine pure_ (i := 9) (N := some 44) (v := ?_) (a' := ?_) #[Y, Y, Y, Y, Y, Y, Y, Y, Y, Y, Z, Z, Z] rfl rfl (any_of HT_.out (by kernel_rfl)) (fun _ _ _ h => h) (Or.inl ⟨by rfl, ?_⟩) ?_ ?_
         rotate_left
         ·
          intro w'
          go_simp
          with_reducible rfl
         rotate_left
         ·
          simp only [pA]
          rfl
         refine one_ (i := 10) (N := some 13) #[Y, Y, Y, Y, Y, Y, Y, Y, Y, Y, Y, Z, Z] rfl rfl (one_of HT_.out (by kernel_rfl)) (by decide) (fun K hK => ?_)
         refine box_step ?hg (N := 13) ?hd (cs := #[.int .i64 0, .int .i64 0, .int .i64 0]) (t := 39) ?hr ?_; (case hd => rfl); (case hg => rfl); (case hr => first | (go_simp; done) | (go_simp; rfl))
         intro gb244 hg w39 hbox hb
         have HS4_ := (hb.cell (World.block_lt_of_cell? _ _ (hHeld.2.2.2.2.1))).trans (hHeld.2.2.2.2.1)
         have HS5_ := (hb.cell (World.block_lt_of_cell? _ _ (hHeld.2.2.2.2.2.1))).trans (hHeld.2.2.2.2.2.1)
         have HS6_ := (hb.cell (World.block_lt_of_cell? _ _ (hHeld.2.2.2.2.2.2))).trans (hHeld.2.2.2.2.2.2)
         have BK244 := Aside0.mk (hbox)
         have GW244 := sA hg
         have GE244 := sA hg
         have NB233_244 := nA hg BK233
         have NB244_233 := nB hg BK233
         replace HO_9 := Aside0.mk (Kd.R_below (Kd.R_elderB (rA HO_9) gb244 (Nat.le_of_eq hg.symm)) hb)
         replace BK233 := kB BK233 hb
         replace HB := lB hb
         clear hb hbox hg
         refine hK.out _ _ ⟨cA BK233 0, cA BK233 1, cA BK233 2, cA BK233 3, HS4_, HS5_, HS6_⟩ (fun hHeld => ?_)
         clear hK K
         refine norm_ (a' := ?_) ?_ ?_
         rotate_left
         ·
          show Act.put _ (some 13) _ = _
          simp only [pA]
          rfl
         exact norm_ (by simp only [putAll, Act.put, List.setIfInBounds_toArray, List.set_cons_zero, List.set_cons_succ]) (hCont (gb244) _ ⟨hHeld, (by (with_reducible repeat (first | apply Kd.R_alloc | apply Kd.R_drewN | apply Kd.R_drew)); exact Kd.R_mono HO_9.out (fun _ hk => hk.2)), (bkA BK233), (bkA BK244), GW244.out, GE244.out, NB233_244.out, NB244_233.out, blA⟩)
        ·
         skip
         refine box_step ?hg (N := 13) ?hd (cs := #[.int .i64 0, .int .i64 0, .int .i64 0]) (t := 39) ?hr ?_; (case hd => rfl); (case hg => rfl); (case hr => first | (go_simp; done) | (go_simp; rfl))
         intro gb244 hg w38 hbox hb
         have HS4_ := (hb.cell (World.block_lt_of_cell? _ _ (hHeld.2.2.2.2.1))).trans (hHeld.2.2.2.2.1)
         have HS5_ := (hb.cell (World.block_lt_of_cell? _ _ (hHeld.2.2.2.2.2.1))).trans (hHeld.2.2.2.2.2.1)
         have HS6_ := (hb.cell (World.block_lt_of_cell? _ _ (hHeld.2.2.2.2.2.2))).trans (hHeld.2.2.2.2.2.2)
         have BK244 := Aside0.mk (hbox)
         have GW244 := sA hg
         have GE244 := sA hg
         have NB233_244 := nA hg BK233
         have NB244_233 := nB hg BK233
         replace HO_9 := Aside0.mk (Kd.R_below (Kd.R_elderB (rA HO_9) gb244 (Nat.le_of_eq hg.symm)) hb)
         replace BK233 := kB BK233 hb
         replace HB := lB hb
         clear hb hbox hg
         refine hK.out _ _ ⟨cA BK233 0, cA BK233 1, cA BK233 2, cA BK233 3, HS4_, HS5_, HS6_⟩ (fun hHeld => ?_)
         clear hK K
         refine norm_ (a' := ?_) ?_ ?_
         rotate_left
         ·
          show Act.put _ (some 13) _ = _
          simp only [pA]
          rfl
         refine one_ (i := 6) (N := some 42) #[Y, Y, Y, Y, Y, Y, Y, Z, Z, Z, Y, Z, Z] rfl rfl (one_of HT_.out (by kernel_rfl)) (by decide) (fun K hK => ?_)
         refine goes_ Try.func62 (by kernel_rfl) rfl #[.int .i64 a0, .agg #[.int .i64 a1_0, .int .i64 a1_1, .int .i64 a1_2, .int .i64 a1_3], .agg #[.int .i64 ((rd_T39 t235 x12_1).f0), .int .i64 ((rd_T39 t235 x12_1).f1), .int .i64 ((rd_T39 t235 x12_1).f2)]] (by rfl) rfl rfl hA ?_
         with_reducible refine (spec_l04Move.calls k1 a0 a1_0 a1_1 a1_2 a1_3 ((rd_T39 t235 x12_1).f0) ((rd_T39 t235 x12_1).f1) ((rd_T39 t235 x12_1).f2) t240 t241 t242 false _ A13.out).mono ?_
         rintro e w39 ⟨rfl, hb⟩
         have HS4_ := (hb.cell (World.block_lt_of_cell? _ _ (hHeld.2.2.2.2.1))).trans (hHeld.2.2.2.2.1)
         have HS5_ := (hb.cell (World.block_lt_of_cell? _ _ (hHeld.2.2.2.2.2.1))).trans (hHeld.2.2.2.2.2.1)
         have HS6_ := (hb.cell (World.block_lt_of_cell? _ _ (hHeld.2.2.2.2.2.2))).trans (hHeld.2.2.2.2.2.2)
         refine ⟨_, rfl, ?_⟩
         replace HO_9 := Aside0.mk (Kd.R_below (rA HO_9) hb)
         replace BK233 := kB BK233 hb
         replace BK244 := kB BK244 hb
         replace HB := lB hb
         (try clear hb)
         (try clear hb2)
         (try clear hk)
         (try clear hi)
         refine hK.out _ _ ⟨cA BK233 0, cA BK233 1, cA BK233 2, cA BK233 3, HS4_, HS5_, HS6_⟩ (fun hHeld => ?_)
         clear hK K
         refine norm_ (a' := ?_) ?_ ?_
         rotate_left
         ·
          show Act.put _ (some 42) _ = _
          simp only [pA]
          rfl
         refine pure_ (i := 7) (N := some 35) (v := ?_) (a' := ?_) #[Y, Y, Y, Y, Y, Y, Y, Y, Z, Z, Y, Z, Z] rfl rfl (any_of HT_.out (by kernel_rfl)) (fun _ _ _ h => h) (Or.inl ⟨by rfl, ?_⟩) ?_ ?_
         rotate_left
         ·
          intro w'
          go_simp
          with_reducible rfl
         rotate_left
         ·
          simp only [pA]
          rfl
         refine pure_ (i := 8) (N := some 43) (v := ?_) (a' := ?_) #[Y, Y, Y, Y, Y, Y, Y, Y, Y, Z, Y, Z, Z] rfl rfl (any_of HT_.out (by kernel_rfl)) (fun _ _ _ h => h) (Or.inl ⟨by rfl, ?_⟩) ?_ ?_
         rotate_left
         ·
          intro w'
          go_simp
          with_reducible rfl
         rotate_left
         ·
          simp only [pA]
          rfl
         refine pure_ (i := 9) (N := some 44) (v := ?_) (a' := ?_) #[Y, Y, Y, Y, Y, Y, Y, Y, Y, Y, Y, Z, Z] rfl rfl (any_of HT_.out (by kernel_rfl)) (fun _ _ _ h => h) (Or.inl ⟨by rfl, ?_⟩) ?_ ?_
         rotate_left
         ·
          intro w'
          go_simp
          with_reducible rfl
         rotate_left
         ·
          simp only [pA]
          rfl
         exact norm_ (by simp only [putAll, Act.put, List.setIfInBounds_toArray, List.set_cons_zero, List.set_cons_succ]) (hCont (gb244) _ ⟨hHeld, (by (with_reducible repeat (first | apply Kd.R_alloc | apply Kd.R_drewN | apply Kd.R_drew)); exact Kd.R_mono HO_9.out (fun _ hk => hk.2)), (bkA BK233), (bkA BK244), GW244.out, GE244.out, NB233_244.out, NB244_233.out, blA⟩)
       rintro gb244 w40 ⟨hS_, h0_, h1_, h2_, h3_, h4_, h5_, h6_, h7_⟩
       have BK244 := Aside0.mk h2_
       have GW244 := Aside0.mk h3_
       have GE244 := Aside0.mk h4_
       have NB233_244 := Aside0.mk h5_
       have NB244_233 := Aside0.mk h6_
       replace HO_9 := Aside0.mk h0_
       replace BK233 := Aside0.mk h1_
       replace HB := Aside0.mk h7_
       clear h0_ h1_ h2_ h3_ h4_ h5_ h6_ h7_
       have hHeld : w40.cell? ⟨gb233, 0, none⟩ = some (.int .i64 a1_0) ∧ w40.cell? ⟨gb233, 1, none⟩ = some (.int .i64 a1_1) ∧ w40.cell? ⟨gb233, 2, none⟩ = some (.int .i64 a1_2) ∧ w40.cell? ⟨gb233, 3, none⟩ = some (.int .i64 a1_3) ∧ w40.cell? (ad239.add ((x12_1).toNat * 3)) = some (.int .i64 ((rd_T39 t235 x12_1).f0)) ∧ w40.cell? ⟨(ad239.add ((x12_1).toNat * 3)).block, (ad239.add ((x12_1).toNat * 3)).off + 1, none⟩ = some (.int .i64 ((rd_T39 t235 x12_1).f1)) ∧ w40.cell? ⟨(ad239.add ((x12_1).toNat * 3)).block, (ad239.add ((x12_1).toNat * 3)).off + 2, none⟩ = some (.int .i64 ((rd_T39 t235 x12_1).f2)) := hS_
       refine norm_ (a' := ?_) ?_ ?_
       rotate_left
       ·
        simp only [putAll, Act.put, List.setIfInBounds_toArray, List.set_cons_zero, List.set_cons_succ]
        rfl
       refine one_ (i := 11) (N := none) #[Y, Y, Y, Y, Y, Y, Y, Y, Y, Y, Y, Y, Z] rfl rfl (one_of HT_.out (by kernel_rfl)) (by decide) (fun K hK => ?_)
       have hs41 : w40.cell? ⟨gb244, 0, none⟩ = some (.int .i64 0) := cA BK244 0
       have hfs41 := blk_frozen BK244.out 0
       have hns41_0 := NB233_244.out
       have hms41_0 := NB244_233.out
       have hs42 : w40.cell? ⟨gb244, 1, none⟩ = some (.int .i64 0) := cA BK244 1
       have hfs42 := blk_frozen BK244.out 1
       have hns42_0 := NB233_244.out
       have hms42_0 := NB244_233.out
       have hs43 : w40.cell? ⟨gb244, 2, none⟩ = some (.int .i64 0) := cA BK244 2
       have hfs43 := blk_frozen BK244.out 2
       have hns43_0 := NB233_244.out
       have hms43_0 := NB244_233.out
       refine skip_ (w1 := ?_) (by rfl) rfl ?_ ?_
       rotate_left
       ·
        go_simp
        rfl
       refine hK.out _ _ ⟨((cell_far (p := ⟨gb244, _, none⟩) NB233_244.out _).trans (((cell_far (p := ⟨gb244, _, none⟩) NB233_244.out _).trans (((cell_far (p := ⟨gb244, _, none⟩) NB233_244.out _).trans (hHeld.1)))))), ((cell_far (p := ⟨gb244, _, none⟩) NB233_244.out _).trans (((cell_far (p := ⟨gb244, _, none⟩) NB233_244.out _).trans (((cell_far (p := ⟨gb244, _, none⟩) NB233_244.out _).trans (hHeld.2.1)))))), ((cell_far (p := ⟨gb244, _, none⟩) NB233_244.out _).trans (((cell_far (p := ⟨gb244, _, none⟩) NB233_244.out _).trans (((cell_far (p := ⟨gb244, _, none⟩) NB233_244.out _).trans (hHeld.2.2.1)))))), ((cell_far (p := ⟨gb244, _, none⟩) NB233_244.out _).trans (((cell_far (p := ⟨gb244, _, none⟩) NB233_244.out _).trans (((cell_far (p := ⟨gb244, _, none⟩) NB233_244.out _).trans (hHeld.2.2.2.1)))))), ((cell_far (p := ⟨gb244, _, none⟩) (fB (Kd.own_blk (Kd.R_away HO_9.out (fun _ hk => hk)))) _).trans (((cell_far (p := ⟨gb244, _, none⟩) (fB (Kd.own_blk (Kd.R_away HO_9.out (fun _ hk => hk)))) _).trans (((cell_far (p := ⟨gb244, _, none⟩) (fB (Kd.own_blk (Kd.R_away HO_9.out (fun _ hk => hk)))) _).trans (hHeld.2.2.2.2.1)))))), ((cell_far (p := ⟨gb244, _, none⟩) (fB (Kd.own_blk (Kd.R_away HO_9.out (fun _ hk => hk)))) _).trans (((cell_far (p := ⟨gb244, _, none⟩) (fB (Kd.own_blk (Kd.R_away HO_9.out (fun _ hk => hk)))) _).trans (((cell_far (p := ⟨gb244, _, none⟩) (fB (Kd.own_blk (Kd.R_away HO_9.out (fun _ hk => hk)))) _).trans (hHeld.2.2.2.2.2.1)))))), ((cell_far (p := ⟨gb244, _, none⟩) (fB (Kd.own_blk (Kd.R_away HO_9.out (fun _ hk => hk)))) _).trans (((cell_far (p := ⟨gb244, _, none⟩) (fB (Kd.own_blk (Kd.R_away HO_9.out (fun _ hk => hk)))) _).trans (((cell_far (p := ⟨gb244, _, none⟩) (fB (Kd.own_blk (Kd.R_away HO_9.out (fun _ hk => hk)))) _).trans (hHeld.2.2.2.2.2.2))))))⟩ (fun hHeld => ?_)
       clear hK K
       refine pure_ (i := 12) (N := some 14) (v := ?_) (a' := ?_) #[Y, Y, Y, Y, Y, Y, Y, Y, Y, Y, Y, Y, Y] rfl rfl (any_of HT_.out (by kernel_rfl)) (fun _ _ _ h => h) (Or.inl ⟨by rfl, ?_⟩) ?_ ?_
       rotate_left
       ·
        intro w'
        go_simp
        with_reducible rfl
       rotate_left
       ·
        simp only [pA]
        rfl
       refine done_ (done_of HT_.out (by kernel_rfl)) ?_
       try go_wp2
       have n0_ : Aside0 (Kd.R k39 39 (((w40.setCell ⟨gb244, 0, none⟩ (.int .i64 t240)).setCell ⟨gb244, 1, none⟩ (.int .i64 t241)).setCell ⟨gb244, 2, none⟩ (.int .i64 t242)) w.heap.size (fun k_ => k_ ≠ gb244) (.slice (some ad239) t235.length co36) t235) := ⟨by (with_reducible repeat (first | apply Kd.R_alloc | apply Kd.R_drewN | apply Kd.R_drew)); exact Kd.R_mono (Kd.R_far (p := ⟨gb244, 2, none⟩) (Kd.R_far (p := ⟨gb244, 1, none⟩) (Kd.R_far (p := ⟨gb244, 0, none⟩) (Kd.R_mono HO_9.out (fun k_ hk => (⟨hk, hk⟩ : _ ∧ k_ ≠ gb244))) (fun _ hk => hk.2) (.int .i64 t240)) (fun _ hk => hk.2) (.int .i64 t241)) (fun _ hk => hk.2) (.int .i64 t242)) (fun _ hk => hk.1)⟩
       have n1_ : Aside0 ((((w40.setCell ⟨gb244, 0, none⟩ (.int .i64 t240)).setCell ⟨gb244, 1, none⟩ (.int .i64 t241)).setCell ⟨gb244, 2, none⟩ (.int .i64 t242)).heap[gb233]? = some (.cells #[.int .i64 a1_0, .int .i64 a1_1, .int .i64 a1_2, .int .i64 a1_3] 26 (0, 0))) := ⟨bkF BK233⟩
       have n2_ : Aside0 ((((w40.setCell ⟨gb244, 0, none⟩ (.int .i64 t240)).setCell ⟨gb244, 1, none⟩ (.int .i64 t241)).setCell ⟨gb244, 2, none⟩ (.int .i64 t242)).heap[gb244]? = some (.cells #[.int .i64 t240, .int .i64 t241, .int .i64 t242] 39 (0, 0))) := ⟨by (with_reducible repeat (first | refine blk_drewN ?_ _ | refine blk_drew ?_ | refine blk_alloc ?_ _)); refine blk_put (cs := #[.int .i64 t240, .int .i64 t241, .int .i64 0]) ?_ 2 _ rfl; (with_reducible repeat (first | refine blk_drewN ?_ _ | refine blk_drew ?_ | refine blk_alloc ?_ _)); refine blk_put (cs := #[.int .i64 t240, .int .i64 0, .int .i64 0]) ?_ 1 _ rfl; (with_reducible repeat (first | refine blk_drewN ?_ _ | refine blk_drew ?_ | refine blk_alloc ?_ _)); refine blk_put (cs := #[.int .i64 0, .int .i64 0, .int .i64 0]) ?_ 0 _ rfl; (with_reducible repeat (first | refine blk_drewN ?_ _ | refine blk_drew ?_ | refine blk_alloc ?_ _)); exact BK244.out⟩
       have n3_ : Aside0 (Below w.heap.size w (((w40.setCell ⟨gb244, 0, none⟩ (.int .i64 t240)).setCell ⟨gb244, 1, none⟩ (.int .i64 t241)).setCell ⟨gb244, 2, none⟩ (.int .i64 t242))) := ⟨blA⟩
       (try clear HO_9)
       (try clear BK233)
       (try clear BK244)
       (try clear HB)
       generalize (((w40.setCell ⟨gb244, 0, none⟩ (.int .i64 t240)).setCell ⟨gb244, 1, none⟩ (.int .i64 t241)).setCell ⟨gb244, 2, none⟩ (.int .i64 t242)) = w44 at n0_ n1_ n2_ n3_ ⊢
       have HO_9 := n0_
       have BK233 := n1_
       have BK244 := n2_
       have HB := n3_
       clear n0_ n1_ n2_ n3_
       have n0_ := Aside0.mk (Kd.R_drew HO_9.out)
       have n1_ := Aside0.mk (blk_drew BK233.out)
       have n2_ := Aside0.mk (blk_drew BK244.out)
       have n3_ := Aside0.mk (below_drew1 HB.out)
       clear HO_9
       clear BK233
       clear BK244
       clear HB
       have HO_9 := n0_
       have BK233 := n1_
       have BK244 := n2_
       have HB := n3_
       clear n0_ n1_ n2_ n3_
       refine start_ (n := 9) (S := fun w' => True) (ds := []) #[Z, Z, Z, Z, Z, Z, Z, Z, Z] (by kernel_rfl) rfl rfl trivial (fun hHeld => ?_); refine with_tabW spec_CountFixedOn.tab10 spec_CountFixedOn.bits10 (fun HT_ HW_ => ?_)
       generalize w44.drew = w45 at HO_9 BK233 BK244 HB hHeld ⊢
       refine pure_ (i := 0) (N := some 45) (v := ?_) (a' := ?_) #[Y, Z, Z, Z, Z, Z, Z, Z, Z] rfl rfl (any_of HT_.out (by kernel_rfl)) (fun _ _ _ h => h) (Or.inl ⟨by rfl, ?_⟩) ?_ ?_
       rotate_left
       ·
        intro w'
        go_simp
        with_reducible rfl
       rotate_left
       ·
        simp only [pA]
        rfl
       refine pure_ (i := 1) (N := some 46) (v := ?_) (a' := ?_) #[Y, Y, Z, Z, Z, Z, Z, Z, Z] rfl rfl (any_of HT_.out (by kernel_rfl)) (fun _ _ _ h => h) (Or.inl ⟨by rfl, ?_⟩) ?_ ?_
       rotate_left
       ·
        intro w'
        go_simp
        with_reducible rfl
       rotate_left
       ·
        simp only [pA]
        rfl
       refine pure_ (i := 2) (N := some 47) (v := undef) (a' := ?_) #[Y, Y, Y, Z, Z, Z, Z, Z, Z] rfl rfl (any_of HT_.out (by kernel_rfl)) (fun _ _ _ h => h) (Or.inr ⟨by rfl, rfl⟩) ?_ ?_
       rotate_left
       ·
        simp only [pA]
        rfl
       refine pure_ (i := 3) (N := some 48) (v := undef) (a' := ?_) #[Y, Y, Y, Y, Z, Z, Z, Z, Z] rfl rfl (any_of HT_.out (by kernel_rfl)) (fun _ _ _ h => h) (Or.inr ⟨by rfl, rfl⟩) ?_ ?_
       rotate_left
       ·
        simp only [pA]
        rfl
       refine pure_ (i := 4) (N := some 49) (v := undef) (a' := ?_) #[Y, Y, Y, Y, Y, Z, Z, Z, Z] rfl rfl (any_of HT_.out (by kernel_rfl)) (fun _ _ _ h => h) (Or.inr ⟨by rfl, rfl⟩) ?_ ?_
       rotate_left
       ·
        simp only [pA]
        rfl
       refine pure_ (i := 5) (N := some 50) (v := undef) (a' := ?_) #[Y, Y, Y, Y, Y, Y, Z, Z, Z] rfl rfl (any_of HT_.out (by kernel_rfl)) (fun _ _ _ h => h) (Or.inr ⟨by rfl, rfl⟩) ?_ ?_
       rotate_left
       ·
        simp only [pA]
        rfl
       refine pure_ (i := 6) (N := some 51) (v := undef) (a' := ?_) #[Y, Y, Y, Y, Y, Y, Y, Z, Z] rfl rfl (any_of HT_.out (by kernel_rfl)) (fun _ _ _ h => h) (Or.inr ⟨by rfl, rfl⟩) ?_ ?_
       rotate_left
       ·
        simp only [pA]
        rfl
       refine pure_ (i := 7) (N := some 52) (v := undef) (a' := ?_) #[Y, Y, Y, Y, Y, Y, Y, Y, Z] rfl rfl (any_of HT_.out (by kernel_rfl)) (fun _ _ _ h => h) (Or.inr ⟨by rfl, rfl⟩) ?_ ?_
       rotate_left
       ·
        simp only [pA]
        rfl
       refine pure_ (i := 8) (N := some 53) (v := ?_) (a' := ?_) #[Y, Y, Y, Y, Y, Y, Y, Y, Y] rfl rfl (any_of HT_.out (by kernel_rfl)) (fun _ _ _ h => h) (Or.inl ⟨by rfl, ?_⟩) ?_ ?_
       rotate_left
       ·
        intro w'
        go_simp
        with_reducible rfl
       rotate_left
       ·
        simp only [pA]
        rfl
       refine done_ (done_of HT_.out (by kernel_rfl)) ?_
       try go_wp2
       go_roundg k1
       case measure => have := HK1.out; omega
       case rel => exact ⟨(x11_1), (wrap64 (x12_1 + 1)), hB, hB, H', ⟨by have := HK1.out; omega⟩, ⟨by (with_reducible repeat (first | apply Kd.R_alloc | apply Kd.R_drewN | apply Kd.R_drew)); exact Kd.R_mono HO_9.out (fun _ hk => trivial)⟩, ⟨bkA BK233⟩, ⟨blA⟩⟩
     ·
      rw [if_neg c12] at H
      exact absurd H (by simp)
    ·
     rw [if_neg c11] at H
     have c11b0 := decide_eq_false c11
     clear c11
     simp only [Option.some.injEq, Prod.mk.injEq] at H
     obtain ⟨rfl, rfl⟩ := H
     obtain ⟨Ao46, co46, eo46⟩ := Kd.R_slice HO_9.out
     subst eo46
     go_wp2
     go_ret2
     exact finA blA
 ·
  rw [if_neg c5] at H
  have c5b0 : (t234 == 0) = false := beq_eq_false_iff_ne.mpr c5
  have c5b1 : (t234 != 0) = true := bne_iff_ne.mpr c5
  simp only [Option.some.injEq, Prod.mk.injEq] at H
  obtain ⟨rfl, rfl⟩ := H
  go_enter Try.func11, Try.ntmps11
  go_wp2_with (first | ((with_reducible refine gate_dst (N := 4) rfl ?_); refine box_event ?hg (N := 4) ?hd (cs := #[.int .i64 a1_0, .int .i64 a1_1, .int .i64 a1_2, .int .i64 a1_3]) (t := 26) ?hr ?_; (case hd => rfl); (case hg => rfl); (case hr => first | (go_simp; done) | (go_simp; rfl)); intro gb233 hg w47 hbox hb; have n0_ := lB hb; have n1_ := Aside0.mk (hbox); have n2_ := sA hg; have n3_ := sA hg; clear HB; have HB := n0_; have BK233 := n1_; have GW233 := n2_; have GE233 := n3_; clear n0_ n1_ n2_ n3_; clear hb hbox hg; have hcz48_0 : w47.cell? ⟨gb233, 0, none⟩ = some (.int .i64 a1_0) := cA BK233 0; have hcz48_1 : w47.cell? ⟨gb233, 1, none⟩ = some (.int .i64 a1_1) := cA BK233 1; have hcz48_2 : w47.cell? ⟨gb233, 2, none⟩ = some (.int .i64 a1_2) := cA BK233 2; have hcz48_3 : w47.cell? ⟨gb233, 3, none⟩ = some (.int .i64 a1_3) := cA BK233 3; have hfz48_0 := blk_frozen BK233.out 0; have hfz48_1 := blk_frozen BK233.out 1; have hfz48_2 := blk_frozen BK233.out 2; have hfz48_3 := blk_frozen BK233.out 3) | ((with_reducible refine gate_callee (f := 60) rfl ?_); refine goesL_ (some 18) rfl rfl Try.func60 (by kernel_rfl) rfl #[.int .i64 a0, .agg #[.int .i64 a1_0, .int .i64 a1_1, .int .i64 a1_2, .int .i64 a1_3], .int .i64 a2] rfl hA ?_; (with_reducible refine (spec_l06Sphere.calls k a0 a1_0 a1_1 a1_2 a1_3 a2 t234 _ A4.out).mono ?_); rintro e w49 ⟨rfl, hb⟩; refine ⟨_, rfl, ?_⟩; have n0_ := kB BK233 hb; have n1_ := lB hb; clear BK233; clear HB; have BK233 := n0_; have HB := n1_; clear n0_ n1_; (try clear hb); (try clear hb2); (try clear hk); (try clear hi)))
  go_ret2
  exact finA blA
end Go.Proofs.Ytccpccnnbacgjaa.PAll
