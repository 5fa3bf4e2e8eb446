-- turned for this claim out of the kit's print: the same functions, packed anew
import Derived.Test.YtmhajnfdbjnegaaQx
import Derived.Test.YtmhajnfdbjnegaaQLeqMatrixS
import Derived.Test.YtmhajnfdbjnegaaQLtoMatrixS
import Derived.Test.YtmhajnfdbjnegaaQimplMatrix76
import Derived.Test.YtmhajnfdbjnegaaQimplareMatrices
import Derived.Test.YtmhajnfdbjnegaaQimplproduct
import Derived.Test.YtmhajnfdbjnegaaQimplreduce
import Derived.Test.YtmhajnfdbjnegaaQspecIsClosedList
namespace Go.Proofs.Ytmhajnfdbjnegaa.PAll
open Go.RowKit Go.Proofs.YtmhajnfdbjnegaaW.PrintWords Go.Proofs.YtmhajnfdbjnegaaW.PrintLast Go.Proofs.YtmhajnfdbjnegaaW.PrintMore
attribute [local go_sem] Go.Proofs.Ytmhajnfdbjnegaa.Aux.setCell_drewN Go.Proofs.Ytmhajnfdbjnegaa.Aux.isSome_setCell max2_int min2_int max_two min_two max_three min_three max_four min_four   -- for this text's walks alone
set_option linter.unusedVariables false
set_option linter.unusedSimpArgs false
/-! ### impl_IsClosedList: function 38 -/
mutual
def impl_IsClosedList.l0 : Nat → List (S25) → List (S25) → Int → Int → Option (Bool × Int)
  | 0, _, _, _, _ => none
  | k + 1, x4, x27, x28, x29 => if x29 < x28 then (if 0 ≤ x29 then (if x29 < (x27.length : Int) then ((impl_reduce.f k ((rd_T25 x27 x29).f0.f0) ((rd_T25 x27 x29).f0.f1) ((rd_T25 x27 x29).f1.f0) ((rd_T25 x27 x29).f1.f1)).bind fun bt548 => (if x4.length < 4398046511104 then (impl_IsClosedList.l0 k (x4 ++ [(⟨(⟨bt548.1, bt548.2.1⟩ : S22), (⟨bt548.2.2.1, bt548.2.2.2⟩ : S22)⟩ : S25)]) x27 x28 (wrap64 (x29 + 1))) else (none))) else (none)) else (none)) else (impl_IsClosedList.l1 k x4 x4 (x4.length : Int) 0)
def impl_IsClosedList.l1 : Nat → List (S25) → List (S25) → Int → Int → Option (Bool × Int)
  | 0, _, _, _, _ => none
  | k + 1, x4, x39, x40, x41 => if x41 < x40 then (if 0 ≤ x41 then (if x41 < (x39.length : Int) then (impl_IsClosedList.l2 k x4 x39 x40 x41 x4 (x4.length : Int) 0 ((rd_T25 x39 x41).f0.f0) ((rd_T25 x39 x41).f0.f1) ((rd_T25 x39 x41).f1.f0) ((rd_T25 x39 x41).f1.f1)) else (none)) else (none)) else (some (true, 0))
def impl_IsClosedList.l2 : Nat → List (S25) → List (S25) → Int → Int → List (S25) → Int → Int → Int → Int → Int → Int → Option (Bool × Int)
  | 0, _, _, _, _, _, _, _, _, _, _, _ => none
  | k + 1, x4, x39, x40, x41, x45, x46, x47, x557000, x557001, x557002, x557003 => if x47 < x46 then (if 0 ≤ x47 then (if x47 < (x45.length : Int) then ((impl_product.f k x557000 x557001 x557002 x557003 ((rd_T25 x45 x47).f0.f0) ((rd_T25 x45 x47).f0.f1) ((rd_T25 x45 x47).f1.f0) ((rd_T25 x45 x47).f1.f1)).bind fun bt559 => (if bt559.2.2.2.2 = true then ((impl_Matrix_76.f k x4 bt559.1 bt559.2.1 bt559.2.2.1 bt559.2.2.2.1).bind fun t565 => (if t565 = true then (impl_IsClosedList.l2 k x4 x39 x40 x41 x45 x46 (wrap64 (x47 + 1)) x557000 x557001 x557002 x557003) else (some (false, 0)))) else (some (false, 0)))) else (none)) else (none)) else (impl_IsClosedList.l1 k x4 x39 x40 (wrap64 (x41 + 1)))
end
def impl_IsClosedList.f (k : Nat) (l0 : List (S25)) : Option (Bool × Int) := (impl_areMatrices.f k l0).bind fun t542 => (if t542 = true then (if (l0.length : Int) < 1 then (some (false, 2)) else (if (l0.length : Int) > 48 then (some (false, 2)) else (impl_IsClosedList.l0 k (([] : List (S25))) l0 (l0.length : Int) 0))) else (some (false, 1)))
theorem impl_IsClosedList.mono_l : ∀ k, (∀ y0 y1 y2 y3, LeO (impl_IsClosedList.l0 k y0 y1 y2 y3) (impl_IsClosedList.l0 (k + 1) y0 y1 y2 y3)) ∧ (∀ y0 y1 y2 y3, LeO (impl_IsClosedList.l1 k y0 y1 y2 y3) (impl_IsClosedList.l1 (k + 1) y0 y1 y2 y3)) ∧ (∀ y0 y1 y2 y3 y4 y5 y6 y7 y8 y9 y10, LeO (impl_IsClosedList.l2 k y0 y1 y2 y3 y4 y5 y6 y7 y8 y9 y10) (impl_IsClosedList.l2 (k + 1) y0 y1 y2 y3 y4 y5 y6 y7 y8 y9 y10))
  | 0 => ⟨fun _ _ _ _ r h => by simp [impl_IsClosedList.l0] at h, fun _ _ _ _ r h => by simp [impl_IsClosedList.l1] at h, fun _ _ _ _ _ _ _ _ _ _ _ r h => by simp [impl_IsClosedList.l2] at h⟩
  | k + 1 => by
    obtain ⟨ih0, ih1, ih2⟩ := impl_IsClosedList.mono_l k
    refine ⟨?_, ?_, ?_⟩
    · intro y0 y1 y2 y3
      unfold impl_IsClosedList.l0
      repeat' first
      | (with_reducible exact ih0 _ _ _ _)
      | (with_reducible exact ih1 _ _ _ _)
      | (with_reducible exact ih2 _ _ _ _ _ _ _ _ _ _ _)
      | (with_reducible exact impl_Matrix_76.mono _ _ _ _ _ _)
      | (with_reducible exact impl_areMatrices.mono _ _)
      | (with_reducible exact impl_product.mono _ _ _ _ _ _ _ _ _)
      | (with_reducible exact impl_reduce.mono _ _ _ _ _)
      | (with_reducible exact LeO.refl _)
      | (with_reducible exact LeO.none _)
      | (with_reducible refine LeO.ite ?_ ?_)
      | (with_reducible refine LeO.bind ?_ (fun _ => ?_))
      | exact ih0 _ _ _ _
      | exact ih1 _ _ _ _
      | exact ih2 _ _ _ _ _ _ _ _ _ _ _
      | exact impl_Matrix_76.mono _ _ _ _ _ _
      | exact impl_areMatrices.mono _ _
      | exact impl_product.mono _ _ _ _ _ _ _ _ _
      | exact impl_reduce.mono _ _ _ _ _
      | exact LeO.none _
      | refine LeO.ite ?_ ?_
      | refine LeO.bind ?_ (fun _ => ?_)
    · intro y0 y1 y2 y3
      unfold impl_IsClosedList.l1
      repeat' first
      | (with_reducible exact ih0 _ _ _ _)
      | (with_reducible exact ih1 _ _ _ _)
      | (with_reducible exact ih2 _ _ _ _ _ _ _ _ _ _ _)
      | (with_reducible exact impl_Matrix_76.mono _ _ _ _ _ _)
      | (with_reducible exact impl_areMatrices.mono _ _)
      | (with_reducible exact impl_product.mono _ _ _ _ _ _ _ _ _)
      | (with_reducible exact impl_reduce.mono _ _ _ _ _)
      | (with_reducible exact LeO.refl _)
      | (with_reducible exact LeO.none _)
      | (with_reducible refine LeO.ite ?_ ?_)
      | (with_reducible refine LeO.bind ?_ (fun _ => ?_))
      | exact ih0 _ _ _ _
      | exact ih1 _ _ _ _
      | exact ih2 _ _ _ _ _ _ _ _ _ _ _
      | exact impl_Matrix_76.mono _ _ _ _ _ _
      | exact impl_areMatrices.mono _ _
      | exact impl_product.mono _ _ _ _ _ _ _ _ _
      | exact impl_reduce.mono _ _ _ _ _
      | exact LeO.none _
      | refine LeO.ite ?_ ?_
      | refine LeO.bind ?_ (fun _ => ?_)
    · intro y0 y1 y2 y3 y4 y5 y6 y7 y8 y9 y10
      unfold impl_IsClosedList.l2
      repeat' first
      | (with_reducible exact ih0 _ _ _ _)
      | (with_reducible exact ih1 _ _ _ _)
      | (with_reducible exact ih2 _ _ _ _ _ _ _ _ _ _ _)
      | (with_reducible exact impl_Matrix_76.mono _ _ _ _ _ _)
      | (with_reducible exact impl_areMatrices.mono _ _)
      | (with_reducible exact impl_product.mono _ _ _ _ _ _ _ _ _)
      | (with_reducible exact impl_reduce.mono _ _ _ _ _)
      | (with_reducible exact LeO.refl _)
      | (with_reducible exact LeO.none _)
      | (with_reducible refine LeO.ite ?_ ?_)
      | (with_reducible refine LeO.bind ?_ (fun _ => ?_))
      | exact ih0 _ _ _ _
      | exact ih1 _ _ _ _
      | exact ih2 _ _ _ _ _ _ _ _ _ _ _
      | exact impl_Matrix_76.mono _ _ _ _ _ _
      | exact impl_areMatrices.mono _ _
      | exact impl_product.mono _ _ _ _ _ _ _ _ _
      | exact impl_reduce.mono _ _ _ _ _
      | exact LeO.none _
      | refine LeO.ite ?_ ?_
      | refine LeO.bind ?_ (fun _ => ?_)
theorem impl_IsClosedList.mono : ∀ a0 k, LeO (impl_IsClosedList.f k a0) (impl_IsClosedList.f (k + 1) a0) := by
  intro a0 k
  obtain ⟨ih0, ih1, ih2⟩ := impl_IsClosedList.mono_l k
  unfold impl_IsClosedList.f
  repeat' first
      | (with_reducible exact ih0 _ _ _ _)
      | (with_reducible exact ih1 _ _ _ _)
      | (with_reducible exact ih2 _ _ _ _ _ _ _ _ _ _ _)
      | (with_reducible exact impl_Matrix_76.mono _ _ _ _ _ _)
      | (with_reducible exact impl_areMatrices.mono _ _)
      | (with_reducible exact impl_product.mono _ _ _ _ _ _ _ _ _)
      | (with_reducible exact impl_reduce.mono _ _ _ _ _)
      | (with_reducible exact LeO.refl _)
      | (with_reducible exact LeO.none _)
      | (with_reducible refine LeO.ite ?_ ?_)
      | (with_reducible refine LeO.bind ?_ (fun _ => ?_))
      | exact ih0 _ _ _ _
      | exact ih1 _ _ _ _
      | exact ih2 _ _ _ _ _ _ _ _ _ _ _
      | exact impl_Matrix_76.mono _ _ _ _ _ _
      | exact impl_areMatrices.mono _ _
      | exact impl_product.mono _ _ _ _ _ _ _ _ _
      | exact impl_reduce.mono _ _ _ _ _
      | exact LeO.none _
      | refine LeO.ite ?_ ?_
      | refine LeO.bind ?_ (fun _ => ?_)
set_option maxHeartbeats 8000000 in
set_option maxRecDepth 100000 in
theorem impl_IsClosedList.calls (k : Nat) (A0 : Option Addr) (c0 : Nat) (l0 : List (S25)) (r1 : Bool) (r2 : Int) (w : World) (hr0 : Kd.C k25 w A0 l0.length l0) (hc0 : l0.length ≤ c0) (h : impl_IsClosedList.f k l0 = some (r1, r2)) :
    Calls Try.prog 38 #[.slice A0 l0.length c0] w fun e w' => e = .returned (.tuple #[.bool r1, .int .i64 r2]) ∧ Below w.heap.size w w' := by
  have hu25 := Try.underlying25
  have HR0 := Aside0.mk hr0
  have HC0 := Aside0.mk hc0
  clear hr0 hc0
  have HB := Aside0.mk (Below.refl w.heap.size w)
  have H : ((impl_areMatrices.f k l0).bind fun t542 => (if t542 = true then (if (l0.length : Int) < 1 then (some (false, 2)) else (if (l0.length : Int) > 48 then (some (false, 2)) else (impl_IsClosedList.l0 k (([] : List (S25))) l0 (l0.length : Int) 0))) else (some (false, 1)))) = some (r1, r2) := h
  clear h
  replace H := Option.bind_eq_some_iff.mp H
  obtain ⟨t542, A20, H⟩ := H
  replace H : (if t542 = true then (if (l0.length : Int) < 1 then (some (false, 2)) else (if (l0.length : Int) > 48 then (some (false, 2)) else (impl_IsClosedList.l0 k (([] : List (S25))) l0 (l0.length : Int) 0))) else (some (false, 1))) = some (r1, r2) := H
  have A2 := Aside0.mk A20
  clear A20
  by_cases c3 : t542 = true
  · subst c3
    have H1 : (if (l0.length : Int) < 1 then (some (false, 2)) else (if (l0.length : Int) > 48 then (some (false, 2)) else (impl_IsClosedList.l0 k (([] : List (S25))) l0 (l0.length : Int) 0))) = some (r1, r2) := by rw [if_pos rfl] at H; exact H
    clear H
    have H := H1
    clear H1
    by_cases c4 : (l0.length : Int) < 1
    · rw [if_pos c4] at H
      have c4b0 : decide ((l0.length : Int) < 1) = true := decide_eq_true c4
      have c4b1 : decide (l0.length < 1) = true := decide_eq_true (by omega)
      clear c4
      simp only [Option.some.injEq, Prod.mk.injEq] at H
      obtain ⟨rfl, rfl⟩ := H
      go_enter Try.func38, Try.ntmps38
      go_wp2_with (first | ((with_reducible refine gate_callee (f := 57) rfl ?_); refine goesL_ (some 15) rfl rfl Try.func57 (by kernel_rfl) rfl #[.slice A0 l0.length c0] rfl (by (try simp only [List.map_toArray, List.map_cons, List.map_nil]); first | done | rfl | (simp only [List.length_drop, List.length_take]; rfl)) ?_; (with_reducible refine (impl_areMatrices.calls k _ _ l0 true _ ?side1 ?side2 A2.out).mono ?_); (case side1 => repeat (first | exact HR0.out | (with_reducible refine Kd.C_alloc ?_ _) | (with_reducible refine Kd.C_drewN ?_ _) | (with_reducible refine Kd.C_drew ?_))); (case side2 => exact HC0.out); rintro e w5 ⟨rfl, hb⟩; refine ⟨_, rfl, ?_⟩; have n0_ := Aside0.mk (below_step blA hb); clear HB; have HB := n0_; clear n0_; (try clear hb); (try clear hb2); (try clear hk); (try clear hi)))
      go_ret2
      exact ⟨by first | rfl | (simp [errW_none, errW_some] <;> rfl) | (simp [*, errW_none, errW_some] <;> rfl), blA⟩
    · rw [if_neg c4] at H
      have c4b0 : decide ((l0.length : Int) < 1) = false := decide_eq_false c4
      have c4b1 : decide (l0.length < 1) = false := decide_eq_false (by omega)
      clear c4
      by_cases c6 : (l0.length : Int) > 48
      · rw [if_pos c6] at H
        have c6b0 : decide (48 < (l0.length : Int)) = true := decide_eq_true c6
        have c6b1 : decide (48 < l0.length) = true := decide_eq_true (by omega)
        clear c6
        simp only [Option.some.injEq, Prod.mk.injEq] at H
        obtain ⟨rfl, rfl⟩ := H
        go_enter Try.func38, Try.ntmps38
        go_wp2_with (first | ((with_reducible refine gate_callee (f := 57) rfl ?_); refine goesL_ (some 15) rfl rfl Try.func57 (by kernel_rfl) rfl #[.slice A0 l0.length c0] rfl (by (try simp only [List.map_toArray, List.map_cons, List.map_nil]); first | done | rfl | (simp only [List.length_drop, List.length_take]; rfl)) ?_; (with_reducible refine (impl_areMatrices.calls k _ _ l0 true _ ?side1 ?side2 A2.out).mono ?_); (case side1 => repeat (first | exact HR0.out | (with_reducible refine Kd.C_alloc ?_ _) | (with_reducible refine Kd.C_drewN ?_ _) | (with_reducible refine Kd.C_drew ?_))); (case side2 => exact HC0.out); rintro e w7 ⟨rfl, hb⟩; refine ⟨_, rfl, ?_⟩; have n0_ := Aside0.mk (below_step blA hb); clear HB; have HB := n0_; clear n0_; (try clear hb); (try clear hb2); (try clear hk); (try clear hi)))
        go_ret2
        exact ⟨by first | rfl | (simp [errW_none, errW_some] <;> rfl) | (simp [*, errW_none, errW_some] <;> rfl), blA⟩
      · rw [if_neg c6] at H
        have c6b0 : decide (48 < (l0.length : Int)) = false := decide_eq_false c6
        have c6b1 : decide (48 < l0.length) = false := decide_eq_false (by omega)
        clear c6
        obtain ⟨y543, hy543⟩ : ∃ y_ : List (S25), y_ = (([] : List (S25))) := ⟨_, rfl⟩
        replace H : (impl_IsClosedList.l0 k y543 l0 (l0.length : Int) 0) = some (r1, r2) := by first | (rw [hy543]; with_reducible exact H) | (have H2_ := (Option.bind_some _ _).symm.trans H; rw [hy543]; with_reducible exact H2_) | (have H2_ := (Option.bind_some _ _).symm.trans H; with_reducible exact H2_) | with_reducible exact H | (rw [hy543]; exact H) | exact H
        have Ny543 := Aside0.mk hy543
        clear hy543
        have H' := Aside0.mk H
        clear H
        go_enter Try.func38, Try.ntmps38
        go_wp2_with (first | ((with_reducible refine gate_callee (f := 57) rfl ?_); refine goesL_ (some 15) rfl rfl Try.func57 (by kernel_rfl) rfl #[.slice A0 l0.length c0] rfl (by (try simp only [List.map_toArray, List.map_cons, List.map_nil]); first | done | rfl | (simp only [List.length_drop, List.length_take]; rfl)) ?_; (with_reducible refine (impl_areMatrices.calls k _ _ l0 true _ ?side1 ?side2 A2.out).mono ?_); (case side1 => repeat (first | exact HR0.out | (with_reducible refine Kd.C_alloc ?_ _) | (with_reducible refine Kd.C_drewN ?_ _) | (with_reducible refine Kd.C_drew ?_))); (case side2 => exact HC0.out); rintro e w8 ⟨rfl, hb⟩; refine ⟨_, rfl, ?_⟩; have n0_ := Aside0.mk (below_step blA hb); clear HB; have HB := n0_; clear n0_; (try clear hb); (try clear hb2); (try clear hk); (try clear hi)) | ((with_reducible refine gate_dst (N := 26) rfl ?_); (try (refine gate_guard (by rfl) ?_; dsimp only)); refine Kd.R_lit k25 _ 25 ?hg (N := 26) ?hd (xs := ([] : List (S25))) (inner := []) (ok := fun _ => True) (okp := fun _ => True) ?hr ?hp (fun _ hk => hk) trivial (Below.refl _ _) (Nat.le_refl _) (by simp) ?_; (case hd => rfl); (case hg => rfl); (case hr => first | (go_simp; done) | (go_simp; rfl)); (case hp => exact (Reps.none _ _)); intro v544 w9 ho10 hb hg_ hnew_; clear hg_ hnew_; (first | rw [← Ny543.out] at ho10 | (simp only [Int.reduceToNat] at ho10; rw [← Ny543.out] at ho10)); have n0_ := Aside0.mk (Kd.R_lower ho10 (below_size blA)); have n1_ := Aside0.mk (below_step blA hb); clear HB; have HO545 := n0_; have HB := n1_; clear n0_ n1_; clear hb ho10))
        go_loopg [4, 29] k (fun kq v4 v29 w' => ∃ (x4_1 : List (S25)) (x29_1 : Int), v29 = .int .i64 x29_1 ∧ Aside0 (impl_IsClosedList.l0 kq x4_1 l0 (l0.length : Int) x29_1 = some (r1, r2)) ∧ Aside0 (kq ≤ k) ∧ Aside0 (Kd.R k25 25 w' w.heap.size (fun _ => True) v4 x4_1) ∧ Aside0 (Below w.heap.size w w'))
        case atStart => exact ⟨(y543), (0), (by first | rfl | (simp; done) | (simp [*]; done)), H', ⟨Nat.le_refl _⟩, ⟨by (with_reducible repeat (first | apply Kd.R_alloc | apply Kd.R_drewN | apply Kd.R_drew)); exact HO545.out⟩, ⟨blA⟩⟩
        case round =>
          clear H'
          try clear p2
          try clear c3
          try clear c4
          try clear c4b0
          try clear c4b1
          try clear c5
          try clear c6
          try clear c6b0
          try clear c6b1
          obtain ⟨x4_1, x29_1, rfl, HA, HK1, HO_4, HB⟩ := hrel
          cases gk with
          | zero => exact absurd HA.out (by simp [impl_IsClosedList.l0])
          | succ k1 =>
            have H := HA.out
            clear HA
            simp only [impl_IsClosedList.l0] at H
            by_cases c11 : x29_1 < (l0.length : Int)
            · rw [if_pos c11] at H
              have c11b0 : decide (x29_1 < (l0.length : Int)) = true := decide_eq_true c11
              clear c11
              by_cases c12 : 0 ≤ x29_1
              · rw [if_pos c12] at H
                have c12b0 : decide (0 ≤ x29_1) = true := decide_eq_true c12
                clear c12
                by_cases c13 : x29_1 < (l0.length : Int)
                · rw [if_pos c13] at H
                  have c13b0 : decide (x29_1 < (l0.length : Int)) = true := decide_eq_true c13
                  clear c13
                  replace H := Option.bind_eq_some_iff.mp H
                  obtain ⟨⟨t548, t549, t550, t551⟩, A140, H⟩ := H
                  replace H : (if x4_1.length < 4398046511104 then (impl_IsClosedList.l0 k1 (x4_1 ++ [(⟨(⟨t548, t549⟩ : S22), (⟨t550, t551⟩ : S22)⟩ : S25)]) l0 (l0.length : Int) (wrap64 (x29_1 + 1))) else (none)) = some (r1, r2) := H
                  have A14 := Aside0.mk A140
                  clear A140
                  by_cases c15 : x4_1.length < 4398046511104
                  · rw [if_pos c15] at H
                    have LMc15 := Aside0.mk c15
                    clear c15
                    obtain ⟨y552, hy552⟩ : ∃ y_ : List (S25), y_ = (x4_1 ++ [(⟨(⟨t548, t549⟩ : S22), (⟨t550, t551⟩ : S22)⟩ : S25)]) := ⟨_, rfl⟩
                    replace H : (impl_IsClosedList.l0 k1 y552 l0 (l0.length : Int) (wrap64 (x29_1 + 1))) = some (r1, r2) := by first | (rw [hy552]; with_reducible exact H) | (have H2_ := (Option.bind_some _ _).symm.trans H; rw [hy552]; with_reducible exact H2_) | (have H2_ := (Option.bind_some _ _).symm.trans H; with_reducible exact H2_) | with_reducible exact H | (rw [hy552]; exact H) | exact H
                    have Ny552 := Aside0.mk hy552
                    clear hy552
                    have H' := Aside0.mk H
                    clear H
                    have p546 : 0 ≤ (x29_1 : Int) := of_decide_eq_true (by first | (with_reducible assumption) | assumption)
                    have q546 : x29_1 < (l0.length : Int) := of_decide_eq_true (by first | (with_reducible assumption) | assumption)
                    obtain ⟨ad546, e546, hx546_0, hx546_1, hx546_2, hx546_3⟩ := at_T25 HR0.out x29_1 p546 q546
                    cases e546
                    replace hx546_0 := (HB.out.cell (World.block_lt_of_cell? w _ hx546_0)).trans hx546_0
                    replace hx546_1 := (HB.out.cell (World.block_lt_of_cell? w _ hx546_1)).trans hx546_1
                    replace hx546_2 := (HB.out.cell (World.block_lt_of_cell? w _ hx546_2)).trans hx546_2
                    replace hx546_3 := (HB.out.cell (World.block_lt_of_cell? w _ hx546_3)).trans hx546_3
                    replace p546 := eq_true p546
                    replace q546 := eq_true q546
                    go_wp2_with (first | ((with_reducible refine gate_dst (N := 6) rfl ?_); (try (refine gate_guard (by rfl) ?_; dsimp only)); refine box_event ?hg (N := 6) ?hd (cs := #[.int .i64 0, .int .i64 0, .int .i64 0, .int .i64 0]) (t := 25) ?hr ?_; (case hd => rfl); (case hg => rfl); (case hr => first | (go_simp; done) | (go_simp; rfl)); intro gb547 hg w16 hbox hb; have n0_ := Aside0.mk (Kd.R_below (Kd.R_elderB (by (with_reducible repeat (first | apply Kd.R_alloc | apply Kd.R_drewN | apply Kd.R_drew)); exact HO_4.out) gb547 (Nat.le_of_eq hg.symm)) hb); have n1_ := Aside0.mk (below_step blA hb); have n2_ := Aside0.mk (hbox); have n3_ := Aside0.mk (szA hg blA); have n4_ := Aside0.mk (szA hg blA); clear HO_4; clear HB; have HO_4 := n0_; have HB := n1_; have BK547 := n2_; have GW547 := n3_; have GE547 := n4_; clear n0_ n1_ n2_ n3_ n4_; clear hb hbox hg; have hcz17_0 : w16.cell? ⟨gb547, 0, none⟩ = some (.int .i64 0) := (blk_cell BK547.out 0).trans rfl; have hcz17_1 : w16.cell? ⟨gb547, 1, none⟩ = some (.int .i64 0) := (blk_cell BK547.out 1).trans rfl; have hcz17_2 : w16.cell? ⟨gb547, 2, none⟩ = some (.int .i64 0) := (blk_cell BK547.out 2).trans rfl; have hcz17_3 : w16.cell? ⟨gb547, 3, none⟩ = some (.int .i64 0) := (blk_cell BK547.out 3).trans rfl; have hfz17_0 := blk_frozen BK547.out 0; have hfz17_1 := blk_frozen BK547.out 1; have hfz17_2 := blk_frozen BK547.out 2; have hfz17_3 := blk_frozen BK547.out 3) | ((with_reducible refine gate_callee (f := 58) rfl ?_); refine goesL_ (some 35) rfl rfl Try.func58 (by kernel_rfl) rfl #[.agg #[.int .i64 ((rd_T25 l0 x29_1).f0.f0), .int .i64 ((rd_T25 l0 x29_1).f0.f1), .int .i64 ((rd_T25 l0 x29_1).f1.f0), .int .i64 ((rd_T25 l0 x29_1).f1.f1)]] rfl (by (try simp only [List.map_toArray, List.map_cons, List.map_nil]); first | done | rfl | (simp only [List.length_drop, List.length_take]; rfl)) ?_; (with_reducible refine (impl_reduce.calls k1 ((rd_T25 l0 x29_1).f0.f0) ((rd_T25 l0 x29_1).f0.f1) ((rd_T25 l0 x29_1).f1.f0) ((rd_T25 l0 x29_1).f1.f1) t548 t549 t550 t551 _ A14.out).mono ?_); rintro e w18 ⟨rfl, hb⟩; refine ⟨_, rfl, ?_⟩; have n0_ := Aside0.mk (Kd.R_below (by (with_reducible repeat (first | apply Kd.R_alloc | apply Kd.R_drewN | apply Kd.R_drew)); exact (Kd.R_mono (Kd.R_far (p := ⟨gb547, 3, none⟩) (Kd.R_far (p := ⟨gb547, 2, none⟩) (Kd.R_far (p := ⟨gb547, 1, none⟩) (Kd.R_far (p := ⟨gb547, 0, none⟩) (Kd.R_mono HO_4.out (fun k_ hk => (⟨hk, hk.2⟩ : _ ∧ k_ ≠ gb547))) (fun _ hk => hk.2) (.int .i64 ((rd_T25 l0 x29_1).f0.f0))) (fun _ hk => hk.2) (.int .i64 ((rd_T25 l0 x29_1).f0.f1))) (fun _ hk => hk.2) (.int .i64 ((rd_T25 l0 x29_1).f1.f0))) (fun _ hk => hk.2) (.int .i64 ((rd_T25 l0 x29_1).f1.f1))) (fun _ h_ => h_.1))) hb); have n1_ := Aside0.mk (blk_below (g := gb547) (o := .cells #[.int .i64 ((rd_T25 l0 x29_1).f0.f0), .int .i64 ((rd_T25 l0 x29_1).f0.f1), .int .i64 ((rd_T25 l0 x29_1).f1.f0), .int .i64 ((rd_T25 l0 x29_1).f1.f1)] 25 (0, 0)) (by (with_reducible repeat (first | refine blk_drewN ?_ _ | refine blk_drew ?_ | refine blk_alloc ?_ _)); refine blk_put (cs := #[.int .i64 ((rd_T25 l0 x29_1).f0.f0), .int .i64 ((rd_T25 l0 x29_1).f0.f1), .int .i64 ((rd_T25 l0 x29_1).f1.f0), .int .i64 0]) ?_ 3 _ rfl; (with_reducible repeat (first | refine blk_drewN ?_ _ | refine blk_drew ?_ | refine blk_alloc ?_ _)); refine blk_put (cs := #[.int .i64 ((rd_T25 l0 x29_1).f0.f0), .int .i64 ((rd_T25 l0 x29_1).f0.f1), .int .i64 0, .int .i64 0]) ?_ 2 _ rfl; (with_reducible repeat (first | refine blk_drewN ?_ _ | refine blk_drew ?_ | refine blk_alloc ?_ _)); refine blk_put (cs := #[.int .i64 ((rd_T25 l0 x29_1).f0.f0), .int .i64 0, .int .i64 0, .int .i64 0]) ?_ 1 _ rfl; (with_reducible repeat (first | refine blk_drewN ?_ _ | refine blk_drew ?_ | refine blk_alloc ?_ _)); refine blk_put (cs := #[.int .i64 0, .int .i64 0, .int .i64 0, .int .i64 0]) ?_ 0 _ rfl; (with_reducible repeat (first | refine blk_drewN ?_ _ | refine blk_drew ?_ | refine blk_alloc ?_ _)); exact BK547.out) hb); have n2_ := Aside0.mk (below_step blA hb); clear HO_4; clear BK547; clear HB; have HO_4 := n0_; have BK547 := n1_; have HB := n2_; clear n0_ n1_ n2_; (try clear hb); (try clear hb2); (try clear hk); (try clear hi)) | ((with_reducible refine gate_builtin (b := .append) (xs := #[.tmp 33, .tmp 36]) rfl ?_); (try (refine gate_guard (by rfl) ?_; dsimp only)); at_builtin; refine Kd.R_append k25 (w0 := w) w.heap.size rfl (.tmp 33) (.tmp 36) 49 25 (.agg #[(.int .i64 0), (.int .i64 0), (.int .i64 0), (.int .i64 0)]) 32 rfl Try.underlying49 info25 rfl (by decide) (by omega) u4 x4_1 (⟨(⟨t548, t549⟩ : S22), (⟨t550, t551⟩ : S22)⟩ : S25) [.int .i64 t548, .int .i64 t549, .int .i64 t550, .int .i64 t551] (fun k_ => k_ ≠ gb547) (fun _ => False) rfl rfl ?aP (fun _ hk => hk.elim) ?aF ?aO ?aB ?aS ?aL ?_; (case aP => exact k25_mkM _ _ _ (⟨(⟨t548, t549⟩ : S22), (⟨t550, t551⟩ : S22)⟩ : S25)); (case aB => exact blA); (case aF => exact (fun k_ hk => Kd.freshB (bkA BK547) k_ hk)); (case aO => exact (by (with_reducible repeat (first | apply Kd.R_alloc | apply Kd.R_drewN | apply Kd.R_drew)); exact Kd.R_mono HO_4.out (fun _ hk => hk.2))); (case aS => exact (below_size blA)); (case aL => have := LMc15.out; omega); intro v553 w19 ho hb hg hat; rw [← Ny552.out] at ho; have n0_ := Aside0.mk (blk_grown (bkA BK547) hg (Kd.R_away HO_4.out (fun _ hk => hk.2))); have n1_ := Aside0.mk (hb); have n2_ := Aside0.mk (ho); clear BK547; clear HB; clear HO_4; have BK547 := n0_; have HB := n1_; have HO554 := n2_; clear n0_ n1_ n2_; clear ho hb hg hat))
                    go_roundg k1
                    case measure => have := HK1.out; omega
                    case rel => exact ⟨(y552), (wrap64 (x29_1 + 1)), (by first | rfl | (simp; done) | (simp [*]; done)), H', ⟨by have := HK1.out; omega⟩, ⟨by (with_reducible repeat (first | apply Kd.R_alloc | apply Kd.R_drewN | apply Kd.R_drew)); exact Kd.R_mono HO554.out (fun _ hk => trivial)⟩, ⟨blA⟩⟩
                  · rw [if_neg c15] at H
                    exact absurd H (by simp)
                · rw [if_neg c13] at H
                  exact absurd H (by simp)
              · rw [if_neg c12] at H
                exact absurd H (by simp)
            · rw [if_neg c11] at H
              have c11b0 : decide (x29_1 < (l0.length : Int)) = false := decide_eq_false c11
              clear c11
              have H' := Aside0.mk H
              clear H
              obtain ⟨Ao20, co20, eo20⟩ := Kd.R_slice HO_4.out
              subst eo20
              go_wp2
              go_loopg [41] k1 (fun kq v41 w' => ∃ (x41_2 : Int), v41 = .int .i64 x41_2 ∧ Aside0 (impl_IsClosedList.l1 kq x4_1 x4_1 (x4_1.length : Int) x41_2 = some (r1, r2)) ∧ Aside0 (kq ≤ k1) ∧ Aside0 (Kd.R k25 25 w' w.heap.size (fun _ => True) (.slice Ao20 x4_1.length co20) x4_1) ∧ Aside0 (Kd.R k25 25 w' w.heap.size (fun _ => True) (.slice Ao20 x4_1.length co20) x4_1) ∧ Aside0 (Below w.heap.size w w'))
              case atStart => exact ⟨(0), (by first | rfl | (simp; done) | (simp [*]; done)), H', ⟨Nat.le_refl _⟩, ⟨by (with_reducible repeat (first | apply Kd.R_alloc | apply Kd.R_drewN | apply Kd.R_drew)); exact HO_4.out⟩, ⟨by (with_reducible repeat (first | apply Kd.R_alloc | apply Kd.R_drewN | apply Kd.R_drew)); exact HO_4.out⟩, ⟨blA⟩⟩
              case round =>
                clear H'
                try clear c1
                try clear p2
                try clear c3
                try clear c4
                try clear c4b0
                try clear c4b1
                try clear c5
                try clear p5
                try clear q5
                try clear hx5
                try clear c6
                try clear c6b0
                try clear c6b1
                try clear p6
                try clear c11
                try clear c11b0
                try clear c12
                try clear c12b0
                try clear c13
                try clear c13b0
                try clear c15
                try clear hcz17_0
                try clear hcz17_1
                try clear hcz17_2
                try clear hcz17_3
                try clear hfz17_0
                try clear hfz17_1
                try clear hfz17_2
                try clear hfz17_3
                try clear hx546_0
                try clear hx546_1
                try clear hx546_2
                try clear hx546_3
                try clear p2
                try clear p546
                try clear q546
                obtain ⟨x41_2, rfl, HA, HK2, HO_4, HO_39, HB⟩ := hrel
                cases gk with
                | zero => exact absurd HA.out (by simp [impl_IsClosedList.l1])
                | succ k2 =>
                  have H := HA.out
                  clear HA
                  simp only [impl_IsClosedList.l1] at H
                  by_cases c21 : x41_2 < (x4_1.length : Int)
                  · rw [if_pos c21] at H
                    have c21b0 : decide (x41_2 < (x4_1.length : Int)) = true := decide_eq_true c21
                    clear c21
                    by_cases c22 : 0 ≤ x41_2
                    · rw [if_pos c22] at H
                      have c22b0 : decide (0 ≤ x41_2) = true := decide_eq_true c22
                      clear c22
                      by_cases c23 : x41_2 < (x4_1.length : Int)
                      · rw [if_pos c23] at H
                        have c23b0 : decide (x41_2 < (x4_1.length : Int)) = true := decide_eq_true c23
                        clear c23
                        have H' := Aside0.mk H
                        clear H
                        have p555 : 0 ≤ (x41_2 : Int) := of_decide_eq_true (by first | (with_reducible assumption) | assumption)
                        have q555 : x41_2 < (x4_1.length : Int) := of_decide_eq_true (by first | (with_reducible assumption) | assumption)
                        obtain ⟨ad555, e555, hx555_0, hx555_1, hx555_2, hx555_3⟩ := at_T25 (Kd.R_reads' HO_39.out).2.2 x41_2 p555 q555
                        cases e555
                        replace p555 := eq_true p555
                        replace q555 := eq_true q555
                        go_wp2_with (first | ((with_reducible refine gate_dst (N := 8) rfl ?_); (try (refine gate_guard (by rfl) ?_; dsimp only)); refine box_event ?hg (N := 8) ?hd (cs := #[.int .i64 0, .int .i64 0, .int .i64 0, .int .i64 0]) (t := 25) ?hr ?_; (case hd => rfl); (case hg => rfl); (case hr => first | (go_simp; done) | (go_simp; rfl)); intro gb556 hg w24 hbox hb; have n0_ := Aside0.mk (Kd.R_below (Kd.R_elderB (by (with_reducible repeat (first | apply Kd.R_alloc | apply Kd.R_drewN | apply Kd.R_drew)); exact HO_4.out) gb556 (Nat.le_of_eq hg.symm)) hb); have n1_ := Aside0.mk (Kd.R_below (Kd.R_elderB (by (with_reducible repeat (first | apply Kd.R_alloc | apply Kd.R_drewN | apply Kd.R_drew)); exact HO_39.out) gb556 (Nat.le_of_eq hg.symm)) hb); have n2_ := Aside0.mk (below_step blA hb); have n3_ := Aside0.mk (hbox); have n4_ := Aside0.mk (szA hg blA); have n5_ := Aside0.mk (szA hg blA); clear HO_4; clear HO_39; clear HB; have HO_4 := n0_; have HO_39 := n1_; have HB := n2_; have BK556 := n3_; have GW556 := n4_; have GE556 := n5_; clear n0_ n1_ n2_ n3_ n4_ n5_; clear hb hbox hg; have hcz25_0 : w24.cell? ⟨gb556, 0, none⟩ = some (.int .i64 0) := (blk_cell BK556.out 0).trans rfl; have hcz25_1 : w24.cell? ⟨gb556, 1, none⟩ = some (.int .i64 0) := (blk_cell BK556.out 1).trans rfl; have hcz25_2 : w24.cell? ⟨gb556, 2, none⟩ = some (.int .i64 0) := (blk_cell BK556.out 2).trans rfl; have hcz25_3 : w24.cell? ⟨gb556, 3, none⟩ = some (.int .i64 0) := (blk_cell BK556.out 3).trans rfl; have hfz25_0 := blk_frozen BK556.out 0; have hfz25_1 := blk_frozen BK556.out 1; have hfz25_2 := blk_frozen BK556.out 2; have hfz25_3 := blk_frozen BK556.out 3))
                        go_loopg [47] k2 (fun kq v47 w' => ∃ (x47_3 : Int), v47 = .int .i64 x47_3 ∧ Aside0 (impl_IsClosedList.l2 kq x4_1 x4_1 (x4_1.length : Int) x41_2 x4_1 (x4_1.length : Int) x47_3 ((rd_T25 x4_1 x41_2).f0.f0) ((rd_T25 x4_1 x41_2).f0.f1) ((rd_T25 x4_1 x41_2).f1.f0) ((rd_T25 x4_1 x41_2).f1.f1) = some (r1, r2)) ∧ Aside0 (kq ≤ k2) ∧ Aside0 (Kd.R k25 25 w' w.heap.size (fun k_ => k_ ≠ gb556) (.slice (some ad555) x4_1.length co20) x4_1) ∧ Aside0 (Kd.R k25 25 w' w.heap.size (fun k_ => k_ ≠ gb556) (.slice (some ad555) x4_1.length co20) x4_1) ∧ Aside0 (Kd.R k25 25 w' w.heap.size (fun k_ => k_ ≠ gb556) (.slice (some ad555) x4_1.length co20) x4_1) ∧ Aside0 (w'.heap[gb556]? = some (.cells #[.int .i64 ((rd_T25 x4_1 x41_2).f0.f0), .int .i64 ((rd_T25 x4_1 x41_2).f0.f1), .int .i64 ((rd_T25 x4_1 x41_2).f1.f0), .int .i64 ((rd_T25 x4_1 x41_2).f1.f1)] 25 (0, 0))) ∧ Aside0 (Below w.heap.size w w'))
                        case atStart => exact ⟨(0), (by first | rfl | (simp; done) | (simp [*]; done)), H', ⟨Nat.le_refl _⟩, ⟨by (with_reducible repeat (first | apply Kd.R_alloc | apply Kd.R_drewN | apply Kd.R_drew)); exact Kd.R_mono (Kd.R_far (p := ⟨gb556, 3, none⟩) (Kd.R_far (p := ⟨gb556, 2, none⟩) (Kd.R_far (p := ⟨gb556, 1, none⟩) (Kd.R_far (p := ⟨gb556, 0, none⟩) (Kd.R_mono HO_4.out (fun k_ hk => (⟨hk, hk.2⟩ : _ ∧ k_ ≠ gb556))) (fun _ hk => hk.2) (.int .i64 ((rd_T25 x4_1 x41_2).f0.f0))) (fun _ hk => hk.2) (.int .i64 ((rd_T25 x4_1 x41_2).f0.f1))) (fun _ hk => hk.2) (.int .i64 ((rd_T25 x4_1 x41_2).f1.f0))) (fun _ hk => hk.2) (.int .i64 ((rd_T25 x4_1 x41_2).f1.f1))) (fun _ hk => hk.1.2)⟩, ⟨by (with_reducible repeat (first | apply Kd.R_alloc | apply Kd.R_drewN | apply Kd.R_drew)); exact Kd.R_mono (Kd.R_far (p := ⟨gb556, 3, none⟩) (Kd.R_far (p := ⟨gb556, 2, none⟩) (Kd.R_far (p := ⟨gb556, 1, none⟩) (Kd.R_far (p := ⟨gb556, 0, none⟩) (Kd.R_mono HO_39.out (fun k_ hk => (⟨hk, hk.2⟩ : _ ∧ k_ ≠ gb556))) (fun _ hk => hk.2) (.int .i64 ((rd_T25 x4_1 x41_2).f0.f0))) (fun _ hk => hk.2) (.int .i64 ((rd_T25 x4_1 x41_2).f0.f1))) (fun _ hk => hk.2) (.int .i64 ((rd_T25 x4_1 x41_2).f1.f0))) (fun _ hk => hk.2) (.int .i64 ((rd_T25 x4_1 x41_2).f1.f1))) (fun _ hk => hk.1.2)⟩, ⟨by (with_reducible repeat (first | apply Kd.R_alloc | apply Kd.R_drewN | apply Kd.R_drew)); exact Kd.R_mono (Kd.R_far (p := ⟨gb556, 3, none⟩) (Kd.R_far (p := ⟨gb556, 2, none⟩) (Kd.R_far (p := ⟨gb556, 1, none⟩) (Kd.R_far (p := ⟨gb556, 0, none⟩) (Kd.R_mono HO_4.out (fun k_ hk => (⟨hk, hk.2⟩ : _ ∧ k_ ≠ gb556))) (fun _ hk => hk.2) (.int .i64 ((rd_T25 x4_1 x41_2).f0.f0))) (fun _ hk => hk.2) (.int .i64 ((rd_T25 x4_1 x41_2).f0.f1))) (fun _ hk => hk.2) (.int .i64 ((rd_T25 x4_1 x41_2).f1.f0))) (fun _ hk => hk.2) (.int .i64 ((rd_T25 x4_1 x41_2).f1.f1))) (fun _ hk => hk.1.2)⟩, ⟨by (with_reducible repeat (first | refine blk_drewN ?_ _ | refine blk_drew ?_ | refine blk_alloc ?_ _)); refine blk_put (cs := #[.int .i64 ((rd_T25 x4_1 x41_2).f0.f0), .int .i64 ((rd_T25 x4_1 x41_2).f0.f1), .int .i64 ((rd_T25 x4_1 x41_2).f1.f0), .int .i64 0]) ?_ 3 _ rfl; (with_reducible repeat (first | refine blk_drewN ?_ _ | refine blk_drew ?_ | refine blk_alloc ?_ _)); refine blk_put (cs := #[.int .i64 ((rd_T25 x4_1 x41_2).f0.f0), .int .i64 ((rd_T25 x4_1 x41_2).f0.f1), .int .i64 0, .int .i64 0]) ?_ 2 _ rfl; (with_reducible repeat (first | refine blk_drewN ?_ _ | refine blk_drew ?_ | refine blk_alloc ?_ _)); refine blk_put (cs := #[.int .i64 ((rd_T25 x4_1 x41_2).f0.f0), .int .i64 0, .int .i64 0, .int .i64 0]) ?_ 1 _ rfl; (with_reducible repeat (first | refine blk_drewN ?_ _ | refine blk_drew ?_ | refine blk_alloc ?_ _)); refine blk_put (cs := #[.int .i64 0, .int .i64 0, .int .i64 0, .int .i64 0]) ?_ 0 _ rfl; (with_reducible repeat (first | refine blk_drewN ?_ _ | refine blk_drew ?_ | refine blk_alloc ?_ _)); exact BK556.out⟩, ⟨blA⟩⟩
                        case round =>
                          clear H'
                          try clear c1
                          try clear c2
                          try clear p2
                          try clear c3
                          try clear c4
                          try clear c4b0
                          try clear c4b1
                          try clear c5
                          try clear p5
                          try clear q5
                          try clear hx5
                          try clear c6
                          try clear c6b0
                          try clear c6b1
                          try clear p6
                          try clear c11
                          try clear c11b0
                          try clear c12
                          try clear c12b0
                          try clear c13
                          try clear c13b0
                          try clear c15
                          try clear c21
                          try clear c21b0
                          try clear c22
                          try clear c22b0
                          try clear c23
                          try clear c23b0
                          try clear hcz17_0
                          try clear hcz17_1
                          try clear hcz17_2
                          try clear hcz17_3
                          try clear hcz25_0
                          try clear hcz25_1
                          try clear hcz25_2
                          try clear hcz25_3
                          try clear hfz17_0
                          try clear hfz17_1
                          try clear hfz17_2
                          try clear hfz17_3
                          try clear hfz25_0
                          try clear hfz25_1
                          try clear hfz25_2
                          try clear hfz25_3
                          try clear hx546_0
                          try clear hx546_1
                          try clear hx546_2
                          try clear hx546_3
                          try clear hx555_0
                          try clear hx555_1
                          try clear hx555_2
                          try clear hx555_3
                          try clear p2
                          try clear p5
                          try clear p546
                          try clear p555
                          try clear p6
                          try clear q5
                          try clear q546
                          try clear q555
                          obtain ⟨x47_3, rfl, HA, HK3, HO_4, HO_39, HO_45, BK556, HB⟩ := hrel
                          cases gk with
                          | zero => exact absurd HA.out (by simp [impl_IsClosedList.l2])
                          | succ k3 =>
                            have H := HA.out
                            clear HA
                            simp only [impl_IsClosedList.l2] at H
                            by_cases c26 : x47_3 < (x4_1.length : Int)
                            · rw [if_pos c26] at H
                              have c26b0 : decide (x47_3 < (x4_1.length : Int)) = true := decide_eq_true c26
                              clear c26
                              by_cases c27 : 0 ≤ x47_3
                              · rw [if_pos c27] at H
                                have c27b0 : decide (0 ≤ x47_3) = true := decide_eq_true c27
                                clear c27
                                by_cases c28 : x47_3 < (x4_1.length : Int)
                                · rw [if_pos c28] at H
                                  have c28b0 : decide (x47_3 < (x4_1.length : Int)) = true := decide_eq_true c28
                                  clear c28
                                  replace H := Option.bind_eq_some_iff.mp H
                                  obtain ⟨⟨t559, t560, t561, t562, t563⟩, A290, H⟩ := H
                                  replace H : (if t563 = true then ((impl_Matrix_76.f k3 x4_1 t559 t560 t561 t562).bind fun t565 => (if t565 = true then (impl_IsClosedList.l2 k3 x4_1 x4_1 (x4_1.length : Int) x41_2 x4_1 (x4_1.length : Int) (wrap64 (x47_3 + 1)) ((rd_T25 x4_1 x41_2).f0.f0) ((rd_T25 x4_1 x41_2).f0.f1) ((rd_T25 x4_1 x41_2).f1.f0) ((rd_T25 x4_1 x41_2).f1.f1)) else (some (false, 0)))) else (some (false, 0))) = some (r1, r2) := H
                                  have A29 := Aside0.mk A290
                                  clear A290
                                  by_cases c30 : t563 = true
                                  · subst c30
                                    have H1 : ((impl_Matrix_76.f k3 x4_1 t559 t560 t561 t562).bind fun t565 => (if t565 = true then (impl_IsClosedList.l2 k3 x4_1 x4_1 (x4_1.length : Int) x41_2 x4_1 (x4_1.length : Int) (wrap64 (x47_3 + 1)) ((rd_T25 x4_1 x41_2).f0.f0) ((rd_T25 x4_1 x41_2).f0.f1) ((rd_T25 x4_1 x41_2).f1.f0) ((rd_T25 x4_1 x41_2).f1.f1)) else (some (false, 0)))) = some (r1, r2) := by rw [if_pos rfl] at H; exact H
                                    clear H
                                    have H := H1
                                    clear H1
                                    replace H := Option.bind_eq_some_iff.mp H
                                    obtain ⟨t565, A310, H⟩ := H
                                    replace H : (if t565 = true then (impl_IsClosedList.l2 k3 x4_1 x4_1 (x4_1.length : Int) x41_2 x4_1 (x4_1.length : Int) (wrap64 (x47_3 + 1)) ((rd_T25 x4_1 x41_2).f0.f0) ((rd_T25 x4_1 x41_2).f0.f1) ((rd_T25 x4_1 x41_2).f1.f0) ((rd_T25 x4_1 x41_2).f1.f1)) else (some (false, 0))) = some (r1, r2) := H
                                    have A31 := Aside0.mk A310
                                    clear A310
                                    by_cases c32 : t565 = true
                                    · subst c32
                                      have H1 : (impl_IsClosedList.l2 k3 x4_1 x4_1 (x4_1.length : Int) x41_2 x4_1 (x4_1.length : Int) (wrap64 (x47_3 + 1)) ((rd_T25 x4_1 x41_2).f0.f0) ((rd_T25 x4_1 x41_2).f0.f1) ((rd_T25 x4_1 x41_2).f1.f0) ((rd_T25 x4_1 x41_2).f1.f1)) = some (r1, r2) := by rw [if_pos rfl] at H; exact H
                                      clear H
                                      have H := H1
                                      clear H1
                                      have H' := Aside0.mk H
                                      clear H
                                      have p557 : 0 ≤ (x47_3 : Int) := of_decide_eq_true (by first | (with_reducible assumption) | assumption)
                                      have q557 : x47_3 < (x4_1.length : Int) := of_decide_eq_true (by first | (with_reducible assumption) | assumption)
                                      obtain ⟨ad557, e557, hx557_0, hx557_1, hx557_2, hx557_3⟩ := at_T25 (Kd.R_reads' HO_45.out).2.2 x47_3 p557 q557
                                      obtain rfl : ad555 = ad557 := (by injection e557)
                                      replace p557 := eq_true p557
                                      replace q557 := eq_true q557
                                      go_wp2_with (first | ((with_reducible refine gate_dst (N := 10) rfl ?_); (try (refine gate_guard (by rfl) ?_; dsimp only)); refine box_event ?hg (N := 10) ?hd (cs := #[.int .i64 0, .int .i64 0, .int .i64 0, .int .i64 0]) (t := 25) ?hr ?_; (case hd => rfl); (case hg => rfl); (case hr => first | (go_simp; done) | (go_simp; rfl)); intro gb558 hg w33 hbox hb; have n0_ := Aside0.mk (Kd.R_below (Kd.R_elderB (by (with_reducible repeat (first | apply Kd.R_alloc | apply Kd.R_drewN | apply Kd.R_drew)); exact HO_4.out) gb558 (Nat.le_of_eq hg.symm)) hb); have n1_ := Aside0.mk (Kd.R_below (Kd.R_elderB (by (with_reducible repeat (first | apply Kd.R_alloc | apply Kd.R_drewN | apply Kd.R_drew)); exact HO_39.out) gb558 (Nat.le_of_eq hg.symm)) hb); have n2_ := Aside0.mk (Kd.R_below (Kd.R_elderB (by (with_reducible repeat (first | apply Kd.R_alloc | apply Kd.R_drewN | apply Kd.R_drew)); exact HO_45.out) gb558 (Nat.le_of_eq hg.symm)) hb); have n3_ := Aside0.mk (blk_below (bkA BK556) hb); have n4_ := Aside0.mk (below_step blA hb); have n5_ := Aside0.mk (hbox); have n6_ := Aside0.mk (szA hg blA); have n7_ := Aside0.mk (szA hg blA); have n8_ := Aside0.mk (neA hg (bkA BK556)); have n9_ := Aside0.mk (neB hg (bkA BK556)); clear HO_4; clear HO_39; clear HO_45; clear BK556; clear HB; have HO_4 := n0_; have HO_39 := n1_; have HO_45 := n2_; have BK556 := n3_; have HB := n4_; have BK558 := n5_; have GW558 := n6_; have GE558 := n7_; have NB556_558 := n8_; have NB558_556 := n9_; clear n0_ n1_ n2_ n3_ n4_ n5_ n6_ n7_ n8_ n9_; clear hb hbox hg; have hnb34 := NB558_556.out; have hnc34 := NB556_558.out; have hcz35_0 : w33.cell? ⟨gb558, 0, none⟩ = some (.int .i64 0) := (blk_cell BK558.out 0).trans rfl; have hcz35_1 : w33.cell? ⟨gb558, 1, none⟩ = some (.int .i64 0) := (blk_cell BK558.out 1).trans rfl; have hcz35_2 : w33.cell? ⟨gb558, 2, none⟩ = some (.int .i64 0) := (blk_cell BK558.out 2).trans rfl; have hcz35_3 : w33.cell? ⟨gb558, 3, none⟩ = some (.int .i64 0) := (blk_cell BK558.out 3).trans rfl; have hfz35_0 := blk_frozen BK558.out 0; have hfz35_1 := blk_frozen BK558.out 1; have hfz35_2 := blk_frozen BK558.out 2; have hfz35_3 := blk_frozen BK558.out 3; have hcz36_0 : w33.cell? ⟨gb556, 0, none⟩ = some (.int .i64 ((rd_T25 x4_1 x41_2).f0.f0)) := (blk_cell BK556.out 0).trans rfl; have hcz36_1 : w33.cell? ⟨gb556, 1, none⟩ = some (.int .i64 ((rd_T25 x4_1 x41_2).f0.f1)) := (blk_cell BK556.out 1).trans rfl; have hcz36_2 : w33.cell? ⟨gb556, 2, none⟩ = some (.int .i64 ((rd_T25 x4_1 x41_2).f1.f0)) := (blk_cell BK556.out 2).trans rfl; have hcz36_3 : w33.cell? ⟨gb556, 3, none⟩ = some (.int .i64 ((rd_T25 x4_1 x41_2).f1.f1)) := (blk_cell BK556.out 3).trans rfl; have hfz36_0 := blk_frozen BK556.out 0; have hfz36_1 := blk_frozen BK556.out 1; have hfz36_2 := blk_frozen BK556.out 2; have hfz36_3 := blk_frozen BK556.out 3) | ((with_reducible refine gate_callee (f := 73) rfl ?_); refine goesL_ (some 54) rfl rfl Try.func73 (by kernel_rfl) rfl #[.agg #[.int .i64 ((rd_T25 x4_1 x41_2).f0.f0), .int .i64 ((rd_T25 x4_1 x41_2).f0.f1), .int .i64 ((rd_T25 x4_1 x41_2).f1.f0), .int .i64 ((rd_T25 x4_1 x41_2).f1.f1)], .agg #[.int .i64 ((rd_T25 x4_1 x47_3).f0.f0), .int .i64 ((rd_T25 x4_1 x47_3).f0.f1), .int .i64 ((rd_T25 x4_1 x47_3).f1.f0), .int .i64 ((rd_T25 x4_1 x47_3).f1.f1)]] rfl (by (try simp only [List.map_toArray, List.map_cons, List.map_nil]); first | done | rfl | (simp only [List.length_drop, List.length_take]; rfl)) ?_; (with_reducible refine (impl_product.calls k3 ((rd_T25 x4_1 x41_2).f0.f0) ((rd_T25 x4_1 x41_2).f0.f1) ((rd_T25 x4_1 x41_2).f1.f0) ((rd_T25 x4_1 x41_2).f1.f1) ((rd_T25 x4_1 x47_3).f0.f0) ((rd_T25 x4_1 x47_3).f0.f1) ((rd_T25 x4_1 x47_3).f1.f0) ((rd_T25 x4_1 x47_3).f1.f1) t559 t560 t561 t562 true _ A29.out).mono ?_); rintro e w37 ⟨rfl, hb⟩; refine ⟨_, rfl, ?_⟩; have n0_ := Aside0.mk (Kd.R_below (by (with_reducible repeat (first | apply Kd.R_alloc | apply Kd.R_drewN | apply Kd.R_drew)); exact (Kd.R_mono (Kd.R_far (p := ⟨gb558, 3, none⟩) (Kd.R_far (p := ⟨gb558, 2, none⟩) (Kd.R_far (p := ⟨gb558, 1, none⟩) (Kd.R_far (p := ⟨gb558, 0, none⟩) (Kd.R_mono HO_4.out (fun k_ hk => (⟨hk, hk.2⟩ : _ ∧ k_ ≠ gb558))) (fun _ hk => hk.2) (.int .i64 ((rd_T25 x4_1 x47_3).f0.f0))) (fun _ hk => hk.2) (.int .i64 ((rd_T25 x4_1 x47_3).f0.f1))) (fun _ hk => hk.2) (.int .i64 ((rd_T25 x4_1 x47_3).f1.f0))) (fun _ hk => hk.2) (.int .i64 ((rd_T25 x4_1 x47_3).f1.f1))) (fun _ h_ => h_.1))) hb); have n1_ := Aside0.mk (Kd.R_below (by (with_reducible repeat (first | apply Kd.R_alloc | apply Kd.R_drewN | apply Kd.R_drew)); exact (Kd.R_mono (Kd.R_far (p := ⟨gb558, 3, none⟩) (Kd.R_far (p := ⟨gb558, 2, none⟩) (Kd.R_far (p := ⟨gb558, 1, none⟩) (Kd.R_far (p := ⟨gb558, 0, none⟩) (Kd.R_mono HO_39.out (fun k_ hk => (⟨hk, hk.2⟩ : _ ∧ k_ ≠ gb558))) (fun _ hk => hk.2) (.int .i64 ((rd_T25 x4_1 x47_3).f0.f0))) (fun _ hk => hk.2) (.int .i64 ((rd_T25 x4_1 x47_3).f0.f1))) (fun _ hk => hk.2) (.int .i64 ((rd_T25 x4_1 x47_3).f1.f0))) (fun _ hk => hk.2) (.int .i64 ((rd_T25 x4_1 x47_3).f1.f1))) (fun _ h_ => h_.1))) hb); have n2_ := Aside0.mk (Kd.R_below (by (with_reducible repeat (first | apply Kd.R_alloc | apply Kd.R_drewN | apply Kd.R_drew)); exact (Kd.R_mono (Kd.R_far (p := ⟨gb558, 3, none⟩) (Kd.R_far (p := ⟨gb558, 2, none⟩) (Kd.R_far (p := ⟨gb558, 1, none⟩) (Kd.R_far (p := ⟨gb558, 0, none⟩) (Kd.R_mono HO_45.out (fun k_ hk => (⟨hk, hk.2⟩ : _ ∧ k_ ≠ gb558))) (fun _ hk => hk.2) (.int .i64 ((rd_T25 x4_1 x47_3).f0.f0))) (fun _ hk => hk.2) (.int .i64 ((rd_T25 x4_1 x47_3).f0.f1))) (fun _ hk => hk.2) (.int .i64 ((rd_T25 x4_1 x47_3).f1.f0))) (fun _ hk => hk.2) (.int .i64 ((rd_T25 x4_1 x47_3).f1.f1))) (fun _ h_ => h_.1))) hb); have n3_ := Aside0.mk (blk_below (g := gb556) (o := .cells #[.int .i64 ((rd_T25 x4_1 x41_2).f0.f0), .int .i64 ((rd_T25 x4_1 x41_2).f0.f1), .int .i64 ((rd_T25 x4_1 x41_2).f1.f0), .int .i64 ((rd_T25 x4_1 x41_2).f1.f1)] 25 (0, 0)) (by (with_reducible repeat (first | refine blk_drewN ?_ _ | refine blk_drew ?_ | refine blk_alloc ?_ _)); refine blk_far ?_ NB556_558.out _; (with_reducible repeat (first | refine blk_drewN ?_ _ | refine blk_drew ?_ | refine blk_alloc ?_ _)); refine blk_far ?_ NB556_558.out _; (with_reducible repeat (first | refine blk_drewN ?_ _ | refine blk_drew ?_ | refine blk_alloc ?_ _)); refine blk_far ?_ NB556_558.out _; (with_reducible repeat (first | refine blk_drewN ?_ _ | refine blk_drew ?_ | refine blk_alloc ?_ _)); refine blk_far ?_ NB556_558.out _; (with_reducible repeat (first | refine blk_drewN ?_ _ | refine blk_drew ?_ | refine blk_alloc ?_ _)); exact BK556.out) hb); have n4_ := Aside0.mk (blk_below (g := gb558) (o := .cells #[.int .i64 ((rd_T25 x4_1 x47_3).f0.f0), .int .i64 ((rd_T25 x4_1 x47_3).f0.f1), .int .i64 ((rd_T25 x4_1 x47_3).f1.f0), .int .i64 ((rd_T25 x4_1 x47_3).f1.f1)] 25 (0, 0)) (by (with_reducible repeat (first | refine blk_drewN ?_ _ | refine blk_drew ?_ | refine blk_alloc ?_ _)); refine blk_put (cs := #[.int .i64 ((rd_T25 x4_1 x47_3).f0.f0), .int .i64 ((rd_T25 x4_1 x47_3).f0.f1), .int .i64 ((rd_T25 x4_1 x47_3).f1.f0), .int .i64 0]) ?_ 3 _ rfl; (with_reducible repeat (first | refine blk_drewN ?_ _ | refine blk_drew ?_ | refine blk_alloc ?_ _)); refine blk_put (cs := #[.int .i64 ((rd_T25 x4_1 x47_3).f0.f0), .int .i64 ((rd_T25 x4_1 x47_3).f0.f1), .int .i64 0, .int .i64 0]) ?_ 2 _ rfl; (with_reducible repeat (first | refine blk_drewN ?_ _ | refine blk_drew ?_ | refine blk_alloc ?_ _)); refine blk_put (cs := #[.int .i64 ((rd_T25 x4_1 x47_3).f0.f0), .int .i64 0, .int .i64 0, .int .i64 0]) ?_ 1 _ rfl; (with_reducible repeat (first | refine blk_drewN ?_ _ | refine blk_drew ?_ | refine blk_alloc ?_ _)); refine blk_put (cs := #[.int .i64 0, .int .i64 0, .int .i64 0, .int .i64 0]) ?_ 0 _ rfl; (with_reducible repeat (first | refine blk_drewN ?_ _ | refine blk_drew ?_ | refine blk_alloc ?_ _)); exact BK558.out) hb); have n5_ := Aside0.mk (below_step blA hb); clear HO_4; clear HO_39; clear HO_45; clear BK556; clear BK558; clear HB; have HO_4 := n0_; have HO_39 := n1_; have HO_45 := n2_; have BK556 := n3_; have BK558 := n4_; have HB := n5_; clear n0_ n1_ n2_ n3_ n4_ n5_; (try clear hb); (try clear hb2); (try clear hk); (try clear hi)) | ((with_reducible refine gate_dst (N := 11) rfl ?_); (try (refine gate_guard (by rfl) ?_; dsimp only)); refine box_event ?hg (N := 11) ?hd (cs := #[.int .i64 0, .int .i64 0, .int .i64 0, .int .i64 0]) (t := 25) ?hr ?_; (case hd => rfl); (case hg => rfl); (case hr => first | (go_simp; done) | (go_simp; rfl)); intro gb564 hg w38 hbox hb; have n0_ := Aside0.mk (Kd.R_below (Kd.R_elderB (by (with_reducible repeat (first | apply Kd.R_alloc | apply Kd.R_drewN | apply Kd.R_drew)); exact HO_4.out) gb564 (Nat.le_of_eq hg.symm)) hb); have n1_ := Aside0.mk (Kd.R_below (Kd.R_elderB (by (with_reducible repeat (first | apply Kd.R_alloc | apply Kd.R_drewN | apply Kd.R_drew)); exact HO_39.out) gb564 (Nat.le_of_eq hg.symm)) hb); have n2_ := Aside0.mk (Kd.R_below (Kd.R_elderB (by (with_reducible repeat (first | apply Kd.R_alloc | apply Kd.R_drewN | apply Kd.R_drew)); exact HO_45.out) gb564 (Nat.le_of_eq hg.symm)) hb); have n3_ := Aside0.mk (blk_below (bkA BK556) hb); have n4_ := Aside0.mk (blk_below (bkA BK558) hb); have n5_ := Aside0.mk (below_step blA hb); have n6_ := Aside0.mk (hbox); have n7_ := Aside0.mk (szA hg blA); have n8_ := Aside0.mk (szA hg blA); have n9_ := Aside0.mk (neA hg (bkA BK556)); have n10_ := Aside0.mk (neB hg (bkA BK556)); have n11_ := Aside0.mk (neA hg (bkA BK558)); have n12_ := Aside0.mk (neB hg (bkA BK558)); clear HO_4; clear HO_39; clear HO_45; clear BK556; clear BK558; clear HB; have HO_4 := n0_; have HO_39 := n1_; have HO_45 := n2_; have BK556 := n3_; have BK558 := n4_; have HB := n5_; have BK564 := n6_; have GW564 := n7_; have GE564 := n8_; have NB556_564 := n9_; have NB564_556 := n10_; have NB558_564 := n11_; have NB564_558 := n12_; clear n0_ n1_ n2_ n3_ n4_ n5_ n6_ n7_ n8_ n9_ n10_ n11_ n12_; clear hb hbox hg; have hnb39 := NB564_556.out; have hnc39 := NB556_564.out; have hnb40 := NB564_558.out; have hnc40 := NB558_564.out; have hcz41_0 : w38.cell? ⟨gb564, 0, none⟩ = some (.int .i64 0) := (blk_cell BK564.out 0).trans rfl; have hcz41_1 : w38.cell? ⟨gb564, 1, none⟩ = some (.int .i64 0) := (blk_cell BK564.out 1).trans rfl; have hcz41_2 : w38.cell? ⟨gb564, 2, none⟩ = some (.int .i64 0) := (blk_cell BK564.out 2).trans rfl; have hcz41_3 : w38.cell? ⟨gb564, 3, none⟩ = some (.int .i64 0) := (blk_cell BK564.out 3).trans rfl; have hfz41_0 := blk_frozen BK564.out 0; have hfz41_1 := blk_frozen BK564.out 1; have hfz41_2 := blk_frozen BK564.out 2; have hfz41_3 := blk_frozen BK564.out 3) | (go_at_call 76; (with_reducible refine (impl_Matrix_76.calls k3 _ _ x4_1 t559 t560 t561 t562 true _ ?side1 ?side2 A31.out).mono ?_); (case side1 => refine (Kd.R_reads' (e := 25) (base := w.heap.size) (ok := fun k_ => ((k_ ≠ gb556 ∧ k_ ≠ gb558) ∧ k_ ≠ gb564)) (n := x4_1.length) (c := co20) ?_).2.2; exact (by (with_reducible repeat (first | apply Kd.R_alloc | apply Kd.R_drewN | apply Kd.R_drew)); exact (Kd.R_mono (Kd.R_far (p := ⟨gb564, 3, none⟩) (Kd.R_far (p := ⟨gb564, 2, none⟩) (Kd.R_far (p := ⟨gb564, 1, none⟩) (Kd.R_far (p := ⟨gb564, 0, none⟩) (Kd.R_mono HO_4.out (fun k_ hk => (⟨hk, hk.2⟩ : _ ∧ k_ ≠ gb564))) (fun _ hk => hk.2) (.int .i64 t559)) (fun _ hk => hk.2) (.int .i64 t560)) (fun _ hk => hk.2) (.int .i64 t561)) (fun _ hk => hk.2) (.int .i64 t562)) (fun _ h_ => h_.1)))); (case side2 => exact (Kd.R_reads' HO_4.out).2.1); rintro e w42 ⟨rfl, hb⟩; have n0_ := Aside0.mk (Kd.R_below (by (with_reducible repeat (first | apply Kd.R_alloc | apply Kd.R_drewN | apply Kd.R_drew)); exact (Kd.R_mono (Kd.R_far (p := ⟨gb564, 3, none⟩) (Kd.R_far (p := ⟨gb564, 2, none⟩) (Kd.R_far (p := ⟨gb564, 1, none⟩) (Kd.R_far (p := ⟨gb564, 0, none⟩) (Kd.R_mono HO_4.out (fun k_ hk => (⟨hk, hk.2⟩ : _ ∧ k_ ≠ gb564))) (fun _ hk => hk.2) (.int .i64 t559)) (fun _ hk => hk.2) (.int .i64 t560)) (fun _ hk => hk.2) (.int .i64 t561)) (fun _ hk => hk.2) (.int .i64 t562)) (fun _ h_ => h_.1))) hb); have n1_ := Aside0.mk (Kd.R_below (by (with_reducible repeat (first | apply Kd.R_alloc | apply Kd.R_drewN | apply Kd.R_drew)); exact (Kd.R_mono (Kd.R_far (p := ⟨gb564, 3, none⟩) (Kd.R_far (p := ⟨gb564, 2, none⟩) (Kd.R_far (p := ⟨gb564, 1, none⟩) (Kd.R_far (p := ⟨gb564, 0, none⟩) (Kd.R_mono HO_39.out (fun k_ hk => (⟨hk, hk.2⟩ : _ ∧ k_ ≠ gb564))) (fun _ hk => hk.2) (.int .i64 t559)) (fun _ hk => hk.2) (.int .i64 t560)) (fun _ hk => hk.2) (.int .i64 t561)) (fun _ hk => hk.2) (.int .i64 t562)) (fun _ h_ => h_.1))) hb); have n2_ := Aside0.mk (Kd.R_below (by (with_reducible repeat (first | apply Kd.R_alloc | apply Kd.R_drewN | apply Kd.R_drew)); exact (Kd.R_mono (Kd.R_far (p := ⟨gb564, 3, none⟩) (Kd.R_far (p := ⟨gb564, 2, none⟩) (Kd.R_far (p := ⟨gb564, 1, none⟩) (Kd.R_far (p := ⟨gb564, 0, none⟩) (Kd.R_mono HO_45.out (fun k_ hk => (⟨hk, hk.2⟩ : _ ∧ k_ ≠ gb564))) (fun _ hk => hk.2) (.int .i64 t559)) (fun _ hk => hk.2) (.int .i64 t560)) (fun _ hk => hk.2) (.int .i64 t561)) (fun _ hk => hk.2) (.int .i64 t562)) (fun _ h_ => h_.1))) hb); have n3_ := Aside0.mk (blk_below (g := gb556) (o := .cells #[.int .i64 ((rd_T25 x4_1 x41_2).f0.f0), .int .i64 ((rd_T25 x4_1 x41_2).f0.f1), .int .i64 ((rd_T25 x4_1 x41_2).f1.f0), .int .i64 ((rd_T25 x4_1 x41_2).f1.f1)] 25 (0, 0)) (by (with_reducible repeat (first | refine blk_drewN ?_ _ | refine blk_drew ?_ | refine blk_alloc ?_ _)); refine blk_far ?_ NB556_564.out _; (with_reducible repeat (first | refine blk_drewN ?_ _ | refine blk_drew ?_ | refine blk_alloc ?_ _)); refine blk_far ?_ NB556_564.out _; (with_reducible repeat (first | refine blk_drewN ?_ _ | refine blk_drew ?_ | refine blk_alloc ?_ _)); refine blk_far ?_ NB556_564.out _; (with_reducible repeat (first | refine blk_drewN ?_ _ | refine blk_drew ?_ | refine blk_alloc ?_ _)); refine blk_far ?_ NB556_564.out _; (with_reducible repeat (first | refine blk_drewN ?_ _ | refine blk_drew ?_ | refine blk_alloc ?_ _)); exact BK556.out) hb); have n4_ := Aside0.mk (blk_below (g := gb558) (o := .cells #[.int .i64 ((rd_T25 x4_1 x47_3).f0.f0), .int .i64 ((rd_T25 x4_1 x47_3).f0.f1), .int .i64 ((rd_T25 x4_1 x47_3).f1.f0), .int .i64 ((rd_T25 x4_1 x47_3).f1.f1)] 25 (0, 0)) (by (with_reducible repeat (first | refine blk_drewN ?_ _ | refine blk_drew ?_ | refine blk_alloc ?_ _)); refine blk_far ?_ NB558_564.out _; (with_reducible repeat (first | refine blk_drewN ?_ _ | refine blk_drew ?_ | refine blk_alloc ?_ _)); refine blk_far ?_ NB558_564.out _; (with_reducible repeat (first | refine blk_drewN ?_ _ | refine blk_drew ?_ | refine blk_alloc ?_ _)); refine blk_far ?_ NB558_564.out _; (with_reducible repeat (first | refine blk_drewN ?_ _ | refine blk_drew ?_ | refine blk_alloc ?_ _)); refine blk_far ?_ NB558_564.out _; (with_reducible repeat (first | refine blk_drewN ?_ _ | refine blk_drew ?_ | refine blk_alloc ?_ _)); exact BK558.out) hb); have n5_ := Aside0.mk (blk_below (g := gb564) (o := .cells #[.int .i64 t559, .int .i64 t560, .int .i64 t561, .int .i64 t562] 25 (0, 0)) (by (with_reducible repeat (first | refine blk_drewN ?_ _ | refine blk_drew ?_ | refine blk_alloc ?_ _)); refine blk_put (cs := #[.int .i64 t559, .int .i64 t560, .int .i64 t561, .int .i64 0]) ?_ 3 _ rfl; (with_reducible repeat (first | refine blk_drewN ?_ _ | refine blk_drew ?_ | refine blk_alloc ?_ _)); refine blk_put (cs := #[.int .i64 t559, .int .i64 t560, .int .i64 0, .int .i64 0]) ?_ 2 _ rfl; (with_reducible repeat (first | refine blk_drewN ?_ _ | refine blk_drew ?_ | refine blk_alloc ?_ _)); refine blk_put (cs := #[.int .i64 t559, .int .i64 0, .int .i64 0, .int .i64 0]) ?_ 1 _ rfl; (with_reducible repeat (first | refine blk_drewN ?_ _ | refine blk_drew ?_ | refine blk_alloc ?_ _)); refine blk_put (cs := #[.int .i64 0, .int .i64 0, .int .i64 0, .int .i64 0]) ?_ 0 _ rfl; (with_reducible repeat (first | refine blk_drewN ?_ _ | refine blk_drew ?_ | refine blk_alloc ?_ _)); exact BK564.out) hb); have n6_ := Aside0.mk (below_step blA hb); clear HO_4; clear HO_39; clear HO_45; clear BK556; clear BK558; clear BK564; clear HB; have HO_4 := n0_; have HO_39 := n1_; have HO_45 := n2_; have BK556 := n3_; have BK558 := n4_; have BK564 := n5_; have HB := n6_; clear n0_ n1_ n2_ n3_ n4_ n5_ n6_; (try clear hb); (try clear hb2); (try clear hk); (try clear hi)))
                                      go_roundg k3
                                      case measure => have := HK1.out; have := HK2.out; have := HK3.out; omega
                                      case rel => exact ⟨(wrap64 (x47_3 + 1)), (by first | rfl | (simp; done) | (simp [*]; done)), H', ⟨by have := HK1.out; have := HK2.out; have := HK3.out; omega⟩, ⟨by (with_reducible repeat (first | apply Kd.R_alloc | apply Kd.R_drewN | apply Kd.R_drew)); exact Kd.R_mono HO_4.out (fun _ hk => hk.1.1)⟩, ⟨by (with_reducible repeat (first | apply Kd.R_alloc | apply Kd.R_drewN | apply Kd.R_drew)); exact Kd.R_mono HO_39.out (fun _ hk => hk.1.1)⟩, ⟨by (with_reducible repeat (first | apply Kd.R_alloc | apply Kd.R_drewN | apply Kd.R_drew)); exact Kd.R_mono HO_45.out (fun _ hk => hk.1.1)⟩, ⟨bkA BK556⟩, ⟨blA⟩⟩
                                    · replace c32 := Bool.eq_false_iff.mpr c32
                                      subst c32
                                      have H1 : (some (false, 0)) = some (r1, r2) := by rw [if_neg (show ¬ (false = true) by decide)] at H; exact H
                                      clear H
                                      have H := H1
                                      clear H1
                                      simp only [Option.some.injEq, Prod.mk.injEq] at H
                                      obtain ⟨rfl, rfl⟩ := H
                                      have p557 : 0 ≤ (x47_3 : Int) := of_decide_eq_true (by first | (with_reducible assumption) | assumption)
                                      have q557 : x47_3 < (x4_1.length : Int) := of_decide_eq_true (by first | (with_reducible assumption) | assumption)
                                      obtain ⟨ad557, e557, hx557_0, hx557_1, hx557_2, hx557_3⟩ := at_T25 (Kd.R_reads' HO_45.out).2.2 x47_3 p557 q557
                                      obtain rfl : ad555 = ad557 := (by injection e557)
                                      replace p557 := eq_true p557
                                      replace q557 := eq_true q557
                                      go_wp2_with (first | ((with_reducible refine gate_dst (N := 10) rfl ?_); (try (refine gate_guard (by rfl) ?_; dsimp only)); refine box_event ?hg (N := 10) ?hd (cs := #[.int .i64 0, .int .i64 0, .int .i64 0, .int .i64 0]) (t := 25) ?hr ?_; (case hd => rfl); (case hg => rfl); (case hr => first | (go_simp; done) | (go_simp; rfl)); intro gb558 hg w43 hbox hb; have n0_ := Aside0.mk (Kd.R_below (Kd.R_elderB (by (with_reducible repeat (first | apply Kd.R_alloc | apply Kd.R_drewN | apply Kd.R_drew)); exact HO_4.out) gb558 (Nat.le_of_eq hg.symm)) hb); have n1_ := Aside0.mk (Kd.R_below (Kd.R_elderB (by (with_reducible repeat (first | apply Kd.R_alloc | apply Kd.R_drewN | apply Kd.R_drew)); exact HO_39.out) gb558 (Nat.le_of_eq hg.symm)) hb); have n2_ := Aside0.mk (Kd.R_below (Kd.R_elderB (by (with_reducible repeat (first | apply Kd.R_alloc | apply Kd.R_drewN | apply Kd.R_drew)); exact HO_45.out) gb558 (Nat.le_of_eq hg.symm)) hb); have n3_ := Aside0.mk (blk_below (bkA BK556) hb); have n4_ := Aside0.mk (below_step blA hb); have n5_ := Aside0.mk (hbox); have n6_ := Aside0.mk (szA hg blA); have n7_ := Aside0.mk (szA hg blA); have n8_ := Aside0.mk (neA hg (bkA BK556)); have n9_ := Aside0.mk (neB hg (bkA BK556)); clear HO_4; clear HO_39; clear HO_45; clear BK556; clear HB; have HO_4 := n0_; have HO_39 := n1_; have HO_45 := n2_; have BK556 := n3_; have HB := n4_; have BK558 := n5_; have GW558 := n6_; have GE558 := n7_; have NB556_558 := n8_; have NB558_556 := n9_; clear n0_ n1_ n2_ n3_ n4_ n5_ n6_ n7_ n8_ n9_; clear hb hbox hg; have hnb44 := NB558_556.out; have hnc44 := NB556_558.out; have hcz45_0 : w43.cell? ⟨gb558, 0, none⟩ = some (.int .i64 0) := (blk_cell BK558.out 0).trans rfl; have hcz45_1 : w43.cell? ⟨gb558, 1, none⟩ = some (.int .i64 0) := (blk_cell BK558.out 1).trans rfl; have hcz45_2 : w43.cell? ⟨gb558, 2, none⟩ = some (.int .i64 0) := (blk_cell BK558.out 2).trans rfl; have hcz45_3 : w43.cell? ⟨gb558, 3, none⟩ = some (.int .i64 0) := (blk_cell BK558.out 3).trans rfl; have hfz45_0 := blk_frozen BK558.out 0; have hfz45_1 := blk_frozen BK558.out 1; have hfz45_2 := blk_frozen BK558.out 2; have hfz45_3 := blk_frozen BK558.out 3; have hcz46_0 : w43.cell? ⟨gb556, 0, none⟩ = some (.int .i64 ((rd_T25 x4_1 x41_2).f0.f0)) := (blk_cell BK556.out 0).trans rfl; have hcz46_1 : w43.cell? ⟨gb556, 1, none⟩ = some (.int .i64 ((rd_T25 x4_1 x41_2).f0.f1)) := (blk_cell BK556.out 1).trans rfl; have hcz46_2 : w43.cell? ⟨gb556, 2, none⟩ = some (.int .i64 ((rd_T25 x4_1 x41_2).f1.f0)) := (blk_cell BK556.out 2).trans rfl; have hcz46_3 : w43.cell? ⟨gb556, 3, none⟩ = some (.int .i64 ((rd_T25 x4_1 x41_2).f1.f1)) := (blk_cell BK556.out 3).trans rfl; have hfz46_0 := blk_frozen BK556.out 0; have hfz46_1 := blk_frozen BK556.out 1; have hfz46_2 := blk_frozen BK556.out 2; have hfz46_3 := blk_frozen BK556.out 3) | ((with_reducible refine gate_callee (f := 73) rfl ?_); refine goesL_ (some 54) rfl rfl Try.func73 (by kernel_rfl) rfl #[.agg #[.int .i64 ((rd_T25 x4_1 x41_2).f0.f0), .int .i64 ((rd_T25 x4_1 x41_2).f0.f1), .int .i64 ((rd_T25 x4_1 x41_2).f1.f0), .int .i64 ((rd_T25 x4_1 x41_2).f1.f1)], .agg #[.int .i64 ((rd_T25 x4_1 x47_3).f0.f0), .int .i64 ((rd_T25 x4_1 x47_3).f0.f1), .int .i64 ((rd_T25 x4_1 x47_3).f1.f0), .int .i64 ((rd_T25 x4_1 x47_3).f1.f1)]] rfl (by (try simp only [List.map_toArray, List.map_cons, List.map_nil]); first | done | rfl | (simp only [List.length_drop, List.length_take]; rfl)) ?_; (with_reducible refine (impl_product.calls k3 ((rd_T25 x4_1 x41_2).f0.f0) ((rd_T25 x4_1 x41_2).f0.f1) ((rd_T25 x4_1 x41_2).f1.f0) ((rd_T25 x4_1 x41_2).f1.f1) ((rd_T25 x4_1 x47_3).f0.f0) ((rd_T25 x4_1 x47_3).f0.f1) ((rd_T25 x4_1 x47_3).f1.f0) ((rd_T25 x4_1 x47_3).f1.f1) t559 t560 t561 t562 true _ A29.out).mono ?_); rintro e w47 ⟨rfl, hb⟩; refine ⟨_, rfl, ?_⟩; have n0_ := Aside0.mk (Kd.R_below (by (with_reducible repeat (first | apply Kd.R_alloc | apply Kd.R_drewN | apply Kd.R_drew)); exact (Kd.R_mono (Kd.R_far (p := ⟨gb558, 3, none⟩) (Kd.R_far (p := ⟨gb558, 2, none⟩) (Kd.R_far (p := ⟨gb558, 1, none⟩) (Kd.R_far (p := ⟨gb558, 0, none⟩) (Kd.R_mono HO_4.out (fun k_ hk => (⟨hk, hk.2⟩ : _ ∧ k_ ≠ gb558))) (fun _ hk => hk.2) (.int .i64 ((rd_T25 x4_1 x47_3).f0.f0))) (fun _ hk => hk.2) (.int .i64 ((rd_T25 x4_1 x47_3).f0.f1))) (fun _ hk => hk.2) (.int .i64 ((rd_T25 x4_1 x47_3).f1.f0))) (fun _ hk => hk.2) (.int .i64 ((rd_T25 x4_1 x47_3).f1.f1))) (fun _ h_ => h_.1))) hb); have n1_ := Aside0.mk (Kd.R_below (by (with_reducible repeat (first | apply Kd.R_alloc | apply Kd.R_drewN | apply Kd.R_drew)); exact (Kd.R_mono (Kd.R_far (p := ⟨gb558, 3, none⟩) (Kd.R_far (p := ⟨gb558, 2, none⟩) (Kd.R_far (p := ⟨gb558, 1, none⟩) (Kd.R_far (p := ⟨gb558, 0, none⟩) (Kd.R_mono HO_39.out (fun k_ hk => (⟨hk, hk.2⟩ : _ ∧ k_ ≠ gb558))) (fun _ hk => hk.2) (.int .i64 ((rd_T25 x4_1 x47_3).f0.f0))) (fun _ hk => hk.2) (.int .i64 ((rd_T25 x4_1 x47_3).f0.f1))) (fun _ hk => hk.2) (.int .i64 ((rd_T25 x4_1 x47_3).f1.f0))) (fun _ hk => hk.2) (.int .i64 ((rd_T25 x4_1 x47_3).f1.f1))) (fun _ h_ => h_.1))) hb); have n2_ := Aside0.mk (Kd.R_below (by (with_reducible repeat (first | apply Kd.R_alloc | apply Kd.R_drewN | apply Kd.R_drew)); exact (Kd.R_mono (Kd.R_far (p := ⟨gb558, 3, none⟩) (Kd.R_far (p := ⟨gb558, 2, none⟩) (Kd.R_far (p := ⟨gb558, 1, none⟩) (Kd.R_far (p := ⟨gb558, 0, none⟩) (Kd.R_mono HO_45.out (fun k_ hk => (⟨hk, hk.2⟩ : _ ∧ k_ ≠ gb558))) (fun _ hk => hk.2) (.int .i64 ((rd_T25 x4_1 x47_3).f0.f0))) (fun _ hk => hk.2) (.int .i64 ((rd_T25 x4_1 x47_3).f0.f1))) (fun _ hk => hk.2) (.int .i64 ((rd_T25 x4_1 x47_3).f1.f0))) (fun _ hk => hk.2) (.int .i64 ((rd_T25 x4_1 x47_3).f1.f1))) (fun _ h_ => h_.1))) hb); have n3_ := Aside0.mk (blk_below (g := gb556) (o := .cells #[.int .i64 ((rd_T25 x4_1 x41_2).f0.f0), .int .i64 ((rd_T25 x4_1 x41_2).f0.f1), .int .i64 ((rd_T25 x4_1 x41_2).f1.f0), .int .i64 ((rd_T25 x4_1 x41_2).f1.f1)] 25 (0, 0)) (by (with_reducible repeat (first | refine blk_drewN ?_ _ | refine blk_drew ?_ | refine blk_alloc ?_ _)); refine blk_far ?_ NB556_558.out _; (with_reducible repeat (first | refine blk_drewN ?_ _ | refine blk_drew ?_ | refine blk_alloc ?_ _)); refine blk_far ?_ NB556_558.out _; (with_reducible repeat (first | refine blk_drewN ?_ _ | refine blk_drew ?_ | refine blk_alloc ?_ _)); refine blk_far ?_ NB556_558.out _; (with_reducible repeat (first | refine blk_drewN ?_ _ | refine blk_drew ?_ | refine blk_alloc ?_ _)); refine blk_far ?_ NB556_558.out _; (with_reducible repeat (first | refine blk_drewN ?_ _ | refine blk_drew ?_ | refine blk_alloc ?_ _)); exact BK556.out) hb); have n4_ := Aside0.mk (blk_below (g := gb558) (o := .cells #[.int .i64 ((rd_T25 x4_1 x47_3).f0.f0), .int .i64 ((rd_T25 x4_1 x47_3).f0.f1), .int .i64 ((rd_T25 x4_1 x47_3).f1.f0), .int .i64 ((rd_T25 x4_1 x47_3).f1.f1)] 25 (0, 0)) (by (with_reducible repeat (first | refine blk_drewN ?_ _ | refine blk_drew ?_ | refine blk_alloc ?_ _)); refine blk_put (cs := #[.int .i64 ((rd_T25 x4_1 x47_3).f0.f0), .int .i64 ((rd_T25 x4_1 x47_3).f0.f1), .int .i64 ((rd_T25 x4_1 x47_3).f1.f0), .int .i64 0]) ?_ 3 _ rfl; (with_reducible repeat (first | refine blk_drewN ?_ _ | refine blk_drew ?_ | refine blk_alloc ?_ _)); refine blk_put (cs := #[.int .i64 ((rd_T25 x4_1 x47_3).f0.f0), .int .i64 ((rd_T25 x4_1 x47_3).f0.f1), .int .i64 0, .int .i64 0]) ?_ 2 _ rfl; (with_reducible repeat (first | refine blk_drewN ?_ _ | refine blk_drew ?_ | refine blk_alloc ?_ _)); refine blk_put (cs := #[.int .i64 ((rd_T25 x4_1 x47_3).f0.f0), .int .i64 0, .int .i64 0, .int .i64 0]) ?_ 1 _ rfl; (with_reducible repeat (first | refine blk_drewN ?_ _ | refine blk_drew ?_ | refine blk_alloc ?_ _)); refine blk_put (cs := #[.int .i64 0, .int .i64 0, .int .i64 0, .int .i64 0]) ?_ 0 _ rfl; (with_reducible repeat (first | refine blk_drewN ?_ _ | refine blk_drew ?_ | refine blk_alloc ?_ _)); exact BK558.out) hb); have n5_ := Aside0.mk (below_step blA hb); clear HO_4; clear HO_39; clear HO_45; clear BK556; clear BK558; clear HB; have HO_4 := n0_; have HO_39 := n1_; have HO_45 := n2_; have BK556 := n3_; have BK558 := n4_; have HB := n5_; clear n0_ n1_ n2_ n3_ n4_ n5_; (try clear hb); (try clear hb2); (try clear hk); (try clear hi)) | ((with_reducible refine gate_dst (N := 11) rfl ?_); (try (refine gate_guard (by rfl) ?_; dsimp only)); refine box_event ?hg (N := 11) ?hd (cs := #[.int .i64 0, .int .i64 0, .int .i64 0, .int .i64 0]) (t := 25) ?hr ?_; (case hd => rfl); (case hg => rfl); (case hr => first | (go_simp; done) | (go_simp; rfl)); intro gb564 hg w48 hbox hb; have n0_ := Aside0.mk (Kd.R_below (Kd.R_elderB (by (with_reducible repeat (first | apply Kd.R_alloc | apply Kd.R_drewN | apply Kd.R_drew)); exact HO_4.out) gb564 (Nat.le_of_eq hg.symm)) hb); have n1_ := Aside0.mk (Kd.R_below (Kd.R_elderB (by (with_reducible repeat (first | apply Kd.R_alloc | apply Kd.R_drewN | apply Kd.R_drew)); exact HO_39.out) gb564 (Nat.le_of_eq hg.symm)) hb); have n2_ := Aside0.mk (Kd.R_below (Kd.R_elderB (by (with_reducible repeat (first | apply Kd.R_alloc | apply Kd.R_drewN | apply Kd.R_drew)); exact HO_45.out) gb564 (Nat.le_of_eq hg.symm)) hb); have n3_ := Aside0.mk (blk_below (bkA BK556) hb); have n4_ := Aside0.mk (blk_below (bkA BK558) hb); have n5_ := Aside0.mk (below_step blA hb); have n6_ := Aside0.mk (hbox); have n7_ := Aside0.mk (szA hg blA); have n8_ := Aside0.mk (szA hg blA); have n9_ := Aside0.mk (neA hg (bkA BK556)); have n10_ := Aside0.mk (neB hg (bkA BK556)); have n11_ := Aside0.mk (neA hg (bkA BK558)); have n12_ := Aside0.mk (neB hg (bkA BK558)); clear HO_4; clear HO_39; clear HO_45; clear BK556; clear BK558; clear HB; have HO_4 := n0_; have HO_39 := n1_; have HO_45 := n2_; have BK556 := n3_; have BK558 := n4_; have HB := n5_; have BK564 := n6_; have GW564 := n7_; have GE564 := n8_; have NB556_564 := n9_; have NB564_556 := n10_; have NB558_564 := n11_; have NB564_558 := n12_; clear n0_ n1_ n2_ n3_ n4_ n5_ n6_ n7_ n8_ n9_ n10_ n11_ n12_; clear hb hbox hg; have hnb49 := NB564_556.out; have hnc49 := NB556_564.out; have hnb50 := NB564_558.out; have hnc50 := NB558_564.out; have hcz51_0 : w48.cell? ⟨gb564, 0, none⟩ = some (.int .i64 0) := (blk_cell BK564.out 0).trans rfl; have hcz51_1 : w48.cell? ⟨gb564, 1, none⟩ = some (.int .i64 0) := (blk_cell BK564.out 1).trans rfl; have hcz51_2 : w48.cell? ⟨gb564, 2, none⟩ = some (.int .i64 0) := (blk_cell BK564.out 2).trans rfl; have hcz51_3 : w48.cell? ⟨gb564, 3, none⟩ = some (.int .i64 0) := (blk_cell BK564.out 3).trans rfl; have hfz51_0 := blk_frozen BK564.out 0; have hfz51_1 := blk_frozen BK564.out 1; have hfz51_2 := blk_frozen BK564.out 2; have hfz51_3 := blk_frozen BK564.out 3) | (go_at_call 76; (with_reducible refine (impl_Matrix_76.calls k3 _ _ x4_1 t559 t560 t561 t562 false _ ?side1 ?side2 A31.out).mono ?_); (case side1 => refine (Kd.R_reads' (e := 25) (base := w.heap.size) (ok := fun k_ => ((k_ ≠ gb556 ∧ k_ ≠ gb558) ∧ k_ ≠ gb564)) (n := x4_1.length) (c := co20) ?_).2.2; exact (by (with_reducible repeat (first | apply Kd.R_alloc | apply Kd.R_drewN | apply Kd.R_drew)); exact (Kd.R_mono (Kd.R_far (p := ⟨gb564, 3, none⟩) (Kd.R_far (p := ⟨gb564, 2, none⟩) (Kd.R_far (p := ⟨gb564, 1, none⟩) (Kd.R_far (p := ⟨gb564, 0, none⟩) (Kd.R_mono HO_4.out (fun k_ hk => (⟨hk, hk.2⟩ : _ ∧ k_ ≠ gb564))) (fun _ hk => hk.2) (.int .i64 t559)) (fun _ hk => hk.2) (.int .i64 t560)) (fun _ hk => hk.2) (.int .i64 t561)) (fun _ hk => hk.2) (.int .i64 t562)) (fun _ h_ => h_.1)))); (case side2 => exact (Kd.R_reads' HO_4.out).2.1); rintro e w52 ⟨rfl, hb⟩; have n0_ := Aside0.mk (Kd.R_below (by (with_reducible repeat (first | apply Kd.R_alloc | apply Kd.R_drewN | apply Kd.R_drew)); exact (Kd.R_mono (Kd.R_far (p := ⟨gb564, 3, none⟩) (Kd.R_far (p := ⟨gb564, 2, none⟩) (Kd.R_far (p := ⟨gb564, 1, none⟩) (Kd.R_far (p := ⟨gb564, 0, none⟩) (Kd.R_mono HO_4.out (fun k_ hk => (⟨hk, hk.2⟩ : _ ∧ k_ ≠ gb564))) (fun _ hk => hk.2) (.int .i64 t559)) (fun _ hk => hk.2) (.int .i64 t560)) (fun _ hk => hk.2) (.int .i64 t561)) (fun _ hk => hk.2) (.int .i64 t562)) (fun _ h_ => h_.1))) hb); have n1_ := Aside0.mk (Kd.R_below (by (with_reducible repeat (first | apply Kd.R_alloc | apply Kd.R_drewN | apply Kd.R_drew)); exact (Kd.R_mono (Kd.R_far (p := ⟨gb564, 3, none⟩) (Kd.R_far (p := ⟨gb564, 2, none⟩) (Kd.R_far (p := ⟨gb564, 1, none⟩) (Kd.R_far (p := ⟨gb564, 0, none⟩) (Kd.R_mono HO_39.out (fun k_ hk => (⟨hk, hk.2⟩ : _ ∧ k_ ≠ gb564))) (fun _ hk => hk.2) (.int .i64 t559)) (fun _ hk => hk.2) (.int .i64 t560)) (fun _ hk => hk.2) (.int .i64 t561)) (fun _ hk => hk.2) (.int .i64 t562)) (fun _ h_ => h_.1))) hb); have n2_ := Aside0.mk (Kd.R_below (by (with_reducible repeat (first | apply Kd.R_alloc | apply Kd.R_drewN | apply Kd.R_drew)); exact (Kd.R_mono (Kd.R_far (p := ⟨gb564, 3, none⟩) (Kd.R_far (p := ⟨gb564, 2, none⟩) (Kd.R_far (p := ⟨gb564, 1, none⟩) (Kd.R_far (p := ⟨gb564, 0, none⟩) (Kd.R_mono HO_45.out (fun k_ hk => (⟨hk, hk.2⟩ : _ ∧ k_ ≠ gb564))) (fun _ hk => hk.2) (.int .i64 t559)) (fun _ hk => hk.2) (.int .i64 t560)) (fun _ hk => hk.2) (.int .i64 t561)) (fun _ hk => hk.2) (.int .i64 t562)) (fun _ h_ => h_.1))) hb); have n3_ := Aside0.mk (blk_below (g := gb556) (o := .cells #[.int .i64 ((rd_T25 x4_1 x41_2).f0.f0), .int .i64 ((rd_T25 x4_1 x41_2).f0.f1), .int .i64 ((rd_T25 x4_1 x41_2).f1.f0), .int .i64 ((rd_T25 x4_1 x41_2).f1.f1)] 25 (0, 0)) (by (with_reducible repeat (first | refine blk_drewN ?_ _ | refine blk_drew ?_ | refine blk_alloc ?_ _)); refine blk_far ?_ NB556_564.out _; (with_reducible repeat (first | refine blk_drewN ?_ _ | refine blk_drew ?_ | refine blk_alloc ?_ _)); refine blk_far ?_ NB556_564.out _; (with_reducible repeat (first | refine blk_drewN ?_ _ | refine blk_drew ?_ | refine blk_alloc ?_ _)); refine blk_far ?_ NB556_564.out _; (with_reducible repeat (first | refine blk_drewN ?_ _ | refine blk_drew ?_ | refine blk_alloc ?_ _)); refine blk_far ?_ NB556_564.out _; (with_reducible repeat (first | refine blk_drewN ?_ _ | refine blk_drew ?_ | refine blk_alloc ?_ _)); exact BK556.out) hb); have n4_ := Aside0.mk (blk_below (g := gb558) (o := .cells #[.int .i64 ((rd_T25 x4_1 x47_3).f0.f0), .int .i64 ((rd_T25 x4_1 x47_3).f0.f1), .int .i64 ((rd_T25 x4_1 x47_3).f1.f0), .int .i64 ((rd_T25 x4_1 x47_3).f1.f1)] 25 (0, 0)) (by (with_reducible repeat (first | refine blk_drewN ?_ _ | refine blk_drew ?_ | refine blk_alloc ?_ _)); refine blk_far ?_ NB558_564.out _; (with_reducible repeat (first | refine blk_drewN ?_ _ | refine blk_drew ?_ | refine blk_alloc ?_ _)); refine blk_far ?_ NB558_564.out _; (with_reducible repeat (first | refine blk_drewN ?_ _ | refine blk_drew ?_ | refine blk_alloc ?_ _)); refine blk_far ?_ NB558_564.out _; (with_reducible repeat (first | refine blk_drewN ?_ _ | refine blk_drew ?_ | refine blk_alloc ?_ _)); refine blk_far ?_ NB558_564.out _; (with_reducible repeat (first | refine blk_drewN ?_ _ | refine blk_drew ?_ | refine blk_alloc ?_ _)); exact BK558.out) hb); have n5_ := Aside0.mk (blk_below (g := gb564) (o := .cells #[.int .i64 t559, .int .i64 t560, .int .i64 t561, .int .i64 t562] 25 (0, 0)) (by (with_reducible repeat (first | refine blk_drewN ?_ _ | refine blk_drew ?_ | refine blk_alloc ?_ _)); refine blk_put (cs := #[.int .i64 t559, .int .i64 t560, .int .i64 t561, .int .i64 0]) ?_ 3 _ rfl; (with_reducible repeat (first | refine blk_drewN ?_ _ | refine blk_drew ?_ | refine blk_alloc ?_ _)); refine blk_put (cs := #[.int .i64 t559, .int .i64 t560, .int .i64 0, .int .i64 0]) ?_ 2 _ rfl; (with_reducible repeat (first | refine blk_drewN ?_ _ | refine blk_drew ?_ | refine blk_alloc ?_ _)); refine blk_put (cs := #[.int .i64 t559, .int .i64 0, .int .i64 0, .int .i64 0]) ?_ 1 _ rfl; (with_reducible repeat (first | refine blk_drewN ?_ _ | refine blk_drew ?_ | refine blk_alloc ?_ _)); refine blk_put (cs := #[.int .i64 0, .int .i64 0, .int .i64 0, .int .i64 0]) ?_ 0 _ rfl; (with_reducible repeat (first | refine blk_drewN ?_ _ | refine blk_drew ?_ | refine blk_alloc ?_ _)); exact BK564.out) hb); have n6_ := Aside0.mk (below_step blA hb); clear HO_4; clear HO_39; clear HO_45; clear BK556; clear BK558; clear BK564; clear HB; have HO_4 := n0_; have HO_39 := n1_; have HO_45 := n2_; have BK556 := n3_; have BK558 := n4_; have BK564 := n5_; have HB := n6_; clear n0_ n1_ n2_ n3_ n4_ n5_ n6_; (try clear hb); (try clear hb2); (try clear hk); (try clear hi)))
                                      go_ret2
                                      exact ⟨by first | rfl | (simp [errW_none, errW_some] <;> rfl) | (simp [*, errW_none, errW_some] <;> rfl), blA⟩
                                  · replace c30 := Bool.eq_false_iff.mpr c30
                                    subst c30
                                    have H1 : (some (false, 0)) = some (r1, r2) := by rw [if_neg (show ¬ (false = true) by decide)] at H; exact H
                                    clear H
                                    have H := H1
                                    clear H1
                                    simp only [Option.some.injEq, Prod.mk.injEq] at H
                                    obtain ⟨rfl, rfl⟩ := H
                                    have p557 : 0 ≤ (x47_3 : Int) := of_decide_eq_true (by first | (with_reducible assumption) | assumption)
                                    have q557 : x47_3 < (x4_1.length : Int) := of_decide_eq_true (by first | (with_reducible assumption) | assumption)
                                    obtain ⟨ad557, e557, hx557_0, hx557_1, hx557_2, hx557_3⟩ := at_T25 (Kd.R_reads' HO_45.out).2.2 x47_3 p557 q557
                                    obtain rfl : ad555 = ad557 := (by injection e557)
                                    replace p557 := eq_true p557
                                    replace q557 := eq_true q557
                                    go_wp2_with (first | ((with_reducible refine gate_dst (N := 10) rfl ?_); (try (refine gate_guard (by rfl) ?_; dsimp only)); refine box_event ?hg (N := 10) ?hd (cs := #[.int .i64 0, .int .i64 0, .int .i64 0, .int .i64 0]) (t := 25) ?hr ?_; (case hd => rfl); (case hg => rfl); (case hr => first | (go_simp; done) | (go_simp; rfl)); intro gb558 hg w53 hbox hb; have n0_ := Aside0.mk (Kd.R_below (Kd.R_elderB (by (with_reducible repeat (first | apply Kd.R_alloc | apply Kd.R_drewN | apply Kd.R_drew)); exact HO_4.out) gb558 (Nat.le_of_eq hg.symm)) hb); have n1_ := Aside0.mk (Kd.R_below (Kd.R_elderB (by (with_reducible repeat (first | apply Kd.R_alloc | apply Kd.R_drewN | apply Kd.R_drew)); exact HO_39.out) gb558 (Nat.le_of_eq hg.symm)) hb); have n2_ := Aside0.mk (Kd.R_below (Kd.R_elderB (by (with_reducible repeat (first | apply Kd.R_alloc | apply Kd.R_drewN | apply Kd.R_drew)); exact HO_45.out) gb558 (Nat.le_of_eq hg.symm)) hb); have n3_ := Aside0.mk (blk_below (bkA BK556) hb); have n4_ := Aside0.mk (below_step blA hb); have n5_ := Aside0.mk (hbox); have n6_ := Aside0.mk (szA hg blA); have n7_ := Aside0.mk (szA hg blA); have n8_ := Aside0.mk (neA hg (bkA BK556)); have n9_ := Aside0.mk (neB hg (bkA BK556)); clear HO_4; clear HO_39; clear HO_45; clear BK556; clear HB; have HO_4 := n0_; have HO_39 := n1_; have HO_45 := n2_; have BK556 := n3_; have HB := n4_; have BK558 := n5_; have GW558 := n6_; have GE558 := n7_; have NB556_558 := n8_; have NB558_556 := n9_; clear n0_ n1_ n2_ n3_ n4_ n5_ n6_ n7_ n8_ n9_; clear hb hbox hg; have hnb54 := NB558_556.out; have hnc54 := NB556_558.out; have hcz55_0 : w53.cell? ⟨gb558, 0, none⟩ = some (.int .i64 0) := (blk_cell BK558.out 0).trans rfl; have hcz55_1 : w53.cell? ⟨gb558, 1, none⟩ = some (.int .i64 0) := (blk_cell BK558.out 1).trans rfl; have hcz55_2 : w53.cell? ⟨gb558, 2, none⟩ = some (.int .i64 0) := (blk_cell BK558.out 2).trans rfl; have hcz55_3 : w53.cell? ⟨gb558, 3, none⟩ = some (.int .i64 0) := (blk_cell BK558.out 3).trans rfl; have hfz55_0 := blk_frozen BK558.out 0; have hfz55_1 := blk_frozen BK558.out 1; have hfz55_2 := blk_frozen BK558.out 2; have hfz55_3 := blk_frozen BK558.out 3; have hcz56_0 : w53.cell? ⟨gb556, 0, none⟩ = some (.int .i64 ((rd_T25 x4_1 x41_2).f0.f0)) := (blk_cell BK556.out 0).trans rfl; have hcz56_1 : w53.cell? ⟨gb556, 1, none⟩ = some (.int .i64 ((rd_T25 x4_1 x41_2).f0.f1)) := (blk_cell BK556.out 1).trans rfl; have hcz56_2 : w53.cell? ⟨gb556, 2, none⟩ = some (.int .i64 ((rd_T25 x4_1 x41_2).f1.f0)) := (blk_cell BK556.out 2).trans rfl; have hcz56_3 : w53.cell? ⟨gb556, 3, none⟩ = some (.int .i64 ((rd_T25 x4_1 x41_2).f1.f1)) := (blk_cell BK556.out 3).trans rfl; have hfz56_0 := blk_frozen BK556.out 0; have hfz56_1 := blk_frozen BK556.out 1; have hfz56_2 := blk_frozen BK556.out 2; have hfz56_3 := blk_frozen BK556.out 3) | ((with_reducible refine gate_callee (f := 73) rfl ?_); refine goesL_ (some 54) rfl rfl Try.func73 (by kernel_rfl) rfl #[.agg #[.int .i64 ((rd_T25 x4_1 x41_2).f0.f0), .int .i64 ((rd_T25 x4_1 x41_2).f0.f1), .int .i64 ((rd_T25 x4_1 x41_2).f1.f0), .int .i64 ((rd_T25 x4_1 x41_2).f1.f1)], .agg #[.int .i64 ((rd_T25 x4_1 x47_3).f0.f0), .int .i64 ((rd_T25 x4_1 x47_3).f0.f1), .int .i64 ((rd_T25 x4_1 x47_3).f1.f0), .int .i64 ((rd_T25 x4_1 x47_3).f1.f1)]] rfl (by (try simp only [List.map_toArray, List.map_cons, List.map_nil]); first | done | rfl | (simp only [List.length_drop, List.length_take]; rfl)) ?_; (with_reducible refine (impl_product.calls k3 ((rd_T25 x4_1 x41_2).f0.f0) ((rd_T25 x4_1 x41_2).f0.f1) ((rd_T25 x4_1 x41_2).f1.f0) ((rd_T25 x4_1 x41_2).f1.f1) ((rd_T25 x4_1 x47_3).f0.f0) ((rd_T25 x4_1 x47_3).f0.f1) ((rd_T25 x4_1 x47_3).f1.f0) ((rd_T25 x4_1 x47_3).f1.f1) t559 t560 t561 t562 false _ A29.out).mono ?_); rintro e w57 ⟨rfl, hb⟩; refine ⟨_, rfl, ?_⟩; have n0_ := Aside0.mk (Kd.R_below (by (with_reducible repeat (first | apply Kd.R_alloc | apply Kd.R_drewN | apply Kd.R_drew)); exact (Kd.R_mono (Kd.R_far (p := ⟨gb558, 3, none⟩) (Kd.R_far (p := ⟨gb558, 2, none⟩) (Kd.R_far (p := ⟨gb558, 1, none⟩) (Kd.R_far (p := ⟨gb558, 0, none⟩) (Kd.R_mono HO_4.out (fun k_ hk => (⟨hk, hk.2⟩ : _ ∧ k_ ≠ gb558))) (fun _ hk => hk.2) (.int .i64 ((rd_T25 x4_1 x47_3).f0.f0))) (fun _ hk => hk.2) (.int .i64 ((rd_T25 x4_1 x47_3).f0.f1))) (fun _ hk => hk.2) (.int .i64 ((rd_T25 x4_1 x47_3).f1.f0))) (fun _ hk => hk.2) (.int .i64 ((rd_T25 x4_1 x47_3).f1.f1))) (fun _ h_ => h_.1))) hb); have n1_ := Aside0.mk (Kd.R_below (by (with_reducible repeat (first | apply Kd.R_alloc | apply Kd.R_drewN | apply Kd.R_drew)); exact (Kd.R_mono (Kd.R_far (p := ⟨gb558, 3, none⟩) (Kd.R_far (p := ⟨gb558, 2, none⟩) (Kd.R_far (p := ⟨gb558, 1, none⟩) (Kd.R_far (p := ⟨gb558, 0, none⟩) (Kd.R_mono HO_39.out (fun k_ hk => (⟨hk, hk.2⟩ : _ ∧ k_ ≠ gb558))) (fun _ hk => hk.2) (.int .i64 ((rd_T25 x4_1 x47_3).f0.f0))) (fun _ hk => hk.2) (.int .i64 ((rd_T25 x4_1 x47_3).f0.f1))) (fun _ hk => hk.2) (.int .i64 ((rd_T25 x4_1 x47_3).f1.f0))) (fun _ hk => hk.2) (.int .i64 ((rd_T25 x4_1 x47_3).f1.f1))) (fun _ h_ => h_.1))) hb); have n2_ := Aside0.mk (Kd.R_below (by (with_reducible repeat (first | apply Kd.R_alloc | apply Kd.R_drewN | apply Kd.R_drew)); exact (Kd.R_mono (Kd.R_far (p := ⟨gb558, 3, none⟩) (Kd.R_far (p := ⟨gb558, 2, none⟩) (Kd.R_far (p := ⟨gb558, 1, none⟩) (Kd.R_far (p := ⟨gb558, 0, none⟩) (Kd.R_mono HO_45.out (fun k_ hk => (⟨hk, hk.2⟩ : _ ∧ k_ ≠ gb558))) (fun _ hk => hk.2) (.int .i64 ((rd_T25 x4_1 x47_3).f0.f0))) (fun _ hk => hk.2) (.int .i64 ((rd_T25 x4_1 x47_3).f0.f1))) (fun _ hk => hk.2) (.int .i64 ((rd_T25 x4_1 x47_3).f1.f0))) (fun _ hk => hk.2) (.int .i64 ((rd_T25 x4_1 x47_3).f1.f1))) (fun _ h_ => h_.1))) hb); have n3_ := Aside0.mk (blk_below (g := gb556) (o := .cells #[.int .i64 ((rd_T25 x4_1 x41_2).f0.f0), .int .i64 ((rd_T25 x4_1 x41_2).f0.f1), .int .i64 ((rd_T25 x4_1 x41_2).f1.f0), .int .i64 ((rd_T25 x4_1 x41_2).f1.f1)] 25 (0, 0)) (by (with_reducible repeat (first | refine blk_drewN ?_ _ | refine blk_drew ?_ | refine blk_alloc ?_ _)); refine blk_far ?_ NB556_558.out _; (with_reducible repeat (first | refine blk_drewN ?_ _ | refine blk_drew ?_ | refine blk_alloc ?_ _)); refine blk_far ?_ NB556_558.out _; (with_reducible repeat (first | refine blk_drewN ?_ _ | refine blk_drew ?_ | refine blk_alloc ?_ _)); refine blk_far ?_ NB556_558.out _; (with_reducible repeat (first | refine blk_drewN ?_ _ | refine blk_drew ?_ | refine blk_alloc ?_ _)); refine blk_far ?_ NB556_558.out _; (with_reducible repeat (first | refine blk_drewN ?_ _ | refine blk_drew ?_ | refine blk_alloc ?_ _)); exact BK556.out) hb); have n4_ := Aside0.mk (blk_below (g := gb558) (o := .cells #[.int .i64 ((rd_T25 x4_1 x47_3).f0.f0), .int .i64 ((rd_T25 x4_1 x47_3).f0.f1), .int .i64 ((rd_T25 x4_1 x47_3).f1.f0), .int .i64 ((rd_T25 x4_1 x47_3).f1.f1)] 25 (0, 0)) (by (with_reducible repeat (first | refine blk_drewN ?_ _ | refine blk_drew ?_ | refine blk_alloc ?_ _)); refine blk_put (cs := #[.int .i64 ((rd_T25 x4_1 x47_3).f0.f0), .int .i64 ((rd_T25 x4_1 x47_3).f0.f1), .int .i64 ((rd_T25 x4_1 x47_3).f1.f0), .int .i64 0]) ?_ 3 _ rfl; (with_reducible repeat (first | refine blk_drewN ?_ _ | refine blk_drew ?_ | refine blk_alloc ?_ _)); refine blk_put (cs := #[.int .i64 ((rd_T25 x4_1 x47_3).f0.f0), .int .i64 ((rd_T25 x4_1 x47_3).f0.f1), .int .i64 0, .int .i64 0]) ?_ 2 _ rfl; (with_reducible repeat (first | refine blk_drewN ?_ _ | refine blk_drew ?_ | refine blk_alloc ?_ _)); refine blk_put (cs := #[.int .i64 ((rd_T25 x4_1 x47_3).f0.f0), .int .i64 0, .int .i64 0, .int .i64 0]) ?_ 1 _ rfl; (with_reducible repeat (first | refine blk_drewN ?_ _ | refine blk_drew ?_ | refine blk_alloc ?_ _)); refine blk_put (cs := #[.int .i64 0, .int .i64 0, .int .i64 0, .int .i64 0]) ?_ 0 _ rfl; (with_reducible repeat (first | refine blk_drewN ?_ _ | refine blk_drew ?_ | refine blk_alloc ?_ _)); exact BK558.out) hb); have n5_ := Aside0.mk (below_step blA hb); clear HO_4; clear HO_39; clear HO_45; clear BK556; clear BK558; clear HB; have HO_4 := n0_; have HO_39 := n1_; have HO_45 := n2_; have BK556 := n3_; have BK558 := n4_; have HB := n5_; clear n0_ n1_ n2_ n3_ n4_ n5_; (try clear hb); (try clear hb2); (try clear hk); (try clear hi)) | ((with_reducible refine gate_dst (N := 11) rfl ?_); (try (refine gate_guard (by rfl) ?_; dsimp only)); refine box_event ?hg (N := 11) ?hd (cs := #[.int .i64 0, .int .i64 0, .int .i64 0, .int .i64 0]) (t := 25) ?hr ?_; (case hd => rfl); (case hg => rfl); (case hr => first | (go_simp; done) | (go_simp; rfl)); intro gb564 hg w58 hbox hb; have n0_ := Aside0.mk (Kd.R_below (Kd.R_elderB (by (with_reducible repeat (first | apply Kd.R_alloc | apply Kd.R_drewN | apply Kd.R_drew)); exact HO_4.out) gb564 (Nat.le_of_eq hg.symm)) hb); have n1_ := Aside0.mk (Kd.R_below (Kd.R_elderB (by (with_reducible repeat (first | apply Kd.R_alloc | apply Kd.R_drewN | apply Kd.R_drew)); exact HO_39.out) gb564 (Nat.le_of_eq hg.symm)) hb); have n2_ := Aside0.mk (Kd.R_below (Kd.R_elderB (by (with_reducible repeat (first | apply Kd.R_alloc | apply Kd.R_drewN | apply Kd.R_drew)); exact HO_45.out) gb564 (Nat.le_of_eq hg.symm)) hb); have n3_ := Aside0.mk (blk_below (bkA BK556) hb); have n4_ := Aside0.mk (blk_below (bkA BK558) hb); have n5_ := Aside0.mk (below_step blA hb); have n6_ := Aside0.mk (hbox); have n7_ := Aside0.mk (szA hg blA); have n8_ := Aside0.mk (szA hg blA); have n9_ := Aside0.mk (neA hg (bkA BK556)); have n10_ := Aside0.mk (neB hg (bkA BK556)); have n11_ := Aside0.mk (neA hg (bkA BK558)); have n12_ := Aside0.mk (neB hg (bkA BK558)); clear HO_4; clear HO_39; clear HO_45; clear BK556; clear BK558; clear HB; have HO_4 := n0_; have HO_39 := n1_; have HO_45 := n2_; have BK556 := n3_; have BK558 := n4_; have HB := n5_; have BK564 := n6_; have GW564 := n7_; have GE564 := n8_; have NB556_564 := n9_; have NB564_556 := n10_; have NB558_564 := n11_; have NB564_558 := n12_; clear n0_ n1_ n2_ n3_ n4_ n5_ n6_ n7_ n8_ n9_ n10_ n11_ n12_; clear hb hbox hg; have hnb59 := NB564_556.out; have hnc59 := NB556_564.out; have hnb60 := NB564_558.out; have hnc60 := NB558_564.out; have hcz61_0 : w58.cell? ⟨gb564, 0, none⟩ = some (.int .i64 0) := (blk_cell BK564.out 0).trans rfl; have hcz61_1 : w58.cell? ⟨gb564, 1, none⟩ = some (.int .i64 0) := (blk_cell BK564.out 1).trans rfl; have hcz61_2 : w58.cell? ⟨gb564, 2, none⟩ = some (.int .i64 0) := (blk_cell BK564.out 2).trans rfl; have hcz61_3 : w58.cell? ⟨gb564, 3, none⟩ = some (.int .i64 0) := (blk_cell BK564.out 3).trans rfl; have hfz61_0 := blk_frozen BK564.out 0; have hfz61_1 := blk_frozen BK564.out 1; have hfz61_2 := blk_frozen BK564.out 2; have hfz61_3 := blk_frozen BK564.out 3))
                                    go_ret2
                                    exact ⟨by first | rfl | (simp [errW_none, errW_some] <;> rfl) | (simp [*, errW_none, errW_some] <;> rfl), blA⟩
                                · rw [if_neg c28] at H
                                  exact absurd H (by simp)
                              · rw [if_neg c27] at H
                                exact absurd H (by simp)
                            · rw [if_neg c26] at H
                              have c26b0 : decide (x47_3 < (x4_1.length : Int)) = false := decide_eq_false c26
                              clear c26
                              have H' := Aside0.mk H
                              clear H
                              go_wp2
                              go_roundg k3
                              case measure => have := HK1.out; have := HK2.out; have := HK3.out; omega
                              case rel => exact ⟨(wrap64 (x41_2 + 1)), (by first | rfl | (simp; done) | (simp [*]; done)), H', ⟨by have := HK1.out; have := HK2.out; have := HK3.out; omega⟩, ⟨by (with_reducible repeat (first | apply Kd.R_alloc | apply Kd.R_drewN | apply Kd.R_drew)); exact Kd.R_mono HO_4.out (fun _ hk => trivial)⟩, ⟨by (with_reducible repeat (first | apply Kd.R_alloc | apply Kd.R_drewN | apply Kd.R_drew)); exact Kd.R_mono HO_39.out (fun _ hk => trivial)⟩, ⟨blA⟩⟩
                      · rw [if_neg c23] at H
                        exact absurd H (by simp)
                    · rw [if_neg c22] at H
                      exact absurd H (by simp)
                  · rw [if_neg c21] at H
                    have c21b0 : decide (x41_2 < (x4_1.length : Int)) = false := decide_eq_false c21
                    clear c21
                    simp only [Option.some.injEq, Prod.mk.injEq] at H
                    obtain ⟨rfl, rfl⟩ := H
                    go_wp2
                    go_ret2
                    exact ⟨by first | rfl | (simp [errW_none, errW_some] <;> rfl) | (simp [*, errW_none, errW_some] <;> rfl), blA⟩
  · replace c3 := Bool.eq_false_iff.mpr c3
    subst c3
    have H1 : (some (false, 1)) = some (r1, r2) := by rw [if_neg (show ¬ (false = true) by decide)] at H; exact H
    clear H
    have H := H1
    clear H1
    simp only [Option.some.injEq, Prod.mk.injEq] at H
    obtain ⟨rfl, rfl⟩ := H
    go_enter Try.func38, Try.ntmps38
    go_wp2_with (first | ((with_reducible refine gate_callee (f := 57) rfl ?_); refine goesL_ (some 15) rfl rfl Try.func57 (by kernel_rfl) rfl #[.slice A0 l0.length c0] rfl (by (try simp only [List.map_toArray, List.map_cons, List.map_nil]); first | done | rfl | (simp only [List.length_drop, List.length_take]; rfl)) ?_; (with_reducible refine (impl_areMatrices.calls k _ _ l0 false _ ?side1 ?side2 A2.out).mono ?_); (case side1 => repeat (first | exact HR0.out | (with_reducible refine Kd.C_alloc ?_ _) | (with_reducible refine Kd.C_drewN ?_ _) | (with_reducible refine Kd.C_drew ?_))); (case side2 => exact HC0.out); rintro e w62 ⟨rfl, hb⟩; refine ⟨_, rfl, ?_⟩; have n0_ := Aside0.mk (below_step blA hb); clear HB; have HB := n0_; clear n0_; (try clear hb); (try clear hb2); (try clear hk); (try clear hi)))
    go_ret2
    exact ⟨by first | rfl | (simp [errW_none, errW_some] <;> rfl) | (simp [*, errW_none, errW_some] <;> rfl), blA⟩
/-! ### laws_FnExactIsClosedList: function 11 -/
def laws_FnExactIsClosedList.j0 : Nat → List (S23) → List (S25) → Bool → Option (Bool)
  | 0, _, _, _ => none
  | k + 1, x0, x6, x34 => if x34 = true then (none) else ((laws_toMatrixS.f k x0).bind fun t580 => ((laws_eqMatrixS.f k x6 t580).bind fun t583 => (if t583 = true then (some true) else (none))))
def laws_FnExactIsClosedList.f (k : Nat) (l0 : List (S23)) : Option (Bool) := (laws_szMatrixS.f l0 1048576).bind fun t569 => (if t569 < 0 then (some true) else ((laws_toMatrixS.f k l0).bind fun t570 => ((spec_IsClosedList.f k t570).bind fun bt573 => ((laws_toMatrixS.f k l0).bind fun t575 => ((impl_IsClosedList.f k t575).bind fun bt578 => (if (bt578.1 != bt573.1) = true then (laws_FnExactIsClosedList.j0 k l0 t575 true) else (laws_FnExactIsClosedList.j0 k l0 t575 (bt578.2 != bt573.2))))))))
theorem laws_FnExactIsClosedList.mono_l : ∀ k, (∀ y0 y1 y2, LeO (laws_FnExactIsClosedList.j0 k y0 y1 y2) (laws_FnExactIsClosedList.j0 (k + 1) y0 y1 y2))
  | 0 => fun _ _ _ r h => by simp [laws_FnExactIsClosedList.j0] at h
  | k + 1 => by
    have ih0 := laws_FnExactIsClosedList.mono_l k
    · intro y0 y1 y2
      unfold laws_FnExactIsClosedList.j0
      repeat' first
      | (with_reducible exact ih0 _ _ _)
      | (with_reducible exact impl_IsClosedList.mono _ _)
      | (with_reducible exact laws_eqMatrixS.mono _ _ _)
      | (with_reducible exact laws_toMatrixS.mono _ _)
      | (with_reducible exact spec_IsClosedList.mono _ _)
      | (with_reducible exact LeO.refl _)
      | (with_reducible exact LeO.none _)
      | (with_reducible refine LeO.ite ?_ ?_)
      | (with_reducible refine LeO.bind ?_ (fun _ => ?_))
      | exact ih0 _ _ _
      | exact impl_IsClosedList.mono _ _
      | exact laws_eqMatrixS.mono _ _ _
      | exact laws_toMatrixS.mono _ _
      | exact spec_IsClosedList.mono _ _
      | exact LeO.none _
      | refine LeO.ite ?_ ?_
      | refine LeO.bind ?_ (fun _ => ?_)
theorem laws_FnExactIsClosedList.mono : ∀ a0 k, LeO (laws_FnExactIsClosedList.f k a0) (laws_FnExactIsClosedList.f (k + 1) a0) := by
  intro a0 k
  have ih0 := laws_FnExactIsClosedList.mono_l k
  unfold laws_FnExactIsClosedList.f
  repeat' first
      | (with_reducible exact ih0 _ _ _)
      | (with_reducible exact impl_IsClosedList.mono _ _)
      | (with_reducible exact laws_eqMatrixS.mono _ _ _)
      | (with_reducible exact laws_toMatrixS.mono _ _)
      | (with_reducible exact spec_IsClosedList.mono _ _)
      | (with_reducible exact LeO.refl _)
      | (with_reducible exact LeO.none _)
      | (with_reducible refine LeO.ite ?_ ?_)
      | (with_reducible refine LeO.bind ?_ (fun _ => ?_))
      | exact ih0 _ _ _
      | exact impl_IsClosedList.mono _ _
      | exact laws_eqMatrixS.mono _ _ _
      | exact laws_toMatrixS.mono _ _
      | exact spec_IsClosedList.mono _ _
      | exact LeO.none _
      | refine LeO.ite ?_ ?_
      | refine LeO.bind ?_ (fun _ => ?_)
set_option maxHeartbeats 8000000 in
set_option maxRecDepth 100000 in
theorem laws_FnExactIsClosedList.calls (k : Nat) (A0 : Option Addr) (c0 : Nat) (l0 : List (S23)) (r : Bool) (w : World) (hr0 : Kd.C k23 w A0 l0.length l0) (hc0 : l0.length ≤ c0) (h : laws_FnExactIsClosedList.f k l0 = some r) :
    Calls Try.prog 11 #[.slice A0 l0.length c0] w fun e w' => e = .returned (.bool r) ∧ Below w.heap.size w w' := by
  have HR0 := Aside0.mk hr0
  have HC0 := Aside0.mk hc0
  clear hr0 hc0
  have HB := Aside0.mk (Below.refl w.heap.size w)
  have H : ((laws_szMatrixS.f l0 1048576).bind fun t569 => (if t569 < 0 then (some true) else ((laws_toMatrixS.f k l0).bind fun t570 => ((spec_IsClosedList.f k t570).bind fun bt573 => ((laws_toMatrixS.f k l0).bind fun t575 => ((impl_IsClosedList.f k t575).bind fun bt578 => (if (bt578.1 != bt573.1) = true then (laws_FnExactIsClosedList.j0 k l0 t575 true) else (laws_FnExactIsClosedList.j0 k l0 t575 (bt578.2 != bt573.2))))))))) = some r := h
  clear h
  replace H := Option.bind_eq_some_iff.mp H
  obtain ⟨t569, A20, H⟩ := H
  replace H : (if t569 < 0 then (some true) else ((laws_toMatrixS.f k l0).bind fun t570 => ((spec_IsClosedList.f k t570).bind fun bt573 => ((laws_toMatrixS.f k l0).bind fun t575 => ((impl_IsClosedList.f k t575).bind fun bt578 => (if (bt578.1 != bt573.1) = true then (laws_FnExactIsClosedList.j0 k l0 t575 true) else (laws_FnExactIsClosedList.j0 k l0 t575 (bt578.2 != bt573.2)))))))) = some r := H
  have A2 := Aside0.mk A20
  clear A20
  by_cases c3 : t569 < 0
  · rw [if_pos c3] at H
    have c3b0 : decide (t569 < 0) = true := decide_eq_true c3
    clear c3
    obtain rfl := Option.some.inj H
    go_enter Try.func11, Try.ntmps11
    go_wp2_with (first | ((with_reducible refine gate_callee (f := 35) rfl ?_); refine goesL_ (some 11) rfl rfl Try.func35 (by kernel_rfl) rfl #[.slice A0 l0.length c0, .int .i64 1048576] rfl (by (try simp only [List.map_toArray, List.map_cons, List.map_nil]); first | done | rfl | (simp only [List.length_drop, List.length_take]; rfl)) ?_; (with_reducible refine (laws_szMatrixS.calls _ _ l0 1048576 t569 _ ?side1 ?side2 A2.out).mono ?_); (case side1 => repeat (first | exact HR0.out | (with_reducible refine Kd.C_alloc ?_ _) | (with_reducible refine Kd.C_drewN ?_ _) | (with_reducible refine Kd.C_drew ?_))); (case side2 => exact HC0.out); rintro e w' ⟨rfl, ⟨nd, rfl⟩⟩; refine ⟨_, rfl, ?_⟩))
    go_ret
    exact ⟨by first | rfl | (simp [errW_none, errW_some] <;> rfl) | (simp [*, errW_none, errW_some] <;> rfl), blA⟩
  · rw [if_neg c3] at H
    have c3b0 : decide (t569 < 0) = false := decide_eq_false c3
    clear c3
    replace H := Option.bind_eq_some_iff.mp H
    obtain ⟨t570, A40, H⟩ := H
    replace H : ((spec_IsClosedList.f k t570).bind fun bt573 => ((laws_toMatrixS.f k l0).bind fun t575 => ((impl_IsClosedList.f k t575).bind fun bt578 => (if (bt578.1 != bt573.1) = true then (laws_FnExactIsClosedList.j0 k l0 t575 true) else (laws_FnExactIsClosedList.j0 k l0 t575 (bt578.2 != bt573.2)))))) = some r := H
    have A4 := Aside0.mk A40
    clear A40
    replace H := Option.bind_eq_some_iff.mp H
    obtain ⟨⟨t573, t574⟩, A50, H⟩ := H
    replace H : ((laws_toMatrixS.f k l0).bind fun t575 => ((impl_IsClosedList.f k t575).bind fun bt578 => (if (bt578.1 != t573) = true then (laws_FnExactIsClosedList.j0 k l0 t575 true) else (laws_FnExactIsClosedList.j0 k l0 t575 (bt578.2 != t574))))) = some r := H
    have A5 := Aside0.mk A50
    clear A50
    replace H := Option.bind_eq_some_iff.mp H
    obtain ⟨t575, A60, H⟩ := H
    replace H : ((impl_IsClosedList.f k t575).bind fun bt578 => (if (bt578.1 != t573) = true then (laws_FnExactIsClosedList.j0 k l0 t575 true) else (laws_FnExactIsClosedList.j0 k l0 t575 (bt578.2 != t574)))) = some r := H
    have A6 := Aside0.mk A60
    clear A60
    replace H := Option.bind_eq_some_iff.mp H
    obtain ⟨⟨t578, t579⟩, A70, H⟩ := H
    replace H : (if (t578 != t573) = true then (laws_FnExactIsClosedList.j0 k l0 t575 true) else (laws_FnExactIsClosedList.j0 k l0 t575 (t579 != t574))) = some r := H
    have A7 := Aside0.mk A70
    clear A70
    have HC8 := Aside0.mk H
    clear H
    go_enter Try.func11, Try.ntmps11
    go_upto_region 8 with (first | ((with_reducible refine gate_callee (f := 35) rfl ?_); refine goesL_ (some 11) rfl rfl Try.func35 (by kernel_rfl) rfl #[.slice A0 l0.length c0, .int .i64 1048576] rfl (by (try simp only [List.map_toArray, List.map_cons, List.map_nil]); first | done | rfl | (simp only [List.length_drop, List.length_take]; rfl)) ?_; (with_reducible refine (laws_szMatrixS.calls _ _ l0 1048576 t569 _ ?side1 ?side2 A2.out).mono ?_); (case side1 => repeat (first | exact HR0.out | (with_reducible refine Kd.C_alloc ?_ _) | (with_reducible refine Kd.C_drewN ?_ _) | (with_reducible refine Kd.C_drew ?_))); (case side2 => exact HC0.out); rintro e w' ⟨rfl, ⟨nd, rfl⟩⟩; refine ⟨_, rfl, ?_⟩) | ((with_reducible refine gate_callee (f := 37) rfl ?_); refine goesL_ (some 16) rfl rfl Try.func37 (by kernel_rfl) rfl #[.slice A0 l0.length c0] rfl (by (try simp only [List.map_toArray, List.map_cons, List.map_nil]); first | done | rfl | (simp only [List.length_drop, List.length_take]; rfl)) ?_; (with_reducible refine (laws_toMatrixS.calls k _ _ l0 t570 _ ?side1 ?side2 A4.out).mono ?_); (case side1 => repeat (first | exact HR0.out | (with_reducible refine Kd.C_alloc ?_ _) | (with_reducible refine Kd.C_drewN ?_ _) | (with_reducible refine Kd.C_drew ?_))); (case side2 => exact HC0.out); rintro e w9 ⟨v571, rfl, ho0, hb⟩; refine ⟨_, rfl, ?_⟩; have n0_ := Aside0.mk (Kd.R_lower ho0 (below_size blA)); have n1_ := Aside0.mk (below_step blA hb); clear HB; have HO572 := n0_; have HB := n1_; clear n0_ n1_; (try clear hb); (try clear hb2); (try clear hk); (try clear hi); (try clear ho0); obtain ⟨Ao10, co10, eo10⟩ := Kd.R_slice HO572.out; subst eo10) | ((with_reducible refine gate_callee (f := 36) rfl ?_); refine goesL_ (some 17) rfl rfl Try.func36 (by kernel_rfl) rfl #[.slice Ao10 t570.length co10] rfl (by (try simp only [List.map_toArray, List.map_cons, List.map_nil]); first | done | rfl | (simp only [List.length_drop, List.length_take]; rfl)) ?_; (with_reducible refine (spec_IsClosedList.calls k _ _ t570 t573 t574 _ ?side1 ?side2 A5.out).mono ?_); (case side1 => repeat (first | exact (Kd.R_reads' HO572.out).2.2 | (with_reducible refine Kd.C_alloc ?_ _) | (with_reducible refine Kd.C_drewN ?_ _) | (with_reducible refine Kd.C_drew ?_))); (case side2 => exact (Kd.R_reads' HO572.out).2.1); rintro e w11 ⟨rfl, hb⟩; refine ⟨_, rfl, ?_⟩; have n0_ := Aside0.mk (Kd.R_below (by (with_reducible repeat (first | apply Kd.R_alloc | apply Kd.R_drewN | apply Kd.R_drew)); exact HO572.out) hb); have n1_ := Aside0.mk (below_step blA hb); clear HO572; clear HB; have HO572 := n0_; have HB := n1_; clear n0_ n1_; (try clear hb); (try clear hb2); (try clear hk); (try clear hi)) | ((with_reducible refine gate_callee (f := 37) rfl ?_); refine goesL_ (some 21) rfl rfl Try.func37 (by kernel_rfl) rfl #[.slice A0 l0.length c0] rfl (by (try simp only [List.map_toArray, List.map_cons, List.map_nil]); first | done | rfl | (simp only [List.length_drop, List.length_take]; rfl)) ?_; (with_reducible refine (laws_toMatrixS.calls k _ _ l0 t575 _ ?side1 ?side2 A6.out).mono ?_); (case side1 => repeat (first | exact (Kd.C_below HR0.out HB.out) | (with_reducible refine Kd.C_alloc ?_ _) | (with_reducible refine Kd.C_drewN ?_ _) | (with_reducible refine Kd.C_drew ?_))); (case side2 => exact HC0.out); rintro e w12 ⟨v576, rfl, ho0, hb⟩; refine ⟨_, rfl, ?_⟩; have n0_ := Aside0.mk (Kd.R_elder' (by (with_reducible repeat (first | apply Kd.R_alloc | apply Kd.R_drewN | apply Kd.R_drew)); exact HO572.out) (Kd.R_base ho0) hb); have n1_ := Aside0.mk (Kd.R_lower (Kd.R_new' ho0 (Kd.R_lt (by (with_reducible repeat (first | apply Kd.R_alloc | apply Kd.R_drewN | apply Kd.R_drew)); exact HO572.out))) (below_size blA)); have n2_ := Aside0.mk (below_step blA hb); clear HO572; clear HB; have HO572 := n0_; have HO577 := n1_; have HB := n2_; clear n0_ n1_ n2_; (try clear hb); (try clear hb2); (try clear hk); (try clear hi); (try clear ho0); obtain ⟨Ao13, co13, eo13⟩ := Kd.R_slice HO577.out; subst eo13) | ((with_reducible refine gate_callee (f := 38) rfl ?_); refine goesL_ (some 24) rfl rfl Try.func38 (by kernel_rfl) rfl #[.slice Ao13 t575.length co13] rfl (by (try simp only [List.map_toArray, List.map_cons, List.map_nil]); first | done | rfl | (simp only [List.length_drop, List.length_take]; rfl)) ?_; (with_reducible refine (impl_IsClosedList.calls k _ _ t575 t578 t579 _ ?side1 ?side2 A7.out).mono ?_); (case side1 => repeat (first | exact (Kd.R_reads' HO577.out).2.2 | (with_reducible refine Kd.C_alloc ?_ _) | (with_reducible refine Kd.C_drewN ?_ _) | (with_reducible refine Kd.C_drew ?_))); (case side2 => exact (Kd.R_reads' HO577.out).2.1); rintro e w14 ⟨rfl, hb⟩; refine ⟨_, rfl, ?_⟩; have n0_ := Aside0.mk (Kd.R_below (by (with_reducible repeat (first | apply Kd.R_alloc | apply Kd.R_drewN | apply Kd.R_drew)); exact HO572.out) hb); have n1_ := Aside0.mk (Kd.R_below (by (with_reducible repeat (first | apply Kd.R_alloc | apply Kd.R_drewN | apply Kd.R_drew)); exact HO577.out) hb); have n2_ := Aside0.mk (below_step blA hb); clear HO572; clear HO577; clear HB; have HO572 := n0_; have HO577 := n1_; have HB := n2_; clear n0_ n1_ n2_; (try clear hb); (try clear hb2); (try clear hk); (try clear hi)))
    (try simp only [Act.put, List.setIfInBounds_toArray, List.set_cons_zero, List.set_cons_succ])
    go_cut [34] (fun v34 wc => ∃ (kq : Nat) (x34_7 : Bool), v34 = .bool x34_7 ∧ Aside0 (laws_FnExactIsClosedList.j0 kq l0 t575 x34_7 = some r) ∧ Aside0 (kq ≤ k) ∧ Aside0 (Kd.R k25 25 wc w.heap.size (fun _ => True) (.slice Ao13 t575.length co13) t575) ∧ Aside0 (Below w.heap.size w wc))
    case first =>
      have H := HC8.out
      clear HC8
      by_cases c15 : (t578 != t573) = true
      · rw [if_pos c15] at H
        have c15b0 : (t578 != t573) = true := c15
        (try (have c15b1 : decide (t578 = t573) = false := by simpa using c15))
        (try (have c15b2 : (t578 == t573) = false := by simpa using c15))
        (try (have c15b3 : ¬ (t578 = t573) := by simpa using c15))
        clear c15
        (first | rw [c15b0] | (simp only [i64_w, i32_w]; rw [c15b0]) | skip)
        have H' := Aside0.mk H
        clear H
        go_wp2
        go_meet
        case rel => exact ⟨_, (true), (by first | rfl | (simp; done) | (simp [*]; done)), H', ⟨by first | omega | exact Nat.le_refl _⟩, ⟨by (with_reducible repeat (first | apply Kd.R_alloc | apply Kd.R_drewN | apply Kd.R_drew)); exact Kd.R_mono HO577.out (fun _ hk => trivial)⟩, ⟨blA⟩⟩
      · rw [if_neg c15] at H
        have c15b0 : (t578 != t573) = false := by simpa using c15
        (try (have c15b1 : decide (t578 = t573) = true := by simpa using c15))
        (try (have c15b2 : (t578 == t573) = true := by simpa using c15))
        clear c15
        (first | rw [c15b0] | (simp only [i64_w, i32_w]; rw [c15b0]) | skip)
        have H' := Aside0.mk H
        clear H
        go_wp2
        go_meet
        case rel => exact ⟨_, ((t579 != t574)), (by first | rfl | (simp; done) | (simp [*]; done)), H', ⟨by first | omega | exact Nat.le_refl _⟩, ⟨by (with_reducible repeat (first | apply Kd.R_alloc | apply Kd.R_drewN | apply Kd.R_drew)); exact Kd.R_mono HO577.out (fun _ hk => trivial)⟩, ⟨blA⟩⟩
    case rest =>
      clear HC8
      try clear c1
      try clear p2
      try clear c3
      try clear c3b0
      try clear c11
      try clear c15
      try clear c15b0
      try clear c15b1
      try clear c15b2
      obtain ⟨kq, x34_7, rfl, HA, HJ7, HO_6, HB⟩ := hcut
      cases kq with
      | zero => exact absurd HA.out (by simp [laws_FnExactIsClosedList.j0])
      | succ kj7 =>
        have H := HA.out
        clear HA
        simp only [laws_FnExactIsClosedList.j0] at H
        by_cases c16 : x34_7 = true
        · subst c16
          have H1 : (none) = some r := by rw [if_pos rfl] at H; exact H
          clear H
          have H := H1
          clear H1
          exact absurd H (by simp)
        · replace c16 := Bool.eq_false_iff.mpr c16
          subst c16
          have H1 : ((laws_toMatrixS.f kj7 l0).bind fun t580 => ((laws_eqMatrixS.f kj7 t575 t580).bind fun t583 => (if t583 = true then (some true) else (none)))) = some r := by rw [if_neg (show ¬ (false = true) by decide)] at H; exact H
          clear H
          have H := H1
          clear H1
          replace H := Option.bind_eq_some_iff.mp H
          obtain ⟨t580, A170, H⟩ := H
          replace H : ((laws_eqMatrixS.f kj7 t575 t580).bind fun t583 => (if t583 = true then (some true) else (none))) = some r := H
          have A17 := Aside0.mk A170
          clear A170
          replace H := Option.bind_eq_some_iff.mp H
          obtain ⟨t583, A180, H⟩ := H
          replace H : (if t583 = true then (some true) else (none)) = some r := H
          have A18 := Aside0.mk A180
          clear A180
          by_cases c19 : t583 = true
          · subst c19
            have H1 : (some true) = some r := by rw [if_pos rfl] at H; exact H
            clear H
            have H := H1
            clear H1
            obtain rfl := Option.some.inj H
            go_wp2_with (first | ((with_reducible refine gate_callee (f := 37) rfl ?_); refine goesL_ (some 37) rfl rfl Try.func37 (by kernel_rfl) rfl #[.slice A0 l0.length c0] rfl (by (try simp only [List.map_toArray, List.map_cons, List.map_nil]); first | done | rfl | (simp only [List.length_drop, List.length_take]; rfl)) ?_; (with_reducible refine (laws_toMatrixS.calls kj7 _ _ l0 t580 _ ?side1 ?side2 A17.out).mono ?_); (case side1 => repeat (first | exact (Kd.C_below HR0.out HB.out) | (with_reducible refine Kd.C_alloc ?_ _) | (with_reducible refine Kd.C_drewN ?_ _) | (with_reducible refine Kd.C_drew ?_))); (case side2 => exact HC0.out); rintro e w20 ⟨v581, rfl, ho0, hb⟩; refine ⟨_, rfl, ?_⟩; have n0_ := Aside0.mk (Kd.R_elder' (by (with_reducible repeat (first | apply Kd.R_alloc | apply Kd.R_drewN | apply Kd.R_drew)); exact HO_6.out) (Kd.R_base ho0) hb); have n1_ := Aside0.mk (Kd.R_lower (Kd.R_new' ho0 (Kd.R_lt (by (with_reducible repeat (first | apply Kd.R_alloc | apply Kd.R_drewN | apply Kd.R_drew)); exact HO_6.out))) (below_size blA)); have n2_ := Aside0.mk (below_step blA hb); clear HO_6; clear HB; have HO_6 := n0_; have HO582 := n1_; have HB := n2_; clear n0_ n1_ n2_; (try clear hb); (try clear hb2); (try clear hk); (try clear hi); (try clear ho0); obtain ⟨Ao21, co21, eo21⟩ := Kd.R_slice HO582.out; subst eo21) | ((with_reducible refine gate_callee (f := 39) rfl ?_); refine goesL_ (some 38) rfl rfl Try.func39 (by kernel_rfl) rfl #[.slice Ao13 t575.length co13, .slice Ao21 t580.length co21] rfl (by (try simp only [List.map_toArray, List.map_cons, List.map_nil]); first | done | rfl | (simp only [List.length_drop, List.length_take]; rfl)) ?_; (with_reducible refine (laws_eqMatrixS.calls kj7 _ _ t575 _ _ t580 true _ ?side1 ?side2 ?side3 ?side4 A18.out).mono ?_); (case side1 => repeat (first | exact (Kd.R_reads' HO_6.out).2.2 | (with_reducible refine Kd.C_alloc ?_ _) | (with_reducible refine Kd.C_drewN ?_ _) | (with_reducible refine Kd.C_drew ?_))); (case side2 => exact (Kd.R_reads' HO_6.out).2.1); (case side3 => repeat (first | exact (Kd.R_reads' HO582.out).2.2 | (with_reducible refine Kd.C_alloc ?_ _) | (with_reducible refine Kd.C_drewN ?_ _) | (with_reducible refine Kd.C_drew ?_))); (case side4 => exact (Kd.R_reads' HO582.out).2.1); rintro e w22 ⟨rfl, hb⟩; refine ⟨_, rfl, ?_⟩; have n0_ := Aside0.mk (Kd.R_below (by (with_reducible repeat (first | apply Kd.R_alloc | apply Kd.R_drewN | apply Kd.R_drew)); exact HO_6.out) hb); have n1_ := Aside0.mk (Kd.R_below (by (with_reducible repeat (first | apply Kd.R_alloc | apply Kd.R_drewN | apply Kd.R_drew)); exact HO582.out) hb); have n2_ := Aside0.mk (below_step blA hb); clear HO_6; clear HO582; clear HB; have HO_6 := n0_; have HO582 := n1_; have HB := n2_; clear n0_ n1_ n2_; (try clear hb); (try clear hb2); (try clear hk); (try clear hi)))
            go_ret
            exact ⟨by first | rfl | (simp [errW_none, errW_some] <;> rfl) | (simp [*, errW_none, errW_some] <;> rfl), blA⟩
          · replace c19 := Bool.eq_false_iff.mpr c19
            subst c19
            have H1 : (none) = some r := by rw [if_neg (show ¬ (false = true) by decide)] at H; exact H
            clear H
            have H := H1
            clear H1
            exact absurd H (by simp)
end Go.Proofs.Ytmhajnfdbjnegaa.PAll
