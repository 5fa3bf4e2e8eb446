-- turned for this claim out of the kit's print: the same functions, packed anew
import Derived.Test.YtfkglijnbgijbaaQx
import Derived.Test.YtfkglijnbgijbaaQspecl01From
import Derived.Test.YtfkglijnbgijbaaQspecl01Pick
namespace Go.Proofs.Ytfkglijnbgijbaa.PAll
open Go.RowKit Go.Proofs.YtfkglijnbgijbaaW.PrintWords Go.Proofs.YtfkglijnbgijbaaW.PrintLast Go.Proofs.YtfkglijnbgijbaaW.PrintMore
attribute [local go_sem] Go.Proofs.Ytfkglijnbgijbaa.Aux.setCell_drewN Go.Proofs.Ytfkglijnbgijbaa.Aux.isSome_setCell Go.Proofs.Ytfkglijnbgijbaa.Aux.max_eight max2_int min2_int max_two min_two max_three min_three max_four min_four   -- for this text's walks alone
set_option linter.unusedVariables false
set_option linter.unusedSimpArgs false
/-! ### impl_FlowOfBoundary: function 31 -/
/-- copy(v[j:], ys), v a row of numbers of one's own, ys just as long as the rest. -/
theorem copy_from {P : Program} {ops : Array Oper} {rest : List Oper} {o : Oper} {a : Act} {Q : Exit → Act → World → Prop} {k : IntKind} {w0 W : World} (base : Nat) (hgd : o.guard = none) (s x : Operand) (t t' e : TypeId)
    (ho : o.op = .call { callee := .builtin .copy, args := #[s, x], argTypes := #[t, t'] }) (ht : P.underlying t = some (.slice e)) (hinfo : (P.info? e).map (·.size) = some 1)
    (A : Option Addr) (n : Nat) (xs ys : List Int) (c j : Nat) (A2 : Option Addr) (m c2 : Nat) (ok : Nat → Prop) (hs : a.eval s = .slice (if c = j then A else A.map (·.add (j * 1))) (n - j) (c - j)) (hx : a.eval x = .slice A2 m c2)
    (HO : (Kd.int k).R e W base ok (.slice A n c) xs) (HR : (Kd.int k).C W A2 m ys) (HB : Below base w0 W) (hbase : base ≤ W.heap.size) (hj : j + ys.length = xs.length)
    (h : ∀ w1, (Kd.int k).R e w1 base ok (.slice A n c) (xs.take j ++ ys) → Below base w0 w1 → wpList P ops Q rest (a.put o.dst (.int .i64 ((ys.length : Nat) : Int))) w1) :
    wpList P ops Q (o :: rest) a W := by
  have hR := Kd.reads_of_C (enc := Value.int k) (d := (0 : Int)) (h1 := fun _ => rfl) HR
  have hm : ys.length = m := hR.1
  have hown := Kd.own_of_R (enc := Value.int k) (h1 := fun _ => rfl) HO
  have hn : n = xs.length := by
    obtain ⟨A', c', e⟩ := own_slice hown
    injection e
  subst hn
  have fin : ∀ w1, (Builtin.copy_ #[t, t'] o.type #[.slice (if c = j then A else A.map (·.add (j * 1))) (xs.length - j) (c - j), .slice A2 m c2]).run P W = .ok (goInt ((ys.length : Nat) : Int)) w1 → (Kd.int k).R e w1 base ok (.slice A xs.length c) (xs.take j ++ ys) → W.grownBy w1 (Value.slice A xs.length c).ownBlock → wpList P ops Q (o :: rest) a W := by
    intro w1 hr hrow hg
    refine wpList_plain hgd fun K hK => ?_
    unfold Oper.wp execOp
    simp only [ho, resolve, invoke, builtin, Sem.run_bind, Sem.run_pure, Result.andThen_ok, List.map_toArray, List.map_cons, List.map_nil, hs, hx, hr]
    exact hK _ _ (h w1 hrow (HB.grown hg hbase (own_base hown)))
  rcases Nat.eq_zero_or_pos ys.length with h0 | hp
  · obtain rfl : ys = [] := List.eq_nil_of_length_eq_zero h0
    have hr := run_copy_none (P := P) W t t' o.type e (if c = j then A else A.map (·.add (j * 1))) A2 (xs.length - j) (c - j) m c2 ht hinfo (by rw [← hm]; simp)
    refine fin W hr ?_ (World.grownBy.refl W _)
    rw [List.append_nil, List.take_of_length_le (by simp at hj; omega)]
    exact HO
  · obtain ⟨ad, hA, hc⟩ := hR.2.2 (by omega)
    rcases hown.2 with ⟨_, hx0⟩ | ⟨g, cap, cur, hv, hb, hh, hnc, hcm, hcs, htake⟩
    · omega
    injection hv with hv1 hv2 hv3
    subst hv1
    subst hv3
    have hcs1 : cur.size = c := by omega
    have hif : (if c = j then (some (⟨g, 0, none⟩ : Addr)) else (some (⟨g, 0, none⟩ : Addr)).map (·.add (j * 1))) = some ⟨g, j, none⟩ := by
      rw [if_neg (by omega), Option.map_some, add_plain, Nat.mul_one]
    have hkl : (encs (Value.int k) ys).length = ys.length := encs_length ..
    have hsrc : ∀ i u, (encs (Value.int k) ys)[i]? = some u → W.cell? (ad.add i) = some u := by
      intro i u hu
      have hi : i < ys.length := by
        rcases Nat.lt_or_ge i ys.length with h | h
        · exact h
        · rw [List.getElem?_eq_none (by rw [hkl]; exact h)] at hu
          cases hu
      rw [encs_get (d := (0 : Int)) _ i hi] at hu
      rw [hc i (by omega), ← hu]
    have hr := run_copy_cells (P := P) W t t' o.type e g j (xs.length - j) (c - j) ad m c2 (encs (Value.int k) ys) ht hinfo (by rw [hkl, ← hm]; show ys.length = min _ _; omega) hsrc
      (fun i hi => by rw [cell_of_row W g _ cur e (0, 0) hh]; rw [hkl] at hi; simp; omega) (fun i _ => blk_frozen hh _) (by intro u hu; simp only [encs, List.mem_map] at hu; obtain ⟨q, _, rfl⟩ := hu; rfl)
    obtain ⟨cur', h3, h4, h5⟩ := setCells_row (encs (Value.int k) ys) j W cur hh (by rw [hkl]; omega)
    obtain ⟨s1, s2, s3, s4⟩ := setCells_same g (encs (Value.int k) ys) j W
    have hln : (xs.take j ++ ys).length = xs.length := by
      rw [List.length_append, List.length_take]; omega
    refine fin _ (by rw [hif, hA, hr, hkl]) ?_ ⟨s1, s2, s3, by rw [s4]; exact Nat.le_refl _, fun i _ hk => setCells_far _ _ i (fun he => hk (by rw [he]; simp [Value.ownBlock]))⟩
    have hrow : (W.setCells g j (encs (Value.int k) ys)).ownsRow base e 1 (.slice (some ⟨g, 0, none⟩) xs.length c) (xs.take j ++ ys).length (encs (Value.int k) (xs.take j ++ ys)) := by
      rw [hln]
      refine ⟨by rw [encs_length, hln, Nat.mul_one], .inr ⟨g, c, cur', rfl, hb, h3, hnc, hcm, by rw [h4, hcs], ?_⟩⟩
      have htk : cur.toList.take xs.length = encs (Value.int k) xs := by rw [← htake, Nat.mul_one]
      have hd : encs (Value.int k) (xs.take j) = (encs (Value.int k) xs).take j := by simp [encs, List.map_take]
      have hll : (cur.toList.take j ++ encs (Value.int k) ys).length = xs.length := by
        rw [List.length_append, List.length_take, hkl, Array.length_toList, hcs1, Nat.min_eq_left (by omega)]; exact hj
      rw [h5, hkl, Nat.mul_one, encs_append, hd, ← htk, List.take_take, Nat.min_eq_left (by omega), List.take_append_of_le_length (by rw [hll]; exact Nat.le_refl _), List.take_of_length_le (by rw [hll]; exact Nat.le_refl _)]
    exact Kd.R_of_own (enc := Value.int k) (h1 := fun _ => rfl) hrow HO.1
mutual
def impl_FlowOfBoundary.j0 : Nat → Int → List Int → Int → Int → Bool → Option (List Int × Int)
  | 0, _, _, _, _, _ => none
  | k + 1, x0, x2, x8, x9, x30 => if x30 = true then (some (([] : List Int), 2)) else (if x8 > 500 then (some (([] : List Int), 3)) else (if 0 ≤ x9 then (if x9 + (x2.length : Int) = x8 then ((some (List.replicate (x9 : Int).toNat 0 : List Int)).bind fun y786 => (if y786.length + x2.length < 17592186044416 then (impl_FlowOfBoundary.l0 k x0 (y786 ++ x2) (wrap64 (x8 - 1))) else (none))) else (none)) else (none)))
def impl_FlowOfBoundary.l0 : Nat → Int → List Int → Int → Option (List Int × Int)
  | 0, _, _, _ => none
  | k + 1, x0, x10, x11 => if x11 > 0 then ((impl_parentPlace.f x0 x11).bind fun t792 => (if 0 ≤ t792 then (if t792 < (x10.length : Int) then (if 0 ≤ x11 then (if x11 < (x10.length : Int) then (impl_FlowOfBoundary.l0 k x0 (x10.set (t792 : Int).toNat (wrap64 ((rd x10 t792) + (rd x10 x11)))) (wrap64 (x11 - 1))) else (none)) else (none)) else (none)) else (none))) else (if 0 < (x10.length : Int) then (if (rd x10 0) = 0 then ((impl_within.f k 1000000 x10).bind fun t797 => (if t797 = true then ((some (([] : List Int) : List Int)).bind fun y798 => (if 1 ≤ (x10.length : Int) then ((some (x10.drop 1 : List Int)).bind fun y801 => (if y798.length + y801.length < 17592186044416 then (some ((y798 ++ y801), 0)) else (none))) else (none))) else (some (([] : List Int), 3)))) else (some (([] : List Int), 5))) else (none))
end
def impl_FlowOfBoundary.f (k : Nat) (a0 : Int) (a1 : Int) (l2 : List Int) : Option (List Int × Int) := (impl_isPrime.f a0).bind fun t782 => (if t782 = true then (if a1 < 1 then (some (([] : List Int), 2)) else (if a1 > 4 then (some (([] : List Int), 2)) else ((impl_regionSize.f k a0 a1).bind fun t783 => ((impl_regionSize.f k a0 (wrap64 (a1 - 1))).bind fun t784 => (if (l2.length : Int) = (wrap64 (t783 - t784)) then ((impl_within.f k 1000000 l2).bind fun t785 => (impl_FlowOfBoundary.j0 k a0 l2 t783 t784 (!t785))) else (impl_FlowOfBoundary.j0 k a0 l2 t783 t784 true)))))) else (some (([] : List Int), 1)))
theorem impl_FlowOfBoundary.mono_l : ∀ k, (∀ y0 y1 y2 y3 y4, LeO (impl_FlowOfBoundary.j0 k y0 y1 y2 y3 y4) (impl_FlowOfBoundary.j0 (k + 1) y0 y1 y2 y3 y4)) ∧ (∀ y0 y1 y2, LeO (impl_FlowOfBoundary.l0 k y0 y1 y2) (impl_FlowOfBoundary.l0 (k + 1) y0 y1 y2))
  | 0 => ⟨fun _ _ _ _ _ r h => by simp [impl_FlowOfBoundary.j0] at h, fun _ _ _ r h => by simp [impl_FlowOfBoundary.l0] at h⟩
  | k + 1 => by
    obtain ⟨ih0, ih1⟩ := impl_FlowOfBoundary.mono_l k
    refine ⟨?_, ?_⟩
    · intro y0 y1 y2 y3 y4
      unfold impl_FlowOfBoundary.j0
      repeat' first
      | (with_reducible exact ih0 _ _ _ _ _)
      | (with_reducible exact ih1 _ _ _)
      | (with_reducible exact impl_regionSize.mono _ _ _)
      | (with_reducible exact impl_within.mono _ _ _)
      | (with_reducible exact LeO.refl _)
      | (with_reducible exact LeO.none _)
      | (with_reducible refine LeO.ite ?_ ?_)
      | (with_reducible refine LeO.bind ?_ (fun _ => ?_))
      | exact ih0 _ _ _ _ _
      | exact ih1 _ _ _
      | exact impl_regionSize.mono _ _ _
      | exact impl_within.mono _ _ _
      | exact LeO.none _
      | refine LeO.ite ?_ ?_
      | refine LeO.bind ?_ (fun _ => ?_)
    · intro y0 y1 y2
      unfold impl_FlowOfBoundary.l0
      repeat' first
      | (with_reducible exact ih0 _ _ _ _ _)
      | (with_reducible exact ih1 _ _ _)
      | (with_reducible exact impl_regionSize.mono _ _ _)
      | (with_reducible exact impl_within.mono _ _ _)
      | (with_reducible exact LeO.refl _)
      | (with_reducible exact LeO.none _)
      | (with_reducible refine LeO.ite ?_ ?_)
      | (with_reducible refine LeO.bind ?_ (fun _ => ?_))
      | exact ih0 _ _ _ _ _
      | exact ih1 _ _ _
      | exact impl_regionSize.mono _ _ _
      | exact impl_within.mono _ _ _
      | exact LeO.none _
      | refine LeO.ite ?_ ?_
      | refine LeO.bind ?_ (fun _ => ?_)
theorem impl_FlowOfBoundary.mono : ∀ a0 a1 a2 k, LeO (impl_FlowOfBoundary.f k a0 a1 a2) (impl_FlowOfBoundary.f (k + 1) a0 a1 a2) := by
  intro a0 a1 a2 k
  obtain ⟨ih0, ih1⟩ := impl_FlowOfBoundary.mono_l k
  unfold impl_FlowOfBoundary.f
  repeat' first
      | (with_reducible exact ih0 _ _ _ _ _)
      | (with_reducible exact ih1 _ _ _)
      | (with_reducible exact impl_regionSize.mono _ _ _)
      | (with_reducible exact impl_within.mono _ _ _)
      | (with_reducible exact LeO.refl _)
      | (with_reducible exact LeO.none _)
      | (with_reducible refine LeO.ite ?_ ?_)
      | (with_reducible refine LeO.bind ?_ (fun _ => ?_))
      | exact ih0 _ _ _ _ _
      | exact ih1 _ _ _
      | exact impl_regionSize.mono _ _ _
      | exact impl_within.mono _ _ _
      | exact LeO.none _
      | refine LeO.ite ?_ ?_
      | refine LeO.bind ?_ (fun _ => ?_)
def impl_FlowOfBoundary.T15 : Bool × List (List Nat × List Nat) := (true, [([], []), ([], []), ([], []), ([1, 2], [1, 2]), ([0, 3], [0, 3]), ([4], [4]), ([], []), ([], []), ([6, 7], [6, 7]), ([8], [8]), ([5, 9], [5, 9]), ([0, 3, 0, 1, 2, 3, 4, 5, 6, 7, 8, 9, 10], [0, 3]), ([11, 10, 3, 0, 1, 2, 3, 4, 5, 6, 7, 8, 9, 10], [10, 11])])
def impl_FlowOfBoundary.B15 : List Nat := [0, 0, 0, 6, 15, 31, 0, 0, 192, 448, 1023, 2047, 4095]
theorem impl_FlowOfBoundary.tab15 : rtab .any (opsOf Try.f31 15) = impl_FlowOfBoundary.T15 := by kernel_rfl
theorem impl_FlowOfBoundary.bits15 : waitsOk impl_FlowOfBoundary.T15.2 impl_FlowOfBoundary.B15 = true := by kernel_rfl
set_option maxHeartbeats 8000000 in
set_option maxRecDepth 100000 in
theorem impl_FlowOfBoundary.calls (k : Nat) (a0 : Int) (a1 : Int) (A2 : Option Addr) (c2 : Nat) (l2 : List Int) (r1 : List Int) (r2 : Int) (w : World) (hr2 : Kd.C (Kd.int .i64) w A2 l2.length l2) (hc2 : l2.length ≤ c2) (h : impl_FlowOfBoundary.f k a0 a1 l2 = some (r1, r2)) :
    Calls Try.prog 31 #[.int .i64 a0, .int .i64 a1, .slice A2 l2.length c2] w fun e w' => ∃ v0_ : Value, e = .returned (.tuple #[v0_, .int .i64 r2]) ∧ Kd.R (Kd.int .i64) 2 w' w.heap.size (fun _ => True) v0_ r1 ∧ Below w.heap.size w w' := by
  have HR2 := Aside0.mk hr2
  have HC2 := Aside0.mk hc2
  clear hr2 hc2
  have HB := Aside0.mk (Below.refl w.heap.size w)
  have H : ((impl_isPrime.f a0).bind fun t782 => (if t782 = true then (if a1 < 1 then (some (([] : List Int), 2)) else (if a1 > 4 then (some (([] : List Int), 2)) else ((impl_regionSize.f k a0 a1).bind fun t783 => ((impl_regionSize.f k a0 (wrap64 (a1 - 1))).bind fun t784 => (if (l2.length : Int) = (wrap64 (t783 - t784)) then ((impl_within.f k 1000000 l2).bind fun t785 => (impl_FlowOfBoundary.j0 k a0 l2 t783 t784 (!t785))) else (impl_FlowOfBoundary.j0 k a0 l2 t783 t784 true)))))) else (some (([] : List Int), 1)))) = some (r1, r2) := h
  clear h
  replace H := Option.bind_eq_some_iff.mp H
  obtain ⟨t782, A40, H⟩ := H
  replace H : (if t782 = true then (if a1 < 1 then (some (([] : List Int), 2)) else (if a1 > 4 then (some (([] : List Int), 2)) else ((impl_regionSize.f k a0 a1).bind fun t783 => ((impl_regionSize.f k a0 (wrap64 (a1 - 1))).bind fun t784 => (if (l2.length : Int) = (wrap64 (t783 - t784)) then ((impl_within.f k 1000000 l2).bind fun t785 => (impl_FlowOfBoundary.j0 k a0 l2 t783 t784 (!t785))) else (impl_FlowOfBoundary.j0 k a0 l2 t783 t784 true)))))) else (some (([] : List Int), 1))) = some (r1, r2) := H
  have A4 := Aside0.mk A40
  clear A40
  by_cases c5 : t782 = true
  · subst c5
    have H1 : (if a1 < 1 then (some (([] : List Int), 2)) else (if a1 > 4 then (some (([] : List Int), 2)) else ((impl_regionSize.f k a0 a1).bind fun t783 => ((impl_regionSize.f k a0 (wrap64 (a1 - 1))).bind fun t784 => (if (l2.length : Int) = (wrap64 (t783 - t784)) then ((impl_within.f k 1000000 l2).bind fun t785 => (impl_FlowOfBoundary.j0 k a0 l2 t783 t784 (!t785))) else (impl_FlowOfBoundary.j0 k a0 l2 t783 t784 true)))))) = some (r1, r2) := by rw [if_pos rfl] at H; exact H
    clear H
    have H := H1
    clear H1
    by_cases c6 : a1 < 1
    · rw [if_pos c6] at H
      have c6b0 : decide (a1 < 1) = true := decide_eq_true c6
      clear c6
      simp only [Option.some.injEq, Prod.mk.injEq] at H
      obtain ⟨rfl, rfl⟩ := H
      go_enter Try.func31, Try.ntmps31
      go_wp2_with (first | ((with_reducible refine gate_callee (f := 85) rfl ?_); refine goesL_ (some 14) rfl rfl Try.func85 (by kernel_rfl) rfl #[.int .i64 a0] rfl (by (try simp only [List.map_toArray, List.map_cons, List.map_nil]); first | done | rfl | (simp only [List.length_drop, List.length_take]; rfl)) ?_; (with_reducible refine (impl_isPrime.calls a0 true _ A4.out).mono ?_); rintro e w' ⟨rfl, ⟨nd, rfl⟩⟩; refine ⟨_, rfl, ?_⟩))
      go_ret2
      exact ⟨_, by first | rfl | (simp [errW_none, errW_some] <;> rfl) | (simp [*, errW_none, errW_some] <;> rfl), by first | exact Kd.R_nil _ _ _ _ _ | exact Kd.N_nil _ _ _ _ _ | exact Kd.V_nil _ _ _ _ _ | exact Kd.Q_nil _ _ _ _ _ | exact Kd.S_nil _ _ _ _ _, blA⟩
    · rw [if_neg c6] at H
      have c6b0 : decide (a1 < 1) = false := decide_eq_false c6
      clear c6
      by_cases c7 : a1 > 4
      · rw [if_pos c7] at H
        have c7b0 : decide (4 < a1) = true := decide_eq_true c7
        clear c7
        simp only [Option.some.injEq, Prod.mk.injEq] at H
        obtain ⟨rfl, rfl⟩ := H
        go_enter Try.func31, Try.ntmps31
        go_wp2_with (first | ((with_reducible refine gate_callee (f := 85) rfl ?_); refine goesL_ (some 14) rfl rfl Try.func85 (by kernel_rfl) rfl #[.int .i64 a0] rfl (by (try simp only [List.map_toArray, List.map_cons, List.map_nil]); first | done | rfl | (simp only [List.length_drop, List.length_take]; rfl)) ?_; (with_reducible refine (impl_isPrime.calls a0 true _ A4.out).mono ?_); rintro e w' ⟨rfl, ⟨nd, rfl⟩⟩; refine ⟨_, rfl, ?_⟩))
        go_ret2
        exact ⟨_, by first | rfl | (simp [errW_none, errW_some] <;> rfl) | (simp [*, errW_none, errW_some] <;> rfl), by first | exact Kd.R_nil _ _ _ _ _ | exact Kd.N_nil _ _ _ _ _ | exact Kd.V_nil _ _ _ _ _ | exact Kd.Q_nil _ _ _ _ _ | exact Kd.S_nil _ _ _ _ _, blA⟩
      · rw [if_neg c7] at H
        have c7b0 : decide (4 < a1) = false := decide_eq_false c7
        clear c7
        replace H := Option.bind_eq_some_iff.mp H
        obtain ⟨t783, A80, H⟩ := H
        replace H : ((impl_regionSize.f k a0 (wrap64 (a1 - 1))).bind fun t784 => (if (l2.length : Int) = (wrap64 (t783 - t784)) then ((impl_within.f k 1000000 l2).bind fun t785 => (impl_FlowOfBoundary.j0 k a0 l2 t783 t784 (!t785))) else (impl_FlowOfBoundary.j0 k a0 l2 t783 t784 true))) = some (r1, r2) := H
        have A8 := Aside0.mk A80
        clear A80
        replace H := Option.bind_eq_some_iff.mp H
        obtain ⟨t784, A90, H⟩ := H
        replace H : (if (l2.length : Int) = (wrap64 (t783 - t784)) then ((impl_within.f k 1000000 l2).bind fun t785 => (impl_FlowOfBoundary.j0 k a0 l2 t783 t784 (!t785))) else (impl_FlowOfBoundary.j0 k a0 l2 t783 t784 true)) = some (r1, r2) := H
        have A9 := Aside0.mk A90
        clear A90
        have HC10 := Aside0.mk H
        clear H
        go_enter Try.func31, Try.ntmps31
        go_upto_region 6 with (first | ((with_reducible refine gate_callee (f := 85) rfl ?_); refine goesL_ (some 14) rfl rfl Try.func85 (by kernel_rfl) rfl #[.int .i64 a0] rfl (by (try simp only [List.map_toArray, List.map_cons, List.map_nil]); first | done | rfl | (simp only [List.length_drop, List.length_take]; rfl)) ?_; (with_reducible refine (impl_isPrime.calls a0 true _ A4.out).mono ?_); rintro e w' ⟨rfl, ⟨nd, rfl⟩⟩; refine ⟨_, rfl, ?_⟩) | ((with_reducible refine gate_callee (f := 86) rfl ?_); refine goesL_ (some 25) rfl rfl Try.func86 (by kernel_rfl) rfl #[.int .i64 a0, .int .i64 a1] rfl (by (try simp only [List.map_toArray, List.map_cons, List.map_nil]); first | done | rfl | (simp only [List.length_drop, List.length_take]; rfl)) ?_; (with_reducible refine (impl_regionSize.calls k a0 a1 t783 _ A8.out).mono ?_); rintro e w' ⟨rfl, ⟨nd, rfl⟩⟩; refine ⟨_, rfl, ?_⟩) | ((with_reducible refine gate_callee (f := 86) rfl ?_); refine goesL_ (some 29) rfl rfl Try.func86 (by kernel_rfl) rfl #[.int .i64 a0, .int .i64 (wrap64 (a1 - 1))] rfl (by (try simp only [List.map_toArray, List.map_cons, List.map_nil]); first | done | rfl | (simp only [List.length_drop, List.length_take]; rfl)) ?_; (with_reducible refine (impl_regionSize.calls k a0 (wrap64 (a1 - 1)) t784 _ A9.out).mono ?_); rintro e w' ⟨rfl, ⟨nd, rfl⟩⟩; refine ⟨_, rfl, ?_⟩))
        (try simp only [Act.put, List.setIfInBounds_toArray, List.set_cons_zero, List.set_cons_succ])
        go_cut [30] (fun v30 wc => ∃ (kq : Nat) (x30_9 : Bool), v30 = .bool x30_9 ∧ Aside0 (impl_FlowOfBoundary.j0 kq a0 l2 t783 t784 x30_9 = some (r1, r2)) ∧ Aside0 (kq ≤ k) ∧ Aside0 (Below w.heap.size w wc))
        case first =>
          have H := HC10.out
          clear HC10
          by_cases c11 : (l2.length : Int) = (wrap64 (t783 - t784))
          · rw [if_pos c11] at H
            have c11b0 : ((l2.length : Int) == (wrap64 (t783 - t784))) = true := beq_iff_eq.mpr c11
            have c11b1 : ((l2.length : Int) != (wrap64 (t783 - t784))) = false := bne_eq_false_iff_eq.mpr c11
            clear c11
            (first | rw [c11b0] | (simp only [i64_w, i32_w]; rw [c11b0]) | skip)
            replace H := Option.bind_eq_some_iff.mp H
            obtain ⟨t785, A120, H⟩ := H
            replace H : (impl_FlowOfBoundary.j0 k a0 l2 t783 t784 (!t785)) = some (r1, r2) := H
            have A12 := Aside0.mk A120
            clear A120
            have H' := Aside0.mk H
            clear H
            go_wp2_with (first | (go_at_call 59; (with_reducible refine (impl_within.calls k 1000000 _ _ l2 t785 _ ?side1 ?side2 A12.out).mono ?_); (case side1 => repeat (first | exact (Kd.C_below HR2.out HB.out) | (with_reducible refine Kd.C_alloc ?_ _) | (with_reducible refine Kd.C_drewN ?_ _) | (with_reducible refine Kd.C_drew ?_))); (case side2 => exact HC2.out); rintro e w' ⟨rfl, ⟨nd, rfl⟩⟩))
            go_meet
            case rel => exact ⟨_, (!t785), (by first | rfl | (simp; done) | (simp [*]; done)), H', ⟨by first | omega | exact Nat.le_refl _⟩, ⟨blA⟩⟩
          · rw [if_neg c11] at H
            have c11b0 : ((l2.length : Int) == (wrap64 (t783 - t784))) = false := beq_eq_false_iff_ne.mpr c11
            have c11b1 : ((l2.length : Int) != (wrap64 (t783 - t784))) = true := bne_iff_ne.mpr c11
            (first | rw [c11b0] | (simp only [i64_w, i32_w]; rw [c11b0]) | skip)
            have H' := Aside0.mk H
            clear H
            go_wp2
            go_meet
            case rel => exact ⟨_, (true), (by first | rfl | (simp; done) | (simp [*]; done)), H', ⟨by first | omega | exact Nat.le_refl _⟩, ⟨blA⟩⟩
        case rest =>
          clear HC10
          try clear c1
          try clear c2
          try clear p2
          try clear c3
          try clear c5
          try clear c6
          try clear c6b0
          try clear p6
          try clear c7
          try clear c7b0
          try clear c8
          try clear c11
          try clear c11b0
          try clear c11b1
          obtain ⟨kq, x30_9, rfl, HA, HJ9, HB⟩ := hcut
          cases kq with
          | zero => exact absurd HA.out (by simp [impl_FlowOfBoundary.j0])
          | succ kj9 =>
            have H := HA.out
            clear HA
            simp only [impl_FlowOfBoundary.j0] at H
            by_cases c13 : x30_9 = true
            · subst c13
              have H1 : (some (([] : List Int), 2)) = some (r1, r2) := by rw [if_pos rfl] at H; exact H
              clear H
              have H := H1
              clear H1
              simp only [Option.some.injEq, Prod.mk.injEq] at H
              obtain ⟨rfl, rfl⟩ := H
              go_wp2
              go_ret2
              exact ⟨_, by first | rfl | (simp [errW_none, errW_some] <;> rfl) | (simp [*, errW_none, errW_some] <;> rfl), by first | exact Kd.R_nil _ _ _ _ _ | exact Kd.N_nil _ _ _ _ _ | exact Kd.V_nil _ _ _ _ _ | exact Kd.Q_nil _ _ _ _ _ | exact Kd.S_nil _ _ _ _ _, blA⟩
            · replace c13 := Bool.eq_false_iff.mpr c13
              subst c13
              have H1 : (if t783 > 500 then (some (([] : List Int), 3)) else (if 0 ≤ t784 then (if t784 + (l2.length : Int) = t783 then ((some (List.replicate (t784 : Int).toNat 0 : List Int)).bind fun y786 => (if y786.length + l2.length < 17592186044416 then (impl_FlowOfBoundary.l0 kj9 a0 (y786 ++ l2) (wrap64 (t783 - 1))) else (none))) else (none)) else (none))) = some (r1, r2) := by rw [if_neg (show ¬ (false = true) by decide)] at H; exact H
              clear H
              have H := H1
              clear H1
              by_cases c14 : t783 > 500
              · rw [if_pos c14] at H
                have c14b0 : decide (500 < t783) = true := decide_eq_true c14
                clear c14
                simp only [Option.some.injEq, Prod.mk.injEq] at H
                obtain ⟨rfl, rfl⟩ := H
                go_wp2
                go_ret2
                exact ⟨_, by first | rfl | (simp [errW_none, errW_some] <;> rfl) | (simp [*, errW_none, errW_some] <;> rfl), by first | exact Kd.R_nil _ _ _ _ _ | exact Kd.N_nil _ _ _ _ _ | exact Kd.V_nil _ _ _ _ _ | exact Kd.Q_nil _ _ _ _ _ | exact Kd.S_nil _ _ _ _ _, blA⟩
              · rw [if_neg c14] at H
                have c14b0 : decide (500 < t783) = false := decide_eq_false c14
                clear c14
                by_cases c15 : 0 ≤ t784
                · rw [if_pos c15] at H
                  have c15b0 := eq_true c15
                  have c15b1 : decide (0 ≤ t784) = true := decide_eq_true c15
                  clear c15
                  by_cases c16 : t784 + (l2.length : Int) = t783
                  · rw [if_pos c16] at H
                    have c16b0 := eq_true c16
                    have c16b1 : decide (t784 + (l2.length : Int) = t783) = true := decide_eq_true c16
                    clear c16
                    obtain ⟨y786, hy786⟩ : ∃ y_ : List Int, y_ = (List.replicate (t784 : Int).toNat 0) := ⟨_, rfl⟩
                    replace H : (if y786.length + l2.length < 17592186044416 then (impl_FlowOfBoundary.l0 kj9 a0 (y786 ++ l2) (wrap64 (t783 - 1))) else (none)) = some (r1, r2) := by first | (rw [hy786]; with_reducible exact H) | (have H2_ := (Option.bind_some _ _).symm.trans H; rw [hy786]; with_reducible exact H2_) | (have H2_ := (Option.bind_some _ _).symm.trans H; with_reducible exact H2_) | with_reducible exact H | (rw [hy786]; exact H) | exact H
                    have Ny786 := Aside0.mk hy786
                    clear hy786
                    by_cases c17 : y786.length + l2.length < 17592186044416
                    · rw [if_pos c17] at H
                      have LMc17 := Aside0.mk c17
                      clear c17
                      obtain ⟨y789, hy789⟩ : ∃ y_ : List Int, y_ = (y786 ++ l2) := ⟨_, rfl⟩
                      replace H : (impl_FlowOfBoundary.l0 kj9 a0 y789 (wrap64 (t783 - 1))) = some (r1, r2) := by first | (rw [hy789]; with_reducible exact H) | (have H2_ := (Option.bind_some _ _).symm.trans H; rw [hy789]; with_reducible exact H2_) | (have H2_ := (Option.bind_some _ _).symm.trans H; with_reducible exact H2_) | with_reducible exact H | (rw [hy789]; exact H) | exact H
                      have Ny789 := Aside0.mk hy789
                      clear hy789
                      have H' := Aside0.mk H
                      clear H
                      have z1_ := of_decide_eq_false c14b0
                      have z2_ := of_decide_eq_true c15b1
                      have z3_ := of_decide_eq_true c16b1
                      have HZ0 := Aside0.mk (show 0 ≤ t783 by omega)
                      have HZ1 := Aside0.mk (show (t783 : Int).toNat ≤ 35184372088832 by omega)
                      have HZ2 := Aside0.mk (show (t784 : Int).toNat + l2.length = (t783 : Int).toNat by omega)
                      have HZ3 := Aside0.mk z2_
                      clear z1_ z2_ z3_
                      obtain ⟨yS, hyS⟩ : ∃ y_ : List Int, y_ = (List.replicate (t783 : Int).toNat 0) := ⟨_, rfl⟩
                      have NyS := Aside0.mk hyS
                      clear hyS
                      have HZ4 := Aside0.mk (show yS.length = (t783 : Int).toNat by rw [NyS.out, List.length_replicate])
                      obtain ⟨i0_, hi0_, _, hsz_, _⟩ := info_parts info2
                      have HI := Aside0.mk hi0_
                      have HS := Aside0.mk hsz_
                      clear hi0_ hsz_
                      go_wp2_with (first | ((with_reducible refine gate_dst (N := 46) rfl ?_); refine Kd.R_make (Kd.int .i64) _ 2 rfl (N := 46) rfl 45 _ _ rfl t783 rfl rfl Try.underlying45 (.int .i64 0) 8 info2 rfl (by decide) (by omega) 0 (ok := fun _ => True) (okp := fun _ => True) rfl (fun _ hk => hk) trivial HZ0.out (Nat.le_trans (Nat.mul_le_mul_right _ HZ1.out) (by omega)) (Below.refl _ _) (Nat.le_refl _) ?_; intro v46 w46 ho46 hb hg_ hnew_; clear hg_ hnew_; rw [← NyS.out] at ho46; obtain ⟨A46, q46, e46⟩ := Kd.R_slice ho46; subst e46; have n0_ := Aside0.mk (Kd.R_lower ho46 (below_size blA)); have n1_ := Aside0.mk (below_step blA hb); have hcut := cut_from (P := Try.prog) 45 2 .i64 Try.underlying45 HI.out 1 HS.out A46 yS.length q46 t784 HZ3.out (by have := HZ2.out; have := HZ4.out; have := HZ3.out; omega); obtain ⟨v49, hv49⟩ : ∃ v_ : Value, v_ = Value.slice (if q46 = (t784 : Int).toNat then A46 else A46.map (·.add ((t784 : Int).toNat * 1))) (yS.length - (t784 : Int).toNat) (q46 - (t784 : Int).toNat) := ⟨_, rfl⟩; rw [← hv49] at hcut; have HV49 := Aside0.mk hv49; clear hv49; clear HB; have HO46 := n0_; have HB := n1_; clear n0_ n1_; clear hb ho46) | ((with_reducible refine gate_builtin (b := .copy) (xs := #[.tmp 49, .tmp 50]) rfl ?_); refine copy_from (k := .i64) (w0 := w) w.heap.size rfl (.tmp 49) (.tmp 50) 45 45 2 rfl Try.underlying45 ?hI A46 yS.length yS l2 q46 (t784 : Int).toNat _ _ _ (fun _ => True) HV49.out rfl ?aO ?aR ?aB ?aS ?aJ ?_; (case hI => rw [HI.out]; simp [HS.out]); (case aO => exact (by (with_reducible repeat (first | apply Kd.R_alloc | apply Kd.R_drewN | apply Kd.R_drew)); exact HO46.out)); (case aR => repeat (first | exact (Kd.C_below HR2.out HB.out) | (with_reducible refine Kd.C_alloc ?_ _) | (with_reducible refine Kd.C_drewN ?_ _) | (with_reducible refine Kd.C_drew ?_))); (case aB => exact blA); (case aS => exact (below_size blA)); (case aJ => rw [HZ4.out]; exact HZ2.out); intro w20 ho hb; rw [show yS.take (t784 : Int).toNat ++ l2 = _ from (by rw [Ny789.out, Ny786.out, NyS.out, List.take_replicate, Nat.min_eq_left (by have := HZ2.out; omega)] : yS.take (t784 : Int).toNat ++ l2 = y789)] at ho; clear hcut HO46 HB; generalize (Value.slice A46 yS.length q46) = v790 at ho ⊢; have HB := Aside0.mk hb; have HO791 := Aside0.mk ho; clear ho hb))
                      go_loopg [11] kj9 (fun kq v11 w' => ∃ (x10_2 : List Int) (x11_2 : Int), v11 = .int .i64 x11_2 ∧ Aside0 (impl_FlowOfBoundary.l0 kq a0 x10_2 x11_2 = some (r1, r2)) ∧ Aside0 (kq ≤ kj9) ∧ Aside0 (Kd.R (Kd.int .i64) 2 w' w.heap.size (fun _ => True) v790 x10_2) ∧ Aside0 (Below w.heap.size w w'))
                      case atStart => exact ⟨(y789), (wrap64 (t783 - 1)), (by first | rfl | (simp; done) | (simp [*]; done)), H', ⟨Nat.le_refl _⟩, ⟨by (with_reducible repeat (first | apply Kd.R_alloc | apply Kd.R_drewN | apply Kd.R_drew)); exact HO791.out⟩, ⟨blA⟩⟩
                      case round =>
                        clear H'
                        try clear c1
                        try clear c2
                        try clear p2
                        try clear c3
                        try clear c5
                        try clear c6
                        try clear c6b0
                        try clear p6
                        try clear c7
                        try clear c7b0
                        try clear c8
                        try clear c11
                        try clear c11b0
                        try clear c11b1
                        try clear c13
                        try clear c14
                        try clear c14b0
                        try clear c15
                        try clear c15b0
                        try clear c15b1
                        try clear c16
                        try clear c16b0
                        try clear c16b1
                        try clear c17
                        try clear p2
                        try clear p6
                        obtain ⟨x10_2, x11_2, rfl, HA, HK2, HO_10, HB⟩ := hrel
                        cases gk with
                        | zero => exact absurd HA.out (by simp [impl_FlowOfBoundary.l0])
                        | succ k2 =>
                          have H := HA.out
                          clear HA
                          simp only [impl_FlowOfBoundary.l0] at H
                          by_cases c21 : x11_2 > 0
                          · rw [if_pos c21] at H
                            have c21b0 : decide (0 < x11_2) = true := decide_eq_true c21
                            clear c21
                            replace H := Option.bind_eq_some_iff.mp H
                            obtain ⟨t792, A220, H⟩ := H
                            replace H : (if 0 ≤ t792 then (if t792 < (x10_2.length : Int) then (if 0 ≤ x11_2 then (if x11_2 < (x10_2.length : Int) then (impl_FlowOfBoundary.l0 k2 a0 (x10_2.set (t792 : Int).toNat (wrap64 ((rd x10_2 t792) + (rd x10_2 x11_2)))) (wrap64 (x11_2 - 1))) else (none)) else (none)) else (none)) else (none)) = some (r1, r2) := H
                            have A22 := Aside0.mk A220
                            clear A220
                            by_cases c23 : 0 ≤ t792
                            · rw [if_pos c23] at H
                              have c23b0 : decide (0 ≤ t792) = true := decide_eq_true c23
                              clear c23
                              by_cases c24 : t792 < (x10_2.length : Int)
                              · rw [if_pos c24] at H
                                have c24b0 : decide (t792 < (x10_2.length : Int)) = true := decide_eq_true c24
                                clear c24
                                by_cases c25 : 0 ≤ x11_2
                                · rw [if_pos c25] at H
                                  have c25b0 : decide (0 ≤ x11_2) = true := decide_eq_true c25
                                  clear c25
                                  by_cases c26 : x11_2 < (x10_2.length : Int)
                                  · rw [if_pos c26] at H
                                    have c26b0 : decide (x11_2 < (x10_2.length : Int)) = true := decide_eq_true c26
                                    clear c26
                                    obtain ⟨y795, hy795⟩ : ∃ y_ : List Int, y_ = (x10_2.set (t792 : Int).toNat (wrap64 ((rd x10_2 t792) + (rd x10_2 x11_2)))) := ⟨_, rfl⟩
                                    replace H : (impl_FlowOfBoundary.l0 k2 a0 y795 (wrap64 (x11_2 - 1))) = some (r1, r2) := by first | (rw [hy795]; with_reducible exact H) | (have H2_ := (Option.bind_some _ _).symm.trans H; rw [hy795]; with_reducible exact H2_) | (have H2_ := (Option.bind_some _ _).symm.trans H; with_reducible exact H2_) | with_reducible exact H | (rw [hy795]; exact H) | exact H
                                    have Ny795 := Aside0.mk hy795
                                    clear hy795
                                    have H' := Aside0.mk H
                                    clear H
                                    try go_wp2
                                    have n0_ := Aside0.mk (Kd.R_drew HO_10.out)
                                    have n1_ := Aside0.mk (below_drew1 HB.out)
                                    clear HO_10
                                    clear HB
                                    have HO_10 := n0_
                                    have HB := n1_
                                    clear n0_ n1_
                                    obtain ⟨Ao29, co29, eo29⟩ := Kd.R_slice HO_10.out
                                    (first | subst eo29 | (injection eo29 with f1_ f2_ f3_; have f4_ := f1_.symm; have f5_ := f3_.symm; clear f1_ f2_ f3_; subst f4_; subst f5_))
                                    have p794 : 0 ≤ (x11_2 : Int) := of_decide_eq_true (by first | (with_reducible assumption) | assumption)
                                    have q794 : x11_2 < (x10_2.length : Int) := of_decide_eq_true (by first | (with_reducible assumption) | assumption)
                                    obtain ⟨ad794, e794, hx794_0⟩ := Kd.at_int (Kd.R_reads' HO_10.out).2.2 x11_2 p794 q794
                                    cases e794
                                    replace p794 := eq_true p794
                                    replace q794 := eq_true q794
                                    have p793 : 0 ≤ (t792 : Int) := of_decide_eq_true (by first | (with_reducible assumption) | assumption)
                                    have q793 : t792 < (x10_2.length : Int) := of_decide_eq_true (by first | (with_reducible assumption) | assumption)
                                    obtain ⟨ad793, e793, hx793_0⟩ := Kd.at_int (Kd.R_reads' HO_10.out).2.2 t792 p793 q793
                                    obtain rfl : ad794 = ad793 := (by injection e793)
                                    replace p793 := eq_true p793
                                    replace q793 := eq_true q793
                                    refine start_ (n := 13) (S := fun w' => w'.cell? (ad794.add (x11_2).toNat) = some (.int .i64 (rd x10_2 x11_2)) ∧ w'.cell? (ad794.add (t792).toNat) = some (.int .i64 (rd x10_2 t792))) (ds := [12]) #[false, false, false, false, false, false, false, false, false, false, false, false, false] (by kernel_rfl) rfl rfl ⟨hx794_0, hx793_0⟩ (fun hHeld => ?_); refine with_tabW impl_FlowOfBoundary.tab15 impl_FlowOfBoundary.bits15 (fun HT_ HW_ => ?_)
                                    generalize wr.drew = w28 at HO_10 HB hx793_0 hx794_0 hHeld ⊢
                                    refine pure_ (i := 0) (N := some 58) (v := ?_) (a' := ?_) #[true, false, false, false, false, false, false, false, false, false, false, false, false] rfl rfl (any_of HT_.out (by kernel_rfl)) (fun _ _ _ h => h) (Or.inl ⟨by rfl, ?_⟩) ?_ ?_
                                    rotate_left
                                    · intro w'
                                      go_simp
                                      with_reducible rfl
                                    rotate_left
                                    · simp only [Act.put, List.setIfInBounds_toArray, List.set_cons_zero, List.set_cons_succ, i64_w, i32_w]
                                      rfl
                                    refine pure_ (i := 1) (N := some 59) (v := ?_) (a' := ?_) #[true, true, false, false, false, false, false, false, false, false, false, false, false] rfl rfl (any_of HT_.out (by kernel_rfl)) (fun _ _ _ h => h) (Or.inl ⟨by rfl, ?_⟩) ?_ ?_
                                    rotate_left
                                    · intro w'
                                      go_simp
                                      with_reducible rfl
                                    rotate_left
                                    · simp only [Act.put, List.setIfInBounds_toArray, List.set_cons_zero, List.set_cons_succ, i64_w, i32_w]
                                      rfl
                                    refine pure_ (i := 2) (N := some 60) (v := ?_) (a' := ?_) #[true, true, true, false, false, false, false, false, false, false, false, false, false] rfl rfl (any_of HT_.out (by kernel_rfl)) (fun _ _ _ h => h) (Or.inl ⟨by rfl, ?_⟩) ?_ ?_
                                    rotate_left
                                    · intro w'
                                      go_simp
                                      with_reducible rfl
                                    rotate_left
                                    · simp only [Act.put, List.setIfInBounds_toArray, List.set_cons_zero, List.set_cons_succ, i64_w, i32_w]
                                      rfl
                                    refine pure_ (i := 6) (N := some 64) (v := ?_) (a' := ?_) #[true, true, true, false, false, false, true, false, false, false, false, false, false] rfl rfl (any_of HT_.out (by kernel_rfl)) (fun _ _ _ h => h) (Or.inl ⟨by rfl, ?_⟩) ?_ ?_
                                    rotate_left
                                    · intro w'
                                      go_simp
                                      with_reducible rfl
                                    rotate_left
                                    · simp only [Act.put, List.setIfInBounds_toArray, List.set_cons_zero, List.set_cons_succ, i64_w, i32_w]
                                      rfl
                                    refine pure_ (i := 7) (N := some 65) (v := ?_) (a' := ?_) #[true, true, true, false, false, false, true, true, false, false, false, false, false] rfl rfl (any_of HT_.out (by kernel_rfl)) (fun _ _ _ h => h) (Or.inl ⟨by rfl, ?_⟩) ?_ ?_
                                    rotate_left
                                    · intro w'
                                      go_simp
                                      with_reducible rfl
                                    rotate_left
                                    · simp only [Act.put, List.setIfInBounds_toArray, List.set_cons_zero, List.set_cons_succ, i64_w, i32_w]
                                      rfl
                                    refine pure_ (i := 8) (N := some 66) (v := ?_) (a' := ?_) #[true, true, true, false, false, false, true, true, true, false, false, false, false] rfl rfl (any_of HT_.out (by kernel_rfl)) (fun _ _ _ h => h) (Or.inl ⟨by rfl, ?_⟩) ?_ ?_
                                    rotate_left
                                    · intro w'
                                      go_simp
                                      with_reducible rfl
                                    rotate_left
                                    · simp only [Act.put, List.setIfInBounds_toArray, List.set_cons_zero, List.set_cons_succ, i64_w, i32_w]
                                      rfl
                                    refine take_ (i := 9) (N := some 67) (v := ?_) (a' := ?_) #[true, true, true, false, false, false, true, true, true, true, false, false, false] rfl rfl (take_ofW HT_.out HW_.out (by kernel_rfl)) (fun _ _ _ h => h) (Or.inl ⟨by rfl, ?_⟩) hHeld ?_ ?_
                                    rotate_left
                                    · rintro w' ⟨s0, s1⟩
                                      (try simp only [add_plain] at s0 s1)
                                      go_simp
                                      with_reducible rfl
                                    rotate_left
                                    · simp only [Act.put, List.setIfInBounds_toArray, List.set_cons_zero, List.set_cons_succ, i64_w, i32_w]
                                      rfl
                                    refine one_ (i := 3) (N := some 61) #[true, true, true, true, false, false, true, true, true, true, false, false, false] rfl rfl (one_of HT_.out (by kernel_rfl)) (by decide) (fun K hK => ?_)
                                    refine goes_ Try.func87 (by kernel_rfl) rfl #[.int .i64 a0, .int .i64 x11_2] (by rfl) rfl rfl (by (try simp only [List.map_toArray, List.map_cons, List.map_nil]); first | done | rfl | (simp only [List.length_drop, List.length_take]; rfl)) ?_
                                    with_reducible refine (impl_parentPlace.calls a0 x11_2 t792 _ A22.out).mono ?_
                                    rintro e w' ⟨rfl, ⟨nd, rfl⟩⟩
                                    refine ⟨_, rfl, ?_⟩
                                    have p27 : 0 ≤ (t792 : Int) := of_decide_eq_true (by first | (with_reducible assumption) | assumption)
                                    have q27 : (t792 : Int) < ((x10_2.length : Int) : Int) := of_decide_eq_true (by first | (with_reducible assumption) | assumption)
                                    obtain ⟨go27, co27, eo27, gb27, gl27, cl27, HG27⟩ := Kd.R_form HO_10.out (by omega)
                                    (first | cases eo27 | (injection eo27 with ea_ en_ ec_; (first | subst ea_ | (injection ea_ with ea_; subst ea_)); subst ec_; clear en_))
                                    have GB27 := Aside0.mk gb27
                                    have GG27 := Aside0.mk HG27
                                    clear gb27 gl27 HG27
                                    (first | simp only [add_plain] at hx794_0 | skip)
                                    (first | simp only [add_plain] at hx793_0 | skip)
                                    obtain ⟨hx27_0, hf27_0⟩ := Kd.R_celln 0 HO_10.out (t792 : Int) p27 q27
                                    replace p27 := eq_true p27
                                    replace q27 := eq_true q27
                                    have HP30 := Kd.R_putn HO_10.out (t792 : Int) (wrap64 ((rd x10_2 t792) + (rd x10_2 x11_2)))
                                    rw [← Ny795.out] at HP30
                                    have HQ30 := Aside0.mk HP30
                                    clear HP30
                                    refine hK.out _ _ ⟨hHeld.1, hHeld.2⟩ (fun hHeld => ?_)
                                    clear hK K
                                    refine norm_ (a' := ?_) ?_ ?_
                                    rotate_left
                                    · show Act.put _ (some 61) _ = _
                                      simp only [Act.put, List.setIfInBounds_toArray, List.set_cons_zero, List.set_cons_succ, i64_w, i32_w]
                                      rfl
                                    refine pure_ (i := 4) (N := some 62) (v := ?_) (a' := ?_) #[true, true, true, true, true, false, true, true, true, true, false, false, false] rfl rfl (any_of HT_.out (by kernel_rfl)) (fun _ _ _ h => h) (Or.inl ⟨by rfl, ?_⟩) ?_ ?_
                                    rotate_left
                                    · intro w'
                                      go_simp
                                      with_reducible rfl
                                    rotate_left
                                    · simp only [Act.put, List.setIfInBounds_toArray, List.set_cons_zero, List.set_cons_succ, i64_w, i32_w]
                                      rfl
                                    refine take_ (i := 5) (N := some 63) (v := ?_) (a' := ?_) #[true, true, true, true, true, true, true, true, true, true, false, false, false] rfl rfl (take_ofW HT_.out HW_.out (by kernel_rfl)) (fun _ _ _ h => h) (Or.inl ⟨by rfl, ?_⟩) hHeld ?_ ?_
                                    rotate_left
                                    · rintro w' ⟨s0, s1⟩
                                      (try simp only [add_plain] at s0 s1)
                                      go_simp
                                      with_reducible rfl
                                    rotate_left
                                    · simp only [Act.put, List.setIfInBounds_toArray, List.set_cons_zero, List.set_cons_succ, i64_w, i32_w]
                                      rfl
                                    refine pure_ (i := 10) (N := some 68) (v := ?_) (a' := ?_) #[true, true, true, true, true, true, true, true, true, true, true, false, false] rfl rfl (any_of HT_.out (by kernel_rfl)) (fun _ _ _ h => h) (Or.inl ⟨by rfl, ?_⟩) ?_ ?_
                                    rotate_left
                                    · intro w'
                                      go_simp
                                      with_reducible rfl
                                    rotate_left
                                    · simp only [Act.put, List.setIfInBounds_toArray, List.set_cons_zero, List.set_cons_succ, i64_w, i32_w]
                                      rfl
                                    refine pure_ (i := 11) (N := some 69) (v := ?_) (a' := ?_) #[true, true, true, true, true, true, true, true, true, true, true, true, false] rfl rfl (any_of HT_.out (by kernel_rfl)) (fun _ _ _ h => h) (Or.inl ⟨by rfl, ?_⟩) ?_ ?_
                                    rotate_left
                                    · intro w'
                                      go_simp
                                      with_reducible rfl
                                    rotate_left
                                    · simp only [Act.put, List.setIfInBounds_toArray, List.set_cons_zero, List.set_cons_succ, i64_w, i32_w]
                                      rfl
                                    refine last_ (i := 12) (N := none) #[true, true, true, true, true, true, true, true, true, true, true, true, true] rfl rfl (one_of HT_.out (by kernel_rfl)) (by decide) (fun K hK => ?_)
                                    refine skip_ (w1 := ?_) (by rfl) rfl ?_ ?_
                                    rotate_left
                                    · go_simp
                                      rfl
                                    refine hK.out _ _ ?_
                                    clear hK K
                                    refine done_ (done_of HT_.out (by kernel_rfl)) ?_
                                    try go_wp2
                                    go_roundg k2
                                    case measure => have := HJ9.out; have := HK2.out; omega
                                    case rel => exact ⟨(y795), (wrap64 (x11_2 - 1)), (by first | rfl | (simp; done) | (simp [*]; done)), H', ⟨by have := HJ9.out; have := HK2.out; omega⟩, ⟨by (with_reducible repeat (first | apply Kd.R_alloc | apply Kd.R_drewN | apply Kd.R_drew)); exact HQ30.out⟩, ⟨by repeat (first | (with_reducible first | exact HB.out | apply below_alloc | apply pw_below_drewN | apply below_drew1 | refine below_set ?_ GB27.out) | exact HB.out)⟩⟩
                                  · rw [if_neg c26] at H
                                    exact absurd H (by simp)
                                · rw [if_neg c25] at H
                                  exact absurd H (by simp)
                              · rw [if_neg c24] at H
                                exact absurd H (by simp)
                            · rw [if_neg c23] at H
                              exact absurd H (by simp)
                          · rw [if_neg c21] at H
                            have c21b0 : decide (0 < x11_2) = false := decide_eq_false c21
                            clear c21
                            by_cases c31 : 0 < (x10_2.length : Int)
                            · rw [if_pos c31] at H
                              have c31b0 : decide (0 < (x10_2.length : Int)) = true := decide_eq_true c31
                              have c31b1 : decide (0 < x10_2.length) = true := decide_eq_true (by omega)
                              clear c31
                              by_cases c32 : (rd x10_2 0) = 0
                              · rw [if_pos c32] at H
                                have c32b0 : ((rd x10_2 0) == 0) = true := beq_iff_eq.mpr c32
                                have c32b1 : ((rd x10_2 0) != 0) = false := bne_eq_false_iff_eq.mpr c32
                                clear c32
                                replace H := Option.bind_eq_some_iff.mp H
                                obtain ⟨t797, A330, H⟩ := H
                                replace H : (if t797 = true then ((some (([] : List Int) : List Int)).bind fun y798 => (if 1 ≤ (x10_2.length : Int) then ((some (x10_2.drop 1 : List Int)).bind fun y801 => (if y798.length + y801.length < 17592186044416 then (some ((y798 ++ y801), 0)) else (none))) else (none))) else (some (([] : List Int), 3))) = some (r1, r2) := H
                                have A33 := Aside0.mk A330
                                clear A330
                                by_cases c34 : t797 = true
                                · subst c34
                                  have H1 : ((some (([] : List Int) : List Int)).bind fun y798 => (if 1 ≤ (x10_2.length : Int) then ((some (x10_2.drop 1 : List Int)).bind fun y801 => (if y798.length + y801.length < 17592186044416 then (some ((y798 ++ y801), 0)) else (none))) else (none))) = some (r1, r2) := by rw [if_pos rfl] at H; exact H
                                  clear H
                                  have H := H1
                                  clear H1
                                  obtain ⟨y798, hy798⟩ : ∃ y_ : List Int, y_ = (([] : List Int)) := ⟨_, rfl⟩
                                  replace H : (if 1 ≤ (x10_2.length : Int) then ((some (x10_2.drop 1 : List Int)).bind fun y801 => (if y798.length + y801.length < 17592186044416 then (some ((y798 ++ y801), 0)) else (none))) else (none)) = some (r1, r2) := by first | (rw [hy798]; with_reducible exact H) | (have H2_ := (Option.bind_some _ _).symm.trans H; rw [hy798]; with_reducible exact H2_) | (have H2_ := (Option.bind_some _ _).symm.trans H; with_reducible exact H2_) | with_reducible exact H | (rw [hy798]; exact H) | exact H
                                  have Ny798 := Aside0.mk hy798
                                  clear hy798
                                  by_cases c35 : 1 ≤ (x10_2.length : Int)
                                  · rw [if_pos c35] at H
                                    have c35b0 := eq_true c35
                                    have c35b1 : decide (1 ≤ (x10_2.length : Int)) = true := decide_eq_true c35
                                    clear c35
                                    obtain ⟨y801, hy801⟩ : ∃ y_ : List Int, y_ = (x10_2.drop 1) := ⟨_, rfl⟩
                                    replace H : (if y798.length + y801.length < 17592186044416 then (some ((y798 ++ y801), 0)) else (none)) = some (r1, r2) := by first | (rw [hy801]; with_reducible exact H) | (have H2_ := (Option.bind_some _ _).symm.trans H; rw [hy801]; with_reducible exact H2_) | (have H2_ := (Option.bind_some _ _).symm.trans H; with_reducible exact H2_) | with_reducible exact H | (rw [hy801]; exact H) | exact H
                                    have Ny801 := Aside0.mk hy801
                                    clear hy801
                                    by_cases c36 : y798.length + y801.length < 17592186044416
                                    · rw [if_pos c36] at H
                                      have LMc36 := Aside0.mk c36
                                      clear c36
                                      obtain ⟨y805, hy805⟩ : ∃ y_ : List Int, y_ = (y798 ++ y801) := ⟨_, rfl⟩
                                      replace H : (some (y805, 0)) = some (r1, r2) := by first | (rw [hy805]; with_reducible exact H) | (have H2_ := (Option.bind_some _ _).symm.trans H; rw [hy805]; with_reducible exact H2_) | (have H2_ := (Option.bind_some _ _).symm.trans H; with_reducible exact H2_) | with_reducible exact H | (rw [hy805]; exact H) | exact H
                                      have Ny805 := Aside0.mk hy805
                                      clear hy805
                                      simp only [Option.some.injEq, Prod.mk.injEq] at H
                                      obtain ⟨rfl, rfl⟩ := H
                                      obtain ⟨Ao37, co37, eo37⟩ := Kd.R_slice HO_10.out
                                      subst eo37
                                      have p796 : 0 ≤ (0 : Int) := (by omega)
                                      have q796 : 0 < (x10_2.length : Int) := of_decide_eq_true (by first | (with_reducible assumption) | assumption)
                                      obtain ⟨ad796, e796, hx796_0⟩ := Kd.at_int (Kd.R_reads' HO_10.out).2.2 0 p796 q796
                                      cases e796
                                      have qi796 : (0 < x10_2.length) = True := eq_true (by omega)
                                      (try rw [show ((0 : Int)).toNat = 0 from rfl] at hx796_0)
                                      (try rw [Addr.add_zero'] at hx796_0)
                                      replace p796 := eq_true p796
                                      replace q796 := eq_true q796
                                      go_wp2_with (first | ((with_reducible refine gate_callee (f := 59) rfl ?_); refine goesL_ (some 77) rfl rfl Try.func59 (by kernel_rfl) rfl #[.int .i64 1000000, .slice (some ad796) x10_2.length co37] rfl (by (try simp only [List.map_toArray, List.map_cons, List.map_nil]); first | done | rfl | (simp only [List.length_drop, List.length_take]; rfl)) ?_; (with_reducible refine (impl_within.calls k2 1000000 _ _ x10_2 true _ ?side1 ?side2 A33.out).mono ?_); (case side1 => repeat (first | exact (Kd.R_reads' HO_10.out).2.2 | (with_reducible refine Kd.C_alloc ?_ _) | (with_reducible refine Kd.C_drewN ?_ _) | (with_reducible refine Kd.C_drew ?_))); (case side2 => exact (Kd.R_reads' HO_10.out).2.1); rintro e w' ⟨rfl, ⟨nd, rfl⟩⟩; refine ⟨_, rfl, ?_⟩) | ((with_reducible refine gate_dst (N := 79) rfl ?_); refine Kd.R_lit (Kd.int .i64) _ 2 ?hg (N := 79) ?hd (xs := ([] : List Int)) (inner := []) (ok := fun _ => True) (okp := fun _ => True) ?hr ?hp (fun _ hk => hk) trivial (Below.refl _ _) (Nat.le_refl _) (by simp) ?_; (case hd => rfl); (case hg => rfl); (case hr => first | (go_simp; done) | (go_simp; rfl)); (case hp => exact (Reps.none _ _)); intro v799 w38 ho39 hb hg_ hnew_; clear hg_ hnew_; (first | rw [← Ny798.out] at ho39 | (simp only [Int.reduceToNat] at ho39; rw [← Ny798.out] at ho39)); have n0_ := Aside0.mk (Kd.R_elder' (by (with_reducible repeat (first | apply Kd.R_alloc | apply Kd.R_drewN | apply Kd.R_drew)); exact HO_10.out) (Kd.R_base ho39) hb); have n1_ := Aside0.mk (Kd.R_lower (Kd.R_new' ho39 (Kd.R_lt (by (with_reducible repeat (first | apply Kd.R_alloc | apply Kd.R_drewN | apply Kd.R_drew)); exact HO_10.out))) (below_size blA)); have n2_ := Aside0.mk (below_step blA hb); clear HO_10; clear HB; have HO_10 := n0_; have HO800 := n1_; have HB := n2_; clear n0_ n1_ n2_; clear hb ho39; have q40 : (1 : Int) ≤ ((x10_2.length : Int) : Int) := of_decide_eq_true (by first | (with_reducible assumption) | assumption); obtain ⟨i040, hi040, _, hsz40, _⟩ := info_parts info2; have hroom40 : x10_2.length ≤ co37 := (Kd.R_reads' HO_10.out).2.1; have hC40 : Kd.C (Kd.int .i64) _ (some ad796) x10_2.length x10_2 := (Kd.R_reads' HO_10.out).2.2; have hcut40 := cut_from (P := Try.prog) 45 2 .i64 Try.underlying45 hi040 1 hsz40 (some ad796) x10_2.length co37 1 (by omega) q40; have hr40 := Kd.C_drop (m := (1 : Int).toNat) (c := co37) hC40 (by omega) hroom40; obtain ⟨A40, hA40⟩ : ∃ A1, A1 = (if co37 = (1 : Int).toNat then (some ad796) else ((some ad796) : Option Addr).map (·.add ((1 : Int).toNat * 1))) := ⟨_, rfl⟩; obtain ⟨c40, hc40⟩ : ∃ c1, c1 = co37 - (1 : Int).toNat := ⟨_, rfl⟩; have hy40 : y801.length = x10_2.length - (1 : Int).toNat := (by rw [Ny801.out, List.length_drop] <;> omega); rw [show (x10_2).drop (1 : Int).toNat = y801 from Ny801.out.symm] at hr40; replace hr40 : Kd.C (Kd.int .i64) _ A40 y801.length y801 := (by rw [hA40]; exact hr40); rw [← hy40, ← hA40, ← hc40] at hcut40; have HR804 := Aside0.mk hr40; have HC804 := Aside0.mk (show y801.length ≤ c40 from by rw [hy40, hc40]; exact Nat.sub_le_sub_right hroom40 _); clear hr40 hC40 hroom40 hi040 hsz40 hc40; have KY40 := Aside0.mk hy40; have KA40 := Aside0.mk hA40; clear hy40 hA40; have KL40 := Aside0.mk (show 1 ≤ x10_2.length from by omega); replace q40 := eq_true q40) | ((with_reducible refine gate_builtin (b := .append) (xs := #[.tmp 79, .tmp 81]) rfl ?_); at_builtin; refine Kd.R_append_rows (Kd.int .i64) (w0 := w) w.heap.size rfl (.tmp 79) (.tmp 81) 45 2 (.int .i64 0) 8 rfl Try.underlying45 info2 rfl (by decide) (by omega) v799 y798 y801 _ _ _ (fun k_ => some k_ ≠ (.slice (some ad796) x10_2.length co37 : Value).ownBlock) (fun _ => False) rfl rfl ?aO ?aR (fun _ _ h => h) (fun _ h => h.elim) ?aF ?aB ?aS ?aL ?_; (case aR => repeat (first | exact (by repeat (first | (with_reducible exact HR804.out) | (with_reducible refine Kd.C_alloc ?_ _) | (with_reducible refine Kd.C_drewN ?_ _) | (with_reducible refine Kd.C_drew ?_) | exact HR804.out)) | (with_reducible refine Kd.C_alloc ?_ _) | (with_reducible refine Kd.C_drewN ?_ _) | (with_reducible refine Kd.C_drew ?_))); (case aB => exact blA); (case aF => exact (fun k_ hk => Kd.fresh' (Kd.R_lt (by (with_reducible repeat (first | apply Kd.R_alloc | apply Kd.R_drewN | apply Kd.R_drew)); exact HO_10.out)) k_ hk)); (case aO => exact (by (with_reducible repeat (first | apply Kd.R_alloc | apply Kd.R_drewN | apply Kd.R_drew)); exact Kd.R_mono HO800.out (fun _ hk => hk.2))); (case aS => exact (below_size blA)); (case aL => have := LMc36.out; omega); intro v806 w41 ho hb hg hat; rw [← Ny805.out] at ho; have n0_ := Aside0.mk (Kd.R_after (ok := (fun _ => True)) (by (with_reducible repeat (first | apply Kd.R_alloc | apply Kd.R_drewN | apply Kd.R_drew)); exact HO_10.out) hg hat); have n1_ := Aside0.mk (hb); have n2_ := Aside0.mk ((show Kd.C (Kd.int .i64) w41 A40 y801.length y801 from by rw [Ny801.out, KA40.out]; exact Kd.C_drop (m := 1) (c := co37) ((Kd.R_reads' (Kd.R_after (ok := (fun _ => True)) (by (with_reducible repeat (first | apply Kd.R_alloc | apply Kd.R_drewN | apply Kd.R_drew)); exact HO_10.out) hg hat)).2.2) KL40.out ((Kd.R_reads' (Kd.R_after (ok := (fun _ => True)) (by (with_reducible repeat (first | apply Kd.R_alloc | apply Kd.R_drewN | apply Kd.R_drew)); exact HO_10.out) hg hat)).2.1))); have n3_ := Aside0.mk (ho); clear HO_10; clear HB; clear HR804; clear HO800; have HO_10 := n0_; have HB := n1_; have HR804 := n2_; have HO807 := n3_; clear n0_ n1_ n2_ n3_; clear ho hb hg hat))
                                      go_ret2
                                      exact ⟨_, by first | rfl | (simp [errW_none, errW_some] <;> rfl) | (simp [*, errW_none, errW_some] <;> rfl), by (with_reducible repeat (first | apply Kd.R_alloc | apply Kd.R_drewN | apply Kd.R_drew)); exact Kd.R_mono HO807.out (fun _ hk => trivial), blA⟩
                                    · rw [if_neg c36] at H
                                      exact absurd H (by simp)
                                  · rw [if_neg c35] at H
                                    exact absurd H (by simp)
                                · replace c34 := Bool.eq_false_iff.mpr c34
                                  subst c34
                                  have H1 : (some (([] : List Int), 3)) = some (r1, r2) := by rw [if_neg (show ¬ (false = true) by decide)] at H; exact H
                                  clear H
                                  have H := H1
                                  clear H1
                                  simp only [Option.some.injEq, Prod.mk.injEq] at H
                                  obtain ⟨rfl, rfl⟩ := H
                                  obtain ⟨Ao42, co42, eo42⟩ := Kd.R_slice HO_10.out
                                  subst eo42
                                  have p796 : 0 ≤ (0 : Int) := (by omega)
                                  have q796 : 0 < (x10_2.length : Int) := of_decide_eq_true (by first | (with_reducible assumption) | assumption)
                                  obtain ⟨ad796, e796, hx796_0⟩ := Kd.at_int (Kd.R_reads' HO_10.out).2.2 0 p796 q796
                                  cases e796
                                  have qi796 : (0 < x10_2.length) = True := eq_true (by omega)
                                  (try rw [show ((0 : Int)).toNat = 0 from rfl] at hx796_0)
                                  (try rw [Addr.add_zero'] at hx796_0)
                                  replace p796 := eq_true p796
                                  replace q796 := eq_true q796
                                  go_wp2_with (first | ((with_reducible refine gate_callee (f := 59) rfl ?_); refine goesL_ (some 77) rfl rfl Try.func59 (by kernel_rfl) rfl #[.int .i64 1000000, .slice (some ad796) x10_2.length co42] rfl (by (try simp only [List.map_toArray, List.map_cons, List.map_nil]); first | done | rfl | (simp only [List.length_drop, List.length_take]; rfl)) ?_; (with_reducible refine (impl_within.calls k2 1000000 _ _ x10_2 false _ ?side1 ?side2 A33.out).mono ?_); (case side1 => repeat (first | exact (Kd.R_reads' HO_10.out).2.2 | (with_reducible refine Kd.C_alloc ?_ _) | (with_reducible refine Kd.C_drewN ?_ _) | (with_reducible refine Kd.C_drew ?_))); (case side2 => exact (Kd.R_reads' HO_10.out).2.1); rintro e w' ⟨rfl, ⟨nd, rfl⟩⟩; refine ⟨_, rfl, ?_⟩))
                                  go_ret2
                                  exact ⟨_, by first | rfl | (simp [errW_none, errW_some] <;> rfl) | (simp [*, errW_none, errW_some] <;> rfl), by first | exact Kd.R_nil _ _ _ _ _ | exact Kd.N_nil _ _ _ _ _ | exact Kd.V_nil _ _ _ _ _ | exact Kd.Q_nil _ _ _ _ _ | exact Kd.S_nil _ _ _ _ _, blA⟩
                              · rw [if_neg c32] at H
                                have c32b0 : ((rd x10_2 0) == 0) = false := beq_eq_false_iff_ne.mpr c32
                                have c32b1 : ((rd x10_2 0) != 0) = true := bne_iff_ne.mpr c32
                                simp only [Option.some.injEq, Prod.mk.injEq] at H
                                obtain ⟨rfl, rfl⟩ := H
                                obtain ⟨Ao43, co43, eo43⟩ := Kd.R_slice HO_10.out
                                subst eo43
                                have p796 : 0 ≤ (0 : Int) := (by omega)
                                have q796 : 0 < (x10_2.length : Int) := of_decide_eq_true (by first | (with_reducible assumption) | assumption)
                                obtain ⟨ad796, e796, hx796_0⟩ := Kd.at_int (Kd.R_reads' HO_10.out).2.2 0 p796 q796
                                cases e796
                                have qi796 : (0 < x10_2.length) = True := eq_true (by omega)
                                (try rw [show ((0 : Int)).toNat = 0 from rfl] at hx796_0)
                                (try rw [Addr.add_zero'] at hx796_0)
                                replace p796 := eq_true p796
                                replace q796 := eq_true q796
                                go_wp2
                                go_ret2
                                exact ⟨_, by first | rfl | (simp [errW_none, errW_some] <;> rfl) | (simp [*, errW_none, errW_some] <;> rfl), by first | exact Kd.R_nil _ _ _ _ _ | exact Kd.N_nil _ _ _ _ _ | exact Kd.V_nil _ _ _ _ _ | exact Kd.Q_nil _ _ _ _ _ | exact Kd.S_nil _ _ _ _ _, blA⟩
                            · rw [if_neg c31] at H
                              exact absurd H (by simp)
                    · rw [if_neg c17] at H
                      exact absurd H (by simp)
                  · rw [if_neg c16] at H
                    exact absurd H (by simp)
                · rw [if_neg c15] at H
                  exact absurd H (by simp)
  · replace c5 := Bool.eq_false_iff.mpr c5
    subst c5
    have H1 : (some (([] : List Int), 1)) = some (r1, r2) := by rw [if_neg (show ¬ (false = true) by decide)] at H; exact H
    clear H
    have H := H1
    clear H1
    simp only [Option.some.injEq, Prod.mk.injEq] at H
    obtain ⟨rfl, rfl⟩ := H
    go_enter Try.func31, Try.ntmps31
    go_wp2_with (first | ((with_reducible refine gate_callee (f := 85) rfl ?_); refine goesL_ (some 14) rfl rfl Try.func85 (by kernel_rfl) rfl #[.int .i64 a0] rfl (by (try simp only [List.map_toArray, List.map_cons, List.map_nil]); first | done | rfl | (simp only [List.length_drop, List.length_take]; rfl)) ?_; (with_reducible refine (impl_isPrime.calls a0 false _ A4.out).mono ?_); rintro e w' ⟨rfl, ⟨nd, rfl⟩⟩; refine ⟨_, rfl, ?_⟩))
    go_ret2
    exact ⟨_, by first | rfl | (simp [errW_none, errW_some] <;> rfl) | (simp [*, errW_none, errW_some] <;> rfl), by first | exact Kd.R_nil _ _ _ _ _ | exact Kd.N_nil _ _ _ _ _ | exact Kd.V_nil _ _ _ _ _ | exact Kd.Q_nil _ _ _ _ _ | exact Kd.S_nil _ _ _ _ _, blA⟩
end Go.Proofs.Ytfkglijnbgijbaa.PAll
