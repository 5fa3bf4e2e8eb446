-- turned out of the kit's print
import Derived.Test.YtnhiehpbkimaeaaQx
namespace Go.Proofs.Ytnhiehpbkimaeaa.PAll
open Go.RowKit Go.Proofs.YtnhiehpbkimaeaaW.PrintWords Go.Proofs.YtnhiehpbkimaeaaW.PrintLast Go.Proofs.YtnhiehpbkimaeaaW.PrintMore
attribute [local go_sem] Go.Proofs.Ytnhiehpbkimaeaa.Aux.setCell_drewN Go.Proofs.Ytnhiehpbkimaeaa.Aux.isSome_setCell max2_int min2_int max_two min_two max_three min_three max_four min_four
set_option linter.unusedVariables false
set_option linter.unusedSimpArgs false
def laws_szMatrixS.f (l0:List (S41)) (a1:Int):Option (Int):=if (wrap64 (a1 - (l0.length:Int)))<0 then (some (-1)) else (some (wrap64 (a1 - (l0.length:Int))))
set_option maxHeartbeats 8000000 in
set_option maxRecDepth 100000 in
theorem laws_szMatrixS.calls (A0:Option Addr) (c0:Nat) (l0:List (S41)) (a1 r:Int) (w:World) (hr0:Kd.C k41 w A0 l0.length l0) (hc0:l0.length≤c0) (h:laws_szMatrixS.f l0 a1=some r) :
  Calls Try.prog 4 #[.slice A0 l0.length c0,.int .i64 a1] w fun e w'=>e=.returned (.int .i64 r)∧Drawn0 w w':=by
 have HR0:=Aside0.mk hr0
 have HC0:=Aside0.mk hc0
 clear hr0 hc0
 have H:=h
 unfold laws_szMatrixS.f at H
 clear h
 by_cases c3:(wrap64 (a1 - (l0.length:Int)))<0
 ·
  rw [if_pos c3] at H
  have c3b0:=decide_eq_true c3
  clear c3
  obtain rfl:=Option.some.inj H
  go_enter Try.func4,Try.ntmps4
  go_wp2
  go_ret
  exact ⟨by first|rfl|(simp;done)|(simp [*];done),by repeat (first|exact Drawn0.refl _|apply Drawn0.step)⟩
 ·
  rw [if_neg c3] at H
  have c3b0:=decide_eq_false c3
  clear c3
  obtain rfl:=Option.some.inj H
  go_enter Try.func4,Try.ntmps4
  go_wp2
  go_ret
  exact ⟨by first|rfl|(simp;done)|(simp [*];done),by repeat (first|exact Drawn0.refl _|apply Drawn0.step)⟩
def spec_l01Prime.f (a0:Int):Option (Bool):=if a0=2 then (some true) else (if a0=3 then (some true) else (if a0=5 then (some true) else (some (a0 == 7))))
set_option maxHeartbeats 8000000 in
set_option maxRecDepth 100000 in
theorem spec_l01Prime.calls (a0:Int) (r:Bool) (w:World) (h:spec_l01Prime.f a0=some r) :
  Calls Try.prog 25 #[.int .i64 a0] w fun e w'=>e=.returned (.bool r)∧Drawn0 w w':=by
 have H:=h
 unfold spec_l01Prime.f at H
 clear h
 by_cases c2:a0=2
 ·
  rw [if_pos c2] at H
  have c2b0:(a0 == 2)=true:=beq_iff_eq.mpr c2
  have c2b1:(a0 != 2)=false:=bne_eq_false_iff_eq.mpr c2
  clear c2
  obtain rfl:=Option.some.inj H
  go_enter Try.func25,Try.ntmps25
  go_wp2
  go_ret
  exact ⟨by first|rfl|(simp;done)|(simp [*];done),by repeat (first|exact Drawn0.refl _|apply Drawn0.step)⟩
 ·
  rw [if_neg c2] at H
  have c2b0:(a0 == 2)=false:=beq_eq_false_iff_ne.mpr c2
  have c2b1:(a0 != 2)=true:=bne_iff_ne.mpr c2
  by_cases c3:a0=3
  ·
   rw [if_pos c3] at H
   have c3b0:(a0 == 3)=true:=beq_iff_eq.mpr c3
   have c3b1:(a0 != 3)=false:=bne_eq_false_iff_eq.mpr c3
   clear c3
   obtain rfl:=Option.some.inj H
   go_enter Try.func25,Try.ntmps25
   go_wp2
   go_ret
   exact ⟨by first|rfl|(simp;done)|(simp [*];done),by repeat (first|exact Drawn0.refl _|apply Drawn0.step)⟩
  ·
   rw [if_neg c3] at H
   have c3b0:(a0 == 3)=false:=beq_eq_false_iff_ne.mpr c3
   have c3b1:(a0 != 3)=true:=bne_iff_ne.mpr c3
   by_cases c4:a0=5
   ·
    rw [if_pos c4] at H
    have c4b0:(a0 == 5)=true:=beq_iff_eq.mpr c4
    have c4b1:(a0 != 5)=false:=bne_eq_false_iff_eq.mpr c4
    clear c4
    obtain rfl:=Option.some.inj H
    go_enter Try.func25,Try.ntmps25
    go_wp2
    go_ret
    exact ⟨by first|rfl|(simp;done)|(simp [*];done),by repeat (first|exact Drawn0.refl _|apply Drawn0.step)⟩
   ·
    rw [if_neg c4] at H
    have c4b0:(a0 == 5)=false:=beq_eq_false_iff_ne.mpr c4
    have c4b1:(a0 != 5)=true:=bne_iff_ne.mpr c4
    obtain rfl:=Option.some.inj H
    go_enter Try.func25,Try.ntmps25
    go_wp2
    go_ret
    exact ⟨by first|rfl|(simp;done)|(simp [*];done),by repeat (first|exact Drawn0.refl _|apply Drawn0.step)⟩
def spec_l01In.f (a0 a1 a2:Int):Option (Bool):=if a0≥a1 then (some (decide (a0≤a2))) else (some false)
set_option maxHeartbeats 8000000 in
set_option maxRecDepth 100000 in
theorem spec_l01In.calls (a0 a1 a2:Int) (r:Bool) (w:World) (h:spec_l01In.f a0 a1 a2=some r) :
  Calls Try.prog 27 #[.int .i64 a0,.int .i64 a1,.int .i64 a2] w fun e w'=>e=.returned (.bool r)∧Drawn0 w w':=by
 have H:=h
 unfold spec_l01In.f at H
 clear h
 by_cases c4:a0≥a1
 ·
  rw [if_pos c4] at H
  have c4b0:decide (a1≤a0)=true:=decide_eq_true c4
  clear c4
  obtain rfl:=Option.some.inj H
  go_enter Try.func27,Try.ntmps27
  go_wp2
  go_ret
  exact ⟨by first|rfl|(simp;done)|(simp [*];done),by repeat (first|exact Drawn0.refl _|apply Drawn0.step)⟩
 ·
  rw [if_neg c4] at H
  have c4b0:decide (a1≤a0)=false:=decide_eq_false c4
  clear c4
  obtain rfl:=Option.some.inj H
  go_enter Try.func27,Try.ntmps27
  go_wp2
  go_ret
  exact ⟨by first|rfl|(simp;done)|(simp [*];done),by repeat (first|exact Drawn0.refl _|apply Drawn0.step)⟩
def spec_l04Det.f (a0_0 a0_1 a0_2 a0_3:Int):Option (Int):=some (wrap64 ((wrap64 (a0_0*a0_3)) - (wrap64 (a0_1*a0_2))))
set_option maxHeartbeats 8000000 in
set_option maxRecDepth 100000 in
theorem spec_l04Det.calls (a0_0 a0_1 a0_2 a0_3 r:Int) (w:World) (h:spec_l04Det.f a0_0 a0_1 a0_2 a0_3=some r) :
  Calls Try.prog 43 #[.agg #[.int .i64 a0_0,.int .i64 a0_1,.int .i64 a0_2,.int .i64 a0_3]] w fun e w'=>e=.returned (.int .i64 r)∧Below w.heap.size w w':=by
 have hu42:=Try.underlying42
 have HB:=Aside0.mk (Below.refl w.heap.size w)
 have H:=h
 unfold spec_l04Det.f at H
 clear h
 obtain rfl:=Option.some.inj H
 go_enter Try.func43,Try.ntmps43
 go_wp2_with (first|((with_reducible refine gate_dst (N:=1) rfl ?_);refine bxE (cs:=#[.int .i64 a0_0,.int .i64 a0_1,.int .i64 a0_2,.int .i64 a0_3]) (t:=42) ?_;intro gb101 hg w2 hbox hb;have BK101:=Aside0.mk hbox;have GW101:=sA hg;have GE101:=sA hg;replace HB:=lB hb;clear hb hbox hg;obtain ⟨hcz3_0,hcz3_1,hcz3_2,hcz3_3,hfz3_0,hfz3_1,hfz3_2,hfz3_3⟩:=cz4 BK101))
 go_ret
 exact finA blA
def spec_l04Is.f (a0_0 a0_1 a0_2 a0_3:Int):Option (Bool):=some (decide ((-1000≤a0_0∧a0_0≤1000)∧(-1000≤a0_1∧a0_1≤1000)∧(-1000≤a0_2∧a0_2≤1000)∧(-1000≤a0_3∧a0_3≤1000)∧wrap64 (wrap64 (a0_0*a0_3) - wrap64 (a0_1*a0_2))≠0))
set_option maxHeartbeats 8000000 in
set_option maxRecDepth 100000 in
theorem spec_l04Is.calls (a0_0 a0_1 a0_2 a0_3:Int) (r:Bool) (w:World) (h:spec_l04Is.f a0_0 a0_1 a0_2 a0_3=some r) :
  Calls Try.prog 40 #[.agg #[.int .i64 a0_0,.int .i64 a0_1,.int .i64 a0_2,.int .i64 a0_3]] w fun e w'=>e=.returned (.bool r)∧Below w.heap.size w w':=by
 have hr:r=decide ((-1000≤a0_0∧a0_0≤1000)∧(-1000≤a0_1∧a0_1≤1000)∧(-1000≤a0_2∧a0_2≤1000)∧(-1000≤a0_3∧a0_3≤1000)∧wrap64 (wrap64 (a0_0*a0_3) - wrap64 (a0_1*a0_2))≠0):=(Option.some.inj h).symm
 clear h
 have HR:=Aside0.mk hr
 clear hr
 go_enter Try.func40,Try.ntmps40
 go_wp2
 repeat any_goals (first|(rw [rounds_succ];go_wp2)|(refine wp_loop_rounds 3 ?_;rw [rounds_succ];go_wp2))
 all_goals go_returns
 all_goals refine ⟨bret ?_,by go_grown⟩
 all_goals rw [HR.out]
 all_goals clear HR
 all_goals try simp only [Bool.not_eq_true',Bool.not_eq_false',decide_eq_false_iff_not,decide_eq_true_eq] at *
 all_goals first
  | (symm;refine decide_eq_false ?_;omega)
  | (rw [Bool.eq_iff_iff];simp only [decide_eq_true_eq,bne_iff_ne];exact ⟨fun z=>⟨by omega,by omega,by omega,by omega,z⟩,fun z=>z.2.2.2.2⟩)
mutual
def spec_l06Classes.l0:Nat→List Int→List (List Int)→Int→Option ((List (List Int)))
 | 0,_,_,_=>none
 | k+1,x0,x3,x4=>if x4<(x0.length:Int) then (if 0≤x4 then (if (rd x0 x4)=x4 then (spec_l06Classes.l1 k x0 x3 x4 (([]:List Int)) x4) else (spec_l06Classes.l0 k x0 x3 (wrap64 (x4+1)))) else (none)) else (some x3)
def spec_l06Classes.l1:Nat→List Int→List (List Int)→Int→List Int→Int→Option ((List (List Int)))
 | 0,_,_,_,_,_=>none
 | k+1,x0,x3,x4,x5,x6=>if x6<(x0.length:Int) then (if 0≤x6 then (if (rd x0 x6)=x4 then (if x5.length<17592186044416 then (spec_l06Classes.l1 k x0 x3 x4 (x5 ++ [x6]) (wrap64 (x6+1))) else (none)) else (spec_l06Classes.l1 k x0 x3 x4 x5 (wrap64 (x6+1)))) else (none)) else (if x3.length<5864062014805 then (spec_l06Classes.l0 k x0 (x3 ++ [x5]) (wrap64 (x4+1))) else (none))
end
def spec_l06Classes.f (k:Nat) (l0:List Int):Option ((List (List Int))):=spec_l06Classes.l0 k l0 (([]:List (List Int))) 0
theorem spec_l06Classes.mono_l:∀ k,(∀ y0 y1 y2,LeO (spec_l06Classes.l0 k y0 y1 y2) (spec_l06Classes.l0 (k+1) y0 y1 y2))∧(∀ y0 y1 y2 y3 y4,LeO (spec_l06Classes.l1 k y0 y1 y2 y3 y4) (spec_l06Classes.l1 (k+1) y0 y1 y2 y3 y4))
 | 0=>by refine ⟨?_,?_⟩ <;> (intros;intro r h;simp [spec_l06Classes.l0,spec_l06Classes.l1] at h)
 | k+1=>by
  obtain ⟨ih0,ih1⟩:=spec_l06Classes.mono_l k
  refine ⟨?_,?_⟩ <;> (intros;first|unfold spec_l06Classes.l0|unfold spec_l06Classes.l1)
  all_goals repeat' first
  | with_reducible first|exact ih0 ..|exact ih1 ..|exact LeO.refl _|exact LeO.none _|refine LeO.ite ?_ ?_|refine LeO.bind ?_ fun _=>?_
theorem spec_l06Classes.mono:∀ a0 k,LeO (spec_l06Classes.f k a0) (spec_l06Classes.f (k+1) a0):=by
 intro a0 k
 obtain ⟨ih0,ih1⟩:=spec_l06Classes.mono_l k
 unfold spec_l06Classes.f
 repeat' first
   | with_reducible first|exact ih0 ..|exact ih1 ..|exact LeO.refl _|exact LeO.none _|refine LeO.ite ?_ ?_|refine LeO.bind ?_ fun _=>?_
set_option maxHeartbeats 8000000 in
set_option maxRecDepth 100000 in
theorem spec_l06Classes.calls (k:Nat) (A0:Option Addr) (c0:Nat) (l0:List Int) (r:List (List Int)) (w:World) (hr0:Kd.C (Kd.int .i64) w A0 l0.length l0) (hc0:l0.length≤c0) (h:spec_l06Classes.f k l0=some r) :
  Calls Try.prog 14 #[.slice A0 l0.length c0] w fun e w'=>∃ v0_:Value,e=.returned (v0_)∧Kd.S (Kd.slice 2 (Kd.int .i64)) 36 w' w.heap.size (fun _=>True) v0_ r∧Below w.heap.size w w':=by
 have HR0:=Aside0.mk hr0
 have HC0:=Aside0.mk hc0
 clear hr0 hc0
 have HB:=Aside0.mk (Below.refl w.heap.size w)
 have H:=h
 unfold spec_l06Classes.f at H
 clear h
 obtain ⟨y107,hy107⟩:∃ y_:List (List Int),y_=(([]:List (List Int))):=⟨_,rfl⟩
 replace H:(spec_l06Classes.l0 k l0 y107 0)=some r:=rH hy107 H
 have Ny107:=Aside0.mk hy107
 clear hy107
 have H':=Aside0.mk H
 clear H
 go_enter Try.func14,Try.ntmps14
 go_wp2_with (first|((with_reducible refine gate_dst (N:=7) rfl ?_);refine Kd.S_lit (Kd.slice 2 (Kd.int .i64)) _ 36 ?hg (N:=7) ?hd (xs:=([]:List (List Int))) (inner:=[]) (ok:=fun _=>True) (okp:=fun _=>True) ?hr ?hp (fun _ hk=>hk) trivial (Below.refl _ _) (Nat.le_refl _) (by simp) ?_;(case hd=>rfl);(case hg=>rfl);(case hr=>first|(go_simp;done)|(go_simp;rfl));(case hp=>exact (Reps.none _ _));intro v108 w2 ho3 hb hg_ hnew_;clear hg_ hnew_;(first|rw [← Ny107.out] at ho3|(simp only [Int.reduceToNat] at ho3;rw [← Ny107.out] at ho3));have HO109:=Aside0.mk (Kd.S_lower ho3 (below_size blA));replace HB:=lB hb;clear hb ho3))
 go_loopg [3,4] k (fun kq v3 v4 w'=>∃ (x3_1:List (List Int)) (x4_1:Int),v4=.int .i64 x4_1∧Aside0 (spec_l06Classes.l0 kq l0 x3_1 x4_1=some r)∧Aside0 (kq≤k)∧Aside0 (Kd.S (Kd.slice 2 (Kd.int .i64)) 36 w' w.heap.size (fun _=>True) v3 x3_1)∧Aside0 (Below w.heap.size w w'))
 case atStart=>exact ⟨(y107),(0),hB,H',⟨Nat.le_refl _⟩,⟨by (with_reducible repeat (first|apply Kd.S_alloc|apply Kd.S_drewN|apply Kd.S_drew));exact HO109.out⟩,⟨blA⟩⟩
 case round=>
  clear H'
  obtain ⟨x3_1,x4_1,rfl,HA,HK1,HO_3,HB⟩:=hrel
  cases gk with
  | zero=>exact absurd HA.out (by simp [spec_l06Classes.l0])
  | succ k1=>
   have H:=HA.out
   clear HA
   simp only [spec_l06Classes.l0] at H
   by_cases c4:x4_1<(l0.length:Int)
   ·
    rw [if_pos c4] at H
    have c4b0:=decide_eq_true c4
    clear c4
    by_cases c5:0≤x4_1
    rotate_left
    ·
     rw [if_neg c5] at H
     exact absurd H (by simp)
    rw [if_pos c5] at H
    have c5b0:=decide_eq_true c5
    clear c5
    by_cases c6:(rd l0 x4_1)=x4_1
    ·
     rw [if_pos c6] at H
     have c6b0:((rd l0 x4_1) == x4_1)=true:=beq_iff_eq.mpr c6
     have c6b1:((rd l0 x4_1) != x4_1)=false:=bne_eq_false_iff_eq.mpr c6
     clear c6
     obtain ⟨y111,hy111⟩:∃ y_:List Int,y_=(([]:List Int)):=⟨_,rfl⟩
     replace H:(spec_l06Classes.l1 k1 l0 x3_1 x4_1 y111 x4_1)=some r:=rH hy111 H
     have Ny111:=Aside0.mk hy111
     clear hy111
     have H':=Aside0.mk H
     clear H
     have p110:0≤(x4_1:Int):=dA
     have q110:x4_1<(l0.length:Int):=dA
     obtain ⟨ad110,e110,hx110_0⟩:=Kd.at_int HR0.out x4_1 p110 q110
     cases e110
     replace hx110_0:=(HB.out.cell (World.block_lt_of_cell? w _ hx110_0)).trans hx110_0
     replace p110:=eq_true p110
     replace q110:=eq_true q110
     go_wp2_with (first|((with_reducible refine gate_dst (N:=20) rfl ?_);refine Kd.R_lit (Kd.int .i64) _ 2 ?hg (N:=20) ?hd (xs:=([]:List Int)) (inner:=[]) (ok:=fun _=>True) (okp:=fun _=>True) ?hr ?hp (fun _ hk=>hk) trivial (Below.refl _ _) (Nat.le_refl _) (by simp) ?_;(case hd=>rfl);(case hg=>rfl);(case hr=>first|(go_simp;done)|(go_simp;rfl));(case hp=>exact (Reps.none _ _));intro v112 w7 ho8 hb hg_ hnew_;clear hg_ hnew_;(first|rw [← Ny111.out] at ho8|(simp only [Int.reduceToNat] at ho8;rw [← Ny111.out] at ho8));have HO113:=Aside0.mk (Kd.R_lower ho8 (below_size blA));replace HO_3:=Aside0.mk (Kd.S_elder' (by (with_reducible repeat (first|apply Kd.S_alloc|apply Kd.S_drewN|apply Kd.S_drew));exact HO_3.out) (Kd.R_base ho8) hb);replace HB:=lB hb;clear hb ho8))
     go_loopg [5,6] k1 (fun kq v5 v6 w'=>∃ (x5_2:List Int) (x6_2:Int),v6=.int .i64 x6_2∧Aside0 (spec_l06Classes.l1 kq l0 x3_1 x4_1 x5_2 x6_2=some r)∧Aside0 (kq≤k1)∧Aside0 (Kd.S (Kd.slice 2 (Kd.int .i64)) 36 w' w.heap.size (fun k_=>some k_≠(v5:Value).ownBlock) u3 x3_1)∧Aside0 (Kd.R (Kd.int .i64) 2 w' w.heap.size (fun _=>True) v5 x5_2)∧Aside0 (Below w.heap.size w w'))
     case atStart=>exact ⟨(y111),(x4_1),hB,H',⟨Nat.le_refl _⟩,⟨by (with_reducible repeat (first|apply Kd.S_alloc|apply Kd.S_drewN|apply Kd.S_drew));exact Kd.S_mono HO_3.out (fun _ hk=>hk.2)⟩,⟨rA HO113⟩,⟨blA⟩⟩
     case round=>
      clear H'
      try clear c4
      try clear c4b0
      try clear c5
      try clear c5b0
      try clear c6
      try clear c6b0
      try clear c6b1
      try clear hx110_0
      try clear p110
      try clear q110
      obtain ⟨x5_2,x6_2,rfl,HA,HK2,HO_3,HO_5,HB⟩:=hrel
      cases gk with
      | zero=>exact absurd HA.out (by simp [spec_l06Classes.l1])
      | succ k2=>
       have H:=HA.out
       clear HA
       simp only [spec_l06Classes.l1] at H
       by_cases c9:x6_2<(l0.length:Int)
       ·
        rw [if_pos c9] at H
        have c9b0:=decide_eq_true c9
        clear c9
        by_cases c10:0≤x6_2
        rotate_left
        ·
         rw [if_neg c10] at H
         exact absurd H (by simp)
        rw [if_pos c10] at H
        have c10b0:=decide_eq_true c10
        clear c10
        by_cases c11:(rd l0 x6_2)=x4_1
        ·
         rw [if_pos c11] at H
         have c11b0:((rd l0 x6_2) == x4_1)=true:=beq_iff_eq.mpr c11
         have c11b1:((rd l0 x6_2) != x4_1)=false:=bne_eq_false_iff_eq.mpr c11
         clear c11
         by_cases c12:x5_2.length<17592186044416
         rotate_left
         ·
          rw [if_neg c12] at H
          exact absurd H (by simp)
         rw [if_pos c12] at H
         have LMc12:=Aside0.mk c12
         clear c12
         obtain ⟨y115,hy115⟩:∃ y_:List Int,y_=(x5_2 ++ [x6_2]):=⟨_,rfl⟩
         replace H:(spec_l06Classes.l1 k2 l0 x3_1 x4_1 y115 (wrap64 (x6_2+1)))=some r:=rH hy115 H
         have Ny115:=Aside0.mk hy115
         clear hy115
         have H':=Aside0.mk H
         clear H
         have p114:0≤(x6_2:Int):=dA
         have q114:x6_2<(l0.length:Int):=dA
         obtain ⟨ad114,e114,hx114_0⟩:=Kd.at_int HR0.out x6_2 p114 q114
         obtain rfl:ad110=ad114:=(by injection e114)
         replace hx114_0:=(HB.out.cell (World.block_lt_of_cell? w _ hx114_0)).trans hx114_0
         replace p114:=eq_true p114
         replace q114:=eq_true q114
         go_wp2_with (first|((with_reducible refine gate_builtin (b:=.append) (xs:=#[.tmp 34,.tmp 36]) rfl ?_);at_builtin;refine Kd.R_append (Kd.int .i64) (w0:=w) w.heap.size rfl (.tmp 34) (.tmp 36) 36 2 (.int .i64 0) 8 rfl Try.underlying36 info2 rfl (by decide) (by omega) u5 x5_2 x6_2 [.int .i64 x6_2] (fun _=>True) (fun _=>False) rfl rfl ?aP (fun _ hk=>hk.elim) ?aF ?aO ?aB ?aS ?aL ?_;(case aP=>exact rfl);(case aB=>exact blA);(case aF=>exact (fun _ _=>trivial));(case aO=>exact (rA HO_5));(case aS=>exact (below_size blA));(case aL=>have:=LMc12.out;omega);intro v116 w13 ho hb hg hat;rw [← Ny115.out] at ho;have HO117:=Aside0.mk ho;replace HO_3:=Aside0.mk (Kd.S_after (ok:=(fun _=>True)) (by (with_reducible repeat (first|apply Kd.S_alloc|apply Kd.S_drewN|apply Kd.S_drew));exact Kd.S_mono HO_3.out (fun _ hk=>⟨trivial,hk⟩)) hg hat);replace HB:=Aside0.mk hb;clear HO_5;clear ho hb hg hat))
         go_roundg k2
         case measure=>have:=HK1.out;have:=HK2.out;omega
         case rel=>exact ⟨(y115),(wrap64 (x6_2+1)),hB,H',⟨by have:=HK1.out;have:=HK2.out;omega⟩,⟨by (with_reducible repeat (first|apply Kd.S_alloc|apply Kd.S_drewN|apply Kd.S_drew));exact Kd.S_mono HO_3.out (fun _ hk=>hk.2)⟩,⟨rA HO117⟩,⟨blA⟩⟩
        ·
         rw [if_neg c11] at H
         have c11b0:((rd l0 x6_2) == x4_1)=false:=beq_eq_false_iff_ne.mpr c11
         have c11b1:((rd l0 x6_2) != x4_1)=true:=bne_iff_ne.mpr c11
         have H':=Aside0.mk H
         clear H
         have p114:0≤(x6_2:Int):=dA
         have q114:x6_2<(l0.length:Int):=dA
         obtain ⟨ad114,e114,hx114_0⟩:=Kd.at_int HR0.out x6_2 p114 q114
         obtain rfl:ad110=ad114:=(by injection e114)
         replace hx114_0:=(HB.out.cell (World.block_lt_of_cell? w _ hx114_0)).trans hx114_0
         replace p114:=eq_true p114
         replace q114:=eq_true q114
         go_wp2
         go_roundg k2
         case measure=>have:=HK1.out;have:=HK2.out;omega
         case rel=>exact ⟨(x5_2),(wrap64 (x6_2+1)),hB,H',⟨by have:=HK1.out;have:=HK2.out;omega⟩,⟨by (with_reducible repeat (first|apply Kd.S_alloc|apply Kd.S_drewN|apply Kd.S_drew));exact HO_3.out⟩,⟨rA HO_5⟩,⟨blA⟩⟩
       ·
        rw [if_neg c9] at H
        have c9b0:=decide_eq_false c9
        clear c9
        by_cases c14:x3_1.length<5864062014805
        rotate_left
        ·
         rw [if_neg c14] at H
         exact absurd H (by simp)
        rw [if_pos c14] at H
        have LMc14:=Aside0.mk c14
        clear c14
        obtain ⟨y118,hy118⟩:∃ y_:List (List Int),y_=(x3_1 ++ [x5_2]):=⟨_,rfl⟩
        replace H:(spec_l06Classes.l0 k2 l0 y118 (wrap64 (x4_1+1)))=some r:=rH hy118 H
        have Ny118:=Aside0.mk hy118
        clear hy118
        have H':=Aside0.mk H
        clear H
        obtain ⟨Ao16,co16,eo16⟩:=Kd.R_slice HO_5.out
        subst eo16
        go_wp2_with (first|((with_reducible refine gate_builtin (b:=.append) (xs:=#[.tmp 38,.tmp 40]) rfl ?_);at_builtin;refine Kd.S_append (Kd.slice 2 (Kd.int .i64)) (w0:=w) w.heap.size rfl (.tmp 38) (.tmp 40) 24 36 (.slice none 0 0) 24 rfl Try.underlying24 info36 rfl (by decide) (by omega) u3 x3_1 x5_2 [.slice Ao16 x5_2.length co16] (fun _=>True) (fun k_=>some k_=(.slice Ao16 x5_2.length co16:Value).ownBlock) rfl rfl ?aP (fun k_ hk_=>((Kd.R_mono (ok':=fun k_=>((fun _=>True)) k_∧some k_≠(u3:Value).ownBlock) (Kd.R_apart' (HO_5.out) (Kd.S_typed HO_3.out) (by decide)) (fun k_ hk=>⟨trivial,hk.2⟩))).1 k_ hk_.symm) ?aF ?aO ?aB ?aS ?aL ?_;(case aP=>exact Kd.M_row (Kd.R_mono (Kd.R_tight rfl (Kd.R_mono (ok':=fun k_=>((fun _=>True)) k_∧some k_≠(u3:Value).ownBlock) (Kd.R_apart' (HO_5.out) (Kd.S_typed HO_3.out) (by decide)) (fun k_ hk=>⟨trivial,hk.2⟩))) (fun _ h_=>h_)));(case aB=>exact blA);(case aF=>exact (fun _ _=>trivial));(case aO=>exact (by (with_reducible repeat (first|apply Kd.S_alloc|apply Kd.S_drewN|apply Kd.S_drew));exact Kd.S_mono HO_3.out (fun k_ hk=>⟨trivial,fun e_=>hk e_⟩)));(case aS=>exact (below_size blA));(case aL=>have:=LMc14.out;omega);intro v119 w15 ho hb hg hat;rw [← Ny118.out] at ho;have HO120:=Aside0.mk ho;replace HB:=Aside0.mk hb;clear HO_3 HO_5;clear ho hb hg hat))
        go_roundg k2
        case measure=>have:=HK1.out;have:=HK2.out;omega
        case rel=>exact ⟨(y118),(wrap64 (x4_1+1)),hB,H',⟨by have:=HK1.out;have:=HK2.out;omega⟩,⟨by (with_reducible repeat (first|apply Kd.S_alloc|apply Kd.S_drewN|apply Kd.S_drew));exact HO120.out⟩,⟨blA⟩⟩
    ·
     rw [if_neg c6] at H
     have c6b0:((rd l0 x4_1) == x4_1)=false:=beq_eq_false_iff_ne.mpr c6
     have c6b1:((rd l0 x4_1) != x4_1)=true:=bne_iff_ne.mpr c6
     have H':=Aside0.mk H
     clear H
     have p110:0≤(x4_1:Int):=dA
     have q110:x4_1<(l0.length:Int):=dA
     obtain ⟨ad110,e110,hx110_0⟩:=Kd.at_int HR0.out x4_1 p110 q110
     cases e110
     replace hx110_0:=(HB.out.cell (World.block_lt_of_cell? w _ hx110_0)).trans hx110_0
     replace p110:=eq_true p110
     replace q110:=eq_true q110
     go_wp2
     go_roundg k1
     case measure=>have:=HK1.out;omega
     case rel=>exact ⟨(x3_1),(wrap64 (x4_1+1)),hB,H',⟨by have:=HK1.out;omega⟩,⟨by (with_reducible repeat (first|apply Kd.S_alloc|apply Kd.S_drewN|apply Kd.S_drew));exact HO_3.out⟩,⟨blA⟩⟩
   ·
    rw [if_neg c4] at H
    have c4b0:=decide_eq_false c4
    clear c4
    obtain rfl:=Option.some.inj H
    go_wp2
    go_ret
    exact ⟨_,eW,by (with_reducible repeat (first|apply Kd.S_alloc|apply Kd.S_drewN|apply Kd.S_drew));exact HO_3.out,blA⟩
def spec_l01Power.l0:Nat→Int→Int→Int→Option (Int)
 | 0,_,_,_=>none
 | k+1,x0,x1,x5=>if x1>0 then (spec_l01Power.l0 k x0 (wrap64 (x1 - 1)) (wrap64 (x5*x0))) else (some x5)
def spec_l01Power.f (k:Nat) (a0 a1:Int):Option (Int):=spec_l01Power.l0 k a0 a1 1
theorem spec_l01Power.mono_l:∀ k,(∀ y0 y1 y2,LeO (spec_l01Power.l0 k y0 y1 y2) (spec_l01Power.l0 (k+1) y0 y1 y2))
 | 0=>fun _ _ _ r h=>by simp [spec_l01Power.l0] at h
 | k+1=>by
  have ih0:=spec_l01Power.mono_l k
  ·
   intro y0 y1 y2
   unfold spec_l01Power.l0
   repeat' first
   | with_reducible first|exact ih0 ..|exact LeO.refl _|exact LeO.none _|refine LeO.ite ?_ ?_|refine LeO.bind ?_ fun _=>?_
theorem spec_l01Power.mono:∀ a0 a1 k,LeO (spec_l01Power.f k a0 a1) (spec_l01Power.f (k+1) a0 a1):=by
 intro a0 a1 k
 have ih0:=spec_l01Power.mono_l k
 unfold spec_l01Power.f
 repeat' first
   | with_reducible first|exact ih0 ..|exact LeO.refl _|exact LeO.none _|refine LeO.ite ?_ ?_|refine LeO.bind ?_ fun _=>?_
set_option maxHeartbeats 8000000 in
set_option maxRecDepth 100000 in
theorem spec_l01Power.calls (k:Nat) (a0 a1 r:Int) (w:World) (h:spec_l01Power.f k a0 a1=some r) :
  Calls Try.prog 41 #[.int .i64 a0,.int .i64 a1] w fun e w'=>e=.returned (.int .i64 r)∧Drawn0 w w':=by
 have H:=h
 unfold spec_l01Power.f at H
 clear h
 have H':=Aside0.mk H
 clear H
 go_enter Try.func41,Try.ntmps41
 go_wp2
 go_loopg [1,5] k (fun kq v1 v5 w'=>∃ (x1_1:Int) (x5_1:Int),v1=.int .i64 x1_1∧v5=.int .i64 x5_1∧Aside0 (spec_l01Power.l0 kq a0 x1_1 x5_1=some r)∧Aside0 (kq≤k)∧Drawn0 w w')
 case atStart=>exact ⟨(a1),(1),hB,hB,H',⟨Nat.le_refl _⟩,by repeat (first|exact Drawn0.refl _|apply Drawn0.step)⟩
 case round=>
  clear H'
  obtain ⟨x1_1,x5_1,rfl,rfl,HA,HK1,⟨m1,rfl⟩⟩:=hrel
  cases gk with
  | zero=>exact absurd HA.out (by simp [spec_l01Power.l0])
  | succ k1=>
   have H:=HA.out
   clear HA
   simp only [spec_l01Power.l0] at H
   by_cases c3:x1_1>0
   ·
    rw [if_pos c3] at H
    have c3b0:decide (0<x1_1)=true:=decide_eq_true c3
    clear c3
    have H':=Aside0.mk H
    clear H
    go_wp2
    go_roundg k1
    case measure=>have:=HK1.out;omega
    case rel=>exact ⟨(wrap64 (x1_1 - 1)),(wrap64 (x5_1*a0)),hB,hB,H',⟨by have:=HK1.out;omega⟩,by repeat (first|exact Drawn0.refl _|apply Drawn0.step)⟩
   ·
    rw [if_neg c3] at H
    have c3b0:decide (0<x1_1)=false:=decide_eq_false c3
    clear c3
    obtain rfl:=Option.some.inj H
    go_wp2
    go_ret
    exact ⟨by first|rfl|(simp;done)|(simp [*];done),by repeat (first|exact Drawn0.refl _|apply Drawn0.step)⟩
def spec_l01Val.l0:Nat→Int→Int→Int→Option (Int)
 | 0,_,_,_=>none
 | k+1,x0,x1,x5=>if x0=0 then (none) else (if (Int.tmod x1 x0)=0 then (spec_l01Val.l0 k x0 (wrap64 (Int.tdiv x1 x0)) (wrap64 (x5+1))) else (some x5))
def spec_l01Val.f (k:Nat) (a0 a1:Int):Option (Int):=spec_l01Val.l0 k a0 a1 0
theorem spec_l01Val.mono_l:∀ k,(∀ y0 y1 y2,LeO (spec_l01Val.l0 k y0 y1 y2) (spec_l01Val.l0 (k+1) y0 y1 y2))
 | 0=>fun _ _ _ r h=>by simp [spec_l01Val.l0] at h
 | k+1=>by
  have ih0:=spec_l01Val.mono_l k
  ·
   intro y0 y1 y2
   unfold spec_l01Val.l0
   repeat' first
   | with_reducible first|exact ih0 ..|exact LeO.refl _|exact LeO.none _|refine LeO.ite ?_ ?_|refine LeO.bind ?_ fun _=>?_
theorem spec_l01Val.mono:∀ a0 a1 k,LeO (spec_l01Val.f k a0 a1) (spec_l01Val.f (k+1) a0 a1):=by
 intro a0 a1 k
 have ih0:=spec_l01Val.mono_l k
 unfold spec_l01Val.f
 repeat' first
   | with_reducible first|exact ih0 ..|exact LeO.refl _|exact LeO.none _|refine LeO.ite ?_ ?_|refine LeO.bind ?_ fun _=>?_
set_option maxHeartbeats 8000000 in
set_option maxRecDepth 100000 in
theorem spec_l01Val.calls (k:Nat) (a0 a1 r:Int) (w:World) (h:spec_l01Val.f k a0 a1=some r) :
  Calls Try.prog 42 #[.int .i64 a0,.int .i64 a1] w fun e w'=>e=.returned (.int .i64 r)∧Drawn0 w w':=by
 have H:=h
 unfold spec_l01Val.f at H
 clear h
 have H':=Aside0.mk H
 clear H
 go_enter Try.func42,Try.ntmps42
 go_wp2
 go_loopg [1,5] k (fun kq v1 v5 w'=>∃ (x1_1:Int) (x5_1:Int),v1=.int .i64 x1_1∧v5=.int .i64 x5_1∧Aside0 (spec_l01Val.l0 kq a0 x1_1 x5_1=some r)∧Aside0 (kq≤k)∧Drawn0 w w')
 case atStart=>exact ⟨(a1),(0),hB,hB,H',⟨Nat.le_refl _⟩,by repeat (first|exact Drawn0.refl _|apply Drawn0.step)⟩
 case round=>
  clear H'
  obtain ⟨x1_1,x5_1,rfl,rfl,HA,HK1,⟨m1,rfl⟩⟩:=hrel
  cases gk with
  | zero=>exact absurd HA.out (by simp [spec_l01Val.l0])
  | succ k1=>
   have H:=HA.out
   clear HA
   simp only [spec_l01Val.l0] at H
   by_cases c3:a0=0
   ·
    rw [if_pos c3] at H
    exact absurd H (by simp)
   rw [if_neg c3] at H
   have c3b0:(a0 == 0)=false:=beq_eq_false_iff_ne.mpr c3
   have c3b1:(a0 != 0)=true:=bne_iff_ne.mpr c3
   by_cases c4:(Int.tmod x1_1 a0)=0
   ·
    rw [if_pos c4] at H
    have c4b0:((Int.tmod x1_1 a0) == 0)=true:=beq_iff_eq.mpr c4
    have c4b1:((Int.tmod x1_1 a0) != 0)=false:=bne_eq_false_iff_eq.mpr c4
    clear c4
    have H':=Aside0.mk H
    clear H
    go_wp2
    go_roundg k1
    case measure=>have:=HK1.out;omega
    case rel=>exact ⟨(wrap64 (Int.tdiv x1_1 a0)),(wrap64 (x5_1+1)),hB,hB,H',⟨by have:=HK1.out;omega⟩,by repeat (first|exact Drawn0.refl _|apply Drawn0.step)⟩
   ·
    rw [if_neg c4] at H
    have c4b0:((Int.tmod x1_1 a0) == 0)=false:=beq_eq_false_iff_ne.mpr c4
    have c4b1:((Int.tmod x1_1 a0) != 0)=true:=bne_iff_ne.mpr c4
    obtain rfl:=Option.some.inj H
    go_wp2
    go_ret
    exact ⟨by first|rfl|(simp;done)|(simp [*];done),by repeat (first|exact Drawn0.refl _|apply Drawn0.step)⟩
def spec_l01MulMod.f (a0 a1 a2:Int):Option (Int):=if a2=0 then (none) else (some (Int.tmod (wrap64 ((Int.tmod (wrap64 ((Int.tmod (wrap64 ((Int.tmod (wrap64 ((Int.tmod a0 a2)+a2)) a2)*(wrap64 (Int.tdiv (Int.tmod (wrap64 ((Int.tmod a1 a2)+a2)) a2) 1000000)))) a2)*1000000)) a2)+(Int.tmod (wrap64 ((Int.tmod (wrap64 ((Int.tmod a0 a2)+a2)) a2)*(Int.tmod (Int.tmod (wrap64 ((Int.tmod a1 a2)+a2)) a2) 1000000))) a2))) a2))
set_option maxHeartbeats 8000000 in
set_option maxRecDepth 100000 in
theorem spec_l01MulMod.calls (a0 a1 a2 r:Int) (w:World) (h:spec_l01MulMod.f a0 a1 a2=some r) :
  Calls Try.prog 57 #[.int .i64 a0,.int .i64 a1,.int .i64 a2] w fun e w'=>e=.returned (.int .i64 r)∧Drawn0 w w':=by
 have H:=h
 unfold spec_l01MulMod.f at H
 clear h
 by_cases c4:a2=0
 ·
  rw [if_pos c4] at H
  exact absurd H (by simp)
 rw [if_neg c4] at H
 have c4b0:(a2 == 0)=false:=beq_eq_false_iff_ne.mpr c4
 have c4b1:(a2 != 0)=true:=bne_iff_ne.mpr c4
 obtain rfl:=Option.some.inj H
 go_enter Try.func57,Try.ntmps57
 go_wp2
 repeat (go_quiet (fail);try go_wp2)
 go_ret
 exact ⟨by first|rfl|(simp;done)|(simp [*];done),by repeat (first|exact Drawn0.refl _|apply Drawn0.step)⟩
def spec_l01InvMod.l0:Nat→Int→Int→Int→Int→Int→Option (Int)
 | 0,_,_,_,_,_=>none
 | k+1,x1,x5,x6,x7,x8=>if x6=0 then (if x1=0 then (none) else (some (Int.tmod (wrap64 ((Int.tmod x7 x1)+x1)) x1))) else (spec_l01InvMod.l0 k x1 x6 (wrap64 (x5 - (wrap64 ((wrap64 (Int.tdiv x5 x6))*x6)))) x8 (wrap64 (x7 - (wrap64 ((wrap64 (Int.tdiv x5 x6))*x8)))))
def spec_l01InvMod.f (k:Nat) (a0 a1:Int):Option (Int):=if a1=0 then (none) else (spec_l01InvMod.l0 k a1 (Int.tmod (wrap64 ((Int.tmod a0 a1)+a1)) a1) a1 1 0)
theorem spec_l01InvMod.mono_l:∀ k,(∀ y0 y1 y2 y3 y4,LeO (spec_l01InvMod.l0 k y0 y1 y2 y3 y4) (spec_l01InvMod.l0 (k+1) y0 y1 y2 y3 y4))
 | 0=>fun _ _ _ _ _ r h=>by simp [spec_l01InvMod.l0] at h
 | k+1=>by
  have ih0:=spec_l01InvMod.mono_l k
  ·
   intro y0 y1 y2 y3 y4
   unfold spec_l01InvMod.l0
   repeat' first
   | with_reducible first|exact ih0 ..|exact LeO.refl _|exact LeO.none _|refine LeO.ite ?_ ?_|refine LeO.bind ?_ fun _=>?_
theorem spec_l01InvMod.mono:∀ a0 a1 k,LeO (spec_l01InvMod.f k a0 a1) (spec_l01InvMod.f (k+1) a0 a1):=by
 intro a0 a1 k
 have ih0:=spec_l01InvMod.mono_l k
 unfold spec_l01InvMod.f
 repeat' first
   | with_reducible first|exact ih0 ..|exact LeO.refl _|exact LeO.none _|refine LeO.ite ?_ ?_|refine LeO.bind ?_ fun _=>?_
set_option maxHeartbeats 8000000 in
set_option maxRecDepth 100000 in
theorem spec_l01InvMod.calls (k:Nat) (a0 a1 r:Int) (w:World) (h:spec_l01InvMod.f k a0 a1=some r) :
  Calls Try.prog 58 #[.int .i64 a0,.int .i64 a1] w fun e w'=>e=.returned (.int .i64 r)∧Drawn0 w w':=by
 have H:=h
 unfold spec_l01InvMod.f at H
 clear h
 by_cases c3:a1=0
 ·
  rw [if_pos c3] at H
  exact absurd H (by simp)
 rw [if_neg c3] at H
 have c3b0:(a1 == 0)=false:=beq_eq_false_iff_ne.mpr c3
 have c3b1:(a1 != 0)=true:=bne_iff_ne.mpr c3
 have H':=Aside0.mk H
 clear H
 go_enter Try.func58,Try.ntmps58
 go_wp2
 go_loopg [5,6,7,8] k (fun kq v5 v6 v7 v8 w'=>∃ (x5_1:Int) (x6_1:Int) (x7_1:Int) (x8_1:Int),v5=.int .i64 x5_1∧v6=.int .i64 x6_1∧v7=.int .i64 x7_1∧v8=.int .i64 x8_1∧Aside0 (spec_l01InvMod.l0 kq a1 x5_1 x6_1 x7_1 x8_1=some r)∧Aside0 (kq≤k)∧Drawn0 w w')
 case atStart=>exact ⟨(Int.tmod (wrap64 ((Int.tmod a0 a1)+a1)) a1),(a1),(1),(0),hB,hB,hB,hB,H',⟨Nat.le_refl _⟩,by repeat (first|exact Drawn0.refl _|apply Drawn0.step)⟩
 case round=>
  clear H'
  try clear c3
  try clear c3b0
  try clear c3b1
  obtain ⟨x5_1,x6_1,x7_1,x8_1,rfl,rfl,rfl,rfl,HA,HK1,⟨m1,rfl⟩⟩:=hrel
  cases gk with
  | zero=>exact absurd HA.out (by simp [spec_l01InvMod.l0])
  | succ k1=>
   have H:=HA.out
   clear HA
   simp only [spec_l01InvMod.l0] at H
   by_cases c4:x6_1=0
   ·
    rw [if_pos c4] at H
    have c4b0:(x6_1 == 0)=true:=beq_iff_eq.mpr c4
    have c4b1:(x6_1 != 0)=false:=bne_eq_false_iff_eq.mpr c4
    clear c4
    by_cases c5:a1=0
    ·
     rw [if_pos c5] at H
     exact absurd H (by simp)
    rw [if_neg c5] at H
    have c5b0:(a1 == 0)=false:=beq_eq_false_iff_ne.mpr c5
    have c5b1:(a1 != 0)=true:=bne_iff_ne.mpr c5
    obtain rfl:=Option.some.inj H
    go_wp2
    go_ret
    exact ⟨by first|rfl|(simp;done)|(simp [*];done),by repeat (first|exact Drawn0.refl _|apply Drawn0.step)⟩
   ·
    rw [if_neg c4] at H
    have c4b0:(x6_1 == 0)=false:=beq_eq_false_iff_ne.mpr c4
    have c4b1:(x6_1 != 0)=true:=bne_iff_ne.mpr c4
    have H':=Aside0.mk H
    clear H
    go_wp2
    go_roundg k1
    case measure=>have:=HK1.out;omega
    case rel=>exact ⟨(x6_1),(wrap64 (x5_1 - (wrap64 ((wrap64 (Int.tdiv x5_1 x6_1))*x6_1)))),(x8_1),(wrap64 (x7_1 - (wrap64 ((wrap64 (Int.tdiv x5_1 x6_1))*x8_1)))),hB,hB,hB,hB,H',⟨by have:=HK1.out;omega⟩,by repeat (first|exact Drawn0.refl _|apply Drawn0.step)⟩
def laws_toMatrix.f (a0_0 a0_1 a0_2 a0_3:Int):Option (Int × Int × Int × Int):=some (a0_0,a0_1,a0_2,a0_3)
set_option maxHeartbeats 8000000 in
set_option maxRecDepth 100000 in
theorem laws_toMatrix.calls (a0_0 a0_1 a0_2 a0_3 r1 r2 r3 r4:Int) (w:World) (h:laws_toMatrix.f a0_0 a0_1 a0_2 a0_3=some (r1,r2,r3,r4)) :
  Calls Try.prog 17 #[.agg #[.int .i64 a0_0,.int .i64 a0_1,.int .i64 a0_2,.int .i64 a0_3]] w fun e w'=>e=.returned (.agg #[.int .i64 r1,.int .i64 r2,.int .i64 r3,.int .i64 r4])∧Below w.heap.size w w':=by
 obtain ⟨rfl,rfl,rfl,rfl⟩:a0_0=r1∧a0_1=r2∧a0_2=r3∧a0_3=r4:=by simpa [laws_toMatrix.f] using h
 clear h
 go_enter Try.func17,Try.ntmps17
 go_wp2
 refine wp_loop_rounds 3 ?_
 rw [rounds_succ];go_wp2
 go_rounds 3
 go_rounds 3
 refine bodyPost_ret (v:=.agg #[.int .i64 a0_0,.int .i64 a0_1,.int .i64 a0_2,.int .i64 a0_3]) (by simp [results,Try.results17,go_sem]) rfl ⟨rfl,?_⟩
 go_grown
def impl_isPrime.f (a0:Int):Option (Bool):=if a0=2 then (some true) else (if a0=3 then (some true) else (if a0=5 then (some true) else (some (a0 == 7))))
set_option maxHeartbeats 8000000 in
set_option maxRecDepth 100000 in
theorem impl_isPrime.calls (a0:Int) (r:Bool) (w:World) (h:impl_isPrime.f a0=some r) :
  Calls Try.prog 32 #[.int .i64 a0] w fun e w'=>e=.returned (.bool r)∧Drawn0 w w':=by
 have H:=h
 unfold impl_isPrime.f at H
 clear h
 by_cases c2:a0=2
 ·
  rw [if_pos c2] at H
  have c2b0:(a0 == 2)=true:=beq_iff_eq.mpr c2
  have c2b1:(a0 != 2)=false:=bne_eq_false_iff_eq.mpr c2
  clear c2
  obtain rfl:=Option.some.inj H
  go_enter Try.func32,Try.ntmps32
  go_wp2
  go_ret
  exact ⟨by first|rfl|(simp;done)|(simp [*];done),by repeat (first|exact Drawn0.refl _|apply Drawn0.step)⟩
 ·
  rw [if_neg c2] at H
  have c2b0:(a0 == 2)=false:=beq_eq_false_iff_ne.mpr c2
  have c2b1:(a0 != 2)=true:=bne_iff_ne.mpr c2
  by_cases c3:a0=3
  ·
   rw [if_pos c3] at H
   have c3b0:(a0 == 3)=true:=beq_iff_eq.mpr c3
   have c3b1:(a0 != 3)=false:=bne_eq_false_iff_eq.mpr c3
   clear c3
   obtain rfl:=Option.some.inj H
   go_enter Try.func32,Try.ntmps32
   go_wp2
   go_ret
   exact ⟨by first|rfl|(simp;done)|(simp [*];done),by repeat (first|exact Drawn0.refl _|apply Drawn0.step)⟩
  ·
   rw [if_neg c3] at H
   have c3b0:(a0 == 3)=false:=beq_eq_false_iff_ne.mpr c3
   have c3b1:(a0 != 3)=true:=bne_iff_ne.mpr c3
   by_cases c4:a0=5
   ·
    rw [if_pos c4] at H
    have c4b0:(a0 == 5)=true:=beq_iff_eq.mpr c4
    have c4b1:(a0 != 5)=false:=bne_eq_false_iff_eq.mpr c4
    clear c4
    obtain rfl:=Option.some.inj H
    go_enter Try.func32,Try.ntmps32
    go_wp2
    go_ret
    exact ⟨by first|rfl|(simp;done)|(simp [*];done),by repeat (first|exact Drawn0.refl _|apply Drawn0.step)⟩
   ·
    rw [if_neg c4] at H
    have c4b0:(a0 == 5)=false:=beq_eq_false_iff_ne.mpr c4
    have c4b1:(a0 != 5)=true:=bne_iff_ne.mpr c4
    obtain rfl:=Option.some.inj H
    go_enter Try.func32,Try.ntmps32
    go_wp2
    go_ret
    exact ⟨by first|rfl|(simp;done)|(simp [*];done),by repeat (first|exact Drawn0.refl _|apply Drawn0.step)⟩
def impl_determinant.f (a0_0 a0_1 a0_2 a0_3:Int):Option (Int):=some (wrap64 ((wrap64 (a0_0*a0_3)) - (wrap64 (a0_1*a0_2))))
set_option maxHeartbeats 8000000 in
set_option maxRecDepth 100000 in
theorem impl_determinant.calls (a0_0 a0_1 a0_2 a0_3 r:Int) (w:World) (h:impl_determinant.f a0_0 a0_1 a0_2 a0_3=some r) :
  Calls Try.prog 52 #[.agg #[.int .i64 a0_0,.int .i64 a0_1,.int .i64 a0_2,.int .i64 a0_3]] w fun e w'=>e=.returned (.int .i64 r)∧Below w.heap.size w w':=by
 have hu42:=Try.underlying42
 have HB:=Aside0.mk (Below.refl w.heap.size w)
 have H:=h
 unfold impl_determinant.f at H
 clear h
 obtain rfl:=Option.some.inj H
 go_enter Try.func52,Try.ntmps52
 go_wp2_with (first|((with_reducible refine gate_dst (N:=1) rfl ?_);refine bxE (cs:=#[.int .i64 a0_0,.int .i64 a0_1,.int .i64 a0_2,.int .i64 a0_3]) (t:=42) ?_;intro gb299 hg w2 hbox hb;have BK299:=Aside0.mk hbox;have GW299:=sA hg;have GE299:=sA hg;replace HB:=lB hb;clear hb hbox hg;obtain ⟨hcz3_0,hcz3_1,hcz3_2,hcz3_3,hfz3_0,hfz3_1,hfz3_2,hfz3_3⟩:=cz4 BK299))
 go_ret
 exact finA blA
def impl_within.l0:Nat→Int→List Int→Int→Int→Option (Bool)
 | 0,_,_,_,_=>none
 | k+1,x0,x7,x8,x9=>if x9<x8 then (if 0≤x9 then (if x9<(x7.length:Int) then (if (rd x7 x9)<(wrap64 (-x0)) then (some false) else (if (rd x7 x9)>x0 then (some false) else (impl_within.l0 k x0 x7 x8 (wrap64 (x9+1))))) else (none)) else (none)) else (some true)
def impl_within.f (k:Nat) (a0:Int) (l1:List Int):Option (Bool):=impl_within.l0 k a0 l1 (l1.length:Int) 0
theorem impl_within.mono_l:∀ k,(∀ y0 y1 y2 y3,LeO (impl_within.l0 k y0 y1 y2 y3) (impl_within.l0 (k+1) y0 y1 y2 y3))
 | 0=>fun _ _ _ _ r h=>by simp [impl_within.l0] at h
 | k+1=>by
  have ih0:=impl_within.mono_l k
  ·
   intro y0 y1 y2 y3
   unfold impl_within.l0
   repeat' first
   | with_reducible first|exact ih0 ..|exact LeO.refl _|exact LeO.none _|refine LeO.ite ?_ ?_|refine LeO.bind ?_ fun _=>?_
theorem impl_within.mono:∀ a0 a1 k,LeO (impl_within.f k a0 a1) (impl_within.f (k+1) a0 a1):=by
 intro a0 a1 k
 have ih0:=impl_within.mono_l k
 unfold impl_within.f
 repeat' first
   | with_reducible first|exact ih0 ..|exact LeO.refl _|exact LeO.none _|refine LeO.ite ?_ ?_|refine LeO.bind ?_ fun _=>?_
set_option maxHeartbeats 8000000 in
set_option maxRecDepth 100000 in
theorem impl_within.calls (k:Nat) (a0:Int) (A1:Option Addr) (c1:Nat) (l1:List Int) (r:Bool) (w:World) (hr1:Kd.C (Kd.int .i64) w A1 l1.length l1) (hc1:l1.length≤c1) (h:impl_within.f k a0 l1=some r) :
  Calls Try.prog 73 #[.int .i64 a0,.slice A1 l1.length c1] w fun e w'=>e=.returned (.bool r)∧Drawn0 w w':=by
 have HR1:=Aside0.mk hr1
 have HC1:=Aside0.mk hc1
 clear hr1 hc1
 have H:=h
 unfold impl_within.f at H
 clear h
 have H':=Aside0.mk H
 clear H
 go_enter Try.func73,Try.ntmps73
 go_wp2
 go_loopg [9] k (fun kq v9 w'=>∃ (x9_1:Int),v9=.int .i64 x9_1∧Aside0 (impl_within.l0 kq a0 l1 (l1.length:Int) x9_1=some r)∧Aside0 (kq≤k)∧Drawn0 w w')
 case atStart=>exact ⟨(0),hB,H',⟨Nat.le_refl _⟩,by repeat (first|exact Drawn0.refl _|apply Drawn0.step)⟩
 case round=>
  clear H'
  try clear c1
  obtain ⟨x9_1,rfl,HA,HK1,⟨m1,rfl⟩⟩:=hrel
  cases gk with
  | zero=>exact absurd HA.out (by simp [impl_within.l0])
  | succ k1=>
   have H:=HA.out
   clear HA
   simp only [impl_within.l0] at H
   by_cases c3:x9_1<(l1.length:Int)
   ·
    rw [if_pos c3] at H
    have c3b0:=decide_eq_true c3
    clear c3
    by_cases c4:0≤x9_1
    rotate_left
    ·
     rw [if_neg c4] at H
     exact absurd H (by simp)
    rw [if_pos c4] at H
    have c4b0:=decide_eq_true c4
    clear c4
    by_cases c5:x9_1<(l1.length:Int)
    rotate_left
    ·
     rw [if_neg c5] at H
     exact absurd H (by simp)
    rw [if_pos c5] at H
    have c5b0:=decide_eq_true c5
    clear c5
    by_cases c6:(rd l1 x9_1)<(wrap64 (-a0))
    ·
     rw [if_pos c6] at H
     have c6b0:=decide_eq_true c6
     clear c6
     obtain rfl:=Option.some.inj H
     have p300:0≤(x9_1:Int):=dA
     have q300:x9_1<(l1.length:Int):=dA
     obtain ⟨ad300,e300,hx300_0⟩:=Kd.at_int HR1.out x9_1 p300 q300
     cases e300
     replace p300:=eq_true p300
     replace q300:=eq_true q300
     go_wp2
     go_ret
     exact ⟨by first|rfl|(simp;done)|(simp [*];done),by repeat (first|exact Drawn0.refl _|apply Drawn0.step)⟩
    ·
     rw [if_neg c6] at H
     have c6b0:=decide_eq_false c6
     clear c6
     by_cases c7:(rd l1 x9_1)>a0
     ·
      rw [if_pos c7] at H
      have c7b0:decide (a0<(rd l1 x9_1))=true:=decide_eq_true c7
      clear c7
      obtain rfl:=Option.some.inj H
      have p300:0≤(x9_1:Int):=dA
      have q300:x9_1<(l1.length:Int):=dA
      obtain ⟨ad300,e300,hx300_0⟩:=Kd.at_int HR1.out x9_1 p300 q300
      cases e300
      replace p300:=eq_true p300
      replace q300:=eq_true q300
      go_wp2
      go_ret
      exact ⟨by first|rfl|(simp;done)|(simp [*];done),by repeat (first|exact Drawn0.refl _|apply Drawn0.step)⟩
     ·
      rw [if_neg c7] at H
      have c7b0:decide (a0<(rd l1 x9_1))=false:=decide_eq_false c7
      clear c7
      have H':=Aside0.mk H
      clear H
      have p300:0≤(x9_1:Int):=dA
      have q300:x9_1<(l1.length:Int):=dA
      obtain ⟨ad300,e300,hx300_0⟩:=Kd.at_int HR1.out x9_1 p300 q300
      cases e300
      replace p300:=eq_true p300
      replace q300:=eq_true q300
      go_wp2
      go_roundg k1
      case measure=>have:=HK1.out;omega
      case rel=>exact ⟨(wrap64 (x9_1+1)),hB,H',⟨by have:=HK1.out;omega⟩,by repeat (first|exact Drawn0.refl _|apply Drawn0.step)⟩
   ·
    rw [if_neg c3] at H
    have c3b0:=decide_eq_false c3
    clear c3
    obtain rfl:=Option.some.inj H
    go_wp2
    go_ret
    exact ⟨by first|rfl|(simp;done)|(simp [*];done),by repeat (first|exact Drawn0.refl _|apply Drawn0.step)⟩
def impl_isRadius.f (a0:Int):Option (Bool):=if a0≥0 then (some (decide (a0≤3))) else (some false)
set_option maxHeartbeats 8000000 in
set_option maxRecDepth 100000 in
theorem impl_isRadius.calls (a0:Int) (r:Bool) (w:World) (h:impl_isRadius.f a0=some r) :
  Calls Try.prog 34 #[.int .i64 a0] w fun e w'=>e=.returned (.bool r)∧Drawn0 w w':=by
 have H:=h
 unfold impl_isRadius.f at H
 clear h
 by_cases c2:a0≥0
 ·
  rw [if_pos c2] at H
  have c2b0:decide (0≤a0)=true:=decide_eq_true c2
  clear c2
  obtain rfl:=Option.some.inj H
  go_enter Try.func34,Try.ntmps34
  go_wp2
  go_ret
  exact ⟨by first|rfl|(simp;done)|(simp [*];done),by repeat (first|exact Drawn0.refl _|apply Drawn0.step)⟩
 ·
  rw [if_neg c2] at H
  have c2b0:decide (0≤a0)=false:=decide_eq_false c2
  clear c2
  obtain rfl:=Option.some.inj H
  go_enter Try.func34,Try.ntmps34
  go_wp2
  go_ret
  exact ⟨by first|rfl|(simp;done)|(simp [*];done),by repeat (first|exact Drawn0.refl _|apply Drawn0.step)⟩
def impl_power.l0:Nat→Int→Int→Int→Int→Option (Int)
 | 0,_,_,_,_=>none
 | k+1,x0,x5,x6,x7=>if x7<x6 then (impl_power.l0 k x0 (wrap64 (x5*x0)) x6 (wrap64 (x7+1))) else (some x5)
def impl_power.f (k:Nat) (a0 a1:Int):Option (Int):=impl_power.l0 k a0 1 a1 0
theorem impl_power.mono_l:∀ k,(∀ y0 y1 y2 y3,LeO (impl_power.l0 k y0 y1 y2 y3) (impl_power.l0 (k+1) y0 y1 y2 y3))
 | 0=>fun _ _ _ _ r h=>by simp [impl_power.l0] at h
 | k+1=>by
  have ih0:=impl_power.mono_l k
  ·
   intro y0 y1 y2 y3
   unfold impl_power.l0
   repeat' first
   | with_reducible first|exact ih0 ..|exact LeO.refl _|exact LeO.none _|refine LeO.ite ?_ ?_|refine LeO.bind ?_ fun _=>?_
theorem impl_power.mono:∀ a0 a1 k,LeO (impl_power.f k a0 a1) (impl_power.f (k+1) a0 a1):=by
 intro a0 a1 k
 have ih0:=impl_power.mono_l k
 unfold impl_power.f
 repeat' first
   | with_reducible first|exact ih0 ..|exact LeO.refl _|exact LeO.none _|refine LeO.ite ?_ ?_|refine LeO.bind ?_ fun _=>?_
set_option maxHeartbeats 8000000 in
set_option maxRecDepth 100000 in
theorem impl_power.calls (k:Nat) (a0 a1 r:Int) (w:World) (h:impl_power.f k a0 a1=some r) :
  Calls Try.prog 50 #[.int .i64 a0,.int .i64 a1] w fun e w'=>e=.returned (.int .i64 r)∧Drawn0 w w':=by
 have H:=h
 unfold impl_power.f at H
 clear h
 have H':=Aside0.mk H
 clear H
 go_enter Try.func50,Try.ntmps50
 go_wp2
 go_loopg [5,7] k (fun kq v5 v7 w'=>∃ (x5_1:Int) (x7_1:Int),v5=.int .i64 x5_1∧v7=.int .i64 x7_1∧Aside0 (impl_power.l0 kq a0 x5_1 a1 x7_1=some r)∧Aside0 (kq≤k)∧Drawn0 w w')
 case atStart=>exact ⟨(1),(0),hB,hB,H',⟨Nat.le_refl _⟩,by repeat (first|exact Drawn0.refl _|apply Drawn0.step)⟩
 case round=>
  clear H'
  obtain ⟨x5_1,x7_1,rfl,rfl,HA,HK1,⟨m1,rfl⟩⟩:=hrel
  cases gk with
  | zero=>exact absurd HA.out (by simp [impl_power.l0])
  | succ k1=>
   have H:=HA.out
   clear HA
   simp only [impl_power.l0] at H
   by_cases c3:x7_1<a1
   ·
    rw [if_pos c3] at H
    have c3b0:=decide_eq_true c3
    clear c3
    have H':=Aside0.mk H
    clear H
    go_wp2
    go_roundg k1
    case measure=>have:=HK1.out;omega
    case rel=>exact ⟨(wrap64 (x5_1*a0)),(wrap64 (x7_1+1)),hB,hB,H',⟨by have:=HK1.out;omega⟩,by repeat (first|exact Drawn0.refl _|apply Drawn0.step)⟩
   ·
    rw [if_neg c3] at H
    have c3b0:=decide_eq_false c3
    clear c3
    obtain rfl:=Option.some.inj H
    go_wp2
    go_ret
    exact ⟨by first|rfl|(simp;done)|(simp [*];done),by repeat (first|exact Drawn0.refl _|apply Drawn0.step)⟩
def impl_valuation.l0:Nat→Int→Int→Int→Option (Int)
 | 0,_,_,_=>none
 | k+1,x0,x1,x5=>if x0=0 then (none) else (if (Int.tmod x1 x0)=0 then (impl_valuation.l0 k x0 (wrap64 (Int.tdiv x1 x0)) (wrap64 (x5+1))) else (some x5))
def impl_valuation.f (k:Nat) (a0 a1:Int):Option (Int):=if a1=0 then (some 1000) else (impl_valuation.l0 k a0 a1 0)
theorem impl_valuation.mono_l:∀ k,(∀ y0 y1 y2,LeO (impl_valuation.l0 k y0 y1 y2) (impl_valuation.l0 (k+1) y0 y1 y2))
 | 0=>fun _ _ _ r h=>by simp [impl_valuation.l0] at h
 | k+1=>by
  have ih0:=impl_valuation.mono_l k
  ·
   intro y0 y1 y2
   unfold impl_valuation.l0
   repeat' first
   | with_reducible first|exact ih0 ..|exact LeO.refl _|exact LeO.none _|refine LeO.ite ?_ ?_|refine LeO.bind ?_ fun _=>?_
theorem impl_valuation.mono:∀ a0 a1 k,LeO (impl_valuation.f k a0 a1) (impl_valuation.f (k+1) a0 a1):=by
 intro a0 a1 k
 have ih0:=impl_valuation.mono_l k
 unfold impl_valuation.f
 repeat' first
   | with_reducible first|exact ih0 ..|exact LeO.refl _|exact LeO.none _|refine LeO.ite ?_ ?_|refine LeO.bind ?_ fun _=>?_
set_option maxHeartbeats 8000000 in
set_option maxRecDepth 100000 in
theorem impl_valuation.calls (k:Nat) (a0 a1 r:Int) (w:World) (h:impl_valuation.f k a0 a1=some r) :
  Calls Try.prog 51 #[.int .i64 a0,.int .i64 a1] w fun e w'=>e=.returned (.int .i64 r)∧Drawn0 w w':=by
 have H:=h
 unfold impl_valuation.f at H
 clear h
 by_cases c3:a1=0
 ·
  rw [if_pos c3] at H
  have c3b0:(a1 == 0)=true:=beq_iff_eq.mpr c3
  have c3b1:(a1 != 0)=false:=bne_eq_false_iff_eq.mpr c3
  clear c3
  obtain rfl:=Option.some.inj H
  go_enter Try.func51,Try.ntmps51
  go_wp2
  go_ret
  exact ⟨by first|rfl|(simp;done)|(simp [*];done),by repeat (first|exact Drawn0.refl _|apply Drawn0.step)⟩
 ·
  rw [if_neg c3] at H
  have c3b0:(a1 == 0)=false:=beq_eq_false_iff_ne.mpr c3
  have c3b1:(a1 != 0)=true:=bne_iff_ne.mpr c3
  have H':=Aside0.mk H
  clear H
  go_enter Try.func51,Try.ntmps51
  go_wp2
  go_loopg [1,5] k (fun kq v1 v5 w'=>∃ (x1_1:Int) (x5_1:Int),v1=.int .i64 x1_1∧v5=.int .i64 x5_1∧Aside0 (impl_valuation.l0 kq a0 x1_1 x5_1=some r)∧Aside0 (kq≤k)∧Drawn0 w w')
  case atStart=>exact ⟨(a1),(0),hB,hB,H',⟨Nat.le_refl _⟩,by repeat (first|exact Drawn0.refl _|apply Drawn0.step)⟩
  case round=>
   clear H'
   try clear c3
   try clear c3b0
   try clear c3b1
   obtain ⟨x1_1,x5_1,rfl,rfl,HA,HK1,⟨m1,rfl⟩⟩:=hrel
   cases gk with
   | zero=>exact absurd HA.out (by simp [impl_valuation.l0])
   | succ k1=>
    have H:=HA.out
    clear HA
    simp only [impl_valuation.l0] at H
    by_cases c4:a0=0
    ·
     rw [if_pos c4] at H
     exact absurd H (by simp)
    rw [if_neg c4] at H
    have c4b0:(a0 == 0)=false:=beq_eq_false_iff_ne.mpr c4
    have c4b1:(a0 != 0)=true:=bne_iff_ne.mpr c4
    by_cases c5:(Int.tmod x1_1 a0)=0
    ·
     rw [if_pos c5] at H
     have c5b0:((Int.tmod x1_1 a0) == 0)=true:=beq_iff_eq.mpr c5
     have c5b1:((Int.tmod x1_1 a0) != 0)=false:=bne_eq_false_iff_eq.mpr c5
     clear c5
     have H':=Aside0.mk H
     clear H
     go_wp2
     go_roundg k1
     case measure=>have:=HK1.out;omega
     case rel=>exact ⟨(wrap64 (Int.tdiv x1_1 a0)),(wrap64 (x5_1+1)),hB,hB,H',⟨by have:=HK1.out;omega⟩,by repeat (first|exact Drawn0.refl _|apply Drawn0.step)⟩
    ·
     rw [if_neg c5] at H
     have c5b0:((Int.tmod x1_1 a0) == 0)=false:=beq_eq_false_iff_ne.mpr c5
     have c5b1:((Int.tmod x1_1 a0) != 0)=true:=bne_iff_ne.mpr c5
     obtain rfl:=Option.some.inj H
     go_wp2
     go_ret
     exact ⟨by first|rfl|(simp;done)|(simp [*];done),by repeat (first|exact Drawn0.refl _|apply Drawn0.step)⟩
def impl_isLevel.f (a0:Int):Option (Bool):=if a0≥(-6) then (some (decide (a0≤6))) else (some false)
set_option maxHeartbeats 8000000 in
set_option maxRecDepth 100000 in
theorem impl_isLevel.calls (a0:Int) (r:Bool) (w:World) (h:impl_isLevel.f a0=some r) :
  Calls Try.prog 64 #[.int .i64 a0] w fun e w'=>e=.returned (.bool r)∧Drawn0 w w':=by
 have H:=h
 unfold impl_isLevel.f at H
 clear h
 by_cases c2:a0≥(-6)
 ·
  rw [if_pos c2] at H
  have c2b0:decide ((-6)≤a0)=true:=decide_eq_true c2
  clear c2
  obtain rfl:=Option.some.inj H
  go_enter Try.func64,Try.ntmps64
  go_wp2
  go_ret
  exact ⟨by first|rfl|(simp;done)|(simp [*];done),by repeat (first|exact Drawn0.refl _|apply Drawn0.step)⟩
 ·
  rw [if_neg c2] at H
  have c2b0:decide ((-6)≤a0)=false:=decide_eq_false c2
  clear c2
  obtain rfl:=Option.some.inj H
  go_enter Try.func64,Try.ntmps64
  go_wp2
  go_ret
  exact ⟨by first|rfl|(simp;done)|(simp [*];done),by repeat (first|exact Drawn0.refl _|apply Drawn0.step)⟩
def bits_Mul64.f (a0 a1:Int):Option (Int × Int):=if 0≤a0∧a0<18446744073709551616∧0≤a1∧a1<18446744073709551616 then some (a0*a1 / 18446744073709551616,a0*a1 % 18446744073709551616) else none
theorem bits_Mul64.calls (a0 a1 r1 r2:Int) (w:World) (h:bits_Mul64.f a0 a1=some (r1,r2)) :
  Calls Try.prog 74 #[.int .u64 a0,.int .u64 a1] w fun e w'=>e=.returned (.tuple #[.int .u64 r1,.int .u64 r2])∧Drawn0 w w':=by
 unfold bits_Mul64.f at h
 by_cases c:0≤a0∧a0<18446744073709551616∧0≤a1∧a1<18446744073709551616
 ·
  rw [if_pos c] at h
  obtain ⟨h0,h1,h2,h3⟩:=c
  obtain ⟨x,rfl⟩:=Int.eq_ofNat_of_zero_le h0
  obtain ⟨y,rfl⟩:=Int.eq_ofNat_of_zero_le h2
  simp only [Option.some.injEq,Prod.mk.injEq] at h
  obtain ⟨rfl,rfl⟩:=h
  refine (Try.bits_Mul64 x y (by omega) (by omega) w).mono fun e w' ⟨he,hw⟩=>⟨he.trans ?_,hw ▸ Drawn0.refl _⟩
  simp
 ·
  rw [if_neg c] at h;cases h
def impl_mod.f (a0 a1:Int):Option (Int):=if a1=0 then (none) else (some (Int.tmod (wrap64 ((Int.tmod a0 a1)+a1)) a1))
set_option maxHeartbeats 8000000 in
set_option maxRecDepth 100000 in
theorem impl_mod.calls (a0 a1 r:Int) (w:World) (h:impl_mod.f a0 a1=some r) :
  Calls Try.prog 75 #[.int .i64 a0,.int .i64 a1] w fun e w'=>e=.returned (.int .i64 r)∧Drawn0 w w':=by
 have H:=h
 unfold impl_mod.f at H
 clear h
 by_cases c3:a1=0
 ·
  rw [if_pos c3] at H
  exact absurd H (by simp)
 rw [if_neg c3] at H
 have c3b0:(a1 == 0)=false:=beq_eq_false_iff_ne.mpr c3
 have c3b1:(a1 != 0)=true:=bne_iff_ne.mpr c3
 obtain rfl:=Option.some.inj H
 go_enter Try.func75,Try.ntmps75
 go_wp2
 go_ret
 exact ⟨by first|rfl|(simp;done)|(simp [*];done),by repeat (first|exact Drawn0.refl _|apply Drawn0.step)⟩
def bits_LeadingZeros64.f (a0:Int):Option (Int):=if 0≤a0∧a0≤18446744073709551615 then some (64 - (Lib.bitLen a0.toNat:Int)) else none
theorem bits_LeadingZeros64.calls (a0 r:Int) (w:World) (h:bits_LeadingZeros64.f a0=some r) :
  Calls Try.prog 79 #[.int .u64 a0] w fun e w'=>e=.returned (.int .i64 r)∧Drawn0 w w':=by
 unfold bits_LeadingZeros64.f at h
 by_cases c:0≤a0∧a0≤18446744073709551615
 ·
  rw [if_pos c] at h
  obtain rfl:=Option.some.inj h
  exact (Try.bits_LeadingZeros64 a0 w c.1 c.2).mono fun e w' ⟨he,hw⟩=>⟨he,hw ▸ Drawn0.refl _⟩
 ·
  rw [if_neg c] at h;cases h
def impl_Ball_56.f (a0 a1:Int):Option (List S53):=if 0≤a1∧a1≤1000000 then some [] else none
theorem impl_Ball_56.cut {w:World} {base n c:Nat} {A:Option Addr} {xs:List S53} (h:Kd.R k53 53 w base (fun _=>True) (.slice A n c) xs):Kd.R k53 53 w base (fun _=>True) (.slice A 0 c) []:=by
 obtain ⟨_,inner,ho,_⟩:=h
 obtain ⟨A',c',e⟩:=own_slice ho
 injection e with e1 e2 e3
 subst e2
 have:=own_take ho (m:=0) (Nat.zero_le _)
 rw [Nat.zero_mul,List.take_zero] at this
 exact ⟨fun _ _=>trivial,[],this,Reps.none _ _⟩
set_option maxHeartbeats 8000000 in
set_option maxRecDepth 100000 in
theorem impl_Ball_56.calls (a0 a1:Int) (r:List S53) (w:World) (h:impl_Ball_56.f a0 a1=some r) :
  Calls Try.prog 56 #[.slice none 0 0,.int .i64 a1] w fun e w'=>∃ v0_:Value,e=.returned (v0_)∧Kd.R k53 53 w' w.heap.size (fun _=>True) v0_ r∧Below w.heap.size w w':=by
 unfold impl_Ball_56.f at h
 by_cases hb:0≤a1∧a1≤1000000
 case neg=>rw [if_neg hb] at h;cases h
 rw [if_pos hb] at h
 obtain rfl:=Option.some.inj h
 obtain ⟨h0,h1⟩:=hb
 have HB:=Aside0.mk (Below.refl w.heap.size w)
 have c0:decide (a1<0)=false:=decide_eq_false (by omega)
 have e0:wrap64 (a1 - 0)=a1:=by unfold wrap64;omega
 obtain ⟨i0,hi0,_,_,_⟩:=info_parts info53
 by_cases z:a1=0
 ·
  subst z
  go_enter Try.func56,Try.ntmps56
  go_wp2
  go_ret
  exact ⟨_,by first|rfl|(simp [errW_none,errW_some] <;> rfl),Kd.R_nil _ _ _ _ _,blA⟩
 ·
  have c1:decide (0<a1)=true:=decide_eq_true (by omega)
  go_enter Try.func56,Try.ntmps56
  go_wp2_with (first|((with_reducible refine gate_builtin (b:=.append) (xs:=#[.tmp 20,.tmp 21]) rfl ?_);at_builtin;refine Kd.R_append_zeros k53 (w0:=w) w.heap.size rfl (.tmp 20) (.tmp 21) 38 3 53 (.agg #[(.int .i64 0),(.int .i64 0),(.int .i64 0)]) 24 rfl Try.underlying38 Try.underlying3 info53 rfl (by decide) (by omega) (.slice none 0 0) ([]:List S53) (⟨0,0,0⟩:S53) a1 (fun _=>True) rfl rfl ?aZ ?aF ?aO h0 ?aB ?aS ?aL ?_;(case aZ=>exact (k53_mkM _ _ _ (⟨0,0,0⟩:S53)));(case aF=>exact (fun _ _=>trivial));(case aO=>exact Kd.R_nil _ _ _ _ _);(case aB=>exact blA);(case aS=>exact (below_size blA));(case aL=>simp only [List.length_nil];omega);intro v1 w1 ho hb hg hat;obtain ⟨A1,q1,e1⟩:=Kd.R_slice ho;subst e1;have hq:=(Kd.R_reads' ho).2.1;have hcut:=cut_to (P:=Try.prog) 38 53 .i64 Try.underlying38 hi0 A1 _ q1 0 (by omega) (by omega) hq;have hr:=impl_Ball_56.cut ho;have HO:=Aside0.mk hr;replace HB:=Aside0.mk hb;clear ho hb hg hat hr hq))
  go_ret
  exact ⟨_,by first|rfl|(simp [errW_none,errW_some] <;> rfl),HO.out,blA⟩
end Go.Proofs.Ytnhiehpbkimaeaa.PAll
