-- turned out of the kit's print
import Derived.Test.YtlpmefmaplhfdaaQx
import Derived.Test.YtlpmefmaplhfdaaQbitsLeadingZeros64
import Derived.Test.YtlpmefmaplhfdaaQimplchild
import Derived.Test.YtlpmefmaplhfdaaQimplnearBalls
import Derived.Test.YtlpmefmaplhfdaaQspecl04Near
import Derived.Test.YtlpmefmaplhfdaaQspecl04With
namespace Go.Proofs.Ytlpmefmaplhfdaa.PAll
open Go.RowKit Go.Proofs.YtlpmefmaplhfdaaW.PrintWords Go.Proofs.YtlpmefmaplhfdaaW.PrintLast Go.Proofs.YtlpmefmaplhfdaaW.PrintMore
attribute [local go_sem] Go.Proofs.Ytlpmefmaplhfdaa.Aux.setCell_drewN Go.Proofs.Ytlpmefmaplhfdaa.Aux.isSome_setCell max2_int min2_int max_two min_two max_three min_three max_four min_four
set_option linter.unusedVariables false
set_option linter.unusedSimpArgs false
attribute [local go_sem high] eqA28
def laws_balls9.l0:Nat→List (S28)→List (S28)→Int→Option (Bool)
 | 0,_,_,_=>none
 | k+1,x0,x1,x5=>if x5<(x0.length:Int) then (if 0≤x5 then (if x5<(x1.length:Int) then (if (!(((rd_T28 x0 x5).f0) == ((rd_T28 x1 x5).f0)) || (!(((rd_T28 x0 x5).f1) == ((rd_T28 x1 x5).f1)) || (!(((rd_T28 x0 x5).f2) == ((rd_T28 x1 x5).f2)))))=true then (some false) else (laws_balls9.l0 k x0 x1 (wrap64 (x5+1)))) else (none)) else (none)) else (some true)
def laws_balls9.f (k:Nat) (l0:List (S28)) (l1:List (S28)):Option (Bool):=if (l0.length:Int)=(l1.length:Int) then (laws_balls9.l0 k l0 l1 0) else (some false)
theorem laws_balls9.mono_l:∀ k,(∀ y0 y1 y2,LeO (laws_balls9.l0 k y0 y1 y2) (laws_balls9.l0 (k+1) y0 y1 y2))
 | 0=>fun _ _ _ r h=>by simp [laws_balls9.l0] at h
 | k+1=>by
  have ih0:=laws_balls9.mono_l k
  ·
   intro y0 y1 y2
   unfold laws_balls9.l0
   repeat' first
   | with_reducible first|exact ih0 ..|exact LeO.refl _|exact LeO.none _|refine LeO.ite ?_ ?_|refine LeO.bind ?_ fun _=>?_
theorem laws_balls9.mono:∀ a0 a1 k,LeO (laws_balls9.f k a0 a1) (laws_balls9.f (k+1) a0 a1):=by
 intro a0 a1 k
 have ih0:=laws_balls9.mono_l k
 unfold laws_balls9.f
 repeat' first
   | with_reducible first|exact ih0 ..|exact LeO.refl _|exact LeO.none _|refine LeO.ite ?_ ?_|refine LeO.bind ?_ fun _=>?_
set_option maxHeartbeats 8000000 in
set_option maxRecDepth 100000 in
theorem laws_balls9.calls (k:Nat) (A0:Option Addr) (c0:Nat) (l0:List (S28)) (A1:Option Addr) (c1:Nat) (l1:List (S28)) (r:Bool) (w:World) (hr0:Kd.C k28 w A0 l0.length l0) (hc0:l0.length≤c0) (hr1:Kd.C k28 w A1 l1.length l1) (hc1:l1.length≤c1) (h:laws_balls9.f k l0 l1=some r) :
  Calls Try.prog 38 #[.slice A0 l0.length c0,.slice A1 l1.length c1] w fun e w'=>e=.returned (.bool r)∧Drawn0 w w':=by
 have hu28:=Try.underlying28
 have HR0:=Aside0.mk hr0
 have HC0:=Aside0.mk hc0
 clear hr0 hc0
 have HR1:=Aside0.mk hr1
 have HC1:=Aside0.mk hc1
 clear hr1 hc1
 have H:=h
 unfold laws_balls9.f at H
 clear h
 by_cases c3:(l0.length:Int)=(l1.length:Int)
 focus
  rw [if_pos c3] at H
  have c3b0:((l0.length:Int) == (l1.length:Int))=true:=beq_iff_eq.mpr c3
  have c3b1:((l0.length:Int) != (l1.length:Int))=false:=bne_eq_false_iff_eq.mpr c3
  have c3b2:(l0.length == l1.length)=true:=by first|simpa using c3|(simp at c3 ⊢;omega)
  clear c3
  have H':=Aside0.mk H
  clear H
 rotate_left
 focus
  rw [if_neg c3] at H
  have c3b0:((l0.length:Int) == (l1.length:Int))=false:=beq_eq_false_iff_ne.mpr c3
  have c3b1:((l0.length:Int) != (l1.length:Int))=true:=bne_iff_ne.mpr c3
  have c3b2:(l0.length == l1.length)=false:=by first|simpa using c3|(simp at c3 ⊢;omega)
  obtain rfl:=Option.some.inj H
 rotate_left
 all_goals
  go_enter Try.func38,Try.ntmps38
  go_wp2
  repeat (go_quiet (fail);try go_wp2)
 ·
  go_loopg [5] k (fun kq v5 w'=>∃ (x5_1:Int),v5=.int .i64 x5_1∧Aside0 (laws_balls9.l0 kq l0 l1 x5_1=some r)∧Aside0 (kq≤k)∧Drawn0 w w')
  case atStart=>exact ⟨(0),hB,H',⟨Nat.le_refl _⟩,by repeat (first|exact Drawn0.refl _|apply Drawn0.step)⟩
  case round=>
   clear H'
   try clear c1
   try clear c3
   try clear c3b0
   try clear c3b1
   try clear c3b2
   obtain ⟨x5_1,rfl,HA,HK1,⟨m1,rfl⟩⟩:=hrel
   cases gk with
   | zero=>exact absurd HA.out (by simp [laws_balls9.l0])
   | succ k1=>
    have H:=HA.out
    clear HA
    simp only [laws_balls9.l0] at H
    by_cases c4:x5_1<(l0.length:Int)
    ·
     rw [if_pos c4] at H
     have c4b0:=decide_eq_true c4
     clear c4
     by_cases c5:0≤x5_1
     rotate_left
     ·
      rw [if_neg c5] at H
      exact absurd H (by simp)
     rw [if_pos c5] at H
     have c5b0:=decide_eq_true c5
     clear c5
     by_cases c6:x5_1<(l1.length:Int)
     rotate_left
     ·
      rw [if_neg c6] at H
      exact absurd H (by simp)
     rw [if_pos c6] at H
     have c6b0:=decide_eq_true c6
     clear c6
     by_cases c7:(!(((rd_T28 l0 x5_1).f0) == ((rd_T28 l1 x5_1).f0)) || (!(((rd_T28 l0 x5_1).f1) == ((rd_T28 l1 x5_1).f1)) || (!(((rd_T28 l0 x5_1).f2) == ((rd_T28 l1 x5_1).f2)))))=true
     ·
      rw [if_pos c7] at H
      have c7b0:(!(((rd_T28 l0 x5_1).f0) == ((rd_T28 l1 x5_1).f0)) || (!(((rd_T28 l0 x5_1).f1) == ((rd_T28 l1 x5_1).f1)) || (!(((rd_T28 l0 x5_1).f2) == ((rd_T28 l1 x5_1).f2)))))=true:=c7
      clear c7
      obtain rfl:=Option.some.inj H
      have p1043:0≤(x5_1:Int):=dA
      have q1043:x5_1<(l0.length:Int):=dA
      obtain ⟨ad1043,e1043,hx1043_0,hx1043_1,hx1043_2⟩:=at_T28 HR0.out x5_1 p1043 q1043
      cases e1043
      replace p1043:=eq_true p1043
      replace q1043:=eq_true q1043
      have p1044:0≤(x5_1:Int):=dA
      have q1044:x5_1<(l1.length:Int):=dA
      obtain ⟨ad1044,e1044,hx1044_0,hx1044_1,hx1044_2⟩:=at_T28 HR1.out x5_1 p1044 q1044
      cases e1044
      replace p1044:=eq_true p1044
      replace q1044:=eq_true q1044
      go_wp2
      repeat (go_quiet (fail);try go_wp2)
      go_ret
      exact ⟨by first|rfl|(simp;done)|(simp [*];done),by repeat (first|exact Drawn0.refl _|apply Drawn0.step)⟩
     ·
      rw [if_neg c7] at H
      have c7b0:(!(((rd_T28 l0 x5_1).f0) == ((rd_T28 l1 x5_1).f0)) || (!(((rd_T28 l0 x5_1).f1) == ((rd_T28 l1 x5_1).f1)) || (!(((rd_T28 l0 x5_1).f2) == ((rd_T28 l1 x5_1).f2)))))=false:=by simpa using c7
      clear c7
      have H':=Aside0.mk H
      clear H
      have p1043:0≤(x5_1:Int):=dA
      have q1043:x5_1<(l0.length:Int):=dA
      obtain ⟨ad1043,e1043,hx1043_0,hx1043_1,hx1043_2⟩:=at_T28 HR0.out x5_1 p1043 q1043
      cases e1043
      replace p1043:=eq_true p1043
      replace q1043:=eq_true q1043
      have p1044:0≤(x5_1:Int):=dA
      have q1044:x5_1<(l1.length:Int):=dA
      obtain ⟨ad1044,e1044,hx1044_0,hx1044_1,hx1044_2⟩:=at_T28 HR1.out x5_1 p1044 q1044
      cases e1044
      replace p1044:=eq_true p1044
      replace q1044:=eq_true q1044
      go_wp2
      repeat (go_quiet (fail);try go_wp2)
      go_roundg k1
      case measure=>have:=HK1.out;omega
      case rel=>exact ⟨(wrap64 (x5_1+1)),hB,H',⟨by have:=HK1.out;omega⟩,by repeat (first|exact Drawn0.refl _|apply Drawn0.step)⟩
    ·
     rw [if_neg c4] at H
     have c4b0:=decide_eq_false c4
     clear c4
     obtain rfl:=Option.some.inj H
     go_wp2
     repeat (go_quiet (fail);try go_wp2)
     go_ret
     exact ⟨by first|rfl|(simp;done)|(simp [*];done),by repeat (first|exact Drawn0.refl _|apply Drawn0.step)⟩
 ·
  go_ret
  exact ⟨by first|rfl|(simp;done)|(simp [*];done),by repeat (first|exact Drawn0.refl _|apply Drawn0.step)⟩
def spec_FixedBalls.j0:Nat→Int→Int→Int→Bool→Int→Int→Int→Int→Int→Int→Int→Option ((List (S28)) × Int)
 | 0,_,_,_,_,_,_,_,_,_,_,_=>none
 | k+1,x0,x3,x10,x24,x1029000,x1029001,x1029002,x1029003,x1030000,x1030001,x1030002=>if x24=true then (if 2=0 then ((spec_l04Near.f k x0 x1029000 x1029001 x1029002 x1029003 x1030000 x1030001 x1030002 x3 0).bind fun bt1035=>(some (bt1035.1,bt1035.2))) else (some (([]:List (S28)),2))) else (if x10=0 then ((spec_l04Near.f k x0 x1029000 x1029001 x1029002 x1029003 x1030000 x1030001 x1030002 x3 0).bind fun bt1039=>(some (bt1039.1,bt1039.2))) else (some (([]:List (S28)),x10)))
def spec_FixedBalls.f (k:Nat) (a0 a1_0 a1_1 a1_2 a1_3 a2_0 a2_1 a2_2 a3:Int):Option ((List (S28)) × Int):=(spec_l04Code.f k a0 a1_0 a1_1 a1_2 a1_3 (([(⟨a2_0,a2_1,a2_2⟩:S28)]:List (S28)))).bind fun t1033=>(if t1033=0 then ((spec_l01In.f a3 0 3).bind fun t1034=>(spec_FixedBalls.j0 k a0 a3 t1033 (!t1034) a1_0 a1_1 a1_2 a1_3 a2_0 a2_1 a2_2)) else (spec_FixedBalls.j0 k a0 a3 t1033 false a1_0 a1_1 a1_2 a1_3 a2_0 a2_1 a2_2))
theorem spec_FixedBalls.mono_l:∀ k,(∀ y0 y1 y2 y3 y4 y5 y6 y7 y8 y9 y10,LeO (spec_FixedBalls.j0 k y0 y1 y2 y3 y4 y5 y6 y7 y8 y9 y10) (spec_FixedBalls.j0 (k+1) y0 y1 y2 y3 y4 y5 y6 y7 y8 y9 y10))
 | 0=>fun _ _ _ _ _ _ _ _ _ _ _ r h=>by simp [spec_FixedBalls.j0] at h
 | k+1=>by
  have ih0:=spec_FixedBalls.mono_l k
  ·
   intro y0 y1 y2 y3 y4 y5 y6 y7 y8 y9 y10
   unfold spec_FixedBalls.j0
   repeat' first
   | with_reducible first|exact ih0 ..|exact spec_l04Code.mono ..|exact spec_l04Near.mono ..|exact LeO.refl _|exact LeO.none _|refine LeO.ite ?_ ?_|refine LeO.bind ?_ fun _=>?_
theorem spec_FixedBalls.mono:∀ a0 a1 a2 a3 a4 a5 a6 a7 a8 k,LeO (spec_FixedBalls.f k a0 a1 a2 a3 a4 a5 a6 a7 a8) (spec_FixedBalls.f (k+1) a0 a1 a2 a3 a4 a5 a6 a7 a8):=by
 intro a0 a1 a2 a3 a4 a5 a6 a7 a8 k
 have ih0:=spec_FixedBalls.mono_l k
 unfold spec_FixedBalls.f
 repeat' first
   | with_reducible first|exact ih0 ..|exact spec_l04Code.mono ..|exact spec_l04Near.mono ..|exact LeO.refl _|exact LeO.none _|refine LeO.ite ?_ ?_|refine LeO.bind ?_ fun _=>?_
set_option maxHeartbeats 8000000 in
set_option maxRecDepth 100000 in
theorem spec_FixedBalls.calls (k:Nat) (a0 a1_0 a1_1 a1_2 a1_3 a2_0 a2_1 a2_2 a3:Int) (r1:List (S28)) (r2:Int) (w:World) (h:spec_FixedBalls.f k a0 a1_0 a1_1 a1_2 a1_3 a2_0 a2_1 a2_2 a3=some (r1,r2)) :
  Calls Try.prog 37 #[.int .i64 a0,.agg #[.int .i64 a1_0,.int .i64 a1_1,.int .i64 a1_2,.int .i64 a1_3],.agg #[.int .i64 a2_0,.int .i64 a2_1,.int .i64 a2_2],.int .i64 a3] w fun e w'=>∃ v0_:Value,e=.returned (.tuple #[v0_,.int .i64 r2])∧Kd.R k28 28 w' w.heap.size (fun _=>True) v0_ r1∧Below w.heap.size w w':=by
 have hu26:=Try.underlying26
 have hu28:=Try.underlying28
 have HB:=Aside0.mk (Below.refl w.heap.size w)
 have H:=h
 unfold spec_FixedBalls.f at H
 clear h
 obtain ⟨y1030,hy1030⟩:∃ y_:List (S28),y_=(([(⟨a2_0,a2_1,a2_2⟩:S28)]:List (S28))):=⟨_,rfl⟩
 replace H:((spec_l04Code.f k a0 a1_0 a1_1 a1_2 a1_3 y1030).bind fun t1033=>(if t1033=0 then ((spec_l01In.f a3 0 3).bind fun t1034=>(spec_FixedBalls.j0 k a0 a3 t1033 (!t1034) a1_0 a1_1 a1_2 a1_3 a2_0 a2_1 a2_2)) else (spec_FixedBalls.j0 k a0 a3 t1033 false a1_0 a1_1 a1_2 a1_3 a2_0 a2_1 a2_2)))=some (r1,r2):=rH hy1030 H
 have Ny1030:=Aside0.mk hy1030
 clear hy1030
 replace H:=bS H
 obtain ⟨t1033,A5,H⟩:=H
 try dsimp only at H
 have HC6:=Aside0.mk H
 clear H
 go_enter Try.func37,Try.ntmps37
 go_upto_region 2 with (first|((with_reducible refine gate_dst (N:=5) rfl ?_);refine bxE (cs:=#[.int .i64 a1_0,.int .i64 a1_1,.int .i64 a1_2,.int .i64 a1_3]) (t:=26) ?_;intro gb1028 hg w7 hbox hb;have BK1028:=Aside0.mk hbox;have GW1028:=sA hg;have GE1028:=sA hg;replace HB:=lB hb;clear hb hbox hg)|((with_reducible refine gate_dst (N:=6) rfl ?_);refine bxE (cs:=#[.int .i64 a2_0,.int .i64 a2_1,.int .i64 a2_2]) (t:=28) ?_;intro gb1029 hg w8 hbox hb;have BK1029:=Aside0.mk hbox;have GW1029:=sA hg;have GE1029:=sA hg;have NB1028_1029:=nA hg BK1028;have NB1029_1028:=nB hg BK1028;replace BK1028:=kB BK1028 hb;replace HB:=lB hb;clear hb hbox hg;have hnb9:=NB1028_1029.out;have hnc9:=NB1029_1028.out;obtain ⟨hcz10_0,hcz10_1,hcz10_2,hcz10_3,hfz10_0,hfz10_1,hfz10_2,hfz10_3⟩:=cz4 BK1028;obtain ⟨hcz11_0,hcz11_1,hcz11_2,hfz11_0,hfz11_1,hfz11_2⟩:=cz3 BK1029)|((with_reducible refine gate_dst (N:=16) rfl ?_);refine Kd.R_lit k28 _ 28 ?hg (N:=16) ?hd (xs:=([(⟨a2_0,a2_1,a2_2⟩:S28)]:List (S28))) (inner:=[.int .i64 a2_0,.int .i64 a2_1,.int .i64 a2_2]) (ok:=fun _=>True) (okp:=fun _=>True) ?hr ?hp (fun _ hk=>hk) trivial (Below.refl _ _) (Nat.le_refl _) (by simp) ?_;(case hd=>rfl);(case hg=>rfl);(case hr=>first|(go_simp;done)|(go_simp;rfl));(case hp=>exact (Reps.c3 (show Kd.M k28 _ _ _ (⟨a2_0,a2_1,a2_2⟩:S28) [.int .i64 a2_0,.int .i64 a2_1,.int .i64 a2_2] from (k28_mkM _ _ _ (⟨a2_0,a2_1,a2_2⟩:S28) )) (Reps.none _ _)));intro v1031 w12 ho13 hb hg_ hnew_;clear hg_ hnew_;(first|rw [← Ny1030.out] at ho13|(simp only [Int.reduceToNat] at ho13;rw [← Ny1030.out] at ho13));have HO1032:=Aside0.mk (Kd.R_lower (Kd.R_newB ho13 (bkA BK1029)) (below_size blA));replace BK1028:=kB BK1028 hb;replace BK1029:=kB BK1029 hb;replace HB:=lB hb;clear hb ho13;obtain ⟨Ao14,co14,eo14⟩:=Kd.R_slice HO1032.out;subst eo14)|((with_reducible refine gd 17 rfl ?_);refine gC (some 17) rfl Try.func45 (spec_l04Code.calls (w:=_) (hr2:=cR (Kd.R_reads' HO1032.out).2.2) (hc2:=(Kd.R_reads' HO1032.out).2.1) (h:=A5.out)) ?_;intro w15 hb;replace HO1032:=Aside0.mk (Kd.R_below (rA HO1032) hb);replace BK1028:=kB BK1028 hb;replace BK1029:=kB BK1029 hb;replace HB:=lB hb;clear hb))
 (try simp only [Act.put,List.setIfInBounds_toArray,List.set_cons_zero,List.set_cons_succ])
 go_cut [24] (fun v24 wc=>∃ (kq:Nat) (x24_5:Bool),v24=.bool x24_5∧Aside0 (spec_FixedBalls.j0 kq a0 a3 t1033 x24_5 a1_0 a1_1 a1_2 a1_3 a2_0 a2_1 a2_2=some (r1,r2))∧Aside0 (kq≤k)∧Aside0 (wc.heap[gb1028]?=some (.cells #[.int .i64 a1_0,.int .i64 a1_1,.int .i64 a1_2,.int .i64 a1_3] 26 (0,0)))∧Aside0 (wc.heap[gb1029]?=some (.cells #[.int .i64 a2_0,.int .i64 a2_1,.int .i64 a2_2] 28 (0,0)))∧Aside0 (Below w.heap.size w wc))
 case first=>
  have H:=HC6.out
  clear HC6
  by_cases c16:t1033=0
  ·
   rw [if_pos c16] at H
   have c16b0:(t1033 == 0)=true:=beq_iff_eq.mpr c16
   have c16b1:(t1033 != 0)=false:=bne_eq_false_iff_eq.mpr c16
   clear c16
   (first|rw [c16b0]|(simp only [i64_w,i32_w];rw [c16b0])|skip)
   replace H:=bS H
   obtain ⟨t1034,A17,H⟩:=H
   try dsimp only at H
   have H':=Aside0.mk H
   clear H
   go_wp2_with (first|(go_at_call 85;(with_reducible refine (spec_l01In.calls a3 0 3 t1034 _ A17.out).mono ?_);rintro e w' ⟨rfl,⟨nd,rfl⟩⟩))
   go_meet
   case rel=>exact ⟨_,(!t1034),hB,H',⟨by first|omega|exact Nat.le_refl _⟩,⟨bkA BK1028⟩,⟨bkA BK1029⟩,⟨blA⟩⟩
  ·
   rw [if_neg c16] at H
   have c16b0:(t1033 == 0)=false:=beq_eq_false_iff_ne.mpr c16
   have c16b1:(t1033 != 0)=true:=bne_iff_ne.mpr c16
   (first|rw [c16b0]|(simp only [i64_w,i32_w];rw [c16b0])|skip)
   have H':=Aside0.mk H
   clear H
   go_wp2
   go_meet
   case rel=>exact ⟨_,(false),hB,H',⟨by first|omega|exact Nat.le_refl _⟩,⟨bkA BK1028⟩,⟨bkA BK1029⟩,⟨blA⟩⟩
 case rest=>
  clear HC6
  try clear c3
  try clear c16
  try clear c16b0
  try clear c16b1
  try clear hcz10_0
  try clear hcz10_1
  try clear hcz10_2
  try clear hcz10_3
  try clear hcz11_0
  try clear hcz11_1
  try clear hcz11_2
  try clear hfz10_0
  try clear hfz10_1
  try clear hfz10_2
  try clear hfz10_3
  try clear hfz11_0
  try clear hfz11_1
  try clear hfz11_2
  obtain ⟨kq,x24_5,rfl,HA,HJ5,BK1028,BK1029,HB⟩:=hcut
  cases kq with
  | zero=>exact absurd HA.out (by simp [spec_FixedBalls.j0])
  | succ kj5=>
   have H:=HA.out
   clear HA
   simp only [spec_FixedBalls.j0] at H
   by_cases c18:x24_5=true
   ·
    subst c18
    rw [if_pos rfl] at H
    try dsimp only at H
    by_cases c19:2=0
    ·
     exact absurd c19 (by decide)
    rw [if_neg c19] at H
    have c19b0:(2 == 0)=false:=beq_eq_false_iff_ne.mpr c19
    have c19b1:(2 != 0)=true:=bne_iff_ne.mpr c19
    simp only [Option.some.injEq,Prod.mk.injEq] at H
    obtain ⟨rfl,rfl⟩:=H
    go_wp2
    go_ret2
    exact ⟨_,eW,nlA,blA⟩
   ·
    replace c18:=Bool.eq_false_iff.mpr c18
    subst c18
    rw [if_neg (show ¬ (false=true) by decide)] at H
    try dsimp only at H
    by_cases c25:t1033=0
    ·
     rw [if_pos c25] at H
     have c25b0:(t1033 == 0)=true:=beq_iff_eq.mpr c25
     have c25b1:(t1033 != 0)=false:=bne_eq_false_iff_eq.mpr c25
     clear c25
     replace H:=bS H
     obtain ⟨⟨t1039,t1042⟩,A26,H⟩:=H
     try dsimp only at H
     simp only [Option.some.injEq,Prod.mk.injEq] at H
     obtain ⟨rfl,rfl⟩:=H
     have hnb27:=NB1028_1029.out
     have hnc27:=NB1029_1028.out
     obtain ⟨hcz28_0,hcz28_1,hcz28_2,hcz28_3,hfz28_0,hfz28_1,hfz28_2,hfz28_3⟩:=cz4 BK1028
     obtain ⟨hcz29_0,hcz29_1,hcz29_2,hfz29_0,hfz29_1,hfz29_2⟩:=cz3 BK1029
     go_wp2_with (first|((with_reducible refine gate_callee (f:=86) rfl ?_);refine gL (some 33) rfl Try.func86 #[.int .i64 a0,.agg #[.int .i64 a1_0,.int .i64 a1_1,.int .i64 a1_2,.int .i64 a1_3],.agg #[.int .i64 a2_0,.int .i64 a2_1,.int .i64 a2_2],.int .i64 a3,.int .i64 0] ?_;(with_reducible refine (spec_l04Near.calls kj5 a0 a1_0 a1_1 a1_2 a1_3 a2_0 a2_1 a2_2 a3 0 t1039 t1042 _ A26.out).mono ?_);rintro e w30 ⟨v1040,rfl,ho0,hb⟩;refine ⟨_,rfl,?_⟩;have HO1041:=Aside0.mk (Kd.R_lower (Kd.R_newB ho0 (bkA BK1029)) (below_size blA));replace BK1028:=kB BK1028 hb;replace BK1029:=kB BK1029 hb;replace HB:=lB hb;clear ho0 hb))
     go_ret2
     exact ⟨_,eW,by (with_reducible repeat (first|apply Kd.R_alloc|apply Kd.R_drewN|apply Kd.R_drew));exact Kd.R_mono HO1041.out (fun _ hk=>trivial),blA⟩
    ·
     rw [if_neg c25] at H
     have c25b0:(t1033 == 0)=false:=beq_eq_false_iff_ne.mpr c25
     have c25b1:(t1033 != 0)=true:=bne_iff_ne.mpr c25
     simp only [Option.some.injEq,Prod.mk.injEq] at H
     obtain ⟨rfl,rfl⟩:=H
     go_wp2
     go_ret2
     exact ⟨_,eW,nlA,blA⟩
def impl_AxisBalls.f (k:Nat) (a0 a1_0 a1_1 a1_2 a1_3 a2_0 a2_1 a2_2 a3:Int):Option ((List (S28)) × Int):=(impl_nearCode.f k a0 a1_0 a1_1 a1_2 a1_3 a2_0 a2_1 a2_2 a3).bind fun t1047=>(if t1047=0 then ((impl_lengthOf.f k a0 a1_0 a1_1 a1_2 a1_3).bind fun bt1048=>(if bt1048.2=2 then ((impl_nearBalls.f k a0 a1_0 a1_1 a1_2 a1_3 a2_0 a2_1 a2_2 a3 bt1048.1).bind fun bt1050=>(some (bt1050.1,bt1050.2))) else (some (([]:List (S28)),5)))) else (some (([]:List (S28)),t1047)))
theorem impl_AxisBalls.mono:∀ a0 a1 a2 a3 a4 a5 a6 a7 a8 k,LeO (impl_AxisBalls.f k a0 a1 a2 a3 a4 a5 a6 a7 a8) (impl_AxisBalls.f (k+1) a0 a1 a2 a3 a4 a5 a6 a7 a8):=by
 intro a0 a1 a2 a3 a4 a5 a6 a7 a8 k
 unfold impl_AxisBalls.f
 repeat' first
   | with_reducible first|exact impl_lengthOf.mono ..|exact impl_nearBalls.mono ..|exact impl_nearCode.mono ..|exact LeO.refl _|exact LeO.none _|refine LeO.ite ?_ ?_|refine LeO.bind ?_ fun _=>?_
set_option maxHeartbeats 8000000 in
set_option maxRecDepth 100000 in
theorem impl_AxisBalls.calls (k:Nat) (a0 a1_0 a1_1 a1_2 a1_3 a2_0 a2_1 a2_2 a3:Int) (r1:List (S28)) (r2:Int) (w:World) (h:impl_AxisBalls.f k a0 a1_0 a1_1 a1_2 a1_3 a2_0 a2_1 a2_2 a3=some (r1,r2)) :
  Calls Try.prog 39 #[.int .i64 a0,.agg #[.int .i64 a1_0,.int .i64 a1_1,.int .i64 a1_2,.int .i64 a1_3],.agg #[.int .i64 a2_0,.int .i64 a2_1,.int .i64 a2_2],.int .i64 a3] w fun e w'=>∃ v0_:Value,e=.returned (.tuple #[v0_,.int .i64 r2])∧Kd.R k28 28 w' w.heap.size (fun _=>True) v0_ r1∧Below w.heap.size w w':=by
 have hu26:=Try.underlying26
 have hu28:=Try.underlying28
 have HB:=Aside0.mk (Below.refl w.heap.size w)
 have H:=h
 unfold impl_AxisBalls.f at H
 clear h
 replace H:=bS H
 obtain ⟨t1047,A5,H⟩:=H
 try dsimp only at H
 by_cases c6:t1047=0
 ·
  rw [if_pos c6] at H
  have c6b0:(t1047 == 0)=true:=beq_iff_eq.mpr c6
  have c6b1:(t1047 != 0)=false:=bne_eq_false_iff_eq.mpr c6
  clear c6
  replace H:=bS H
  obtain ⟨⟨t1048,t1049⟩,A7,H⟩:=H
  try dsimp only at H
  by_cases c8:t1049=2
  focus
   rw [if_pos c8] at H
   have c8b0:(t1049 == 2)=true:=beq_iff_eq.mpr c8
   have c8b1:(t1049 != 2)=false:=bne_eq_false_iff_eq.mpr c8
   clear c8
   replace H:=bS H
   obtain ⟨⟨t1050,t1053⟩,A9,H⟩:=H
   try dsimp only at H
   simp only [Option.some.injEq,Prod.mk.injEq] at H
   obtain ⟨rfl,rfl⟩:=H
  rotate_left
  focus
   rw [if_neg c8] at H
   have c8b0:(t1049 == 2)=false:=beq_eq_false_iff_ne.mpr c8
   have c8b1:(t1049 != 2)=true:=bne_iff_ne.mpr c8
   simp only [Option.some.injEq,Prod.mk.injEq] at H
   obtain ⟨rfl,rfl⟩:=H
  rotate_left
  all_goals
   go_enter Try.func39,Try.ntmps39
   go_wp2_with (first|((with_reducible refine gate_dst (N:=5) rfl ?_);refine bxE (cs:=#[.int .i64 a1_0,.int .i64 a1_1,.int .i64 a1_2,.int .i64 a1_3]) (t:=26) ?_;intro gb1045 hg w10 hbox hb;have BK1045:=Aside0.mk hbox;have GW1045:=sA hg;have GE1045:=sA hg;replace HB:=lB hb;clear hb hbox hg)|((with_reducible refine gate_dst (N:=6) rfl ?_);refine bxE (cs:=#[.int .i64 a2_0,.int .i64 a2_1,.int .i64 a2_2]) (t:=28) ?_;intro gb1046 hg w11 hbox hb;have BK1046:=Aside0.mk hbox;have GW1046:=sA hg;have GE1046:=sA hg;have NB1045_1046:=nA hg BK1045;have NB1046_1045:=nB hg BK1045;replace BK1045:=kB BK1045 hb;replace HB:=lB hb;clear hb hbox hg;have hnb12:=NB1045_1046.out;have hnc12:=NB1046_1045.out;obtain ⟨hcz13_0,hcz13_1,hcz13_2,hcz13_3,hfz13_0,hfz13_1,hfz13_2,hfz13_3⟩:=cz4 BK1045;obtain ⟨hcz14_0,hcz14_1,hcz14_2,hfz14_0,hfz14_1,hfz14_2⟩:=cz3 BK1046)|((with_reducible refine gd 17 rfl ?_);refine gC (some 17) rfl Try.func83 (impl_nearCode.calls (w:=_) (h:=A5.out)) ?_;intro w15 hb;replace BK1045:=kB BK1045 hb;replace BK1046:=kB BK1046 hb;replace HB:=lB hb;clear hb;obtain ⟨hcz16_0,hcz16_1,hcz16_2,hcz16_3,hfz16_0,hfz16_1,hfz16_2,hfz16_3⟩:=cz4 BK1045)|((with_reducible refine gd 24 rfl ?_);refine gC (some 24) rfl Try.func79 (impl_lengthOf.calls (w:=_) (h:=A7.out)) ?_;intro w17 hb;replace BK1045:=kB BK1045 hb;replace BK1046:=kB BK1046 hb;replace HB:=lB hb;clear hb;obtain ⟨hcz18_0,hcz18_1,hcz18_2,hcz18_3,hfz18_0,hfz18_1,hfz18_2,hfz18_3⟩:=cz4 BK1045;obtain ⟨hcz19_0,hcz19_1,hcz19_2,hfz19_0,hfz19_1,hfz19_2⟩:=cz3 BK1046)|((with_reducible refine gate_callee (f:=84) rfl ?_);refine gL (some 34) rfl Try.func84 #[.int .i64 a0,.agg #[.int .i64 a1_0,.int .i64 a1_1,.int .i64 a1_2,.int .i64 a1_3],.agg #[.int .i64 a2_0,.int .i64 a2_1,.int .i64 a2_2],.int .i64 a3,.int .i64 t1048] ?_;(with_reducible refine (impl_nearBalls.calls k a0 a1_0 a1_1 a1_2 a1_3 a2_0 a2_1 a2_2 a3 t1048 t1050 t1053 _ A9.out).mono ?_);rintro e w20 ⟨v1051,rfl,ho0,hb⟩;refine ⟨_,rfl,?_⟩;have HO1052:=Aside0.mk (Kd.R_lower (Kd.R_newB ho0 (bkA BK1046)) (below_size blA));replace BK1045:=kB BK1045 hb;replace BK1046:=kB BK1046 hb;replace HB:=lB hb;clear ho0 hb))
  ·
   go_ret2
   exact ⟨_,eW,by (with_reducible repeat (first|apply Kd.R_alloc|apply Kd.R_drewN|apply Kd.R_drew));exact Kd.R_mono HO1052.out (fun _ hk=>trivial),blA⟩
  ·
   go_ret2
   exact ⟨_,eW,nlA,blA⟩
 ·
  rw [if_neg c6] at H
  have c6b0:(t1047 == 0)=false:=beq_eq_false_iff_ne.mpr c6
  have c6b1:(t1047 != 0)=true:=bne_iff_ne.mpr c6
  simp only [Option.some.injEq,Prod.mk.injEq] at H
  obtain ⟨rfl,rfl⟩:=H
  go_enter Try.func39,Try.ntmps39
  go_wp2_with (first|((with_reducible refine gate_dst (N:=5) rfl ?_);refine bxE (cs:=#[.int .i64 a1_0,.int .i64 a1_1,.int .i64 a1_2,.int .i64 a1_3]) (t:=26) ?_;intro gb1045 hg w29 hbox hb;have BK1045:=Aside0.mk hbox;have GW1045:=sA hg;have GE1045:=sA hg;replace HB:=lB hb;clear hb hbox hg)|((with_reducible refine gate_dst (N:=6) rfl ?_);refine bxE (cs:=#[.int .i64 a2_0,.int .i64 a2_1,.int .i64 a2_2]) (t:=28) ?_;intro gb1046 hg w30 hbox hb;have BK1046:=Aside0.mk hbox;have GW1046:=sA hg;have GE1046:=sA hg;have NB1045_1046:=nA hg BK1045;have NB1046_1045:=nB hg BK1045;replace BK1045:=kB BK1045 hb;replace HB:=lB hb;clear hb hbox hg;have hnb31:=NB1045_1046.out;have hnc31:=NB1046_1045.out;obtain ⟨hcz32_0,hcz32_1,hcz32_2,hcz32_3,hfz32_0,hfz32_1,hfz32_2,hfz32_3⟩:=cz4 BK1045;obtain ⟨hcz33_0,hcz33_1,hcz33_2,hfz33_0,hfz33_1,hfz33_2⟩:=cz3 BK1046)|((with_reducible refine gd 17 rfl ?_);refine gC (some 17) rfl Try.func83 (impl_nearCode.calls (w:=_) (h:=A5.out)) ?_;intro w34 hb;replace BK1045:=kB BK1045 hb;replace BK1046:=kB BK1046 hb;replace HB:=lB hb;clear hb))
  go_ret2
  exact ⟨_,eW,nlA,blA⟩
end Go.Proofs.Ytlpmefmaplhfdaa.PAll
