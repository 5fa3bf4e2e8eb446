-- turned out of the kit's print
import Derived.Test.YtabcckoeilegnaaQx
import Derived.Test.YtabcckoeilegnaaQimplmark
import Derived.Test.YtabcckoeilegnaaQimplmod
import Derived.Test.YtabcckoeilegnaaQspecl01Bad
import Derived.Test.YtabcckoeilegnaaQspecl02Meet
namespace Go.Proofs.Ytabcckoeilegnaa.PAll
open Go.RowKit Go.Proofs.YtabcckoeilegnaaW.PrintWords Go.Proofs.YtabcckoeilegnaaW.PrintLast Go.Proofs.YtabcckoeilegnaaW.PrintMore
attribute [local go_sem] Go.Proofs.Ytabcckoeilegnaa.Aux.setCell_drewN Go.Proofs.Ytabcckoeilegnaa.Aux.isSome_setCell max2_int min2_int max_two min_two max_three min_three max_four min_four
set_option linter.unusedVariables false
set_option linter.unusedSimpArgs false
def impl_joinLevel.f (k:Nat) (a0 a1_0 a1_1 a1_2 a2_0 a2_1 a2_2:Int):Option (Int):=(impl_mark.f k a0 a1_0 a1_1 a1_2).bind fun t529=>((impl_mark.f k a0 a2_0 a2_1 a2_2).bind fun t530=>((impl_valuation.f k a0 (wrap64 (t529 - t530))).bind fun t531=>(some (mn (mn a1_0 a2_0) (wrap64 (t531 - 6))))))
theorem impl_joinLevel.mono:∀ a0 a1 a2 a3 a4 a5 a6 k,LeO (impl_joinLevel.f k a0 a1 a2 a3 a4 a5 a6) (impl_joinLevel.f (k+1) a0 a1 a2 a3 a4 a5 a6):=by
 intro a0 a1 a2 a3 a4 a5 a6 k
 unfold impl_joinLevel.f
 repeat' first
   | with_reducible first|exact impl_mark.mono ..|exact impl_valuation.mono ..|exact LeO.refl _|exact LeO.none _|refine LeO.ite ?_ ?_|refine LeO.bind ?_ fun _=>?_
def impl_joinLevel.T1:Bool × List (List Nat × List Nat):=(true,[([],[]),([0],[0]),([],[]),([2],[2]),([],[]),([],[]),([],[]),([5,6],[5,6]),([],[]),([],[]),([8,9,7],[8,9]),([7,10],[7,10]),([4,11,10],[4,11]),([12],[12]),([1,3,13],[1,3,13]),([14,12,0,1,2,3,4,5,6,7,8,9,10,11,12,13,14],[14])])
def impl_joinLevel.B1:List Nat:=[0,1,0,4,0,0,0,96,0,0,992,2016,4080,8176,16383,32767]
theorem impl_joinLevel.tab1:rtab .any (opsOf Try.f72 1)=impl_joinLevel.T1:=by kernel_rfl
theorem impl_joinLevel.bits1:waitsOk impl_joinLevel.T1.2 impl_joinLevel.B1=true:=by kernel_rfl
set_option maxHeartbeats 8000000 in
set_option maxRecDepth 100000 in
theorem impl_joinLevel.calls (k:Nat) (a0 a1_0 a1_1 a1_2 a2_0 a2_1 a2_2 r:Int) (w:World) (h:impl_joinLevel.f k a0 a1_0 a1_1 a1_2 a2_0 a2_1 a2_2=some r) :
  Calls Try.prog 72 #[.int .i64 a0,.agg #[.int .i64 a1_0,.int .i64 a1_1,.int .i64 a1_2],.agg #[.int .i64 a2_0,.int .i64 a2_1,.int .i64 a2_2]] w fun e w'=>e=.returned (.int .i64 r)∧Below w.heap.size w w':=by
 have hu25:=Try.underlying25
 have HB:=Aside0.mk (Below.refl w.heap.size w)
 have H:=h
 unfold impl_joinLevel.f at H
 clear h
 replace H:=bS H
 obtain ⟨t529,A4,H⟩:=H
 try dsimp only at H
 replace H:=bS H
 obtain ⟨t530,A5,H⟩:=H
 try dsimp only at H
 replace H:=bS H
 obtain ⟨t531,A6,H⟩:=H
 try dsimp only at H
 obtain ⟨ji7,hji7⟩:∃ j_:Int,(mn a1_0 a2_0)=j_:=⟨_,rfl⟩
 replace H:(some (mn (ji7) (wrap64 (t531 - 6))))=some r:=by first|(rw [hji7] at H;exact H)|(simp only [hji7] at H ⊢;exact H)
 (try rw [hji7] at A4)
 (try rw [hji7] at A5)
 (try rw [hji7] at A6)
 have hji7_:(if a2_0<a1_0 then a2_0 else a1_0)=ji7:=hji7
 obtain ⟨ji8,hji8⟩:∃ j_:Int,(mn (ji7) (wrap64 (t531 - 6)))=j_:=⟨_,rfl⟩
 replace H:(some ji8)=some r:=by first|(rw [hji8] at H;exact H)|(simp only [hji8] at H ⊢;exact H)
 (try rw [hji8] at A4)
 (try rw [hji8] at A5)
 (try rw [hji8] at A6)
 have hji8_:(if (wrap64 (t531 - 6))<(ji7) then (wrap64 (t531 - 6)) else (ji7))=ji8:=hji8
 obtain rfl:=Option.some.inj H
 go_enter Try.func72,Try.ntmps72
 try go_wp2_with (first|((with_reducible refine gate_dst (N:=4) rfl ?_);refine bxE (cs:=#[.int .i64 a1_0,.int .i64 a1_1,.int .i64 a1_2]) (t:=25) ?_;intro gb527 hg w9 hbox hb;have n0_:=lB hb;have n1_:=Aside0.mk hbox;have n2_:=sA hg;have n3_:=sA hg;clear HB;have HB:=n0_;have BK527:=n1_;have GW527:=n2_;have GE527:=n3_;clear n0_ n1_ n2_ n3_;clear hb hbox hg)|((with_reducible refine gate_dst (N:=5) rfl ?_);refine bxE (cs:=#[.int .i64 a2_0,.int .i64 a2_1,.int .i64 a2_2]) (t:=25) ?_;intro gb528 hg w10 hbox hb;have n0_:=kB BK527 hb;have n1_:=lB hb;have n2_:=Aside0.mk hbox;have n3_:=sA hg;have n4_:=sA hg;have n5_:=nA hg BK527;have n6_:=nB hg BK527;clear BK527;clear HB;have BK527:=n0_;have HB:=n1_;have BK528:=n2_;have GW528:=n3_;have GE528:=n4_;have NB527_528:=n5_;have NB528_527:=n6_;clear n0_ n1_ n2_ n3_ n4_ n5_ n6_;clear hb hbox hg))
 have n0_:=Aside0.mk (blk_drew BK527.out)
 have n1_:=Aside0.mk (blk_drew BK528.out)
 have n2_:=Aside0.mk (below_drew1 HB.out)
 clear BK527
 clear BK528
 clear HB
 have BK527:=n0_
 have BK528:=n1_
 have HB:=n2_
 clear n0_ n1_ n2_
 refine start_ (n:=16) (S:=fun w'=>w'.cell? ⟨gb527,0,none⟩=some (.int .i64 a1_0)∧w'.cell? ⟨gb527,1,none⟩=some (.int .i64 a1_1)∧w'.cell? ⟨gb527,2,none⟩=some (.int .i64 a1_2)∧w'.cell? ⟨gb528,0,none⟩=some (.int .i64 a2_0)∧w'.cell? ⟨gb528,1,none⟩=some (.int .i64 a2_1)∧w'.cell? ⟨gb528,2,none⟩=some (.int .i64 a2_2)) (ds:=[]) #[Z,Z,Z,Z,Z,Z,Z,Z,Z,Z,Z,Z,Z,Z,Z,Z] (by kernel_rfl) rfl rfl ⟨cA BK527 0,cA BK527 1,cA BK527 2,cA BK528 0,cA BK528 1,cA BK528 2⟩ (fun hHeld=>?_);refine with_tabW impl_joinLevel.tab1 impl_joinLevel.bits1 (fun HT_ HW_=>?_)
 generalize w10.drew=w11 at BK527 BK528 HB hHeld ⊢
 refine puA (i:=0) (N:=some 7) #[Y,Z,Z,Z,Z,Z,Z,Z,Z,Z,Z,Z,Z,Z,Z,Z] rfl rfl HT_ ?_
 refine puA (i:=2) (N:=some 9) #[Y,Z,Y,Z,Z,Z,Z,Z,Z,Z,Z,Z,Z,Z,Z,Z] rfl rfl HT_ ?_
 refine puA (i:=4) (N:=some 11) #[Y,Z,Y,Z,Y,Z,Z,Z,Z,Z,Z,Z,Z,Z,Z,Z] rfl rfl HT_ ?_
 refine puA (i:=5) (N:=some 12) #[Y,Z,Y,Z,Y,Y,Z,Z,Z,Z,Z,Z,Z,Z,Z,Z] rfl rfl HT_ ?_
 refine puA (i:=8) (N:=some 15) #[Y,Z,Y,Z,Y,Y,Z,Z,Y,Z,Z,Z,Z,Z,Z,Z] rfl rfl HT_ ?_
 refine taA (i:=1) (N:=some 8) #[Y,Y,Y,Z,Y,Y,Z,Z,Y,Z,Z,Z,Z,Z,Z,Z] rfl rfl HT_ HW_ hHeld ?_
 refine taA (i:=3) (N:=some 10) #[Y,Y,Y,Y,Y,Y,Z,Z,Y,Z,Z,Z,Z,Z,Z,Z] rfl rfl HT_ HW_ hHeld ?_
 refine taA (i:=6) (N:=some 13) #[Y,Y,Y,Y,Y,Y,Y,Z,Y,Z,Z,Z,Z,Z,Z,Z] rfl rfl HT_ HW_ hHeld ?_
 refine taA (i:=9) (N:=some 16) #[Y,Y,Y,Y,Y,Y,Y,Z,Y,Y,Z,Z,Z,Z,Z,Z] rfl rfl HT_ HW_ hHeld ?_
 refine one_ (i:=7) (N:=some 14) #[Y,Y,Y,Y,Y,Y,Y,Y,Y,Y,Z,Z,Z,Z,Z,Z] rfl rfl (one_of HT_.out (by kernel_rfl)) (by decide) (fun K hK=>?_)
 refine goC Try.func43 (impl_mark.calls (w:=_) (h:=A4.out)) ?_
 intro w12 hb
 replace BK527:=kB BK527 hb
 replace BK528:=kB BK528 hb
 replace HB:=lB hb
 (try clear hb)
 (try clear hb2)
 (try clear hk)
 (try clear hi)
 refine hK.out _ _ ⟨cA BK527 0,cA BK527 1,cA BK527 2,cA BK528 0,cA BK528 1,cA BK528 2⟩ (fun hHeld=>?_)
 clear hK K
 refine nmA ?_
 refine one_ (i:=10) (N:=some 17) #[Y,Y,Y,Y,Y,Y,Y,Y,Y,Y,Y,Z,Z,Z,Z,Z] rfl rfl (one_of HT_.out (by kernel_rfl)) (by decide) (fun K hK=>?_)
 refine goC Try.func43 (impl_mark.calls (w:=_) (h:=A5.out)) ?_
 intro w13 hb
 replace BK527:=kB BK527 hb
 replace BK528:=kB BK528 hb
 replace HB:=lB hb
 (try clear hb)
 (try clear hb2)
 (try clear hk)
 (try clear hi)
 refine hK.out _ _ ⟨cA BK527 0,cA BK527 1,cA BK527 2,cA BK528 0,cA BK528 1,cA BK528 2⟩ (fun hHeld=>?_)
 clear hK K
 refine nmA ?_
 refine puA (i:=11) (N:=some 18) #[Y,Y,Y,Y,Y,Y,Y,Y,Y,Y,Y,Y,Z,Z,Z,Z] rfl rfl HT_ ?_
 refine one_ (i:=12) (N:=some 19) #[Y,Y,Y,Y,Y,Y,Y,Y,Y,Y,Y,Y,Y,Z,Z,Z] rfl rfl (one_of HT_.out (by kernel_rfl)) (by decide) (fun K hK=>?_)
 refine goC Try.func63 (impl_valuation.calls (w:=_) (h:=A6.out)) ?_
 rintro _ ⟨nd,rfl⟩
 refine hK.out _ _ ⟨cA BK527 0,cA BK527 1,cA BK527 2,cA BK528 0,cA BK528 1,cA BK528 2⟩ (fun hHeld=>?_)
 clear hK K
 refine nmA ?_
 refine puA (i:=13) (N:=some 20) #[Y,Y,Y,Y,Y,Y,Y,Y,Y,Y,Y,Y,Y,Y,Z,Z] rfl rfl HT_ ?_
 refine puA (i:=14) (N:=some 21) #[Y,Y,Y,Y,Y,Y,Y,Y,Y,Y,Y,Y,Y,Y,Y,Z] rfl rfl HT_ ?_
 refine puA (i:=15) (N:=some 6) #[Y,Y,Y,Y,Y,Y,Y,Y,Y,Y,Y,Y,Y,Y,Y,Y] rfl rfl HT_ ?_
 refine done_ (done_of HT_.out (by kernel_rfl)) ?_
 try go_wp2
 go_ret
 exact ⟨by first|rfl|(simp [errW_none,errW_some] <;> rfl)|(simp only [← hji7,← hji8];first|rfl|(simp [errW_none,errW_some] <;> rfl))|(simp [*,errW_none,errW_some] <;> rfl),blA⟩
def impl_areEnds.l0:Nat→List (S27)→Int→Int→Option (Bool)
 | 0,_,_,_=>none
 | k+1,x5,x6,x7=>if x7<x6 then (if 0≤x7 then (if x7<(x5.length:Int) then ((impl_IsEnd.f k ((rd_T27 x5 x7).f0) ((rd_T27 x5 x7).f1)).bind fun t585=>(if t585=true then (impl_areEnds.l0 k x5 x6 (wrap64 (x7+1))) else (some false))) else (none)) else (none)) else (some true)
def impl_areEnds.f (k:Nat) (l0:List (S27)):Option (Bool):=impl_areEnds.l0 k l0 (l0.length:Int) 0
theorem impl_areEnds.mono_l:∀ k,(∀ y0 y1 y2,LeO (impl_areEnds.l0 k y0 y1 y2) (impl_areEnds.l0 (k+1) y0 y1 y2))
 | 0=>fun _ _ _ r h=>by simp [impl_areEnds.l0] at h
 | k+1=>by
  have ih0:=impl_areEnds.mono_l k
  ·
   intro y0 y1 y2
   unfold impl_areEnds.l0
   repeat' first
   | with_reducible first|exact ih0 ..|exact impl_IsEnd.mono ..|exact LeO.refl _|exact LeO.none _|refine LeO.ite ?_ ?_|refine LeO.bind ?_ fun _=>?_
theorem impl_areEnds.mono:∀ a0 k,LeO (impl_areEnds.f k a0) (impl_areEnds.f (k+1) a0):=by
 intro a0 k
 have ih0:=impl_areEnds.mono_l k
 unfold impl_areEnds.f
 repeat' first
   | with_reducible first|exact ih0 ..|exact impl_IsEnd.mono ..|exact LeO.refl _|exact LeO.none _|refine LeO.ite ?_ ?_|refine LeO.bind ?_ fun _=>?_
set_option maxHeartbeats 8000000 in
set_option maxRecDepth 100000 in
theorem impl_areEnds.calls (k:Nat) (A0:Option Addr) (c0:Nat) (l0:List (S27)) (r:Bool) (w:World) (hr0:Kd.C k27 w A0 l0.length l0) (hc0:l0.length≤c0) (h:impl_areEnds.f k l0=some r) :
  Calls Try.prog 73 #[.slice A0 l0.length c0] w fun e w'=>e=.returned (.bool r)∧Below w.heap.size w w':=by
 have hu27:=Try.underlying27
 have HR0:=Aside0.mk hr0
 have HC0:=Aside0.mk hc0
 clear hr0 hc0
 have HB:=Aside0.mk (Below.refl w.heap.size w)
 have H:=h
 unfold impl_areEnds.f at H
 clear h
 have H':=Aside0.mk H
 clear H
 go_enter Try.func73,Try.ntmps73
 go_wp2
 go_loopg [7] k (fun kq v7 w'=>∃ (x7_1:Int),v7=.int .i64 x7_1∧Aside0 (impl_areEnds.l0 kq l0 (l0.length:Int) x7_1=some r)∧Aside0 (kq≤k)∧Aside0 (Below w.heap.size w w'))
 case atStart=>exact ⟨(0),hB,H',⟨Nat.le_refl _⟩,⟨blA⟩⟩
 case round=>
  clear H'
  obtain ⟨x7_1,rfl,HA,HK1,HB⟩:=hrel
  cases gk with
  | zero=>exact absurd HA.out (by simp [impl_areEnds.l0])
  | succ k1=>
   have H:=HA.out
   clear HA
   simp only [impl_areEnds.l0] at H
   by_cases c2:x7_1<(l0.length:Int)
   ·
    rw [if_pos c2] at H
    have c2b0:=decide_eq_true c2
    clear c2
    by_cases c3:0≤x7_1
    rotate_left
    ·
     rw [if_neg c3] at H
     exact absurd H (by simp)
    rw [if_pos c3] at H
    have c3b0:=decide_eq_true c3
    clear c3
    by_cases c4:x7_1<(l0.length:Int)
    rotate_left
    ·
     rw [if_neg c4] at H
     exact absurd H (by simp)
    rw [if_pos c4] at H
    have c4b0:=decide_eq_true c4
    clear c4
    replace H:=bS H
    obtain ⟨t585,A5,H⟩:=H
    try dsimp only at H
    by_cases c6:t585=true
    focus
     subst c6
     rw [if_pos rfl] at H
     try dsimp only at H
     have H':=Aside0.mk H
     clear H
     have p583:0≤(x7_1:Int):=dA
     have q583:x7_1<(l0.length:Int):=dA
     obtain ⟨ad583,e583,hx583_0,hx583_1⟩:=at_T27 HR0.out x7_1 p583 q583
     cases e583
     replace hx583_0:=(HB.out.cell (World.block_lt_of_cell? w _ hx583_0)).trans hx583_0
     replace hx583_1:=(HB.out.cell (World.block_lt_of_cell? w _ hx583_1)).trans hx583_1
     replace p583:=eq_true p583
     replace q583:=eq_true q583
    rotate_left
    focus
     replace c6:=Bool.eq_false_iff.mpr c6
     subst c6
     rw [if_neg (show ¬ (false=true) by decide)] at H
     try dsimp only at H
     obtain rfl:=Option.some.inj H
     have p583:0≤(x7_1:Int):=dA
     have q583:x7_1<(l0.length:Int):=dA
     obtain ⟨ad583,e583,hx583_0,hx583_1⟩:=at_T27 HR0.out x7_1 p583 q583
     cases e583
     replace hx583_0:=(HB.out.cell (World.block_lt_of_cell? w _ hx583_0)).trans hx583_0
     replace hx583_1:=(HB.out.cell (World.block_lt_of_cell? w _ hx583_1)).trans hx583_1
     replace p583:=eq_true p583
     replace q583:=eq_true q583
    rotate_left
    all_goals
     go_wp2_with (first|((with_reducible refine gate_dst (N:=4) rfl ?_);refine bxE (cs:=#[.int .i64 0,.int .i64 0]) (t:=27) ?_;intro gb584 hg w7 hbox hb;have BK584:=Aside0.mk hbox;have GW584:=sA hg;have GE584:=sA hg;replace HB:=lB hb;clear hb hbox hg;obtain ⟨hcz8_0,hcz8_1,hfz8_0,hfz8_1⟩:=cz2 BK584)|((with_reducible refine gd 12 rfl ?_);refine gC (some 12) rfl Try.func28 (impl_IsEnd.calls (w:=_) (h:=A5.out)) ?_;intro w9 hb;have n0_:=Aside0.mk (blk_below (g:=gb584) (o:=.cells #[.int .i64 ((rd_T27 l0 x7_1).f0),.int .i64 ((rd_T27 l0 x7_1).f1)] 27 (0,0)) (bpA BK584) hb);have n1_:=lB hb;clear BK584;clear HB;have BK584:=n0_;have HB:=n1_;clear n0_ n1_;clear hb))
    ·
     go_roundg k1
     case measure=>have:=HK1.out;omega
     case rel=>exact ⟨(wrap64 (x7_1+1)),hB,H',⟨by have:=HK1.out;omega⟩,⟨blA⟩⟩
    ·
     go_ret
     exact finA blA
   ·
    rw [if_neg c2] at H
    have c2b0:=decide_eq_false c2
    clear c2
    obtain rfl:=Option.some.inj H
    go_wp2
    go_ret
    exact finA blA
def spec_l05Nearest.f (k:Nat) (a0 a1_0 a1_1 a1_2 a2_0 a2_1 a3_0 a3_1:Int):Option (Int × Int × Int):=if a3_1=0 then ((spec_l02Meet.f k a0 a1_0 a1_1 a1_2 a2_0 a2_1).bind fun t631=>(some (a2_0,a2_1,t631))) else (if a2_1=0 then ((spec_l02Meet.f k a0 a1_0 a1_1 a1_2 a3_0 a3_1).bind fun t632=>(some (a3_0,a3_1,t632))) else ((spec_l02Meet.f k a0 a1_0 a1_1 a1_2 a2_0 a2_1).bind fun t633=>((spec_l02Meet.f k a0 a1_0 a1_1 a1_2 a3_0 a3_1).bind fun t634=>((spec_l05Gap.f k a0 a2_0 a2_1 a3_0 a3_1).bind fun t635=>(if t633≥t634 then (some (a2_0,a2_1,mx t633 t635)) else (some (a3_0,a3_1,mx t634 t635)))))))
theorem spec_l05Nearest.mono:∀ a0 a1 a2 a3 a4 a5 a6 a7 k,LeO (spec_l05Nearest.f k a0 a1 a2 a3 a4 a5 a6 a7) (spec_l05Nearest.f (k+1) a0 a1 a2 a3 a4 a5 a6 a7):=by
 intro a0 a1 a2 a3 a4 a5 a6 a7 k
 unfold spec_l05Nearest.f
 repeat' first
   | with_reducible first|exact spec_l02Meet.mono ..|exact spec_l05Gap.mono ..|exact LeO.refl _|exact LeO.none _|refine LeO.ite ?_ ?_|refine LeO.bind ?_ fun _=>?_
def spec_l05Nearest.T5:Bool × List (List Nat × List Nat):=(true,[([],[]),([],[]),([],[]),([0,1,2],[0,1,2]),([],[]),([],[]),([],[]),([4,5,6,3],[4,5,6]),([],[]),([],[]),([],[]),([8,9,10,7],[8,9,10]),([3,11,0,1,2,3],[3]),([7,12,0,1,2,3,4,5,6,7,12],[7]),([11,13,0,1,2,3,4,5,6,7,8,9,10,11,12,13],[11])])
def spec_l05Nearest.B5:List Nat:=[0,0,0,7,0,0,0,127,0,0,0,2047,4095,8191,16383]
theorem spec_l05Nearest.tab5:rtab .any (opsOf Try.f44 5)=spec_l05Nearest.T5:=by kernel_rfl
theorem spec_l05Nearest.bits5:waitsOk spec_l05Nearest.T5.2 spec_l05Nearest.B5=true:=by kernel_rfl
set_option maxHeartbeats 8000000 in
set_option maxRecDepth 100000 in
theorem spec_l05Nearest.calls (k:Nat) (a0 a1_0 a1_1 a1_2 a2_0 a2_1 a3_0 a3_1 r1 r2 r3:Int) (w:World) (h:spec_l05Nearest.f k a0 a1_0 a1_1 a1_2 a2_0 a2_1 a3_0 a3_1=some (r1,r2,r3)) :
  Calls Try.prog 44 #[.int .i64 a0,.agg #[.int .i64 a1_0,.int .i64 a1_1,.int .i64 a1_2],.agg #[.int .i64 a2_0,.int .i64 a2_1],.agg #[.int .i64 a3_0,.int .i64 a3_1]] w fun e w'=>e=.returned (.tuple #[.agg #[.int .i64 r1,.int .i64 r2],.int .i64 r3])∧Below w.heap.size w w':=by
 have hu25:=Try.underlying25
 have hu27:=Try.underlying27
 have HB:=Aside0.mk (Below.refl w.heap.size w)
 have H:=h
 unfold spec_l05Nearest.f at H
 clear h
 by_cases c5:a3_1=0
 ·
  rw [if_pos c5] at H
  have c5b0:(a3_1 == 0)=true:=beq_iff_eq.mpr c5
  have c5b1:(a3_1 != 0)=false:=bne_eq_false_iff_eq.mpr c5
  clear c5
  replace H:=bS H
  obtain ⟨t631,A6,H⟩:=H
  try dsimp only at H
  simp only [Option.some.injEq,Prod.mk.injEq] at H
  obtain ⟨rfl,rfl,rfl⟩:=H
  go_enter Try.func44,Try.ntmps44
  try go_wp2_with (first|((with_reducible refine gate_dst (N:=5) rfl ?_);refine bxE (cs:=#[.int .i64 a1_0,.int .i64 a1_1,.int .i64 a1_2]) (t:=25) ?_;intro gb627 hg w7 hbox hb;have n0_:=lB hb;have n1_:=Aside0.mk hbox;have n2_:=sA hg;have n3_:=sA hg;clear HB;have HB:=n0_;have BK627:=n1_;have GW627:=n2_;have GE627:=n3_;clear n0_ n1_ n2_ n3_;clear hb hbox hg)|((with_reducible refine gate_dst (N:=6) rfl ?_);refine bxE (cs:=#[.int .i64 a2_0,.int .i64 a2_1]) (t:=27) ?_;intro gb628 hg w8 hbox hb;have n0_:=kB BK627 hb;have n1_:=lB hb;have n2_:=Aside0.mk hbox;have n3_:=sA hg;have n4_:=sA hg;have n5_:=nA hg BK627;have n6_:=nB hg BK627;clear BK627;clear HB;have BK627:=n0_;have HB:=n1_;have BK628:=n2_;have GW628:=n3_;have GE628:=n4_;have NB627_628:=n5_;have NB628_627:=n6_;clear n0_ n1_ n2_ n3_ n4_ n5_ n6_;clear hb hbox hg)|((with_reducible refine gate_dst (N:=7) rfl ?_);refine bxE (cs:=#[.int .i64 a3_0,.int .i64 a3_1]) (t:=27) ?_;intro gb629 hg w9 hbox hb;have n0_:=kB BK627 hb;have n1_:=kB BK628 hb;have n2_:=lB hb;have n3_:=Aside0.mk hbox;have n4_:=sA hg;have n5_:=sA hg;have n6_:=nA hg BK627;have n7_:=nB hg BK627;have n8_:=nA hg BK628;have n9_:=nB hg BK628;clear BK627;clear BK628;clear HB;have BK627:=n0_;have BK628:=n1_;have HB:=n2_;have BK629:=n3_;have GW629:=n4_;have GE629:=n5_;have NB627_629:=n6_;have NB629_627:=n7_;have NB628_629:=n8_;have NB629_628:=n9_;clear n0_ n1_ n2_ n3_ n4_ n5_ n6_ n7_ n8_ n9_;clear hb hbox hg)|((with_reducible refine gate_dst (N:=8) rfl ?_);refine bxE (cs:=#[.int .i64 0,.int .i64 0]) (t:=27) ?_;intro gb630 hg w10 hbox hb;have n0_:=kB BK627 hb;have n1_:=kB BK628 hb;have n2_:=kB BK629 hb;have n3_:=lB hb;have n4_:=Aside0.mk hbox;have n5_:=sA hg;have n6_:=sA hg;have n7_:=nA hg BK627;have n8_:=nB hg BK627;have n9_:=nA hg BK628;have n10_:=nB hg BK628;have n11_:=nA hg BK629;have n12_:=nB hg BK629;clear BK627;clear BK628;clear BK629;clear HB;have BK627:=n0_;have BK628:=n1_;have BK629:=n2_;have HB:=n3_;have BK630:=n4_;have GW630:=n5_;have GE630:=n6_;have NB627_630:=n7_;have NB630_627:=n8_;have NB628_630:=n9_;have NB630_628:=n10_;have NB629_630:=n11_;have NB630_629:=n12_;clear n0_ n1_ n2_ n3_ n4_ n5_ n6_ n7_ n8_ n9_ n10_ n11_ n12_;clear hb hbox hg;have hnb11:=NB629_627.out;have hnc11:=NB627_629.out;have hnb12:=NB629_628.out;have hnc12:=NB628_629.out;have hnb13:=NB629_630.out;have hnc13:=NB630_629.out;obtain ⟨hcz14_0,hcz14_1,hfz14_0,hfz14_1⟩:=cz2 BK629))
  have n0_:=Aside0.mk (blk_drew BK627.out)
  have n1_:=Aside0.mk (blk_drew BK628.out)
  have n2_:=Aside0.mk (blk_drew BK629.out)
  have n3_:=Aside0.mk (blk_drew BK630.out)
  have n4_:=Aside0.mk (below_drew1 HB.out)
  clear BK627
  clear BK628
  clear BK629
  clear BK630
  clear HB
  have BK627:=n0_
  have BK628:=n1_
  have BK629:=n2_
  have BK630:=n3_
  have HB:=n4_
  clear n0_ n1_ n2_ n3_ n4_
  refine start_ (n:=7) (S:=fun w'=>w'.cell? ⟨gb628,0,none⟩=some (.int .i64 a2_0)∧w'.cell? ⟨gb628,1,none⟩=some (.int .i64 a2_1)∧w'.cell? ⟨gb627,0,none⟩=some (.int .i64 a1_0)∧w'.cell? ⟨gb627,1,none⟩=some (.int .i64 a1_1)∧w'.cell? ⟨gb627,2,none⟩=some (.int .i64 a1_2)) (ds:=[]) #[Z,Z,Z,Z,Z,Z,Z] (by kernel_rfl) rfl rfl ⟨cA BK628 0,cA BK628 1,cA BK627 0,cA BK627 1,cA BK627 2⟩ (fun hHeld=>?_)
  generalize w10.drew=w15 at BK627 BK628 BK629 BK630 HB hHeld ⊢
  refine pure_ (i:=1) (N:=some 18) (v:=?_) (a':=?_) #[Z,Y,Z,Z,Z,Z,Z] rfl rfl (by kernel_rfl) (fun _ _ _ h=>h) (Or.inl ⟨by rfl,?_⟩) ?_ ?_
  rotate_left
  ·
   intro w'
   go_simp
   with_reducible rfl
  rotate_left
  ·
   simp only [pA]
   rfl
  refine take_ (i:=0) (N:=some 17) (v:=?_) (a':=?_) #[Y,Y,Z,Z,Z,Z,Z] rfl rfl (by kernel_rfl) (fun _ _ _ h=>h) (Or.inl ⟨by rfl,?_⟩) hHeld ?_ ?_
  rotate_left
  ·
   rintro w' ⟨s0,s1,s2,s3,s4⟩
   go_simp
   with_reducible rfl
  rotate_left
  ·
   simp only [pA]
   rfl
  refine take_ (i:=2) (N:=some 19) (v:=?_) (a':=?_) #[Y,Y,Y,Z,Z,Z,Z] rfl rfl (by kernel_rfl) (fun _ _ _ h=>h) (Or.inl ⟨by rfl,?_⟩) hHeld ?_ ?_
  rotate_left
  ·
   rintro w' ⟨s0,s1,s2,s3,s4⟩
   go_simp
   with_reducible rfl
  rotate_left
  ·
   simp only [pA]
   rfl
  refine take_ (i:=3) (N:=some 20) (v:=?_) (a':=?_) #[Y,Y,Y,Y,Z,Z,Z] rfl rfl (by kernel_rfl) (fun _ _ _ h=>h) (Or.inl ⟨by rfl,?_⟩) hHeld ?_ ?_
  rotate_left
  ·
   rintro w' ⟨s0,s1,s2,s3,s4⟩
   go_simp
   with_reducible rfl
  rotate_left
  ·
   simp only [pA]
   rfl
  refine one_ (i:=4) (N:=some 21) #[Y,Y,Y,Y,Y,Z,Z] rfl rfl (by kernel_rfl) (by decide) (fun K hK=>?_)
  refine goC Try.func76 (spec_l02Meet.calls (w:=_) (h:=A6.out)) ?_
  intro w16 hb
  replace BK627:=kB BK627 hb
  replace BK628:=kB BK628 hb
  replace BK629:=kB BK629 hb
  replace BK630:=kB BK630 hb
  replace HB:=lB hb
  (try clear hb)
  (try clear hb2)
  (try clear hk)
  (try clear hi)
  refine hK.out _ _ ⟨cA BK628 0,cA BK628 1,cA BK627 0,cA BK627 1,cA BK627 2⟩ (fun hHeld=>?_)
  clear hK K
  refine nmA ?_
  refine one_ (i:=5) (N:=none) #[Y,Y,Y,Y,Y,Y,Z] rfl rfl (by kernel_rfl) (by decide) (fun K hK=>?_)
  have hs17:w16.cell? ⟨gb630,0,none⟩=some (.int .i64 0):=cA BK630 0
  have hfs17:=blk_frozen BK630.out 0
  have hns17_0:=NB627_630.out
  have hns17_1:=NB628_630.out
  have hns17_2:=NB629_630.out
  have hms17_0:=NB630_627.out
  have hms17_1:=NB630_628.out
  have hms17_2:=NB630_629.out
  have hs18:w16.cell? ⟨gb630,1,none⟩=some (.int .i64 0):=cA BK630 1
  have hfs18:=blk_frozen BK630.out 1
  have hns18_0:=NB627_630.out
  have hns18_1:=NB628_630.out
  have hns18_2:=NB629_630.out
  have hms18_0:=NB630_627.out
  have hms18_1:=NB630_628.out
  have hms18_2:=NB630_629.out
  refine skip_ (w1:=?_) (by rfl) rfl ?_ ?_
  rotate_left
  ·
   go_simp
   rfl
  refine hK.out _ _ ⟨cfA hHeld.1,cfA hHeld.2.1,cfA hHeld.2.2.1,cfA hHeld.2.2.2.1,cfA hHeld.2.2.2.2⟩ (fun hHeld=>?_)
  clear hK K
  refine pure_ (i:=6) (N:=some 9) (v:=?_) (a':=?_) #[Y,Y,Y,Y,Y,Y,Y] rfl rfl (by kernel_rfl) (fun _ _ _ h=>h) (Or.inl ⟨by rfl,?_⟩) ?_ ?_
  rotate_left
  ·
   intro w'
   go_simp
   with_reducible rfl
  rotate_left
  ·
   simp only [pA]
   rfl
  refine done_ (by kernel_rfl) ?_
  try go_wp2
  refine bodyPost_ret (results_ct rfl _ _ gb630 27 #[.int .i64 a2_0,.int .i64 a2_1] (0,0) _ rfl (bpA BK630) Try.underlying27 rfl (by kernel_rfl)) rfl ?_
  exact finA blA
 ·
  rw [if_neg c5] at H
  have c5b0:(a3_1 == 0)=false:=beq_eq_false_iff_ne.mpr c5
  have c5b1:(a3_1 != 0)=true:=bne_iff_ne.mpr c5
  by_cases c19:a2_1=0
  focus
   rw [if_pos c19] at H
   have c19b0:(a2_1 == 0)=true:=beq_iff_eq.mpr c19
   have c19b1:(a2_1 != 0)=false:=bne_eq_false_iff_eq.mpr c19
   clear c19
   replace H:=bS H
   obtain ⟨t632,A20,H⟩:=H
   try dsimp only at H
   simp only [Option.some.injEq,Prod.mk.injEq] at H
   obtain ⟨rfl,rfl,rfl⟩:=H
  rotate_left
  focus
   rw [if_neg c19] at H
   have c19b0:(a2_1 == 0)=false:=beq_eq_false_iff_ne.mpr c19
   have c19b1:(a2_1 != 0)=true:=bne_iff_ne.mpr c19
   replace H:=bS H
   obtain ⟨t633,A36,H⟩:=H
   try dsimp only at H
   replace H:=bS H
   obtain ⟨t634,A37,H⟩:=H
   try dsimp only at H
   replace H:=bS H
   obtain ⟨t635,A38,H⟩:=H
   try dsimp only at H
   by_cases c39:t633≥t634
   focus
    rw [if_pos c39] at H
    have c39b0:decide (t634≤t633)=true:=decide_eq_true c39
    clear c39
    obtain ⟨ji40,hji40⟩:∃ j_:Int,(mx t633 t635)=j_:=⟨_,rfl⟩
    replace H:(some (a2_0,a2_1,ji40))=some (r1,r2,r3):=by first|(rw [hji40] at H;exact H)|(simp only [hji40] at H ⊢;exact H)
    (try rw [hji40] at A36)
    (try rw [hji40] at A37)
    (try rw [hji40] at A38)
    have hji40_:(if t633<t635 then t635 else t633)=ji40:=hji40
    simp only [Option.some.injEq,Prod.mk.injEq] at H
    obtain ⟨rfl,rfl,rfl⟩:=H
   rotate_left
   focus
    rw [if_neg c39] at H
    have c39b0:decide (t634≤t633)=false:=decide_eq_false c39
    clear c39
    obtain ⟨ji59,hji59⟩:∃ j_:Int,(mx t634 t635)=j_:=⟨_,rfl⟩
    replace H:(some (a3_0,a3_1,ji59))=some (r1,r2,r3):=by first|(rw [hji59] at H;exact H)|(simp only [hji59] at H ⊢;exact H)
    (try rw [hji59] at A36)
    (try rw [hji59] at A37)
    (try rw [hji59] at A38)
    have hji59_:(if t634<t635 then t635 else t634)=ji59:=hji59
    simp only [Option.some.injEq,Prod.mk.injEq] at H
    obtain ⟨rfl,rfl,rfl⟩:=H
   rotate_left
  rotate_left 2
  all_goals
   go_enter Try.func44,Try.ntmps44
  ·
   try go_wp2_with (first|((with_reducible refine gate_dst (N:=5) rfl ?_);refine bxE (cs:=#[.int .i64 a1_0,.int .i64 a1_1,.int .i64 a1_2]) (t:=25) ?_;intro gb627 hg w21 hbox hb;have n0_:=lB hb;have n1_:=Aside0.mk hbox;have n2_:=sA hg;have n3_:=sA hg;clear HB;have HB:=n0_;have BK627:=n1_;have GW627:=n2_;have GE627:=n3_;clear n0_ n1_ n2_ n3_;clear hb hbox hg)|((with_reducible refine gate_dst (N:=6) rfl ?_);refine bxE (cs:=#[.int .i64 a2_0,.int .i64 a2_1]) (t:=27) ?_;intro gb628 hg w22 hbox hb;have n0_:=kB BK627 hb;have n1_:=lB hb;have n2_:=Aside0.mk hbox;have n3_:=sA hg;have n4_:=sA hg;have n5_:=nA hg BK627;have n6_:=nB hg BK627;clear BK627;clear HB;have BK627:=n0_;have HB:=n1_;have BK628:=n2_;have GW628:=n3_;have GE628:=n4_;have NB627_628:=n5_;have NB628_627:=n6_;clear n0_ n1_ n2_ n3_ n4_ n5_ n6_;clear hb hbox hg)|((with_reducible refine gate_dst (N:=7) rfl ?_);refine bxE (cs:=#[.int .i64 a3_0,.int .i64 a3_1]) (t:=27) ?_;intro gb629 hg w23 hbox hb;have n0_:=kB BK627 hb;have n1_:=kB BK628 hb;have n2_:=lB hb;have n3_:=Aside0.mk hbox;have n4_:=sA hg;have n5_:=sA hg;have n6_:=nA hg BK627;have n7_:=nB hg BK627;have n8_:=nA hg BK628;have n9_:=nB hg BK628;clear BK627;clear BK628;clear HB;have BK627:=n0_;have BK628:=n1_;have HB:=n2_;have BK629:=n3_;have GW629:=n4_;have GE629:=n5_;have NB627_629:=n6_;have NB629_627:=n7_;have NB628_629:=n8_;have NB629_628:=n9_;clear n0_ n1_ n2_ n3_ n4_ n5_ n6_ n7_ n8_ n9_;clear hb hbox hg)|((with_reducible refine gate_dst (N:=8) rfl ?_);refine bxE (cs:=#[.int .i64 0,.int .i64 0]) (t:=27) ?_;intro gb630 hg w24 hbox hb;have n0_:=kB BK627 hb;have n1_:=kB BK628 hb;have n2_:=kB BK629 hb;have n3_:=lB hb;have n4_:=Aside0.mk hbox;have n5_:=sA hg;have n6_:=sA hg;have n7_:=nA hg BK627;have n8_:=nB hg BK627;have n9_:=nA hg BK628;have n10_:=nB hg BK628;have n11_:=nA hg BK629;have n12_:=nB hg BK629;clear BK627;clear BK628;clear BK629;clear HB;have BK627:=n0_;have BK628:=n1_;have BK629:=n2_;have HB:=n3_;have BK630:=n4_;have GW630:=n5_;have GE630:=n6_;have NB627_630:=n7_;have NB630_627:=n8_;have NB628_630:=n9_;have NB630_628:=n10_;have NB629_630:=n11_;have NB630_629:=n12_;clear n0_ n1_ n2_ n3_ n4_ n5_ n6_ n7_ n8_ n9_ n10_ n11_ n12_;clear hb hbox hg;have hnb25:=NB629_627.out;have hnc25:=NB627_629.out;have hnb26:=NB629_628.out;have hnc26:=NB628_629.out;have hnb27:=NB629_630.out;have hnc27:=NB630_629.out;obtain ⟨hcz28_0,hcz28_1,hfz28_0,hfz28_1⟩:=cz2 BK629;have hnb29:=NB628_627.out;have hnc29:=NB627_628.out;have hnb30:=NB628_630.out;have hnc30:=NB630_628.out;obtain ⟨hcz31_0,hcz31_1,hfz31_0,hfz31_1⟩:=cz2 BK628))
   have n0_:=Aside0.mk (blk_drew BK627.out)
   have n1_:=Aside0.mk (blk_drew BK628.out)
   have n2_:=Aside0.mk (blk_drew BK629.out)
   have n3_:=Aside0.mk (blk_drew BK630.out)
   have n4_:=Aside0.mk (below_drew1 HB.out)
   clear BK627
   clear BK628
   clear BK629
   clear BK630
   clear HB
   have BK627:=n0_
   have BK628:=n1_
   have BK629:=n2_
   have BK630:=n3_
   have HB:=n4_
   clear n0_ n1_ n2_ n3_ n4_
   refine start_ (n:=7) (S:=fun w'=>w'.cell? ⟨gb629,0,none⟩=some (.int .i64 a3_0)∧w'.cell? ⟨gb629,1,none⟩=some (.int .i64 a3_1)∧w'.cell? ⟨gb627,0,none⟩=some (.int .i64 a1_0)∧w'.cell? ⟨gb627,1,none⟩=some (.int .i64 a1_1)∧w'.cell? ⟨gb627,2,none⟩=some (.int .i64 a1_2)) (ds:=[]) #[Z,Z,Z,Z,Z,Z,Z] (by kernel_rfl) rfl rfl ⟨cA BK629 0,cA BK629 1,cA BK627 0,cA BK627 1,cA BK627 2⟩ (fun hHeld=>?_)
   generalize w24.drew=w32 at BK627 BK628 BK629 BK630 HB hHeld ⊢
   refine pure_ (i:=1) (N:=some 27) (v:=?_) (a':=?_) #[Z,Y,Z,Z,Z,Z,Z] rfl rfl (by kernel_rfl) (fun _ _ _ h=>h) (Or.inl ⟨by rfl,?_⟩) ?_ ?_
   rotate_left
   ·
    intro w'
    go_simp
    with_reducible rfl
   rotate_left
   ·
    simp only [pA]
    rfl
   refine take_ (i:=0) (N:=some 26) (v:=?_) (a':=?_) #[Y,Y,Z,Z,Z,Z,Z] rfl rfl (by kernel_rfl) (fun _ _ _ h=>h) (Or.inl ⟨by rfl,?_⟩) hHeld ?_ ?_
   rotate_left
   ·
    rintro w' ⟨s0,s1,s2,s3,s4⟩
    go_simp
    with_reducible rfl
   rotate_left
   ·
    simp only [pA]
    rfl
   refine take_ (i:=2) (N:=some 28) (v:=?_) (a':=?_) #[Y,Y,Y,Z,Z,Z,Z] rfl rfl (by kernel_rfl) (fun _ _ _ h=>h) (Or.inl ⟨by rfl,?_⟩) hHeld ?_ ?_
   rotate_left
   ·
    rintro w' ⟨s0,s1,s2,s3,s4⟩
    go_simp
    with_reducible rfl
   rotate_left
   ·
    simp only [pA]
    rfl
   refine take_ (i:=3) (N:=some 29) (v:=?_) (a':=?_) #[Y,Y,Y,Y,Z,Z,Z] rfl rfl (by kernel_rfl) (fun _ _ _ h=>h) (Or.inl ⟨by rfl,?_⟩) hHeld ?_ ?_
   rotate_left
   ·
    rintro w' ⟨s0,s1,s2,s3,s4⟩
    go_simp
    with_reducible rfl
   rotate_left
   ·
    simp only [pA]
    rfl
   refine one_ (i:=4) (N:=some 30) #[Y,Y,Y,Y,Y,Z,Z] rfl rfl (by kernel_rfl) (by decide) (fun K hK=>?_)
   refine goC Try.func76 (spec_l02Meet.calls (w:=_) (h:=A20.out)) ?_
   intro w33 hb
   replace BK627:=kB BK627 hb
   replace BK628:=kB BK628 hb
   replace BK629:=kB BK629 hb
   replace BK630:=kB BK630 hb
   replace HB:=lB hb
   (try clear hb)
   (try clear hb2)
   (try clear hk)
   (try clear hi)
   refine hK.out _ _ ⟨cA BK629 0,cA BK629 1,cA BK627 0,cA BK627 1,cA BK627 2⟩ (fun hHeld=>?_)
   clear hK K
   refine nmA ?_
   refine one_ (i:=5) (N:=none) #[Y,Y,Y,Y,Y,Y,Z] rfl rfl (by kernel_rfl) (by decide) (fun K hK=>?_)
   have hs34:w33.cell? ⟨gb630,0,none⟩=some (.int .i64 0):=cA BK630 0
   have hfs34:=blk_frozen BK630.out 0
   have hns34_0:=NB627_630.out
   have hns34_1:=NB628_630.out
   have hns34_2:=NB629_630.out
   have hms34_0:=NB630_627.out
   have hms34_1:=NB630_628.out
   have hms34_2:=NB630_629.out
   have hs35:w33.cell? ⟨gb630,1,none⟩=some (.int .i64 0):=cA BK630 1
   have hfs35:=blk_frozen BK630.out 1
   have hns35_0:=NB627_630.out
   have hns35_1:=NB628_630.out
   have hns35_2:=NB629_630.out
   have hms35_0:=NB630_627.out
   have hms35_1:=NB630_628.out
   have hms35_2:=NB630_629.out
   refine skip_ (w1:=?_) (by rfl) rfl ?_ ?_
   rotate_left
   ·
    go_simp
    rfl
   refine hK.out _ _ ⟨cfA hHeld.1,cfA hHeld.2.1,cfA hHeld.2.2.1,cfA hHeld.2.2.2.1,cfA hHeld.2.2.2.2⟩ (fun hHeld=>?_)
   clear hK K
   refine pure_ (i:=6) (N:=some 9) (v:=?_) (a':=?_) #[Y,Y,Y,Y,Y,Y,Y] rfl rfl (by kernel_rfl) (fun _ _ _ h=>h) (Or.inl ⟨by rfl,?_⟩) ?_ ?_
   rotate_left
   ·
    intro w'
    go_simp
    with_reducible rfl
   rotate_left
   ·
    simp only [pA]
    rfl
   refine done_ (by kernel_rfl) ?_
   try go_wp2
   refine bodyPost_ret (results_ct rfl _ _ gb630 27 #[.int .i64 a3_0,.int .i64 a3_1] (0,0) _ rfl (bpA BK630) Try.underlying27 rfl (by kernel_rfl)) rfl ?_
   exact finA blA
  rotate_left 2
  all_goals
   try go_wp2_with (first|((with_reducible refine gate_dst (N:=5) rfl ?_);refine bxE (cs:=#[.int .i64 a1_0,.int .i64 a1_1,.int .i64 a1_2]) (t:=25) ?_;intro gb627 hg w41 hbox hb;have n0_:=lB hb;have n1_:=Aside0.mk hbox;have n2_:=sA hg;have n3_:=sA hg;clear HB;have HB:=n0_;have BK627:=n1_;have GW627:=n2_;have GE627:=n3_;clear n0_ n1_ n2_ n3_;clear hb hbox hg)|((with_reducible refine gate_dst (N:=6) rfl ?_);refine bxE (cs:=#[.int .i64 a2_0,.int .i64 a2_1]) (t:=27) ?_;intro gb628 hg w42 hbox hb;have n0_:=kB BK627 hb;have n1_:=lB hb;have n2_:=Aside0.mk hbox;have n3_:=sA hg;have n4_:=sA hg;have n5_:=nA hg BK627;have n6_:=nB hg BK627;clear BK627;clear HB;have BK627:=n0_;have HB:=n1_;have BK628:=n2_;have GW628:=n3_;have GE628:=n4_;have NB627_628:=n5_;have NB628_627:=n6_;clear n0_ n1_ n2_ n3_ n4_ n5_ n6_;clear hb hbox hg)|((with_reducible refine gate_dst (N:=7) rfl ?_);refine bxE (cs:=#[.int .i64 a3_0,.int .i64 a3_1]) (t:=27) ?_;intro gb629 hg w43 hbox hb;have n0_:=kB BK627 hb;have n1_:=kB BK628 hb;have n2_:=lB hb;have n3_:=Aside0.mk hbox;have n4_:=sA hg;have n5_:=sA hg;have n6_:=nA hg BK627;have n7_:=nB hg BK627;have n8_:=nA hg BK628;have n9_:=nB hg BK628;clear BK627;clear BK628;clear HB;have BK627:=n0_;have BK628:=n1_;have HB:=n2_;have BK629:=n3_;have GW629:=n4_;have GE629:=n5_;have NB627_629:=n6_;have NB629_627:=n7_;have NB628_629:=n8_;have NB629_628:=n9_;clear n0_ n1_ n2_ n3_ n4_ n5_ n6_ n7_ n8_ n9_;clear hb hbox hg)|((with_reducible refine gate_dst (N:=8) rfl ?_);refine bxE (cs:=#[.int .i64 0,.int .i64 0]) (t:=27) ?_;intro gb630 hg w44 hbox hb;have n0_:=kB BK627 hb;have n1_:=kB BK628 hb;have n2_:=kB BK629 hb;have n3_:=lB hb;have n4_:=Aside0.mk hbox;have n5_:=sA hg;have n6_:=sA hg;have n7_:=nA hg BK627;have n8_:=nB hg BK627;have n9_:=nA hg BK628;have n10_:=nB hg BK628;have n11_:=nA hg BK629;have n12_:=nB hg BK629;clear BK627;clear BK628;clear BK629;clear HB;have BK627:=n0_;have BK628:=n1_;have BK629:=n2_;have HB:=n3_;have BK630:=n4_;have GW630:=n5_;have GE630:=n6_;have NB627_630:=n7_;have NB630_627:=n8_;have NB628_630:=n9_;have NB630_628:=n10_;have NB629_630:=n11_;have NB630_629:=n12_;clear n0_ n1_ n2_ n3_ n4_ n5_ n6_ n7_ n8_ n9_ n10_ n11_ n12_;clear hb hbox hg;have hnb45:=NB629_627.out;have hnc45:=NB627_629.out;have hnb46:=NB629_628.out;have hnc46:=NB628_629.out;have hnb47:=NB629_630.out;have hnc47:=NB630_629.out;obtain ⟨hcz48_0,hcz48_1,hfz48_0,hfz48_1⟩:=cz2 BK629;have hnb49:=NB628_627.out;have hnc49:=NB627_628.out;have hnb50:=NB628_630.out;have hnc50:=NB630_628.out;obtain ⟨hcz51_0,hcz51_1,hfz51_0,hfz51_1⟩:=cz2 BK628))
   have n0_:=Aside0.mk (blk_drew BK627.out)
   have n1_:=Aside0.mk (blk_drew BK628.out)
   have n2_:=Aside0.mk (blk_drew BK629.out)
   have n3_:=Aside0.mk (blk_drew BK630.out)
   have n4_:=Aside0.mk (below_drew1 HB.out)
   clear BK627
   clear BK628
   clear BK629
   clear BK630
   clear HB
   have BK627:=n0_
   have BK628:=n1_
   have BK629:=n2_
   have BK630:=n3_
   have HB:=n4_
   clear n0_ n1_ n2_ n3_ n4_
  ·
   refine start_ (n:=15) (S:=fun w'=>w'.cell? ⟨gb627,0,none⟩=some (.int .i64 a1_0)∧w'.cell? ⟨gb627,1,none⟩=some (.int .i64 a1_1)∧w'.cell? ⟨gb627,2,none⟩=some (.int .i64 a1_2)∧w'.cell? ⟨gb628,0,none⟩=some (.int .i64 a2_0)∧w'.cell? ⟨gb628,1,none⟩=some (.int .i64 a2_1)∧w'.cell? ⟨gb629,0,none⟩=some (.int .i64 a3_0)∧w'.cell? ⟨gb629,1,none⟩=some (.int .i64 a3_1)) (ds:=[]) #[Z,Z,Z,Z,Z,Z,Z,Z,Z,Z,Z,Z,Z,Z,Z] (by kernel_rfl) rfl rfl ⟨cA BK627 0,cA BK627 1,cA BK627 2,cA BK628 0,cA BK628 1,cA BK629 0,cA BK629 1⟩ (fun hHeld=>?_);refine with_tabW spec_l05Nearest.tab5 spec_l05Nearest.bits5 (fun HT_ HW_=>?_)
   generalize w44.drew=w52 at BK627 BK628 BK629 BK630 HB hHeld ⊢
   refine puA (i:=0) (N:=some 31) #[Y,Z,Z,Z,Z,Z,Z,Z,Z,Z,Z,Z,Z,Z,Z] rfl rfl HT_ ?_
   refine puA (i:=4) (N:=some 35) #[Y,Z,Z,Z,Y,Z,Z,Z,Z,Z,Z,Z,Z,Z,Z] rfl rfl HT_ ?_
   refine puA (i:=8) (N:=some 39) #[Y,Z,Z,Z,Y,Z,Z,Z,Y,Z,Z,Z,Z,Z,Z] rfl rfl HT_ ?_
   refine taA (i:=1) (N:=some 32) #[Y,Y,Z,Z,Y,Z,Z,Z,Y,Z,Z,Z,Z,Z,Z] rfl rfl HT_ HW_ hHeld ?_
   refine taA (i:=2) (N:=some 33) #[Y,Y,Y,Z,Y,Z,Z,Z,Y,Z,Z,Z,Z,Z,Z] rfl rfl HT_ HW_ hHeld ?_
   refine taA (i:=5) (N:=some 36) #[Y,Y,Y,Z,Y,Y,Z,Z,Y,Z,Z,Z,Z,Z,Z] rfl rfl HT_ HW_ hHeld ?_
   refine taA (i:=6) (N:=some 37) #[Y,Y,Y,Z,Y,Y,Y,Z,Y,Z,Z,Z,Z,Z,Z] rfl rfl HT_ HW_ hHeld ?_
   refine taA (i:=9) (N:=some 40) #[Y,Y,Y,Z,Y,Y,Y,Z,Y,Y,Z,Z,Z,Z,Z] rfl rfl HT_ HW_ hHeld ?_
   refine taA (i:=10) (N:=some 41) #[Y,Y,Y,Z,Y,Y,Y,Z,Y,Y,Y,Z,Z,Z,Z] rfl rfl HT_ HW_ hHeld ?_
   refine one_ (i:=3) (N:=some 34) #[Y,Y,Y,Y,Y,Y,Y,Z,Y,Y,Y,Z,Z,Z,Z] rfl rfl (one_of HT_.out (by kernel_rfl)) (by decide) (fun K hK=>?_)
   refine goC Try.func76 (spec_l02Meet.calls (w:=_) (h:=A36.out)) ?_
   intro w53 hb
   replace BK627:=kB BK627 hb
   replace BK628:=kB BK628 hb
   replace BK629:=kB BK629 hb
   replace BK630:=kB BK630 hb
   replace HB:=lB hb
   (try clear hb)
   (try clear hb2)
   (try clear hk)
   (try clear hi)
   refine hK.out _ _ ⟨cA BK627 0,cA BK627 1,cA BK627 2,cA BK628 0,cA BK628 1,cA BK629 0,cA BK629 1⟩ (fun hHeld=>?_)
   clear hK K
   refine nmA ?_
   refine one_ (i:=7) (N:=some 38) #[Y,Y,Y,Y,Y,Y,Y,Y,Y,Y,Y,Z,Z,Z,Z] rfl rfl (one_of HT_.out (by kernel_rfl)) (by decide) (fun K hK=>?_)
   refine goC Try.func76 (spec_l02Meet.calls (w:=_) (h:=A37.out)) ?_
   intro w54 hb
   replace BK627:=kB BK627 hb
   replace BK628:=kB BK628 hb
   replace BK629:=kB BK629 hb
   replace BK630:=kB BK630 hb
   replace HB:=lB hb
   (try clear hb)
   (try clear hb2)
   (try clear hk)
   (try clear hi)
   refine hK.out _ _ ⟨cA BK627 0,cA BK627 1,cA BK627 2,cA BK628 0,cA BK628 1,cA BK629 0,cA BK629 1⟩ (fun hHeld=>?_)
   clear hK K
   refine nmA ?_
   refine one_ (i:=11) (N:=some 42) #[Y,Y,Y,Y,Y,Y,Y,Y,Y,Y,Y,Y,Z,Z,Z] rfl rfl (one_of HT_.out (by kernel_rfl)) (by decide) (fun K hK=>?_)
   refine goC Try.func78 (spec_l05Gap.calls (w:=_) (h:=A38.out)) ?_
   intro w55 hb
   replace BK627:=kB BK627 hb
   replace BK628:=kB BK628 hb
   replace BK629:=kB BK629 hb
   replace BK630:=kB BK630 hb
   replace HB:=lB hb
   (try clear hb)
   (try clear hb2)
   (try clear hk)
   (try clear hi)
   refine hK.out _ _ ⟨cA BK627 0,cA BK627 1,cA BK627 2,cA BK628 0,cA BK628 1,cA BK629 0,cA BK629 1⟩ (fun hHeld=>?_)
   clear hK K
   refine nmA ?_
   refine puA (i:=12) (N:=some 10) #[Y,Y,Y,Y,Y,Y,Y,Y,Y,Y,Y,Y,Y,Z,Z] rfl rfl HT_ ?_
   refine puA (i:=13) (N:=some 11) #[Y,Y,Y,Y,Y,Y,Y,Y,Y,Y,Y,Y,Y,Y,Z] rfl rfl HT_ ?_
   refine puA (i:=14) (N:=some 12) #[Y,Y,Y,Y,Y,Y,Y,Y,Y,Y,Y,Y,Y,Y,Y] rfl rfl HT_ ?_
   refine done_ (done_of HT_.out (by kernel_rfl)) ?_
   obtain ⟨hcz56_0,hcz56_1,hfz56_0,hfz56_1⟩:=cz2 BK628
   have hnb57:=NB630_627.out
   have hnc57:=NB627_630.out
   obtain ⟨hcz58_0,hcz58_1,hfz58_0,hfz58_1⟩:=cz2 BK630
   try go_wp2
   refine bodyPost_ret (results_ct rfl _ _ gb630 27 #[.int .i64 a2_0,.int .i64 a2_1] (0,0) _ rfl (bpA BK630) Try.underlying27 rfl (by kernel_rfl)) rfl ?_
   exact ⟨by first|rfl|(simp [errW_none,errW_some] <;> rfl)|(simp only [← hji40];first|rfl|(simp [errW_none,errW_some] <;> rfl))|(simp [*,errW_none,errW_some] <;> rfl),blA⟩
  ·
   refine start_ (n:=15) (S:=fun w'=>w'.cell? ⟨gb627,0,none⟩=some (.int .i64 a1_0)∧w'.cell? ⟨gb627,1,none⟩=some (.int .i64 a1_1)∧w'.cell? ⟨gb627,2,none⟩=some (.int .i64 a1_2)∧w'.cell? ⟨gb628,0,none⟩=some (.int .i64 a2_0)∧w'.cell? ⟨gb628,1,none⟩=some (.int .i64 a2_1)∧w'.cell? ⟨gb629,0,none⟩=some (.int .i64 a3_0)∧w'.cell? ⟨gb629,1,none⟩=some (.int .i64 a3_1)) (ds:=[]) #[Z,Z,Z,Z,Z,Z,Z,Z,Z,Z,Z,Z,Z,Z,Z] (by kernel_rfl) rfl rfl ⟨cA BK627 0,cA BK627 1,cA BK627 2,cA BK628 0,cA BK628 1,cA BK629 0,cA BK629 1⟩ (fun hHeld=>?_);refine with_tabW spec_l05Nearest.tab5 spec_l05Nearest.bits5 (fun HT_ HW_=>?_)
   generalize w44.drew=w71 at BK627 BK628 BK629 BK630 HB hHeld ⊢
   refine puA (i:=0) (N:=some 31) #[Y,Z,Z,Z,Z,Z,Z,Z,Z,Z,Z,Z,Z,Z,Z] rfl rfl HT_ ?_
   refine puA (i:=4) (N:=some 35) #[Y,Z,Z,Z,Y,Z,Z,Z,Z,Z,Z,Z,Z,Z,Z] rfl rfl HT_ ?_
   refine puA (i:=8) (N:=some 39) #[Y,Z,Z,Z,Y,Z,Z,Z,Y,Z,Z,Z,Z,Z,Z] rfl rfl HT_ ?_
   refine taA (i:=1) (N:=some 32) #[Y,Y,Z,Z,Y,Z,Z,Z,Y,Z,Z,Z,Z,Z,Z] rfl rfl HT_ HW_ hHeld ?_
   refine taA (i:=2) (N:=some 33) #[Y,Y,Y,Z,Y,Z,Z,Z,Y,Z,Z,Z,Z,Z,Z] rfl rfl HT_ HW_ hHeld ?_
   refine taA (i:=5) (N:=some 36) #[Y,Y,Y,Z,Y,Y,Z,Z,Y,Z,Z,Z,Z,Z,Z] rfl rfl HT_ HW_ hHeld ?_
   refine taA (i:=6) (N:=some 37) #[Y,Y,Y,Z,Y,Y,Y,Z,Y,Z,Z,Z,Z,Z,Z] rfl rfl HT_ HW_ hHeld ?_
   refine taA (i:=9) (N:=some 40) #[Y,Y,Y,Z,Y,Y,Y,Z,Y,Y,Z,Z,Z,Z,Z] rfl rfl HT_ HW_ hHeld ?_
   refine taA (i:=10) (N:=some 41) #[Y,Y,Y,Z,Y,Y,Y,Z,Y,Y,Y,Z,Z,Z,Z] rfl rfl HT_ HW_ hHeld ?_
   refine one_ (i:=3) (N:=some 34) #[Y,Y,Y,Y,Y,Y,Y,Z,Y,Y,Y,Z,Z,Z,Z] rfl rfl (one_of HT_.out (by kernel_rfl)) (by decide) (fun K hK=>?_)
   refine goC Try.func76 (spec_l02Meet.calls (w:=_) (h:=A36.out)) ?_
   intro w72 hb
   replace BK627:=kB BK627 hb
   replace BK628:=kB BK628 hb
   replace BK629:=kB BK629 hb
   replace BK630:=kB BK630 hb
   replace HB:=lB hb
   (try clear hb)
   (try clear hb2)
   (try clear hk)
   (try clear hi)
   refine hK.out _ _ ⟨cA BK627 0,cA BK627 1,cA BK627 2,cA BK628 0,cA BK628 1,cA BK629 0,cA BK629 1⟩ (fun hHeld=>?_)
   clear hK K
   refine nmA ?_
   refine one_ (i:=7) (N:=some 38) #[Y,Y,Y,Y,Y,Y,Y,Y,Y,Y,Y,Z,Z,Z,Z] rfl rfl (one_of HT_.out (by kernel_rfl)) (by decide) (fun K hK=>?_)
   refine goC Try.func76 (spec_l02Meet.calls (w:=_) (h:=A37.out)) ?_
   intro w73 hb
   replace BK627:=kB BK627 hb
   replace BK628:=kB BK628 hb
   replace BK629:=kB BK629 hb
   replace BK630:=kB BK630 hb
   replace HB:=lB hb
   (try clear hb)
   (try clear hb2)
   (try clear hk)
   (try clear hi)
   refine hK.out _ _ ⟨cA BK627 0,cA BK627 1,cA BK627 2,cA BK628 0,cA BK628 1,cA BK629 0,cA BK629 1⟩ (fun hHeld=>?_)
   clear hK K
   refine nmA ?_
   refine one_ (i:=11) (N:=some 42) #[Y,Y,Y,Y,Y,Y,Y,Y,Y,Y,Y,Y,Z,Z,Z] rfl rfl (one_of HT_.out (by kernel_rfl)) (by decide) (fun K hK=>?_)
   refine goC Try.func78 (spec_l05Gap.calls (w:=_) (h:=A38.out)) ?_
   intro w74 hb
   replace BK627:=kB BK627 hb
   replace BK628:=kB BK628 hb
   replace BK629:=kB BK629 hb
   replace BK630:=kB BK630 hb
   replace HB:=lB hb
   (try clear hb)
   (try clear hb2)
   (try clear hk)
   (try clear hi)
   refine hK.out _ _ ⟨cA BK627 0,cA BK627 1,cA BK627 2,cA BK628 0,cA BK628 1,cA BK629 0,cA BK629 1⟩ (fun hHeld=>?_)
   clear hK K
   refine nmA ?_
   refine puA (i:=12) (N:=some 10) #[Y,Y,Y,Y,Y,Y,Y,Y,Y,Y,Y,Y,Y,Z,Z] rfl rfl HT_ ?_
   refine puA (i:=13) (N:=some 11) #[Y,Y,Y,Y,Y,Y,Y,Y,Y,Y,Y,Y,Y,Y,Z] rfl rfl HT_ ?_
   refine puA (i:=14) (N:=some 12) #[Y,Y,Y,Y,Y,Y,Y,Y,Y,Y,Y,Y,Y,Y,Y] rfl rfl HT_ ?_
   refine done_ (done_of HT_.out (by kernel_rfl)) ?_
   obtain ⟨hcz75_0,hcz75_1,hfz75_0,hfz75_1⟩:=cz2 BK629
   have hnb76:=NB630_627.out
   have hnc76:=NB627_630.out
   obtain ⟨hcz77_0,hcz77_1,hfz77_0,hfz77_1⟩:=cz2 BK630
   try go_wp2
   refine bodyPost_ret (results_ct rfl _ _ gb630 27 #[.int .i64 a3_0,.int .i64 a3_1] (0,0) _ rfl (bpA BK630) Try.underlying27 rfl (by kernel_rfl)) rfl ?_
   exact ⟨by first|rfl|(simp [errW_none,errW_some] <;> rfl)|(simp only [← hji59];first|rfl|(simp [errW_none,errW_some] <;> rfl))|(simp [*,errW_none,errW_some] <;> rfl),blA⟩
end Go.Proofs.Ytabcckoeilegnaa.PAll
