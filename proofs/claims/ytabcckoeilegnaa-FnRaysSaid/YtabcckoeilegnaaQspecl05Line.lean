-- turned out of the kit's print
import Derived.Test.YtabcckoeilegnaaQx
import Derived.Test.YtabcckoeilegnaaQimplheld
import Derived.Test.YtabcckoeilegnaaQimplmod
namespace Go.Proofs.Ytabcckoeilegnaa.PAll
open Go.RowKit Go.Proofs.YtabcckoeilegnaaW.PrintWords Go.Proofs.YtabcckoeilegnaaW.PrintLast Go.Proofs.YtabcckoeilegnaaW.PrintMore
attribute [local go_sem] Go.Proofs.Ytabcckoeilegnaa.Aux.setCell_drewN Go.Proofs.Ytabcckoeilegnaa.Aux.isSome_setCell max2_int min2_int max_two min_two max_three min_three max_four min_four
set_option linter.unusedVariables false
set_option linter.unusedSimpArgs false
theorem cfC {A B:Prop} (h0:B) (h:B→A:=by intro h_;repeat (first|(with_reducible exact h_)|refine (cell_far (Aside0.out (by assumption)) _).trans ?_)):A:=h h0
def spec_l05Line.f (k:Nat) (l0:List Int):Option (Int × Int × Int × Int × Int × Int × Int × Int):=(spec_l01From.f k l0).bind fun bt545=>((spec_l01Spoil.f k bt545.1 bt545.2.1 bt545.2.2).bind fun bt549=>((spec_l05End.f k bt545.1 bt549.2.2.2.2.1 bt549.2.2.2.2.2 bt549.1 bt549.2.1 bt549.2.2.1 bt549.2.2.2.1).bind fun bt556=>((spec_l05End.f k bt545.1 bt556.2.2.1 bt556.2.2.2 bt549.1 bt549.2.1 bt549.2.2.1 bt549.2.2.2.1).bind fun bt560=>((spec_l01Next.f bt545.1 bt560.2.2.1 bt560.2.2.2 20).bind fun bt566=>(if bt566.1=0 then (some (bt549.1,bt549.2.1,bt549.2.2.1,bt549.2.2.2.1,bt556.1,bt556.2.1,bt556.1,bt556.2.1)) else (some (bt549.1,bt549.2.1,bt549.2.2.1,bt549.2.2.2.1,bt556.1,bt556.2.1,bt560.1,bt560.2.1)))))))
theorem spec_l05Line.mono:∀ a0 k,LeO (spec_l05Line.f k a0) (spec_l05Line.f (k+1) a0):=by
 intro a0 k
 unfold spec_l05Line.f
 repeat' first
   | with_reducible first|exact spec_l01From.mono ..|exact spec_l01Spoil.mono ..|exact spec_l05End.mono ..|exact LeO.refl _|exact LeO.none _|refine LeO.ite ?_ ?_|refine LeO.bind ?_ fun _=>?_
def spec_l05Line.T3:Bool × List (List Nat × List Nat):=(true,[([],[]),([],[]),([],[]),([0,1,2],[0,1,2]),([],[]),([],[]),([],[]),([4,5,6,3],[4,5,6]),([],[]),([],[]),([8,3,7,0,1,2,3,8,9],[3,8]),([9,7,10,0,1,2,3,4,5,6,7,8,9,10],[7,9])])
def spec_l05Line.B3:List Nat:=[0,0,0,7,0,0,0,127,0,0,1023,2047]
theorem spec_l05Line.tab3:rtab .any (opsOf Try.f36 3)=spec_l05Line.T3:=by kernel_rfl
theorem spec_l05Line.bits3:waitsOk spec_l05Line.T3.2 spec_l05Line.B3=true:=by kernel_rfl
def spec_l05Line.T6:Bool × List (List Nat × List Nat):=(true,[([],[]),([],[]),([],[]),([],[]),([0,0],[0]),([1,4,0,1,4],[1]),([2,5,0,1,2,4,5],[2]),([3,6,0,1,2,3,4,5,6],[3])])
def spec_l05Line.B6:List Nat:=[0,0,0,0,1,19,55,127]
theorem spec_l05Line.tab6:rtab .any (opsOf Try.f36 6)=spec_l05Line.T6:=by kernel_rfl
theorem spec_l05Line.bits6:waitsOk spec_l05Line.T6.2 spec_l05Line.B6=true:=by kernel_rfl
set_option maxHeartbeats 40000000 in
set_option maxRecDepth 100000 in
theorem spec_l05Line.calls (k:Nat) (A0:Option Addr) (c0:Nat) (l0:List Int) (r1 r2 r3 r4 r5 r6 r7 r8:Int) (w:World) (hr0:Kd.C (Kd.int .u8) w A0 l0.length l0) (hc0:l0.length≤c0) (h:spec_l05Line.f k l0=some (r1,r2,r3,r4,r5,r6,r7,r8)) :
  Calls Try.prog 36 #[.slice A0 l0.length c0] w fun e w'=>e=.returned (.tuple #[.int .i64 r1,.agg #[.int .i64 r2,.int .i64 r3,.int .i64 r4],.agg #[.int .i64 r5,.int .i64 r6],.agg #[.int .i64 r7,.int .i64 r8]])∧Below w.heap.size w w':=by
 have hu25:=Try.underlying25
 have hu27:=Try.underlying27
 have HR0:=Aside0.mk hr0
 have HC0:=Aside0.mk hc0
 clear hr0 hc0
 have HB:=Aside0.mk (Below.refl w.heap.size w)
 have H:=h
 unfold spec_l05Line.f at H
 clear h
 replace H:=bS H
 obtain ⟨⟨t545,t546,t547⟩,A2,H⟩:=H
 try dsimp only at H
 replace H:=bS H
 obtain ⟨⟨t549,t550,t551,t552,t553,t554⟩,A3,H⟩:=H
 try dsimp only at H
 replace H:=bS H
 obtain ⟨⟨t556,t557,t558,t559⟩,A4,H⟩:=H
 try dsimp only at H
 replace H:=bS H
 obtain ⟨⟨t560,t561,t562,t563⟩,A5,H⟩:=H
 try dsimp only at H
 replace H:=bS H
 obtain ⟨⟨t566,t567,t568⟩,A6,H⟩:=H
 try dsimp only at H
 by_cases c7:t566=0
 focus
  rw [if_pos c7] at H
  have c7b0:(t566 == 0)=true:=beq_iff_eq.mpr c7
  have c7b1:(t566 != 0)=false:=bne_eq_false_iff_eq.mpr c7
  clear c7
  simp only [Option.some.injEq,Prod.mk.injEq] at H
  obtain ⟨rfl,rfl,rfl,rfl,rfl,rfl,rfl,rfl⟩:=H
 rotate_left
 focus
  rw [if_neg c7] at H
  have c7b0:(t566 == 0)=false:=beq_eq_false_iff_ne.mpr c7
  have c7b1:(t566 != 0)=true:=bne_iff_ne.mpr c7
  simp only [Option.some.injEq,Prod.mk.injEq] at H
  obtain ⟨rfl,rfl,rfl,rfl,rfl,rfl,rfl,rfl⟩:=H
 rotate_left
 all_goals
  go_enter Try.func36,Try.ntmps36
  try go_wp2_with (first|((with_reducible refine gate_dst (N:=3) rfl ?_);refine bxE (cs:=#[.int .i64 0,.int .i64 0,.int .i64 0]) (t:=25) ?_;intro gb542 hg w8 hbox hb;have n0_:=lB hb;have n1_:=Aside0.mk hbox;have n2_:=sA hg;have n3_:=sA hg;clear HB;have HB:=n0_;have BK542:=n1_;have GW542:=n2_;have GE542:=n3_;clear n0_ n1_ n2_ n3_;clear hb hbox hg)|((with_reducible refine gate_dst (N:=4) rfl ?_);refine bxE (cs:=#[.int .i64 0,.int .i64 0]) (t:=27) ?_;intro gb543 hg w9 hbox hb;have n0_:=kB BK542 hb;have n1_:=lB hb;have n2_:=Aside0.mk hbox;have n3_:=sA hg;have n4_:=sA hg;have n5_:=nA hg BK542;have n6_:=nB hg BK542;clear BK542;clear HB;have BK542:=n0_;have HB:=n1_;have BK543:=n2_;have GW543:=n3_;have GE543:=n4_;have NB542_543:=n5_;have NB543_542:=n6_;clear n0_ n1_ n2_ n3_ n4_ n5_ n6_;clear hb hbox hg)|((with_reducible refine gate_dst (N:=5) rfl ?_);refine bxE (cs:=#[.int .i64 0,.int .i64 0]) (t:=27) ?_;intro gb544 hg w10 hbox hb;have n0_:=kB BK542 hb;have n1_:=kB BK543 hb;have n2_:=lB hb;have n3_:=Aside0.mk hbox;have n4_:=sA hg;have n5_:=sA hg;have n6_:=nA hg BK542;have n7_:=nB hg BK542;have n8_:=nA hg BK543;have n9_:=nB hg BK543;clear BK542;clear BK543;clear HB;have BK542:=n0_;have BK543:=n1_;have HB:=n2_;have BK544:=n3_;have GW544:=n4_;have GE544:=n5_;have NB542_544:=n6_;have NB544_542:=n7_;have NB543_544:=n8_;have NB544_543:=n9_;clear n0_ n1_ n2_ n3_ n4_ n5_ n6_ n7_ n8_ n9_;clear hb hbox hg)|((with_reducible refine gate_callee (f:=22) rfl ?_);refine gL (some 12) rfl Try.func22 #[.slice A0 l0.length c0] ?_;(with_reducible refine (spec_l01From.calls k _ _ l0 t545 t546 t547 w _ ?side1 ?side2 ?side3 A2.out).mono ?_);(case side1=>exact blI);(case side2=>exact HR0.out);(case side3=>exact HC0.out);rintro e w11 ⟨g548,rfl,hi,hb,hb2⟩;refine ⟨_,rfl,?_⟩;have n0_:=kB BK542 hb2;have n1_:=kB BK543 hb2;have n2_:=kB BK544 hb2;have n3_:=Aside0.mk hb;have n4_:=Aside0.mk hi;have n5_:=Aside0.mk (IsS74.ne_blk hi (blk_below (bkA BK542) hb2) (by decide));have n6_:=Aside0.mk (Ne.symm (IsS74.ne_blk hi (blk_below (bkA BK542) hb2) (by decide)));have n7_:=Aside0.mk (IsS74.ne_blk hi (blk_below (bkA BK543) hb2) (by decide));have n8_:=Aside0.mk (Ne.symm (IsS74.ne_blk hi (blk_below (bkA BK543) hb2) (by decide)));have n9_:=Aside0.mk (IsS74.ne_blk hi (blk_below (bkA BK544) hb2) (by decide));have n10_:=Aside0.mk (Ne.symm (IsS74.ne_blk hi (blk_below (bkA BK544) hb2) (by decide)));clear BK542;clear BK543;clear BK544;clear HB;have BK542:=n0_;have BK543:=n1_;have BK544:=n2_;have HB:=n3_;have HI548:=n4_;have NB548_542:=n5_;have NB542_548:=n6_;have NB548_543:=n7_;have NB543_548:=n8_;have NB548_544:=n9_;have NB544_548:=n10_;clear n0_ n1_ n2_ n3_ n4_ n5_ n6_ n7_ n8_ n9_ n10_;clear hi hb hb2)|((with_reducible refine gd 15 rfl ?_);refine gC (some 15) rfl Try.func23 (spec_l01Spoil.calls (w:=_) (g:=g548) (w0:=w) (hI:=iA HI548) (hB:=blI) (h:=A3.out)) ?_;rintro w12 ⟨hi,hb,hk⟩;have n0_:=kbk hk BK542 NB542_548;have n1_:=kbk hk BK543 NB543_548;have n2_:=kbk hk BK544 NB544_548;have n3_:=Aside0.mk hb;have n4_:=Aside0.mk hi;clear BK542;clear BK543;clear BK544;clear HB;clear HI548;have BK542:=n0_;have BK543:=n1_;have BK544:=n2_;have HB:=n3_;have HI548:=n4_;clear n0_ n1_ n2_ n3_ n4_;clear hi hb hk)|((with_reducible refine gate_dst (N:=8) rfl ?_);refine bxE (cs:=#[.int .i64 0,.int .i64 0,.int .i64 0]) (t:=25) ?_;intro gb555 hg w13 hbox hb;have n0_:=kB BK542 hb;have n1_:=kB BK543 hb;have n2_:=kB BK544 hb;have n3_:=Aside0.mk (IsS74.below (iA HI548) hb);have n4_:=lI hb;have n5_:=Aside0.mk hbox;have n6_:=sI hg;have n7_:=sI hg;have n8_:=nA hg BK542;have n9_:=nB hg BK542;have n10_:=nA hg BK543;have n11_:=nB hg BK543;have n12_:=nA hg BK544;have n13_:=nB hg BK544;have n14_:=inA hg (IsS74.lt (iA HI548));have n15_:=inB hg (IsS74.lt (iA HI548));clear BK542;clear BK543;clear BK544;clear HI548;clear HB;have BK542:=n0_;have BK543:=n1_;have BK544:=n2_;have HI548:=n3_;have HB:=n4_;have BK555:=n5_;have GW555:=n6_;have GE555:=n7_;have NB542_555:=n8_;have NB555_542:=n9_;have NB543_555:=n10_;have NB555_543:=n11_;have NB544_555:=n12_;have NB555_544:=n13_;have NB548_555:=n14_;have NB555_548:=n15_;clear n0_ n1_ n2_ n3_ n4_ n5_ n6_ n7_ n8_ n9_ n10_ n11_ n12_ n13_ n14_ n15_;clear hb hbox hg;have hnb14:=NB555_542.out;have hnc14:=NB542_555.out;have hnb15:=NB555_543.out;have hnc15:=NB543_555.out;have hnb16:=NB555_544.out;have hnc16:=NB544_555.out;have hnb17:=NB555_548.out;have hnc17:=NB548_555.out;obtain ⟨hcz18_0,hcz18_1,hcz18_2,hfz18_0,hfz18_1,hfz18_2⟩:=cz3 BK555))
  have n0_:Aside0 ((((w13.setCell ⟨gb555,0,none⟩ (.int .i64 t550)).setCell ⟨gb555,1,none⟩ (.int .i64 t551)).setCell ⟨gb555,2,none⟩ (.int .i64 t552)).heap[gb542]?=some (.cells #[.int .i64 0,.int .i64 0,.int .i64 0] 25 (0,0))):=⟨bkF BK542⟩
  have n1_:Aside0 ((((w13.setCell ⟨gb555,0,none⟩ (.int .i64 t550)).setCell ⟨gb555,1,none⟩ (.int .i64 t551)).setCell ⟨gb555,2,none⟩ (.int .i64 t552)).heap[gb543]?=some (.cells #[.int .i64 0,.int .i64 0] 27 (0,0))):=⟨bkF BK543⟩
  have n2_:Aside0 ((((w13.setCell ⟨gb555,0,none⟩ (.int .i64 t550)).setCell ⟨gb555,1,none⟩ (.int .i64 t551)).setCell ⟨gb555,2,none⟩ (.int .i64 t552)).heap[gb544]?=some (.cells #[.int .i64 0,.int .i64 0] 27 (0,0))):=⟨bkF BK544⟩
  have n3_:Aside0 ((((w13.setCell ⟨gb555,0,none⟩ (.int .i64 t550)).setCell ⟨gb555,1,none⟩ (.int .i64 t551)).setCell ⟨gb555,2,none⟩ (.int .i64 t552)).heap[gb555]?=some (.cells #[.int .i64 t550,.int .i64 t551,.int .i64 t552] 25 (0,0))):=⟨bpA BK555⟩
  have n4_:Aside0 (IsS74 w (((w13.setCell ⟨gb555,0,none⟩ (.int .i64 t550)).setCell ⟨gb555,1,none⟩ (.int .i64 t551)).setCell ⟨gb555,2,none⟩ (.int .i64 t552)) g548 t545 t553 t554):=⟨iA HI548⟩
  have n5_:Aside0 (Below w.heap.size w (((w13.setCell ⟨gb555,0,none⟩ (.int .i64 t550)).setCell ⟨gb555,1,none⟩ (.int .i64 t551)).setCell ⟨gb555,2,none⟩ (.int .i64 t552))):=⟨blI⟩
  (try clear BK542)
  (try clear BK543)
  (try clear BK544)
  (try clear BK555)
  (try clear HI548)
  (try clear HB)
  generalize (((w13.setCell ⟨gb555,0,none⟩ (.int .i64 t550)).setCell ⟨gb555,1,none⟩ (.int .i64 t551)).setCell ⟨gb555,2,none⟩ (.int .i64 t552))=w19 at n0_ n1_ n2_ n3_ n4_ n5_ ⊢
  have BK542:=n0_
  have BK543:=n1_
  have BK544:=n2_
  have BK555:=n3_
  have HI548:=n4_
  have HB:=n5_
  clear n0_ n1_ n2_ n3_ n4_ n5_
  have n0_:=Aside0.mk (blk_drew BK542.out)
  have n1_:=Aside0.mk (blk_drew BK543.out)
  have n2_:=Aside0.mk (blk_drew BK544.out)
  have n3_:=Aside0.mk (blk_drew BK555.out)
  have n4_:=Aside0.mk (IsS74.drew HI548.out)
  have n5_:=Aside0.mk (below_drew1 HB.out)
  clear BK542
  clear BK543
  clear BK544
  clear BK555
  clear HI548
  clear HB
  have BK542:=n0_
  have BK543:=n1_
  have BK544:=n2_
  have BK555:=n3_
  have HI548:=n4_
  have HB:=n5_
  clear n0_ n1_ n2_ n3_ n4_ n5_
  refine start_ (n:=12) (S:=fun w'=>w'.cell? ⟨gb555,0,none⟩=some (.int .i64 t550)∧w'.cell? ⟨gb555,1,none⟩=some (.int .i64 t551)∧w'.cell? ⟨gb555,2,none⟩=some (.int .i64 t552)) (ds:=[]) #[Z,Z,Z,Z,Z,Z,Z,Z,Z,Z,Z,Z] (by kernel_rfl) rfl rfl ⟨cA BK555 0,cA BK555 1,cA BK555 2⟩ (fun hHeld=>?_);refine with_tabW spec_l05Line.tab3 spec_l05Line.bits3 (fun HT_ HW_=>?_)
  generalize w19.drew=w20 at BK542 BK543 BK544 BK555 HI548 HB hHeld ⊢
  refine puA (i:=0) (N:=some 18) #[Y,Z,Z,Z,Z,Z,Z,Z,Z,Z,Z,Z] rfl rfl HT_ ?_
  refine puA (i:=1) (N:=some 19) #[Y,Y,Z,Z,Z,Z,Z,Z,Z,Z,Z,Z] rfl rfl HT_ ?_
  refine puA (i:=4) (N:=some 22) #[Y,Y,Z,Z,Y,Z,Z,Z,Z,Z,Z,Z] rfl rfl HT_ ?_
  refine puA (i:=5) (N:=some 23) #[Y,Y,Z,Z,Y,Y,Z,Z,Z,Z,Z,Z] rfl rfl HT_ ?_
  refine taA (i:=2) (N:=some 20) #[Y,Y,Y,Z,Y,Y,Z,Z,Z,Z,Z,Z] rfl rfl HT_ HW_ hHeld ?_
  refine taA (i:=6) (N:=some 24) #[Y,Y,Y,Z,Y,Y,Y,Z,Z,Z,Z,Z] rfl rfl HT_ HW_ hHeld ?_
  refine join_ (σ:=Nat × Nat) 2 #[Y,Y,Y,Y,Y,Y,Y,Y,Y,Y,Z,Z] (fun s_=>[(21,.agg #[.int .i64 t556,.int .i64 t557]),(25,.agg #[.int .i64 t560,.int .i64 t561]),(9,.pointer (some ⟨s_.1,0,none⟩)),(10,.pointer (some ⟨s_.2,0,none⟩))]) (fun s_ w'=>(w'.cell? ⟨gb555,0,none⟩=some (.int .i64 t550)∧w'.cell? ⟨gb555,1,none⟩=some (.int .i64 t551)∧w'.cell? ⟨gb555,2,none⟩=some (.int .i64 t552))∧(w'.heap[gb542]?=some (.cells #[.int .i64 0,.int .i64 0,.int .i64 0] 25 (0,0)))∧(w'.heap[gb543]?=some (.cells #[.int .i64 0,.int .i64 0] 27 (0,0)))∧(w'.heap[gb544]?=some (.cells #[.int .i64 0,.int .i64 0] 27 (0,0)))∧(w'.heap[gb555]?=some (.cells #[.int .i64 t550,.int .i64 t551,.int .i64 t552] 25 (0,0)))∧(w'.heap[s_.1]?=some (.cells #[.int .i64 0,.int .i64 0] 27 (0,0)))∧(w'.heap[s_.2]?=some (.cells #[.int .i64 0,.int .i64 0] 27 (0,0)))∧(w.heap.size≤s_.1)∧(w.heap.size≤s_.1)∧(g548≠s_.1)∧(s_.1≠g548)∧(gb542≠s_.1)∧(s_.1≠gb542)∧(gb543≠s_.1)∧(s_.1≠gb543)∧(gb544≠s_.1)∧(s_.1≠gb544)∧(gb555≠s_.1)∧(s_.1≠gb555)∧(s_.2≠s_.1)∧(s_.1≠s_.2)∧(w.heap.size≤s_.2)∧(w.heap.size≤s_.2)∧(g548≠s_.2)∧(s_.2≠g548)∧(gb542≠s_.2)∧(s_.2≠gb542)∧(gb543≠s_.2)∧(s_.2≠gb543)∧(gb544≠s_.2)∧(s_.2≠gb544)∧(gb555≠s_.2)∧(s_.2≠gb555)∧(IsS74 w w' g548 t545 t562 t563)∧(Below w.heap.size w w')) ?_ ?_
  rotate_left
  ·
   intro hJ3_7_8_9
   refine join_ (σ:=Nat) 3 #[Y,Y,Y,Y,Y,Y,Y,Y,Y,Z,Z,Z] (fun s_=>[(21,.agg #[.int .i64 t556,.int .i64 t557]),(25,.agg #[.int .i64 t560,.int .i64 t561]),(9,.pointer (some ⟨s_,0,none⟩))]) (fun s_ w'=>(w'.cell? ⟨gb555,0,none⟩=some (.int .i64 t550)∧w'.cell? ⟨gb555,1,none⟩=some (.int .i64 t551)∧w'.cell? ⟨gb555,2,none⟩=some (.int .i64 t552))∧(w'.heap[gb542]?=some (.cells #[.int .i64 0,.int .i64 0,.int .i64 0] 25 (0,0)))∧(w'.heap[gb543]?=some (.cells #[.int .i64 0,.int .i64 0] 27 (0,0)))∧(w'.heap[gb544]?=some (.cells #[.int .i64 0,.int .i64 0] 27 (0,0)))∧(w'.heap[gb555]?=some (.cells #[.int .i64 t550,.int .i64 t551,.int .i64 t552] 25 (0,0)))∧(w'.heap[s_]?=some (.cells #[.int .i64 0,.int .i64 0] 27 (0,0)))∧(w.heap.size≤s_)∧(w.heap.size≤s_)∧(g548≠s_)∧(s_≠g548)∧(gb542≠s_)∧(s_≠gb542)∧(gb543≠s_)∧(s_≠gb543)∧(gb544≠s_)∧(s_≠gb544)∧(gb555≠s_)∧(s_≠gb555)∧(IsS74 w w' g548 t545 t562 t563)∧(Below w.heap.size w w')) ?_ ?_
   rotate_left
   ·
    intro hJ3_7_8
    refine join_ (σ:=Nat) 3 #[Y,Y,Y,Y,Y,Y,Y,Y,Z,Y,Z,Z] (fun s_=>[(21,.agg #[.int .i64 t556,.int .i64 t557]),(25,.agg #[.int .i64 t560,.int .i64 t561]),(10,.pointer (some ⟨s_,0,none⟩))]) (fun s_ w'=>(w'.cell? ⟨gb555,0,none⟩=some (.int .i64 t550)∧w'.cell? ⟨gb555,1,none⟩=some (.int .i64 t551)∧w'.cell? ⟨gb555,2,none⟩=some (.int .i64 t552))∧(w'.heap[gb542]?=some (.cells #[.int .i64 0,.int .i64 0,.int .i64 0] 25 (0,0)))∧(w'.heap[gb543]?=some (.cells #[.int .i64 0,.int .i64 0] 27 (0,0)))∧(w'.heap[gb544]?=some (.cells #[.int .i64 0,.int .i64 0] 27 (0,0)))∧(w'.heap[gb555]?=some (.cells #[.int .i64 t550,.int .i64 t551,.int .i64 t552] 25 (0,0)))∧(w'.heap[s_]?=some (.cells #[.int .i64 0,.int .i64 0] 27 (0,0)))∧(w.heap.size≤s_)∧(w.heap.size≤s_)∧(g548≠s_)∧(s_≠g548)∧(gb542≠s_)∧(s_≠gb542)∧(gb543≠s_)∧(s_≠gb543)∧(gb544≠s_)∧(s_≠gb544)∧(gb555≠s_)∧(s_≠gb555)∧(IsS74 w w' g548 t545 t562 t563)∧(Below w.heap.size w w')) ?_ ?_
    rotate_left
    ·
     intro hJ3_7_9
     refine join_ (σ:=Nat × Nat) 3 #[Y,Y,Y,Y,Y,Y,Y,Z,Y,Y,Z,Z] (fun s_=>[(21,.agg #[.int .i64 t556,.int .i64 t557]),(9,.pointer (some ⟨s_.1,0,none⟩)),(10,.pointer (some ⟨s_.2,0,none⟩))]) (fun s_ w'=>(w'.cell? ⟨gb555,0,none⟩=some (.int .i64 t550)∧w'.cell? ⟨gb555,1,none⟩=some (.int .i64 t551)∧w'.cell? ⟨gb555,2,none⟩=some (.int .i64 t552))∧(w'.heap[gb542]?=some (.cells #[.int .i64 0,.int .i64 0,.int .i64 0] 25 (0,0)))∧(w'.heap[gb543]?=some (.cells #[.int .i64 0,.int .i64 0] 27 (0,0)))∧(w'.heap[gb544]?=some (.cells #[.int .i64 0,.int .i64 0] 27 (0,0)))∧(w'.heap[gb555]?=some (.cells #[.int .i64 t550,.int .i64 t551,.int .i64 t552] 25 (0,0)))∧(w'.heap[s_.1]?=some (.cells #[.int .i64 0,.int .i64 0] 27 (0,0)))∧(w'.heap[s_.2]?=some (.cells #[.int .i64 0,.int .i64 0] 27 (0,0)))∧(w.heap.size≤s_.1)∧(w.heap.size≤s_.1)∧(g548≠s_.1)∧(s_.1≠g548)∧(gb542≠s_.1)∧(s_.1≠gb542)∧(gb543≠s_.1)∧(s_.1≠gb543)∧(gb544≠s_.1)∧(s_.1≠gb544)∧(gb555≠s_.1)∧(s_.1≠gb555)∧(s_.2≠s_.1)∧(s_.1≠s_.2)∧(w.heap.size≤s_.2)∧(w.heap.size≤s_.2)∧(g548≠s_.2)∧(s_.2≠g548)∧(gb542≠s_.2)∧(s_.2≠gb542)∧(gb543≠s_.2)∧(s_.2≠gb543)∧(gb544≠s_.2)∧(s_.2≠gb544)∧(gb555≠s_.2)∧(s_.2≠gb555)∧(IsS74 w w' g548 t545 t558 t559)∧(Below w.heap.size w w')) ?_ ?_
     rotate_left
     ·
      intro hJ3_8_9
      refine join_ (σ:=Unit) 4 #[Y,Y,Y,Y,Y,Y,Y,Y,Z,Z,Z,Z] (fun s_=>[(21,.agg #[.int .i64 t556,.int .i64 t557]),(25,.agg #[.int .i64 t560,.int .i64 t561])]) (fun s_ w'=>(w'.cell? ⟨gb555,0,none⟩=some (.int .i64 t550)∧w'.cell? ⟨gb555,1,none⟩=some (.int .i64 t551)∧w'.cell? ⟨gb555,2,none⟩=some (.int .i64 t552))∧(w'.heap[gb542]?=some (.cells #[.int .i64 0,.int .i64 0,.int .i64 0] 25 (0,0)))∧(w'.heap[gb543]?=some (.cells #[.int .i64 0,.int .i64 0] 27 (0,0)))∧(w'.heap[gb544]?=some (.cells #[.int .i64 0,.int .i64 0] 27 (0,0)))∧(w'.heap[gb555]?=some (.cells #[.int .i64 t550,.int .i64 t551,.int .i64 t552] 25 (0,0)))∧(IsS74 w w' g548 t545 t562 t563)∧(Below w.heap.size w w')) ?_ ?_
      rotate_left
      ·
       intro hJ3_7
       refine join_ (σ:=Nat) 4 #[Y,Y,Y,Y,Y,Y,Y,Z,Y,Z,Z,Z] (fun s_=>[(21,.agg #[.int .i64 t556,.int .i64 t557]),(9,.pointer (some ⟨s_,0,none⟩))]) (fun s_ w'=>(w'.cell? ⟨gb555,0,none⟩=some (.int .i64 t550)∧w'.cell? ⟨gb555,1,none⟩=some (.int .i64 t551)∧w'.cell? ⟨gb555,2,none⟩=some (.int .i64 t552))∧(w'.heap[gb542]?=some (.cells #[.int .i64 0,.int .i64 0,.int .i64 0] 25 (0,0)))∧(w'.heap[gb543]?=some (.cells #[.int .i64 0,.int .i64 0] 27 (0,0)))∧(w'.heap[gb544]?=some (.cells #[.int .i64 0,.int .i64 0] 27 (0,0)))∧(w'.heap[gb555]?=some (.cells #[.int .i64 t550,.int .i64 t551,.int .i64 t552] 25 (0,0)))∧(w'.heap[s_]?=some (.cells #[.int .i64 0,.int .i64 0] 27 (0,0)))∧(w.heap.size≤s_)∧(w.heap.size≤s_)∧(g548≠s_)∧(s_≠g548)∧(gb542≠s_)∧(s_≠gb542)∧(gb543≠s_)∧(s_≠gb543)∧(gb544≠s_)∧(s_≠gb544)∧(gb555≠s_)∧(s_≠gb555)∧(IsS74 w w' g548 t545 t558 t559)∧(Below w.heap.size w w')) ?_ ?_
       rotate_left
       ·
        intro hJ3_8
        refine join_ (σ:=Nat) 4 #[Y,Y,Y,Y,Y,Y,Y,Z,Z,Y,Z,Z] (fun s_=>[(21,.agg #[.int .i64 t556,.int .i64 t557]),(10,.pointer (some ⟨s_,0,none⟩))]) (fun s_ w'=>(w'.cell? ⟨gb555,0,none⟩=some (.int .i64 t550)∧w'.cell? ⟨gb555,1,none⟩=some (.int .i64 t551)∧w'.cell? ⟨gb555,2,none⟩=some (.int .i64 t552))∧(w'.heap[gb542]?=some (.cells #[.int .i64 0,.int .i64 0,.int .i64 0] 25 (0,0)))∧(w'.heap[gb543]?=some (.cells #[.int .i64 0,.int .i64 0] 27 (0,0)))∧(w'.heap[gb544]?=some (.cells #[.int .i64 0,.int .i64 0] 27 (0,0)))∧(w'.heap[gb555]?=some (.cells #[.int .i64 t550,.int .i64 t551,.int .i64 t552] 25 (0,0)))∧(w'.heap[s_]?=some (.cells #[.int .i64 0,.int .i64 0] 27 (0,0)))∧(w.heap.size≤s_)∧(w.heap.size≤s_)∧(g548≠s_)∧(s_≠g548)∧(gb542≠s_)∧(s_≠gb542)∧(gb543≠s_)∧(s_≠gb543)∧(gb544≠s_)∧(s_≠gb544)∧(gb555≠s_)∧(s_≠gb555)∧(IsS74 w w' g548 t545 t558 t559)∧(Below w.heap.size w w')) ?_ ?_
        rotate_left
        ·
         intro hJ3_9
         refine join_ (σ:=Nat × Nat) 4 #[Y,Y,Y,Z,Y,Y,Y,Z,Y,Y,Z,Z] (fun s_=>[(9,.pointer (some ⟨s_.1,0,none⟩)),(10,.pointer (some ⟨s_.2,0,none⟩))]) (fun s_ w'=>(w'.cell? ⟨gb555,0,none⟩=some (.int .i64 t550)∧w'.cell? ⟨gb555,1,none⟩=some (.int .i64 t551)∧w'.cell? ⟨gb555,2,none⟩=some (.int .i64 t552))∧(w'.heap[gb542]?=some (.cells #[.int .i64 0,.int .i64 0,.int .i64 0] 25 (0,0)))∧(w'.heap[gb543]?=some (.cells #[.int .i64 0,.int .i64 0] 27 (0,0)))∧(w'.heap[gb544]?=some (.cells #[.int .i64 0,.int .i64 0] 27 (0,0)))∧(w'.heap[gb555]?=some (.cells #[.int .i64 t550,.int .i64 t551,.int .i64 t552] 25 (0,0)))∧(w'.heap[s_.1]?=some (.cells #[.int .i64 0,.int .i64 0] 27 (0,0)))∧(w'.heap[s_.2]?=some (.cells #[.int .i64 0,.int .i64 0] 27 (0,0)))∧(w.heap.size≤s_.1)∧(w.heap.size≤s_.1)∧(g548≠s_.1)∧(s_.1≠g548)∧(gb542≠s_.1)∧(s_.1≠gb542)∧(gb543≠s_.1)∧(s_.1≠gb543)∧(gb544≠s_.1)∧(s_.1≠gb544)∧(gb555≠s_.1)∧(s_.1≠gb555)∧(s_.2≠s_.1)∧(s_.1≠s_.2)∧(w.heap.size≤s_.2)∧(w.heap.size≤s_.2)∧(g548≠s_.2)∧(s_.2≠g548)∧(gb542≠s_.2)∧(s_.2≠gb542)∧(gb543≠s_.2)∧(s_.2≠gb543)∧(gb544≠s_.2)∧(s_.2≠gb544)∧(gb555≠s_.2)∧(s_.2≠gb555)∧(IsS74 w w' g548 t545 t553 t554)∧(Below w.heap.size w w')) ?_ ?_
         rotate_left
         ·
          intro hJ8_9
          refine join_ (σ:=Unit) 5 #[Y,Y,Y,Y,Y,Y,Y,Z,Z,Z,Z,Z] (fun s_=>[(21,.agg #[.int .i64 t556,.int .i64 t557])]) (fun s_ w'=>(w'.cell? ⟨gb555,0,none⟩=some (.int .i64 t550)∧w'.cell? ⟨gb555,1,none⟩=some (.int .i64 t551)∧w'.cell? ⟨gb555,2,none⟩=some (.int .i64 t552))∧(w'.heap[gb542]?=some (.cells #[.int .i64 0,.int .i64 0,.int .i64 0] 25 (0,0)))∧(w'.heap[gb543]?=some (.cells #[.int .i64 0,.int .i64 0] 27 (0,0)))∧(w'.heap[gb544]?=some (.cells #[.int .i64 0,.int .i64 0] 27 (0,0)))∧(w'.heap[gb555]?=some (.cells #[.int .i64 t550,.int .i64 t551,.int .i64 t552] 25 (0,0)))∧(IsS74 w w' g548 t545 t558 t559)∧(Below w.heap.size w w')) ?_ ?_
          rotate_left
          ·
           intro hJ3
           refine join_ (σ:=Nat) 5 #[Y,Y,Y,Z,Y,Y,Y,Z,Y,Z,Z,Z] (fun s_=>[(9,.pointer (some ⟨s_,0,none⟩))]) (fun s_ w'=>(w'.cell? ⟨gb555,0,none⟩=some (.int .i64 t550)∧w'.cell? ⟨gb555,1,none⟩=some (.int .i64 t551)∧w'.cell? ⟨gb555,2,none⟩=some (.int .i64 t552))∧(w'.heap[gb542]?=some (.cells #[.int .i64 0,.int .i64 0,.int .i64 0] 25 (0,0)))∧(w'.heap[gb543]?=some (.cells #[.int .i64 0,.int .i64 0] 27 (0,0)))∧(w'.heap[gb544]?=some (.cells #[.int .i64 0,.int .i64 0] 27 (0,0)))∧(w'.heap[gb555]?=some (.cells #[.int .i64 t550,.int .i64 t551,.int .i64 t552] 25 (0,0)))∧(w'.heap[s_]?=some (.cells #[.int .i64 0,.int .i64 0] 27 (0,0)))∧(w.heap.size≤s_)∧(w.heap.size≤s_)∧(g548≠s_)∧(s_≠g548)∧(gb542≠s_)∧(s_≠gb542)∧(gb543≠s_)∧(s_≠gb543)∧(gb544≠s_)∧(s_≠gb544)∧(gb555≠s_)∧(s_≠gb555)∧(IsS74 w w' g548 t545 t553 t554)∧(Below w.heap.size w w')) ?_ ?_
           rotate_left
           ·
            intro hJ8
            refine join_ (σ:=Nat) 5 #[Y,Y,Y,Z,Y,Y,Y,Z,Z,Y,Z,Z] (fun s_=>[(10,.pointer (some ⟨s_,0,none⟩))]) (fun s_ w'=>(w'.cell? ⟨gb555,0,none⟩=some (.int .i64 t550)∧w'.cell? ⟨gb555,1,none⟩=some (.int .i64 t551)∧w'.cell? ⟨gb555,2,none⟩=some (.int .i64 t552))∧(w'.heap[gb542]?=some (.cells #[.int .i64 0,.int .i64 0,.int .i64 0] 25 (0,0)))∧(w'.heap[gb543]?=some (.cells #[.int .i64 0,.int .i64 0] 27 (0,0)))∧(w'.heap[gb544]?=some (.cells #[.int .i64 0,.int .i64 0] 27 (0,0)))∧(w'.heap[gb555]?=some (.cells #[.int .i64 t550,.int .i64 t551,.int .i64 t552] 25 (0,0)))∧(w'.heap[s_]?=some (.cells #[.int .i64 0,.int .i64 0] 27 (0,0)))∧(w.heap.size≤s_)∧(w.heap.size≤s_)∧(g548≠s_)∧(s_≠g548)∧(gb542≠s_)∧(s_≠gb542)∧(gb543≠s_)∧(s_≠gb543)∧(gb544≠s_)∧(s_≠gb544)∧(gb555≠s_)∧(s_≠gb555)∧(IsS74 w w' g548 t545 t553 t554)∧(Below w.heap.size w w')) ?_ ?_
            rotate_left
            ·
             intro hJ9
             refine three_ (i:=3) (j:=8) (k:=9) (Ni:=some 21) (Nj:=some 9) (Nk:=some 10) #[Y,Y,Y,Y,Y,Y,Y,Z,Z,Z,Z,Z] #[Y,Y,Y,Z,Y,Y,Y,Z,Y,Z,Z,Z] #[Y,Y,Y,Z,Y,Y,Y,Z,Z,Y,Z,Z] rfl rfl rfl rfl rfl rfl (three_of HT_.out (by kernel_rfl)) (by decide) (by decide) (by decide) (fun K hK=>?_) (fun K hK=>?_) (fun K hK=>?_)
             ·
              skip
              refine goC Try.func24 (spec_l05End.calls (w:=_) (g:=g548) (w0:=w) (hI:=iA HI548) (hB:=blI) (h:=A4.out)) ?_
              rintro w21 ⟨hi,hb,hk⟩
              replace BK542:=kbk hk BK542 NB542_548
              replace BK543:=kbk hk BK543 NB543_548
              replace BK544:=kbk hk BK544 NB544_548
              replace BK555:=kbk hk BK555 NB555_548
              replace HB:=Aside0.mk hb
              replace HI548:=Aside0.mk hi
              (try clear hb)
              (try clear hb2)
              (try clear hk)
              (try clear hi)
              refine hK.out _ _ ⟨cA BK555 0,cA BK555 1,cA BK555 2⟩ (fun hHeld=>?_)
              clear hK K
              refine nmA ?_
              exact norm_ (by first|(simp only [putAll,Act.put,List.setIfInBounds_toArray,List.set_cons_zero,List.set_cons_succ];done)|(simp only [putAll,Act.put,List.setIfInBounds_toArray,List.set_cons_zero,List.set_cons_succ];rfl)) (hJ3 () _ ⟨hHeld,(bkA BK542),(bkA BK543),(bkA BK544),(bkA BK555),(iA HI548),blI⟩)
             ·
              skip
              refine box_step ?hg (N:=9) ?hd (cs:=#[.int .i64 0,.int .i64 0]) (t:=27) ?hr ?_;(case hd=>rfl);(case hg=>rfl);(case hr=>first|(go_simp;done)|(go_simp;rfl))
              intro gb564 hg w21 hbox hb
              have n0_:=kB BK542 hb
              have n1_:=kB BK543 hb
              have n2_:=kB BK544 hb
              have n3_:=Aside0.mk (IsS74.below (iA HI548) hb)
              have n4_:=kB BK555 hb
              have n5_:=lI hb
              have n6_:=Aside0.mk hbox
              have n7_:=sI hg
              have n8_:=sI hg
              have n9_:=nA hg BK542
              have n10_:=nB hg BK542
              have n11_:=nA hg BK543
              have n12_:=nB hg BK543
              have n13_:=nA hg BK544
              have n14_:=nB hg BK544
              have n15_:=nA hg BK555
              have n16_:=nB hg BK555
              have n17_:=inA hg (IsS74.lt (iA HI548))
              have n18_:=inB hg (IsS74.lt (iA HI548))
              clear BK542
              clear BK543
              clear BK544
              clear HI548
              clear BK555
              clear HB
              have BK542:=n0_
              have BK543:=n1_
              have BK544:=n2_
              have HI548:=n3_
              have BK555:=n4_
              have HB:=n5_
              have BK564:=n6_
              have GW564:=n7_
              have GE564:=n8_
              have NB542_564:=n9_
              have NB564_542:=n10_
              have NB543_564:=n11_
              have NB564_543:=n12_
              have NB544_564:=n13_
              have NB564_544:=n14_
              have NB555_564:=n15_
              have NB564_555:=n16_
              have NB548_564:=n17_
              have NB564_548:=n18_
              clear n0_ n1_ n2_ n3_ n4_ n5_ n6_ n7_ n8_ n9_ n10_ n11_ n12_ n13_ n14_ n15_ n16_ n17_ n18_
              clear hb hbox hg
              refine hK.out _ _ ⟨cA BK555 0,cA BK555 1,cA BK555 2⟩ (fun hHeld=>?_)
              clear hK K
              refine nmA ?_
              exact norm_ (by first|(simp only [putAll,Act.put,List.setIfInBounds_toArray,List.set_cons_zero,List.set_cons_succ];done)|(simp only [putAll,Act.put,List.setIfInBounds_toArray,List.set_cons_zero,List.set_cons_succ];rfl)) (hJ8 (gb564) _ ⟨hHeld,(bkA BK542),(bkA BK543),(bkA BK544),(bkA BK555),(bkA BK564),GW564.out,GE564.out,NB548_564.out,NB564_548.out,NB542_564.out,NB564_542.out,NB543_564.out,NB564_543.out,NB544_564.out,NB564_544.out,NB555_564.out,NB564_555.out,(iA HI548),blI⟩)
             ·
              skip
              refine box_step ?hg (N:=10) ?hd (cs:=#[.int .i64 0,.int .i64 0]) (t:=27) ?hr ?_;(case hd=>rfl);(case hg=>rfl);(case hr=>first|(go_simp;done)|(go_simp;rfl))
              intro gb565 hg w21 hbox hb
              have n0_:=kB BK542 hb
              have n1_:=kB BK543 hb
              have n2_:=kB BK544 hb
              have n3_:=Aside0.mk (IsS74.below (iA HI548) hb)
              have n4_:=kB BK555 hb
              have n5_:=lI hb
              have n6_:=Aside0.mk hbox
              have n7_:=sI hg
              have n8_:=sI hg
              have n9_:=nA hg BK542
              have n10_:=nB hg BK542
              have n11_:=nA hg BK543
              have n12_:=nB hg BK543
              have n13_:=nA hg BK544
              have n14_:=nB hg BK544
              have n15_:=nA hg BK555
              have n16_:=nB hg BK555
              have n17_:=inA hg (IsS74.lt (iA HI548))
              have n18_:=inB hg (IsS74.lt (iA HI548))
              clear BK542
              clear BK543
              clear BK544
              clear HI548
              clear BK555
              clear HB
              have BK542:=n0_
              have BK543:=n1_
              have BK544:=n2_
              have HI548:=n3_
              have BK555:=n4_
              have HB:=n5_
              have BK565:=n6_
              have GW565:=n7_
              have GE565:=n8_
              have NB542_565:=n9_
              have NB565_542:=n10_
              have NB543_565:=n11_
              have NB565_543:=n12_
              have NB544_565:=n13_
              have NB565_544:=n14_
              have NB555_565:=n15_
              have NB565_555:=n16_
              have NB548_565:=n17_
              have NB565_548:=n18_
              clear n0_ n1_ n2_ n3_ n4_ n5_ n6_ n7_ n8_ n9_ n10_ n11_ n12_ n13_ n14_ n15_ n16_ n17_ n18_
              clear hb hbox hg
              refine hK.out _ _ ⟨cA BK555 0,cA BK555 1,cA BK555 2⟩ (fun hHeld=>?_)
              clear hK K
              refine nmA ?_
              exact norm_ (by first|(simp only [putAll,Act.put,List.setIfInBounds_toArray,List.set_cons_zero,List.set_cons_succ];done)|(simp only [putAll,Act.put,List.setIfInBounds_toArray,List.set_cons_zero,List.set_cons_succ];rfl)) (hJ9 (gb565) _ ⟨hHeld,(bkA BK542),(bkA BK543),(bkA BK544),(bkA BK555),(bkA BK565),GW565.out,GE565.out,NB548_565.out,NB565_548.out,NB542_565.out,NB565_542.out,NB543_565.out,NB565_543.out,NB544_565.out,NB565_544.out,NB555_565.out,NB565_555.out,(iA HI548),blI⟩)
            ·
             skip
             rintro gb565 w22 ⟨hS_,h0_,h1_,h2_,h3_,h4_,h5_,h6_,h7_,h8_,h9_,h10_,h11_,h12_,h13_,h14_,h15_,h16_,h17_,h18_⟩
             have BK565:=Aside0.mk h4_
             have GW565:=Aside0.mk h5_
             have GE565:=Aside0.mk h6_
             have NB548_565:=Aside0.mk h7_
             have NB565_548:=Aside0.mk h8_
             have NB542_565:=Aside0.mk h9_
             have NB565_542:=Aside0.mk h10_
             have NB543_565:=Aside0.mk h11_
             have NB565_543:=Aside0.mk h12_
             have NB544_565:=Aside0.mk h13_
             have NB565_544:=Aside0.mk h14_
             have NB555_565:=Aside0.mk h15_
             have NB565_555:=Aside0.mk h16_
             replace BK542:=Aside0.mk h0_
             replace BK543:=Aside0.mk h1_
             replace BK544:=Aside0.mk h2_
             replace BK555:=Aside0.mk h3_
             replace HI548:=Aside0.mk h17_
             replace HB:=Aside0.mk h18_
             clear h0_ h1_ h2_ h3_ h4_ h5_ h6_ h7_ h8_ h9_ h10_ h11_ h12_ h13_ h14_ h15_ h16_ h17_ h18_
             have hHeld:w22.cell? ⟨gb555,0,none⟩=some (.int .i64 t550)∧w22.cell? ⟨gb555,1,none⟩=some (.int .i64 t551)∧w22.cell? ⟨gb555,2,none⟩=some (.int .i64 t552):=hS_
             refine norm_ (a':=?_) ?_ ?_
             rotate_left
             ·
              simp only [putAll,Act.put,List.setIfInBounds_toArray,List.set_cons_zero,List.set_cons_succ]
              rfl
             refine two_ (i:=3) (j:=8) (Ni:=some 21) (Nj:=some 9) #[Y,Y,Y,Y,Y,Y,Y,Z,Z,Y,Z,Z] #[Y,Y,Y,Z,Y,Y,Y,Z,Y,Y,Z,Z] rfl rfl rfl rfl (two_of HT_.out (by kernel_rfl)) (by decide) (by decide) (fun K hK=>?_) (fun K hK=>?_)
             ·
              skip
              refine goC Try.func24 (spec_l05End.calls (w:=_) (g:=g548) (w0:=w) (hI:=iA HI548) (hB:=blI) (h:=A4.out)) ?_
              rintro w23 ⟨hi,hb,hk⟩
              replace BK542:=kbk hk BK542 NB542_548
              replace BK543:=kbk hk BK543 NB543_548
              replace BK544:=kbk hk BK544 NB544_548
              replace BK555:=kbk hk BK555 NB555_548
              replace BK565:=kbk hk BK565 NB565_548
              replace HB:=Aside0.mk hb
              replace HI548:=Aside0.mk hi
              (try clear hb)
              (try clear hb2)
              (try clear hk)
              (try clear hi)
              refine hK.out _ _ ⟨cA BK555 0,cA BK555 1,cA BK555 2⟩ (fun hHeld=>?_)
              clear hK K
              refine nmA ?_
              exact norm_ (by first|(simp only [putAll,Act.put,List.setIfInBounds_toArray,List.set_cons_zero,List.set_cons_succ];done)|(simp only [putAll,Act.put,List.setIfInBounds_toArray,List.set_cons_zero,List.set_cons_succ];rfl)) (hJ3_9 (gb565) _ ⟨hHeld,(bkA BK542),(bkA BK543),(bkA BK544),(bkA BK555),(bkA BK565),GW565.out,GE565.out,NB548_565.out,NB565_548.out,NB542_565.out,NB565_542.out,NB543_565.out,NB565_543.out,NB544_565.out,NB565_544.out,NB555_565.out,NB565_555.out,(iA HI548),blI⟩)
             ·
              skip
              refine box_step ?hg (N:=9) ?hd (cs:=#[.int .i64 0,.int .i64 0]) (t:=27) ?hr ?_;(case hd=>rfl);(case hg=>rfl);(case hr=>first|(go_simp;done)|(go_simp;rfl))
              intro gb564 hg w23 hbox hb
              have n0_:=kB BK542 hb
              have n1_:=kB BK543 hb
              have n2_:=kB BK544 hb
              have n3_:=Aside0.mk (IsS74.below (iA HI548) hb)
              have n4_:=kB BK555 hb
              have n5_:=kB BK565 hb
              have n6_:=lI hb
              have n7_:=Aside0.mk hbox
              have n8_:=sI hg
              have n9_:=sI hg
              have n10_:=nA hg BK542
              have n11_:=nB hg BK542
              have n12_:=nA hg BK543
              have n13_:=nB hg BK543
              have n14_:=nA hg BK544
              have n15_:=nB hg BK544
              have n16_:=nA hg BK555
              have n17_:=nB hg BK555
              have n18_:=nA hg BK565
              have n19_:=nB hg BK565
              have n20_:=inA hg (IsS74.lt (iA HI548))
              have n21_:=inB hg (IsS74.lt (iA HI548))
              clear BK542
              clear BK543
              clear BK544
              clear HI548
              clear BK555
              clear BK565
              clear HB
              have BK542:=n0_
              have BK543:=n1_
              have BK544:=n2_
              have HI548:=n3_
              have BK555:=n4_
              have BK565:=n5_
              have HB:=n6_
              have BK564:=n7_
              have GW564:=n8_
              have GE564:=n9_
              have NB542_564:=n10_
              have NB564_542:=n11_
              have NB543_564:=n12_
              have NB564_543:=n13_
              have NB544_564:=n14_
              have NB564_544:=n15_
              have NB555_564:=n16_
              have NB564_555:=n17_
              have NB565_564:=n18_
              have NB564_565:=n19_
              have NB548_564:=n20_
              have NB564_548:=n21_
              clear n0_ n1_ n2_ n3_ n4_ n5_ n6_ n7_ n8_ n9_ n10_ n11_ n12_ n13_ n14_ n15_ n16_ n17_ n18_ n19_ n20_ n21_
              clear hb hbox hg
              refine hK.out _ _ ⟨cA BK555 0,cA BK555 1,cA BK555 2⟩ (fun hHeld=>?_)
              clear hK K
              refine nmA ?_
              exact norm_ (by first|(simp only [putAll,Act.put,List.setIfInBounds_toArray,List.set_cons_zero,List.set_cons_succ];done)|(simp only [putAll,Act.put,List.setIfInBounds_toArray,List.set_cons_zero,List.set_cons_succ];rfl)) (hJ8_9 (gb564,gb565) _ ⟨hHeld,(bkA BK542),(bkA BK543),(bkA BK544),(bkA BK555),(bkA BK564),(bkA BK565),GW564.out,GE564.out,NB548_564.out,NB564_548.out,NB542_564.out,NB564_542.out,NB543_564.out,NB564_543.out,NB544_564.out,NB564_544.out,NB555_564.out,NB564_555.out,NB565_564.out,NB564_565.out,GW565.out,GE565.out,NB548_565.out,NB565_548.out,NB542_565.out,NB565_542.out,NB543_565.out,NB565_543.out,NB544_565.out,NB565_544.out,NB555_565.out,NB565_555.out,(iA HI548),blI⟩)
           ·
            skip
            rintro gb564 w22 ⟨hS_,h0_,h1_,h2_,h3_,h4_,h5_,h6_,h7_,h8_,h9_,h10_,h11_,h12_,h13_,h14_,h15_,h16_,h17_,h18_⟩
            have BK564:=Aside0.mk h4_
            have GW564:=Aside0.mk h5_
            have GE564:=Aside0.mk h6_
            have NB548_564:=Aside0.mk h7_
            have NB564_548:=Aside0.mk h8_
            have NB542_564:=Aside0.mk h9_
            have NB564_542:=Aside0.mk h10_
            have NB543_564:=Aside0.mk h11_
            have NB564_543:=Aside0.mk h12_
            have NB544_564:=Aside0.mk h13_
            have NB564_544:=Aside0.mk h14_
            have NB555_564:=Aside0.mk h15_
            have NB564_555:=Aside0.mk h16_
            replace BK542:=Aside0.mk h0_
            replace BK543:=Aside0.mk h1_
            replace BK544:=Aside0.mk h2_
            replace BK555:=Aside0.mk h3_
            replace HI548:=Aside0.mk h17_
            replace HB:=Aside0.mk h18_
            clear h0_ h1_ h2_ h3_ h4_ h5_ h6_ h7_ h8_ h9_ h10_ h11_ h12_ h13_ h14_ h15_ h16_ h17_ h18_
            have hHeld:w22.cell? ⟨gb555,0,none⟩=some (.int .i64 t550)∧w22.cell? ⟨gb555,1,none⟩=some (.int .i64 t551)∧w22.cell? ⟨gb555,2,none⟩=some (.int .i64 t552):=hS_
            refine norm_ (a':=?_) ?_ ?_
            rotate_left
            ·
             simp only [putAll,Act.put,List.setIfInBounds_toArray,List.set_cons_zero,List.set_cons_succ]
             rfl
            refine two_ (i:=3) (j:=9) (Ni:=some 21) (Nj:=some 10) #[Y,Y,Y,Y,Y,Y,Y,Z,Y,Z,Z,Z] #[Y,Y,Y,Z,Y,Y,Y,Z,Y,Y,Z,Z] rfl rfl rfl rfl (two_of HT_.out (by kernel_rfl)) (by decide) (by decide) (fun K hK=>?_) (fun K hK=>?_)
            ·
             skip
             refine goC Try.func24 (spec_l05End.calls (w:=_) (g:=g548) (w0:=w) (hI:=iA HI548) (hB:=blI) (h:=A4.out)) ?_
             rintro w23 ⟨hi,hb,hk⟩
             replace BK542:=kbk hk BK542 NB542_548
             replace BK543:=kbk hk BK543 NB543_548
             replace BK544:=kbk hk BK544 NB544_548
             replace BK555:=kbk hk BK555 NB555_548
             replace BK564:=kbk hk BK564 NB564_548
             replace HB:=Aside0.mk hb
             replace HI548:=Aside0.mk hi
             (try clear hb)
             (try clear hb2)
             (try clear hk)
             (try clear hi)
             refine hK.out _ _ ⟨cA BK555 0,cA BK555 1,cA BK555 2⟩ (fun hHeld=>?_)
             clear hK K
             refine nmA ?_
             exact norm_ (by first|(simp only [putAll,Act.put,List.setIfInBounds_toArray,List.set_cons_zero,List.set_cons_succ];done)|(simp only [putAll,Act.put,List.setIfInBounds_toArray,List.set_cons_zero,List.set_cons_succ];rfl)) (hJ3_8 (gb564) _ ⟨hHeld,(bkA BK542),(bkA BK543),(bkA BK544),(bkA BK555),(bkA BK564),GW564.out,GE564.out,NB548_564.out,NB564_548.out,NB542_564.out,NB564_542.out,NB543_564.out,NB564_543.out,NB544_564.out,NB564_544.out,NB555_564.out,NB564_555.out,(iA HI548),blI⟩)
            ·
             skip
             refine box_step ?hg (N:=10) ?hd (cs:=#[.int .i64 0,.int .i64 0]) (t:=27) ?hr ?_;(case hd=>rfl);(case hg=>rfl);(case hr=>first|(go_simp;done)|(go_simp;rfl))
             intro gb565 hg w23 hbox hb
             have n0_:=kB BK542 hb
             have n1_:=kB BK543 hb
             have n2_:=kB BK544 hb
             have n3_:=Aside0.mk (IsS74.below (iA HI548) hb)
             have n4_:=kB BK555 hb
             have n5_:=kB BK564 hb
             have n6_:=lI hb
             have n7_:=Aside0.mk hbox
             have n8_:=sI hg
             have n9_:=sI hg
             have n10_:=nA hg BK542
             have n11_:=nB hg BK542
             have n12_:=nA hg BK543
             have n13_:=nB hg BK543
             have n14_:=nA hg BK544
             have n15_:=nB hg BK544
             have n16_:=nA hg BK555
             have n17_:=nB hg BK555
             have n18_:=nA hg BK564
             have n19_:=nB hg BK564
             have n20_:=inA hg (IsS74.lt (iA HI548))
             have n21_:=inB hg (IsS74.lt (iA HI548))
             clear BK542
             clear BK543
             clear BK544
             clear HI548
             clear BK555
             clear BK564
             clear HB
             have BK542:=n0_
             have BK543:=n1_
             have BK544:=n2_
             have HI548:=n3_
             have BK555:=n4_
             have BK564:=n5_
             have HB:=n6_
             have BK565:=n7_
             have GW565:=n8_
             have GE565:=n9_
             have NB542_565:=n10_
             have NB565_542:=n11_
             have NB543_565:=n12_
             have NB565_543:=n13_
             have NB544_565:=n14_
             have NB565_544:=n15_
             have NB555_565:=n16_
             have NB565_555:=n17_
             have NB564_565:=n18_
             have NB565_564:=n19_
             have NB548_565:=n20_
             have NB565_548:=n21_
             clear n0_ n1_ n2_ n3_ n4_ n5_ n6_ n7_ n8_ n9_ n10_ n11_ n12_ n13_ n14_ n15_ n16_ n17_ n18_ n19_ n20_ n21_
             clear hb hbox hg
             refine hK.out _ _ ⟨cA BK555 0,cA BK555 1,cA BK555 2⟩ (fun hHeld=>?_)
             clear hK K
             refine nmA ?_
             exact norm_ (by first|(simp only [putAll,Act.put,List.setIfInBounds_toArray,List.set_cons_zero,List.set_cons_succ];done)|(simp only [putAll,Act.put,List.setIfInBounds_toArray,List.set_cons_zero,List.set_cons_succ];rfl)) (hJ8_9 (gb564,gb565) _ ⟨hHeld,(bkA BK542),(bkA BK543),(bkA BK544),(bkA BK555),(bkA BK564),(bkA BK565),GW564.out,GE564.out,NB548_564.out,NB564_548.out,NB542_564.out,NB564_542.out,NB543_564.out,NB564_543.out,NB544_564.out,NB564_544.out,NB555_564.out,NB564_555.out,NB565_564.out,NB564_565.out,GW565.out,GE565.out,NB548_565.out,NB565_548.out,NB542_565.out,NB565_542.out,NB543_565.out,NB565_543.out,NB544_565.out,NB565_544.out,NB555_565.out,NB565_555.out,(iA HI548),blI⟩)
          ·
           skip
           rintro _ w22 ⟨hS_,h0_,h1_,h2_,h3_,h4_,h5_⟩
           replace BK542:=Aside0.mk h0_
           replace BK543:=Aside0.mk h1_
           replace BK544:=Aside0.mk h2_
           replace BK555:=Aside0.mk h3_
           replace HI548:=Aside0.mk h4_
           replace HB:=Aside0.mk h5_
           clear h0_ h1_ h2_ h3_ h4_ h5_
           have hHeld:w22.cell? ⟨gb555,0,none⟩=some (.int .i64 t550)∧w22.cell? ⟨gb555,1,none⟩=some (.int .i64 t551)∧w22.cell? ⟨gb555,2,none⟩=some (.int .i64 t552):=hS_
           refine norm_ (a':=?_) ?_ ?_
           rotate_left
           ·
            simp only [putAll,Act.put,List.setIfInBounds_toArray,List.set_cons_zero,List.set_cons_succ]
            rfl
           refine three_ (i:=7) (j:=8) (k:=9) (Ni:=some 25) (Nj:=some 9) (Nk:=some 10) #[Y,Y,Y,Y,Y,Y,Y,Y,Z,Z,Z,Z] #[Y,Y,Y,Y,Y,Y,Y,Z,Y,Z,Z,Z] #[Y,Y,Y,Y,Y,Y,Y,Z,Z,Y,Z,Z] rfl rfl rfl rfl rfl rfl (three_of HT_.out (by kernel_rfl)) (by decide) (by decide) (by decide) (fun K hK=>?_) (fun K hK=>?_) (fun K hK=>?_)
           ·
            skip
            refine goC Try.func24 (spec_l05End.calls (w:=_) (g:=g548) (w0:=w) (hI:=iA HI548) (hB:=blI) (h:=A5.out)) ?_
            rintro w23 ⟨hi,hb,hk⟩
            replace BK542:=kbk hk BK542 NB542_548
            replace BK543:=kbk hk BK543 NB543_548
            replace BK544:=kbk hk BK544 NB544_548
            replace BK555:=kbk hk BK555 NB555_548
            replace HB:=Aside0.mk hb
            replace HI548:=Aside0.mk hi
            (try clear hb)
            (try clear hb2)
            (try clear hk)
            (try clear hi)
            refine hK.out _ _ ⟨cA BK555 0,cA BK555 1,cA BK555 2⟩ (fun hHeld=>?_)
            clear hK K
            refine nmA ?_
            exact norm_ (by first|(simp only [putAll,Act.put,List.setIfInBounds_toArray,List.set_cons_zero,List.set_cons_succ];done)|(simp only [putAll,Act.put,List.setIfInBounds_toArray,List.set_cons_zero,List.set_cons_succ];rfl)) (hJ3_7 () _ ⟨hHeld,(bkA BK542),(bkA BK543),(bkA BK544),(bkA BK555),(iA HI548),blI⟩)
           ·
            skip
            refine box_step ?hg (N:=9) ?hd (cs:=#[.int .i64 0,.int .i64 0]) (t:=27) ?hr ?_;(case hd=>rfl);(case hg=>rfl);(case hr=>first|(go_simp;done)|(go_simp;rfl))
            intro gb564 hg w23 hbox hb
            have n0_:=kB BK542 hb
            have n1_:=kB BK543 hb
            have n2_:=kB BK544 hb
            have n3_:=Aside0.mk (IsS74.below (iA HI548) hb)
            have n4_:=kB BK555 hb
            have n5_:=lI hb
            have n6_:=Aside0.mk hbox
            have n7_:=sI hg
            have n8_:=sI hg
            have n9_:=nA hg BK542
            have n10_:=nB hg BK542
            have n11_:=nA hg BK543
            have n12_:=nB hg BK543
            have n13_:=nA hg BK544
            have n14_:=nB hg BK544
            have n15_:=nA hg BK555
            have n16_:=nB hg BK555
            have n17_:=inA hg (IsS74.lt (iA HI548))
            have n18_:=inB hg (IsS74.lt (iA HI548))
            clear BK542
            clear BK543
            clear BK544
            clear HI548
            clear BK555
            clear HB
            have BK542:=n0_
            have BK543:=n1_
            have BK544:=n2_
            have HI548:=n3_
            have BK555:=n4_
            have HB:=n5_
            have BK564:=n6_
            have GW564:=n7_
            have GE564:=n8_
            have NB542_564:=n9_
            have NB564_542:=n10_
            have NB543_564:=n11_
            have NB564_543:=n12_
            have NB544_564:=n13_
            have NB564_544:=n14_
            have NB555_564:=n15_
            have NB564_555:=n16_
            have NB548_564:=n17_
            have NB564_548:=n18_
            clear n0_ n1_ n2_ n3_ n4_ n5_ n6_ n7_ n8_ n9_ n10_ n11_ n12_ n13_ n14_ n15_ n16_ n17_ n18_
            clear hb hbox hg
            refine hK.out _ _ ⟨cA BK555 0,cA BK555 1,cA BK555 2⟩ (fun hHeld=>?_)
            clear hK K
            refine nmA ?_
            exact norm_ (by first|(simp only [putAll,Act.put,List.setIfInBounds_toArray,List.set_cons_zero,List.set_cons_succ];done)|(simp only [putAll,Act.put,List.setIfInBounds_toArray,List.set_cons_zero,List.set_cons_succ];rfl)) (hJ3_8 (gb564) _ ⟨hHeld,(bkA BK542),(bkA BK543),(bkA BK544),(bkA BK555),(bkA BK564),GW564.out,GE564.out,NB548_564.out,NB564_548.out,NB542_564.out,NB564_542.out,NB543_564.out,NB564_543.out,NB544_564.out,NB564_544.out,NB555_564.out,NB564_555.out,(iA HI548),blI⟩)
           ·
            skip
            refine box_step ?hg (N:=10) ?hd (cs:=#[.int .i64 0,.int .i64 0]) (t:=27) ?hr ?_;(case hd=>rfl);(case hg=>rfl);(case hr=>first|(go_simp;done)|(go_simp;rfl))
            intro gb565 hg w23 hbox hb
            have n0_:=kB BK542 hb
            have n1_:=kB BK543 hb
            have n2_:=kB BK544 hb
            have n3_:=Aside0.mk (IsS74.below (iA HI548) hb)
            have n4_:=kB BK555 hb
            have n5_:=lI hb
            have n6_:=Aside0.mk hbox
            have n7_:=sI hg
            have n8_:=sI hg
            have n9_:=nA hg BK542
            have n10_:=nB hg BK542
            have n11_:=nA hg BK543
            have n12_:=nB hg BK543
            have n13_:=nA hg BK544
            have n14_:=nB hg BK544
            have n15_:=nA hg BK555
            have n16_:=nB hg BK555
            have n17_:=inA hg (IsS74.lt (iA HI548))
            have n18_:=inB hg (IsS74.lt (iA HI548))
            clear BK542
            clear BK543
            clear BK544
            clear HI548
            clear BK555
            clear HB
            have BK542:=n0_
            have BK543:=n1_
            have BK544:=n2_
            have HI548:=n3_
            have BK555:=n4_
            have HB:=n5_
            have BK565:=n6_
            have GW565:=n7_
            have GE565:=n8_
            have NB542_565:=n9_
            have NB565_542:=n10_
            have NB543_565:=n11_
            have NB565_543:=n12_
            have NB544_565:=n13_
            have NB565_544:=n14_
            have NB555_565:=n15_
            have NB565_555:=n16_
            have NB548_565:=n17_
            have NB565_548:=n18_
            clear n0_ n1_ n2_ n3_ n4_ n5_ n6_ n7_ n8_ n9_ n10_ n11_ n12_ n13_ n14_ n15_ n16_ n17_ n18_
            clear hb hbox hg
            refine hK.out _ _ ⟨cA BK555 0,cA BK555 1,cA BK555 2⟩ (fun hHeld=>?_)
            clear hK K
            refine nmA ?_
            exact norm_ (by first|(simp only [putAll,Act.put,List.setIfInBounds_toArray,List.set_cons_zero,List.set_cons_succ];done)|(simp only [putAll,Act.put,List.setIfInBounds_toArray,List.set_cons_zero,List.set_cons_succ];rfl)) (hJ3_9 (gb565) _ ⟨hHeld,(bkA BK542),(bkA BK543),(bkA BK544),(bkA BK555),(bkA BK565),GW565.out,GE565.out,NB548_565.out,NB565_548.out,NB542_565.out,NB565_542.out,NB543_565.out,NB565_543.out,NB544_565.out,NB565_544.out,NB555_565.out,NB565_555.out,(iA HI548),blI⟩)
         ·
          skip
          rintro ⟨gb564,gb565⟩ w23 ⟨hS_,h0_,h1_,h2_,h3_,h4_,h5_,h6_,h7_,h8_,h9_,h10_,h11_,h12_,h13_,h14_,h15_,h16_,h17_,h18_,h19_,h20_,h21_,h22_,h23_,h24_,h25_,h26_,h27_,h28_,h29_,h30_,h31_,h32_,h33_⟩
          have BK564:=Aside0.mk h4_
          have BK565:=Aside0.mk h5_
          have GW564:=Aside0.mk h6_
          have GE564:=Aside0.mk h7_
          have NB548_564:=Aside0.mk h8_
          have NB564_548:=Aside0.mk h9_
          have NB542_564:=Aside0.mk h10_
          have NB564_542:=Aside0.mk h11_
          have NB543_564:=Aside0.mk h12_
          have NB564_543:=Aside0.mk h13_
          have NB544_564:=Aside0.mk h14_
          have NB564_544:=Aside0.mk h15_
          have NB555_564:=Aside0.mk h16_
          have NB564_555:=Aside0.mk h17_
          have NB565_564:=Aside0.mk h18_
          have NB564_565:=Aside0.mk h19_
          have GW565:=Aside0.mk h20_
          have GE565:=Aside0.mk h21_
          have NB548_565:=Aside0.mk h22_
          have NB565_548:=Aside0.mk h23_
          have NB542_565:=Aside0.mk h24_
          have NB565_542:=Aside0.mk h25_
          have NB543_565:=Aside0.mk h26_
          have NB565_543:=Aside0.mk h27_
          have NB544_565:=Aside0.mk h28_
          have NB565_544:=Aside0.mk h29_
          have NB555_565:=Aside0.mk h30_
          have NB565_555:=Aside0.mk h31_
          replace BK542:=Aside0.mk h0_
          replace BK543:=Aside0.mk h1_
          replace BK544:=Aside0.mk h2_
          replace BK555:=Aside0.mk h3_
          replace HI548:=Aside0.mk h32_
          replace HB:=Aside0.mk h33_
          clear h0_ h1_ h2_ h3_ h4_ h5_ h6_ h7_ h8_ h9_ h10_ h11_ h12_ h13_ h14_ h15_ h16_ h17_ h18_ h19_ h20_ h21_ h22_ h23_ h24_ h25_ h26_ h27_ h28_ h29_ h30_ h31_ h32_ h33_
          have hHeld:w23.cell? ⟨gb555,0,none⟩=some (.int .i64 t550)∧w23.cell? ⟨gb555,1,none⟩=some (.int .i64 t551)∧w23.cell? ⟨gb555,2,none⟩=some (.int .i64 t552):=hS_
          refine norm_ (a':=?_) ?_ ?_
          rotate_left
          ·
           simp only [putAll,Act.put,List.setIfInBounds_toArray,List.set_cons_zero,List.set_cons_succ]
           rfl
          refine one_ (i:=3) (N:=some 21) #[Y,Y,Y,Y,Y,Y,Y,Z,Y,Y,Z,Z] rfl rfl (one_of HT_.out (by kernel_rfl)) (by decide) (fun K hK=>?_)
          refine goC Try.func24 (spec_l05End.calls (w:=_) (g:=g548) (w0:=w) (hI:=iA HI548) (hB:=blI) (h:=A4.out)) ?_
          rintro w24 ⟨hi,hb,hk⟩
          replace BK542:=kbk hk BK542 NB542_548
          replace BK543:=kbk hk BK543 NB543_548
          replace BK544:=kbk hk BK544 NB544_548
          replace BK555:=kbk hk BK555 NB555_548
          replace BK564:=kbk hk BK564 NB564_548
          replace BK565:=kbk hk BK565 NB565_548
          replace HB:=Aside0.mk hb
          replace HI548:=Aside0.mk hi
          (try clear hb)
          (try clear hb2)
          (try clear hk)
          (try clear hi)
          refine hK.out _ _ ⟨cA BK555 0,cA BK555 1,cA BK555 2⟩ (fun hHeld=>?_)
          clear hK K
          refine nmA ?_
          exact norm_ (by first|(simp only [putAll,Act.put,List.setIfInBounds_toArray,List.set_cons_zero,List.set_cons_succ];done)|(simp only [putAll,Act.put,List.setIfInBounds_toArray,List.set_cons_zero,List.set_cons_succ];rfl)) (hJ3_8_9 (gb564,gb565) _ ⟨hHeld,(bkA BK542),(bkA BK543),(bkA BK544),(bkA BK555),(bkA BK564),(bkA BK565),GW564.out,GE564.out,NB548_564.out,NB564_548.out,NB542_564.out,NB564_542.out,NB543_564.out,NB564_543.out,NB544_564.out,NB564_544.out,NB555_564.out,NB564_555.out,NB565_564.out,NB564_565.out,GW565.out,GE565.out,NB548_565.out,NB565_548.out,NB542_565.out,NB565_542.out,NB543_565.out,NB565_543.out,NB544_565.out,NB565_544.out,NB555_565.out,NB565_555.out,(iA HI548),blI⟩)
        ·
         skip
         rintro gb565 w23 ⟨hS_,h0_,h1_,h2_,h3_,h4_,h5_,h6_,h7_,h8_,h9_,h10_,h11_,h12_,h13_,h14_,h15_,h16_,h17_,h18_⟩
         have BK565:=Aside0.mk h4_
         have GW565:=Aside0.mk h5_
         have GE565:=Aside0.mk h6_
         have NB548_565:=Aside0.mk h7_
         have NB565_548:=Aside0.mk h8_
         have NB542_565:=Aside0.mk h9_
         have NB565_542:=Aside0.mk h10_
         have NB543_565:=Aside0.mk h11_
         have NB565_543:=Aside0.mk h12_
         have NB544_565:=Aside0.mk h13_
         have NB565_544:=Aside0.mk h14_
         have NB555_565:=Aside0.mk h15_
         have NB565_555:=Aside0.mk h16_
         replace BK542:=Aside0.mk h0_
         replace BK543:=Aside0.mk h1_
         replace BK544:=Aside0.mk h2_
         replace BK555:=Aside0.mk h3_
         replace HI548:=Aside0.mk h17_
         replace HB:=Aside0.mk h18_
         clear h0_ h1_ h2_ h3_ h4_ h5_ h6_ h7_ h8_ h9_ h10_ h11_ h12_ h13_ h14_ h15_ h16_ h17_ h18_
         have hHeld:w23.cell? ⟨gb555,0,none⟩=some (.int .i64 t550)∧w23.cell? ⟨gb555,1,none⟩=some (.int .i64 t551)∧w23.cell? ⟨gb555,2,none⟩=some (.int .i64 t552):=hS_
         refine norm_ (a':=?_) ?_ ?_
         rotate_left
         ·
          simp only [putAll,Act.put,List.setIfInBounds_toArray,List.set_cons_zero,List.set_cons_succ]
          rfl
         refine two_ (i:=7) (j:=8) (Ni:=some 25) (Nj:=some 9) #[Y,Y,Y,Y,Y,Y,Y,Y,Z,Y,Z,Z] #[Y,Y,Y,Y,Y,Y,Y,Z,Y,Y,Z,Z] rfl rfl rfl rfl (two_of HT_.out (by kernel_rfl)) (by decide) (by decide) (fun K hK=>?_) (fun K hK=>?_)
         ·
          skip
          refine goC Try.func24 (spec_l05End.calls (w:=_) (g:=g548) (w0:=w) (hI:=iA HI548) (hB:=blI) (h:=A5.out)) ?_
          rintro w24 ⟨hi,hb,hk⟩
          replace BK542:=kbk hk BK542 NB542_548
          replace BK543:=kbk hk BK543 NB543_548
          replace BK544:=kbk hk BK544 NB544_548
          replace BK555:=kbk hk BK555 NB555_548
          replace BK565:=kbk hk BK565 NB565_548
          replace HB:=Aside0.mk hb
          replace HI548:=Aside0.mk hi
          (try clear hb)
          (try clear hb2)
          (try clear hk)
          (try clear hi)
          refine hK.out _ _ ⟨cA BK555 0,cA BK555 1,cA BK555 2⟩ (fun hHeld=>?_)
          clear hK K
          refine nmA ?_
          exact norm_ (by first|(simp only [putAll,Act.put,List.setIfInBounds_toArray,List.set_cons_zero,List.set_cons_succ];done)|(simp only [putAll,Act.put,List.setIfInBounds_toArray,List.set_cons_zero,List.set_cons_succ];rfl)) (hJ3_7_9 (gb565) _ ⟨hHeld,(bkA BK542),(bkA BK543),(bkA BK544),(bkA BK555),(bkA BK565),GW565.out,GE565.out,NB548_565.out,NB565_548.out,NB542_565.out,NB565_542.out,NB543_565.out,NB565_543.out,NB544_565.out,NB565_544.out,NB555_565.out,NB565_555.out,(iA HI548),blI⟩)
         ·
          skip
          refine box_step ?hg (N:=9) ?hd (cs:=#[.int .i64 0,.int .i64 0]) (t:=27) ?hr ?_;(case hd=>rfl);(case hg=>rfl);(case hr=>first|(go_simp;done)|(go_simp;rfl))
          intro gb564 hg w24 hbox hb
          have n0_:=kB BK542 hb
          have n1_:=kB BK543 hb
          have n2_:=kB BK544 hb
          have n3_:=Aside0.mk (IsS74.below (iA HI548) hb)
          have n4_:=kB BK555 hb
          have n5_:=kB BK565 hb
          have n6_:=lI hb
          have n7_:=Aside0.mk hbox
          have n8_:=sI hg
          have n9_:=sI hg
          have n10_:=nA hg BK542
          have n11_:=nB hg BK542
          have n12_:=nA hg BK543
          have n13_:=nB hg BK543
          have n14_:=nA hg BK544
          have n15_:=nB hg BK544
          have n16_:=nA hg BK555
          have n17_:=nB hg BK555
          have n18_:=nA hg BK565
          have n19_:=nB hg BK565
          have n20_:=inA hg (IsS74.lt (iA HI548))
          have n21_:=inB hg (IsS74.lt (iA HI548))
          clear BK542
          clear BK543
          clear BK544
          clear HI548
          clear BK555
          clear BK565
          clear HB
          have BK542:=n0_
          have BK543:=n1_
          have BK544:=n2_
          have HI548:=n3_
          have BK555:=n4_
          have BK565:=n5_
          have HB:=n6_
          have BK564:=n7_
          have GW564:=n8_
          have GE564:=n9_
          have NB542_564:=n10_
          have NB564_542:=n11_
          have NB543_564:=n12_
          have NB564_543:=n13_
          have NB544_564:=n14_
          have NB564_544:=n15_
          have NB555_564:=n16_
          have NB564_555:=n17_
          have NB565_564:=n18_
          have NB564_565:=n19_
          have NB548_564:=n20_
          have NB564_548:=n21_
          clear n0_ n1_ n2_ n3_ n4_ n5_ n6_ n7_ n8_ n9_ n10_ n11_ n12_ n13_ n14_ n15_ n16_ n17_ n18_ n19_ n20_ n21_
          clear hb hbox hg
          refine hK.out _ _ ⟨cA BK555 0,cA BK555 1,cA BK555 2⟩ (fun hHeld=>?_)
          clear hK K
          refine nmA ?_
          exact norm_ (by first|(simp only [putAll,Act.put,List.setIfInBounds_toArray,List.set_cons_zero,List.set_cons_succ];done)|(simp only [putAll,Act.put,List.setIfInBounds_toArray,List.set_cons_zero,List.set_cons_succ];rfl)) (hJ3_8_9 (gb564,gb565) _ ⟨hHeld,(bkA BK542),(bkA BK543),(bkA BK544),(bkA BK555),(bkA BK564),(bkA BK565),GW564.out,GE564.out,NB548_564.out,NB564_548.out,NB542_564.out,NB564_542.out,NB543_564.out,NB564_543.out,NB544_564.out,NB564_544.out,NB555_564.out,NB564_555.out,NB565_564.out,NB564_565.out,GW565.out,GE565.out,NB548_565.out,NB565_548.out,NB542_565.out,NB565_542.out,NB543_565.out,NB565_543.out,NB544_565.out,NB565_544.out,NB555_565.out,NB565_555.out,(iA HI548),blI⟩)
       ·
        skip
        rintro gb564 w23 ⟨hS_,h0_,h1_,h2_,h3_,h4_,h5_,h6_,h7_,h8_,h9_,h10_,h11_,h12_,h13_,h14_,h15_,h16_,h17_,h18_⟩
        have BK564:=Aside0.mk h4_
        have GW564:=Aside0.mk h5_
        have GE564:=Aside0.mk h6_
        have NB548_564:=Aside0.mk h7_
        have NB564_548:=Aside0.mk h8_
        have NB542_564:=Aside0.mk h9_
        have NB564_542:=Aside0.mk h10_
        have NB543_564:=Aside0.mk h11_
        have NB564_543:=Aside0.mk h12_
        have NB544_564:=Aside0.mk h13_
        have NB564_544:=Aside0.mk h14_
        have NB555_564:=Aside0.mk h15_
        have NB564_555:=Aside0.mk h16_
        replace BK542:=Aside0.mk h0_
        replace BK543:=Aside0.mk h1_
        replace BK544:=Aside0.mk h2_
        replace BK555:=Aside0.mk h3_
        replace HI548:=Aside0.mk h17_
        replace HB:=Aside0.mk h18_
        clear h0_ h1_ h2_ h3_ h4_ h5_ h6_ h7_ h8_ h9_ h10_ h11_ h12_ h13_ h14_ h15_ h16_ h17_ h18_
        have hHeld:w23.cell? ⟨gb555,0,none⟩=some (.int .i64 t550)∧w23.cell? ⟨gb555,1,none⟩=some (.int .i64 t551)∧w23.cell? ⟨gb555,2,none⟩=some (.int .i64 t552):=hS_
        refine norm_ (a':=?_) ?_ ?_
        rotate_left
        ·
         simp only [putAll,Act.put,List.setIfInBounds_toArray,List.set_cons_zero,List.set_cons_succ]
         rfl
        refine two_ (i:=7) (j:=9) (Ni:=some 25) (Nj:=some 10) #[Y,Y,Y,Y,Y,Y,Y,Y,Y,Z,Z,Z] #[Y,Y,Y,Y,Y,Y,Y,Z,Y,Y,Z,Z] rfl rfl rfl rfl (two_of HT_.out (by kernel_rfl)) (by decide) (by decide) (fun K hK=>?_) (fun K hK=>?_)
        ·
         skip
         refine goC Try.func24 (spec_l05End.calls (w:=_) (g:=g548) (w0:=w) (hI:=iA HI548) (hB:=blI) (h:=A5.out)) ?_
         rintro w24 ⟨hi,hb,hk⟩
         replace BK542:=kbk hk BK542 NB542_548
         replace BK543:=kbk hk BK543 NB543_548
         replace BK544:=kbk hk BK544 NB544_548
         replace BK555:=kbk hk BK555 NB555_548
         replace BK564:=kbk hk BK564 NB564_548
         replace HB:=Aside0.mk hb
         replace HI548:=Aside0.mk hi
         (try clear hb)
         (try clear hb2)
         (try clear hk)
         (try clear hi)
         refine hK.out _ _ ⟨cA BK555 0,cA BK555 1,cA BK555 2⟩ (fun hHeld=>?_)
         clear hK K
         refine nmA ?_
         exact norm_ (by first|(simp only [putAll,Act.put,List.setIfInBounds_toArray,List.set_cons_zero,List.set_cons_succ];done)|(simp only [putAll,Act.put,List.setIfInBounds_toArray,List.set_cons_zero,List.set_cons_succ];rfl)) (hJ3_7_8 (gb564) _ ⟨hHeld,(bkA BK542),(bkA BK543),(bkA BK544),(bkA BK555),(bkA BK564),GW564.out,GE564.out,NB548_564.out,NB564_548.out,NB542_564.out,NB564_542.out,NB543_564.out,NB564_543.out,NB544_564.out,NB564_544.out,NB555_564.out,NB564_555.out,(iA HI548),blI⟩)
        ·
         skip
         refine box_step ?hg (N:=10) ?hd (cs:=#[.int .i64 0,.int .i64 0]) (t:=27) ?hr ?_;(case hd=>rfl);(case hg=>rfl);(case hr=>first|(go_simp;done)|(go_simp;rfl))
         intro gb565 hg w24 hbox hb
         have n0_:=kB BK542 hb
         have n1_:=kB BK543 hb
         have n2_:=kB BK544 hb
         have n3_:=Aside0.mk (IsS74.below (iA HI548) hb)
         have n4_:=kB BK555 hb
         have n5_:=kB BK564 hb
         have n6_:=lI hb
         have n7_:=Aside0.mk hbox
         have n8_:=sI hg
         have n9_:=sI hg
         have n10_:=nA hg BK542
         have n11_:=nB hg BK542
         have n12_:=nA hg BK543
         have n13_:=nB hg BK543
         have n14_:=nA hg BK544
         have n15_:=nB hg BK544
         have n16_:=nA hg BK555
         have n17_:=nB hg BK555
         have n18_:=nA hg BK564
         have n19_:=nB hg BK564
         have n20_:=inA hg (IsS74.lt (iA HI548))
         have n21_:=inB hg (IsS74.lt (iA HI548))
         clear BK542
         clear BK543
         clear BK544
         clear HI548
         clear BK555
         clear BK564
         clear HB
         have BK542:=n0_
         have BK543:=n1_
         have BK544:=n2_
         have HI548:=n3_
         have BK555:=n4_
         have BK564:=n5_
         have HB:=n6_
         have BK565:=n7_
         have GW565:=n8_
         have GE565:=n9_
         have NB542_565:=n10_
         have NB565_542:=n11_
         have NB543_565:=n12_
         have NB565_543:=n13_
         have NB544_565:=n14_
         have NB565_544:=n15_
         have NB555_565:=n16_
         have NB565_555:=n17_
         have NB564_565:=n18_
         have NB565_564:=n19_
         have NB548_565:=n20_
         have NB565_548:=n21_
         clear n0_ n1_ n2_ n3_ n4_ n5_ n6_ n7_ n8_ n9_ n10_ n11_ n12_ n13_ n14_ n15_ n16_ n17_ n18_ n19_ n20_ n21_
         clear hb hbox hg
         refine hK.out _ _ ⟨cA BK555 0,cA BK555 1,cA BK555 2⟩ (fun hHeld=>?_)
         clear hK K
         refine nmA ?_
         exact norm_ (by first|(simp only [putAll,Act.put,List.setIfInBounds_toArray,List.set_cons_zero,List.set_cons_succ];done)|(simp only [putAll,Act.put,List.setIfInBounds_toArray,List.set_cons_zero,List.set_cons_succ];rfl)) (hJ3_8_9 (gb564,gb565) _ ⟨hHeld,(bkA BK542),(bkA BK543),(bkA BK544),(bkA BK555),(bkA BK564),(bkA BK565),GW564.out,GE564.out,NB548_564.out,NB564_548.out,NB542_564.out,NB564_542.out,NB543_564.out,NB564_543.out,NB544_564.out,NB564_544.out,NB555_564.out,NB564_555.out,NB565_564.out,NB564_565.out,GW565.out,GE565.out,NB548_565.out,NB565_548.out,NB542_565.out,NB565_542.out,NB543_565.out,NB565_543.out,NB544_565.out,NB565_544.out,NB555_565.out,NB565_555.out,(iA HI548),blI⟩)
      ·
       skip
       rintro _ w23 ⟨hS_,h0_,h1_,h2_,h3_,h4_,h5_⟩
       replace BK542:=Aside0.mk h0_
       replace BK543:=Aside0.mk h1_
       replace BK544:=Aside0.mk h2_
       replace BK555:=Aside0.mk h3_
       replace HI548:=Aside0.mk h4_
       replace HB:=Aside0.mk h5_
       clear h0_ h1_ h2_ h3_ h4_ h5_
       have hHeld:w23.cell? ⟨gb555,0,none⟩=some (.int .i64 t550)∧w23.cell? ⟨gb555,1,none⟩=some (.int .i64 t551)∧w23.cell? ⟨gb555,2,none⟩=some (.int .i64 t552):=hS_
       refine norm_ (a':=?_) ?_ ?_
       rotate_left
       ·
        simp only [putAll,Act.put,List.setIfInBounds_toArray,List.set_cons_zero,List.set_cons_succ]
        rfl
       refine two_ (i:=8) (j:=9) (Ni:=some 9) (Nj:=some 10) #[Y,Y,Y,Y,Y,Y,Y,Y,Y,Z,Z,Z] #[Y,Y,Y,Y,Y,Y,Y,Y,Z,Y,Z,Z] rfl rfl rfl rfl (two_of HT_.out (by kernel_rfl)) (by decide) (by decide) (fun K hK=>?_) (fun K hK=>?_)
       ·
        skip
        refine box_step ?hg (N:=9) ?hd (cs:=#[.int .i64 0,.int .i64 0]) (t:=27) ?hr ?_;(case hd=>rfl);(case hg=>rfl);(case hr=>first|(go_simp;done)|(go_simp;rfl))
        intro gb564 hg w24 hbox hb
        have n0_:=kB BK542 hb
        have n1_:=kB BK543 hb
        have n2_:=kB BK544 hb
        have n3_:=Aside0.mk (IsS74.below (iA HI548) hb)
        have n4_:=kB BK555 hb
        have n5_:=lI hb
        have n6_:=Aside0.mk hbox
        have n7_:=sI hg
        have n8_:=sI hg
        have n9_:=nA hg BK542
        have n10_:=nB hg BK542
        have n11_:=nA hg BK543
        have n12_:=nB hg BK543
        have n13_:=nA hg BK544
        have n14_:=nB hg BK544
        have n15_:=nA hg BK555
        have n16_:=nB hg BK555
        have n17_:=inA hg (IsS74.lt (iA HI548))
        have n18_:=inB hg (IsS74.lt (iA HI548))
        clear BK542
        clear BK543
        clear BK544
        clear HI548
        clear BK555
        clear HB
        have BK542:=n0_
        have BK543:=n1_
        have BK544:=n2_
        have HI548:=n3_
        have BK555:=n4_
        have HB:=n5_
        have BK564:=n6_
        have GW564:=n7_
        have GE564:=n8_
        have NB542_564:=n9_
        have NB564_542:=n10_
        have NB543_564:=n11_
        have NB564_543:=n12_
        have NB544_564:=n13_
        have NB564_544:=n14_
        have NB555_564:=n15_
        have NB564_555:=n16_
        have NB548_564:=n17_
        have NB564_548:=n18_
        clear n0_ n1_ n2_ n3_ n4_ n5_ n6_ n7_ n8_ n9_ n10_ n11_ n12_ n13_ n14_ n15_ n16_ n17_ n18_
        clear hb hbox hg
        refine hK.out _ _ ⟨cA BK555 0,cA BK555 1,cA BK555 2⟩ (fun hHeld=>?_)
        clear hK K
        refine nmA ?_
        exact norm_ (by first|(simp only [putAll,Act.put,List.setIfInBounds_toArray,List.set_cons_zero,List.set_cons_succ];done)|(simp only [putAll,Act.put,List.setIfInBounds_toArray,List.set_cons_zero,List.set_cons_succ];rfl)) (hJ3_7_8 (gb564) _ ⟨hHeld,(bkA BK542),(bkA BK543),(bkA BK544),(bkA BK555),(bkA BK564),GW564.out,GE564.out,NB548_564.out,NB564_548.out,NB542_564.out,NB564_542.out,NB543_564.out,NB564_543.out,NB544_564.out,NB564_544.out,NB555_564.out,NB564_555.out,(iA HI548),blI⟩)
       ·
        skip
        refine box_step ?hg (N:=10) ?hd (cs:=#[.int .i64 0,.int .i64 0]) (t:=27) ?hr ?_;(case hd=>rfl);(case hg=>rfl);(case hr=>first|(go_simp;done)|(go_simp;rfl))
        intro gb565 hg w24 hbox hb
        have n0_:=kB BK542 hb
        have n1_:=kB BK543 hb
        have n2_:=kB BK544 hb
        have n3_:=Aside0.mk (IsS74.below (iA HI548) hb)
        have n4_:=kB BK555 hb
        have n5_:=lI hb
        have n6_:=Aside0.mk hbox
        have n7_:=sI hg
        have n8_:=sI hg
        have n9_:=nA hg BK542
        have n10_:=nB hg BK542
        have n11_:=nA hg BK543
        have n12_:=nB hg BK543
        have n13_:=nA hg BK544
        have n14_:=nB hg BK544
        have n15_:=nA hg BK555
        have n16_:=nB hg BK555
        have n17_:=inA hg (IsS74.lt (iA HI548))
        have n18_:=inB hg (IsS74.lt (iA HI548))
        clear BK542
        clear BK543
        clear BK544
        clear HI548
        clear BK555
        clear HB
        have BK542:=n0_
        have BK543:=n1_
        have BK544:=n2_
        have HI548:=n3_
        have BK555:=n4_
        have HB:=n5_
        have BK565:=n6_
        have GW565:=n7_
        have GE565:=n8_
        have NB542_565:=n9_
        have NB565_542:=n10_
        have NB543_565:=n11_
        have NB565_543:=n12_
        have NB544_565:=n13_
        have NB565_544:=n14_
        have NB555_565:=n15_
        have NB565_555:=n16_
        have NB548_565:=n17_
        have NB565_548:=n18_
        clear n0_ n1_ n2_ n3_ n4_ n5_ n6_ n7_ n8_ n9_ n10_ n11_ n12_ n13_ n14_ n15_ n16_ n17_ n18_
        clear hb hbox hg
        refine hK.out _ _ ⟨cA BK555 0,cA BK555 1,cA BK555 2⟩ (fun hHeld=>?_)
        clear hK K
        refine nmA ?_
        exact norm_ (by first|(simp only [putAll,Act.put,List.setIfInBounds_toArray,List.set_cons_zero,List.set_cons_succ];done)|(simp only [putAll,Act.put,List.setIfInBounds_toArray,List.set_cons_zero,List.set_cons_succ];rfl)) (hJ3_7_9 (gb565) _ ⟨hHeld,(bkA BK542),(bkA BK543),(bkA BK544),(bkA BK555),(bkA BK565),GW565.out,GE565.out,NB548_565.out,NB565_548.out,NB542_565.out,NB565_542.out,NB543_565.out,NB565_543.out,NB544_565.out,NB565_544.out,NB555_565.out,NB565_555.out,(iA HI548),blI⟩)
     ·
      skip
      rintro ⟨gb564,gb565⟩ w24 ⟨hS_,h0_,h1_,h2_,h3_,h4_,h5_,h6_,h7_,h8_,h9_,h10_,h11_,h12_,h13_,h14_,h15_,h16_,h17_,h18_,h19_,h20_,h21_,h22_,h23_,h24_,h25_,h26_,h27_,h28_,h29_,h30_,h31_,h32_,h33_⟩
      have BK564:=Aside0.mk h4_
      have BK565:=Aside0.mk h5_
      have GW564:=Aside0.mk h6_
      have GE564:=Aside0.mk h7_
      have NB548_564:=Aside0.mk h8_
      have NB564_548:=Aside0.mk h9_
      have NB542_564:=Aside0.mk h10_
      have NB564_542:=Aside0.mk h11_
      have NB543_564:=Aside0.mk h12_
      have NB564_543:=Aside0.mk h13_
      have NB544_564:=Aside0.mk h14_
      have NB564_544:=Aside0.mk h15_
      have NB555_564:=Aside0.mk h16_
      have NB564_555:=Aside0.mk h17_
      have NB565_564:=Aside0.mk h18_
      have NB564_565:=Aside0.mk h19_
      have GW565:=Aside0.mk h20_
      have GE565:=Aside0.mk h21_
      have NB548_565:=Aside0.mk h22_
      have NB565_548:=Aside0.mk h23_
      have NB542_565:=Aside0.mk h24_
      have NB565_542:=Aside0.mk h25_
      have NB543_565:=Aside0.mk h26_
      have NB565_543:=Aside0.mk h27_
      have NB544_565:=Aside0.mk h28_
      have NB565_544:=Aside0.mk h29_
      have NB555_565:=Aside0.mk h30_
      have NB565_555:=Aside0.mk h31_
      replace BK542:=Aside0.mk h0_
      replace BK543:=Aside0.mk h1_
      replace BK544:=Aside0.mk h2_
      replace BK555:=Aside0.mk h3_
      replace HI548:=Aside0.mk h32_
      replace HB:=Aside0.mk h33_
      clear h0_ h1_ h2_ h3_ h4_ h5_ h6_ h7_ h8_ h9_ h10_ h11_ h12_ h13_ h14_ h15_ h16_ h17_ h18_ h19_ h20_ h21_ h22_ h23_ h24_ h25_ h26_ h27_ h28_ h29_ h30_ h31_ h32_ h33_
      have hHeld:w24.cell? ⟨gb555,0,none⟩=some (.int .i64 t550)∧w24.cell? ⟨gb555,1,none⟩=some (.int .i64 t551)∧w24.cell? ⟨gb555,2,none⟩=some (.int .i64 t552):=hS_
      refine norm_ (a':=?_) ?_ ?_
      rotate_left
      ·
       simp only [putAll,Act.put,List.setIfInBounds_toArray,List.set_cons_zero,List.set_cons_succ]
       rfl
      refine one_ (i:=7) (N:=some 25) #[Y,Y,Y,Y,Y,Y,Y,Y,Y,Y,Z,Z] rfl rfl (one_of HT_.out (by kernel_rfl)) (by decide) (fun K hK=>?_)
      refine goC Try.func24 (spec_l05End.calls (w:=_) (g:=g548) (w0:=w) (hI:=iA HI548) (hB:=blI) (h:=A5.out)) ?_
      rintro w25 ⟨hi,hb,hk⟩
      replace BK542:=kbk hk BK542 NB542_548
      replace BK543:=kbk hk BK543 NB543_548
      replace BK544:=kbk hk BK544 NB544_548
      replace BK555:=kbk hk BK555 NB555_548
      replace BK564:=kbk hk BK564 NB564_548
      replace BK565:=kbk hk BK565 NB565_548
      replace HB:=Aside0.mk hb
      replace HI548:=Aside0.mk hi
      (try clear hb)
      (try clear hb2)
      (try clear hk)
      (try clear hi)
      refine hK.out _ _ ⟨cA BK555 0,cA BK555 1,cA BK555 2⟩ (fun hHeld=>?_)
      clear hK K
      refine nmA ?_
      exact norm_ (by first|(simp only [putAll,Act.put,List.setIfInBounds_toArray,List.set_cons_zero,List.set_cons_succ];done)|(simp only [putAll,Act.put,List.setIfInBounds_toArray,List.set_cons_zero,List.set_cons_succ];rfl)) (hJ3_7_8_9 (gb564,gb565) _ ⟨hHeld,(bkA BK542),(bkA BK543),(bkA BK544),(bkA BK555),(bkA BK564),(bkA BK565),GW564.out,GE564.out,NB548_564.out,NB564_548.out,NB542_564.out,NB564_542.out,NB543_564.out,NB564_543.out,NB544_564.out,NB564_544.out,NB555_564.out,NB564_555.out,NB565_564.out,NB564_565.out,GW565.out,GE565.out,NB548_565.out,NB565_548.out,NB542_565.out,NB565_542.out,NB543_565.out,NB565_543.out,NB544_565.out,NB565_544.out,NB555_565.out,NB565_555.out,(iA HI548),blI⟩)
    ·
     skip
     rintro gb565 w24 ⟨hS_,h0_,h1_,h2_,h3_,h4_,h5_,h6_,h7_,h8_,h9_,h10_,h11_,h12_,h13_,h14_,h15_,h16_,h17_,h18_⟩
     have BK565:=Aside0.mk h4_
     have GW565:=Aside0.mk h5_
     have GE565:=Aside0.mk h6_
     have NB548_565:=Aside0.mk h7_
     have NB565_548:=Aside0.mk h8_
     have NB542_565:=Aside0.mk h9_
     have NB565_542:=Aside0.mk h10_
     have NB543_565:=Aside0.mk h11_
     have NB565_543:=Aside0.mk h12_
     have NB544_565:=Aside0.mk h13_
     have NB565_544:=Aside0.mk h14_
     have NB555_565:=Aside0.mk h15_
     have NB565_555:=Aside0.mk h16_
     replace BK542:=Aside0.mk h0_
     replace BK543:=Aside0.mk h1_
     replace BK544:=Aside0.mk h2_
     replace BK555:=Aside0.mk h3_
     replace HI548:=Aside0.mk h17_
     replace HB:=Aside0.mk h18_
     clear h0_ h1_ h2_ h3_ h4_ h5_ h6_ h7_ h8_ h9_ h10_ h11_ h12_ h13_ h14_ h15_ h16_ h17_ h18_
     have hHeld:w24.cell? ⟨gb555,0,none⟩=some (.int .i64 t550)∧w24.cell? ⟨gb555,1,none⟩=some (.int .i64 t551)∧w24.cell? ⟨gb555,2,none⟩=some (.int .i64 t552):=hS_
     refine norm_ (a':=?_) ?_ ?_
     rotate_left
     ·
      simp only [putAll,Act.put,List.setIfInBounds_toArray,List.set_cons_zero,List.set_cons_succ]
      rfl
     refine one_ (i:=8) (N:=some 9) #[Y,Y,Y,Y,Y,Y,Y,Y,Y,Y,Z,Z] rfl rfl (one_of HT_.out (by kernel_rfl)) (by decide) (fun K hK=>?_)
     refine box_step ?hg (N:=9) ?hd (cs:=#[.int .i64 0,.int .i64 0]) (t:=27) ?hr ?_;(case hd=>rfl);(case hg=>rfl);(case hr=>first|(go_simp;done)|(go_simp;rfl))
     intro gb564 hg w25 hbox hb
     have n0_:=kB BK542 hb
     have n1_:=kB BK543 hb
     have n2_:=kB BK544 hb
     have n3_:=Aside0.mk (IsS74.below (iA HI548) hb)
     have n4_:=kB BK555 hb
     have n5_:=kB BK565 hb
     have n6_:=lI hb
     have n7_:=Aside0.mk hbox
     have n8_:=sI hg
     have n9_:=sI hg
     have n10_:=nA hg BK542
     have n11_:=nB hg BK542
     have n12_:=nA hg BK543
     have n13_:=nB hg BK543
     have n14_:=nA hg BK544
     have n15_:=nB hg BK544
     have n16_:=nA hg BK555
     have n17_:=nB hg BK555
     have n18_:=nA hg BK565
     have n19_:=nB hg BK565
     have n20_:=inA hg (IsS74.lt (iA HI548))
     have n21_:=inB hg (IsS74.lt (iA HI548))
     clear BK542
     clear BK543
     clear BK544
     clear HI548
     clear BK555
     clear BK565
     clear HB
     have BK542:=n0_
     have BK543:=n1_
     have BK544:=n2_
     have HI548:=n3_
     have BK555:=n4_
     have BK565:=n5_
     have HB:=n6_
     have BK564:=n7_
     have GW564:=n8_
     have GE564:=n9_
     have NB542_564:=n10_
     have NB564_542:=n11_
     have NB543_564:=n12_
     have NB564_543:=n13_
     have NB544_564:=n14_
     have NB564_544:=n15_
     have NB555_564:=n16_
     have NB564_555:=n17_
     have NB565_564:=n18_
     have NB564_565:=n19_
     have NB548_564:=n20_
     have NB564_548:=n21_
     clear n0_ n1_ n2_ n3_ n4_ n5_ n6_ n7_ n8_ n9_ n10_ n11_ n12_ n13_ n14_ n15_ n16_ n17_ n18_ n19_ n20_ n21_
     clear hb hbox hg
     refine hK.out _ _ ⟨cA BK555 0,cA BK555 1,cA BK555 2⟩ (fun hHeld=>?_)
     clear hK K
     refine nmA ?_
     exact norm_ (by first|(simp only [putAll,Act.put,List.setIfInBounds_toArray,List.set_cons_zero,List.set_cons_succ];done)|(simp only [putAll,Act.put,List.setIfInBounds_toArray,List.set_cons_zero,List.set_cons_succ];rfl)) (hJ3_7_8_9 (gb564,gb565) _ ⟨hHeld,(bkA BK542),(bkA BK543),(bkA BK544),(bkA BK555),(bkA BK564),(bkA BK565),GW564.out,GE564.out,NB548_564.out,NB564_548.out,NB542_564.out,NB564_542.out,NB543_564.out,NB564_543.out,NB544_564.out,NB564_544.out,NB555_564.out,NB564_555.out,NB565_564.out,NB564_565.out,GW565.out,GE565.out,NB548_565.out,NB565_548.out,NB542_565.out,NB565_542.out,NB543_565.out,NB565_543.out,NB544_565.out,NB565_544.out,NB555_565.out,NB565_555.out,(iA HI548),blI⟩)
   ·
    skip
    rintro gb564 w24 ⟨hS_,h0_,h1_,h2_,h3_,h4_,h5_,h6_,h7_,h8_,h9_,h10_,h11_,h12_,h13_,h14_,h15_,h16_,h17_,h18_⟩
    have BK564:=Aside0.mk h4_
    have GW564:=Aside0.mk h5_
    have GE564:=Aside0.mk h6_
    have NB548_564:=Aside0.mk h7_
    have NB564_548:=Aside0.mk h8_
    have NB542_564:=Aside0.mk h9_
    have NB564_542:=Aside0.mk h10_
    have NB543_564:=Aside0.mk h11_
    have NB564_543:=Aside0.mk h12_
    have NB544_564:=Aside0.mk h13_
    have NB564_544:=Aside0.mk h14_
    have NB555_564:=Aside0.mk h15_
    have NB564_555:=Aside0.mk h16_
    replace BK542:=Aside0.mk h0_
    replace BK543:=Aside0.mk h1_
    replace BK544:=Aside0.mk h2_
    replace BK555:=Aside0.mk h3_
    replace HI548:=Aside0.mk h17_
    replace HB:=Aside0.mk h18_
    clear h0_ h1_ h2_ h3_ h4_ h5_ h6_ h7_ h8_ h9_ h10_ h11_ h12_ h13_ h14_ h15_ h16_ h17_ h18_
    have hHeld:w24.cell? ⟨gb555,0,none⟩=some (.int .i64 t550)∧w24.cell? ⟨gb555,1,none⟩=some (.int .i64 t551)∧w24.cell? ⟨gb555,2,none⟩=some (.int .i64 t552):=hS_
    refine norm_ (a':=?_) ?_ ?_
    rotate_left
    ·
     simp only [putAll,Act.put,List.setIfInBounds_toArray,List.set_cons_zero,List.set_cons_succ]
     rfl
    refine one_ (i:=9) (N:=some 10) #[Y,Y,Y,Y,Y,Y,Y,Y,Y,Y,Z,Z] rfl rfl (one_of HT_.out (by kernel_rfl)) (by decide) (fun K hK=>?_)
    refine box_step ?hg (N:=10) ?hd (cs:=#[.int .i64 0,.int .i64 0]) (t:=27) ?hr ?_;(case hd=>rfl);(case hg=>rfl);(case hr=>first|(go_simp;done)|(go_simp;rfl))
    intro gb565 hg w25 hbox hb
    have n0_:=kB BK542 hb
    have n1_:=kB BK543 hb
    have n2_:=kB BK544 hb
    have n3_:=Aside0.mk (IsS74.below (iA HI548) hb)
    have n4_:=kB BK555 hb
    have n5_:=kB BK564 hb
    have n6_:=lI hb
    have n7_:=Aside0.mk hbox
    have n8_:=sI hg
    have n9_:=sI hg
    have n10_:=nA hg BK542
    have n11_:=nB hg BK542
    have n12_:=nA hg BK543
    have n13_:=nB hg BK543
    have n14_:=nA hg BK544
    have n15_:=nB hg BK544
    have n16_:=nA hg BK555
    have n17_:=nB hg BK555
    have n18_:=nA hg BK564
    have n19_:=nB hg BK564
    have n20_:=inA hg (IsS74.lt (iA HI548))
    have n21_:=inB hg (IsS74.lt (iA HI548))
    clear BK542
    clear BK543
    clear BK544
    clear HI548
    clear BK555
    clear BK564
    clear HB
    have BK542:=n0_
    have BK543:=n1_
    have BK544:=n2_
    have HI548:=n3_
    have BK555:=n4_
    have BK564:=n5_
    have HB:=n6_
    have BK565:=n7_
    have GW565:=n8_
    have GE565:=n9_
    have NB542_565:=n10_
    have NB565_542:=n11_
    have NB543_565:=n12_
    have NB565_543:=n13_
    have NB544_565:=n14_
    have NB565_544:=n15_
    have NB555_565:=n16_
    have NB565_555:=n17_
    have NB564_565:=n18_
    have NB565_564:=n19_
    have NB548_565:=n20_
    have NB565_548:=n21_
    clear n0_ n1_ n2_ n3_ n4_ n5_ n6_ n7_ n8_ n9_ n10_ n11_ n12_ n13_ n14_ n15_ n16_ n17_ n18_ n19_ n20_ n21_
    clear hb hbox hg
    refine hK.out _ _ ⟨cA BK555 0,cA BK555 1,cA BK555 2⟩ (fun hHeld=>?_)
    clear hK K
    refine nmA ?_
    exact norm_ (by first|(simp only [putAll,Act.put,List.setIfInBounds_toArray,List.set_cons_zero,List.set_cons_succ];done)|(simp only [putAll,Act.put,List.setIfInBounds_toArray,List.set_cons_zero,List.set_cons_succ];rfl)) (hJ3_7_8_9 (gb564,gb565) _ ⟨hHeld,(bkA BK542),(bkA BK543),(bkA BK544),(bkA BK555),(bkA BK564),(bkA BK565),GW564.out,GE564.out,NB548_564.out,NB564_548.out,NB542_564.out,NB564_542.out,NB543_564.out,NB564_543.out,NB544_564.out,NB564_544.out,NB555_564.out,NB564_555.out,NB565_564.out,NB564_565.out,GW565.out,GE565.out,NB548_565.out,NB565_548.out,NB542_565.out,NB565_542.out,NB543_565.out,NB565_543.out,NB544_565.out,NB565_544.out,NB555_565.out,NB565_555.out,(iA HI548),blI⟩)
  rintro ⟨gb564,gb565⟩ w25 ⟨hS_,h0_,h1_,h2_,h3_,h4_,h5_,h6_,h7_,h8_,h9_,h10_,h11_,h12_,h13_,h14_,h15_,h16_,h17_,h18_,h19_,h20_,h21_,h22_,h23_,h24_,h25_,h26_,h27_,h28_,h29_,h30_,h31_,h32_,h33_⟩
  have BK564:=Aside0.mk h4_
  have BK565:=Aside0.mk h5_
  have GW564:=Aside0.mk h6_
  have GE564:=Aside0.mk h7_
  have NB548_564:=Aside0.mk h8_
  have NB564_548:=Aside0.mk h9_
  have NB542_564:=Aside0.mk h10_
  have NB564_542:=Aside0.mk h11_
  have NB543_564:=Aside0.mk h12_
  have NB564_543:=Aside0.mk h13_
  have NB544_564:=Aside0.mk h14_
  have NB564_544:=Aside0.mk h15_
  have NB555_564:=Aside0.mk h16_
  have NB564_555:=Aside0.mk h17_
  have NB565_564:=Aside0.mk h18_
  have NB564_565:=Aside0.mk h19_
  have GW565:=Aside0.mk h20_
  have GE565:=Aside0.mk h21_
  have NB548_565:=Aside0.mk h22_
  have NB565_548:=Aside0.mk h23_
  have NB542_565:=Aside0.mk h24_
  have NB565_542:=Aside0.mk h25_
  have NB543_565:=Aside0.mk h26_
  have NB565_543:=Aside0.mk h27_
  have NB544_565:=Aside0.mk h28_
  have NB565_544:=Aside0.mk h29_
  have NB555_565:=Aside0.mk h30_
  have NB565_555:=Aside0.mk h31_
  replace BK542:=Aside0.mk h0_
  replace BK543:=Aside0.mk h1_
  replace BK544:=Aside0.mk h2_
  replace BK555:=Aside0.mk h3_
  replace HI548:=Aside0.mk h32_
  replace HB:=Aside0.mk h33_
  clear h0_ h1_ h2_ h3_ h4_ h5_ h6_ h7_ h8_ h9_ h10_ h11_ h12_ h13_ h14_ h15_ h16_ h17_ h18_ h19_ h20_ h21_ h22_ h23_ h24_ h25_ h26_ h27_ h28_ h29_ h30_ h31_ h32_ h33_
  have hHeld:w25.cell? ⟨gb555,0,none⟩=some (.int .i64 t550)∧w25.cell? ⟨gb555,1,none⟩=some (.int .i64 t551)∧w25.cell? ⟨gb555,2,none⟩=some (.int .i64 t552):=hS_
  refine norm_ (a':=?_) ?_ ?_
  rotate_left
  ·
   simp only [putAll,Act.put,List.setIfInBounds_toArray,List.set_cons_zero,List.set_cons_succ]
   rfl
  refine one_ (i:=10) (N:=none) #[Y,Y,Y,Y,Y,Y,Y,Y,Y,Y,Y,Z] rfl rfl (one_of HT_.out (by kernel_rfl)) (by decide) (fun K hK=>?_)
  have hs26:w25.cell? ⟨gb564,0,none⟩=some (.int .i64 0):=cA BK564 0
  have hfs26:=blk_frozen BK564.out 0
  have hns26_0:=NB542_564.out
  have hns26_1:=NB543_564.out
  have hns26_2:=NB544_564.out
  have hns26_3:=NB555_564.out
  have hns26_5:=NB565_564.out
  have hms26_0:=NB564_542.out
  have hms26_1:=NB564_543.out
  have hms26_2:=NB564_544.out
  have hms26_3:=NB564_555.out
  have hms26_5:=NB564_565.out
  have hs27:w25.cell? ⟨gb564,1,none⟩=some (.int .i64 0):=cA BK564 1
  have hfs27:=blk_frozen BK564.out 1
  have hns27_0:=NB542_564.out
  have hns27_1:=NB543_564.out
  have hns27_2:=NB544_564.out
  have hns27_3:=NB555_564.out
  have hns27_5:=NB565_564.out
  have hms27_0:=NB564_542.out
  have hms27_1:=NB564_543.out
  have hms27_2:=NB564_544.out
  have hms27_3:=NB564_555.out
  have hms27_5:=NB564_565.out
  refine skip_ (w1:=?_) (by rfl) rfl ?_ ?_
  rotate_left
  ·
   go_simp
   rfl
  refine hK.out _ _ ⟨cfC hHeld.1,cfC hHeld.2.1,cfC hHeld.2.2⟩ (fun hHeld=>?_)
  clear hK K
  refine one_ (i:=11) (N:=none) #[Y,Y,Y,Y,Y,Y,Y,Y,Y,Y,Y,Y] rfl rfl (one_of HT_.out (by kernel_rfl)) (by decide) (fun K hK=>?_)
  have hs28:w25.cell? ⟨gb565,0,none⟩=some (.int .i64 0):=cA BK565 0
  have hfs28:=blk_frozen BK565.out 0
  have hns28_0:=NB542_565.out
  have hns28_1:=NB543_565.out
  have hns28_2:=NB544_565.out
  have hns28_3:=NB555_565.out
  have hns28_4:=NB564_565.out
  have hms28_0:=NB565_542.out
  have hms28_1:=NB565_543.out
  have hms28_2:=NB565_544.out
  have hms28_3:=NB565_555.out
  have hms28_4:=NB565_564.out
  have hs29:w25.cell? ⟨gb565,1,none⟩=some (.int .i64 0):=cA BK565 1
  have hfs29:=blk_frozen BK565.out 1
  have hns29_0:=NB542_565.out
  have hns29_1:=NB543_565.out
  have hns29_2:=NB544_565.out
  have hns29_3:=NB555_565.out
  have hns29_4:=NB564_565.out
  have hms29_0:=NB565_542.out
  have hms29_1:=NB565_543.out
  have hms29_2:=NB565_544.out
  have hms29_3:=NB565_555.out
  have hms29_4:=NB565_564.out
  refine skip_ (w1:=?_) (by rfl) rfl ?_ ?_
  rotate_left
  ·
   go_simp
   rfl
  refine hK.out _ _ ⟨cfC hHeld.1,cfC hHeld.2.1,cfC hHeld.2.2⟩ (fun hHeld=>?_)
  clear hK K
  refine done_ (done_of HT_.out (by kernel_rfl)) ?_
 ·
  try go_wp2_with (first|((with_reducible refine gd 27 rfl ?_);refine gC (some 27) rfl Try.func50 (spec_l01Next.calls (w:=_) (g:=g548) (w0:=w) (hI:=iA HI548) (hB:=blI) (h:=A6.out)) ?_;rintro w30 ⟨hi,hb,hk⟩;have n0_:=Aside0.mk (KeepBut.blk hk (g':=gb542) (o:=.cells #[.int .i64 0,.int .i64 0,.int .i64 0] 25 (0,0)) (bkF BK542) NB542_548.out (by simp));have n1_:=Aside0.mk (KeepBut.blk hk (g':=gb543) (o:=.cells #[.int .i64 0,.int .i64 0] 27 (0,0)) (bkF BK543) NB543_548.out (by simp));have n2_:=Aside0.mk (KeepBut.blk hk (g':=gb544) (o:=.cells #[.int .i64 0,.int .i64 0] 27 (0,0)) (bkF BK544) NB544_548.out (by simp));have n3_:=Aside0.mk (KeepBut.blk hk (g':=gb555) (o:=.cells #[.int .i64 t550,.int .i64 t551,.int .i64 t552] 25 (0,0)) (bkF BK555) NB555_548.out (by simp));have n4_:=Aside0.mk (KeepBut.blk hk (g':=gb564) (o:=.cells #[.int .i64 t556,.int .i64 t557] 27 (0,0)) (bpA BK564) NB564_548.out (by simp));have n5_:=Aside0.mk (KeepBut.blk hk (g':=gb565) (o:=.cells #[.int .i64 t560,.int .i64 t561] 27 (0,0)) (bpA BK565) NB565_548.out (by simp));have n6_:=Aside0.mk hb;have n7_:=Aside0.mk hi;clear BK542;clear BK543;clear BK544;clear BK555;clear BK564;clear BK565;clear HB;clear HI548;have BK542:=n0_;have BK543:=n1_;have BK544:=n2_;have BK555:=n3_;have BK564:=n4_;have BK565:=n5_;have HB:=n6_;have HI548:=n7_;clear n0_ n1_ n2_ n3_ n4_ n5_ n6_ n7_;clear hi hb hk;have hnb31:=NB564_542.out;have hnc31:=NB542_564.out;have hnb32:=NB564_543.out;have hnc32:=NB543_564.out;have hnb33:=NB564_544.out;have hnc33:=NB544_564.out;have hnb34:=NB564_555.out;have hnc34:=NB555_564.out;have hnb35:=NB564_565.out;have hnc35:=NB565_564.out;have hnb36:=NB564_548.out;have hnc36:=NB548_564.out;obtain ⟨hcz37_0,hcz37_1,hfz37_0,hfz37_1⟩:=cz2 BK564;have hnb38:=NB565_542.out;have hnc38:=NB542_565.out;have hnb39:=NB565_543.out;have hnc39:=NB543_565.out;have hnb40:=NB565_544.out;have hnc40:=NB544_565.out;have hnb41:=NB565_555.out;have hnc41:=NB555_565.out;have hnb42:=NB565_548.out;have hnc42:=NB548_565.out;obtain ⟨hcz43_0,hcz43_1,hfz43_0,hfz43_1⟩:=cz2 BK565))
  have n0_:Aside0 (((w30.setCell ⟨gb565,0,none⟩ (.int .i64 t556)).setCell ⟨gb565,1,none⟩ (.int .i64 t557)).heap[gb542]?=some (.cells #[.int .i64 0,.int .i64 0,.int .i64 0] 25 (0,0))):=⟨bkF BK542⟩
  have n1_:Aside0 (((w30.setCell ⟨gb565,0,none⟩ (.int .i64 t556)).setCell ⟨gb565,1,none⟩ (.int .i64 t557)).heap[gb543]?=some (.cells #[.int .i64 0,.int .i64 0] 27 (0,0))):=⟨bkF BK543⟩
  have n2_:Aside0 (((w30.setCell ⟨gb565,0,none⟩ (.int .i64 t556)).setCell ⟨gb565,1,none⟩ (.int .i64 t557)).heap[gb544]?=some (.cells #[.int .i64 0,.int .i64 0] 27 (0,0))):=⟨bkF BK544⟩
  have n3_:Aside0 (((w30.setCell ⟨gb565,0,none⟩ (.int .i64 t556)).setCell ⟨gb565,1,none⟩ (.int .i64 t557)).heap[gb555]?=some (.cells #[.int .i64 t550,.int .i64 t551,.int .i64 t552] 25 (0,0))):=⟨bkF BK555⟩
  have n4_:Aside0 (((w30.setCell ⟨gb565,0,none⟩ (.int .i64 t556)).setCell ⟨gb565,1,none⟩ (.int .i64 t557)).heap[gb564]?=some (.cells #[.int .i64 t556,.int .i64 t557] 27 (0,0))):=⟨bkF BK564⟩
  have n5_:Aside0 (((w30.setCell ⟨gb565,0,none⟩ (.int .i64 t556)).setCell ⟨gb565,1,none⟩ (.int .i64 t557)).heap[gb565]?=some (.cells #[.int .i64 t556,.int .i64 t557] 27 (0,0))):=⟨bpA BK565⟩
  have n6_:Aside0 (IsS74 w ((w30.setCell ⟨gb565,0,none⟩ (.int .i64 t556)).setCell ⟨gb565,1,none⟩ (.int .i64 t557)) g548 t545 t567 t568):=⟨iA HI548⟩
  have n7_:Aside0 (Below w.heap.size w ((w30.setCell ⟨gb565,0,none⟩ (.int .i64 t556)).setCell ⟨gb565,1,none⟩ (.int .i64 t557))):=⟨blI⟩
  (try clear BK542)
  (try clear BK543)
  (try clear BK544)
  (try clear BK555)
  (try clear BK564)
  (try clear BK565)
  (try clear HI548)
  (try clear HB)
  generalize ((w30.setCell ⟨gb565,0,none⟩ (.int .i64 t556)).setCell ⟨gb565,1,none⟩ (.int .i64 t557))=w44 at n0_ n1_ n2_ n3_ n4_ n5_ n6_ n7_ ⊢
  have BK542:=n0_
  have BK543:=n1_
  have BK544:=n2_
  have BK555:=n3_
  have BK564:=n4_
  have BK565:=n5_
  have HI548:=n6_
  have HB:=n7_
  clear n0_ n1_ n2_ n3_ n4_ n5_ n6_ n7_
  have n0_:=Aside0.mk (blk_drew BK542.out)
  have n1_:=Aside0.mk (blk_drew BK543.out)
  have n2_:=Aside0.mk (blk_drew BK544.out)
  have n3_:=Aside0.mk (blk_drew BK555.out)
  have n4_:=Aside0.mk (blk_drew BK564.out)
  have n5_:=Aside0.mk (blk_drew BK565.out)
  have n6_:=Aside0.mk (IsS74.drew HI548.out)
  have n7_:=Aside0.mk (below_drew1 HB.out)
  clear BK542
  clear BK543
  clear BK544
  clear BK555
  clear BK564
  clear BK565
  clear HI548
  clear HB
  have BK542:=n0_
  have BK543:=n1_
  have BK544:=n2_
  have BK555:=n3_
  have BK564:=n4_
  have BK565:=n5_
  have HI548:=n6_
  have HB:=n7_
  clear n0_ n1_ n2_ n3_ n4_ n5_ n6_ n7_
  refine start_ (n:=8) (S:=fun w'=>w'.cell? ⟨gb555,0,none⟩=some (.int .i64 t550)∧w'.cell? ⟨gb555,1,none⟩=some (.int .i64 t551)∧w'.cell? ⟨gb555,2,none⟩=some (.int .i64 t552)∧w'.cell? ⟨gb564,0,none⟩=some (.int .i64 t556)∧w'.cell? ⟨gb564,1,none⟩=some (.int .i64 t557)∧w'.cell? ⟨gb565,0,none⟩=some (.int .i64 t556)∧w'.cell? ⟨gb565,1,none⟩=some (.int .i64 t557)) (ds:=[]) #[Z,Z,Z,Z,Z,Z,Z,Z] (by kernel_rfl) rfl rfl ⟨cA BK555 0,cA BK555 1,cA BK555 2,cA BK564 0,cA BK564 1,cA BK565 0,cA BK565 1⟩ (fun hHeld=>?_);refine with_tabW spec_l05Line.tab6 spec_l05Line.bits6 (fun HT_ HW_=>?_)
  generalize w44.drew=w45 at BK542 BK543 BK544 BK555 BK564 BK565 HI548 HB hHeld ⊢
  refine puA (i:=0) (N:=some 30) #[Y,Z,Z,Z,Z,Z,Z,Z] rfl rfl HT_ ?_
  refine puA (i:=4) (N:=some 2) #[Y,Z,Z,Z,Y,Z,Z,Z] rfl rfl HT_ ?_
  refine taA (i:=1) (N:=some 31) #[Y,Y,Z,Z,Y,Z,Z,Z] rfl rfl HT_ HW_ hHeld ?_
  refine taA (i:=2) (N:=some 32) #[Y,Y,Y,Z,Y,Z,Z,Z] rfl rfl HT_ HW_ hHeld ?_
  refine taA (i:=3) (N:=some 33) #[Y,Y,Y,Y,Y,Z,Z,Z] rfl rfl HT_ HW_ hHeld ?_
  refine one_ (i:=5) (N:=none) #[Y,Y,Y,Y,Y,Y,Z,Z] rfl rfl (one_of HT_.out (by kernel_rfl)) (by decide) (fun K hK=>?_)
  have hs46:w45.cell? ⟨gb542,0,none⟩=some (.int .i64 0):=cA BK542 0
  have hfs46:=blk_frozen BK542.out 0
  have hns46_1:=NB543_542.out
  have hns46_2:=NB544_542.out
  have hns46_3:=NB555_542.out
  have hns46_4:=NB564_542.out
  have hns46_5:=NB565_542.out
  have hms46_1:=NB542_543.out
  have hms46_2:=NB542_544.out
  have hms46_3:=NB542_555.out
  have hms46_4:=NB542_564.out
  have hms46_5:=NB542_565.out
  have hs47:w45.cell? ⟨gb542,1,none⟩=some (.int .i64 0):=cA BK542 1
  have hfs47:=blk_frozen BK542.out 1
  have hns47_1:=NB543_542.out
  have hns47_2:=NB544_542.out
  have hns47_3:=NB555_542.out
  have hns47_4:=NB564_542.out
  have hns47_5:=NB565_542.out
  have hms47_1:=NB542_543.out
  have hms47_2:=NB542_544.out
  have hms47_3:=NB542_555.out
  have hms47_4:=NB542_564.out
  have hms47_5:=NB542_565.out
  have hs48:w45.cell? ⟨gb542,2,none⟩=some (.int .i64 0):=cA BK542 2
  have hfs48:=blk_frozen BK542.out 2
  have hns48_1:=NB543_542.out
  have hns48_2:=NB544_542.out
  have hns48_3:=NB555_542.out
  have hns48_4:=NB564_542.out
  have hns48_5:=NB565_542.out
  have hms48_1:=NB542_543.out
  have hms48_2:=NB542_544.out
  have hms48_3:=NB542_555.out
  have hms48_4:=NB542_564.out
  have hms48_5:=NB542_565.out
  refine skip_ (w1:=?_) (by rfl) rfl ?_ ?_
  rotate_left
  ·
   go_simp
   rfl
  refine hK.out _ _ ⟨cfC hHeld.1,cfC hHeld.2.1,cfC hHeld.2.2.1,cfC hHeld.2.2.2.1,cfC hHeld.2.2.2.2.1,cfC hHeld.2.2.2.2.2.1,cfC hHeld.2.2.2.2.2.2⟩ (fun hHeld=>?_)
  clear hK K
  refine one_ (i:=6) (N:=none) #[Y,Y,Y,Y,Y,Y,Y,Z] rfl rfl (one_of HT_.out (by kernel_rfl)) (by decide) (fun K hK=>?_)
  have hs49:w45.cell? ⟨gb543,0,none⟩=some (.int .i64 0):=cA BK543 0
  have hfs49:=blk_frozen BK543.out 0
  have hns49_0:=NB542_543.out
  have hns49_2:=NB544_543.out
  have hns49_3:=NB555_543.out
  have hns49_4:=NB564_543.out
  have hns49_5:=NB565_543.out
  have hms49_0:=NB543_542.out
  have hms49_2:=NB543_544.out
  have hms49_3:=NB543_555.out
  have hms49_4:=NB543_564.out
  have hms49_5:=NB543_565.out
  have hs50:w45.cell? ⟨gb543,1,none⟩=some (.int .i64 0):=cA BK543 1
  have hfs50:=blk_frozen BK543.out 1
  have hns50_0:=NB542_543.out
  have hns50_2:=NB544_543.out
  have hns50_3:=NB555_543.out
  have hns50_4:=NB564_543.out
  have hns50_5:=NB565_543.out
  have hms50_0:=NB543_542.out
  have hms50_2:=NB543_544.out
  have hms50_3:=NB543_555.out
  have hms50_4:=NB543_564.out
  have hms50_5:=NB543_565.out
  refine skip_ (w1:=?_) (by rfl) rfl ?_ ?_
  rotate_left
  ·
   go_simp
   rfl
  refine hK.out _ _ ⟨cfC hHeld.1,cfC hHeld.2.1,cfC hHeld.2.2.1,cfC hHeld.2.2.2.1,cfC hHeld.2.2.2.2.1,cfC hHeld.2.2.2.2.2.1,cfC hHeld.2.2.2.2.2.2⟩ (fun hHeld=>?_)
  clear hK K
  refine one_ (i:=7) (N:=none) #[Y,Y,Y,Y,Y,Y,Y,Y] rfl rfl (one_of HT_.out (by kernel_rfl)) (by decide) (fun K hK=>?_)
  have hs51:w45.cell? ⟨gb544,0,none⟩=some (.int .i64 0):=cA BK544 0
  have hfs51:=blk_frozen BK544.out 0
  have hns51_0:=NB542_544.out
  have hns51_1:=NB543_544.out
  have hns51_3:=NB555_544.out
  have hns51_4:=NB564_544.out
  have hns51_5:=NB565_544.out
  have hms51_0:=NB544_542.out
  have hms51_1:=NB544_543.out
  have hms51_3:=NB544_555.out
  have hms51_4:=NB544_564.out
  have hms51_5:=NB544_565.out
  have hs52:w45.cell? ⟨gb544,1,none⟩=some (.int .i64 0):=cA BK544 1
  have hfs52:=blk_frozen BK544.out 1
  have hns52_0:=NB542_544.out
  have hns52_1:=NB543_544.out
  have hns52_3:=NB555_544.out
  have hns52_4:=NB564_544.out
  have hns52_5:=NB565_544.out
  have hms52_0:=NB544_542.out
  have hms52_1:=NB544_543.out
  have hms52_3:=NB544_555.out
  have hms52_4:=NB544_564.out
  have hms52_5:=NB544_565.out
  refine skip_ (w1:=?_) (by rfl) rfl ?_ ?_
  rotate_left
  ·
   go_simp
   rfl
  refine hK.out _ _ ⟨cfC hHeld.1,cfC hHeld.2.1,cfC hHeld.2.2.1,cfC hHeld.2.2.2.1,cfC hHeld.2.2.2.2.1,cfC hHeld.2.2.2.2.2.1,cfC hHeld.2.2.2.2.2.2⟩ (fun hHeld=>?_)
  clear hK K
  refine done_ (done_of HT_.out (by kernel_rfl)) ?_
  try go_wp2
  refine bodyPost_ret (results_list (rs:=[.tmp 2,.cell 3 25,.cell 4 27,.cell 5 27]) rfl (by simp) (.tmp (.cell gb542 25 #[.int .i64 t550,.int .i64 t551,.int .i64 t552] (0,0) _ rfl (bpA BK542) Try.underlying25 rfl (by kernel_rfl) (.cell gb543 27 #[.int .i64 t556,.int .i64 t557] (0,0) _ rfl (bpA BK543) Try.underlying27 rfl (by kernel_rfl) (.cell gb544 27 #[.int .i64 t556,.int .i64 t557] (0,0) _ rfl (bpA BK544) Try.underlying27 rfl (by kernel_rfl) .nil))))) rfl ?_
  exact rf0 blI
 ·
  try go_wp2_with (first|((with_reducible refine gd 27 rfl ?_);refine gC (some 27) rfl Try.func50 (spec_l01Next.calls (w:=_) (g:=g548) (w0:=w) (hI:=iA HI548) (hB:=blI) (h:=A6.out)) ?_;rintro w75 ⟨hi,hb,hk⟩;have n0_:=Aside0.mk (KeepBut.blk hk (g':=gb542) (o:=.cells #[.int .i64 0,.int .i64 0,.int .i64 0] 25 (0,0)) (bkF BK542) NB542_548.out (by simp));have n1_:=Aside0.mk (KeepBut.blk hk (g':=gb543) (o:=.cells #[.int .i64 0,.int .i64 0] 27 (0,0)) (bkF BK543) NB543_548.out (by simp));have n2_:=Aside0.mk (KeepBut.blk hk (g':=gb544) (o:=.cells #[.int .i64 0,.int .i64 0] 27 (0,0)) (bkF BK544) NB544_548.out (by simp));have n3_:=Aside0.mk (KeepBut.blk hk (g':=gb555) (o:=.cells #[.int .i64 t550,.int .i64 t551,.int .i64 t552] 25 (0,0)) (bkF BK555) NB555_548.out (by simp));have n4_:=Aside0.mk (KeepBut.blk hk (g':=gb564) (o:=.cells #[.int .i64 t556,.int .i64 t557] 27 (0,0)) (bpA BK564) NB564_548.out (by simp));have n5_:=Aside0.mk (KeepBut.blk hk (g':=gb565) (o:=.cells #[.int .i64 t560,.int .i64 t561] 27 (0,0)) (bpA BK565) NB565_548.out (by simp));have n6_:=Aside0.mk hb;have n7_:=Aside0.mk hi;clear BK542;clear BK543;clear BK544;clear BK555;clear BK564;clear BK565;clear HB;clear HI548;have BK542:=n0_;have BK543:=n1_;have BK544:=n2_;have BK555:=n3_;have BK564:=n4_;have BK565:=n5_;have HB:=n6_;have HI548:=n7_;clear n0_ n1_ n2_ n3_ n4_ n5_ n6_ n7_;clear hi hb hk))
  have n0_:=Aside0.mk (blk_drew BK542.out)
  have n1_:=Aside0.mk (blk_drew BK543.out)
  have n2_:=Aside0.mk (blk_drew BK544.out)
  have n3_:=Aside0.mk (blk_drew BK555.out)
  have n4_:=Aside0.mk (blk_drew BK564.out)
  have n5_:=Aside0.mk (blk_drew BK565.out)
  have n6_:=Aside0.mk (IsS74.drew HI548.out)
  have n7_:=Aside0.mk (below_drew1 HB.out)
  clear BK542
  clear BK543
  clear BK544
  clear BK555
  clear BK564
  clear BK565
  clear HI548
  clear HB
  have BK542:=n0_
  have BK543:=n1_
  have BK544:=n2_
  have BK555:=n3_
  have BK564:=n4_
  have BK565:=n5_
  have HI548:=n6_
  have HB:=n7_
  clear n0_ n1_ n2_ n3_ n4_ n5_ n6_ n7_
  refine start_ (n:=8) (S:=fun w'=>w'.cell? ⟨gb555,0,none⟩=some (.int .i64 t550)∧w'.cell? ⟨gb555,1,none⟩=some (.int .i64 t551)∧w'.cell? ⟨gb555,2,none⟩=some (.int .i64 t552)∧w'.cell? ⟨gb564,0,none⟩=some (.int .i64 t556)∧w'.cell? ⟨gb564,1,none⟩=some (.int .i64 t557)∧w'.cell? ⟨gb565,0,none⟩=some (.int .i64 t560)∧w'.cell? ⟨gb565,1,none⟩=some (.int .i64 t561)) (ds:=[]) #[Z,Z,Z,Z,Z,Z,Z,Z] (by kernel_rfl) rfl rfl ⟨cA BK555 0,cA BK555 1,cA BK555 2,cA BK564 0,cA BK564 1,cA BK565 0,cA BK565 1⟩ (fun hHeld=>?_);refine with_tabW spec_l05Line.tab6 spec_l05Line.bits6 (fun HT_ HW_=>?_)
  generalize w75.drew=w76 at BK542 BK543 BK544 BK555 BK564 BK565 HI548 HB hHeld ⊢
  refine puA (i:=0) (N:=some 30) #[Y,Z,Z,Z,Z,Z,Z,Z] rfl rfl HT_ ?_
  refine puA (i:=4) (N:=some 2) #[Y,Z,Z,Z,Y,Z,Z,Z] rfl rfl HT_ ?_
  refine taA (i:=1) (N:=some 31) #[Y,Y,Z,Z,Y,Z,Z,Z] rfl rfl HT_ HW_ hHeld ?_
  refine taA (i:=2) (N:=some 32) #[Y,Y,Y,Z,Y,Z,Z,Z] rfl rfl HT_ HW_ hHeld ?_
  refine taA (i:=3) (N:=some 33) #[Y,Y,Y,Y,Y,Z,Z,Z] rfl rfl HT_ HW_ hHeld ?_
  refine one_ (i:=5) (N:=none) #[Y,Y,Y,Y,Y,Y,Z,Z] rfl rfl (one_of HT_.out (by kernel_rfl)) (by decide) (fun K hK=>?_)
  have hs77:w76.cell? ⟨gb542,0,none⟩=some (.int .i64 0):=cA BK542 0
  have hfs77:=blk_frozen BK542.out 0
  have hns77_1:=NB543_542.out
  have hns77_2:=NB544_542.out
  have hns77_3:=NB555_542.out
  have hns77_4:=NB564_542.out
  have hns77_5:=NB565_542.out
  have hms77_1:=NB542_543.out
  have hms77_2:=NB542_544.out
  have hms77_3:=NB542_555.out
  have hms77_4:=NB542_564.out
  have hms77_5:=NB542_565.out
  have hs78:w76.cell? ⟨gb542,1,none⟩=some (.int .i64 0):=cA BK542 1
  have hfs78:=blk_frozen BK542.out 1
  have hns78_1:=NB543_542.out
  have hns78_2:=NB544_542.out
  have hns78_3:=NB555_542.out
  have hns78_4:=NB564_542.out
  have hns78_5:=NB565_542.out
  have hms78_1:=NB542_543.out
  have hms78_2:=NB542_544.out
  have hms78_3:=NB542_555.out
  have hms78_4:=NB542_564.out
  have hms78_5:=NB542_565.out
  have hs79:w76.cell? ⟨gb542,2,none⟩=some (.int .i64 0):=cA BK542 2
  have hfs79:=blk_frozen BK542.out 2
  have hns79_1:=NB543_542.out
  have hns79_2:=NB544_542.out
  have hns79_3:=NB555_542.out
  have hns79_4:=NB564_542.out
  have hns79_5:=NB565_542.out
  have hms79_1:=NB542_543.out
  have hms79_2:=NB542_544.out
  have hms79_3:=NB542_555.out
  have hms79_4:=NB542_564.out
  have hms79_5:=NB542_565.out
  refine skip_ (w1:=?_) (by rfl) rfl ?_ ?_
  rotate_left
  ·
   go_simp
   rfl
  refine hK.out _ _ ⟨cfC hHeld.1,cfC hHeld.2.1,cfC hHeld.2.2.1,cfC hHeld.2.2.2.1,cfC hHeld.2.2.2.2.1,cfC hHeld.2.2.2.2.2.1,cfC hHeld.2.2.2.2.2.2⟩ (fun hHeld=>?_)
  clear hK K
  refine one_ (i:=6) (N:=none) #[Y,Y,Y,Y,Y,Y,Y,Z] rfl rfl (one_of HT_.out (by kernel_rfl)) (by decide) (fun K hK=>?_)
  have hs80:w76.cell? ⟨gb543,0,none⟩=some (.int .i64 0):=cA BK543 0
  have hfs80:=blk_frozen BK543.out 0
  have hns80_0:=NB542_543.out
  have hns80_2:=NB544_543.out
  have hns80_3:=NB555_543.out
  have hns80_4:=NB564_543.out
  have hns80_5:=NB565_543.out
  have hms80_0:=NB543_542.out
  have hms80_2:=NB543_544.out
  have hms80_3:=NB543_555.out
  have hms80_4:=NB543_564.out
  have hms80_5:=NB543_565.out
  have hs81:w76.cell? ⟨gb543,1,none⟩=some (.int .i64 0):=cA BK543 1
  have hfs81:=blk_frozen BK543.out 1
  have hns81_0:=NB542_543.out
  have hns81_2:=NB544_543.out
  have hns81_3:=NB555_543.out
  have hns81_4:=NB564_543.out
  have hns81_5:=NB565_543.out
  have hms81_0:=NB543_542.out
  have hms81_2:=NB543_544.out
  have hms81_3:=NB543_555.out
  have hms81_4:=NB543_564.out
  have hms81_5:=NB543_565.out
  refine skip_ (w1:=?_) (by rfl) rfl ?_ ?_
  rotate_left
  ·
   go_simp
   rfl
  refine hK.out _ _ ⟨cfC hHeld.1,cfC hHeld.2.1,cfC hHeld.2.2.1,cfC hHeld.2.2.2.1,cfC hHeld.2.2.2.2.1,cfC hHeld.2.2.2.2.2.1,cfC hHeld.2.2.2.2.2.2⟩ (fun hHeld=>?_)
  clear hK K
  refine one_ (i:=7) (N:=none) #[Y,Y,Y,Y,Y,Y,Y,Y] rfl rfl (one_of HT_.out (by kernel_rfl)) (by decide) (fun K hK=>?_)
  have hs82:w76.cell? ⟨gb544,0,none⟩=some (.int .i64 0):=cA BK544 0
  have hfs82:=blk_frozen BK544.out 0
  have hns82_0:=NB542_544.out
  have hns82_1:=NB543_544.out
  have hns82_3:=NB555_544.out
  have hns82_4:=NB564_544.out
  have hns82_5:=NB565_544.out
  have hms82_0:=NB544_542.out
  have hms82_1:=NB544_543.out
  have hms82_3:=NB544_555.out
  have hms82_4:=NB544_564.out
  have hms82_5:=NB544_565.out
  have hs83:w76.cell? ⟨gb544,1,none⟩=some (.int .i64 0):=cA BK544 1
  have hfs83:=blk_frozen BK544.out 1
  have hns83_0:=NB542_544.out
  have hns83_1:=NB543_544.out
  have hns83_3:=NB555_544.out
  have hns83_4:=NB564_544.out
  have hns83_5:=NB565_544.out
  have hms83_0:=NB544_542.out
  have hms83_1:=NB544_543.out
  have hms83_3:=NB544_555.out
  have hms83_4:=NB544_564.out
  have hms83_5:=NB544_565.out
  refine skip_ (w1:=?_) (by rfl) rfl ?_ ?_
  rotate_left
  ·
   go_simp
   rfl
  refine hK.out _ _ ⟨cfC hHeld.1,cfC hHeld.2.1,cfC hHeld.2.2.1,cfC hHeld.2.2.2.1,cfC hHeld.2.2.2.2.1,cfC hHeld.2.2.2.2.2.1,cfC hHeld.2.2.2.2.2.2⟩ (fun hHeld=>?_)
  clear hK K
  refine done_ (done_of HT_.out (by kernel_rfl)) ?_
  try go_wp2
  refine bodyPost_ret (results_list (rs:=[.tmp 2,.cell 3 25,.cell 4 27,.cell 5 27]) rfl (by simp) (.tmp (.cell gb542 25 #[.int .i64 t550,.int .i64 t551,.int .i64 t552] (0,0) _ rfl (bpA BK542) Try.underlying25 rfl (by kernel_rfl) (.cell gb543 27 #[.int .i64 t556,.int .i64 t557] (0,0) _ rfl (bpA BK543) Try.underlying27 rfl (by kernel_rfl) (.cell gb544 27 #[.int .i64 t560,.int .i64 t561] (0,0) _ rfl (bpA BK544) Try.underlying27 rfl (by kernel_rfl) .nil))))) rfl ?_
  exact rf0 blI
end Go.Proofs.Ytabcckoeilegnaa.PAll
