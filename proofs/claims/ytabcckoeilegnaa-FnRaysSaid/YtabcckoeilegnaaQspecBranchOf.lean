-- turned out of the kit's print
import Derived.Test.YtabcckoeilegnaaQx
import Derived.Test.YtabcckoeilegnaaQimplheld
import Derived.Test.YtabcckoeilegnaaQimplmod
import Derived.Test.YtabcckoeilegnaaQspecDrawRayOf
import Derived.Test.YtabcckoeilegnaaQspecl01Parent
namespace Go.Proofs.Ytabcckoeilegnaa.PAll
open Go.RowKit Go.Proofs.YtabcckoeilegnaaW.PrintWords Go.Proofs.YtabcckoeilegnaaW.PrintLast Go.Proofs.YtabcckoeilegnaaW.PrintMore
attribute [local go_sem] Go.Proofs.Ytabcckoeilegnaa.Aux.setCell_drewN Go.Proofs.Ytabcckoeilegnaa.Aux.isSome_setCell max2_int min2_int max_two min_two max_three min_three max_four min_four
set_option linter.unusedVariables false
set_option linter.unusedSimpArgs false
theorem cfB {A B:Prop} (h0:B) (h:B→A:=by intro h_;repeat (first|(with_reducible exact h_)|refine (cell_far (Aside0.out (by assumption)) _).trans ?_)):A:=h h0
def spec_DrawBranchOf.f (k:Nat) (l0:List Int):Option (Int × Int × Int × Int × Int × Int):=(spec_l01From.f k l0).bind fun bt753=>((spec_l01Spoil.f k bt753.1 bt753.2.1 bt753.2.2).bind fun bt757=>((spec_l05End.f k bt753.1 bt757.2.2.2.2.1 bt757.2.2.2.2.2 bt757.1 bt757.2.1 bt757.2.2.1 bt757.2.2.2.1).bind fun bt764=>(some (bt757.1,bt757.2.1,bt757.2.2.1,bt757.2.2.2.1,bt764.1,bt764.2.1))))
theorem spec_DrawBranchOf.mono:∀ a0 k,LeO (spec_DrawBranchOf.f k a0) (spec_DrawBranchOf.f (k+1) a0):=by
 intro a0 k
 unfold spec_DrawBranchOf.f
 repeat' first
   | with_reducible first|exact spec_l01From.mono ..|exact spec_l01Spoil.mono ..|exact spec_l05End.mono ..|exact LeO.refl _|exact LeO.none _|refine LeO.ite ?_ ?_|refine LeO.bind ?_ fun _=>?_
def spec_DrawBranchOf.T3:Bool × List (List Nat × List Nat):=(true,[([],[]),([],[]),([],[]),([],[]),([],[]),([2,3,4],[2,3,4]),([0,5,0],[0]),([1,6,0,1,6],[1]),([5,7,0,1,2,3,4,5,6,7],[5])])
def spec_DrawBranchOf.B3:List Nat:=[0,0,0,0,0,28,61,127,255]
theorem spec_DrawBranchOf.tab3:rtab .any (opsOf Try.f19 3)=spec_DrawBranchOf.T3:=by kernel_rfl
theorem spec_DrawBranchOf.bits3:waitsOk spec_DrawBranchOf.T3.2 spec_DrawBranchOf.B3=true:=by kernel_rfl
set_option maxHeartbeats 40000000 in
set_option maxRecDepth 100000 in
theorem spec_DrawBranchOf.calls (k:Nat) (A0:Option Addr) (c0:Nat) (l0:List Int) (r1 r2 r3 r4 r5 r6:Int) (w:World) (hr0:Kd.C (Kd.int .u8) w A0 l0.length l0) (hc0:l0.length≤c0) (h:spec_DrawBranchOf.f k l0=some (r1,r2,r3,r4,r5,r6)) :
  Calls Try.prog 19 #[.slice A0 l0.length c0] w fun e w'=>e=.returned (.tuple #[.int .i64 r1,.agg #[.int .i64 r2,.int .i64 r3,.int .i64 r4],.agg #[.int .i64 r5,.int .i64 r6]])∧Below w.heap.size w w':=by
 have hu25:=Try.underlying25
 have hu27:=Try.underlying27
 have HR0:=Aside0.mk hr0
 have HC0:=Aside0.mk hc0
 clear hr0 hc0
 have HB:=Aside0.mk (Below.refl w.heap.size w)
 have H:=h
 unfold spec_DrawBranchOf.f at H
 clear h
 replace H:=bS H
 obtain ⟨⟨t753,t754,t755⟩,A2,H⟩:=H
 try dsimp only at H
 replace H:=bS H
 obtain ⟨⟨t757,t758,t759,t760,t761,t762⟩,A3,H⟩:=H
 try dsimp only at H
 replace H:=bS H
 obtain ⟨⟨t764,t765,t766,t767⟩,A4,H⟩:=H
 try dsimp only at H
 simp only [Option.some.injEq,Prod.mk.injEq] at H
 obtain ⟨rfl,rfl,rfl,rfl,rfl,rfl⟩:=H
 go_enter Try.func19,Try.ntmps19
 try go_wp2_with (first|((with_reducible refine gate_dst (N:=3) rfl ?_);refine bxE (cs:=#[.int .i64 0,.int .i64 0,.int .i64 0]) (t:=25) ?_;intro gb751 hg w5 hbox hb;have n0_:=lB hb;have n1_:=Aside0.mk hbox;have n2_:=sA hg;have n3_:=sA hg;clear HB;have HB:=n0_;have BK751:=n1_;have GW751:=n2_;have GE751:=n3_;clear n0_ n1_ n2_ n3_;clear hb hbox hg)|((with_reducible refine gate_dst (N:=4) rfl ?_);refine bxE (cs:=#[.int .i64 0,.int .i64 0]) (t:=27) ?_;intro gb752 hg w6 hbox hb;have n0_:=kB BK751 hb;have n1_:=lB hb;have n2_:=Aside0.mk hbox;have n3_:=sA hg;have n4_:=sA hg;have n5_:=nA hg BK751;have n6_:=nB hg BK751;clear BK751;clear HB;have BK751:=n0_;have HB:=n1_;have BK752:=n2_;have GW752:=n3_;have GE752:=n4_;have NB751_752:=n5_;have NB752_751:=n6_;clear n0_ n1_ n2_ n3_ n4_ n5_ n6_;clear hb hbox hg)|((with_reducible refine gate_callee (f:=22) rfl ?_);refine gL (some 9) rfl Try.func22 #[.slice A0 l0.length c0] ?_;(with_reducible refine (spec_l01From.calls k _ _ l0 t753 t754 t755 w _ ?side1 ?side2 ?side3 A2.out).mono ?_);(case side1=>exact blI);(case side2=>exact HR0.out);(case side3=>exact HC0.out);rintro e w7 ⟨g756,rfl,hi,hb,hb2⟩;refine ⟨_,rfl,?_⟩;have n0_:=kB BK751 hb2;have n1_:=kB BK752 hb2;have n2_:=Aside0.mk hb;have n3_:=Aside0.mk hi;have n4_:=Aside0.mk (IsS74.ne_blk hi (blk_below (bkA BK751) hb2) (by decide));have n5_:=Aside0.mk (Ne.symm (IsS74.ne_blk hi (blk_below (bkA BK751) hb2) (by decide)));have n6_:=Aside0.mk (IsS74.ne_blk hi (blk_below (bkA BK752) hb2) (by decide));have n7_:=Aside0.mk (Ne.symm (IsS74.ne_blk hi (blk_below (bkA BK752) hb2) (by decide)));clear BK751;clear BK752;clear HB;have BK751:=n0_;have BK752:=n1_;have HB:=n2_;have HI756:=n3_;have NB756_751:=n4_;have NB751_756:=n5_;have NB756_752:=n6_;have NB752_756:=n7_;clear n0_ n1_ n2_ n3_ n4_ n5_ n6_ n7_;clear hi hb hb2)|((with_reducible refine gd 12 rfl ?_);refine gC (some 12) rfl Try.func23 (spec_l01Spoil.calls (w:=_) (g:=g756) (w0:=w) (hI:=iA HI756) (hB:=blI) (h:=A3.out)) ?_;rintro w8 ⟨hi,hb,hk⟩;have n0_:=kbk hk BK751 NB751_756;have n1_:=kbk hk BK752 NB752_756;have n2_:=Aside0.mk hb;have n3_:=Aside0.mk hi;clear BK751;clear BK752;clear HB;clear HI756;have BK751:=n0_;have BK752:=n1_;have HB:=n2_;have HI756:=n3_;clear n0_ n1_ n2_ n3_;clear hi hb hk)|((with_reducible refine gate_dst (N:=7) rfl ?_);refine bxE (cs:=#[.int .i64 0,.int .i64 0,.int .i64 0]) (t:=25) ?_;intro gb763 hg w9 hbox hb;have n0_:=kB BK751 hb;have n1_:=kB BK752 hb;have n2_:=Aside0.mk (IsS74.below (iA HI756) hb);have n3_:=lI hb;have n4_:=Aside0.mk hbox;have n5_:=sI hg;have n6_:=sI hg;have n7_:=nA hg BK751;have n8_:=nB hg BK751;have n9_:=nA hg BK752;have n10_:=nB hg BK752;have n11_:=inA hg (IsS74.lt (iA HI756));have n12_:=inB hg (IsS74.lt (iA HI756));clear BK751;clear BK752;clear HI756;clear HB;have BK751:=n0_;have BK752:=n1_;have HI756:=n2_;have HB:=n3_;have BK763:=n4_;have GW763:=n5_;have GE763:=n6_;have NB751_763:=n7_;have NB763_751:=n8_;have NB752_763:=n9_;have NB763_752:=n10_;have NB756_763:=n11_;have NB763_756:=n12_;clear n0_ n1_ n2_ n3_ n4_ n5_ n6_ n7_ n8_ n9_ n10_ n11_ n12_;clear hb hbox hg;have hnb10:=NB763_751.out;have hnc10:=NB751_763.out;have hnb11:=NB763_752.out;have hnc11:=NB752_763.out;have hnb12:=NB763_756.out;have hnc12:=NB756_763.out;obtain ⟨hcz13_0,hcz13_1,hcz13_2,hfz13_0,hfz13_1,hfz13_2⟩:=cz3 BK763))
 have n0_:Aside0 ((((w9.setCell ⟨gb763,0,none⟩ (.int .i64 t758)).setCell ⟨gb763,1,none⟩ (.int .i64 t759)).setCell ⟨gb763,2,none⟩ (.int .i64 t760)).heap[gb751]?=some (.cells #[.int .i64 0,.int .i64 0,.int .i64 0] 25 (0,0))):=⟨bkF BK751⟩
 have n1_:Aside0 ((((w9.setCell ⟨gb763,0,none⟩ (.int .i64 t758)).setCell ⟨gb763,1,none⟩ (.int .i64 t759)).setCell ⟨gb763,2,none⟩ (.int .i64 t760)).heap[gb752]?=some (.cells #[.int .i64 0,.int .i64 0] 27 (0,0))):=⟨bkF BK752⟩
 have n2_:Aside0 ((((w9.setCell ⟨gb763,0,none⟩ (.int .i64 t758)).setCell ⟨gb763,1,none⟩ (.int .i64 t759)).setCell ⟨gb763,2,none⟩ (.int .i64 t760)).heap[gb763]?=some (.cells #[.int .i64 t758,.int .i64 t759,.int .i64 t760] 25 (0,0))):=⟨bpA BK763⟩
 have n3_:Aside0 (IsS74 w (((w9.setCell ⟨gb763,0,none⟩ (.int .i64 t758)).setCell ⟨gb763,1,none⟩ (.int .i64 t759)).setCell ⟨gb763,2,none⟩ (.int .i64 t760)) g756 t753 t761 t762):=⟨iA HI756⟩
 have n4_:Aside0 (Below w.heap.size w (((w9.setCell ⟨gb763,0,none⟩ (.int .i64 t758)).setCell ⟨gb763,1,none⟩ (.int .i64 t759)).setCell ⟨gb763,2,none⟩ (.int .i64 t760))):=⟨blI⟩
 (try clear BK751)
 (try clear BK752)
 (try clear BK763)
 (try clear HI756)
 (try clear HB)
 generalize (((w9.setCell ⟨gb763,0,none⟩ (.int .i64 t758)).setCell ⟨gb763,1,none⟩ (.int .i64 t759)).setCell ⟨gb763,2,none⟩ (.int .i64 t760))=w14 at n0_ n1_ n2_ n3_ n4_ ⊢
 have BK751:=n0_
 have BK752:=n1_
 have BK763:=n2_
 have HI756:=n3_
 have HB:=n4_
 clear n0_ n1_ n2_ n3_ n4_
 have n0_:=Aside0.mk (blk_drew BK751.out)
 have n1_:=Aside0.mk (blk_drew BK752.out)
 have n2_:=Aside0.mk (blk_drew BK763.out)
 have n3_:=Aside0.mk (IsS74.drew HI756.out)
 have n4_:=Aside0.mk (below_drew1 HB.out)
 clear BK751
 clear BK752
 clear BK763
 clear HI756
 clear HB
 have BK751:=n0_
 have BK752:=n1_
 have BK763:=n2_
 have HI756:=n3_
 have HB:=n4_
 clear n0_ n1_ n2_ n3_ n4_
 refine start_ (n:=9) (S:=fun w'=>w'.cell? ⟨gb763,0,none⟩=some (.int .i64 t758)∧w'.cell? ⟨gb763,1,none⟩=some (.int .i64 t759)∧w'.cell? ⟨gb763,2,none⟩=some (.int .i64 t760)) (ds:=[]) #[Z,Z,Z,Z,Z,Z,Z,Z,Z] (by kernel_rfl) rfl rfl ⟨cA BK763 0,cA BK763 1,cA BK763 2⟩ (fun hHeld=>?_);refine with_tabW spec_DrawBranchOf.tab3 spec_DrawBranchOf.bits3 (fun HT_ HW_=>?_)
 generalize w14.drew=w15 at BK751 BK752 BK763 HI756 HB hHeld ⊢
 refine puA (i:=0) (N:=some 15) #[Y,Z,Z,Z,Z,Z,Z,Z,Z] rfl rfl HT_ ?_
 refine puA (i:=2) (N:=some 17) #[Y,Z,Y,Z,Z,Z,Z,Z,Z] rfl rfl HT_ ?_
 refine puA (i:=3) (N:=some 18) #[Y,Z,Y,Y,Z,Z,Z,Z,Z] rfl rfl HT_ ?_
 refine taA (i:=1) (N:=some 16) #[Y,Y,Y,Y,Z,Z,Z,Z,Z] rfl rfl HT_ HW_ hHeld ?_
 refine taA (i:=4) (N:=some 19) #[Y,Y,Y,Y,Y,Z,Z,Z,Z] rfl rfl HT_ HW_ hHeld ?_
 refine one_ (i:=5) (N:=some 20) #[Y,Y,Y,Y,Y,Y,Z,Z,Z] rfl rfl (one_of HT_.out (by kernel_rfl)) (by decide) (fun K hK=>?_)
 refine goC Try.func24 (spec_l05End.calls (w:=_) (g:=g756) (w0:=w) (hI:=iA HI756) (hB:=blI) (h:=A4.out)) ?_
 rintro w16 ⟨hi,hb,hk⟩
 replace BK751:=kbk hk BK751 NB751_756
 replace BK752:=kbk hk BK752 NB752_756
 replace BK763:=kbk hk BK763 NB763_756
 replace HB:=Aside0.mk hb
 replace HI756:=Aside0.mk hi
 (try clear hb)
 (try clear hb2)
 (try clear hk)
 (try clear hi)
 refine hK.out _ _ ⟨cA BK763 0,cA BK763 1,cA BK763 2⟩ (fun hHeld=>?_)
 clear hK K
 refine nmA ?_
 refine puA (i:=6) (N:=some 2) #[Y,Y,Y,Y,Y,Y,Y,Z,Z] rfl rfl HT_ ?_
 refine one_ (i:=7) (N:=none) #[Y,Y,Y,Y,Y,Y,Y,Y,Z] rfl rfl (one_of HT_.out (by kernel_rfl)) (by decide) (fun K hK=>?_)
 have hs17:w16.cell? ⟨gb751,0,none⟩=some (.int .i64 0):=cA BK751 0
 have hfs17:=blk_frozen BK751.out 0
 have hns17_1:=NB752_751.out
 have hns17_2:=NB763_751.out
 have hms17_1:=NB751_752.out
 have hms17_2:=NB751_763.out
 have hs18:w16.cell? ⟨gb751,1,none⟩=some (.int .i64 0):=cA BK751 1
 have hfs18:=blk_frozen BK751.out 1
 have hns18_1:=NB752_751.out
 have hns18_2:=NB763_751.out
 have hms18_1:=NB751_752.out
 have hms18_2:=NB751_763.out
 have hs19:w16.cell? ⟨gb751,2,none⟩=some (.int .i64 0):=cA BK751 2
 have hfs19:=blk_frozen BK751.out 2
 have hns19_1:=NB752_751.out
 have hns19_2:=NB763_751.out
 have hms19_1:=NB751_752.out
 have hms19_2:=NB751_763.out
 refine skip_ (w1:=?_) (by rfl) rfl ?_ ?_
 rotate_left
 ·
  go_simp
  rfl
 refine hK.out _ _ ⟨cfB hHeld.1,cfB hHeld.2.1,cfB hHeld.2.2⟩ (fun hHeld=>?_)
 clear hK K
 refine one_ (i:=8) (N:=none) #[Y,Y,Y,Y,Y,Y,Y,Y,Y] rfl rfl (one_of HT_.out (by kernel_rfl)) (by decide) (fun K hK=>?_)
 have hs20:w16.cell? ⟨gb752,0,none⟩=some (.int .i64 0):=cA BK752 0
 have hfs20:=blk_frozen BK752.out 0
 have hns20_0:=NB751_752.out
 have hns20_2:=NB763_752.out
 have hms20_0:=NB752_751.out
 have hms20_2:=NB752_763.out
 have hs21:w16.cell? ⟨gb752,1,none⟩=some (.int .i64 0):=cA BK752 1
 have hfs21:=blk_frozen BK752.out 1
 have hns21_0:=NB751_752.out
 have hns21_2:=NB763_752.out
 have hms21_0:=NB752_751.out
 have hms21_2:=NB752_763.out
 refine skip_ (w1:=?_) (by rfl) rfl ?_ ?_
 rotate_left
 ·
  go_simp
  rfl
 refine hK.out _ _ ⟨cfB hHeld.1,cfB hHeld.2.1,cfB hHeld.2.2⟩ (fun hHeld=>?_)
 clear hK K
 refine done_ (done_of HT_.out (by kernel_rfl)) ?_
 try go_wp2
 refine bodyPost_ret (results_list (rs:=[.tmp 2,.cell 3 25,.cell 4 27]) rfl (by simp) (.tmp (.cell gb751 25 #[.int .i64 t758,.int .i64 t759,.int .i64 t760] (0,0) _ rfl (bpA BK751) Try.underlying25 rfl (by kernel_rfl) (.cell gb752 27 #[.int .i64 t764,.int .i64 t765] (0,0) _ rfl (bpA BK752) Try.underlying27 rfl (by kernel_rfl) .nil)))) rfl ?_
 exact rf0 blI
def spec_BranchOf.f (k:Nat) (a0 a1_0 a1_1 a1_2 a2_0 a2_1:Int):Option (Int × Int):=(spec_l05Code.f k a0 (([(⟨a1_0,a1_1,a1_2⟩:S25)]:List (S25))) (([(⟨a2_0,a2_1⟩:S27)]:List (S27)))).bind fun t781=>(if t781=0 then ((spec_l05Branch.f k a0 a1_0 a1_1 a1_2 a2_0 a2_1).bind fun t782=>(some (t782,0))) else (some (0,t781)))
theorem spec_BranchOf.mono:∀ a0 a1 a2 a3 a4 a5 k,LeO (spec_BranchOf.f k a0 a1 a2 a3 a4 a5) (spec_BranchOf.f (k+1) a0 a1 a2 a3 a4 a5):=by
 intro a0 a1 a2 a3 a4 a5 k
 unfold spec_BranchOf.f
 repeat' first
   | with_reducible first|exact spec_l05Branch.mono ..|exact spec_l05Code.mono ..|exact LeO.refl _|exact LeO.none _|refine LeO.ite ?_ ?_|refine LeO.bind ?_ fun _=>?_
set_option maxHeartbeats 40000000 in
set_option maxRecDepth 100000 in
theorem spec_BranchOf.calls (k:Nat) (a0 a1_0 a1_1 a1_2 a2_0 a2_1 r1 r2:Int) (w:World) (h:spec_BranchOf.f k a0 a1_0 a1_1 a1_2 a2_0 a2_1=some (r1,r2)) :
  Calls Try.prog 21 #[.int .i64 a0,.agg #[.int .i64 a1_0,.int .i64 a1_1,.int .i64 a1_2],.agg #[.int .i64 a2_0,.int .i64 a2_1]] w fun e w'=>e=.returned (.tuple #[.int .i64 r1,.int .i64 r2])∧Below w.heap.size w w':=by
 have hu25:=Try.underlying25
 have hu27:=Try.underlying27
 have HB:=Aside0.mk (Below.refl w.heap.size w)
 have H:=h
 unfold spec_BranchOf.f at H
 clear h
 obtain ⟨y775,hy775⟩:∃ y_:List (S25),y_=(([(⟨a1_0,a1_1,a1_2⟩:S25)]:List (S25))):=⟨_,rfl⟩
 replace H:((spec_l05Code.f k a0 y775 (([(⟨a2_0,a2_1⟩:S27)]:List (S27)))).bind fun t781=>(if t781=0 then ((spec_l05Branch.f k a0 a1_0 a1_1 a1_2 a2_0 a2_1).bind fun t782=>(some (t782,0))) else (some (0,t781))))=some (r1,r2):=rH hy775 H
 have Ny775:=Aside0.mk hy775
 clear hy775
 obtain ⟨y778,hy778⟩:∃ y_:List (S27),y_=(([(⟨a2_0,a2_1⟩:S27)]:List (S27))):=⟨_,rfl⟩
 replace H:((spec_l05Code.f k a0 y775 y778).bind fun t781=>(if t781=0 then ((spec_l05Branch.f k a0 a1_0 a1_1 a1_2 a2_0 a2_1).bind fun t782=>(some (t782,0))) else (some (0,t781))))=some (r1,r2):=rH hy778 H
 have Ny778:=Aside0.mk hy778
 clear hy778
 replace H:=bS H
 obtain ⟨t781,A4,H⟩:=H
 try dsimp only at H
 by_cases c5:t781=0
 ·
  rw [if_pos c5] at H
  have c5b0:(t781 == 0)=true:=beq_iff_eq.mpr c5
  have c5b1:(t781 != 0)=false:=bne_eq_false_iff_eq.mpr c5
  clear c5
  replace H:=bS H
  obtain ⟨t782,A6,H⟩:=H
  try dsimp only at H
  simp only [Option.some.injEq,Prod.mk.injEq] at H
  obtain ⟨rfl,rfl⟩:=H
  go_enter Try.func21,Try.ntmps21
  go_wp2_with (first|((with_reducible refine gate_dst (N:=4) rfl ?_);refine bxE (cs:=#[.int .i64 a1_0,.int .i64 a1_1,.int .i64 a1_2]) (t:=25) ?_;intro gb773 hg w7 hbox hb;have BK773:=Aside0.mk hbox;have GW773:=sA hg;have GE773:=sA hg;replace HB:=lB hb;clear hb hbox hg)|((with_reducible refine gate_dst (N:=5) rfl ?_);refine bxE (cs:=#[.int .i64 a2_0,.int .i64 a2_1]) (t:=27) ?_;intro gb774 hg w8 hbox hb;have BK774:=Aside0.mk hbox;have GW774:=sA hg;have GE774:=sA hg;have NB773_774:=nA hg BK773;have NB774_773:=nB hg BK773;replace BK773:=kB BK773 hb;replace HB:=lB hb;clear hb hbox hg;have hnb9:=NB773_774.out;have hnc9:=NB774_773.out;obtain ⟨hcz10_0,hcz10_1,hcz10_2,hfz10_0,hfz10_1,hfz10_2⟩:=cz3 BK773)|((with_reducible refine gate_dst (N:=11) rfl ?_);refine Kd.R_lit k25 _ 25 ?hg (N:=11) ?hd (xs:=([(⟨a1_0,a1_1,a1_2⟩:S25)]:List (S25))) (inner:=[.int .i64 a1_0,.int .i64 a1_1,.int .i64 a1_2]) (ok:=fun _=>True) (okp:=fun _=>True) ?hr ?hp (fun _ hk=>hk) trivial (Below.refl _ _) (Nat.le_refl _) (by simp) ?_;(case hd=>rfl);(case hg=>rfl);(case hr=>first|(go_simp;done)|(go_simp;rfl));(case hp=>exact (Reps.c3 (show Kd.M k25 _ _ _ (⟨a1_0,a1_1,a1_2⟩:S25) [.int .i64 a1_0,.int .i64 a1_1,.int .i64 a1_2] from (k25_mkM _ _ _ (⟨a1_0,a1_1,a1_2⟩:S25) )) (Reps.none _ _)));intro v776 w11 ho12 hb hg_ hnew_;clear hg_ hnew_;(first|rw [← Ny775.out] at ho12|(simp only [Int.reduceToNat] at ho12;rw [← Ny775.out] at ho12));have HO777:=Aside0.mk (Kd.R_lower (Kd.R_newB ho12 (bkA BK773)) (below_size blA));replace BK773:=kB BK773 hb;replace BK774:=kB BK774 hb;replace HB:=lB hb;clear hb ho12;obtain ⟨hcz13_0,hcz13_1,hfz13_0,hfz13_1⟩:=cz2 BK774)|((with_reducible refine gate_dst (N:=13) rfl ?_);refine Kd.R_lit k27 _ 27 ?hg (N:=13) ?hd (xs:=([(⟨a2_0,a2_1⟩:S27)]:List (S27))) (inner:=[.int .i64 a2_0,.int .i64 a2_1]) (ok:=fun _=>True) (okp:=fun _=>True) ?hr ?hp (fun _ hk=>hk) trivial (Below.refl _ _) (Nat.le_refl _) (by simp) ?_;(case hd=>rfl);(case hg=>rfl);(case hr=>first|(go_simp;done)|(go_simp;rfl));(case hp=>exact (Reps.c2 (show Kd.M k27 _ _ _ (⟨a2_0,a2_1⟩:S27) [.int .i64 a2_0,.int .i64 a2_1] from (k27_mkM _ _ _ (⟨a2_0,a2_1⟩:S27) )) (Reps.none _ _)));intro v779 w14 ho15 hb hg_ hnew_;clear hg_ hnew_;(first|rw [← Ny778.out] at ho15|(simp only [Int.reduceToNat] at ho15;rw [← Ny778.out] at ho15));have HO780:=Aside0.mk (Kd.R_lower (Kd.R_newB ho15 (bkA BK774)) (below_size blA));replace HO777:=Aside0.mk (Kd.R_below (rA HO777) hb);replace BK773:=kB BK773 hb;replace BK774:=kB BK774 hb;replace HB:=lB hb;clear hb ho15;obtain ⟨Ao16,co16,eo16⟩:=Kd.R_slice HO777.out;subst eo16;obtain ⟨Ao17,co17,eo17⟩:=Kd.R_slice HO780.out;subst eo17)|((with_reducible refine gd 14 rfl ?_);refine gC (some 14) rfl Try.func31 (spec_l05Code.calls (w:=_) (hr1:=cR (Kd.R_reads' HO777.out).2.2) (hc1:=(Kd.R_reads' HO777.out).2.1) (hr2:=cR (Kd.R_reads' HO780.out).2.2) (hc2:=(Kd.R_reads' HO780.out).2.1) (h:=A4.out)) ?_;intro w18 hb;replace HO777:=Aside0.mk (Kd.R_below (rA HO777) hb);replace HO780:=Aside0.mk (Kd.R_below (rA HO780) hb);replace BK773:=kB BK773 hb;replace BK774:=kB BK774 hb;replace HB:=lB hb;clear hb;obtain ⟨hcz19_0,hcz19_1,hcz19_2,hfz19_0,hfz19_1,hfz19_2⟩:=cz3 BK773;obtain ⟨hcz20_0,hcz20_1,hfz20_0,hfz20_1⟩:=cz2 BK774)|((with_reducible refine gd 21 rfl ?_);refine gC (some 21) rfl Try.func46 (spec_l05Branch.calls (w:=_) (h:=A6.out)) ?_;intro w21 hb;replace HO777:=Aside0.mk (Kd.R_below (rA HO777) hb);replace HO780:=Aside0.mk (Kd.R_below (rA HO780) hb);replace BK773:=kB BK773 hb;replace BK774:=kB BK774 hb;replace HB:=lB hb;clear hb))
  go_ret2
  exact finA blA
 ·
  rw [if_neg c5] at H
  have c5b0:(t781 == 0)=false:=beq_eq_false_iff_ne.mpr c5
  have c5b1:(t781 != 0)=true:=bne_iff_ne.mpr c5
  simp only [Option.some.injEq,Prod.mk.injEq] at H
  obtain ⟨rfl,rfl⟩:=H
  go_enter Try.func21,Try.ntmps21
  go_wp2_with (first|((with_reducible refine gate_dst (N:=4) rfl ?_);refine bxE (cs:=#[.int .i64 a1_0,.int .i64 a1_1,.int .i64 a1_2]) (t:=25) ?_;intro gb773 hg w22 hbox hb;have BK773:=Aside0.mk hbox;have GW773:=sA hg;have GE773:=sA hg;replace HB:=lB hb;clear hb hbox hg)|((with_reducible refine gate_dst (N:=5) rfl ?_);refine bxE (cs:=#[.int .i64 a2_0,.int .i64 a2_1]) (t:=27) ?_;intro gb774 hg w23 hbox hb;have BK774:=Aside0.mk hbox;have GW774:=sA hg;have GE774:=sA hg;have NB773_774:=nA hg BK773;have NB774_773:=nB hg BK773;replace BK773:=kB BK773 hb;replace HB:=lB hb;clear hb hbox hg;have hnb24:=NB773_774.out;have hnc24:=NB774_773.out;obtain ⟨hcz25_0,hcz25_1,hcz25_2,hfz25_0,hfz25_1,hfz25_2⟩:=cz3 BK773)|((with_reducible refine gate_dst (N:=11) rfl ?_);refine Kd.R_lit k25 _ 25 ?hg (N:=11) ?hd (xs:=([(⟨a1_0,a1_1,a1_2⟩:S25)]:List (S25))) (inner:=[.int .i64 a1_0,.int .i64 a1_1,.int .i64 a1_2]) (ok:=fun _=>True) (okp:=fun _=>True) ?hr ?hp (fun _ hk=>hk) trivial (Below.refl _ _) (Nat.le_refl _) (by simp) ?_;(case hd=>rfl);(case hg=>rfl);(case hr=>first|(go_simp;done)|(go_simp;rfl));(case hp=>exact (Reps.c3 (show Kd.M k25 _ _ _ (⟨a1_0,a1_1,a1_2⟩:S25) [.int .i64 a1_0,.int .i64 a1_1,.int .i64 a1_2] from (k25_mkM _ _ _ (⟨a1_0,a1_1,a1_2⟩:S25) )) (Reps.none _ _)));intro v776 w26 ho27 hb hg_ hnew_;clear hg_ hnew_;(first|rw [← Ny775.out] at ho27|(simp only [Int.reduceToNat] at ho27;rw [← Ny775.out] at ho27));have HO777:=Aside0.mk (Kd.R_lower (Kd.R_newB ho27 (bkA BK773)) (below_size blA));replace BK773:=kB BK773 hb;replace BK774:=kB BK774 hb;replace HB:=lB hb;clear hb ho27;obtain ⟨hcz28_0,hcz28_1,hfz28_0,hfz28_1⟩:=cz2 BK774)|((with_reducible refine gate_dst (N:=13) rfl ?_);refine Kd.R_lit k27 _ 27 ?hg (N:=13) ?hd (xs:=([(⟨a2_0,a2_1⟩:S27)]:List (S27))) (inner:=[.int .i64 a2_0,.int .i64 a2_1]) (ok:=fun _=>True) (okp:=fun _=>True) ?hr ?hp (fun _ hk=>hk) trivial (Below.refl _ _) (Nat.le_refl _) (by simp) ?_;(case hd=>rfl);(case hg=>rfl);(case hr=>first|(go_simp;done)|(go_simp;rfl));(case hp=>exact (Reps.c2 (show Kd.M k27 _ _ _ (⟨a2_0,a2_1⟩:S27) [.int .i64 a2_0,.int .i64 a2_1] from (k27_mkM _ _ _ (⟨a2_0,a2_1⟩:S27) )) (Reps.none _ _)));intro v779 w29 ho30 hb hg_ hnew_;clear hg_ hnew_;(first|rw [← Ny778.out] at ho30|(simp only [Int.reduceToNat] at ho30;rw [← Ny778.out] at ho30));have HO780:=Aside0.mk (Kd.R_lower (Kd.R_newB ho30 (bkA BK774)) (below_size blA));replace HO777:=Aside0.mk (Kd.R_below (rA HO777) hb);replace BK773:=kB BK773 hb;replace BK774:=kB BK774 hb;replace HB:=lB hb;clear hb ho30;obtain ⟨Ao31,co31,eo31⟩:=Kd.R_slice HO777.out;subst eo31;obtain ⟨Ao32,co32,eo32⟩:=Kd.R_slice HO780.out;subst eo32)|((with_reducible refine gd 14 rfl ?_);refine gC (some 14) rfl Try.func31 (spec_l05Code.calls (w:=_) (hr1:=cR (Kd.R_reads' HO777.out).2.2) (hc1:=(Kd.R_reads' HO777.out).2.1) (hr2:=cR (Kd.R_reads' HO780.out).2.2) (hc2:=(Kd.R_reads' HO780.out).2.1) (h:=A4.out)) ?_;intro w33 hb;replace HO777:=Aside0.mk (Kd.R_below (rA HO777) hb);replace HO780:=Aside0.mk (Kd.R_below (rA HO780) hb);replace BK773:=kB BK773 hb;replace BK774:=kB BK774 hb;replace HB:=lB hb;clear hb))
  go_ret2
  exact finA blA
end Go.Proofs.Ytabcckoeilegnaa.PAll
