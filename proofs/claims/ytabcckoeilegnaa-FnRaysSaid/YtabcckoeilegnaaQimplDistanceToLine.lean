-- turned out of the kit's print
import Derived.Test.YtabcckoeilegnaaQx
import Derived.Test.YtabcckoeilegnaaQimplbranch
import Derived.Test.YtabcckoeilegnaaQimplmark
import Derived.Test.YtabcckoeilegnaaQimplturning
import Derived.Test.YtabcckoeilegnaaQspecDistanceToLine
import Derived.Test.YtabcckoeilegnaaQspecDrawRayOf
import Derived.Test.YtabcckoeilegnaaQspecl01Is
import Derived.Test.YtabcckoeilegnaaQspecl05Line
namespace Go.Proofs.Ytabcckoeilegnaa.PAll
open Go.RowKit Go.Proofs.YtabcckoeilegnaaW.PrintWords Go.Proofs.YtabcckoeilegnaaW.PrintLast Go.Proofs.YtabcckoeilegnaaW.PrintMore
attribute [local go_sem] Go.Proofs.Ytabcckoeilegnaa.Aux.setCell_drewN Go.Proofs.Ytabcckoeilegnaa.Aux.isSome_setCell max2_int min2_int max_two min_two max_three min_three max_four min_four
set_option linter.unusedVariables false
set_option linter.unusedSimpArgs false
theorem cfD {A B:Prop} (h0:B) (h:B→A:=by intro h_;repeat (first|(with_reducible exact h_)|refine (cell_far (Aside0.out (by assumption)) _).trans ?_)):A:=h h0
def spec_DrawCommonSteps.f (k:Nat) (l0:List Int):Option (Int × Int × Int × Int × Int × Int × Int × Int):=(spec_l05Line.f k l0).bind fun bt572=>(some (bt572.1,bt572.2.1,bt572.2.2.1,bt572.2.2.2.1,bt572.2.2.2.2.1,bt572.2.2.2.2.2.1,bt572.2.2.2.2.2.2.1,bt572.2.2.2.2.2.2.2))
theorem spec_DrawCommonSteps.mono:∀ a0 k,LeO (spec_DrawCommonSteps.f k a0) (spec_DrawCommonSteps.f (k+1) a0):=by
 intro a0 k
 unfold spec_DrawCommonSteps.f
 repeat' first
   | with_reducible first|exact spec_l05Line.mono ..|exact LeO.refl _|exact LeO.none _|refine LeO.ite ?_ ?_|refine LeO.bind ?_ fun _=>?_
def spec_DrawCommonSteps.T2:Bool × List (List Nat × List Nat):=(true,[([],[]),([],[]),([],[]),([],[]),([0,0],[0]),([1,4,0,1,4],[1]),([2,5,0,1,2,4,5],[2]),([3,6,0,1,2,3,4,5,6],[3])])
def spec_DrawCommonSteps.B2:List Nat:=[0,0,0,0,1,19,55,127]
theorem spec_DrawCommonSteps.tab2:rtab .any (opsOf Try.f10 2)=spec_DrawCommonSteps.T2:=by kernel_rfl
theorem spec_DrawCommonSteps.bits2:waitsOk spec_DrawCommonSteps.T2.2 spec_DrawCommonSteps.B2=true:=by kernel_rfl
set_option maxHeartbeats 8000000 in
set_option maxRecDepth 100000 in
theorem spec_DrawCommonSteps.calls (k:Nat) (A0:Option Addr) (c0:Nat) (l0:List Int) (r1 r2 r3 r4 r5 r6 r7 r8:Int) (w:World) (hr0:Kd.C (Kd.int .u8) w A0 l0.length l0) (hc0:l0.length≤c0) (h:spec_DrawCommonSteps.f k l0=some (r1,r2,r3,r4,r5,r6,r7,r8)) :
  Calls Try.prog 10 #[.slice A0 l0.length c0] w fun e w'=>e=.returned (.tuple #[.int .i64 r1,.agg #[.int .i64 r2,.int .i64 r3,.int .i64 r4],.agg #[.int .i64 r5,.int .i64 r6],.agg #[.int .i64 r7,.int .i64 r8]])∧Below w.heap.size w w':=by
 have hu25:=Try.underlying25
 have hu27:=Try.underlying27
 have HR0:=Aside0.mk hr0
 have HC0:=Aside0.mk hc0
 clear hr0 hc0
 have HB:=Aside0.mk (Below.refl w.heap.size w)
 have H:=h
 unfold spec_DrawCommonSteps.f at H
 clear h
 replace H:=bS H
 obtain ⟨⟨t572,t573,t574,t575,t576,t577,t578,t579⟩,A2,H⟩:=H
 try dsimp only at H
 simp only [Option.some.injEq,Prod.mk.injEq] at H
 obtain ⟨rfl,rfl,rfl,rfl,rfl,rfl,rfl,rfl⟩:=H
 go_enter Try.func10,Try.ntmps10
 try go_wp2_with (first|((with_reducible refine gate_dst (N:=3) rfl ?_);refine bxE (cs:=#[.int .i64 0,.int .i64 0,.int .i64 0]) (t:=25) ?_;intro gb569 hg w3 hbox hb;have n0_:=lB hb;have n1_:=Aside0.mk hbox;have n2_:=sA hg;have n3_:=sA hg;clear HB;have HB:=n0_;have BK569:=n1_;have GW569:=n2_;have GE569:=n3_;clear n0_ n1_ n2_ n3_;clear hb hbox hg)|((with_reducible refine gate_dst (N:=4) rfl ?_);refine bxE (cs:=#[.int .i64 0,.int .i64 0]) (t:=27) ?_;intro gb570 hg w4 hbox hb;have n0_:=kB BK569 hb;have n1_:=lB hb;have n2_:=Aside0.mk hbox;have n3_:=sA hg;have n4_:=sA hg;have n5_:=nA hg BK569;have n6_:=nB hg BK569;clear BK569;clear HB;have BK569:=n0_;have HB:=n1_;have BK570:=n2_;have GW570:=n3_;have GE570:=n4_;have NB569_570:=n5_;have NB570_569:=n6_;clear n0_ n1_ n2_ n3_ n4_ n5_ n6_;clear hb hbox hg)|((with_reducible refine gate_dst (N:=5) rfl ?_);refine bxE (cs:=#[.int .i64 0,.int .i64 0]) (t:=27) ?_;intro gb571 hg w5 hbox hb;have n0_:=kB BK569 hb;have n1_:=kB BK570 hb;have n2_:=lB hb;have n3_:=Aside0.mk hbox;have n4_:=sA hg;have n5_:=sA hg;have n6_:=nA hg BK569;have n7_:=nB hg BK569;have n8_:=nA hg BK570;have n9_:=nB hg BK570;clear BK569;clear BK570;clear HB;have BK569:=n0_;have BK570:=n1_;have HB:=n2_;have BK571:=n3_;have GW571:=n4_;have GE571:=n5_;have NB569_571:=n6_;have NB571_569:=n7_;have NB570_571:=n8_;have NB571_570:=n9_;clear n0_ n1_ n2_ n3_ n4_ n5_ n6_ n7_ n8_ n9_;clear hb hbox hg)|((with_reducible refine gd 12 rfl ?_);refine gC (some 12) rfl Try.func36 (spec_l05Line.calls (w:=_) (hr0:=cR (Kd.C_below HR0.out HB.out)) (hc0:=HC0.out) (h:=A2.out)) ?_;intro w6 hb;have n0_:=kB BK569 hb;have n1_:=kB BK570 hb;have n2_:=kB BK571 hb;have n3_:=lB hb;clear BK569;clear BK570;clear BK571;clear HB;have BK569:=n0_;have BK570:=n1_;have BK571:=n2_;have HB:=n3_;clear n0_ n1_ n2_ n3_;clear hb)|((with_reducible refine gate_dst (N:=7) rfl ?_);refine bxE (cs:=#[.int .i64 0,.int .i64 0,.int .i64 0]) (t:=25) ?_;intro gb580 hg w7 hbox hb;have n0_:=kB BK569 hb;have n1_:=kB BK570 hb;have n2_:=kB BK571 hb;have n3_:=lB hb;have n4_:=Aside0.mk hbox;have n5_:=sA hg;have n6_:=sA hg;have n7_:=nA hg BK569;have n8_:=nB hg BK569;have n9_:=nA hg BK570;have n10_:=nB hg BK570;have n11_:=nA hg BK571;have n12_:=nB hg BK571;clear BK569;clear BK570;clear BK571;clear HB;have BK569:=n0_;have BK570:=n1_;have BK571:=n2_;have HB:=n3_;have BK580:=n4_;have GW580:=n5_;have GE580:=n6_;have NB569_580:=n7_;have NB580_569:=n8_;have NB570_580:=n9_;have NB580_570:=n10_;have NB571_580:=n11_;have NB580_571:=n12_;clear n0_ n1_ n2_ n3_ n4_ n5_ n6_ n7_ n8_ n9_ n10_ n11_ n12_;clear hb hbox hg)|((with_reducible refine gate_dst (N:=8) rfl ?_);refine bxE (cs:=#[.int .i64 0,.int .i64 0]) (t:=27) ?_;intro gb581 hg w8 hbox hb;have n0_:=kB BK569 hb;have n1_:=kB BK570 hb;have n2_:=kB BK571 hb;have n3_:=kB BK580 hb;have n4_:=lB hb;have n5_:=Aside0.mk hbox;have n6_:=sA hg;have n7_:=sA hg;have n8_:=nA hg BK569;have n9_:=nB hg BK569;have n10_:=nA hg BK570;have n11_:=nB hg BK570;have n12_:=nA hg BK571;have n13_:=nB hg BK571;have n14_:=nA hg BK580;have n15_:=nB hg BK580;clear BK569;clear BK570;clear BK571;clear BK580;clear HB;have BK569:=n0_;have BK570:=n1_;have BK571:=n2_;have BK580:=n3_;have HB:=n4_;have BK581:=n5_;have GW581:=n6_;have GE581:=n7_;have NB569_581:=n8_;have NB581_569:=n9_;have NB570_581:=n10_;have NB581_570:=n11_;have NB571_581:=n12_;have NB581_571:=n13_;have NB580_581:=n14_;have NB581_580:=n15_;clear n0_ n1_ n2_ n3_ n4_ n5_ n6_ n7_ n8_ n9_ n10_ n11_ n12_ n13_ n14_ n15_;clear hb hbox hg)|((with_reducible refine gate_dst (N:=9) rfl ?_);refine bxE (cs:=#[.int .i64 0,.int .i64 0]) (t:=27) ?_;intro gb582 hg w9 hbox hb;have n0_:=kB BK569 hb;have n1_:=kB BK570 hb;have n2_:=kB BK571 hb;have n3_:=kB BK580 hb;have n4_:=kB BK581 hb;have n5_:=lB hb;have n6_:=Aside0.mk hbox;have n7_:=sA hg;have n8_:=sA hg;have n9_:=nA hg BK569;have n10_:=nB hg BK569;have n11_:=nA hg BK570;have n12_:=nB hg BK570;have n13_:=nA hg BK571;have n14_:=nB hg BK571;have n15_:=nA hg BK580;have n16_:=nB hg BK580;have n17_:=nA hg BK581;have n18_:=nB hg BK581;clear BK569;clear BK570;clear BK571;clear BK580;clear BK581;clear HB;have BK569:=n0_;have BK570:=n1_;have BK571:=n2_;have BK580:=n3_;have BK581:=n4_;have HB:=n5_;have BK582:=n6_;have GW582:=n7_;have GE582:=n8_;have NB569_582:=n9_;have NB582_569:=n10_;have NB570_582:=n11_;have NB582_570:=n12_;have NB571_582:=n13_;have NB582_571:=n14_;have NB580_582:=n15_;have NB582_580:=n16_;have NB581_582:=n17_;have NB582_581:=n18_;clear n0_ n1_ n2_ n3_ n4_ n5_ n6_ n7_ n8_ n9_ n10_ n11_ n12_ n13_ n14_ n15_ n16_ n17_ n18_;clear hb hbox hg;have hnb10:=NB580_569.out;have hnc10:=NB569_580.out;have hnb11:=NB580_570.out;have hnc11:=NB570_580.out;have hnb12:=NB580_571.out;have hnc12:=NB571_580.out;have hnb13:=NB580_581.out;have hnc13:=NB581_580.out;have hnb14:=NB580_582.out;have hnc14:=NB582_580.out;obtain ⟨hcz15_0,hcz15_1,hcz15_2,hfz15_0,hfz15_1,hfz15_2⟩:=cz3 BK580;have hnb16:=NB581_569.out;have hnc16:=NB569_581.out;have hnb17:=NB581_570.out;have hnc17:=NB570_581.out;have hnb18:=NB581_571.out;have hnc18:=NB571_581.out;have hnb19:=NB581_582.out;have hnc19:=NB582_581.out;obtain ⟨hcz20_0,hcz20_1,hfz20_0,hfz20_1⟩:=cz2 BK581;have hnb21:=NB582_569.out;have hnc21:=NB569_582.out;have hnb22:=NB582_570.out;have hnc22:=NB570_582.out;have hnb23:=NB582_571.out;have hnc23:=NB571_582.out;obtain ⟨hcz24_0,hcz24_1,hfz24_0,hfz24_1⟩:=cz2 BK582))
 have n0_:Aside0 ((((((((w9.setCell ⟨gb580,0,none⟩ (.int .i64 t573)).setCell ⟨gb580,1,none⟩ (.int .i64 t574)).setCell ⟨gb580,2,none⟩ (.int .i64 t575)).setCell ⟨gb581,0,none⟩ (.int .i64 t576)).setCell ⟨gb581,1,none⟩ (.int .i64 t577)).setCell ⟨gb582,0,none⟩ (.int .i64 t578)).setCell ⟨gb582,1,none⟩ (.int .i64 t579)).heap[gb569]?=some (.cells #[.int .i64 0,.int .i64 0,.int .i64 0] 25 (0,0))):=⟨bkF BK569⟩
 have n1_:Aside0 ((((((((w9.setCell ⟨gb580,0,none⟩ (.int .i64 t573)).setCell ⟨gb580,1,none⟩ (.int .i64 t574)).setCell ⟨gb580,2,none⟩ (.int .i64 t575)).setCell ⟨gb581,0,none⟩ (.int .i64 t576)).setCell ⟨gb581,1,none⟩ (.int .i64 t577)).setCell ⟨gb582,0,none⟩ (.int .i64 t578)).setCell ⟨gb582,1,none⟩ (.int .i64 t579)).heap[gb570]?=some (.cells #[.int .i64 0,.int .i64 0] 27 (0,0))):=⟨bkF BK570⟩
 have n2_:Aside0 ((((((((w9.setCell ⟨gb580,0,none⟩ (.int .i64 t573)).setCell ⟨gb580,1,none⟩ (.int .i64 t574)).setCell ⟨gb580,2,none⟩ (.int .i64 t575)).setCell ⟨gb581,0,none⟩ (.int .i64 t576)).setCell ⟨gb581,1,none⟩ (.int .i64 t577)).setCell ⟨gb582,0,none⟩ (.int .i64 t578)).setCell ⟨gb582,1,none⟩ (.int .i64 t579)).heap[gb571]?=some (.cells #[.int .i64 0,.int .i64 0] 27 (0,0))):=⟨bkF BK571⟩
 have n3_:Aside0 ((((((((w9.setCell ⟨gb580,0,none⟩ (.int .i64 t573)).setCell ⟨gb580,1,none⟩ (.int .i64 t574)).setCell ⟨gb580,2,none⟩ (.int .i64 t575)).setCell ⟨gb581,0,none⟩ (.int .i64 t576)).setCell ⟨gb581,1,none⟩ (.int .i64 t577)).setCell ⟨gb582,0,none⟩ (.int .i64 t578)).setCell ⟨gb582,1,none⟩ (.int .i64 t579)).heap[gb580]?=some (.cells #[.int .i64 t573,.int .i64 t574,.int .i64 t575] 25 (0,0))):=⟨bpA BK580⟩
 have n4_:Aside0 ((((((((w9.setCell ⟨gb580,0,none⟩ (.int .i64 t573)).setCell ⟨gb580,1,none⟩ (.int .i64 t574)).setCell ⟨gb580,2,none⟩ (.int .i64 t575)).setCell ⟨gb581,0,none⟩ (.int .i64 t576)).setCell ⟨gb581,1,none⟩ (.int .i64 t577)).setCell ⟨gb582,0,none⟩ (.int .i64 t578)).setCell ⟨gb582,1,none⟩ (.int .i64 t579)).heap[gb581]?=some (.cells #[.int .i64 t576,.int .i64 t577] 27 (0,0))):=⟨bpA BK581⟩
 have n5_:Aside0 ((((((((w9.setCell ⟨gb580,0,none⟩ (.int .i64 t573)).setCell ⟨gb580,1,none⟩ (.int .i64 t574)).setCell ⟨gb580,2,none⟩ (.int .i64 t575)).setCell ⟨gb581,0,none⟩ (.int .i64 t576)).setCell ⟨gb581,1,none⟩ (.int .i64 t577)).setCell ⟨gb582,0,none⟩ (.int .i64 t578)).setCell ⟨gb582,1,none⟩ (.int .i64 t579)).heap[gb582]?=some (.cells #[.int .i64 t578,.int .i64 t579] 27 (0,0))):=⟨bpA BK582⟩
 have n6_:Aside0 (Below w.heap.size w (((((((w9.setCell ⟨gb580,0,none⟩ (.int .i64 t573)).setCell ⟨gb580,1,none⟩ (.int .i64 t574)).setCell ⟨gb580,2,none⟩ (.int .i64 t575)).setCell ⟨gb581,0,none⟩ (.int .i64 t576)).setCell ⟨gb581,1,none⟩ (.int .i64 t577)).setCell ⟨gb582,0,none⟩ (.int .i64 t578)).setCell ⟨gb582,1,none⟩ (.int .i64 t579))):=⟨blA⟩
 (try clear BK569)
 (try clear BK570)
 (try clear BK571)
 (try clear BK580)
 (try clear BK581)
 (try clear BK582)
 (try clear HB)
 generalize (((((((w9.setCell ⟨gb580,0,none⟩ (.int .i64 t573)).setCell ⟨gb580,1,none⟩ (.int .i64 t574)).setCell ⟨gb580,2,none⟩ (.int .i64 t575)).setCell ⟨gb581,0,none⟩ (.int .i64 t576)).setCell ⟨gb581,1,none⟩ (.int .i64 t577)).setCell ⟨gb582,0,none⟩ (.int .i64 t578)).setCell ⟨gb582,1,none⟩ (.int .i64 t579))=w25 at n0_ n1_ n2_ n3_ n4_ n5_ n6_ ⊢
 have BK569:=n0_
 have BK570:=n1_
 have BK571:=n2_
 have BK580:=n3_
 have BK581:=n4_
 have BK582:=n5_
 have HB:=n6_
 clear n0_ n1_ n2_ n3_ n4_ n5_ n6_
 have n0_:=Aside0.mk (blk_drew BK569.out)
 have n1_:=Aside0.mk (blk_drew BK570.out)
 have n2_:=Aside0.mk (blk_drew BK571.out)
 have n3_:=Aside0.mk (blk_drew BK580.out)
 have n4_:=Aside0.mk (blk_drew BK581.out)
 have n5_:=Aside0.mk (blk_drew BK582.out)
 have n6_:=Aside0.mk (below_drew1 HB.out)
 clear BK569
 clear BK570
 clear BK571
 clear BK580
 clear BK581
 clear BK582
 clear HB
 have BK569:=n0_
 have BK570:=n1_
 have BK571:=n2_
 have BK580:=n3_
 have BK581:=n4_
 have BK582:=n5_
 have HB:=n6_
 clear n0_ n1_ n2_ n3_ n4_ n5_ n6_
 refine start_ (n:=8) (S:=fun w'=>w'.cell? ⟨gb580,0,none⟩=some (.int .i64 t573)∧w'.cell? ⟨gb580,1,none⟩=some (.int .i64 t574)∧w'.cell? ⟨gb580,2,none⟩=some (.int .i64 t575)∧w'.cell? ⟨gb581,0,none⟩=some (.int .i64 t576)∧w'.cell? ⟨gb581,1,none⟩=some (.int .i64 t577)∧w'.cell? ⟨gb582,0,none⟩=some (.int .i64 t578)∧w'.cell? ⟨gb582,1,none⟩=some (.int .i64 t579)) (ds:=[]) #[Z,Z,Z,Z,Z,Z,Z,Z] (by kernel_rfl) rfl rfl ⟨cA BK580 0,cA BK580 1,cA BK580 2,cA BK581 0,cA BK581 1,cA BK582 0,cA BK582 1⟩ (fun hHeld=>?_);refine with_tabW spec_DrawCommonSteps.tab2 spec_DrawCommonSteps.bits2 (fun HT_ HW_=>?_)
 generalize w25.drew=w26 at BK569 BK570 BK571 BK580 BK581 BK582 HB hHeld ⊢
 refine puA (i:=0) (N:=some 17) #[Y,Z,Z,Z,Z,Z,Z,Z] rfl rfl HT_ ?_
 refine puA (i:=4) (N:=some 2) #[Y,Z,Z,Z,Y,Z,Z,Z] rfl rfl HT_ ?_
 refine taA (i:=1) (N:=some 18) #[Y,Y,Z,Z,Y,Z,Z,Z] rfl rfl HT_ HW_ hHeld ?_
 refine taA (i:=2) (N:=some 19) #[Y,Y,Y,Z,Y,Z,Z,Z] rfl rfl HT_ HW_ hHeld ?_
 refine taA (i:=3) (N:=some 20) #[Y,Y,Y,Y,Y,Z,Z,Z] rfl rfl HT_ HW_ hHeld ?_
 refine one_ (i:=5) (N:=none) #[Y,Y,Y,Y,Y,Y,Z,Z] rfl rfl (one_of HT_.out (by kernel_rfl)) (by decide) (fun K hK=>?_)
 have hs27:w26.cell? ⟨gb569,0,none⟩=some (.int .i64 0):=cA BK569 0
 have hfs27:=blk_frozen BK569.out 0
 have hns27_1:=NB570_569.out
 have hns27_2:=NB571_569.out
 have hns27_3:=NB580_569.out
 have hns27_4:=NB581_569.out
 have hns27_5:=NB582_569.out
 have hms27_1:=NB569_570.out
 have hms27_2:=NB569_571.out
 have hms27_3:=NB569_580.out
 have hms27_4:=NB569_581.out
 have hms27_5:=NB569_582.out
 have hs28:w26.cell? ⟨gb569,1,none⟩=some (.int .i64 0):=cA BK569 1
 have hfs28:=blk_frozen BK569.out 1
 have hns28_1:=NB570_569.out
 have hns28_2:=NB571_569.out
 have hns28_3:=NB580_569.out
 have hns28_4:=NB581_569.out
 have hns28_5:=NB582_569.out
 have hms28_1:=NB569_570.out
 have hms28_2:=NB569_571.out
 have hms28_3:=NB569_580.out
 have hms28_4:=NB569_581.out
 have hms28_5:=NB569_582.out
 have hs29:w26.cell? ⟨gb569,2,none⟩=some (.int .i64 0):=cA BK569 2
 have hfs29:=blk_frozen BK569.out 2
 have hns29_1:=NB570_569.out
 have hns29_2:=NB571_569.out
 have hns29_3:=NB580_569.out
 have hns29_4:=NB581_569.out
 have hns29_5:=NB582_569.out
 have hms29_1:=NB569_570.out
 have hms29_2:=NB569_571.out
 have hms29_3:=NB569_580.out
 have hms29_4:=NB569_581.out
 have hms29_5:=NB569_582.out
 refine skip_ (w1:=?_) (by rfl) rfl ?_ ?_
 rotate_left
 ·
  go_simp
  rfl
 refine hK.out _ _ ⟨cfD hHeld.1,cfD hHeld.2.1,cfD hHeld.2.2.1,cfD hHeld.2.2.2.1,cfD hHeld.2.2.2.2.1,cfD hHeld.2.2.2.2.2.1,cfD hHeld.2.2.2.2.2.2⟩ (fun hHeld=>?_)
 clear hK K
 refine one_ (i:=6) (N:=none) #[Y,Y,Y,Y,Y,Y,Y,Z] rfl rfl (one_of HT_.out (by kernel_rfl)) (by decide) (fun K hK=>?_)
 have hs30:w26.cell? ⟨gb570,0,none⟩=some (.int .i64 0):=cA BK570 0
 have hfs30:=blk_frozen BK570.out 0
 have hns30_0:=NB569_570.out
 have hns30_2:=NB571_570.out
 have hns30_3:=NB580_570.out
 have hns30_4:=NB581_570.out
 have hns30_5:=NB582_570.out
 have hms30_0:=NB570_569.out
 have hms30_2:=NB570_571.out
 have hms30_3:=NB570_580.out
 have hms30_4:=NB570_581.out
 have hms30_5:=NB570_582.out
 have hs31:w26.cell? ⟨gb570,1,none⟩=some (.int .i64 0):=cA BK570 1
 have hfs31:=blk_frozen BK570.out 1
 have hns31_0:=NB569_570.out
 have hns31_2:=NB571_570.out
 have hns31_3:=NB580_570.out
 have hns31_4:=NB581_570.out
 have hns31_5:=NB582_570.out
 have hms31_0:=NB570_569.out
 have hms31_2:=NB570_571.out
 have hms31_3:=NB570_580.out
 have hms31_4:=NB570_581.out
 have hms31_5:=NB570_582.out
 refine skip_ (w1:=?_) (by rfl) rfl ?_ ?_
 rotate_left
 ·
  go_simp
  rfl
 refine hK.out _ _ ⟨cfD hHeld.1,cfD hHeld.2.1,cfD hHeld.2.2.1,cfD hHeld.2.2.2.1,cfD hHeld.2.2.2.2.1,cfD hHeld.2.2.2.2.2.1,cfD hHeld.2.2.2.2.2.2⟩ (fun hHeld=>?_)
 clear hK K
 refine one_ (i:=7) (N:=none) #[Y,Y,Y,Y,Y,Y,Y,Y] rfl rfl (one_of HT_.out (by kernel_rfl)) (by decide) (fun K hK=>?_)
 have hs32:w26.cell? ⟨gb571,0,none⟩=some (.int .i64 0):=cA BK571 0
 have hfs32:=blk_frozen BK571.out 0
 have hns32_0:=NB569_571.out
 have hns32_1:=NB570_571.out
 have hns32_3:=NB580_571.out
 have hns32_4:=NB581_571.out
 have hns32_5:=NB582_571.out
 have hms32_0:=NB571_569.out
 have hms32_1:=NB571_570.out
 have hms32_3:=NB571_580.out
 have hms32_4:=NB571_581.out
 have hms32_5:=NB571_582.out
 have hs33:w26.cell? ⟨gb571,1,none⟩=some (.int .i64 0):=cA BK571 1
 have hfs33:=blk_frozen BK571.out 1
 have hns33_0:=NB569_571.out
 have hns33_1:=NB570_571.out
 have hns33_3:=NB580_571.out
 have hns33_4:=NB581_571.out
 have hns33_5:=NB582_571.out
 have hms33_0:=NB571_569.out
 have hms33_1:=NB571_570.out
 have hms33_3:=NB571_580.out
 have hms33_4:=NB571_581.out
 have hms33_5:=NB571_582.out
 refine skip_ (w1:=?_) (by rfl) rfl ?_ ?_
 rotate_left
 ·
  go_simp
  rfl
 refine hK.out _ _ ⟨cfD hHeld.1,cfD hHeld.2.1,cfD hHeld.2.2.1,cfD hHeld.2.2.2.1,cfD hHeld.2.2.2.2.1,cfD hHeld.2.2.2.2.2.1,cfD hHeld.2.2.2.2.2.2⟩ (fun hHeld=>?_)
 clear hK K
 refine done_ (done_of HT_.out (by kernel_rfl)) ?_
 try go_wp2
 refine bodyPost_ret (results_list (rs:=[.tmp 2,.cell 3 25,.cell 4 27,.cell 5 27]) rfl (by simp) (.tmp (.cell gb569 25 #[.int .i64 t573,.int .i64 t574,.int .i64 t575] (0,0) _ rfl (bpA BK569) Try.underlying25 rfl (by kernel_rfl) (.cell gb570 27 #[.int .i64 t576,.int .i64 t577] (0,0) _ rfl (bpA BK570) Try.underlying27 rfl (by kernel_rfl) (.cell gb571 27 #[.int .i64 t578,.int .i64 t579] (0,0) _ rfl (bpA BK571) Try.underlying27 rfl (by kernel_rfl) .nil))))) rfl ?_
 exact finA blA
def impl_CommonSteps.f (k:Nat) (a0 a1_0 a1_1 a1_2 a2_0 a2_1 a3_0 a3_1:Int):Option (Int × Int):=(impl_lineCode.f k a0 a1_0 a1_1 a1_2 a2_0 a2_1 a3_0 a3_1).bind fun t615=>(if t615=0 then ((impl_lineAt.f k a0 a1_0 a1_1 a1_2 a2_0 a2_1 a3_0 a3_1).bind fun bt616=>(some (bt616.2.2,0))) else (some (0,t615)))
theorem impl_CommonSteps.mono:∀ a0 a1 a2 a3 a4 a5 a6 a7 k,LeO (impl_CommonSteps.f k a0 a1 a2 a3 a4 a5 a6 a7) (impl_CommonSteps.f (k+1) a0 a1 a2 a3 a4 a5 a6 a7):=by
 intro a0 a1 a2 a3 a4 a5 a6 a7 k
 unfold impl_CommonSteps.f
 repeat' first
   | with_reducible first|exact impl_lineAt.mono ..|exact impl_lineCode.mono ..|exact LeO.refl _|exact LeO.none _|refine LeO.ite ?_ ?_|refine LeO.bind ?_ fun _=>?_
set_option maxHeartbeats 8000000 in
set_option maxRecDepth 100000 in
theorem impl_CommonSteps.calls (k:Nat) (a0 a1_0 a1_1 a1_2 a2_0 a2_1 a3_0 a3_1 r1 r2:Int) (w:World) (h:impl_CommonSteps.f k a0 a1_0 a1_1 a1_2 a2_0 a2_1 a3_0 a3_1=some (r1,r2)) :
  Calls Try.prog 11 #[.int .i64 a0,.agg #[.int .i64 a1_0,.int .i64 a1_1,.int .i64 a1_2],.agg #[.int .i64 a2_0,.int .i64 a2_1],.agg #[.int .i64 a3_0,.int .i64 a3_1]] w fun e w'=>e=.returned (.tuple #[.int .i64 r1,.int .i64 r2])∧Below w.heap.size w w':=by
 have hu25:=Try.underlying25
 have hu27:=Try.underlying27
 have HB:=Aside0.mk (Below.refl w.heap.size w)
 have H:=h
 unfold impl_CommonSteps.f at H
 clear h
 replace H:=bS H
 obtain ⟨t615,A5,H⟩:=H
 try dsimp only at H
 by_cases c6:t615=0
 focus
  rw [if_pos c6] at H
  have c6b0:(t615 == 0)=true:=beq_iff_eq.mpr c6
  have c6b1:(t615 != 0)=false:=bne_eq_false_iff_eq.mpr c6
  clear c6
  replace H:=bS H
  obtain ⟨⟨t616,t617,t618⟩,A7,H⟩:=H
  try dsimp only at H
  simp only [Option.some.injEq,Prod.mk.injEq] at H
  obtain ⟨rfl,rfl⟩:=H
 rotate_left
 focus
  rw [if_neg c6] at H
  have c6b0:(t615 == 0)=false:=beq_eq_false_iff_ne.mpr c6
  have c6b1:(t615 != 0)=true:=bne_iff_ne.mpr c6
  simp only [Option.some.injEq,Prod.mk.injEq] at H
  obtain ⟨rfl,rfl⟩:=H
 rotate_left
 all_goals
  go_enter Try.func11,Try.ntmps11
  go_wp2_with (first|((with_reducible refine gate_dst (N:=5) rfl ?_);refine bxE (cs:=#[.int .i64 a1_0,.int .i64 a1_1,.int .i64 a1_2]) (t:=25) ?_;intro gb612 hg w8 hbox hb;have BK612:=Aside0.mk hbox;have GW612:=sA hg;have GE612:=sA hg;replace HB:=lB hb;clear hb hbox hg)|((with_reducible refine gate_dst (N:=6) rfl ?_);refine bxE (cs:=#[.int .i64 a2_0,.int .i64 a2_1]) (t:=27) ?_;intro gb613 hg w9 hbox hb;have BK613:=Aside0.mk hbox;have GW613:=sA hg;have GE613:=sA hg;have NB612_613:=nA hg BK612;have NB613_612:=nB hg BK612;replace BK612:=kB BK612 hb;replace HB:=lB hb;clear hb hbox hg)|((with_reducible refine gate_dst (N:=7) rfl ?_);refine bxE (cs:=#[.int .i64 a3_0,.int .i64 a3_1]) (t:=27) ?_;intro gb614 hg w10 hbox hb;have BK614:=Aside0.mk hbox;have GW614:=sA hg;have GE614:=sA hg;have NB612_614:=nA hg BK612;have NB614_612:=nB hg BK612;have NB613_614:=nA hg BK613;have NB614_613:=nB hg BK613;replace BK612:=kB BK612 hb;replace BK613:=kB BK613 hb;replace HB:=lB hb;clear hb hbox hg;have hnb11:=NB612_613.out;have hnc11:=NB613_612.out;have hnb12:=NB612_614.out;have hnc12:=NB614_612.out;obtain ⟨hcz13_0,hcz13_1,hcz13_2,hfz13_0,hfz13_1,hfz13_2⟩:=cz3 BK612;have hnb14:=NB613_614.out;have hnc14:=NB614_613.out;obtain ⟨hcz15_0,hcz15_1,hfz15_0,hfz15_1⟩:=cz2 BK613;obtain ⟨hcz16_0,hcz16_1,hfz16_0,hfz16_1⟩:=cz2 BK614)|((with_reducible refine gd 18 rfl ?_);refine gC (some 18) rfl Try.func37 (impl_lineCode.calls (w:=_) (h:=A5.out)) ?_;intro w17 hb;replace BK612:=kB BK612 hb;replace BK613:=kB BK613 hb;replace BK614:=kB BK614 hb;replace HB:=lB hb;clear hb;obtain ⟨hcz18_0,hcz18_1,hcz18_2,hfz18_0,hfz18_1,hfz18_2⟩:=cz3 BK612;obtain ⟨hcz19_0,hcz19_1,hfz19_0,hfz19_1⟩:=cz2 BK613;obtain ⟨hcz20_0,hcz20_1,hfz20_0,hfz20_1⟩:=cz2 BK614)|((with_reducible refine gd 27 rfl ?_);refine gC (some 27) rfl Try.func38 (impl_lineAt.calls (w:=_) (h:=A7.out)) ?_;intro w21 hb;replace BK612:=kB BK612 hb;replace BK613:=kB BK613 hb;replace BK614:=kB BK614 hb;replace HB:=lB hb;clear hb))
 ·
  go_ret2
  exact finA blA
 ·
  go_ret2
  exact finA blA
def impl_NearestOnLine.f (k:Nat) (a0 a1_0 a1_1 a1_2 a2_0 a2_1 a3_0 a3_1:Int):Option (Int × Int × Int × Int):=(impl_lineCode.f k a0 a1_0 a1_1 a1_2 a2_0 a2_1 a3_0 a3_1).bind fun t692=>(if t692=0 then ((impl_lineAt.f k a0 a1_0 a1_1 a1_2 a2_0 a2_1 a3_0 a3_1).bind fun bt693=>(if bt693.2.1=true then ((impl_ballAt.f k a0 a2_0 a2_1 bt693.1).bind fun bt696=>((impl_fitted.f bt696.1 bt696.2.1 bt696.2.2.1 bt696.2.2.2).bind fun bt700=>(some (bt700.1,bt700.2.1,bt700.2.2.1,bt700.2.2.2)))) else ((impl_mark.f k a0 a1_0 a1_1 a1_2).bind fun t704=>((impl_ofMark.f k a0 bt693.1 t704).bind fun bt705=>((impl_fitted.f bt705.1 bt705.2.1 bt705.2.2.1 bt705.2.2.2).bind fun bt709=>(some (bt709.1,bt709.2.1,bt709.2.2.1,bt709.2.2.2))))))) else (some (0,0,0,t692)))
theorem impl_NearestOnLine.mono:∀ a0 a1 a2 a3 a4 a5 a6 a7 k,LeO (impl_NearestOnLine.f k a0 a1 a2 a3 a4 a5 a6 a7) (impl_NearestOnLine.f (k+1) a0 a1 a2 a3 a4 a5 a6 a7):=by
 intro a0 a1 a2 a3 a4 a5 a6 a7 k
 unfold impl_NearestOnLine.f
 repeat' first
   | with_reducible first|exact impl_ballAt.mono ..|exact impl_lineAt.mono ..|exact impl_lineCode.mono ..|exact impl_mark.mono ..|exact impl_ofMark.mono ..|exact LeO.refl _|exact LeO.none _|refine LeO.ite ?_ ?_|refine LeO.bind ?_ fun _=>?_
set_option maxHeartbeats 8000000 in
set_option maxRecDepth 100000 in
theorem impl_NearestOnLine.calls (k:Nat) (a0 a1_0 a1_1 a1_2 a2_0 a2_1 a3_0 a3_1 r1 r2 r3 r4:Int) (w:World) (h:impl_NearestOnLine.f k a0 a1_0 a1_1 a1_2 a2_0 a2_1 a3_0 a3_1=some (r1,r2,r3,r4)) :
  Calls Try.prog 15 #[.int .i64 a0,.agg #[.int .i64 a1_0,.int .i64 a1_1,.int .i64 a1_2],.agg #[.int .i64 a2_0,.int .i64 a2_1],.agg #[.int .i64 a3_0,.int .i64 a3_1]] w fun e w'=>e=.returned (.tuple #[.agg #[.int .i64 r1,.int .i64 r2,.int .i64 r3],.int .i64 r4])∧Below w.heap.size w w':=by
 have hu25:=Try.underlying25
 have hu27:=Try.underlying27
 have HB:=Aside0.mk (Below.refl w.heap.size w)
 have H:=h
 unfold impl_NearestOnLine.f at H
 clear h
 replace H:=bS H
 obtain ⟨t692,A5,H⟩:=H
 try dsimp only at H
 by_cases c6:t692=0
 ·
  rw [if_pos c6] at H
  have c6b0:(t692 == 0)=true:=beq_iff_eq.mpr c6
  have c6b1:(t692 != 0)=false:=bne_eq_false_iff_eq.mpr c6
  clear c6
  replace H:=bS H
  obtain ⟨⟨t693,t694,t695⟩,A7,H⟩:=H
  try dsimp only at H
  by_cases c8:t694=true
  ·
   subst c8
   rw [if_pos rfl] at H
   try dsimp only at H
   replace H:=bS H
   obtain ⟨⟨t696,t697,t698,t699⟩,A9,H⟩:=H
   try dsimp only at H
   replace H:=bS H
   obtain ⟨⟨t700,t701,t702,t703⟩,A10,H⟩:=H
   try dsimp only at H
   simp only [Option.some.injEq,Prod.mk.injEq] at H
   obtain ⟨rfl,rfl,rfl,rfl⟩:=H
   go_enter Try.func15,Try.ntmps15
   go_wp2_with (first|((with_reducible refine gate_dst (N:=5) rfl ?_);refine bxE (cs:=#[.int .i64 a1_0,.int .i64 a1_1,.int .i64 a1_2]) (t:=25) ?_;intro gb688 hg w11 hbox hb;have BK688:=Aside0.mk hbox;have GW688:=sA hg;have GE688:=sA hg;replace HB:=lB hb;clear hb hbox hg)|((with_reducible refine gate_dst (N:=6) rfl ?_);refine bxE (cs:=#[.int .i64 a2_0,.int .i64 a2_1]) (t:=27) ?_;intro gb689 hg w12 hbox hb;have BK689:=Aside0.mk hbox;have GW689:=sA hg;have GE689:=sA hg;have NB688_689:=nA hg BK688;have NB689_688:=nB hg BK688;replace BK688:=kB BK688 hb;replace HB:=lB hb;clear hb hbox hg)|((with_reducible refine gate_dst (N:=7) rfl ?_);refine bxE (cs:=#[.int .i64 a3_0,.int .i64 a3_1]) (t:=27) ?_;intro gb690 hg w13 hbox hb;have BK690:=Aside0.mk hbox;have GW690:=sA hg;have GE690:=sA hg;have NB688_690:=nA hg BK688;have NB690_688:=nB hg BK688;have NB689_690:=nA hg BK689;have NB690_689:=nB hg BK689;replace BK688:=kB BK688 hb;replace BK689:=kB BK689 hb;replace HB:=lB hb;clear hb hbox hg)|((with_reducible refine gate_dst (N:=8) rfl ?_);refine bxE (cs:=#[.int .i64 0,.int .i64 0,.int .i64 0]) (t:=25) ?_;intro gb691 hg w14 hbox hb;have BK691:=Aside0.mk hbox;have GW691:=sA hg;have GE691:=sA hg;have NB688_691:=nA hg BK688;have NB691_688:=nB hg BK688;have NB689_691:=nA hg BK689;have NB691_689:=nB hg BK689;have NB690_691:=nA hg BK690;have NB691_690:=nB hg BK690;replace BK688:=kB BK688 hb;replace BK689:=kB BK689 hb;replace BK690:=kB BK690 hb;replace HB:=lB hb;clear hb hbox hg;have hnb15:=NB688_689.out;have hnc15:=NB689_688.out;have hnb16:=NB688_690.out;have hnc16:=NB690_688.out;have hnb17:=NB688_691.out;have hnc17:=NB691_688.out;obtain ⟨hcz18_0,hcz18_1,hcz18_2,hfz18_0,hfz18_1,hfz18_2⟩:=cz3 BK688;have hnb19:=NB689_690.out;have hnc19:=NB690_689.out;have hnb20:=NB689_691.out;have hnc20:=NB691_689.out;obtain ⟨hcz21_0,hcz21_1,hfz21_0,hfz21_1⟩:=cz2 BK689;have hnb22:=NB690_691.out;have hnc22:=NB691_690.out;obtain ⟨hcz23_0,hcz23_1,hfz23_0,hfz23_1⟩:=cz2 BK690)|((with_reducible refine gd 18 rfl ?_);refine gC (some 18) rfl Try.func37 (impl_lineCode.calls (w:=_) (h:=A5.out)) ?_;intro w24 hb;replace BK688:=kB BK688 hb;replace BK689:=kB BK689 hb;replace BK690:=kB BK690 hb;replace BK691:=kB BK691 hb;replace HB:=lB hb;clear hb;obtain ⟨hcz25_0,hcz25_1,hcz25_2,hfz25_0,hfz25_1,hfz25_2⟩:=cz3 BK688;obtain ⟨hcz26_0,hcz26_1,hfz26_0,hfz26_1⟩:=cz2 BK689;obtain ⟨hcz27_0,hcz27_1,hfz27_0,hfz27_1⟩:=cz2 BK690)|((with_reducible refine gd 28 rfl ?_);refine gC (some 28) rfl Try.func38 (impl_lineAt.calls (w:=_) (h:=A7.out)) ?_;intro w28 hb;replace BK688:=kB BK688 hb;replace BK689:=kB BK689 hb;replace BK690:=kB BK690 hb;replace BK691:=kB BK691 hb;replace HB:=lB hb;clear hb;obtain ⟨hcz29_0,hcz29_1,hfz29_0,hfz29_1⟩:=cz2 BK689)|((with_reducible refine gd 39 rfl ?_);refine gC (some 39) rfl Try.func41 (impl_ballAt.calls (w:=_) (h:=A9.out)) ?_;intro w30 hb;replace BK688:=kB BK688 hb;replace BK689:=kB BK689 hb;replace BK690:=kB BK690 hb;replace BK691:=kB BK691 hb;replace HB:=lB hb;clear hb)|((with_reducible refine gd 42 rfl ?_);refine gC (some 42) rfl Try.func40 (impl_fitted.calls (w:=_) (h:=A10.out)) ?_;intro w31 hb;replace BK688:=kB BK688 hb;replace BK689:=kB BK689 hb;replace BK690:=kB BK690 hb;replace BK691:=kB BK691 hb;replace HB:=lB hb;clear hb;obtain ⟨hcz32_0,hcz32_1,hcz32_2,hfz32_0,hfz32_1,hfz32_2⟩:=cz3 BK691))
   refine bodyPost_ret (results_ct rfl _ _ gb691 25 #[.int .i64 t700,.int .i64 t701,.int .i64 t702] (0,0) _ rfl (bpA BK691) Try.underlying25 rfl (by kernel_rfl)) rfl ?_
   exact finA blA
  ·
   replace c8:=Bool.eq_false_iff.mpr c8
   subst c8
   rw [if_neg (show ¬ (false=true) by decide)] at H
   try dsimp only at H
   replace H:=bS H
   obtain ⟨t704,A33,H⟩:=H
   try dsimp only at H
   replace H:=bS H
   obtain ⟨⟨t705,t706,t707,t708⟩,A34,H⟩:=H
   try dsimp only at H
   replace H:=bS H
   obtain ⟨⟨t709,t710,t711,t712⟩,A35,H⟩:=H
   try dsimp only at H
   simp only [Option.some.injEq,Prod.mk.injEq] at H
   obtain ⟨rfl,rfl,rfl,rfl⟩:=H
   go_enter Try.func15,Try.ntmps15
   go_wp2_with (first|((with_reducible refine gate_dst (N:=5) rfl ?_);refine bxE (cs:=#[.int .i64 a1_0,.int .i64 a1_1,.int .i64 a1_2]) (t:=25) ?_;intro gb688 hg w36 hbox hb;have BK688:=Aside0.mk hbox;have GW688:=sA hg;have GE688:=sA hg;replace HB:=lB hb;clear hb hbox hg)|((with_reducible refine gate_dst (N:=6) rfl ?_);refine bxE (cs:=#[.int .i64 a2_0,.int .i64 a2_1]) (t:=27) ?_;intro gb689 hg w37 hbox hb;have BK689:=Aside0.mk hbox;have GW689:=sA hg;have GE689:=sA hg;have NB688_689:=nA hg BK688;have NB689_688:=nB hg BK688;replace BK688:=kB BK688 hb;replace HB:=lB hb;clear hb hbox hg)|((with_reducible refine gate_dst (N:=7) rfl ?_);refine bxE (cs:=#[.int .i64 a3_0,.int .i64 a3_1]) (t:=27) ?_;intro gb690 hg w38 hbox hb;have BK690:=Aside0.mk hbox;have GW690:=sA hg;have GE690:=sA hg;have NB688_690:=nA hg BK688;have NB690_688:=nB hg BK688;have NB689_690:=nA hg BK689;have NB690_689:=nB hg BK689;replace BK688:=kB BK688 hb;replace BK689:=kB BK689 hb;replace HB:=lB hb;clear hb hbox hg)|((with_reducible refine gate_dst (N:=8) rfl ?_);refine bxE (cs:=#[.int .i64 0,.int .i64 0,.int .i64 0]) (t:=25) ?_;intro gb691 hg w39 hbox hb;have BK691:=Aside0.mk hbox;have GW691:=sA hg;have GE691:=sA hg;have NB688_691:=nA hg BK688;have NB691_688:=nB hg BK688;have NB689_691:=nA hg BK689;have NB691_689:=nB hg BK689;have NB690_691:=nA hg BK690;have NB691_690:=nB hg BK690;replace BK688:=kB BK688 hb;replace BK689:=kB BK689 hb;replace BK690:=kB BK690 hb;replace HB:=lB hb;clear hb hbox hg;have hnb40:=NB688_689.out;have hnc40:=NB689_688.out;have hnb41:=NB688_690.out;have hnc41:=NB690_688.out;have hnb42:=NB688_691.out;have hnc42:=NB691_688.out;obtain ⟨hcz43_0,hcz43_1,hcz43_2,hfz43_0,hfz43_1,hfz43_2⟩:=cz3 BK688;have hnb44:=NB689_690.out;have hnc44:=NB690_689.out;have hnb45:=NB689_691.out;have hnc45:=NB691_689.out;obtain ⟨hcz46_0,hcz46_1,hfz46_0,hfz46_1⟩:=cz2 BK689;have hnb47:=NB690_691.out;have hnc47:=NB691_690.out;obtain ⟨hcz48_0,hcz48_1,hfz48_0,hfz48_1⟩:=cz2 BK690)|((with_reducible refine gd 18 rfl ?_);refine gC (some 18) rfl Try.func37 (impl_lineCode.calls (w:=_) (h:=A5.out)) ?_;intro w49 hb;replace BK688:=kB BK688 hb;replace BK689:=kB BK689 hb;replace BK690:=kB BK690 hb;replace BK691:=kB BK691 hb;replace HB:=lB hb;clear hb;obtain ⟨hcz50_0,hcz50_1,hcz50_2,hfz50_0,hfz50_1,hfz50_2⟩:=cz3 BK688;obtain ⟨hcz51_0,hcz51_1,hfz51_0,hfz51_1⟩:=cz2 BK689;obtain ⟨hcz52_0,hcz52_1,hfz52_0,hfz52_1⟩:=cz2 BK690)|((with_reducible refine gd 28 rfl ?_);refine gC (some 28) rfl Try.func38 (impl_lineAt.calls (w:=_) (h:=A7.out)) ?_;intro w53 hb;replace BK688:=kB BK688 hb;replace BK689:=kB BK689 hb;replace BK690:=kB BK690 hb;replace BK691:=kB BK691 hb;replace HB:=lB hb;clear hb;obtain ⟨hcz54_0,hcz54_1,hcz54_2,hfz54_0,hfz54_1,hfz54_2⟩:=cz3 BK688)|((with_reducible refine gd 49 rfl ?_);refine gC (some 49) rfl Try.func43 (impl_mark.calls (w:=_) (h:=A33.out)) ?_;intro w55 hb;replace BK688:=kB BK688 hb;replace BK689:=kB BK689 hb;replace BK690:=kB BK690 hb;replace BK691:=kB BK691 hb;replace HB:=lB hb;clear hb)|((with_reducible refine gd 50 rfl ?_);refine gC (some 50) rfl Try.func42 (impl_ofMark.calls (w:=_) (h:=A34.out)) ?_;intro w56 hb;replace BK688:=kB BK688 hb;replace BK689:=kB BK689 hb;replace BK690:=kB BK690 hb;replace BK691:=kB BK691 hb;replace HB:=lB hb;clear hb)|((with_reducible refine gd 53 rfl ?_);refine gC (some 53) rfl Try.func40 (impl_fitted.calls (w:=_) (h:=A35.out)) ?_;intro w57 hb;replace BK688:=kB BK688 hb;replace BK689:=kB BK689 hb;replace BK690:=kB BK690 hb;replace BK691:=kB BK691 hb;replace HB:=lB hb;clear hb;obtain ⟨hcz58_0,hcz58_1,hcz58_2,hfz58_0,hfz58_1,hfz58_2⟩:=cz3 BK691))
   refine bodyPost_ret (results_ct rfl _ _ gb691 25 #[.int .i64 t709,.int .i64 t710,.int .i64 t711] (0,0) _ rfl (bpA BK691) Try.underlying25 rfl (by kernel_rfl)) rfl ?_
   exact finA blA
 ·
  rw [if_neg c6] at H
  have c6b0:(t692 == 0)=false:=beq_eq_false_iff_ne.mpr c6
  have c6b1:(t692 != 0)=true:=bne_iff_ne.mpr c6
  simp only [Option.some.injEq,Prod.mk.injEq] at H
  obtain ⟨rfl,rfl,rfl,rfl⟩:=H
  go_enter Try.func15,Try.ntmps15
  go_wp2_with (first|((with_reducible refine gate_dst (N:=5) rfl ?_);refine bxE (cs:=#[.int .i64 a1_0,.int .i64 a1_1,.int .i64 a1_2]) (t:=25) ?_;intro gb688 hg w59 hbox hb;have BK688:=Aside0.mk hbox;have GW688:=sA hg;have GE688:=sA hg;replace HB:=lB hb;clear hb hbox hg)|((with_reducible refine gate_dst (N:=6) rfl ?_);refine bxE (cs:=#[.int .i64 a2_0,.int .i64 a2_1]) (t:=27) ?_;intro gb689 hg w60 hbox hb;have BK689:=Aside0.mk hbox;have GW689:=sA hg;have GE689:=sA hg;have NB688_689:=nA hg BK688;have NB689_688:=nB hg BK688;replace BK688:=kB BK688 hb;replace HB:=lB hb;clear hb hbox hg)|((with_reducible refine gate_dst (N:=7) rfl ?_);refine bxE (cs:=#[.int .i64 a3_0,.int .i64 a3_1]) (t:=27) ?_;intro gb690 hg w61 hbox hb;have BK690:=Aside0.mk hbox;have GW690:=sA hg;have GE690:=sA hg;have NB688_690:=nA hg BK688;have NB690_688:=nB hg BK688;have NB689_690:=nA hg BK689;have NB690_689:=nB hg BK689;replace BK688:=kB BK688 hb;replace BK689:=kB BK689 hb;replace HB:=lB hb;clear hb hbox hg)|((with_reducible refine gate_dst (N:=8) rfl ?_);refine bxE (cs:=#[.int .i64 0,.int .i64 0,.int .i64 0]) (t:=25) ?_;intro gb691 hg w62 hbox hb;have BK691:=Aside0.mk hbox;have GW691:=sA hg;have GE691:=sA hg;have NB688_691:=nA hg BK688;have NB691_688:=nB hg BK688;have NB689_691:=nA hg BK689;have NB691_689:=nB hg BK689;have NB690_691:=nA hg BK690;have NB691_690:=nB hg BK690;replace BK688:=kB BK688 hb;replace BK689:=kB BK689 hb;replace BK690:=kB BK690 hb;replace HB:=lB hb;clear hb hbox hg;have hnb63:=NB688_689.out;have hnc63:=NB689_688.out;have hnb64:=NB688_690.out;have hnc64:=NB690_688.out;have hnb65:=NB688_691.out;have hnc65:=NB691_688.out;obtain ⟨hcz66_0,hcz66_1,hcz66_2,hfz66_0,hfz66_1,hfz66_2⟩:=cz3 BK688;have hnb67:=NB689_690.out;have hnc67:=NB690_689.out;have hnb68:=NB689_691.out;have hnc68:=NB691_689.out;obtain ⟨hcz69_0,hcz69_1,hfz69_0,hfz69_1⟩:=cz2 BK689;have hnb70:=NB690_691.out;have hnc70:=NB691_690.out;obtain ⟨hcz71_0,hcz71_1,hfz71_0,hfz71_1⟩:=cz2 BK690)|((with_reducible refine gd 18 rfl ?_);refine gC (some 18) rfl Try.func37 (impl_lineCode.calls (w:=_) (h:=A5.out)) ?_;intro w72 hb;replace BK688:=kB BK688 hb;replace BK689:=kB BK689 hb;replace BK690:=kB BK690 hb;replace BK691:=kB BK691 hb;replace HB:=lB hb;clear hb;obtain ⟨hcz73_0,hcz73_1,hcz73_2,hfz73_0,hfz73_1,hfz73_2⟩:=cz3 BK691))
  refine bodyPost_ret (results_ct rfl _ _ gb691 25 #[.int .i64 0,.int .i64 0,.int .i64 0] (0,0) _ rfl (bpA BK691) Try.underlying25 rfl (by kernel_rfl)) rfl ?_
  exact finA blA
def impl_IsOnLine.f (k:Nat) (a0 a1_0 a1_1 a1_2 a2_0 a2_1 a3_0 a3_1:Int):Option (Bool × Int):=(impl_lineCode.f k a0 a1_0 a1_1 a1_2 a2_0 a2_1 a3_0 a3_1).bind fun t736=>(if t736=0 then ((impl_branch.f k a0 a1_0 a1_1 a1_2 a2_0 a2_1).bind fun t737=>((impl_branch.f k a0 a1_0 a1_1 a1_2 a3_0 a3_1).bind fun t738=>(some ((t737 != t738),0)))) else (some (false,t736)))
theorem impl_IsOnLine.mono:∀ a0 a1 a2 a3 a4 a5 a6 a7 k,LeO (impl_IsOnLine.f k a0 a1 a2 a3 a4 a5 a6 a7) (impl_IsOnLine.f (k+1) a0 a1 a2 a3 a4 a5 a6 a7):=by
 intro a0 a1 a2 a3 a4 a5 a6 a7 k
 unfold impl_IsOnLine.f
 repeat' first
   | with_reducible first|exact impl_branch.mono ..|exact impl_lineCode.mono ..|exact LeO.refl _|exact LeO.none _|refine LeO.ite ?_ ?_|refine LeO.bind ?_ fun _=>?_
def impl_IsOnLine.T4:Bool × List (List Nat × List Nat):=(true,[([],[]),([],[]),([],[]),([0,1,2],[0,1,2]),([],[]),([],[]),([],[]),([4,5,6,3],[4,5,6]),([3,7],[3,7]),([8,7,0,1,2,3,4,5,6,7,8],[8]),([9,0,1,2,3,4,5,6,7,8,9],[])])
def impl_IsOnLine.B4:List Nat:=[0,0,0,7,0,0,0,127,255,511,1023]
theorem impl_IsOnLine.tab4:rtab .any (opsOf Try.f17 4)=impl_IsOnLine.T4:=by kernel_rfl
theorem impl_IsOnLine.bits4:waitsOk impl_IsOnLine.T4.2 impl_IsOnLine.B4=true:=by kernel_rfl
set_option maxHeartbeats 8000000 in
set_option maxRecDepth 100000 in
theorem impl_IsOnLine.calls (k:Nat) (a0 a1_0 a1_1 a1_2 a2_0 a2_1 a3_0 a3_1:Int) (r1:Bool) (r2:Int) (w:World) (h:impl_IsOnLine.f k a0 a1_0 a1_1 a1_2 a2_0 a2_1 a3_0 a3_1=some (r1,r2)) :
  Calls Try.prog 17 #[.int .i64 a0,.agg #[.int .i64 a1_0,.int .i64 a1_1,.int .i64 a1_2],.agg #[.int .i64 a2_0,.int .i64 a2_1],.agg #[.int .i64 a3_0,.int .i64 a3_1]] w fun e w'=>e=.returned (.tuple #[.bool r1,.int .i64 r2])∧Below w.heap.size w w':=by
 have hu25:=Try.underlying25
 have hu27:=Try.underlying27
 have HB:=Aside0.mk (Below.refl w.heap.size w)
 have H:=h
 unfold impl_IsOnLine.f at H
 clear h
 replace H:=bS H
 obtain ⟨t736,A5,H⟩:=H
 try dsimp only at H
 by_cases c6:t736=0
 ·
  rw [if_pos c6] at H
  have c6b0:(t736 == 0)=true:=beq_iff_eq.mpr c6
  have c6b1:(t736 != 0)=false:=bne_eq_false_iff_eq.mpr c6
  clear c6
  replace H:=bS H
  obtain ⟨t737,A7,H⟩:=H
  try dsimp only at H
  replace H:=bS H
  obtain ⟨t738,A8,H⟩:=H
  try dsimp only at H
  simp only [Option.some.injEq,Prod.mk.injEq] at H
  obtain ⟨rfl,rfl⟩:=H
  go_enter Try.func17,Try.ntmps17
  try go_wp2_with (first|((with_reducible refine gate_dst (N:=5) rfl ?_);refine bxE (cs:=#[.int .i64 a1_0,.int .i64 a1_1,.int .i64 a1_2]) (t:=25) ?_;intro gb733 hg w9 hbox hb;have n0_:=lB hb;have n1_:=Aside0.mk hbox;have n2_:=sA hg;have n3_:=sA hg;clear HB;have HB:=n0_;have BK733:=n1_;have GW733:=n2_;have GE733:=n3_;clear n0_ n1_ n2_ n3_;clear hb hbox hg)|((with_reducible refine gate_dst (N:=6) rfl ?_);refine bxE (cs:=#[.int .i64 a2_0,.int .i64 a2_1]) (t:=27) ?_;intro gb734 hg w10 hbox hb;have n0_:=kB BK733 hb;have n1_:=lB hb;have n2_:=Aside0.mk hbox;have n3_:=sA hg;have n4_:=sA hg;have n5_:=nA hg BK733;have n6_:=nB hg BK733;clear BK733;clear HB;have BK733:=n0_;have HB:=n1_;have BK734:=n2_;have GW734:=n3_;have GE734:=n4_;have NB733_734:=n5_;have NB734_733:=n6_;clear n0_ n1_ n2_ n3_ n4_ n5_ n6_;clear hb hbox hg)|((with_reducible refine gate_dst (N:=7) rfl ?_);refine bxE (cs:=#[.int .i64 a3_0,.int .i64 a3_1]) (t:=27) ?_;intro gb735 hg w11 hbox hb;have n0_:=kB BK733 hb;have n1_:=kB BK734 hb;have n2_:=lB hb;have n3_:=Aside0.mk hbox;have n4_:=sA hg;have n5_:=sA hg;have n6_:=nA hg BK733;have n7_:=nB hg BK733;have n8_:=nA hg BK734;have n9_:=nB hg BK734;clear BK733;clear BK734;clear HB;have BK733:=n0_;have BK734:=n1_;have HB:=n2_;have BK735:=n3_;have GW735:=n4_;have GE735:=n5_;have NB733_735:=n6_;have NB735_733:=n7_;have NB734_735:=n8_;have NB735_734:=n9_;clear n0_ n1_ n2_ n3_ n4_ n5_ n6_ n7_ n8_ n9_;clear hb hbox hg;have hnb12:=NB733_734.out;have hnc12:=NB734_733.out;have hnb13:=NB733_735.out;have hnc13:=NB735_733.out;obtain ⟨hcz14_0,hcz14_1,hcz14_2,hfz14_0,hfz14_1,hfz14_2⟩:=cz3 BK733;have hnb15:=NB734_735.out;have hnc15:=NB735_734.out;obtain ⟨hcz16_0,hcz16_1,hfz16_0,hfz16_1⟩:=cz2 BK734;obtain ⟨hcz17_0,hcz17_1,hfz17_0,hfz17_1⟩:=cz2 BK735)|((with_reducible refine gd 15 rfl ?_);refine gC (some 15) rfl Try.func37 (impl_lineCode.calls (w:=_) (h:=A5.out)) ?_;intro w18 hb;have n0_:=kB BK733 hb;have n1_:=kB BK734 hb;have n2_:=kB BK735 hb;have n3_:=lB hb;clear BK733;clear BK734;clear BK735;clear HB;have BK733:=n0_;have BK734:=n1_;have BK735:=n2_;have HB:=n3_;clear n0_ n1_ n2_ n3_;clear hb))
  have n0_:=Aside0.mk (blk_drew BK733.out)
  have n1_:=Aside0.mk (blk_drew BK734.out)
  have n2_:=Aside0.mk (blk_drew BK735.out)
  have n3_:=Aside0.mk (below_drew1 HB.out)
  clear BK733
  clear BK734
  clear BK735
  clear HB
  have BK733:=n0_
  have BK734:=n1_
  have BK735:=n2_
  have HB:=n3_
  clear n0_ n1_ n2_ n3_
  refine start_ (n:=11) (S:=fun w'=>w'.cell? ⟨gb733,0,none⟩=some (.int .i64 a1_0)∧w'.cell? ⟨gb733,1,none⟩=some (.int .i64 a1_1)∧w'.cell? ⟨gb733,2,none⟩=some (.int .i64 a1_2)∧w'.cell? ⟨gb734,0,none⟩=some (.int .i64 a2_0)∧w'.cell? ⟨gb734,1,none⟩=some (.int .i64 a2_1)∧w'.cell? ⟨gb735,0,none⟩=some (.int .i64 a3_0)∧w'.cell? ⟨gb735,1,none⟩=some (.int .i64 a3_1)) (ds:=[]) #[Z,Z,Z,Z,Z,Z,Z,Z,Z,Z,Z] (by kernel_rfl) rfl rfl ⟨cA BK733 0,cA BK733 1,cA BK733 2,cA BK734 0,cA BK734 1,cA BK735 0,cA BK735 1⟩ (fun hHeld=>?_);refine with_tabW impl_IsOnLine.tab4 impl_IsOnLine.bits4 (fun HT_ HW_=>?_)
  generalize w18.drew=w19 at BK733 BK734 BK735 HB hHeld ⊢
  refine puA (i:=0) (N:=some 19) #[Y,Z,Z,Z,Z,Z,Z,Z,Z,Z,Z] rfl rfl HT_ ?_
  refine puA (i:=4) (N:=some 23) #[Y,Z,Z,Z,Y,Z,Z,Z,Z,Z,Z] rfl rfl HT_ ?_
  refine taA (i:=1) (N:=some 20) #[Y,Y,Z,Z,Y,Z,Z,Z,Z,Z,Z] rfl rfl HT_ HW_ hHeld ?_
  refine taA (i:=2) (N:=some 21) #[Y,Y,Y,Z,Y,Z,Z,Z,Z,Z,Z] rfl rfl HT_ HW_ hHeld ?_
  refine taA (i:=5) (N:=some 24) #[Y,Y,Y,Z,Y,Y,Z,Z,Z,Z,Z] rfl rfl HT_ HW_ hHeld ?_
  refine taA (i:=6) (N:=some 25) #[Y,Y,Y,Z,Y,Y,Y,Z,Z,Z,Z] rfl rfl HT_ HW_ hHeld ?_
  refine one_ (i:=3) (N:=some 22) #[Y,Y,Y,Y,Y,Y,Y,Z,Z,Z,Z] rfl rfl (one_of HT_.out (by kernel_rfl)) (by decide) (fun K hK=>?_)
  refine goC Try.func30 (impl_branch.calls (w:=_) (h:=A7.out)) ?_
  intro w20 hb
  replace BK733:=kB BK733 hb
  replace BK734:=kB BK734 hb
  replace BK735:=kB BK735 hb
  replace HB:=lB hb
  (try clear hb)
  (try clear hb2)
  (try clear hk)
  (try clear hi)
  refine hK.out _ _ ⟨cA BK733 0,cA BK733 1,cA BK733 2,cA BK734 0,cA BK734 1,cA BK735 0,cA BK735 1⟩ (fun hHeld=>?_)
  clear hK K
  refine nmA ?_
  refine one_ (i:=7) (N:=some 26) #[Y,Y,Y,Y,Y,Y,Y,Y,Z,Z,Z] rfl rfl (one_of HT_.out (by kernel_rfl)) (by decide) (fun K hK=>?_)
  refine goC Try.func30 (impl_branch.calls (w:=_) (h:=A8.out)) ?_
  intro w21 hb
  replace BK733:=kB BK733 hb
  replace BK734:=kB BK734 hb
  replace BK735:=kB BK735 hb
  replace HB:=lB hb
  (try clear hb)
  (try clear hb2)
  (try clear hk)
  (try clear hi)
  refine hK.out _ _ ⟨cA BK733 0,cA BK733 1,cA BK733 2,cA BK734 0,cA BK734 1,cA BK735 0,cA BK735 1⟩ (fun hHeld=>?_)
  clear hK K
  refine nmA ?_
  refine puA (i:=8) (N:=some 27) #[Y,Y,Y,Y,Y,Y,Y,Y,Y,Z,Z] rfl rfl HT_ ?_
  refine puA (i:=9) (N:=some 8) #[Y,Y,Y,Y,Y,Y,Y,Y,Y,Y,Z] rfl rfl HT_ ?_
  refine puA (i:=10) (N:=some 9) #[Y,Y,Y,Y,Y,Y,Y,Y,Y,Y,Y] rfl rfl HT_ ?_
  refine done_ (done_of HT_.out (by kernel_rfl)) ?_
  try go_wp2
  go_ret2
  exact finA blA
 ·
  rw [if_neg c6] at H
  have c6b0:(t736 == 0)=false:=beq_eq_false_iff_ne.mpr c6
  have c6b1:(t736 != 0)=true:=bne_iff_ne.mpr c6
  simp only [Option.some.injEq,Prod.mk.injEq] at H
  obtain ⟨rfl,rfl⟩:=H
  go_enter Try.func17,Try.ntmps17
  go_wp2_with (first|((with_reducible refine gate_dst (N:=5) rfl ?_);refine bxE (cs:=#[.int .i64 a1_0,.int .i64 a1_1,.int .i64 a1_2]) (t:=25) ?_;intro gb733 hg w22 hbox hb;have n0_:=lB hb;have n1_:=Aside0.mk hbox;have n2_:=sA hg;have n3_:=sA hg;clear HB;have HB:=n0_;have BK733:=n1_;have GW733:=n2_;have GE733:=n3_;clear n0_ n1_ n2_ n3_;clear hb hbox hg)|((with_reducible refine gate_dst (N:=6) rfl ?_);refine bxE (cs:=#[.int .i64 a2_0,.int .i64 a2_1]) (t:=27) ?_;intro gb734 hg w23 hbox hb;have n0_:=kB BK733 hb;have n1_:=lB hb;have n2_:=Aside0.mk hbox;have n3_:=sA hg;have n4_:=sA hg;have n5_:=nA hg BK733;have n6_:=nB hg BK733;clear BK733;clear HB;have BK733:=n0_;have HB:=n1_;have BK734:=n2_;have GW734:=n3_;have GE734:=n4_;have NB733_734:=n5_;have NB734_733:=n6_;clear n0_ n1_ n2_ n3_ n4_ n5_ n6_;clear hb hbox hg)|((with_reducible refine gate_dst (N:=7) rfl ?_);refine bxE (cs:=#[.int .i64 a3_0,.int .i64 a3_1]) (t:=27) ?_;intro gb735 hg w24 hbox hb;have n0_:=kB BK733 hb;have n1_:=kB BK734 hb;have n2_:=lB hb;have n3_:=Aside0.mk hbox;have n4_:=sA hg;have n5_:=sA hg;have n6_:=nA hg BK733;have n7_:=nB hg BK733;have n8_:=nA hg BK734;have n9_:=nB hg BK734;clear BK733;clear BK734;clear HB;have BK733:=n0_;have BK734:=n1_;have HB:=n2_;have BK735:=n3_;have GW735:=n4_;have GE735:=n5_;have NB733_735:=n6_;have NB735_733:=n7_;have NB734_735:=n8_;have NB735_734:=n9_;clear n0_ n1_ n2_ n3_ n4_ n5_ n6_ n7_ n8_ n9_;clear hb hbox hg;have hnb25:=NB733_734.out;have hnc25:=NB734_733.out;have hnb26:=NB733_735.out;have hnc26:=NB735_733.out;obtain ⟨hcz27_0,hcz27_1,hcz27_2,hfz27_0,hfz27_1,hfz27_2⟩:=cz3 BK733;have hnb28:=NB734_735.out;have hnc28:=NB735_734.out;obtain ⟨hcz29_0,hcz29_1,hfz29_0,hfz29_1⟩:=cz2 BK734;obtain ⟨hcz30_0,hcz30_1,hfz30_0,hfz30_1⟩:=cz2 BK735)|((with_reducible refine gd 15 rfl ?_);refine gC (some 15) rfl Try.func37 (impl_lineCode.calls (w:=_) (h:=A5.out)) ?_;intro w31 hb;have n0_:=kB BK733 hb;have n1_:=kB BK734 hb;have n2_:=kB BK735 hb;have n3_:=lB hb;clear BK733;clear BK734;clear BK735;clear HB;have BK733:=n0_;have BK734:=n1_;have BK735:=n2_;have HB:=n3_;clear n0_ n1_ n2_ n3_;clear hb))
  go_ret2
  exact finA blA
def impl_BranchOf.f (k:Nat) (a0 a1_0 a1_1 a1_2 a2_0 a2_1:Int):Option (Int × Int):=(impl_IsBall.f k a0 a1_0 a1_1 a1_2).bind fun t770=>(if t770=true then ((impl_IsEnd.f k a2_0 a2_1).bind fun t771=>(if t771=true then ((impl_branch.f k a0 a1_0 a1_1 a1_2 a2_0 a2_1).bind fun t772=>(some (t772,0))) else (some (0,1)))) else (some (0,1)))
theorem impl_BranchOf.mono:∀ a0 a1 a2 a3 a4 a5 k,LeO (impl_BranchOf.f k a0 a1 a2 a3 a4 a5) (impl_BranchOf.f (k+1) a0 a1 a2 a3 a4 a5):=by
 intro a0 a1 a2 a3 a4 a5 k
 unfold impl_BranchOf.f
 repeat' first
   | with_reducible first|exact impl_IsBall.mono ..|exact impl_IsEnd.mono ..|exact impl_branch.mono ..|exact LeO.refl _|exact LeO.none _|refine LeO.ite ?_ ?_|refine LeO.bind ?_ fun _=>?_
set_option maxHeartbeats 8000000 in
set_option maxRecDepth 100000 in
theorem impl_BranchOf.calls (k:Nat) (a0 a1_0 a1_1 a1_2 a2_0 a2_1 r1 r2:Int) (w:World) (h:impl_BranchOf.f k a0 a1_0 a1_1 a1_2 a2_0 a2_1=some (r1,r2)) :
  Calls Try.prog 20 #[.int .i64 a0,.agg #[.int .i64 a1_0,.int .i64 a1_1,.int .i64 a1_2],.agg #[.int .i64 a2_0,.int .i64 a2_1]] w fun e w'=>e=.returned (.tuple #[.int .i64 r1,.int .i64 r2])∧Below w.heap.size w w':=by
 have hu25:=Try.underlying25
 have hu27:=Try.underlying27
 have HB:=Aside0.mk (Below.refl w.heap.size w)
 have H:=h
 unfold impl_BranchOf.f at H
 clear h
 replace H:=bS H
 obtain ⟨t770,A4,H⟩:=H
 try dsimp only at H
 by_cases c5:t770=true
 ·
  subst c5
  rw [if_pos rfl] at H
  try dsimp only at H
  replace H:=bS H
  obtain ⟨t771,A6,H⟩:=H
  try dsimp only at H
  by_cases c7:t771=true
  ·
   subst c7
   rw [if_pos rfl] at H
   try dsimp only at H
   replace H:=bS H
   obtain ⟨t772,A8,H⟩:=H
   try dsimp only at H
   simp only [Option.some.injEq,Prod.mk.injEq] at H
   obtain ⟨rfl,rfl⟩:=H
   go_enter Try.func20,Try.ntmps20
   go_wp2_with (first|((with_reducible refine gate_dst (N:=4) rfl ?_);refine bxE (cs:=#[.int .i64 a1_0,.int .i64 a1_1,.int .i64 a1_2]) (t:=25) ?_;intro gb768 hg w9 hbox hb;have BK768:=Aside0.mk hbox;have GW768:=sA hg;have GE768:=sA hg;replace HB:=lB hb;clear hb hbox hg)|((with_reducible refine gate_dst (N:=5) rfl ?_);refine bxE (cs:=#[.int .i64 a2_0,.int .i64 a2_1]) (t:=27) ?_;intro gb769 hg w10 hbox hb;have BK769:=Aside0.mk hbox;have GW769:=sA hg;have GE769:=sA hg;have NB768_769:=nA hg BK768;have NB769_768:=nB hg BK768;replace BK768:=kB BK768 hb;replace HB:=lB hb;clear hb hbox hg;have hnb11:=NB768_769.out;have hnc11:=NB769_768.out;obtain ⟨hcz12_0,hcz12_1,hcz12_2,hfz12_0,hfz12_1,hfz12_2⟩:=cz3 BK768)|((with_reducible refine gd 10 rfl ?_);refine gC (some 10) rfl Try.func27 (impl_IsBall.calls (w:=_) (h:=A4.out)) ?_;intro w13 hb;replace BK768:=kB BK768 hb;replace BK769:=kB BK769 hb;replace HB:=lB hb;clear hb;obtain ⟨hcz14_0,hcz14_1,hfz14_0,hfz14_1⟩:=cz2 BK769)|(go_at_call 28;(with_reducible refine (impl_IsEnd.calls k a2_0 a2_1 true _ A6.out).mono ?_);rintro e w15 ⟨rfl,hb⟩;replace BK768:=kB BK768 hb;replace BK769:=kB BK769 hb;replace HB:=lB hb;clear hb;obtain ⟨hcz16_0,hcz16_1,hcz16_2,hfz16_0,hfz16_1,hfz16_2⟩:=cz3 BK768;obtain ⟨hcz17_0,hcz17_1,hfz17_0,hfz17_1⟩:=cz2 BK769)|((with_reducible refine gd 20 rfl ?_);refine gC (some 20) rfl Try.func30 (impl_branch.calls (w:=_) (h:=A8.out)) ?_;intro w18 hb;replace BK768:=kB BK768 hb;replace BK769:=kB BK769 hb;replace HB:=lB hb;clear hb))
   go_ret2
   exact finA blA
  ·
   replace c7:=Bool.eq_false_iff.mpr c7
   subst c7
   rw [if_neg (show ¬ (false=true) by decide)] at H
   try dsimp only at H
   simp only [Option.some.injEq,Prod.mk.injEq] at H
   obtain ⟨rfl,rfl⟩:=H
   go_enter Try.func20,Try.ntmps20
   go_wp2_with (first|((with_reducible refine gate_dst (N:=4) rfl ?_);refine bxE (cs:=#[.int .i64 a1_0,.int .i64 a1_1,.int .i64 a1_2]) (t:=25) ?_;intro gb768 hg w19 hbox hb;have BK768:=Aside0.mk hbox;have GW768:=sA hg;have GE768:=sA hg;replace HB:=lB hb;clear hb hbox hg)|((with_reducible refine gate_dst (N:=5) rfl ?_);refine bxE (cs:=#[.int .i64 a2_0,.int .i64 a2_1]) (t:=27) ?_;intro gb769 hg w20 hbox hb;have BK769:=Aside0.mk hbox;have GW769:=sA hg;have GE769:=sA hg;have NB768_769:=nA hg BK768;have NB769_768:=nB hg BK768;replace BK768:=kB BK768 hb;replace HB:=lB hb;clear hb hbox hg;have hnb21:=NB768_769.out;have hnc21:=NB769_768.out;obtain ⟨hcz22_0,hcz22_1,hcz22_2,hfz22_0,hfz22_1,hfz22_2⟩:=cz3 BK768)|((with_reducible refine gd 10 rfl ?_);refine gC (some 10) rfl Try.func27 (impl_IsBall.calls (w:=_) (h:=A4.out)) ?_;intro w23 hb;replace BK768:=kB BK768 hb;replace BK769:=kB BK769 hb;replace HB:=lB hb;clear hb;obtain ⟨hcz24_0,hcz24_1,hfz24_0,hfz24_1⟩:=cz2 BK769)|(go_at_call 28;(with_reducible refine (impl_IsEnd.calls k a2_0 a2_1 false _ A6.out).mono ?_);rintro e w25 ⟨rfl,hb⟩;replace BK768:=kB BK768 hb;replace BK769:=kB BK769 hb;replace HB:=lB hb;clear hb))
   go_ret2
   exact finA blA
 ·
  replace c5:=Bool.eq_false_iff.mpr c5
  subst c5
  rw [if_neg (show ¬ (false=true) by decide)] at H
  try dsimp only at H
  simp only [Option.some.injEq,Prod.mk.injEq] at H
  obtain ⟨rfl,rfl⟩:=H
  go_enter Try.func20,Try.ntmps20
  go_wp2_with (first|((with_reducible refine gate_dst (N:=4) rfl ?_);refine bxE (cs:=#[.int .i64 a1_0,.int .i64 a1_1,.int .i64 a1_2]) (t:=25) ?_;intro gb768 hg w26 hbox hb;have BK768:=Aside0.mk hbox;have GW768:=sA hg;have GE768:=sA hg;replace HB:=lB hb;clear hb hbox hg)|((with_reducible refine gate_dst (N:=5) rfl ?_);refine bxE (cs:=#[.int .i64 a2_0,.int .i64 a2_1]) (t:=27) ?_;intro gb769 hg w27 hbox hb;have BK769:=Aside0.mk hbox;have GW769:=sA hg;have GE769:=sA hg;have NB768_769:=nA hg BK768;have NB769_768:=nB hg BK768;replace BK768:=kB BK768 hb;replace HB:=lB hb;clear hb hbox hg;have hnb28:=NB768_769.out;have hnc28:=NB769_768.out;obtain ⟨hcz29_0,hcz29_1,hcz29_2,hfz29_0,hfz29_1,hfz29_2⟩:=cz3 BK768)|((with_reducible refine gd 10 rfl ?_);refine gC (some 10) rfl Try.func27 (impl_IsBall.calls (w:=_) (h:=A4.out)) ?_;intro w30 hb;replace BK768:=kB BK768 hb;replace BK769:=kB BK769 hb;replace HB:=lB hb;clear hb))
  go_ret2
  exact finA blA
def impl_DistanceToLine.f (k:Nat) (a0 a1_0 a1_1 a1_2 a2_0 a2_1 a3_0 a3_1:Int):Option (Int × Int):=(impl_CommonSteps.f k a0 a1_0 a1_1 a1_2 a2_0 a2_1 a3_0 a3_1).bind fun bt658=>(some (bt658.1,bt658.2))
theorem impl_DistanceToLine.mono:∀ a0 a1 a2 a3 a4 a5 a6 a7 k,LeO (impl_DistanceToLine.f k a0 a1 a2 a3 a4 a5 a6 a7) (impl_DistanceToLine.f (k+1) a0 a1 a2 a3 a4 a5 a6 a7):=by
 intro a0 a1 a2 a3 a4 a5 a6 a7 k
 unfold impl_DistanceToLine.f
 repeat' first
   | with_reducible first|exact impl_CommonSteps.mono ..|exact LeO.refl _|exact LeO.none _|refine LeO.ite ?_ ?_|refine LeO.bind ?_ fun _=>?_
set_option maxHeartbeats 8000000 in
set_option maxRecDepth 100000 in
theorem impl_DistanceToLine.calls (k:Nat) (a0 a1_0 a1_1 a1_2 a2_0 a2_1 a3_0 a3_1 r1 r2:Int) (w:World) (h:impl_DistanceToLine.f k a0 a1_0 a1_1 a1_2 a2_0 a2_1 a3_0 a3_1=some (r1,r2)) :
  Calls Try.prog 13 #[.int .i64 a0,.agg #[.int .i64 a1_0,.int .i64 a1_1,.int .i64 a1_2],.agg #[.int .i64 a2_0,.int .i64 a2_1],.agg #[.int .i64 a3_0,.int .i64 a3_1]] w fun e w'=>e=.returned (.tuple #[.int .i64 r1,.int .i64 r2])∧Below w.heap.size w w':=by
 have hu25:=Try.underlying25
 have hu27:=Try.underlying27
 have HB:=Aside0.mk (Below.refl w.heap.size w)
 have H:=h
 unfold impl_DistanceToLine.f at H
 clear h
 replace H:=bS H
 obtain ⟨⟨t658,t659⟩,A5,H⟩:=H
 try dsimp only at H
 simp only [Option.some.injEq,Prod.mk.injEq] at H
 obtain ⟨rfl,rfl⟩:=H
 go_enter Try.func13,Try.ntmps13
 go_wp2_with (first|((with_reducible refine gate_dst (N:=5) rfl ?_);refine bxE (cs:=#[.int .i64 a1_0,.int .i64 a1_1,.int .i64 a1_2]) (t:=25) ?_;intro gb655 hg w6 hbox hb;have BK655:=Aside0.mk hbox;have GW655:=sA hg;have GE655:=sA hg;replace HB:=lB hb;clear hb hbox hg)|((with_reducible refine gate_dst (N:=6) rfl ?_);refine bxE (cs:=#[.int .i64 a2_0,.int .i64 a2_1]) (t:=27) ?_;intro gb656 hg w7 hbox hb;have BK656:=Aside0.mk hbox;have GW656:=sA hg;have GE656:=sA hg;have NB655_656:=nA hg BK655;have NB656_655:=nB hg BK655;replace BK655:=kB BK655 hb;replace HB:=lB hb;clear hb hbox hg)|((with_reducible refine gate_dst (N:=7) rfl ?_);refine bxE (cs:=#[.int .i64 a3_0,.int .i64 a3_1]) (t:=27) ?_;intro gb657 hg w8 hbox hb;have BK657:=Aside0.mk hbox;have GW657:=sA hg;have GE657:=sA hg;have NB655_657:=nA hg BK655;have NB657_655:=nB hg BK655;have NB656_657:=nA hg BK656;have NB657_656:=nB hg BK656;replace BK655:=kB BK655 hb;replace BK656:=kB BK656 hb;replace HB:=lB hb;clear hb hbox hg;have hnb9:=NB655_656.out;have hnc9:=NB656_655.out;have hnb10:=NB655_657.out;have hnc10:=NB657_655.out;obtain ⟨hcz11_0,hcz11_1,hcz11_2,hfz11_0,hfz11_1,hfz11_2⟩:=cz3 BK655;have hnb12:=NB656_657.out;have hnc12:=NB657_656.out;obtain ⟨hcz13_0,hcz13_1,hfz13_0,hfz13_1⟩:=cz2 BK656;obtain ⟨hcz14_0,hcz14_1,hfz14_0,hfz14_1⟩:=cz2 BK657)|((with_reducible refine gd 14 rfl ?_);refine gC (some 14) rfl Try.func11 (impl_CommonSteps.calls (w:=_) (h:=A5.out)) ?_;intro w15 hb;replace BK655:=kB BK655 hb;replace BK656:=kB BK656 hb;replace BK657:=kB BK657 hb;replace HB:=lB hb;clear hb))
 go_ret2
 exact finA blA
end Go.Proofs.Ytabcckoeilegnaa.PAll
