-- turned out of the kit's print
import Derived.Test.YtlpmefmaplhfdaaQx
import Derived.Test.YtlpmefmaplhfdaaQbitsLeadingZeros64
import Derived.Test.YtlpmefmaplhfdaaQimplofMark
import Derived.Test.YtlpmefmaplhfdaaQspecl04With
namespace Go.Proofs.Ytlpmefmaplhfdaa.PAll
open Go.RowKit Go.Proofs.YtlpmefmaplhfdaaW.PrintWords Go.Proofs.YtlpmefmaplhfdaaW.PrintLast Go.Proofs.YtlpmefmaplhfdaaW.PrintMore
attribute [local go_sem] Go.Proofs.Ytlpmefmaplhfdaa.Aux.setCell_drewN Go.Proofs.Ytlpmefmaplhfdaa.Aux.isSome_setCell max2_int min2_int max_two min_two max_three min_three max_four min_four
set_option linter.unusedVariables false
set_option linter.unusedSimpArgs false
def impl_moveBall.j0:Nat→Int→Int→Int→Int→Int→Int→Int→Int→Int→Int→Option (Int × Int × Int × Bool)
 | 0,_,_,_,_,_,_,_,_,_,_=>none
 | k+1,x0,x358000,x358001,x358002,x358003,x359000,x359001,x359002,x365000,x365001=>(impl_determinant.f x358000 x358001 x358002 x358003).bind fun t367=>((impl_valuation.f k x0 t367).bind fun t368=>((impl_valuation.f k x0 x365001).bind fun t369=>((impl_ballAt.f k x0 x365000 x365001 (wrap64 ((wrap64 ((wrap64 (t368+x359000))+12)) - (wrap64 (2*t369))))).bind fun bt370=>(some (bt370.1,bt370.2.1,bt370.2.2.1,bt370.2.2.2)))))
def impl_moveBall.f (k:Nat) (a0 a1_0 a1_1 a1_2 a1_3 a2_0 a2_1 a2_2:Int):Option (Int × Int × Int × Bool):=(impl_mark.f k a0 a2_0 a2_1 a2_2).bind fun t360=>((impl_power.f k a0 6).bind fun t361=>((impl_power.f k a0 (wrap64 (a2_0+6))).bind fun t362=>((impl_valuation.f k a0 (wrap64 ((wrap64 (a1_2*t360))+(wrap64 (a1_3*t361))))).bind fun t365=>((impl_valuation.f k a0 (wrap64 (a1_2*t362))).bind fun t366=>(if t365>t366 then (impl_moveBall.j0 k a0 a1_0 a1_1 a1_2 a1_3 a2_0 a2_1 a2_2 (wrap64 (a1_0*t362)) (wrap64 (a1_2*t362))) else (impl_moveBall.j0 k a0 a1_0 a1_1 a1_2 a1_3 a2_0 a2_1 a2_2 (wrap64 ((wrap64 (a1_0*t360))+(wrap64 (a1_1*t361)))) (wrap64 ((wrap64 (a1_2*t360))+(wrap64 (a1_3*t361))))))))))
theorem impl_moveBall.mono_l:∀ k,(∀ y0 y1 y2 y3 y4 y5 y6 y7 y8 y9,LeO (impl_moveBall.j0 k y0 y1 y2 y3 y4 y5 y6 y7 y8 y9) (impl_moveBall.j0 (k+1) y0 y1 y2 y3 y4 y5 y6 y7 y8 y9))
 | 0=>fun _ _ _ _ _ _ _ _ _ _ r h=>by simp [impl_moveBall.j0] at h
 | k+1=>by
  have ih0:=impl_moveBall.mono_l k
  ·
   intro y0 y1 y2 y3 y4 y5 y6 y7 y8 y9
   unfold impl_moveBall.j0
   repeat' first
   | with_reducible first|exact ih0 ..|exact impl_ballAt.mono ..|exact impl_mark.mono ..|exact impl_power.mono ..|exact impl_valuation.mono ..|exact LeO.refl _|exact LeO.none _|refine LeO.ite ?_ ?_|refine LeO.bind ?_ fun _=>?_
theorem impl_moveBall.mono:∀ a0 a1 a2 a3 a4 a5 a6 a7 k,LeO (impl_moveBall.f k a0 a1 a2 a3 a4 a5 a6 a7) (impl_moveBall.f (k+1) a0 a1 a2 a3 a4 a5 a6 a7):=by
 intro a0 a1 a2 a3 a4 a5 a6 a7 k
 have ih0:=impl_moveBall.mono_l k
 unfold impl_moveBall.f
 repeat' first
   | with_reducible first|exact ih0 ..|exact impl_ballAt.mono ..|exact impl_mark.mono ..|exact impl_power.mono ..|exact impl_valuation.mono ..|exact LeO.refl _|exact LeO.none _|refine LeO.ite ?_ ?_|refine LeO.bind ?_ fun _=>?_
def impl_moveBall.T1:Bool × List (List Nat × List Nat):=(true,[([],[]),([],[]),([0,1],[0,1]),([],[]),([3,2],[3]),([],[]),([],[]),([6],[6]),([7],[7]),([5,8,4],[5,8]),([2,9,0,1,2],[2]),([4,10,0,1,2,3,4,10],[4]),([9,11,0,1,2,3,4,5,6,7,8,9,10,11],[9])])
def impl_moveBall.B1:List Nat:=[0,0,3,0,15,0,0,64,192,511,1023,2047,4095]
theorem impl_moveBall.tab1:rtab .any (opsOf Try.f44 1)=impl_moveBall.T1:=by kernel_rfl
theorem impl_moveBall.bits1:waitsOk impl_moveBall.T1.2 impl_moveBall.B1=true:=by kernel_rfl
def impl_moveBall.T4:Bool × List (List Nat × List Nat):=(true,[([],[]),([],[]),([1],[1]),([0,2],[0,2]),([],[]),([],[]),([5],[5]),([4,6,3],[4,6]),([3,7],[3,7])])
def impl_moveBall.B4:List Nat:=[0,0,2,7,0,0,32,127,255]
theorem impl_moveBall.tab4:rtab .any (opsOf Try.f44 4)=impl_moveBall.T4:=by kernel_rfl
theorem impl_moveBall.bits4:waitsOk impl_moveBall.T4.2 impl_moveBall.B4=true:=by kernel_rfl
def impl_moveBall.T6:Bool × List (List Nat × List Nat):=(true,[([],[]),([],[]),([1],[1]),([0,2,2],[0,2]),([],[]),([4],[4]),([3,5],[3,5]),([6],[6]),([],[]),([],[]),([9],[9]),([8,10,3],[8,10]),([11],[11]),([7,12],[7,12]),([13,11,0,1,2,3,4,5,6,7,8,9,10,11,12,13],[13])])
def impl_moveBall.B6:List Nat:=[0,0,2,7,0,16,63,127,0,0,512,1807,3855,8191,16383]
theorem impl_moveBall.tab6:rtab .any (opsOf Try.f44 6)=impl_moveBall.T6:=by kernel_rfl
theorem impl_moveBall.bits6:waitsOk impl_moveBall.T6.2 impl_moveBall.B6=true:=by kernel_rfl
set_option maxHeartbeats 8000000 in
set_option maxRecDepth 100000 in
theorem impl_moveBall.calls (k:Nat) (a0 a1_0 a1_1 a1_2 a1_3 a2_0 a2_1 a2_2 r1 r2 r3:Int) (r4:Bool) (w:World) (h:impl_moveBall.f k a0 a1_0 a1_1 a1_2 a1_3 a2_0 a2_1 a2_2=some (r1,r2,r3,r4)) :
  Calls Try.prog 44 #[.int .i64 a0,.agg #[.int .i64 a1_0,.int .i64 a1_1,.int .i64 a1_2,.int .i64 a1_3],.agg #[.int .i64 a2_0,.int .i64 a2_1,.int .i64 a2_2]] w fun e w'=>e=.returned (.tuple #[.agg #[.int .i64 r1,.int .i64 r2,.int .i64 r3],.bool r4])∧Below w.heap.size w w':=by
 have hu26:=Try.underlying26
 have hu28:=Try.underlying28
 have hu24:=Try.underlying24
 have HB:=Aside0.mk (Below.refl w.heap.size w)
 have H:=h
 unfold impl_moveBall.f at H
 clear h
 replace H:=bS H
 obtain ⟨t360,A4,H⟩:=H
 try dsimp only at H
 replace H:=bS H
 obtain ⟨t361,A5,H⟩:=H
 try dsimp only at H
 replace H:=bS H
 obtain ⟨t362,A6,H⟩:=H
 try dsimp only at H
 replace H:=bS H
 obtain ⟨t365,A7,H⟩:=H
 try dsimp only at H
 replace H:=bS H
 obtain ⟨t366,A8,H⟩:=H
 try dsimp only at H
 have HC9:=Aside0.mk H
 clear H
 go_enter Try.func44,Try.ntmps44
 try go_wp2_with (first|((with_reducible refine gate_dst (N:=4) rfl ?_);refine bxE (cs:=#[.int .i64 a1_0,.int .i64 a1_1,.int .i64 a1_2,.int .i64 a1_3]) (t:=26) ?_;intro gb357 hg w10 hbox hb;have n0_:=lB hb;have n1_:=Aside0.mk hbox;have n2_:=sA hg;have n3_:=sA hg;clear HB;have HB:=n0_;have BK357:=n1_;have GW357:=n2_;have GE357:=n3_;clear n0_ n1_ n2_ n3_;clear hb hbox hg)|((with_reducible refine gate_dst (N:=5) rfl ?_);refine bxE (cs:=#[.int .i64 a2_0,.int .i64 a2_1,.int .i64 a2_2]) (t:=28) ?_;intro gb358 hg w11 hbox hb;have n0_:=kB BK357 hb;have n1_:=lB hb;have n2_:=Aside0.mk hbox;have n3_:=sA hg;have n4_:=sA hg;have n5_:=nA hg BK357;have n6_:=nB hg BK357;clear BK357;clear HB;have BK357:=n0_;have HB:=n1_;have BK358:=n2_;have GW358:=n3_;have GE358:=n4_;have NB357_358:=n5_;have NB358_357:=n6_;clear n0_ n1_ n2_ n3_ n4_ n5_ n6_;clear hb hbox hg)|((with_reducible refine gate_dst (N:=6) rfl ?_);refine bxE (cs:=#[.int .i64 0,.int .i64 0,.int .i64 0]) (t:=28) ?_;intro gb359 hg w12 hbox hb;have n0_:=kB BK357 hb;have n1_:=kB BK358 hb;have n2_:=lB hb;have n3_:=Aside0.mk hbox;have n4_:=sA hg;have n5_:=sA hg;have n6_:=nA hg BK357;have n7_:=nB hg BK357;have n8_:=nA hg BK358;have n9_:=nB hg BK358;clear BK357;clear BK358;clear HB;have BK357:=n0_;have BK358:=n1_;have HB:=n2_;have BK359:=n3_;have GW359:=n4_;have GE359:=n5_;have NB357_359:=n6_;have NB359_357:=n7_;have NB358_359:=n8_;have NB359_358:=n9_;clear n0_ n1_ n2_ n3_ n4_ n5_ n6_ n7_ n8_ n9_;clear hb hbox hg))
 have n0_:=Aside0.mk (blk_drew BK357.out)
 have n1_:=Aside0.mk (blk_drew BK358.out)
 have n2_:=Aside0.mk (blk_drew BK359.out)
 have n3_:=Aside0.mk (below_drew1 HB.out)
 clear BK357
 clear BK358
 clear BK359
 clear HB
 have BK357:=n0_
 have BK358:=n1_
 have BK359:=n2_
 have HB:=n3_
 clear n0_ n1_ n2_ n3_
 refine start_ (n:=13) (S:=fun w'=>w'.cell? ⟨gb358,0,none⟩=some (.int .i64 a2_0)∧w'.cell? ⟨gb358,1,none⟩=some (.int .i64 a2_1)∧w'.cell? ⟨gb358,2,none⟩=some (.int .i64 a2_2)) (ds:=[]) #[Z,Z,Z,Z,Z,Z,Z,Z,Z,Z,Z,Z,Z] (by kernel_rfl) rfl rfl ⟨cA BK358 0,cA BK358 1,cA BK358 2⟩ (fun hHeld=>?_);refine with_tabW impl_moveBall.tab1 impl_moveBall.bits1 (fun HT_ HW_=>?_)
 generalize w12.drew=w13 at BK357 BK358 BK359 HB hHeld ⊢
 refine puA (i:=0) (N:=some 14) #[Y,Z,Z,Z,Z,Z,Z,Z,Z,Z,Z,Z,Z] rfl rfl HT_ ?_
 refine puA (i:=3) (N:=some 17) #[Y,Z,Z,Y,Z,Z,Z,Z,Z,Z,Z,Z,Z] rfl rfl HT_ ?_
 refine puA (i:=5) (N:=some 19) #[Y,Z,Z,Y,Z,Y,Z,Z,Z,Z,Z,Z,Z] rfl rfl HT_ ?_
 refine puA (i:=6) (N:=some 20) #[Y,Z,Z,Y,Z,Y,Y,Z,Z,Z,Z,Z,Z] rfl rfl HT_ ?_
 refine taA (i:=1) (N:=some 15) #[Y,Y,Z,Y,Z,Y,Y,Z,Z,Z,Z,Z,Z] rfl rfl HT_ HW_ hHeld ?_
 refine taA (i:=7) (N:=some 21) #[Y,Y,Z,Y,Z,Y,Y,Y,Z,Z,Z,Z,Z] rfl rfl HT_ HW_ hHeld ?_
 refine puA (i:=8) (N:=some 22) #[Y,Y,Z,Y,Z,Y,Y,Y,Y,Z,Z,Z,Z] rfl rfl HT_ ?_
 refine one_ (i:=2) (N:=some 16) #[Y,Y,Y,Y,Z,Y,Y,Y,Y,Z,Z,Z,Z] rfl rfl (one_of HT_.out (by kernel_rfl)) (by decide) (fun K hK=>?_)
 refine goC Try.func90 (impl_mark.calls (w:=_) (h:=A4.out)) ?_
 intro w14 hb
 replace BK357:=kB BK357 hb
 replace BK358:=kB BK358 hb
 replace BK359:=kB BK359 hb
 replace HB:=lB hb
 (try clear hb)
 (try clear hb2)
 (try clear hk)
 (try clear hi)
 refine hK.out _ _ ⟨cA BK358 0,cA BK358 1,cA BK358 2⟩ (fun hHeld=>?_)
 clear hK K
 refine nmA ?_
 refine one_ (i:=4) (N:=some 18) #[Y,Y,Y,Y,Y,Y,Y,Y,Y,Z,Z,Z,Z] rfl rfl (one_of HT_.out (by kernel_rfl)) (by decide) (fun K hK=>?_)
 refine goC Try.func59 (impl_power.calls (w:=_) (h:=A5.out)) ?_
 rintro _ ⟨nd,rfl⟩
 refine hK.out _ _ ⟨cA BK358 0,cA BK358 1,cA BK358 2⟩ (fun hHeld=>?_)
 clear hK K
 refine nmA ?_
 refine one_ (i:=9) (N:=some 23) #[Y,Y,Y,Y,Y,Y,Y,Y,Y,Y,Z,Z,Z] rfl rfl (one_of HT_.out (by kernel_rfl)) (by decide) (fun K hK=>?_)
 refine goC Try.func59 (impl_power.calls (w:=_) (h:=A6.out)) ?_
 rintro _ ⟨nd,rfl⟩
 refine hK.out _ _ ⟨cA BK358 0,cA BK358 1,cA BK358 2⟩ (fun hHeld=>?_)
 clear hK K
 refine nmA ?_
 refine puA (i:=10) (N:=some 8) #[Y,Y,Y,Y,Y,Y,Y,Y,Y,Y,Y,Z,Z] rfl rfl HT_ ?_
 refine puA (i:=11) (N:=some 9) #[Y,Y,Y,Y,Y,Y,Y,Y,Y,Y,Y,Y,Z] rfl rfl HT_ ?_
 refine puA (i:=12) (N:=some 10) #[Y,Y,Y,Y,Y,Y,Y,Y,Y,Y,Y,Y,Y] rfl rfl HT_ ?_
 refine done_ (done_of HT_.out (by kernel_rfl)) ?_
 have hnb15:=NB357_358.out
 have hnc15:=NB358_357.out
 have hnb16:=NB357_359.out
 have hnc16:=NB359_357.out
 obtain ⟨hcz17_0,hcz17_1,hcz17_2,hcz17_3,hfz17_0,hfz17_1,hfz17_2,hfz17_3⟩:=cz4 BK357
 try go_wp2_with (first|((with_reducible refine gate_dst (N:=11) rfl ?_);refine bxE (cs:=#[.int .i64 0,.int .i64 0]) (t:=24) ?_;intro gb363 hg w18 hbox hb;have n0_:=kB BK357 hb;have n1_:=kB BK358 hb;have n2_:=kB BK359 hb;have n3_:=lB hb;have n4_:=Aside0.mk hbox;have n5_:=sA hg;have n6_:=sA hg;have n7_:=nA hg BK357;have n8_:=nB hg BK357;have n9_:=nA hg BK358;have n10_:=nB hg BK358;have n11_:=nA hg BK359;have n12_:=nB hg BK359;clear BK357;clear BK358;clear BK359;clear HB;have BK357:=n0_;have BK358:=n1_;have BK359:=n2_;have HB:=n3_;have BK363:=n4_;have GW363:=n5_;have GE363:=n6_;have NB357_363:=n7_;have NB363_357:=n8_;have NB358_363:=n9_;have NB363_358:=n10_;have NB359_363:=n11_;have NB363_359:=n12_;clear n0_ n1_ n2_ n3_ n4_ n5_ n6_ n7_ n8_ n9_ n10_ n11_ n12_;clear hb hbox hg;have hnb19:=NB363_357.out;have hnc19:=NB357_363.out;have hnb20:=NB363_358.out;have hnc20:=NB358_363.out;have hnb21:=NB363_359.out;have hnc21:=NB359_363.out;obtain ⟨hcz22_0,hcz22_1,hfz22_0,hfz22_1⟩:=cz2 BK363;obtain ⟨hcz23_0,hcz23_1,hcz23_2,hcz23_3,hfz23_0,hfz23_1,hfz23_2,hfz23_3⟩:=cz4 BK357)|((with_reducible refine gate_dst (N:=12) rfl ?_);refine bxE (cs:=#[.int .i64 0,.int .i64 0]) (t:=24) ?_;intro gb364 hg w24 hbox hb;have n0_:=Aside0.mk (blk_below (g:=gb357) (o:=.cells #[.int .i64 a1_0,.int .i64 a1_1,.int .i64 a1_2,.int .i64 a1_3] 26 (0,0)) (bkF BK357) hb);have n1_:=Aside0.mk (blk_below (g:=gb358) (o:=.cells #[.int .i64 a2_0,.int .i64 a2_1,.int .i64 a2_2] 28 (0,0)) (bkF BK358) hb);have n2_:=Aside0.mk (blk_below (g:=gb359) (o:=.cells #[.int .i64 0,.int .i64 0,.int .i64 0] 28 (0,0)) (bkF BK359) hb);have n3_:=Aside0.mk (blk_below (g:=gb363) (o:=.cells #[.int .i64 (wrap64 (a1_0*t362)),.int .i64 (wrap64 (a1_2*t362))] 24 (0,0)) (bpA BK363) hb);have n4_:=lB hb;have n5_:=Aside0.mk hbox;have n6_:=sA hg;have n7_:=sA hg;have n8_:=Aside0.mk ((by rw [hg];exact Nat.ne_of_lt (blk_lt (g:=gb357) (o:=.cells #[.int .i64 a1_0,.int .i64 a1_1,.int .i64 a1_2,.int .i64 a1_3] 26 (0,0)) (bkF BK357)):gb357≠gb364));have n9_:=Aside0.mk ((by rw [hg];exact Nat.ne_of_gt (blk_lt (g:=gb357) (o:=.cells #[.int .i64 a1_0,.int .i64 a1_1,.int .i64 a1_2,.int .i64 a1_3] 26 (0,0)) (bkF BK357)):gb364≠gb357));have n10_:=Aside0.mk ((by rw [hg];exact Nat.ne_of_lt (blk_lt (g:=gb358) (o:=.cells #[.int .i64 a2_0,.int .i64 a2_1,.int .i64 a2_2] 28 (0,0)) (bkF BK358)):gb358≠gb364));have n11_:=Aside0.mk ((by rw [hg];exact Nat.ne_of_gt (blk_lt (g:=gb358) (o:=.cells #[.int .i64 a2_0,.int .i64 a2_1,.int .i64 a2_2] 28 (0,0)) (bkF BK358)):gb364≠gb358));have n12_:=Aside0.mk ((by rw [hg];exact Nat.ne_of_lt (blk_lt (g:=gb359) (o:=.cells #[.int .i64 0,.int .i64 0,.int .i64 0] 28 (0,0)) (bkF BK359)):gb359≠gb364));have n13_:=Aside0.mk ((by rw [hg];exact Nat.ne_of_gt (blk_lt (g:=gb359) (o:=.cells #[.int .i64 0,.int .i64 0,.int .i64 0] 28 (0,0)) (bkF BK359)):gb364≠gb359));have n14_:=Aside0.mk ((by rw [hg];exact Nat.ne_of_lt (blk_lt (g:=gb363) (o:=.cells #[.int .i64 (wrap64 (a1_0*t362)),.int .i64 (wrap64 (a1_2*t362))] 24 (0,0)) (bpA BK363)):gb363≠gb364));have n15_:=Aside0.mk ((by rw [hg];exact Nat.ne_of_gt (blk_lt (g:=gb363) (o:=.cells #[.int .i64 (wrap64 (a1_0*t362)),.int .i64 (wrap64 (a1_2*t362))] 24 (0,0)) (bpA BK363)):gb364≠gb363));clear BK357;clear BK358;clear BK359;clear BK363;clear HB;have BK357:=n0_;have BK358:=n1_;have BK359:=n2_;have BK363:=n3_;have HB:=n4_;have BK364:=n5_;have GW364:=n6_;have GE364:=n7_;have NB357_364:=n8_;have NB364_357:=n9_;have NB358_364:=n10_;have NB364_358:=n11_;have NB359_364:=n12_;have NB364_359:=n13_;have NB363_364:=n14_;have NB364_363:=n15_;clear n0_ n1_ n2_ n3_ n4_ n5_ n6_ n7_ n8_ n9_ n10_ n11_ n12_ n13_ n14_ n15_;clear hb hbox hg;have hnb25:=NB364_357.out;have hnc25:=NB357_364.out;have hnb26:=NB364_358.out;have hnc26:=NB358_364.out;have hnb27:=NB364_359.out;have hnc27:=NB359_364.out;have hnb28:=NB364_363.out;have hnc28:=NB363_364.out;obtain ⟨hcz29_0,hcz29_1,hfz29_0,hfz29_1⟩:=cz2 BK364))
 have n0_:Aside0 (((w24.setCell ⟨gb364,0,none⟩ (.int .i64 (wrap64 ((wrap64 (a1_0*t360))+(wrap64 (a1_1*t361)))))).setCell ⟨gb364,1,none⟩ (.int .i64 (wrap64 ((wrap64 (a1_2*t360))+(wrap64 (a1_3*t361)))))).heap[gb357]?=some (.cells #[.int .i64 a1_0,.int .i64 a1_1,.int .i64 a1_2,.int .i64 a1_3] 26 (0,0))):=⟨bkF BK357⟩
 have n1_:Aside0 (((w24.setCell ⟨gb364,0,none⟩ (.int .i64 (wrap64 ((wrap64 (a1_0*t360))+(wrap64 (a1_1*t361)))))).setCell ⟨gb364,1,none⟩ (.int .i64 (wrap64 ((wrap64 (a1_2*t360))+(wrap64 (a1_3*t361)))))).heap[gb358]?=some (.cells #[.int .i64 a2_0,.int .i64 a2_1,.int .i64 a2_2] 28 (0,0))):=⟨bkF BK358⟩
 have n2_:Aside0 (((w24.setCell ⟨gb364,0,none⟩ (.int .i64 (wrap64 ((wrap64 (a1_0*t360))+(wrap64 (a1_1*t361)))))).setCell ⟨gb364,1,none⟩ (.int .i64 (wrap64 ((wrap64 (a1_2*t360))+(wrap64 (a1_3*t361)))))).heap[gb359]?=some (.cells #[.int .i64 0,.int .i64 0,.int .i64 0] 28 (0,0))):=⟨bkF BK359⟩
 have n3_:Aside0 (((w24.setCell ⟨gb364,0,none⟩ (.int .i64 (wrap64 ((wrap64 (a1_0*t360))+(wrap64 (a1_1*t361)))))).setCell ⟨gb364,1,none⟩ (.int .i64 (wrap64 ((wrap64 (a1_2*t360))+(wrap64 (a1_3*t361)))))).heap[gb363]?=some (.cells #[.int .i64 (wrap64 (a1_0*t362)),.int .i64 (wrap64 (a1_2*t362))] 24 (0,0))):=⟨bkF BK363⟩
 have n4_:Aside0 (((w24.setCell ⟨gb364,0,none⟩ (.int .i64 (wrap64 ((wrap64 (a1_0*t360))+(wrap64 (a1_1*t361)))))).setCell ⟨gb364,1,none⟩ (.int .i64 (wrap64 ((wrap64 (a1_2*t360))+(wrap64 (a1_3*t361)))))).heap[gb364]?=some (.cells #[.int .i64 (wrap64 ((wrap64 (a1_0*t360))+(wrap64 (a1_1*t361)))),.int .i64 (wrap64 ((wrap64 (a1_2*t360))+(wrap64 (a1_3*t361))))] 24 (0,0))):=⟨bpA BK364⟩
 have n5_:Aside0 (Below w.heap.size w ((w24.setCell ⟨gb364,0,none⟩ (.int .i64 (wrap64 ((wrap64 (a1_0*t360))+(wrap64 (a1_1*t361)))))).setCell ⟨gb364,1,none⟩ (.int .i64 (wrap64 ((wrap64 (a1_2*t360))+(wrap64 (a1_3*t361))))))):=⟨blA⟩
 (try clear BK357)
 (try clear BK358)
 (try clear BK359)
 (try clear BK363)
 (try clear BK364)
 (try clear HB)
 generalize ((w24.setCell ⟨gb364,0,none⟩ (.int .i64 (wrap64 ((wrap64 (a1_0*t360))+(wrap64 (a1_1*t361)))))).setCell ⟨gb364,1,none⟩ (.int .i64 (wrap64 ((wrap64 (a1_2*t360))+(wrap64 (a1_3*t361))))))=w30 at n0_ n1_ n2_ n3_ n4_ n5_ ⊢
 have BK357:=n0_
 have BK358:=n1_
 have BK359:=n2_
 have BK363:=n3_
 have BK364:=n4_
 have HB:=n5_
 clear n0_ n1_ n2_ n3_ n4_ n5_
 have n0_:=Aside0.mk (blk_drew BK357.out)
 have n1_:=Aside0.mk (blk_drew BK358.out)
 have n2_:=Aside0.mk (blk_drew BK359.out)
 have n3_:=Aside0.mk (blk_drew BK363.out)
 have n4_:=Aside0.mk (blk_drew BK364.out)
 have n5_:=Aside0.mk (below_drew1 HB.out)
 clear BK357
 clear BK358
 clear BK359
 clear BK363
 clear BK364
 clear HB
 have BK357:=n0_
 have BK358:=n1_
 have BK359:=n2_
 have BK363:=n3_
 have BK364:=n4_
 have HB:=n5_
 clear n0_ n1_ n2_ n3_ n4_ n5_
 refine start_ (n:=9) (S:=fun w'=>w'.cell? ⟨gb364,0,none⟩=some (.int .i64 (wrap64 ((wrap64 (a1_0*t360))+(wrap64 (a1_1*t361)))))∧w'.cell? ⟨gb364,1,none⟩=some (.int .i64 (wrap64 ((wrap64 (a1_2*t360))+(wrap64 (a1_3*t361)))))∧w'.cell? ⟨gb363,0,none⟩=some (.int .i64 (wrap64 (a1_0*t362)))∧w'.cell? ⟨gb363,1,none⟩=some (.int .i64 (wrap64 (a1_2*t362)))) (ds:=[]) #[Z,Z,Z,Z,Z,Z,Z,Z,Z] (by kernel_rfl) rfl rfl ⟨cA BK364 0,cA BK364 1,cA BK363 0,cA BK363 1⟩ (fun hHeld=>?_);refine with_tabW impl_moveBall.tab4 impl_moveBall.bits4 (fun HT_ HW_=>?_)
 generalize w30.drew=w31 at BK357 BK358 BK359 BK363 BK364 HB hHeld ⊢
 refine puA (i:=0) (N:=some 58) #[Y,Z,Z,Z,Z,Z,Z,Z,Z] rfl rfl HT_ ?_
 refine puA (i:=1) (N:=some 59) #[Y,Y,Z,Z,Z,Z,Z,Z,Z] rfl rfl HT_ ?_
 refine puA (i:=4) (N:=some 62) #[Y,Y,Z,Z,Y,Z,Z,Z,Z] rfl rfl HT_ ?_
 refine puA (i:=5) (N:=some 63) #[Y,Y,Z,Z,Y,Y,Z,Z,Z] rfl rfl HT_ ?_
 refine taA (i:=2) (N:=some 60) #[Y,Y,Y,Z,Y,Y,Z,Z,Z] rfl rfl HT_ HW_ hHeld ?_
 refine taA (i:=6) (N:=some 64) #[Y,Y,Y,Z,Y,Y,Y,Z,Z] rfl rfl HT_ HW_ hHeld ?_
 refine one_ (i:=3) (N:=some 61) #[Y,Y,Y,Y,Y,Y,Y,Z,Z] rfl rfl (one_of HT_.out (by kernel_rfl)) (by decide) (fun K hK=>?_)
 refine goC Try.func91 (impl_valuation.calls (w:=_) (h:=A7.out)) ?_
 rintro _ ⟨nd,rfl⟩
 refine hK.out _ _ ⟨cA BK364 0,cA BK364 1,cA BK363 0,cA BK363 1⟩ (fun hHeld=>?_)
 clear hK K
 refine nmA ?_
 refine one_ (i:=7) (N:=some 65) #[Y,Y,Y,Y,Y,Y,Y,Y,Z] rfl rfl (one_of HT_.out (by kernel_rfl)) (by decide) (fun K hK=>?_)
 refine goC Try.func91 (impl_valuation.calls (w:=_) (h:=A8.out)) ?_
 rintro _ ⟨nd,rfl⟩
 refine hK.out _ _ ⟨cA BK364 0,cA BK364 1,cA BK363 0,cA BK363 1⟩ (fun hHeld=>?_)
 clear hK K
 refine nmA ?_
 refine puA (i:=8) (N:=some 66) #[Y,Y,Y,Y,Y,Y,Y,Y,Y] rfl rfl HT_ ?_
 refine done_ (done_of HT_.out (by kernel_rfl)) ?_
 go_upto_if 66 with (fail)
 go_cut [] (fun wc=>∃ (kq:Nat) (x365000_8:Int) (x365001_8:Int),Aside0 (impl_moveBall.j0 kq a0 a1_0 a1_1 a1_2 a1_3 a2_0 a2_1 a2_2 x365000_8 x365001_8=some (r1,r2,r3,r4))∧Aside0 (kq≤k)∧Aside0 (wc.heap[gb357]?=some (.cells #[.int .i64 a1_0,.int .i64 a1_1,.int .i64 a1_2,.int .i64 a1_3] 26 (0,0)))∧Aside0 (wc.heap[gb358]?=some (.cells #[.int .i64 a2_0,.int .i64 a2_1,.int .i64 a2_2] 28 (0,0)))∧Aside0 (wc.heap[gb359]?=some (.cells #[.int .i64 0,.int .i64 0,.int .i64 0] 28 (0,0)))∧Aside0 (wc.heap[gb363]?=some (.cells #[.int .i64 (wrap64 (a1_0*t362)),.int .i64 (wrap64 (a1_2*t362))] 24 (0,0)))∧Aside0 (wc.heap[gb364]?=some (.cells #[.int .i64 x365000_8,.int .i64 x365001_8] 24 (0,0)))∧Aside0 (Below w.heap.size w wc))
 case first=>
  have H:=HC9.out
  clear HC9
  by_cases c32:t365>t366
  ·
   rw [if_pos c32] at H
   have c32b0:decide (t366<t365)=true:=decide_eq_true c32
   clear c32
   (first|rw [c32b0]|(simp only [i64_w,i32_w];rw [c32b0])|skip)
   have H':=Aside0.mk H
   clear H
   have hnb33:=NB363_357.out
   have hnc33:=NB357_363.out
   have hnb34:=NB363_358.out
   have hnc34:=NB358_363.out
   have hnb35:=NB363_359.out
   have hnc35:=NB359_363.out
   have hnb36:=NB363_364.out
   have hnc36:=NB364_363.out
   obtain ⟨hcz37_0,hcz37_1,hfz37_0,hfz37_1⟩:=cz2 BK363
   have hnb38:=NB364_357.out
   have hnc38:=NB357_364.out
   have hnb39:=NB364_358.out
   have hnc39:=NB358_364.out
   have hnb40:=NB364_359.out
   have hnc40:=NB359_364.out
   have hcz41_0:w31.cell? ⟨gb364,0,none⟩=some (.int .i64 (wrap64 ((wrap64 (a1_0*t360))+(wrap64 (a1_1*t361))))):=cA BK364 0
   have hcz41_1:w31.cell? ⟨gb364,1,none⟩=some (.int .i64 (wrap64 ((wrap64 (a1_2*t360))+(wrap64 (a1_3*t361))))):=cA BK364 1
   have hfz41_0:=blk_frozen BK364.out 0
   have hfz41_1:=blk_frozen BK364.out 1
   go_wp2
   go_meet
   case rel=>exact ⟨_,(wrap64 (a1_0*t362)),(wrap64 (a1_2*t362)),H',⟨by first|omega|exact Nat.le_refl _⟩,⟨bkF BK357⟩,⟨bkF BK358⟩,⟨bkF BK359⟩,⟨bkF BK363⟩,⟨bpA BK364⟩,⟨blA⟩⟩
  ·
   rw [if_neg c32] at H
   have c32b0:decide (t366<t365)=false:=decide_eq_false c32
   clear c32
   (first|rw [c32b0]|(simp only [i64_w,i32_w];rw [c32b0])|skip)
   have H':=Aside0.mk H
   clear H
   go_wp2
   go_meet
   case rel=>exact ⟨_,(wrap64 ((wrap64 (a1_0*t360))+(wrap64 (a1_1*t361)))),(wrap64 ((wrap64 (a1_2*t360))+(wrap64 (a1_3*t361)))),H',⟨by first|omega|exact Nat.le_refl _⟩,⟨bkA BK357⟩,⟨bkA BK358⟩,⟨bkA BK359⟩,⟨bkA BK363⟩,⟨bkA BK364⟩,⟨blA⟩⟩
 case rest=>
  clear HC9
  try clear c32
  try clear c32b0
  try clear hcz17_0
  try clear hcz17_1
  try clear hcz17_2
  try clear hcz17_3
  try clear hcz22_0
  try clear hcz22_1
  try clear hcz23_0
  try clear hcz23_1
  try clear hcz23_2
  try clear hcz23_3
  try clear hcz29_0
  try clear hcz29_1
  try clear hcz37_0
  try clear hcz37_1
  try clear hcz41_0
  try clear hcz41_1
  try clear hfz17_0
  try clear hfz17_1
  try clear hfz17_2
  try clear hfz17_3
  try clear hfz22_0
  try clear hfz22_1
  try clear hfz23_0
  try clear hfz23_1
  try clear hfz23_2
  try clear hfz23_3
  try clear hfz29_0
  try clear hfz29_1
  try clear hfz37_0
  try clear hfz37_1
  try clear hfz41_0
  try clear hfz41_1
  obtain ⟨kq,x365000_8,x365001_8,HA,HJ8,BK357,BK358,BK359,BK363,BK364,HB⟩:=hcut
  cases kq with
  | zero=>exact absurd HA.out (by simp [impl_moveBall.j0])
  | succ kj8=>
   have H:=HA.out
   clear HA
   simp only [impl_moveBall.j0] at H
   replace H:=bS H
   obtain ⟨t367,A42,H⟩:=H
   try dsimp only at H
   replace H:=bS H
   obtain ⟨t368,A43,H⟩:=H
   try dsimp only at H
   replace H:=bS H
   obtain ⟨t369,A44,H⟩:=H
   try dsimp only at H
   replace H:=bS H
   obtain ⟨⟨t370,t371,t372,t373⟩,A45,H⟩:=H
   try dsimp only at H
   simp only [Option.some.injEq,Prod.mk.injEq] at H
   obtain ⟨rfl,rfl,rfl,rfl⟩:=H
   try go_wp2
   have n0_:=Aside0.mk (blk_drew BK357.out)
   have n1_:=Aside0.mk (blk_drew BK358.out)
   have n2_:=Aside0.mk (blk_drew BK359.out)
   have n3_:=Aside0.mk (blk_drew BK363.out)
   have n4_:=Aside0.mk (blk_drew BK364.out)
   have n5_:=Aside0.mk (below_drew1 HB.out)
   clear BK357
   clear BK358
   clear BK359
   clear BK363
   clear BK364
   clear HB
   have BK357:=n0_
   have BK358:=n1_
   have BK359:=n2_
   have BK363:=n3_
   have BK364:=n4_
   have HB:=n5_
   clear n0_ n1_ n2_ n3_ n4_ n5_
   refine start_ (n:=15) (S:=fun w'=>w'.cell? ⟨gb357,0,none⟩=some (.int .i64 a1_0)∧w'.cell? ⟨gb357,1,none⟩=some (.int .i64 a1_1)∧w'.cell? ⟨gb357,2,none⟩=some (.int .i64 a1_2)∧w'.cell? ⟨gb357,3,none⟩=some (.int .i64 a1_3)∧w'.cell? ⟨gb358,0,none⟩=some (.int .i64 a2_0)∧w'.cell? ⟨gb358,1,none⟩=some (.int .i64 a2_1)∧w'.cell? ⟨gb358,2,none⟩=some (.int .i64 a2_2)∧w'.cell? ⟨gb364,0,none⟩=some (.int .i64 x365000_8)∧w'.cell? ⟨gb364,1,none⟩=some (.int .i64 x365001_8)) (ds:=[]) #[Z,Z,Z,Z,Z,Z,Z,Z,Z,Z,Z,Z,Z,Z,Z] (by kernel_rfl) rfl rfl ⟨cA BK357 0,cA BK357 1,cA BK357 2,cA BK357 3,cA BK358 0,cA BK358 1,cA BK358 2,cA BK364 0,cA BK364 1⟩ (fun hHeld=>?_);refine with_tabW impl_moveBall.tab6 impl_moveBall.bits6 (fun HT_ HW_=>?_)
   generalize wc.drew=w46 at BK357 BK358 BK359 BK363 BK364 HB hHeld ⊢
   refine puA (i:=0) (N:=some 68) #[Y,Z,Z,Z,Z,Z,Z,Z,Z,Z,Z,Z,Z,Z,Z] rfl rfl HT_ ?_
   refine puA (i:=4) (N:=some 72) #[Y,Z,Z,Z,Y,Z,Z,Z,Z,Z,Z,Z,Z,Z,Z] rfl rfl HT_ ?_
   refine puA (i:=8) (N:=some 76) #[Y,Z,Z,Z,Y,Z,Z,Z,Y,Z,Z,Z,Z,Z,Z] rfl rfl HT_ ?_
   refine puA (i:=9) (N:=some 77) #[Y,Z,Z,Z,Y,Z,Z,Z,Y,Y,Z,Z,Z,Z,Z] rfl rfl HT_ ?_
   refine taA (i:=1) (N:=some 69) #[Y,Y,Z,Z,Y,Z,Z,Z,Y,Y,Z,Z,Z,Z,Z] rfl rfl HT_ HW_ hHeld ?_
   refine taA (i:=5) (N:=some 73) #[Y,Y,Z,Z,Y,Y,Z,Z,Y,Y,Z,Z,Z,Z,Z] rfl rfl HT_ HW_ hHeld ?_
   refine taA (i:=10) (N:=some 78) #[Y,Y,Z,Z,Y,Y,Z,Z,Y,Y,Y,Z,Z,Z,Z] rfl rfl HT_ HW_ hHeld ?_
   refine one_ (i:=2) (N:=some 70) #[Y,Y,Y,Z,Y,Y,Z,Z,Y,Y,Y,Z,Z,Z,Z] rfl rfl (one_of HT_.out (by kernel_rfl)) (by decide) (fun K hK=>?_)
   refine goC Try.func89 (impl_determinant.calls (w:=_) (h:=A42.out)) ?_
   intro w47 hb
   replace BK357:=kB BK357 hb
   replace BK358:=kB BK358 hb
   replace BK359:=kB BK359 hb
   replace BK363:=kB BK363 hb
   replace BK364:=kB BK364 hb
   replace HB:=lB hb
   (try clear hb)
   (try clear hb2)
   (try clear hk)
   (try clear hi)
   refine hK.out _ _ ⟨cA BK357 0,cA BK357 1,cA BK357 2,cA BK357 3,cA BK358 0,cA BK358 1,cA BK358 2,cA BK364 0,cA BK364 1⟩ (fun hHeld=>?_)
   clear hK K
   refine nmA ?_
   refine one_ (i:=3) (N:=some 71) #[Y,Y,Y,Y,Y,Y,Z,Z,Y,Y,Y,Z,Z,Z,Z] rfl rfl (one_of HT_.out (by kernel_rfl)) (by decide) (fun K hK=>?_)
   refine goC Try.func91 (impl_valuation.calls (w:=_) (h:=A43.out)) ?_
   rintro _ ⟨nd,rfl⟩
   refine hK.out _ _ ⟨cA BK357 0,cA BK357 1,cA BK357 2,cA BK357 3,cA BK358 0,cA BK358 1,cA BK358 2,cA BK364 0,cA BK364 1⟩ (fun hHeld=>?_)
   clear hK K
   refine nmA ?_
   refine puA (i:=6) (N:=some 74) #[Y,Y,Y,Y,Y,Y,Y,Z,Y,Y,Y,Z,Z,Z,Z] rfl rfl HT_ ?_
   refine puA (i:=7) (N:=some 75) #[Y,Y,Y,Y,Y,Y,Y,Y,Y,Y,Y,Z,Z,Z,Z] rfl rfl HT_ ?_
   refine one_ (i:=11) (N:=some 79) #[Y,Y,Y,Y,Y,Y,Y,Y,Y,Y,Y,Y,Z,Z,Z] rfl rfl (one_of HT_.out (by kernel_rfl)) (by decide) (fun K hK=>?_)
   refine goC Try.func91 (impl_valuation.calls (w:=_) (h:=A44.out)) ?_
   rintro _ ⟨nd,rfl⟩
   refine hK.out _ _ ⟨cA BK357 0,cA BK357 1,cA BK357 2,cA BK357 3,cA BK358 0,cA BK358 1,cA BK358 2,cA BK364 0,cA BK364 1⟩ (fun hHeld=>?_)
   clear hK K
   refine nmA ?_
   refine puA (i:=12) (N:=some 80) #[Y,Y,Y,Y,Y,Y,Y,Y,Y,Y,Y,Y,Y,Z,Z] rfl rfl HT_ ?_
   refine puA (i:=13) (N:=some 81) #[Y,Y,Y,Y,Y,Y,Y,Y,Y,Y,Y,Y,Y,Y,Z] rfl rfl HT_ ?_
   refine puA (i:=14) (N:=some 13) #[Y,Y,Y,Y,Y,Y,Y,Y,Y,Y,Y,Y,Y,Y,Y] rfl rfl HT_ ?_
   refine done_ (done_of HT_.out (by kernel_rfl)) ?_
   have hnb48:=NB364_357.out
   have hnc48:=NB357_364.out
   have hnb49:=NB364_358.out
   have hnc49:=NB358_364.out
   have hnb50:=NB364_359.out
   have hnc50:=NB359_364.out
   have hnb51:=NB364_363.out
   have hnc51:=NB363_364.out
   obtain ⟨hcz52_0,hcz52_1,hfz52_0,hfz52_1⟩:=cz2 BK364
   try go_wp2_with (first|((with_reducible refine gate_callee (f:=92) rfl ?_);refine gL (some 88) rfl Try.func92 #[.int .i64 a0,.int .i64 x365000_8,.int .i64 x365001_8,.int .i64 (wrap64 ((wrap64 ((wrap64 (t368+a2_0))+12)) - (wrap64 (2*t369))))] ?_;(with_reducible refine (impl_ballAt.calls kj8 a0 x365000_8 x365001_8 (wrap64 ((wrap64 ((wrap64 (t368+a2_0))+12)) - (wrap64 (2*t369)))) t370 t371 t372 t373 _ A45.out).mono ?_);rintro e w53 ⟨rfl,hb⟩;refine ⟨_,rfl,?_⟩;have n0_:=kB BK357 hb;have n1_:=kB BK358 hb;have n2_:=kB BK359 hb;have n3_:=kB BK363 hb;have n4_:=kB BK364 hb;have n5_:=lB hb;clear BK357;clear BK358;clear BK359;clear BK363;clear BK364;clear HB;have BK357:=n0_;have BK358:=n1_;have BK359:=n2_;have BK363:=n3_;have BK364:=n4_;have HB:=n5_;clear n0_ n1_ n2_ n3_ n4_ n5_;clear hb;have hnb54:=NB359_357.out;have hnc54:=NB357_359.out;have hnb55:=NB359_358.out;have hnc55:=NB358_359.out;have hnb56:=NB359_363.out;have hnc56:=NB363_359.out;obtain ⟨hcz57_0,hcz57_1,hcz57_2,hfz57_0,hfz57_1,hfz57_2⟩:=cz3 BK359))
   refine bodyPost_ret (results_ct rfl _ _ gb359 28 #[.int .i64 t370,.int .i64 t371,.int .i64 t372] (0,0) _ rfl (bpA BK359) Try.underlying28 rfl (by kernel_rfl)) rfl ?_
   exact finA blA
def impl_inverted.f (k:Nat) (a0_0 a0_1 a0_2 a0_3:Int):Option (Int × Int × Int × Int):=(impl_reduce.f k a0_3 (wrap64 (-a0_1)) (wrap64 (-a0_2)) a0_0).bind fun bt563=>(some (bt563.1,bt563.2.1,bt563.2.2.1,bt563.2.2.2))
theorem impl_inverted.mono:∀ a0 a1 a2 a3 k,LeO (impl_inverted.f k a0 a1 a2 a3) (impl_inverted.f (k+1) a0 a1 a2 a3):=by
 intro a0 a1 a2 a3 k
 unfold impl_inverted.f
 repeat' first
   | with_reducible first|exact impl_reduce.mono ..|exact LeO.refl _|exact LeO.none _|refine LeO.ite ?_ ?_|refine LeO.bind ?_ fun _=>?_
set_option maxHeartbeats 8000000 in
set_option maxRecDepth 100000 in
theorem impl_inverted.calls (k:Nat) (a0_0 a0_1 a0_2 a0_3 r1 r2 r3 r4:Int) (w:World) (h:impl_inverted.f k a0_0 a0_1 a0_2 a0_3=some (r1,r2,r3,r4)) :
  Calls Try.prog 56 #[.agg #[.int .i64 a0_0,.int .i64 a0_1,.int .i64 a0_2,.int .i64 a0_3]] w fun e w'=>e=.returned (.agg #[.int .i64 r1,.int .i64 r2,.int .i64 r3,.int .i64 r4])∧Below w.heap.size w w':=by
 have hu26:=Try.underlying26
 have hu24:=Try.underlying24
 have HB:=Aside0.mk (Below.refl w.heap.size w)
 have H:=h
 unfold impl_inverted.f at H
 clear h
 replace H:=bS H
 obtain ⟨⟨t563,t564,t565,t566⟩,A2,H⟩:=H
 try dsimp only at H
 simp only [Option.some.injEq,Prod.mk.injEq] at H
 obtain ⟨rfl,rfl,rfl,rfl⟩:=H
 go_enter Try.func56,Try.ntmps56
 go_wp2_with (first|((with_reducible refine gate_dst (N:=1) rfl ?_);refine bxE (cs:=#[.int .i64 a0_0,.int .i64 a0_1,.int .i64 a0_2,.int .i64 a0_3]) (t:=26) ?_;intro gb561 hg w3 hbox hb;have BK561:=Aside0.mk hbox;have GW561:=sA hg;have GE561:=sA hg;replace HB:=lB hb;clear hb hbox hg)|((with_reducible refine gate_dst (N:=2) rfl ?_);refine bxE (cs:=#[.int .i64 0,.int .i64 0,.int .i64 0,.int .i64 0]) (t:=26) ?_;intro gb562 hg w4 hbox hb;have BK562:=Aside0.mk hbox;have GW562:=sA hg;have GE562:=sA hg;have NB561_562:=nA hg BK561;have NB562_561:=nB hg BK561;replace BK561:=kB BK561 hb;replace HB:=lB hb;clear hb hbox hg;have hnb5:=NB561_562.out;have hnc5:=NB562_561.out;obtain ⟨hcz6_0,hcz6_1,hcz6_2,hcz6_3,hfz6_0,hfz6_1,hfz6_2,hfz6_3⟩:=cz4 BK561)|((with_reducible refine gd 20 rfl ?_);refine gC (some 20) rfl Try.func102 (impl_reduce.calls (w:=_) (h:=A2.out)) ?_;intro w7 hb;replace BK561:=kB BK561 hb;replace BK562:=kB BK562 hb;replace HB:=lB hb;clear hb;obtain ⟨hcz8_0,hcz8_1,hcz8_2,hcz8_3,hfz8_0,hfz8_1,hfz8_2,hfz8_3⟩:=cz4 BK562))
 refine bodyPost_ret (results_cell_row rfl _ _ gb562 26 #[.int .i64 t563,.int .i64 t564,.int .i64 t565,.int .i64 t566] (0,0) _ rfl (bpA BK562) Try.underlying26 rfl (by kernel_rfl)) rfl ?_
 exact finA blA
def impl_MoveBall.j0:Nat→Int→Bool→Int→Int→Int→Int→Int→Int→Int→Option (Int × Int × Int × Int)
 | 0,_,_,_,_,_,_,_,_,_=>none
 | k+1,x0,x16,x375000,x375001,x375002,x375003,x376000,x376001,x376002=>if x16=true then (some (0,0,0,1)) else ((impl_moveBall.f k x0 x375000 x375001 x375002 x375003 x376000 x376001 x376002).bind fun bt379=>((impl_fitted.f bt379.1 bt379.2.1 bt379.2.2.1 bt379.2.2.2).bind fun bt383=>(some (bt383.1,bt383.2.1,bt383.2.2.1,bt383.2.2.2))))
def impl_MoveBall.f (k:Nat) (a0 a1_0 a1_1 a1_2 a1_3 a2_0 a2_1 a2_2:Int):Option (Int × Int × Int × Int):=(impl_IsBall.f k a0 a2_0 a2_1 a2_2).bind fun t377=>(if t377=true then ((impl_IsMatrix.f k a1_0 a1_1 a1_2 a1_3).bind fun t378=>(impl_MoveBall.j0 k a0 (!t378) a1_0 a1_1 a1_2 a1_3 a2_0 a2_1 a2_2)) else (impl_MoveBall.j0 k a0 true a1_0 a1_1 a1_2 a1_3 a2_0 a2_1 a2_2))
theorem impl_MoveBall.mono_l:∀ k,(∀ y0 y1 y2 y3 y4 y5 y6 y7 y8,LeO (impl_MoveBall.j0 k y0 y1 y2 y3 y4 y5 y6 y7 y8) (impl_MoveBall.j0 (k+1) y0 y1 y2 y3 y4 y5 y6 y7 y8))
 | 0=>fun _ _ _ _ _ _ _ _ _ r h=>by simp [impl_MoveBall.j0] at h
 | k+1=>by
  have ih0:=impl_MoveBall.mono_l k
  ·
   intro y0 y1 y2 y3 y4 y5 y6 y7 y8
   unfold impl_MoveBall.j0
   repeat' first
   | with_reducible first|exact ih0 ..|exact impl_IsBall.mono ..|exact impl_IsMatrix.mono ..|exact impl_moveBall.mono ..|exact LeO.refl _|exact LeO.none _|refine LeO.ite ?_ ?_|refine LeO.bind ?_ fun _=>?_
theorem impl_MoveBall.mono:∀ a0 a1 a2 a3 a4 a5 a6 a7 k,LeO (impl_MoveBall.f k a0 a1 a2 a3 a4 a5 a6 a7) (impl_MoveBall.f (k+1) a0 a1 a2 a3 a4 a5 a6 a7):=by
 intro a0 a1 a2 a3 a4 a5 a6 a7 k
 have ih0:=impl_MoveBall.mono_l k
 unfold impl_MoveBall.f
 repeat' first
   | with_reducible first|exact ih0 ..|exact impl_IsBall.mono ..|exact impl_IsMatrix.mono ..|exact impl_moveBall.mono ..|exact LeO.refl _|exact LeO.none _|refine LeO.ite ?_ ?_|refine LeO.bind ?_ fun _=>?_
set_option maxHeartbeats 8000000 in
set_option maxRecDepth 100000 in
theorem impl_MoveBall.calls (k:Nat) (a0 a1_0 a1_1 a1_2 a1_3 a2_0 a2_1 a2_2 r1 r2 r3 r4:Int) (w:World) (h:impl_MoveBall.f k a0 a1_0 a1_1 a1_2 a1_3 a2_0 a2_1 a2_2=some (r1,r2,r3,r4)) :
  Calls Try.prog 8 #[.int .i64 a0,.agg #[.int .i64 a1_0,.int .i64 a1_1,.int .i64 a1_2,.int .i64 a1_3],.agg #[.int .i64 a2_0,.int .i64 a2_1,.int .i64 a2_2]] w fun e w'=>e=.returned (.tuple #[.agg #[.int .i64 r1,.int .i64 r2,.int .i64 r3],.int .i64 r4])∧Below w.heap.size w w':=by
 have hu26:=Try.underlying26
 have hu28:=Try.underlying28
 have HB:=Aside0.mk (Below.refl w.heap.size w)
 have H:=h
 unfold impl_MoveBall.f at H
 clear h
 have HC4:=Aside0.mk H
 clear H
 go_enter Try.func8,Try.ntmps8
 go_upto_region 1 with (first|((with_reducible refine gate_dst (N:=4) rfl ?_);refine bxE (cs:=#[.int .i64 a1_0,.int .i64 a1_1,.int .i64 a1_2,.int .i64 a1_3]) (t:=26) ?_;intro gb374 hg w5 hbox hb;have BK374:=Aside0.mk hbox;have GW374:=sA hg;have GE374:=sA hg;replace HB:=lB hb;clear hb hbox hg)|((with_reducible refine gate_dst (N:=5) rfl ?_);refine bxE (cs:=#[.int .i64 a2_0,.int .i64 a2_1,.int .i64 a2_2]) (t:=28) ?_;intro gb375 hg w6 hbox hb;have BK375:=Aside0.mk hbox;have GW375:=sA hg;have GE375:=sA hg;have NB374_375:=nA hg BK374;have NB375_374:=nB hg BK374;replace BK374:=kB BK374 hb;replace HB:=lB hb;clear hb hbox hg)|((with_reducible refine gate_dst (N:=6) rfl ?_);refine bxE (cs:=#[.int .i64 0,.int .i64 0,.int .i64 0]) (t:=28) ?_;intro gb376 hg w7 hbox hb;have BK376:=Aside0.mk hbox;have GW376:=sA hg;have GE376:=sA hg;have NB374_376:=nA hg BK374;have NB376_374:=nB hg BK374;have NB375_376:=nA hg BK375;have NB376_375:=nB hg BK375;replace BK374:=kB BK374 hb;replace BK375:=kB BK375 hb;replace HB:=lB hb;clear hb hbox hg))
 (try simp only [Act.put,List.setIfInBounds_toArray,List.set_cons_zero,List.set_cons_succ])
 go_cut [16] (fun v16 wc=>∃ (kq:Nat) (x16_3:Bool),v16=.bool x16_3∧Aside0 (impl_MoveBall.j0 kq a0 x16_3 a1_0 a1_1 a1_2 a1_3 a2_0 a2_1 a2_2=some (r1,r2,r3,r4))∧Aside0 (kq≤k)∧Aside0 (wc.heap[gb374]?=some (.cells #[.int .i64 a1_0,.int .i64 a1_1,.int .i64 a1_2,.int .i64 a1_3] 26 (0,0)))∧Aside0 (wc.heap[gb375]?=some (.cells #[.int .i64 a2_0,.int .i64 a2_1,.int .i64 a2_2] 28 (0,0)))∧Aside0 (wc.heap[gb376]?=some (.cells #[.int .i64 0,.int .i64 0,.int .i64 0] 28 (0,0)))∧Aside0 (Below w.heap.size w wc))
 case first=>
  have H:=HC4.out
  clear HC4
  replace H:=bS H
  obtain ⟨t377,A8,H⟩:=H
  try dsimp only at H
  by_cases c9:t377=true
  ·
   subst c9
   rw [if_pos rfl] at H
   try dsimp only at H
   replace H:=bS H
   obtain ⟨t378,A10,H⟩:=H
   try dsimp only at H
   have H':=Aside0.mk H
   clear H
   have hnb11:=NB375_374.out
   have hnc11:=NB374_375.out
   have hnb12:=NB375_376.out
   have hnc12:=NB376_375.out
   obtain ⟨hcz13_0,hcz13_1,hcz13_2,hfz13_0,hfz13_1,hfz13_2⟩:=cz3 BK375
   go_wp2_with (first|((with_reducible refine gd 10 rfl ?_);refine gC (some 10) rfl Try.func14 (impl_IsBall.calls (w:=_) (h:=A8.out)) ?_;intro w14 hb;replace BK374:=kB BK374 hb;replace BK375:=kB BK375 hb;replace BK376:=kB BK376 hb;replace HB:=lB hb;clear hb;have hnb15:=NB374_376.out;have hnc15:=NB376_374.out;obtain ⟨hcz16_0,hcz16_1,hcz16_2,hcz16_3,hfz16_0,hfz16_1,hfz16_2,hfz16_3⟩:=cz4 BK374)|(go_at_call 42;(with_reducible refine (impl_IsMatrix.calls k a1_0 a1_1 a1_2 a1_3 t378 _ A10.out).mono ?_);rintro e w17 ⟨rfl,hb⟩;replace BK374:=kB BK374 hb;replace BK375:=kB BK375 hb;replace BK376:=kB BK376 hb;replace HB:=lB hb;clear hb))
   go_meet
   case rel=>exact ⟨_,(!t378),hB,H',⟨by first|omega|exact Nat.le_refl _⟩,⟨bkA BK374⟩,⟨bkA BK375⟩,⟨bkA BK376⟩,⟨blA⟩⟩
  ·
   replace c9:=Bool.eq_false_iff.mpr c9
   subst c9
   rw [if_neg (show ¬ (false=true) by decide)] at H
   try dsimp only at H
   have H':=Aside0.mk H
   clear H
   have hnb18:=NB375_374.out
   have hnc18:=NB374_375.out
   have hnb19:=NB375_376.out
   have hnc19:=NB376_375.out
   obtain ⟨hcz20_0,hcz20_1,hcz20_2,hfz20_0,hfz20_1,hfz20_2⟩:=cz3 BK375
   go_wp2_with (first|((with_reducible refine gd 10 rfl ?_);refine gC (some 10) rfl Try.func14 (impl_IsBall.calls (w:=_) (h:=A8.out)) ?_;intro w21 hb;replace BK374:=kB BK374 hb;replace BK375:=kB BK375 hb;replace BK376:=kB BK376 hb;replace HB:=lB hb;clear hb))
   go_meet
   case rel=>exact ⟨_,(true),hB,H',⟨by first|omega|exact Nat.le_refl _⟩,⟨bkA BK374⟩,⟨bkA BK375⟩,⟨bkA BK376⟩,⟨blA⟩⟩
 case rest=>
  clear HC4
  try clear c9
  try clear hcz13_0
  try clear hcz13_1
  try clear hcz13_2
  try clear hcz16_0
  try clear hcz16_1
  try clear hcz16_2
  try clear hcz16_3
  try clear hcz20_0
  try clear hcz20_1
  try clear hcz20_2
  try clear hfz13_0
  try clear hfz13_1
  try clear hfz13_2
  try clear hfz16_0
  try clear hfz16_1
  try clear hfz16_2
  try clear hfz16_3
  try clear hfz20_0
  try clear hfz20_1
  try clear hfz20_2
  obtain ⟨kq,x16_3,rfl,HA,HJ3,BK374,BK375,BK376,HB⟩:=hcut
  cases kq with
  | zero=>exact absurd HA.out (by simp [impl_MoveBall.j0])
  | succ kj3=>
   have H:=HA.out
   clear HA
   simp only [impl_MoveBall.j0] at H
   by_cases c22:x16_3=true
   ·
    subst c22
    rw [if_pos rfl] at H
    try dsimp only at H
    simp only [Option.some.injEq,Prod.mk.injEq] at H
    obtain ⟨rfl,rfl,rfl,rfl⟩:=H
    have hnb23:=NB376_374.out
    have hnc23:=NB374_376.out
    have hnb24:=NB376_375.out
    have hnc24:=NB375_376.out
    obtain ⟨hcz25_0,hcz25_1,hcz25_2,hfz25_0,hfz25_1,hfz25_2⟩:=cz3 BK376
    go_wp2
    refine bodyPost_ret (results_ct rfl _ _ gb376 28 #[.int .i64 0,.int .i64 0,.int .i64 0] (0,0) _ rfl (bpA BK376) Try.underlying28 rfl (by kernel_rfl)) rfl ?_
    exact finA blA
   ·
    replace c22:=Bool.eq_false_iff.mpr c22
    subst c22
    rw [if_neg (show ¬ (false=true) by decide)] at H
    try dsimp only at H
    replace H:=bS H
    obtain ⟨⟨t379,t380,t381,t382⟩,A26,H⟩:=H
    try dsimp only at H
    replace H:=bS H
    obtain ⟨⟨t383,t384,t385,t386⟩,A27,H⟩:=H
    try dsimp only at H
    simp only [Option.some.injEq,Prod.mk.injEq] at H
    obtain ⟨rfl,rfl,rfl,rfl⟩:=H
    have hnb28:=NB374_375.out
    have hnc28:=NB375_374.out
    have hnb29:=NB374_376.out
    have hnc29:=NB376_374.out
    obtain ⟨hcz30_0,hcz30_1,hcz30_2,hcz30_3,hfz30_0,hfz30_1,hfz30_2,hfz30_3⟩:=cz4 BK374
    have hnb31:=NB375_376.out
    have hnc31:=NB376_375.out
    obtain ⟨hcz32_0,hcz32_1,hcz32_2,hfz32_0,hfz32_1,hfz32_2⟩:=cz3 BK375
    go_wp2_with (first|((with_reducible refine gd 21 rfl ?_);refine gC (some 21) rfl Try.func44 (impl_moveBall.calls (w:=_) (h:=A26.out)) ?_;intro w33 hb;replace BK374:=kB BK374 hb;replace BK375:=kB BK375 hb;replace BK376:=kB BK376 hb;replace HB:=lB hb;clear hb)|((with_reducible refine gd 24 rfl ?_);refine gC (some 24) rfl Try.func43 (impl_fitted.calls (w:=_) (h:=A27.out)) ?_;intro w34 hb;replace BK374:=kB BK374 hb;replace BK375:=kB BK375 hb;replace BK376:=kB BK376 hb;replace HB:=lB hb;clear hb;obtain ⟨hcz35_0,hcz35_1,hcz35_2,hfz35_0,hfz35_1,hfz35_2⟩:=cz3 BK376))
    refine bodyPost_ret (results_ct rfl _ _ gb376 28 #[.int .i64 t383,.int .i64 t384,.int .i64 t385] (0,0) _ rfl (bpA BK376) Try.underlying28 rfl (by kernel_rfl)) rfl ?_
    exact finA blA
def impl_InverseMatrix.f (k:Nat) (a0_0 a0_1 a0_2 a0_3:Int):Option (Int × Int × Int × Int × Int):=(impl_IsMatrix.f k a0_0 a0_1 a0_2 a0_3).bind fun t569=>(if t569=true then ((impl_inverted.f k a0_0 a0_1 a0_2 a0_3).bind fun bt570=>(some (bt570.1,bt570.2.1,bt570.2.2.1,bt570.2.2.2,0))) else (some (0,0,0,0,1)))
theorem impl_InverseMatrix.mono:∀ a0 a1 a2 a3 k,LeO (impl_InverseMatrix.f k a0 a1 a2 a3) (impl_InverseMatrix.f (k+1) a0 a1 a2 a3):=by
 intro a0 a1 a2 a3 k
 unfold impl_InverseMatrix.f
 repeat' first
   | with_reducible first|exact impl_IsMatrix.mono ..|exact impl_inverted.mono ..|exact LeO.refl _|exact LeO.none _|refine LeO.ite ?_ ?_|refine LeO.bind ?_ fun _=>?_
set_option maxHeartbeats 8000000 in
set_option maxRecDepth 100000 in
theorem impl_InverseMatrix.calls (k:Nat) (a0_0 a0_1 a0_2 a0_3 r1 r2 r3 r4 r5:Int) (w:World) (h:impl_InverseMatrix.f k a0_0 a0_1 a0_2 a0_3=some (r1,r2,r3,r4,r5)) :
  Calls Try.prog 13 #[.agg #[.int .i64 a0_0,.int .i64 a0_1,.int .i64 a0_2,.int .i64 a0_3]] w fun e w'=>e=.returned (.tuple #[.agg #[.int .i64 r1,.int .i64 r2,.int .i64 r3,.int .i64 r4],.int .i64 r5])∧Below w.heap.size w w':=by
 have hu26:=Try.underlying26
 have HB:=Aside0.mk (Below.refl w.heap.size w)
 have H:=h
 unfold impl_InverseMatrix.f at H
 clear h
 replace H:=bS H
 obtain ⟨t569,A2,H⟩:=H
 try dsimp only at H
 by_cases c3:t569=true
 ·
  subst c3
  rw [if_pos rfl] at H
  try dsimp only at H
  replace H:=bS H
  obtain ⟨⟨t570,t571,t572,t573⟩,A4,H⟩:=H
  try dsimp only at H
  simp only [Option.some.injEq,Prod.mk.injEq] at H
  obtain ⟨rfl,rfl,rfl,rfl,rfl⟩:=H
  go_enter Try.func13,Try.ntmps13
  go_wp2_with (first|((with_reducible refine gate_dst (N:=1) rfl ?_);refine bxE (cs:=#[.int .i64 a0_0,.int .i64 a0_1,.int .i64 a0_2,.int .i64 a0_3]) (t:=26) ?_;intro gb567 hg w5 hbox hb;have BK567:=Aside0.mk hbox;have GW567:=sA hg;have GE567:=sA hg;replace HB:=lB hb;clear hb hbox hg)|((with_reducible refine gate_dst (N:=2) rfl ?_);refine bxE (cs:=#[.int .i64 0,.int .i64 0,.int .i64 0,.int .i64 0]) (t:=26) ?_;intro gb568 hg w6 hbox hb;have BK568:=Aside0.mk hbox;have GW568:=sA hg;have GE568:=sA hg;have NB567_568:=nA hg BK567;have NB568_567:=nB hg BK567;replace BK567:=kB BK567 hb;replace HB:=lB hb;clear hb hbox hg;have hnb7:=NB567_568.out;have hnc7:=NB568_567.out;obtain ⟨hcz8_0,hcz8_1,hcz8_2,hcz8_3,hfz8_0,hfz8_1,hfz8_2,hfz8_3⟩:=cz4 BK567)|((with_reducible refine gd 5 rfl ?_);refine gC (some 5) rfl Try.func42 (impl_IsMatrix.calls (w:=_) (h:=A2.out)) ?_;intro w9 hb;replace BK567:=kB BK567 hb;replace BK568:=kB BK568 hb;replace HB:=lB hb;clear hb;obtain ⟨hcz10_0,hcz10_1,hcz10_2,hcz10_3,hfz10_0,hfz10_1,hfz10_2,hfz10_3⟩:=cz4 BK567)|((with_reducible refine gd 9 rfl ?_);refine gC (some 9) rfl Try.func56 (impl_inverted.calls (w:=_) (h:=A4.out)) ?_;intro w11 hb;replace BK567:=kB BK567 hb;replace BK568:=kB BK568 hb;replace HB:=lB hb;clear hb;obtain ⟨hcz12_0,hcz12_1,hcz12_2,hcz12_3,hfz12_0,hfz12_1,hfz12_2,hfz12_3⟩:=cz4 BK568))
  refine bodyPost_ret (results_ct rfl _ _ gb568 26 #[.int .i64 t570,.int .i64 t571,.int .i64 t572,.int .i64 t573] (0,0) _ rfl (bpA BK568) Try.underlying26 rfl (by kernel_rfl)) rfl ?_
  exact finA blA
 ·
  replace c3:=Bool.eq_false_iff.mpr c3
  subst c3
  rw [if_neg (show ¬ (false=true) by decide)] at H
  try dsimp only at H
  simp only [Option.some.injEq,Prod.mk.injEq] at H
  obtain ⟨rfl,rfl,rfl,rfl,rfl⟩:=H
  go_enter Try.func13,Try.ntmps13
  go_wp2_with (first|((with_reducible refine gate_dst (N:=1) rfl ?_);refine bxE (cs:=#[.int .i64 a0_0,.int .i64 a0_1,.int .i64 a0_2,.int .i64 a0_3]) (t:=26) ?_;intro gb567 hg w13 hbox hb;have BK567:=Aside0.mk hbox;have GW567:=sA hg;have GE567:=sA hg;replace HB:=lB hb;clear hb hbox hg)|((with_reducible refine gate_dst (N:=2) rfl ?_);refine bxE (cs:=#[.int .i64 0,.int .i64 0,.int .i64 0,.int .i64 0]) (t:=26) ?_;intro gb568 hg w14 hbox hb;have BK568:=Aside0.mk hbox;have GW568:=sA hg;have GE568:=sA hg;have NB567_568:=nA hg BK567;have NB568_567:=nB hg BK567;replace BK567:=kB BK567 hb;replace HB:=lB hb;clear hb hbox hg;have hnb15:=NB567_568.out;have hnc15:=NB568_567.out;obtain ⟨hcz16_0,hcz16_1,hcz16_2,hcz16_3,hfz16_0,hfz16_1,hfz16_2,hfz16_3⟩:=cz4 BK567)|((with_reducible refine gd 5 rfl ?_);refine gC (some 5) rfl Try.func42 (impl_IsMatrix.calls (w:=_) (h:=A2.out)) ?_;intro w17 hb;replace BK567:=kB BK567 hb;replace BK568:=kB BK568 hb;replace HB:=lB hb;clear hb;obtain ⟨hcz18_0,hcz18_1,hcz18_2,hcz18_3,hfz18_0,hfz18_1,hfz18_2,hfz18_3⟩:=cz4 BK568))
  refine bodyPost_ret (results_ct rfl _ _ gb568 26 #[.int .i64 0,.int .i64 0,.int .i64 0,.int .i64 0] (0,0) _ rfl (bpA BK568) Try.underlying26 rfl (by kernel_rfl)) rfl ?_
  exact finA blA
end Go.Proofs.Ytlpmefmaplhfdaa.PAll
