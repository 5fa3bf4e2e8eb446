-- turned out of the kit's print
import Derived.Test.YtnhiehpbkimaeaaQx
import Derived.Test.YtnhiehpbkimaeaaQimplBall56
import Derived.Test.YtnhiehpbkimaeaaQimplmark
import Derived.Test.YtnhiehpbkimaeaaQimplregionCode
namespace Go.Proofs.Ytnhiehpbkimaeaa.PAll
open Go.RowKit Go.Proofs.YtnhiehpbkimaeaaW.PrintWords Go.Proofs.YtnhiehpbkimaeaaW.PrintLast Go.Proofs.YtnhiehpbkimaeaaW.PrintMore
attribute [local go_sem] Go.Proofs.Ytnhiehpbkimaeaa.Aux.setCell_drewN Go.Proofs.Ytnhiehpbkimaeaa.Aux.isSome_setCell max2_int min2_int max_two min_two max_three min_three max_four min_four
set_option linter.unusedVariables false
set_option linter.unusedSimpArgs false
def impl_moveBall.j0:Nat→Int→Int→Int→Int→Int→Int→Int→Int→Int→Int→Option (Int × Int × Int × Bool)
 | 0,_,_,_,_,_,_,_,_,_,_=>none
 | k+1,x0,x349000,x349001,x349002,x349003,x350000,x350001,x350002,x356000,x356001=>(impl_determinant.f x349000 x349001 x349002 x349003).bind fun t358=>((impl_valuation.f k x0 t358).bind fun t359=>((impl_valuation.f k x0 x356001).bind fun t360=>((impl_ballAt.f k x0 x356000 x356001 (wrap64 ((wrap64 ((wrap64 (t359+x350000))+12)) - (wrap64 (2*t360))))).bind fun bt361=>(some (bt361.1,bt361.2.1,bt361.2.2.1,bt361.2.2.2)))))
def impl_moveBall.f (k:Nat) (a0 a1_0 a1_1 a1_2 a1_3 a2_0 a2_1 a2_2:Int):Option (Int × Int × Int × Bool):=(impl_mark.f k a0 a2_0 a2_1 a2_2).bind fun t351=>((impl_power.f k a0 6).bind fun t352=>((impl_power.f k a0 (wrap64 (a2_0+6))).bind fun t353=>((impl_valuation.f k a0 (wrap64 ((wrap64 (a1_2*t351))+(wrap64 (a1_3*t352))))).bind fun t356=>((impl_valuation.f k a0 (wrap64 (a1_2*t353))).bind fun t357=>(if t356>t357 then (impl_moveBall.j0 k a0 a1_0 a1_1 a1_2 a1_3 a2_0 a2_1 a2_2 (wrap64 (a1_0*t353)) (wrap64 (a1_2*t353))) else (impl_moveBall.j0 k a0 a1_0 a1_1 a1_2 a1_3 a2_0 a2_1 a2_2 (wrap64 ((wrap64 (a1_0*t351))+(wrap64 (a1_1*t352)))) (wrap64 ((wrap64 (a1_2*t351))+(wrap64 (a1_3*t352))))))))))
theorem impl_moveBall.mono_l:∀ k,(∀ y0 y1 y2 y3 y4 y5 y6 y7 y8 y9,LeO (impl_moveBall.j0 k y0 y1 y2 y3 y4 y5 y6 y7 y8 y9) (impl_moveBall.j0 (k+1) y0 y1 y2 y3 y4 y5 y6 y7 y8 y9))
 | 0=>fun _ _ _ _ _ _ _ _ _ _ r h=>by simp [impl_moveBall.j0] at h
 | k+1=>by
  have ih0:=impl_moveBall.mono_l k
  ·
   intro y0 y1 y2 y3 y4 y5 y6 y7 y8 y9
   unfold impl_moveBall.j0
   repeat' first
   | with_reducible first|exact ih0 ..|exact impl_ballAt.mono ..|exact impl_mark.mono ..|exact impl_power.mono ..|exact impl_valuation.mono ..|exact LeO.refl _|exact LeO.none _|refine LeO.ite ?_ ?_|refine LeO.bind ?_ fun _=>?_
theorem impl_moveBall.mono:∀ a0 a1 a2 a3 a4 a5 a6 a7 k,LeO (impl_moveBall.f k a0 a1 a2 a3 a4 a5 a6 a7) (impl_moveBall.f (k+1) a0 a1 a2 a3 a4 a5 a6 a7):=by
 intro a0 a1 a2 a3 a4 a5 a6 a7 k
 have ih0:=impl_moveBall.mono_l k
 unfold impl_moveBall.f
 repeat' first
   | with_reducible first|exact ih0 ..|exact impl_ballAt.mono ..|exact impl_mark.mono ..|exact impl_power.mono ..|exact impl_valuation.mono ..|exact LeO.refl _|exact LeO.none _|refine LeO.ite ?_ ?_|refine LeO.bind ?_ fun _=>?_
def impl_moveBall.T1:Bool × List (List Nat × List Nat):=(true,[([],[]),([],[]),([0,1],[0,1]),([],[]),([3,2],[3]),([],[]),([],[]),([6],[6]),([7],[7]),([5,8,4],[5,8]),([2,9,0,1,2],[2]),([4,10,0,1,2,3,4,10],[4]),([9,11,0,1,2,3,4,5,6,7,8,9,10,11],[9])])
def impl_moveBall.B1:List Nat:=[0,0,3,0,15,0,0,64,192,511,1023,2047,4095]
theorem impl_moveBall.tab1:rtab .any (opsOf Try.f35 1)=impl_moveBall.T1:=by kernel_rfl
theorem impl_moveBall.bits1:waitsOk impl_moveBall.T1.2 impl_moveBall.B1=true:=by kernel_rfl
def impl_moveBall.T4:Bool × List (List Nat × List Nat):=(true,[([],[]),([],[]),([1],[1]),([0,2],[0,2]),([],[]),([],[]),([5],[5]),([4,6,3],[4,6]),([3,7],[3,7])])
def impl_moveBall.B4:List Nat:=[0,0,2,7,0,0,32,127,255]
theorem impl_moveBall.tab4:rtab .any (opsOf Try.f35 4)=impl_moveBall.T4:=by kernel_rfl
theorem impl_moveBall.bits4:waitsOk impl_moveBall.T4.2 impl_moveBall.B4=true:=by kernel_rfl
def impl_moveBall.T6:Bool × List (List Nat × List Nat):=(true,[([],[]),([],[]),([1],[1]),([0,2,2],[0,2]),([],[]),([4],[4]),([3,5],[3,5]),([6],[6]),([],[]),([],[]),([9],[9]),([8,10,3],[8,10]),([11],[11]),([7,12],[7,12]),([13,11,0,1,2,3,4,5,6,7,8,9,10,11,12,13],[13])])
def impl_moveBall.B6:List Nat:=[0,0,2,7,0,16,63,127,0,0,512,1807,3855,8191,16383]
theorem impl_moveBall.tab6:rtab .any (opsOf Try.f35 6)=impl_moveBall.T6:=by kernel_rfl
theorem impl_moveBall.bits6:waitsOk impl_moveBall.T6.2 impl_moveBall.B6=true:=by kernel_rfl
set_option maxHeartbeats 8000000 in
set_option maxRecDepth 100000 in
theorem impl_moveBall.calls (k:Nat) (a0 a1_0 a1_1 a1_2 a1_3 a2_0 a2_1 a2_2 r1 r2 r3:Int) (r4:Bool) (w:World) (h:impl_moveBall.f k a0 a1_0 a1_1 a1_2 a1_3 a2_0 a2_1 a2_2=some (r1,r2,r3,r4)) :
  Calls Try.prog 35 #[.int .i64 a0,.agg #[.int .i64 a1_0,.int .i64 a1_1,.int .i64 a1_2,.int .i64 a1_3],.agg #[.int .i64 a2_0,.int .i64 a2_1,.int .i64 a2_2]] w fun e w'=>e=.returned (.tuple #[.agg #[.int .i64 r1,.int .i64 r2,.int .i64 r3],.bool r4])∧Below w.heap.size w w':=by
 have hu42:=Try.underlying42
 have hu53:=Try.underlying53
 have hu40:=Try.underlying40
 have HB:=Aside0.mk (Below.refl w.heap.size w)
 have H:=h
 unfold impl_moveBall.f at H
 clear h
 replace H:=bS H
 obtain ⟨t351,A4,H⟩:=H
 try dsimp only at H
 replace H:=bS H
 obtain ⟨t352,A5,H⟩:=H
 try dsimp only at H
 replace H:=bS H
 obtain ⟨t353,A6,H⟩:=H
 try dsimp only at H
 replace H:=bS H
 obtain ⟨t356,A7,H⟩:=H
 try dsimp only at H
 replace H:=bS H
 obtain ⟨t357,A8,H⟩:=H
 try dsimp only at H
 have HC9:=Aside0.mk H
 clear H
 go_enter Try.func35,Try.ntmps35
 try go_wp2_with (first|((with_reducible refine gate_dst (N:=4) rfl ?_);refine bxE (cs:=#[.int .i64 a1_0,.int .i64 a1_1,.int .i64 a1_2,.int .i64 a1_3]) (t:=42) ?_;intro gb348 hg w10 hbox hb;have n0_:=lB hb;have n1_:=Aside0.mk hbox;have n2_:=sA hg;have n3_:=sA hg;clear HB;have HB:=n0_;have BK348:=n1_;have GW348:=n2_;have GE348:=n3_;clear n0_ n1_ n2_ n3_;clear hb hbox hg)|((with_reducible refine gate_dst (N:=5) rfl ?_);refine bxE (cs:=#[.int .i64 a2_0,.int .i64 a2_1,.int .i64 a2_2]) (t:=53) ?_;intro gb349 hg w11 hbox hb;have n0_:=kB BK348 hb;have n1_:=lB hb;have n2_:=Aside0.mk hbox;have n3_:=sA hg;have n4_:=sA hg;have n5_:=nA hg BK348;have n6_:=nB hg BK348;clear BK348;clear HB;have BK348:=n0_;have HB:=n1_;have BK349:=n2_;have GW349:=n3_;have GE349:=n4_;have NB348_349:=n5_;have NB349_348:=n6_;clear n0_ n1_ n2_ n3_ n4_ n5_ n6_;clear hb hbox hg)|((with_reducible refine gate_dst (N:=6) rfl ?_);refine bxE (cs:=#[.int .i64 0,.int .i64 0,.int .i64 0]) (t:=53) ?_;intro gb350 hg w12 hbox hb;have n0_:=kB BK348 hb;have n1_:=kB BK349 hb;have n2_:=lB hb;have n3_:=Aside0.mk hbox;have n4_:=sA hg;have n5_:=sA hg;have n6_:=nA hg BK348;have n7_:=nB hg BK348;have n8_:=nA hg BK349;have n9_:=nB hg BK349;clear BK348;clear BK349;clear HB;have BK348:=n0_;have BK349:=n1_;have HB:=n2_;have BK350:=n3_;have GW350:=n4_;have GE350:=n5_;have NB348_350:=n6_;have NB350_348:=n7_;have NB349_350:=n8_;have NB350_349:=n9_;clear n0_ n1_ n2_ n3_ n4_ n5_ n6_ n7_ n8_ n9_;clear hb hbox hg))
 have n0_:=Aside0.mk (blk_drew BK348.out)
 have n1_:=Aside0.mk (blk_drew BK349.out)
 have n2_:=Aside0.mk (blk_drew BK350.out)
 have n3_:=Aside0.mk (below_drew1 HB.out)
 clear BK348
 clear BK349
 clear BK350
 clear HB
 have BK348:=n0_
 have BK349:=n1_
 have BK350:=n2_
 have HB:=n3_
 clear n0_ n1_ n2_ n3_
 refine start_ (n:=13) (S:=fun w'=>w'.cell? ⟨gb349,0,none⟩=some (.int .i64 a2_0)∧w'.cell? ⟨gb349,1,none⟩=some (.int .i64 a2_1)∧w'.cell? ⟨gb349,2,none⟩=some (.int .i64 a2_2)) (ds:=[]) #[Z,Z,Z,Z,Z,Z,Z,Z,Z,Z,Z,Z,Z] (by kernel_rfl) rfl rfl ⟨cA BK349 0,cA BK349 1,cA BK349 2⟩ (fun hHeld=>?_);refine with_tabW impl_moveBall.tab1 impl_moveBall.bits1 (fun HT_ HW_=>?_)
 generalize w12.drew=w13 at BK348 BK349 BK350 HB hHeld ⊢
 refine puA (i:=0) (N:=some 14) #[Y,Z,Z,Z,Z,Z,Z,Z,Z,Z,Z,Z,Z] rfl rfl HT_ ?_
 refine puA (i:=3) (N:=some 17) #[Y,Z,Z,Y,Z,Z,Z,Z,Z,Z,Z,Z,Z] rfl rfl HT_ ?_
 refine puA (i:=5) (N:=some 19) #[Y,Z,Z,Y,Z,Y,Z,Z,Z,Z,Z,Z,Z] rfl rfl HT_ ?_
 refine puA (i:=6) (N:=some 20) #[Y,Z,Z,Y,Z,Y,Y,Z,Z,Z,Z,Z,Z] rfl rfl HT_ ?_
 refine taA (i:=1) (N:=some 15) #[Y,Y,Z,Y,Z,Y,Y,Z,Z,Z,Z,Z,Z] rfl rfl HT_ HW_ hHeld ?_
 refine taA (i:=7) (N:=some 21) #[Y,Y,Z,Y,Z,Y,Y,Y,Z,Z,Z,Z,Z] rfl rfl HT_ HW_ hHeld ?_
 refine puA (i:=8) (N:=some 22) #[Y,Y,Z,Y,Z,Y,Y,Y,Y,Z,Z,Z,Z] rfl rfl HT_ ?_
 refine one_ (i:=2) (N:=some 16) #[Y,Y,Y,Y,Z,Y,Y,Y,Y,Z,Z,Z,Z] rfl rfl (one_of HT_.out (by kernel_rfl)) (by decide) (fun K hK=>?_)
 refine goC Try.func49 (impl_mark.calls (w:=_) (h:=A4.out)) ?_
 intro w14 hb
 replace BK348:=kB BK348 hb
 replace BK349:=kB BK349 hb
 replace BK350:=kB BK350 hb
 replace HB:=lB hb
 (try clear hb)
 (try clear hb2)
 (try clear hk)
 (try clear hi)
 refine hK.out _ _ ⟨cA BK349 0,cA BK349 1,cA BK349 2⟩ (fun hHeld=>?_)
 clear hK K
 refine nmA ?_
 refine one_ (i:=4) (N:=some 18) #[Y,Y,Y,Y,Y,Y,Y,Y,Y,Z,Z,Z,Z] rfl rfl (one_of HT_.out (by kernel_rfl)) (by decide) (fun K hK=>?_)
 refine goC Try.func50 (impl_power.calls (w:=_) (h:=A5.out)) ?_
 rintro _ ⟨nd,rfl⟩
 refine hK.out _ _ ⟨cA BK349 0,cA BK349 1,cA BK349 2⟩ (fun hHeld=>?_)
 clear hK K
 refine nmA ?_
 refine one_ (i:=9) (N:=some 23) #[Y,Y,Y,Y,Y,Y,Y,Y,Y,Y,Z,Z,Z] rfl rfl (one_of HT_.out (by kernel_rfl)) (by decide) (fun K hK=>?_)
 refine goC Try.func50 (impl_power.calls (w:=_) (h:=A6.out)) ?_
 rintro _ ⟨nd,rfl⟩
 refine hK.out _ _ ⟨cA BK349 0,cA BK349 1,cA BK349 2⟩ (fun hHeld=>?_)
 clear hK K
 refine nmA ?_
 refine puA (i:=10) (N:=some 8) #[Y,Y,Y,Y,Y,Y,Y,Y,Y,Y,Y,Z,Z] rfl rfl HT_ ?_
 refine puA (i:=11) (N:=some 9) #[Y,Y,Y,Y,Y,Y,Y,Y,Y,Y,Y,Y,Z] rfl rfl HT_ ?_
 refine puA (i:=12) (N:=some 10) #[Y,Y,Y,Y,Y,Y,Y,Y,Y,Y,Y,Y,Y] rfl rfl HT_ ?_
 refine done_ (done_of HT_.out (by kernel_rfl)) ?_
 have hnb15:=NB348_349.out
 have hnc15:=NB349_348.out
 have hnb16:=NB348_350.out
 have hnc16:=NB350_348.out
 obtain ⟨hcz17_0,hcz17_1,hcz17_2,hcz17_3,hfz17_0,hfz17_1,hfz17_2,hfz17_3⟩:=cz4 BK348
 try go_wp2_with (first|((with_reducible refine gate_dst (N:=11) rfl ?_);refine bxE (cs:=#[.int .i64 0,.int .i64 0]) (t:=40) ?_;intro gb354 hg w18 hbox hb;have n0_:=kB BK348 hb;have n1_:=kB BK349 hb;have n2_:=kB BK350 hb;have n3_:=lB hb;have n4_:=Aside0.mk hbox;have n5_:=sA hg;have n6_:=sA hg;have n7_:=nA hg BK348;have n8_:=nB hg BK348;have n9_:=nA hg BK349;have n10_:=nB hg BK349;have n11_:=nA hg BK350;have n12_:=nB hg BK350;clear BK348;clear BK349;clear BK350;clear HB;have BK348:=n0_;have BK349:=n1_;have BK350:=n2_;have HB:=n3_;have BK354:=n4_;have GW354:=n5_;have GE354:=n6_;have NB348_354:=n7_;have NB354_348:=n8_;have NB349_354:=n9_;have NB354_349:=n10_;have NB350_354:=n11_;have NB354_350:=n12_;clear n0_ n1_ n2_ n3_ n4_ n5_ n6_ n7_ n8_ n9_ n10_ n11_ n12_;clear hb hbox hg;have hnb19:=NB354_348.out;have hnc19:=NB348_354.out;have hnb20:=NB354_349.out;have hnc20:=NB349_354.out;have hnb21:=NB354_350.out;have hnc21:=NB350_354.out;obtain ⟨hcz22_0,hcz22_1,hfz22_0,hfz22_1⟩:=cz2 BK354;obtain ⟨hcz23_0,hcz23_1,hcz23_2,hcz23_3,hfz23_0,hfz23_1,hfz23_2,hfz23_3⟩:=cz4 BK348)|((with_reducible refine gate_dst (N:=12) rfl ?_);refine bxE (cs:=#[.int .i64 0,.int .i64 0]) (t:=40) ?_;intro gb355 hg w24 hbox hb;have n0_:=Aside0.mk (blk_below (g:=gb348) (o:=.cells #[.int .i64 a1_0,.int .i64 a1_1,.int .i64 a1_2,.int .i64 a1_3] 42 (0,0)) (bkF BK348) hb);have n1_:=Aside0.mk (blk_below (g:=gb349) (o:=.cells #[.int .i64 a2_0,.int .i64 a2_1,.int .i64 a2_2] 53 (0,0)) (bkF BK349) hb);have n2_:=Aside0.mk (blk_below (g:=gb350) (o:=.cells #[.int .i64 0,.int .i64 0,.int .i64 0] 53 (0,0)) (bkF BK350) hb);have n3_:=Aside0.mk (blk_below (g:=gb354) (o:=.cells #[.int .i64 (wrap64 (a1_0*t353)),.int .i64 (wrap64 (a1_2*t353))] 40 (0,0)) (bpA BK354) hb);have n4_:=lB hb;have n5_:=Aside0.mk hbox;have n6_:=sA hg;have n7_:=sA hg;have n8_:=Aside0.mk ((by rw [hg];exact Nat.ne_of_lt (blk_lt (g:=gb348) (o:=.cells #[.int .i64 a1_0,.int .i64 a1_1,.int .i64 a1_2,.int .i64 a1_3] 42 (0,0)) (bkF BK348)):gb348≠gb355));have n9_:=Aside0.mk ((by rw [hg];exact Nat.ne_of_gt (blk_lt (g:=gb348) (o:=.cells #[.int .i64 a1_0,.int .i64 a1_1,.int .i64 a1_2,.int .i64 a1_3] 42 (0,0)) (bkF BK348)):gb355≠gb348));have n10_:=Aside0.mk ((by rw [hg];exact Nat.ne_of_lt (blk_lt (g:=gb349) (o:=.cells #[.int .i64 a2_0,.int .i64 a2_1,.int .i64 a2_2] 53 (0,0)) (bkF BK349)):gb349≠gb355));have n11_:=Aside0.mk ((by rw [hg];exact Nat.ne_of_gt (blk_lt (g:=gb349) (o:=.cells #[.int .i64 a2_0,.int .i64 a2_1,.int .i64 a2_2] 53 (0,0)) (bkF BK349)):gb355≠gb349));have n12_:=Aside0.mk ((by rw [hg];exact Nat.ne_of_lt (blk_lt (g:=gb350) (o:=.cells #[.int .i64 0,.int .i64 0,.int .i64 0] 53 (0,0)) (bkF BK350)):gb350≠gb355));have n13_:=Aside0.mk ((by rw [hg];exact Nat.ne_of_gt (blk_lt (g:=gb350) (o:=.cells #[.int .i64 0,.int .i64 0,.int .i64 0] 53 (0,0)) (bkF BK350)):gb355≠gb350));have n14_:=Aside0.mk ((by rw [hg];exact Nat.ne_of_lt (blk_lt (g:=gb354) (o:=.cells #[.int .i64 (wrap64 (a1_0*t353)),.int .i64 (wrap64 (a1_2*t353))] 40 (0,0)) (bpA BK354)):gb354≠gb355));have n15_:=Aside0.mk ((by rw [hg];exact Nat.ne_of_gt (blk_lt (g:=gb354) (o:=.cells #[.int .i64 (wrap64 (a1_0*t353)),.int .i64 (wrap64 (a1_2*t353))] 40 (0,0)) (bpA BK354)):gb355≠gb354));clear BK348;clear BK349;clear BK350;clear BK354;clear HB;have BK348:=n0_;have BK349:=n1_;have BK350:=n2_;have BK354:=n3_;have HB:=n4_;have BK355:=n5_;have GW355:=n6_;have GE355:=n7_;have NB348_355:=n8_;have NB355_348:=n9_;have NB349_355:=n10_;have NB355_349:=n11_;have NB350_355:=n12_;have NB355_350:=n13_;have NB354_355:=n14_;have NB355_354:=n15_;clear n0_ n1_ n2_ n3_ n4_ n5_ n6_ n7_ n8_ n9_ n10_ n11_ n12_ n13_ n14_ n15_;clear hb hbox hg;have hnb25:=NB355_348.out;have hnc25:=NB348_355.out;have hnb26:=NB355_349.out;have hnc26:=NB349_355.out;have hnb27:=NB355_350.out;have hnc27:=NB350_355.out;have hnb28:=NB355_354.out;have hnc28:=NB354_355.out;obtain ⟨hcz29_0,hcz29_1,hfz29_0,hfz29_1⟩:=cz2 BK355))
 have n0_:Aside0 (((w24.setCell ⟨gb355,0,none⟩ (.int .i64 (wrap64 ((wrap64 (a1_0*t351))+(wrap64 (a1_1*t352)))))).setCell ⟨gb355,1,none⟩ (.int .i64 (wrap64 ((wrap64 (a1_2*t351))+(wrap64 (a1_3*t352)))))).heap[gb348]?=some (.cells #[.int .i64 a1_0,.int .i64 a1_1,.int .i64 a1_2,.int .i64 a1_3] 42 (0,0))):=⟨bkF BK348⟩
 have n1_:Aside0 (((w24.setCell ⟨gb355,0,none⟩ (.int .i64 (wrap64 ((wrap64 (a1_0*t351))+(wrap64 (a1_1*t352)))))).setCell ⟨gb355,1,none⟩ (.int .i64 (wrap64 ((wrap64 (a1_2*t351))+(wrap64 (a1_3*t352)))))).heap[gb349]?=some (.cells #[.int .i64 a2_0,.int .i64 a2_1,.int .i64 a2_2] 53 (0,0))):=⟨bkF BK349⟩
 have n2_:Aside0 (((w24.setCell ⟨gb355,0,none⟩ (.int .i64 (wrap64 ((wrap64 (a1_0*t351))+(wrap64 (a1_1*t352)))))).setCell ⟨gb355,1,none⟩ (.int .i64 (wrap64 ((wrap64 (a1_2*t351))+(wrap64 (a1_3*t352)))))).heap[gb350]?=some (.cells #[.int .i64 0,.int .i64 0,.int .i64 0] 53 (0,0))):=⟨bkF BK350⟩
 have n3_:Aside0 (((w24.setCell ⟨gb355,0,none⟩ (.int .i64 (wrap64 ((wrap64 (a1_0*t351))+(wrap64 (a1_1*t352)))))).setCell ⟨gb355,1,none⟩ (.int .i64 (wrap64 ((wrap64 (a1_2*t351))+(wrap64 (a1_3*t352)))))).heap[gb354]?=some (.cells #[.int .i64 (wrap64 (a1_0*t353)),.int .i64 (wrap64 (a1_2*t353))] 40 (0,0))):=⟨bkF BK354⟩
 have n4_:Aside0 (((w24.setCell ⟨gb355,0,none⟩ (.int .i64 (wrap64 ((wrap64 (a1_0*t351))+(wrap64 (a1_1*t352)))))).setCell ⟨gb355,1,none⟩ (.int .i64 (wrap64 ((wrap64 (a1_2*t351))+(wrap64 (a1_3*t352)))))).heap[gb355]?=some (.cells #[.int .i64 (wrap64 ((wrap64 (a1_0*t351))+(wrap64 (a1_1*t352)))),.int .i64 (wrap64 ((wrap64 (a1_2*t351))+(wrap64 (a1_3*t352))))] 40 (0,0))):=⟨bpA BK355⟩
 have n5_:Aside0 (Below w.heap.size w ((w24.setCell ⟨gb355,0,none⟩ (.int .i64 (wrap64 ((wrap64 (a1_0*t351))+(wrap64 (a1_1*t352)))))).setCell ⟨gb355,1,none⟩ (.int .i64 (wrap64 ((wrap64 (a1_2*t351))+(wrap64 (a1_3*t352))))))):=⟨blA⟩
 (try clear BK348)
 (try clear BK349)
 (try clear BK350)
 (try clear BK354)
 (try clear BK355)
 (try clear HB)
 generalize ((w24.setCell ⟨gb355,0,none⟩ (.int .i64 (wrap64 ((wrap64 (a1_0*t351))+(wrap64 (a1_1*t352)))))).setCell ⟨gb355,1,none⟩ (.int .i64 (wrap64 ((wrap64 (a1_2*t351))+(wrap64 (a1_3*t352))))))=w30 at n0_ n1_ n2_ n3_ n4_ n5_ ⊢
 have BK348:=n0_
 have BK349:=n1_
 have BK350:=n2_
 have BK354:=n3_
 have BK355:=n4_
 have HB:=n5_
 clear n0_ n1_ n2_ n3_ n4_ n5_
 have n0_:=Aside0.mk (blk_drew BK348.out)
 have n1_:=Aside0.mk (blk_drew BK349.out)
 have n2_:=Aside0.mk (blk_drew BK350.out)
 have n3_:=Aside0.mk (blk_drew BK354.out)
 have n4_:=Aside0.mk (blk_drew BK355.out)
 have n5_:=Aside0.mk (below_drew1 HB.out)
 clear BK348
 clear BK349
 clear BK350
 clear BK354
 clear BK355
 clear HB
 have BK348:=n0_
 have BK349:=n1_
 have BK350:=n2_
 have BK354:=n3_
 have BK355:=n4_
 have HB:=n5_
 clear n0_ n1_ n2_ n3_ n4_ n5_
 refine start_ (n:=9) (S:=fun w'=>w'.cell? ⟨gb355,0,none⟩=some (.int .i64 (wrap64 ((wrap64 (a1_0*t351))+(wrap64 (a1_1*t352)))))∧w'.cell? ⟨gb355,1,none⟩=some (.int .i64 (wrap64 ((wrap64 (a1_2*t351))+(wrap64 (a1_3*t352)))))∧w'.cell? ⟨gb354,0,none⟩=some (.int .i64 (wrap64 (a1_0*t353)))∧w'.cell? ⟨gb354,1,none⟩=some (.int .i64 (wrap64 (a1_2*t353)))) (ds:=[]) #[Z,Z,Z,Z,Z,Z,Z,Z,Z] (by kernel_rfl) rfl rfl ⟨cA BK355 0,cA BK355 1,cA BK354 0,cA BK354 1⟩ (fun hHeld=>?_);refine with_tabW impl_moveBall.tab4 impl_moveBall.bits4 (fun HT_ HW_=>?_)
 generalize w30.drew=w31 at BK348 BK349 BK350 BK354 BK355 HB hHeld ⊢
 refine puA (i:=0) (N:=some 58) #[Y,Z,Z,Z,Z,Z,Z,Z,Z] rfl rfl HT_ ?_
 refine puA (i:=1) (N:=some 59) #[Y,Y,Z,Z,Z,Z,Z,Z,Z] rfl rfl HT_ ?_
 refine puA (i:=4) (N:=some 62) #[Y,Y,Z,Z,Y,Z,Z,Z,Z] rfl rfl HT_ ?_
 refine puA (i:=5) (N:=some 63) #[Y,Y,Z,Z,Y,Y,Z,Z,Z] rfl rfl HT_ ?_
 refine taA (i:=2) (N:=some 60) #[Y,Y,Y,Z,Y,Y,Z,Z,Z] rfl rfl HT_ HW_ hHeld ?_
 refine taA (i:=6) (N:=some 64) #[Y,Y,Y,Z,Y,Y,Y,Z,Z] rfl rfl HT_ HW_ hHeld ?_
 refine one_ (i:=3) (N:=some 61) #[Y,Y,Y,Y,Y,Y,Y,Z,Z] rfl rfl (one_of HT_.out (by kernel_rfl)) (by decide) (fun K hK=>?_)
 refine goC Try.func51 (impl_valuation.calls (w:=_) (h:=A7.out)) ?_
 rintro _ ⟨nd,rfl⟩
 refine hK.out _ _ ⟨cA BK355 0,cA BK355 1,cA BK354 0,cA BK354 1⟩ (fun hHeld=>?_)
 clear hK K
 refine nmA ?_
 refine one_ (i:=7) (N:=some 65) #[Y,Y,Y,Y,Y,Y,Y,Y,Z] rfl rfl (one_of HT_.out (by kernel_rfl)) (by decide) (fun K hK=>?_)
 refine goC Try.func51 (impl_valuation.calls (w:=_) (h:=A8.out)) ?_
 rintro _ ⟨nd,rfl⟩
 refine hK.out _ _ ⟨cA BK355 0,cA BK355 1,cA BK354 0,cA BK354 1⟩ (fun hHeld=>?_)
 clear hK K
 refine nmA ?_
 refine puA (i:=8) (N:=some 66) #[Y,Y,Y,Y,Y,Y,Y,Y,Y] rfl rfl HT_ ?_
 refine done_ (done_of HT_.out (by kernel_rfl)) ?_
 go_upto_if 66 with (fail)
 go_cut [] (fun wc=>∃ (kq:Nat) (x356000_8:Int) (x356001_8:Int),Aside0 (impl_moveBall.j0 kq a0 a1_0 a1_1 a1_2 a1_3 a2_0 a2_1 a2_2 x356000_8 x356001_8=some (r1,r2,r3,r4))∧Aside0 (kq≤k)∧Aside0 (wc.heap[gb348]?=some (.cells #[.int .i64 a1_0,.int .i64 a1_1,.int .i64 a1_2,.int .i64 a1_3] 42 (0,0)))∧Aside0 (wc.heap[gb349]?=some (.cells #[.int .i64 a2_0,.int .i64 a2_1,.int .i64 a2_2] 53 (0,0)))∧Aside0 (wc.heap[gb350]?=some (.cells #[.int .i64 0,.int .i64 0,.int .i64 0] 53 (0,0)))∧Aside0 (wc.heap[gb354]?=some (.cells #[.int .i64 (wrap64 (a1_0*t353)),.int .i64 (wrap64 (a1_2*t353))] 40 (0,0)))∧Aside0 (wc.heap[gb355]?=some (.cells #[.int .i64 x356000_8,.int .i64 x356001_8] 40 (0,0)))∧Aside0 (Below w.heap.size w wc))
 case first=>
  have H:=HC9.out
  clear HC9
  by_cases c32:t356>t357
  ·
   rw [if_pos c32] at H
   have c32b0:decide (t357<t356)=true:=decide_eq_true c32
   clear c32
   (first|rw [c32b0]|(simp only [i64_w,i32_w];rw [c32b0])|skip)
   have H':=Aside0.mk H
   clear H
   have hnb33:=NB354_348.out
   have hnc33:=NB348_354.out
   have hnb34:=NB354_349.out
   have hnc34:=NB349_354.out
   have hnb35:=NB354_350.out
   have hnc35:=NB350_354.out
   have hnb36:=NB354_355.out
   have hnc36:=NB355_354.out
   obtain ⟨hcz37_0,hcz37_1,hfz37_0,hfz37_1⟩:=cz2 BK354
   have hnb38:=NB355_348.out
   have hnc38:=NB348_355.out
   have hnb39:=NB355_349.out
   have hnc39:=NB349_355.out
   have hnb40:=NB355_350.out
   have hnc40:=NB350_355.out
   have hcz41_0:w31.cell? ⟨gb355,0,none⟩=some (.int .i64 (wrap64 ((wrap64 (a1_0*t351))+(wrap64 (a1_1*t352))))):=cA BK355 0
   have hcz41_1:w31.cell? ⟨gb355,1,none⟩=some (.int .i64 (wrap64 ((wrap64 (a1_2*t351))+(wrap64 (a1_3*t352))))):=cA BK355 1
   have hfz41_0:=blk_frozen BK355.out 0
   have hfz41_1:=blk_frozen BK355.out 1
   go_wp2
   go_meet
   case rel=>exact ⟨_,(wrap64 (a1_0*t353)),(wrap64 (a1_2*t353)),H',⟨by first|omega|exact Nat.le_refl _⟩,⟨bkF BK348⟩,⟨bkF BK349⟩,⟨bkF BK350⟩,⟨bkF BK354⟩,⟨bpA BK355⟩,⟨blA⟩⟩
  ·
   rw [if_neg c32] at H
   have c32b0:decide (t357<t356)=false:=decide_eq_false c32
   clear c32
   (first|rw [c32b0]|(simp only [i64_w,i32_w];rw [c32b0])|skip)
   have H':=Aside0.mk H
   clear H
   go_wp2
   go_meet
   case rel=>exact ⟨_,(wrap64 ((wrap64 (a1_0*t351))+(wrap64 (a1_1*t352)))),(wrap64 ((wrap64 (a1_2*t351))+(wrap64 (a1_3*t352)))),H',⟨by first|omega|exact Nat.le_refl _⟩,⟨bkA BK348⟩,⟨bkA BK349⟩,⟨bkA BK350⟩,⟨bkA BK354⟩,⟨bkA BK355⟩,⟨blA⟩⟩
 case rest=>
  clear HC9
  try clear c32
  try clear c32b0
  try clear hcz17_0
  try clear hcz17_1
  try clear hcz17_2
  try clear hcz17_3
  try clear hcz22_0
  try clear hcz22_1
  try clear hcz23_0
  try clear hcz23_1
  try clear hcz23_2
  try clear hcz23_3
  try clear hcz29_0
  try clear hcz29_1
  try clear hcz37_0
  try clear hcz37_1
  try clear hcz41_0
  try clear hcz41_1
  try clear hfz17_0
  try clear hfz17_1
  try clear hfz17_2
  try clear hfz17_3
  try clear hfz22_0
  try clear hfz22_1
  try clear hfz23_0
  try clear hfz23_1
  try clear hfz23_2
  try clear hfz23_3
  try clear hfz29_0
  try clear hfz29_1
  try clear hfz37_0
  try clear hfz37_1
  try clear hfz41_0
  try clear hfz41_1
  obtain ⟨kq,x356000_8,x356001_8,HA,HJ8,BK348,BK349,BK350,BK354,BK355,HB⟩:=hcut
  cases kq with
  | zero=>exact absurd HA.out (by simp [impl_moveBall.j0])
  | succ kj8=>
   have H:=HA.out
   clear HA
   simp only [impl_moveBall.j0] at H
   replace H:=bS H
   obtain ⟨t358,A42,H⟩:=H
   try dsimp only at H
   replace H:=bS H
   obtain ⟨t359,A43,H⟩:=H
   try dsimp only at H
   replace H:=bS H
   obtain ⟨t360,A44,H⟩:=H
   try dsimp only at H
   replace H:=bS H
   obtain ⟨⟨t361,t362,t363,t364⟩,A45,H⟩:=H
   try dsimp only at H
   simp only [Option.some.injEq,Prod.mk.injEq] at H
   obtain ⟨rfl,rfl,rfl,rfl⟩:=H
   try go_wp2
   have n0_:=Aside0.mk (blk_drew BK348.out)
   have n1_:=Aside0.mk (blk_drew BK349.out)
   have n2_:=Aside0.mk (blk_drew BK350.out)
   have n3_:=Aside0.mk (blk_drew BK354.out)
   have n4_:=Aside0.mk (blk_drew BK355.out)
   have n5_:=Aside0.mk (below_drew1 HB.out)
   clear BK348
   clear BK349
   clear BK350
   clear BK354
   clear BK355
   clear HB
   have BK348:=n0_
   have BK349:=n1_
   have BK350:=n2_
   have BK354:=n3_
   have BK355:=n4_
   have HB:=n5_
   clear n0_ n1_ n2_ n3_ n4_ n5_
   refine start_ (n:=15) (S:=fun w'=>w'.cell? ⟨gb348,0,none⟩=some (.int .i64 a1_0)∧w'.cell? ⟨gb348,1,none⟩=some (.int .i64 a1_1)∧w'.cell? ⟨gb348,2,none⟩=some (.int .i64 a1_2)∧w'.cell? ⟨gb348,3,none⟩=some (.int .i64 a1_3)∧w'.cell? ⟨gb349,0,none⟩=some (.int .i64 a2_0)∧w'.cell? ⟨gb349,1,none⟩=some (.int .i64 a2_1)∧w'.cell? ⟨gb349,2,none⟩=some (.int .i64 a2_2)∧w'.cell? ⟨gb355,0,none⟩=some (.int .i64 x356000_8)∧w'.cell? ⟨gb355,1,none⟩=some (.int .i64 x356001_8)) (ds:=[]) #[Z,Z,Z,Z,Z,Z,Z,Z,Z,Z,Z,Z,Z,Z,Z] (by kernel_rfl) rfl rfl ⟨cA BK348 0,cA BK348 1,cA BK348 2,cA BK348 3,cA BK349 0,cA BK349 1,cA BK349 2,cA BK355 0,cA BK355 1⟩ (fun hHeld=>?_);refine with_tabW impl_moveBall.tab6 impl_moveBall.bits6 (fun HT_ HW_=>?_)
   generalize wc.drew=w46 at BK348 BK349 BK350 BK354 BK355 HB hHeld ⊢
   refine puA (i:=0) (N:=some 68) #[Y,Z,Z,Z,Z,Z,Z,Z,Z,Z,Z,Z,Z,Z,Z] rfl rfl HT_ ?_
   refine puA (i:=4) (N:=some 72) #[Y,Z,Z,Z,Y,Z,Z,Z,Z,Z,Z,Z,Z,Z,Z] rfl rfl HT_ ?_
   refine puA (i:=8) (N:=some 76) #[Y,Z,Z,Z,Y,Z,Z,Z,Y,Z,Z,Z,Z,Z,Z] rfl rfl HT_ ?_
   refine puA (i:=9) (N:=some 77) #[Y,Z,Z,Z,Y,Z,Z,Z,Y,Y,Z,Z,Z,Z,Z] rfl rfl HT_ ?_
   refine taA (i:=1) (N:=some 69) #[Y,Y,Z,Z,Y,Z,Z,Z,Y,Y,Z,Z,Z,Z,Z] rfl rfl HT_ HW_ hHeld ?_
   refine taA (i:=5) (N:=some 73) #[Y,Y,Z,Z,Y,Y,Z,Z,Y,Y,Z,Z,Z,Z,Z] rfl rfl HT_ HW_ hHeld ?_
   refine taA (i:=10) (N:=some 78) #[Y,Y,Z,Z,Y,Y,Z,Z,Y,Y,Y,Z,Z,Z,Z] rfl rfl HT_ HW_ hHeld ?_
   refine one_ (i:=2) (N:=some 70) #[Y,Y,Y,Z,Y,Y,Z,Z,Y,Y,Y,Z,Z,Z,Z] rfl rfl (one_of HT_.out (by kernel_rfl)) (by decide) (fun K hK=>?_)
   refine goC Try.func52 (impl_determinant.calls (w:=_) (h:=A42.out)) ?_
   intro w47 hb
   replace BK348:=kB BK348 hb
   replace BK349:=kB BK349 hb
   replace BK350:=kB BK350 hb
   replace BK354:=kB BK354 hb
   replace BK355:=kB BK355 hb
   replace HB:=lB hb
   (try clear hb)
   (try clear hb2)
   (try clear hk)
   (try clear hi)
   refine hK.out _ _ ⟨cA BK348 0,cA BK348 1,cA BK348 2,cA BK348 3,cA BK349 0,cA BK349 1,cA BK349 2,cA BK355 0,cA BK355 1⟩ (fun hHeld=>?_)
   clear hK K
   refine nmA ?_
   refine one_ (i:=3) (N:=some 71) #[Y,Y,Y,Y,Y,Y,Z,Z,Y,Y,Y,Z,Z,Z,Z] rfl rfl (one_of HT_.out (by kernel_rfl)) (by decide) (fun K hK=>?_)
   refine goC Try.func51 (impl_valuation.calls (w:=_) (h:=A43.out)) ?_
   rintro _ ⟨nd,rfl⟩
   refine hK.out _ _ ⟨cA BK348 0,cA BK348 1,cA BK348 2,cA BK348 3,cA BK349 0,cA BK349 1,cA BK349 2,cA BK355 0,cA BK355 1⟩ (fun hHeld=>?_)
   clear hK K
   refine nmA ?_
   refine puA (i:=6) (N:=some 74) #[Y,Y,Y,Y,Y,Y,Y,Z,Y,Y,Y,Z,Z,Z,Z] rfl rfl HT_ ?_
   refine puA (i:=7) (N:=some 75) #[Y,Y,Y,Y,Y,Y,Y,Y,Y,Y,Y,Z,Z,Z,Z] rfl rfl HT_ ?_
   refine one_ (i:=11) (N:=some 79) #[Y,Y,Y,Y,Y,Y,Y,Y,Y,Y,Y,Y,Z,Z,Z] rfl rfl (one_of HT_.out (by kernel_rfl)) (by decide) (fun K hK=>?_)
   refine goC Try.func51 (impl_valuation.calls (w:=_) (h:=A44.out)) ?_
   rintro _ ⟨nd,rfl⟩
   refine hK.out _ _ ⟨cA BK348 0,cA BK348 1,cA BK348 2,cA BK348 3,cA BK349 0,cA BK349 1,cA BK349 2,cA BK355 0,cA BK355 1⟩ (fun hHeld=>?_)
   clear hK K
   refine nmA ?_
   refine puA (i:=12) (N:=some 80) #[Y,Y,Y,Y,Y,Y,Y,Y,Y,Y,Y,Y,Y,Z,Z] rfl rfl HT_ ?_
   refine puA (i:=13) (N:=some 81) #[Y,Y,Y,Y,Y,Y,Y,Y,Y,Y,Y,Y,Y,Y,Z] rfl rfl HT_ ?_
   refine puA (i:=14) (N:=some 13) #[Y,Y,Y,Y,Y,Y,Y,Y,Y,Y,Y,Y,Y,Y,Y] rfl rfl HT_ ?_
   refine done_ (done_of HT_.out (by kernel_rfl)) ?_
   have hnb48:=NB355_348.out
   have hnc48:=NB348_355.out
   have hnb49:=NB355_349.out
   have hnc49:=NB349_355.out
   have hnb50:=NB355_350.out
   have hnc50:=NB350_355.out
   have hnb51:=NB355_354.out
   have hnc51:=NB354_355.out
   obtain ⟨hcz52_0,hcz52_1,hfz52_0,hfz52_1⟩:=cz2 BK355
   try go_wp2_with (first|((with_reducible refine gate_callee (f:=53) rfl ?_);refine gL (some 88) rfl Try.func53 #[.int .i64 a0,.int .i64 x356000_8,.int .i64 x356001_8,.int .i64 (wrap64 ((wrap64 ((wrap64 (t359+a2_0))+12)) - (wrap64 (2*t360))))] ?_;(with_reducible refine (impl_ballAt.calls kj8 a0 x356000_8 x356001_8 (wrap64 ((wrap64 ((wrap64 (t359+a2_0))+12)) - (wrap64 (2*t360)))) t361 t362 t363 t364 _ A45.out).mono ?_);rintro e w53 ⟨rfl,hb⟩;refine ⟨_,rfl,?_⟩;have n0_:=kB BK348 hb;have n1_:=kB BK349 hb;have n2_:=kB BK350 hb;have n3_:=kB BK354 hb;have n4_:=kB BK355 hb;have n5_:=lB hb;clear BK348;clear BK349;clear BK350;clear BK354;clear BK355;clear HB;have BK348:=n0_;have BK349:=n1_;have BK350:=n2_;have BK354:=n3_;have BK355:=n4_;have HB:=n5_;clear n0_ n1_ n2_ n3_ n4_ n5_;clear hb;have hnb54:=NB350_348.out;have hnc54:=NB348_350.out;have hnb55:=NB350_349.out;have hnc55:=NB349_350.out;have hnb56:=NB350_354.out;have hnc56:=NB354_350.out;obtain ⟨hcz57_0,hcz57_1,hcz57_2,hfz57_0,hfz57_1,hfz57_2⟩:=cz3 BK350))
   refine bodyPost_ret (results_ct rfl _ _ gb350 53 #[.int .i64 t361,.int .i64 t362,.int .i64 t363] (0,0) _ rfl (bpA BK350) Try.underlying53 rfl (by kernel_rfl)) rfl ?_
   exact finA blA
def impl_someNeighbours.l0:Nat→Int→List (S53)→Int→Int→Int→Int→Option ((List (S53)) × Bool)
 | 0,_,_,_,_,_,_=>none
 | k+1,x0,x8,x9,x442000,x442001,x442002=>if x9≤x0 then ((impl_neighbour.f k x0 x442000 x442001 x442002 x9).bind fun bt445=>(if bt445.2.2.2=true then (if x8.length<5864062014805 then (impl_someNeighbours.l0 k x0 (x8 ++ [(⟨bt445.1,bt445.2.1,bt445.2.2.1⟩:S53)]) (wrap64 (x9+1)) x442000 x442001 x442002) else (none)) else (some (([]:List (S53)),false)))) else (some (x8,true))
def impl_someNeighbours.f (k:Nat) (a0 a1_0 a1_1 a1_2 a2:Int):Option ((List (S53)) × Bool):=impl_someNeighbours.l0 k a0 (([]:List (S53))) a2 a1_0 a1_1 a1_2
theorem impl_someNeighbours.mono_l:∀ k,(∀ y0 y1 y2 y3 y4 y5,LeO (impl_someNeighbours.l0 k y0 y1 y2 y3 y4 y5) (impl_someNeighbours.l0 (k+1) y0 y1 y2 y3 y4 y5))
 | 0=>fun _ _ _ _ _ _ r h=>by simp [impl_someNeighbours.l0] at h
 | k+1=>by
  have ih0:=impl_someNeighbours.mono_l k
  ·
   intro y0 y1 y2 y3 y4 y5
   unfold impl_someNeighbours.l0
   repeat' first
   | with_reducible first|exact ih0 ..|exact impl_neighbour.mono ..|exact LeO.refl _|exact LeO.none _|refine LeO.ite ?_ ?_|refine LeO.bind ?_ fun _=>?_
theorem impl_someNeighbours.mono:∀ a0 a1 a2 a3 a4 k,LeO (impl_someNeighbours.f k a0 a1 a2 a3 a4) (impl_someNeighbours.f (k+1) a0 a1 a2 a3 a4):=by
 intro a0 a1 a2 a3 a4 k
 have ih0:=impl_someNeighbours.mono_l k
 unfold impl_someNeighbours.f
 repeat' first
   | with_reducible first|exact ih0 ..|exact impl_neighbour.mono ..|exact LeO.refl _|exact LeO.none _|refine LeO.ite ?_ ?_|refine LeO.bind ?_ fun _=>?_
set_option maxHeartbeats 8000000 in
set_option maxRecDepth 100000 in
theorem impl_someNeighbours.calls (k:Nat) (a0 a1_0 a1_1 a1_2 a2:Int) (r1:List (S53)) (r2:Bool) (w:World) (h:impl_someNeighbours.f k a0 a1_0 a1_1 a1_2 a2=some (r1,r2)) :
  Calls Try.prog 54 #[.int .i64 a0,.agg #[.int .i64 a1_0,.int .i64 a1_1,.int .i64 a1_2],.int .i64 a2] w fun e w'=>∃ v0_:Value,e=.returned (.tuple #[v0_,.bool r2])∧Kd.R k53 53 w' w.heap.size (fun _=>True) v0_ r1∧Below w.heap.size w w':=by
 have hu53:=Try.underlying53
 have HB:=Aside0.mk (Below.refl w.heap.size w)
 have H:=h
 unfold impl_someNeighbours.f at H
 clear h
 obtain ⟨y442,hy442⟩:∃ y_:List (S53),y_=(([]:List (S53))):=⟨_,rfl⟩
 replace H:(impl_someNeighbours.l0 k a0 y442 a2 a1_0 a1_1 a1_2)=some (r1,r2):=rH hy442 H
 have Ny442:=Aside0.mk hy442
 clear hy442
 have H':=Aside0.mk H
 clear H
 go_enter Try.func54,Try.ntmps54
 go_wp2_with (first|((with_reducible refine gate_dst (N:=4) rfl ?_);refine bxE (cs:=#[.int .i64 a1_0,.int .i64 a1_1,.int .i64 a1_2]) (t:=53) ?_;intro gb441 hg w4 hbox hb;have BK441:=Aside0.mk hbox;have GW441:=sA hg;have GE441:=sA hg;replace HB:=lB hb;clear hb hbox hg)|((with_reducible refine gate_dst (N:=12) rfl ?_);refine Kd.R_lit k53 _ 53 ?hg (N:=12) ?hd (xs:=([]:List (S53))) (inner:=[]) (ok:=fun _=>True) (okp:=fun _=>True) ?hr ?hp (fun _ hk=>hk) trivial (Below.refl _ _) (Nat.le_refl _) (by simp) ?_;(case hd=>rfl);(case hg=>rfl);(case hr=>first|(go_simp;done)|(go_simp;rfl));(case hp=>exact (Reps.none _ _));intro v443 w5 ho6 hb hg_ hnew_;clear hg_ hnew_;(first|rw [← Ny442.out] at ho6|(simp only [Int.reduceToNat] at ho6;rw [← Ny442.out] at ho6));have HO444:=Aside0.mk (Kd.R_lower (Kd.R_newB ho6 (bkA BK441)) (below_size blA));replace BK441:=kB BK441 hb;replace HB:=lB hb;clear hb ho6))
 go_loopg [8,9] k (fun kq v8 v9 w'=>∃ (x8_1:List (S53)) (x9_1:Int),v9=.int .i64 x9_1∧Aside0 (impl_someNeighbours.l0 kq a0 x8_1 x9_1 a1_0 a1_1 a1_2=some (r1,r2))∧Aside0 (kq≤k)∧Aside0 (Kd.R k53 53 w' w.heap.size (fun k_=>k_≠gb441) v8 x8_1)∧Aside0 (w'.heap[gb441]?=some (.cells #[.int .i64 a1_0,.int .i64 a1_1,.int .i64 a1_2] 53 (0,0)))∧Aside0 (Below w.heap.size w w'))
 case atStart=>exact ⟨(y442),(a2),hB,H',⟨Nat.le_refl _⟩,⟨by (with_reducible repeat (first|apply Kd.R_alloc|apply Kd.R_drewN|apply Kd.R_drew));exact Kd.R_mono HO444.out (fun _ hk=>hk.2)⟩,⟨bkA BK441⟩,⟨blA⟩⟩
 case round=>
  clear H'
  obtain ⟨x8_1,x9_1,rfl,HA,HK1,HO_8,BK441,HB⟩:=hrel
  cases gk with
  | zero=>exact absurd HA.out (by simp [impl_someNeighbours.l0])
  | succ k1=>
   have H:=HA.out
   clear HA
   simp only [impl_someNeighbours.l0] at H
   by_cases c7:x9_1≤a0
   ·
    rw [if_pos c7] at H
    have c7b0:=decide_eq_true c7
    clear c7
    replace H:=bS H
    obtain ⟨⟨t445,t446,t447,t448⟩,A8,H⟩:=H
    try dsimp only at H
    by_cases c9:t448=true
    focus
     subst c9
     rw [if_pos rfl] at H
     try dsimp only at H
     by_cases c10:x8_1.length<5864062014805
     rotate_left
     ·
      rw [if_neg c10] at H
      exact absurd H (by simp)
     rw [if_pos c10] at H
     have LMc10:=Aside0.mk c10
     clear c10
     obtain ⟨y450,hy450⟩:∃ y_:List (S53),y_=(x8_1 ++ [(⟨t445,t446,t447⟩:S53)]):=⟨_,rfl⟩
     replace H:(impl_someNeighbours.l0 k1 a0 y450 (wrap64 (x9_1+1)) a1_0 a1_1 a1_2)=some (r1,r2):=rH hy450 H
     have Ny450:=Aside0.mk hy450
     clear hy450
     have H':=Aside0.mk H
     clear H
     obtain ⟨hcz11_0,hcz11_1,hcz11_2,hfz11_0,hfz11_1,hfz11_2⟩:=cz3 BK441
    rotate_left
    focus
     replace c9:=Bool.eq_false_iff.mpr c9
     subst c9
     rw [if_neg (show ¬ (false=true) by decide)] at H
     try dsimp only at H
     simp only [Option.some.injEq,Prod.mk.injEq] at H
     obtain ⟨rfl,rfl⟩:=H
     obtain ⟨hcz17_0,hcz17_1,hcz17_2,hfz17_0,hfz17_1,hfz17_2⟩:=cz3 BK441
    rotate_left
    all_goals
     go_wp2_with (first|((with_reducible refine gd 23 rfl ?_);refine gC (some 23) rfl Try.func69 (impl_neighbour.calls (w:=_) (h:=A8.out)) ?_;intro w12 hb;replace HO_8:=Aside0.mk (Kd.R_below (rA HO_8) hb);replace BK441:=kB BK441 hb;replace HB:=lB hb;clear hb)|((with_reducible refine gate_dst (N:=10) rfl ?_);refine bxE (cs:=#[.int .i64 0,.int .i64 0,.int .i64 0]) (t:=53) ?_;intro gb449 hg w13 hbox hb;have BK449:=Aside0.mk hbox;have GW449:=sA hg;have GE449:=sA hg;have NB441_449:=nA hg BK441;have NB449_441:=nB hg BK441;replace HO_8:=Aside0.mk (Kd.R_below (Kd.R_elderB (rA HO_8) gb449 (Nat.le_of_eq hg.symm)) hb);replace BK441:=kB BK441 hb;replace HB:=lB hb;clear hb hbox hg;have hnb14:=NB449_441.out;have hnc14:=NB441_449.out;obtain ⟨hcz15_0,hcz15_1,hcz15_2,hfz15_0,hfz15_1,hfz15_2⟩:=cz3 BK449)|((with_reducible refine gate_builtin (b:=.append) (xs:=#[.tmp 28,.tmp 30]) rfl ?_);at_builtin;refine Kd.R_append k53 (w0:=w) w.heap.size rfl (.tmp 28) (.tmp 30) 38 53 (.agg #[(.int .i64 0),(.int .i64 0),(.int .i64 0)]) 24 rfl Try.underlying38 info53 rfl (by decide) (by omega) u8 x8_1 (⟨t445,t446,t447⟩:S53) [.int .i64 t445,.int .i64 t446,.int .i64 t447] (fun k_=>k_≠gb441∧k_≠gb449) (fun _=>False) rfl (by first|(go_simp;done)|(go_simp;rfl)) ?aP (fun _ hk=>hk.elim) ?aF ?aO ?aB ?aS ?aL ?_;(case aP=>exact k53_mkM _ _ _ (⟨t445,t446,t447⟩:S53));(case aB=>exact blA);(case aF=>exact (fun k_ hk=>⟨Kd.freshB (g:=gb441) (o:=.cells #[.int .i64 a1_0,.int .i64 a1_1,.int .i64 a1_2] 53 (0,0)) (bkF BK441) k_ hk,Kd.freshB (g:=gb449) (o:=.cells #[.int .i64 t445,.int .i64 t446,.int .i64 t447] 53 (0,0)) (bpA BK449) k_ hk⟩));(case aO=>exact (by (with_reducible repeat (first|apply Kd.R_alloc|apply Kd.R_drewN|apply Kd.R_drew));exact Kd.R_mono (Kd.R_far (p:=⟨gb449,2,none⟩) (Kd.R_far (p:=⟨gb449,1,none⟩) (Kd.R_far (p:=⟨gb449,0,none⟩) (Kd.R_mono HO_8.out (fun k_ hk=>(⟨hk,hk.2⟩:_∧k_≠gb449))) (fun _ hk=>hk.2) (.int .i64 t445)) (fun _ hk=>hk.2) (.int .i64 t446)) (fun _ hk=>hk.2) (.int .i64 t447)) (fun _ hk=>⟨hk.1.1,hk.1.2⟩)));(case aS=>exact (below_size blA));(case aL=>have:=LMc10.out;omega);intro v451 w16 ho hb hg hat;rw [← Ny450.out] at ho;have n0_:=Aside0.mk (blk_grown (g:=gb441) (o:=.cells #[.int .i64 a1_0,.int .i64 a1_1,.int .i64 a1_2] 53 (0,0)) (bkF BK441) hg (Kd.R_away HO_8.out (fun _ hk=>hk.1)));have n1_:=Aside0.mk (blk_grown (g:=gb449) (o:=.cells #[.int .i64 t445,.int .i64 t446,.int .i64 t447] 53 (0,0)) (bpA BK449) hg (Kd.R_away HO_8.out (fun _ hk=>hk.2)));have n2_:=Aside0.mk hb;have n3_:=Aside0.mk ho;clear BK441;clear BK449;clear HB;clear HO_8;have BK441:=n0_;have BK449:=n1_;have HB:=n2_;have HO452:=n3_;clear n0_ n1_ n2_ n3_;clear ho hb hg hat))
    ·
     go_roundg k1
     case measure=>have:=HK1.out;omega
     case rel=>exact ⟨(y450),(wrap64 (x9_1+1)),hB,H',⟨by have:=HK1.out;omega⟩,⟨by (with_reducible repeat (first|apply Kd.R_alloc|apply Kd.R_drewN|apply Kd.R_drew));exact Kd.R_mono HO452.out (fun _ hk=>hk.1)⟩,⟨bkA BK441⟩,⟨blA⟩⟩
    ·
     go_ret2
     exact ⟨_,eW,nlA,blA⟩
   ·
    rw [if_neg c7] at H
    have c7b0:=decide_eq_false c7
    clear c7
    simp only [Option.some.injEq,Prod.mk.injEq] at H
    obtain ⟨rfl,rfl⟩:=H
    go_wp2
    go_ret2
    exact ⟨_,eW,by (with_reducible repeat (first|apply Kd.R_alloc|apply Kd.R_drewN|apply Kd.R_drew));exact Kd.R_mono HO_8.out (fun _ hk=>trivial),blA⟩
end Go.Proofs.Ytnhiehpbkimaeaa.PAll
