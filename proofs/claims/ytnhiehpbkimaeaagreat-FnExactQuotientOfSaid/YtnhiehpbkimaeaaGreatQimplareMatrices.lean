import Derived.Test.YtnhiehpbkimaeaaGreatQx
import Derived.Test.YtnhiehpbkimaeaaGreatQcmpisNaNint64
import Derived.Test.YtnhiehpbkimaeaaGreatQimplofMark
namespace Go.Proofs.YtnhiehpbkimaeaaGreat.PAll
open Go.RowKit Go.Proofs.YtnhiehpbkimaeaaGreatW.PrintWords Go.Proofs.YtnhiehpbkimaeaaGreatW.PrintLast Go.Proofs.YtnhiehpbkimaeaaGreatW.PrintMore
attribute [local go_sem] Go.Proofs.YtnhiehpbkimaeaaGreat.Aux.setCell_drewN Go.Proofs.YtnhiehpbkimaeaaGreat.Aux.isSome_setCell cC b9 cQ cP bm bl cB b8
set_option linter.unusedVariables false
set_option linter.unusedSimpArgs false
mutual
def aT.j0:Nat→Int→Int→Bool→Int→Int→Int→Int→Int→Int→Int→Int→Int→Int→Int→Option (Int × Int × Int × Bool)
 | 0,_,_,_,_,_,_,_,_,_,_,_,_,_,_=>none
 | k+1,x0,x8,x91,x240000,x240001,x240002,x240003,x241000,x241001,x241002,x246000,x246001,x247000,x247001=>if x91=true then (aT.j1 k x0 x8 x240000 x240001 x240002 x240003 x241000 x241001 x241002 x246000 x246001) else (aT.j1 k x0 x8 x240000 x240001 x240002 x240003 x241000 x241001 x241002 x247000 x247001)
def aT.j1:Nat→Int→Int→Int→Int→Int→Int→Int→Int→Int→Int→Int→Option (Int × Int × Int × Bool)
 | 0,_,_,_,_,_,_,_,_,_,_,_=>none
 | k+1,x0,x8,x240000,x240001,x240002,x240003,x241000,x241001,x241002,x247000,x247001=>(dR.f x240000 x240001 x240002 x240003).bind fun t249=>((ak.f k x0 t249).bind fun t250=>((ak.f k x0 x247001).bind fun t251=>((bf.f k x0 x247000 x247001 (wrap64 ((wrap64 ((wrap64 (t250+x241000))+(wrap64 (2*x8)))) - (wrap64 (2*t251))))).bind fun bt252=>(some (bt252.1,bt252.2.1,bt252.2.2.1,bt252.2.2.2)))))
end
def aT.f (k:Nat) (a0 a1_0 a1_1 a1_2 a1_3 a2_0 a2_1 a2_2:Int):Option (Int × Int × Int × Bool):=(aJ.f k a0 (wrap64 (a2_0+(mx a2_2 (wrap64 (-a2_0)))))).bind fun t242=>((aJ.f k a0 (mx a2_2 (wrap64 (-a2_0)))).bind fun t243=>((aJ.f k a0 (wrap64 ((mx a2_2 (wrap64 (-a2_0))) - a2_2))).bind fun t244=>(if (wrap64 ((wrap64 (a1_2*(wrap64 (a2_1*t244))))+(wrap64 (a1_3*t243))))=0 then (aT.j0 k a0 (mx a2_2 (wrap64 (-a2_0))) true a1_0 a1_1 a1_2 a1_3 a2_0 a2_1 a2_2 (wrap64 (a1_0*t242)) (wrap64 (a1_2*t242)) (wrap64 ((wrap64 (a1_0*(wrap64 (a2_1*t244))))+(wrap64 (a1_1*t243)))) (wrap64 ((wrap64 (a1_2*(wrap64 (a2_1*t244))))+(wrap64 (a1_3*t243))))) else (if (wrap64 (a1_2*t242))=0 then (aT.j0 k a0 (mx a2_2 (wrap64 (-a2_0))) false a1_0 a1_1 a1_2 a1_3 a2_0 a2_1 a2_2 (wrap64 (a1_0*t242)) (wrap64 (a1_2*t242)) (wrap64 ((wrap64 (a1_0*(wrap64 (a2_1*t244))))+(wrap64 (a1_1*t243)))) (wrap64 ((wrap64 (a1_2*(wrap64 (a2_1*t244))))+(wrap64 (a1_3*t243))))) else ((ak.f k a0 (wrap64 ((wrap64 (a1_2*(wrap64 (a2_1*t244))))+(wrap64 (a1_3*t243))))).bind fun t247=>((ak.f k a0 (wrap64 (a1_2*t242))).bind fun t248=>(aT.j0 k a0 (mx a2_2 (wrap64 (-a2_0))) (decide (t247>t248)) a1_0 a1_1 a1_2 a1_3 a2_0 a2_1 a2_2 (wrap64 (a1_0*t242)) (wrap64 (a1_2*t242)) (wrap64 ((wrap64 (a1_0*(wrap64 (a2_1*t244))))+(wrap64 (a1_1*t243)))) (wrap64 ((wrap64 (a1_2*(wrap64 (a2_1*t244))))+(wrap64 (a1_3*t243)))))))))))
def aT.T3:Bool × List (List Nat × List Nat):=(true,[([],[]),([0],[0]),([],[]),([],[]),([],[]),([4],[4]),([3,5],[3,5]),([2,6],[2,6]),([1,7],[1,7]),([8,7,0,1,2,3,4,5,6,7,8],[8])])
def aT.B3:List Nat:=[0,1,0,0,0,16,56,124,255,511]
theorem aT.tab3:cZ .any (dL Tryz.f63 3)=aT.T3:=by kernel_rfl
theorem aT.bits3:bq aT.T3.2 aT.B3=true:=by kernel_rfl
def aT.T6:Bool × List (List Nat × List Nat):=(true,[([],[]),([0],[0]),([1],[1]),([2],[2]),([3],[3]),([4,3],[3,4]),([5,3],[3,5]),([6,3,3],[3,6]),([7],[7]),([7],[7]),([9,7],[7,9]),([8,10,7,7],[7,8,10]),([7],[7]),([7],[7]),([13,7],[7,13]),([12,14,11,7],[7,12,14]),([11,15,7],[7,11,15]),([7,16,3],[3,7,16]),([3,17],[3,17])])
def aT.B6:List Nat:=[0,1,3,7,15,31,63,127,255,255,767,2047,255,255,8447,32767,65535,131071,262143]
theorem aT.tab6:cZ .any (dL Tryz.f63 6)=aT.T6:=by kernel_rfl
theorem aT.bits6:bq aT.T6.2 aT.B6=true:=by kernel_rfl
def aT.T8:Bool × List (List Nat × List Nat):=(true,[([],[]),([],[]),([1],[1]),([0,2,2],[0,2]),([],[]),([4],[4]),([3,5],[3,5]),([],[]),([7],[7]),([6,8],[6,8]),([],[]),([],[]),([11],[11]),([10,12,3],[10,12]),([13],[13]),([9,14],[9,14]),([15,13,0,1,2,3,4,5,6,7,8,9,10,11,12,13,14,15],[15])])
def aT.B8:List Nat:=[0,0,2,7,0,16,63,0,128,511,0,0,2048,7183,15375,32767,65535]
theorem aT.tab8:cZ .any (dL Tryz.f63 8)=aT.T8:=by kernel_rfl
theorem aT.bits8:bq aT.T8.2 aT.B8=true:=by kernel_rfl
set_option maxHeartbeats 8000000 in
set_option maxRecDepth 100000 in
theorem aT.calls (k:Nat) (a0 a1_0 a1_1 a1_2 a1_3 a2_0 a2_1 a2_2 r1 r2 r3:Int) (r4:Bool) (w:World) (h:aT.f k a0 a1_0 a1_1 a1_2 a1_3 a2_0 a2_1 a2_2=some (r1,r2,r3,r4)) :
  Calls Tryz.prog 63 #[.int .i64 a0,.agg #[.int .i64 a1_0,.int .i64 a1_1,.int .i64 a1_2,.int .i64 a1_3],.agg #[.int .i64 a2_0,.int .i64 a2_1,.int .i64 a2_2]] w fun e w'=>e=.returned (.tuple #[.agg #[.int .i64 r1,.int .i64 r2,.int .i64 r3],.bool r4])∧Below w.heap.size w w':=by
 have hu59:=Tryz.underlying59
 have hu43:=Tryz.underlying43
 have hu57:=Tryz.underlying57
 have HB:=aA.mk (Below.refl w.heap.size w)
 have H:=h
 unfold aT.f at H
 clear h
 obtain ⟨ji4,hji4⟩:∃ j_:Int,(mx a2_2 (wrap64 (-a2_0)))=j_:=⟨_,rfl⟩
 replace H:((aJ.f k a0 (wrap64 (a2_0+(ji4)))).bind fun t242=>((aJ.f k a0 (ji4)).bind fun t243=>((aJ.f k a0 (wrap64 ((ji4) - a2_2))).bind fun t244=>(if (wrap64 ((wrap64 (a1_2*(wrap64 (a2_1*t244))))+(wrap64 (a1_3*t243))))=0 then (aT.j0 k a0 ji4 true a1_0 a1_1 a1_2 a1_3 a2_0 a2_1 a2_2 (wrap64 (a1_0*t242)) (wrap64 (a1_2*t242)) (wrap64 ((wrap64 (a1_0*(wrap64 (a2_1*t244))))+(wrap64 (a1_1*t243)))) (wrap64 ((wrap64 (a1_2*(wrap64 (a2_1*t244))))+(wrap64 (a1_3*t243))))) else (if (wrap64 (a1_2*t242))=0 then (aT.j0 k a0 ji4 false a1_0 a1_1 a1_2 a1_3 a2_0 a2_1 a2_2 (wrap64 (a1_0*t242)) (wrap64 (a1_2*t242)) (wrap64 ((wrap64 (a1_0*(wrap64 (a2_1*t244))))+(wrap64 (a1_1*t243)))) (wrap64 ((wrap64 (a1_2*(wrap64 (a2_1*t244))))+(wrap64 (a1_3*t243))))) else ((ak.f k a0 (wrap64 ((wrap64 (a1_2*(wrap64 (a2_1*t244))))+(wrap64 (a1_3*t243))))).bind fun t247=>((ak.f k a0 (wrap64 (a1_2*t242))).bind fun t248=>(aT.j0 k a0 ji4 (decide (t247>t248)) a1_0 a1_1 a1_2 a1_3 a2_0 a2_1 a2_2 (wrap64 (a1_0*t242)) (wrap64 (a1_2*t242)) (wrap64 ((wrap64 (a1_0*(wrap64 (a2_1*t244))))+(wrap64 (a1_1*t243)))) (wrap64 ((wrap64 (a1_2*(wrap64 (a2_1*t244))))+(wrap64 (a1_3*t243))))))))))))=some (r1,r2,r3,r4):=by first|(rw [hji4] at H;exact H)|(simp only [hji4] at H ⊢;exact H)
 have hji4_:(if a2_2<(wrap64 (-a2_0)) then (wrap64 (-a2_0)) else a2_2)=ji4:=hji4
 replace H:=bS H
 obtain ⟨t242,A5,H⟩:=H
 try dsimp only at H
 replace H:=bS H
 obtain ⟨t243,A6,H⟩:=H
 try dsimp only at H
 replace H:=bS H
 obtain ⟨t244,A7,H⟩:=H
 try dsimp only at H
 have HC8:=aA.mk H
 clear H
 go_enter Tryz.func63,Tryz.ntmps63
 try go_wp2_with (first|((with_reducible refine aN (N:=4) rfl ?_);refine bxE (cs:=#[.int .i64 a1_0,.int .i64 a1_1,.int .i64 a1_2,.int .i64 a1_3]) (t:=59) ?_;intro gb239 hg w9 hbox hb;have n0_:=lB hb;have n1_:=aA.mk hbox;have n2_:=sA hg;have n3_:=sA hg;clear HB;have HB:=n0_;have BK239:=n1_;have GW239:=n2_;have GE239:=n3_;clear n0_ n1_ n2_ n3_;clear hb hbox hg)|((with_reducible refine aN (N:=5) rfl ?_);refine bxE (cs:=#[.int .i64 a2_0,.int .i64 a2_1,.int .i64 a2_2]) (t:=43) ?_;intro gb240 hg w10 hbox hb;have n0_:=kB BK239 hb;have n1_:=lB hb;have n2_:=aA.mk hbox;have n3_:=sA hg;have n4_:=sA hg;have n5_:=nA hg BK239;have n6_:=nB hg BK239;clear BK239;clear HB;have BK239:=n0_;have HB:=n1_;have BK240:=n2_;have GW240:=n3_;have GE240:=n4_;have NB239_240:=n5_;have NB240_239:=n6_;clear n0_ n1_ n2_ n3_ n4_ n5_ n6_;clear hb hbox hg)|((with_reducible refine aN (N:=6) rfl ?_);refine bxE (cs:=#[.int .i64 0,.int .i64 0,.int .i64 0]) (t:=43) ?_;intro gb241 hg w11 hbox hb;have n0_:=kB BK239 hb;have n1_:=kB BK240 hb;have n2_:=lB hb;have n3_:=aA.mk hbox;have n4_:=sA hg;have n5_:=sA hg;have n6_:=nA hg BK239;have n7_:=nB hg BK239;have n8_:=nA hg BK240;have n9_:=nB hg BK240;clear BK239;clear BK240;clear HB;have BK239:=n0_;have BK240:=n1_;have HB:=n2_;have BK241:=n3_;have GW241:=n4_;have GE241:=n5_;have NB239_241:=n6_;have NB241_239:=n7_;have NB240_241:=n8_;have NB241_240:=n9_;clear n0_ n1_ n2_ n3_ n4_ n5_ n6_ n7_ n8_ n9_;clear hb hbox hg;have hnb12:=NB240_239.out;have hnc12:=NB239_240.out;have hnb13:=NB240_241.out;have hnc13:=NB241_240.out;obtain ⟨hcz14_0,hcz14_1,hcz14_2,hfz14_0,hfz14_1,hfz14_2⟩:=cz3 BK240)|((with_reducible refine a6 (f:=82) rfl ?_);refine eq (some 26) rfl rfl Tryz.func82 (by kernel_rfl) rfl #[.int .i64 a0,.int .i64 (wrap64 (a2_0+(ji4)))] rfl (by (try simp only [List.map_toArray,List.map_cons,List.map_nil]);first|done|(simp only [hji4];rfl)|rfl|(simp only [List.length_drop,List.length_take];rfl)) ?_;(with_reducible refine (aJ.calls k a0 (wrap64 (a2_0+(ji4))) t242 _ A5.out).mono ?_);rintro e w' ⟨rfl,⟨nd,rfl⟩⟩;refine ⟨_,rfl,?_⟩;(try (rw [bh w11];generalize hq_:World.drewN w11 _=w11;have n0_:aA (w11.heap[gb239]?=some (.cells #[.int .i64 a1_0,.int .i64 a1_1,.int .i64 a1_2,.int .i64 a1_3] 59 (0,0))):=⟨by rw [← hq_];exact (bkA BK239)⟩;have n1_:aA (w11.heap[gb240]?=some (.cells #[.int .i64 a2_0,.int .i64 a2_1,.int .i64 a2_2] 43 (0,0))):=⟨by rw [← hq_];exact (bkA BK240)⟩;have n2_:aA (w11.heap[gb241]?=some (.cells #[.int .i64 0,.int .i64 0,.int .i64 0] 43 (0,0))):=⟨by rw [← hq_];exact (bkA BK241)⟩;have n3_:aA (Below w.heap.size w w11):=⟨by rw [← hq_];exact blA⟩;clear BK239 BK240 BK241 HB hq_;have BK239:=n0_;have BK240:=n1_;have BK241:=n2_;have HB:=n3_;clear n0_ n1_ n2_ n3_)))|((with_reducible refine a6 (f:=82) rfl ?_);refine eq (some 29) rfl rfl Tryz.func82 (by kernel_rfl) rfl #[.int .i64 a0,.int .i64 ji4] rfl (by (try simp only [List.map_toArray,List.map_cons,List.map_nil]);first|done|(simp only [hji4];rfl)|rfl|(simp only [List.length_drop,List.length_take];rfl)) ?_;(with_reducible refine (aJ.calls k a0 ji4 t243 _ A6.out).mono ?_);rintro e w' ⟨rfl,⟨nd,rfl⟩⟩;refine ⟨_,rfl,?_⟩;(try (rw [bh w11];generalize hq_:World.drewN w11 _=w11;have n0_:aA (w11.heap[gb239]?=some (.cells #[.int .i64 a1_0,.int .i64 a1_1,.int .i64 a1_2,.int .i64 a1_3] 59 (0,0))):=⟨by rw [← hq_];exact (bkA BK239)⟩;have n1_:aA (w11.heap[gb240]?=some (.cells #[.int .i64 a2_0,.int .i64 a2_1,.int .i64 a2_2] 43 (0,0))):=⟨by rw [← hq_];exact (bkA BK240)⟩;have n2_:aA (w11.heap[gb241]?=some (.cells #[.int .i64 0,.int .i64 0,.int .i64 0] 43 (0,0))):=⟨by rw [← hq_];exact (bkA BK241)⟩;have n3_:aA (Below w.heap.size w w11):=⟨by rw [← hq_];exact blA⟩;clear BK239 BK240 BK241 HB hq_;have BK239:=n0_;have BK240:=n1_;have BK241:=n2_;have HB:=n3_;clear n0_ n1_ n2_ n3_))))
 have n0_:=aA.mk (ac BK239.out)
 have n1_:=aA.mk (ac BK240.out)
 have n2_:=aA.mk (ac BK241.out)
 have n3_:=aA.mk (al HB.out)
 clear BK239
 clear BK240
 clear BK241
 clear HB
 have BK239:=n0_
 have BK240:=n1_
 have BK241:=n2_
 have HB:=n3_
 clear n0_ n1_ n2_ n3_
 refine b7 (n:=10) (S:=fun w'=>w'.cell? ⟨gb240,0,none⟩=some (.int .i64 a2_0)∧w'.cell? ⟨gb240,1,none⟩=some (.int .i64 a2_1)∧w'.cell? ⟨gb240,2,none⟩=some (.int .i64 a2_2)) (ds:=[]) #[Z,Z,Z,Z,Z,Z,Z,Z,Z,Z] (by kernel_rfl) rfl rfl ⟨cA BK240 0,cA BK240 1,cA BK240 2⟩ (fun hHeld=>?_);refine bT aT.tab3 aT.bits3 (fun HT_ HW_=>?_)
 generalize w11.drew=w15 at BK239 BK240 BK241 HB hHeld ⊢
 refine puA (i:=0) (N:=some 30) #[Y,Z,Z,Z,Z,Z,Z,Z,Z,Z] rfl rfl HT_ ?_
 refine puA (i:=2) (N:=some 32) #[Y,Z,Y,Z,Z,Z,Z,Z,Z,Z] rfl rfl HT_ ?_
 refine puA (i:=3) (N:=some 33) #[Y,Z,Y,Y,Z,Z,Z,Z,Z,Z] rfl rfl HT_ ?_
 refine puA (i:=4) (N:=some 34) #[Y,Z,Y,Y,Y,Z,Z,Z,Z,Z] rfl rfl HT_ ?_
 refine taA (i:=1) (N:=some 31) #[Y,Y,Y,Y,Y,Z,Z,Z,Z,Z] rfl rfl HT_ HW_ hHeld ?_
 refine taA (i:=5) (N:=some 35) #[Y,Y,Y,Y,Y,Y,Z,Z,Z,Z] rfl rfl HT_ HW_ hHeld ?_
 refine puA (i:=6) (N:=some 36) #[Y,Y,Y,Y,Y,Y,Y,Z,Z,Z] rfl rfl HT_ ?_
 refine cV (i:=7) (N:=some 37) #[Y,Y,Y,Y,Y,Y,Y,Y,Z,Z] rfl rfl (bX HT_.out (by kernel_rfl)) (by decide) (fun K hK=>?_)
 refine d9 Tryz.func82 (by kernel_rfl) rfl #[.int .i64 a0,.int .i64 (wrap64 ((ji4) - a2_2))] (by rfl) rfl rfl (by (try simp only [List.map_toArray,List.map_cons,List.map_nil]);first|done|(simp only [hji4];rfl)|rfl|(simp only [List.length_drop,List.length_take];rfl)) ?_
 with_reducible refine (aJ.calls k a0 (wrap64 ((ji4) - a2_2)) t244 _ A7.out).mono ?_
 rintro e w' ⟨rfl,⟨nd,rfl⟩⟩
 refine ⟨_,rfl,?_⟩
 refine hK.out _ _ ⟨cA BK240 0,cA BK240 1,cA BK240 2⟩ (fun hHeld=>?_)
 clear hK K
 refine nmA ?_
 refine puA (i:=8) (N:=some 38) #[Y,Y,Y,Y,Y,Y,Y,Y,Y,Z] rfl rfl HT_ ?_
 refine puA (i:=9) (N:=some 11) #[Y,Y,Y,Y,Y,Y,Y,Y,Y,Y] rfl rfl HT_ ?_
 refine cg (br HT_.out (by kernel_rfl)) ?_
 have hnb16:=NB239_241.out
 have hnc16:=NB241_239.out
 obtain ⟨hcz17_0,hcz17_1,hcz17_2,hcz17_3,hfz17_0,hfz17_1,hfz17_2,hfz17_3⟩:=cz4 BK239
 go_upto_region 6 with (first|((with_reducible refine aN (N:=12) rfl ?_);refine bxE (cs:=#[.int .i64 0,.int .i64 0]) (t:=57) ?_;intro gb245 hg w18 hbox hb;have n0_:=kB BK239 hb;have n1_:=kB BK240 hb;have n2_:=kB BK241 hb;have n3_:=lB hb;have n4_:=aA.mk hbox;have n5_:=sA hg;have n6_:=sA hg;have n7_:=nA hg BK239;have n8_:=nB hg BK239;have n9_:=nA hg BK240;have n10_:=nB hg BK240;have n11_:=nA hg BK241;have n12_:=nB hg BK241;clear BK239;clear BK240;clear BK241;clear HB;have BK239:=n0_;have BK240:=n1_;have BK241:=n2_;have HB:=n3_;have BK245:=n4_;have GW245:=n5_;have GE245:=n6_;have NB239_245:=n7_;have NB245_239:=n8_;have NB240_245:=n9_;have NB245_240:=n10_;have NB241_245:=n11_;have NB245_241:=n12_;clear n0_ n1_ n2_ n3_ n4_ n5_ n6_ n7_ n8_ n9_ n10_ n11_ n12_;clear hb hbox hg;have hnb19:=NB245_239.out;have hnc19:=NB239_245.out;have hnb20:=NB245_240.out;have hnc20:=NB240_245.out;have hnb21:=NB245_241.out;have hnc21:=NB241_245.out;obtain ⟨hcz22_0,hcz22_1,hfz22_0,hfz22_1⟩:=cz2 BK245;obtain ⟨hcz23_0,hcz23_1,hcz23_2,hcz23_3,hfz23_0,hfz23_1,hfz23_2,hfz23_3⟩:=cz4 BK239)|((with_reducible refine aN (N:=13) rfl ?_);refine bxE (cs:=#[.int .i64 0,.int .i64 0]) (t:=57) ?_;intro gb246 hg w24 hbox hb;have n0_:=aA.mk (bL (g:=gb239) (o:=.cells #[.int .i64 a1_0,.int .i64 a1_1,.int .i64 a1_2,.int .i64 a1_3] 59 (0,0)) (bkF BK239) hb);have n1_:=aA.mk (bL (g:=gb240) (o:=.cells #[.int .i64 a2_0,.int .i64 a2_1,.int .i64 a2_2] 43 (0,0)) (bkF BK240) hb);have n2_:=aA.mk (bL (g:=gb241) (o:=.cells #[.int .i64 0,.int .i64 0,.int .i64 0] 43 (0,0)) (bkF BK241) hb);have n3_:=aA.mk (bL (g:=gb245) (o:=.cells #[.int .i64 (wrap64 (a1_0*t242)),.int .i64 (wrap64 (a1_2*t242))] 57 (0,0)) (bpA BK245) hb);have n4_:=lB hb;have n5_:=aA.mk hbox;have n6_:=sA hg;have n7_:=sA hg;have n8_:=aA.mk ((by rw [hg];exact Nat.ne_of_lt (cO (g:=gb239) (o:=.cells #[.int .i64 a1_0,.int .i64 a1_1,.int .i64 a1_2,.int .i64 a1_3] 59 (0,0)) (bkF BK239)):gb239≠gb246));have n9_:=aA.mk ((by rw [hg];exact Nat.ne_of_gt (cO (g:=gb239) (o:=.cells #[.int .i64 a1_0,.int .i64 a1_1,.int .i64 a1_2,.int .i64 a1_3] 59 (0,0)) (bkF BK239)):gb246≠gb239));have n10_:=aA.mk ((by rw [hg];exact Nat.ne_of_lt (cO (g:=gb240) (o:=.cells #[.int .i64 a2_0,.int .i64 a2_1,.int .i64 a2_2] 43 (0,0)) (bkF BK240)):gb240≠gb246));have n11_:=aA.mk ((by rw [hg];exact Nat.ne_of_gt (cO (g:=gb240) (o:=.cells #[.int .i64 a2_0,.int .i64 a2_1,.int .i64 a2_2] 43 (0,0)) (bkF BK240)):gb246≠gb240));have n12_:=aA.mk ((by rw [hg];exact Nat.ne_of_lt (cO (g:=gb241) (o:=.cells #[.int .i64 0,.int .i64 0,.int .i64 0] 43 (0,0)) (bkF BK241)):gb241≠gb246));have n13_:=aA.mk ((by rw [hg];exact Nat.ne_of_gt (cO (g:=gb241) (o:=.cells #[.int .i64 0,.int .i64 0,.int .i64 0] 43 (0,0)) (bkF BK241)):gb246≠gb241));have n14_:=aA.mk ((by rw [hg];exact Nat.ne_of_lt (cO (g:=gb245) (o:=.cells #[.int .i64 (wrap64 (a1_0*t242)),.int .i64 (wrap64 (a1_2*t242))] 57 (0,0)) (bpA BK245)):gb245≠gb246));have n15_:=aA.mk ((by rw [hg];exact Nat.ne_of_gt (cO (g:=gb245) (o:=.cells #[.int .i64 (wrap64 (a1_0*t242)),.int .i64 (wrap64 (a1_2*t242))] 57 (0,0)) (bpA BK245)):gb246≠gb245));clear BK239;clear BK240;clear BK241;clear BK245;clear HB;have BK239:=n0_;have BK240:=n1_;have BK241:=n2_;have BK245:=n3_;have HB:=n4_;have BK246:=n5_;have GW246:=n6_;have GE246:=n7_;have NB239_246:=n8_;have NB246_239:=n9_;have NB240_246:=n10_;have NB246_240:=n11_;have NB241_246:=n12_;have NB246_241:=n13_;have NB245_246:=n14_;have NB246_245:=n15_;clear n0_ n1_ n2_ n3_ n4_ n5_ n6_ n7_ n8_ n9_ n10_ n11_ n12_ n13_ n14_ n15_;clear hb hbox hg;have hnb25:=NB246_239.out;have hnc25:=NB239_246.out;have hnb26:=NB246_240.out;have hnc26:=NB240_246.out;have hnb27:=NB246_241.out;have hnc27:=NB241_246.out;have hnb28:=NB246_245.out;have hnc28:=NB245_246.out;obtain ⟨hcz29_0,hcz29_1,hfz29_0,hfz29_1⟩:=cz2 BK246))
 (try simp only [Act.put,List.setIfInBounds_toArray,List.set_cons_zero,List.set_cons_succ])
 go_cut [91] (fun v91 wc=>∃ (kq:Nat) (x91_7:Bool),v91=.bool x91_7∧aA (aT.j0 kq a0 ji4 x91_7 a1_0 a1_1 a1_2 a1_3 a2_0 a2_1 a2_2 (wrap64 (a1_0*t242)) (wrap64 (a1_2*t242)) (wrap64 ((wrap64 (a1_0*(wrap64 (a2_1*t244))))+(wrap64 (a1_1*t243)))) (wrap64 ((wrap64 (a1_2*(wrap64 (a2_1*t244))))+(wrap64 (a1_3*t243))))=some (r1,r2,r3,r4))∧aA (kq≤k)∧aA (wc.heap[gb239]?=some (.cells #[.int .i64 a1_0,.int .i64 a1_1,.int .i64 a1_2,.int .i64 a1_3] 59 (0,0)))∧aA (wc.heap[gb240]?=some (.cells #[.int .i64 a2_0,.int .i64 a2_1,.int .i64 a2_2] 43 (0,0)))∧aA (wc.heap[gb241]?=some (.cells #[.int .i64 0,.int .i64 0,.int .i64 0] 43 (0,0)))∧aA (wc.heap[gb245]?=some (.cells #[.int .i64 (wrap64 (a1_0*t242)),.int .i64 (wrap64 (a1_2*t242))] 57 (0,0)))∧aA (wc.heap[gb246]?=some (.cells #[.int .i64 (wrap64 ((wrap64 (a1_0*(wrap64 (a2_1*t244))))+(wrap64 (a1_1*t243)))),.int .i64 (wrap64 ((wrap64 (a1_2*(wrap64 (a2_1*t244))))+(wrap64 (a1_3*t243))))] 57 (0,0)))∧aA (Below w.heap.size w wc))
 case first=>
  have H:=HC8.out
  clear HC8
  by_cases c30:(wrap64 ((wrap64 (a1_2*(wrap64 (a2_1*t244))))+(wrap64 (a1_3*t243))))=0
  ·
   rw [if_pos c30] at H
   have c30b0:((wrap64 ((wrap64 (a1_2*(wrap64 (a2_1*t244))))+(wrap64 (a1_3*t243)))) == 0)=true:=beq_iff_eq.mpr c30
   have c30b1:((wrap64 ((wrap64 (a1_2*(wrap64 (a2_1*t244))))+(wrap64 (a1_3*t243)))) != 0)=false:=bne_eq_false_iff_eq.mpr c30
   clear c30
   (first|rw [c30b0]|(simp only [dh,di];rw [c30b0])|skip)
   have H':=aA.mk H
   clear H
   try go_wp2
   have n0_:aA (((w24.setCell ⟨gb246,0,none⟩ (.int .i64 (wrap64 ((wrap64 (a1_0*(wrap64 (a2_1*t244))))+(wrap64 (a1_1*t243)))))).setCell ⟨gb246,1,none⟩ (.int .i64 (wrap64 ((wrap64 (a1_2*(wrap64 (a2_1*t244))))+(wrap64 (a1_3*t243)))))).heap[gb239]?=some (.cells #[.int .i64 a1_0,.int .i64 a1_1,.int .i64 a1_2,.int .i64 a1_3] 59 (0,0))):=⟨bkF BK239⟩
   have n1_:aA (((w24.setCell ⟨gb246,0,none⟩ (.int .i64 (wrap64 ((wrap64 (a1_0*(wrap64 (a2_1*t244))))+(wrap64 (a1_1*t243)))))).setCell ⟨gb246,1,none⟩ (.int .i64 (wrap64 ((wrap64 (a1_2*(wrap64 (a2_1*t244))))+(wrap64 (a1_3*t243)))))).heap[gb240]?=some (.cells #[.int .i64 a2_0,.int .i64 a2_1,.int .i64 a2_2] 43 (0,0))):=⟨bkF BK240⟩
   have n2_:aA (((w24.setCell ⟨gb246,0,none⟩ (.int .i64 (wrap64 ((wrap64 (a1_0*(wrap64 (a2_1*t244))))+(wrap64 (a1_1*t243)))))).setCell ⟨gb246,1,none⟩ (.int .i64 (wrap64 ((wrap64 (a1_2*(wrap64 (a2_1*t244))))+(wrap64 (a1_3*t243)))))).heap[gb241]?=some (.cells #[.int .i64 0,.int .i64 0,.int .i64 0] 43 (0,0))):=⟨bkF BK241⟩
   have n3_:aA (((w24.setCell ⟨gb246,0,none⟩ (.int .i64 (wrap64 ((wrap64 (a1_0*(wrap64 (a2_1*t244))))+(wrap64 (a1_1*t243)))))).setCell ⟨gb246,1,none⟩ (.int .i64 (wrap64 ((wrap64 (a1_2*(wrap64 (a2_1*t244))))+(wrap64 (a1_3*t243)))))).heap[gb245]?=some (.cells #[.int .i64 (wrap64 (a1_0*t242)),.int .i64 (wrap64 (a1_2*t242))] 57 (0,0))):=⟨bkF BK245⟩
   have n4_:aA (((w24.setCell ⟨gb246,0,none⟩ (.int .i64 (wrap64 ((wrap64 (a1_0*(wrap64 (a2_1*t244))))+(wrap64 (a1_1*t243)))))).setCell ⟨gb246,1,none⟩ (.int .i64 (wrap64 ((wrap64 (a1_2*(wrap64 (a2_1*t244))))+(wrap64 (a1_3*t243)))))).heap[gb246]?=some (.cells #[.int .i64 (wrap64 ((wrap64 (a1_0*(wrap64 (a2_1*t244))))+(wrap64 (a1_1*t243)))),.int .i64 (wrap64 ((wrap64 (a1_2*(wrap64 (a2_1*t244))))+(wrap64 (a1_3*t243))))] 57 (0,0))):=⟨bpA BK246⟩
   have n5_:aA (Below w.heap.size w ((w24.setCell ⟨gb246,0,none⟩ (.int .i64 (wrap64 ((wrap64 (a1_0*(wrap64 (a2_1*t244))))+(wrap64 (a1_1*t243)))))).setCell ⟨gb246,1,none⟩ (.int .i64 (wrap64 ((wrap64 (a1_2*(wrap64 (a2_1*t244))))+(wrap64 (a1_3*t243))))))):=⟨blA⟩
   (try clear BK239)
   (try clear BK240)
   (try clear BK241)
   (try clear BK245)
   (try clear BK246)
   (try clear HB)
   generalize ((w24.setCell ⟨gb246,0,none⟩ (.int .i64 (wrap64 ((wrap64 (a1_0*(wrap64 (a2_1*t244))))+(wrap64 (a1_1*t243)))))).setCell ⟨gb246,1,none⟩ (.int .i64 (wrap64 ((wrap64 (a1_2*(wrap64 (a2_1*t244))))+(wrap64 (a1_3*t243))))))=w31 at n0_ n1_ n2_ n3_ n4_ n5_ ⊢
   have BK239:=n0_
   have BK240:=n1_
   have BK241:=n2_
   have BK245:=n3_
   have BK246:=n4_
   have HB:=n5_
   clear n0_ n1_ n2_ n3_ n4_ n5_
   have n0_:=aA.mk (ac BK239.out)
   have n1_:=aA.mk (ac BK240.out)
   have n2_:=aA.mk (ac BK241.out)
   have n3_:=aA.mk (ac BK245.out)
   have n4_:=aA.mk (ac BK246.out)
   have n5_:=aA.mk (al HB.out)
   clear BK239
   clear BK240
   clear BK241
   clear BK245
   clear BK246
   clear HB
   have BK239:=n0_
   have BK240:=n1_
   have BK241:=n2_
   have BK245:=n3_
   have BK246:=n4_
   have HB:=n5_
   clear n0_ n1_ n2_ n3_ n4_ n5_
   refine b7 (n:=19) (S:=fun w'=>w'.cell? ⟨gb246,0,none⟩=some (.int .i64 (wrap64 ((wrap64 (a1_0*(wrap64 (a2_1*t244))))+(wrap64 (a1_1*t243)))))∧w'.cell? ⟨gb246,1,none⟩=some (.int .i64 (wrap64 ((wrap64 (a1_2*(wrap64 (a2_1*t244))))+(wrap64 (a1_3*t243)))))) (ds:=[]) #[Z,Z,Z,Z,Z,Z,Z,Z,Z,Z,Z,Z,Z,Z,Z,Z,Z,Z,Z] (by kernel_rfl) rfl rfl ⟨cA BK246 0,cA BK246 1⟩ (fun hHeld=>?_);refine bT aT.tab6 aT.bits6 (fun HT_ HW_=>?_)
   generalize w31.drew=w32 at BK239 BK240 BK241 BK245 BK246 HB hHeld ⊢
   refine puA (i:=0) (N:=some 73) #[Y,Z,Z,Z,Z,Z,Z,Z,Z,Z,Z,Z,Z,Z,Z,Z,Z,Z,Z] rfl rfl HT_ ?_
   refine taA (i:=1) (N:=some 74) #[Y,Y,Z,Z,Z,Z,Z,Z,Z,Z,Z,Z,Z,Z,Z,Z,Z,Z,Z] rfl rfl HT_ HW_ hHeld ?_
   refine puA (i:=2) (N:=some 75) #[Y,Y,Y,Z,Z,Z,Z,Z,Z,Z,Z,Z,Z,Z,Z,Z,Z,Z,Z] rfl rfl HT_ ?_
   refine puA (i:=3) (N:=some 76) #[Y,Y,Y,Y,Z,Z,Z,Z,Z,Z,Z,Z,Z,Z,Z,Z,Z,Z,Z] rfl rfl HT_ ?_
   refine puU (i:=4) (N:=some 77) #[Y,Y,Y,Y,Y,Z,Z,Z,Z,Z,Z,Z,Z,Z,Z,Z,Z,Z,Z] rfl rfl HT_ ?_
   refine puU (i:=5) (N:=some 78) #[Y,Y,Y,Y,Y,Y,Z,Z,Z,Z,Z,Z,Z,Z,Z,Z,Z,Z,Z] rfl rfl HT_ ?_
   refine puU (i:=6) (N:=some 79) #[Y,Y,Y,Y,Y,Y,Y,Z,Z,Z,Z,Z,Z,Z,Z,Z,Z,Z,Z] rfl rfl HT_ ?_
   refine puU (i:=7) (N:=some 80) #[Y,Y,Y,Y,Y,Y,Y,Y,Z,Z,Z,Z,Z,Z,Z,Z,Z,Z,Z] rfl rfl HT_ ?_
   refine puU (i:=8) (N:=some 81) #[Y,Y,Y,Y,Y,Y,Y,Y,Y,Z,Z,Z,Z,Z,Z,Z,Z,Z,Z] rfl rfl HT_ ?_
   refine puU (i:=9) (N:=some 82) #[Y,Y,Y,Y,Y,Y,Y,Y,Y,Y,Z,Z,Z,Z,Z,Z,Z,Z,Z] rfl rfl HT_ ?_
   refine puU (i:=10) (N:=some 83) #[Y,Y,Y,Y,Y,Y,Y,Y,Y,Y,Y,Z,Z,Z,Z,Z,Z,Z,Z] rfl rfl HT_ ?_
   refine puU (i:=11) (N:=some 84) #[Y,Y,Y,Y,Y,Y,Y,Y,Y,Y,Y,Y,Z,Z,Z,Z,Z,Z,Z] rfl rfl HT_ ?_
   refine puU (i:=12) (N:=some 85) #[Y,Y,Y,Y,Y,Y,Y,Y,Y,Y,Y,Y,Y,Z,Z,Z,Z,Z,Z] rfl rfl HT_ ?_
   refine puU (i:=13) (N:=some 86) #[Y,Y,Y,Y,Y,Y,Y,Y,Y,Y,Y,Y,Y,Y,Z,Z,Z,Z,Z] rfl rfl HT_ ?_
   refine puU (i:=14) (N:=some 87) #[Y,Y,Y,Y,Y,Y,Y,Y,Y,Y,Y,Y,Y,Y,Y,Z,Z,Z,Z] rfl rfl HT_ ?_
   refine puU (i:=15) (N:=some 88) #[Y,Y,Y,Y,Y,Y,Y,Y,Y,Y,Y,Y,Y,Y,Y,Y,Z,Z,Z] rfl rfl HT_ ?_
   refine puU (i:=16) (N:=some 89) #[Y,Y,Y,Y,Y,Y,Y,Y,Y,Y,Y,Y,Y,Y,Y,Y,Y,Z,Z] rfl rfl HT_ ?_
   refine puU (i:=17) (N:=some 90) #[Y,Y,Y,Y,Y,Y,Y,Y,Y,Y,Y,Y,Y,Y,Y,Y,Y,Y,Z] rfl rfl HT_ ?_
   refine puA (i:=18) (N:=some 91) #[Y,Y,Y,Y,Y,Y,Y,Y,Y,Y,Y,Y,Y,Y,Y,Y,Y,Y,Y] rfl rfl HT_ ?_
   refine cg (br HT_.out (by kernel_rfl)) ?_
   try go_wp2
   go_meet
   case rel=>exact ⟨_,(true),hB,H',⟨by first|omega|exact Nat.le_refl _⟩,⟨bkA BK239⟩,⟨bkA BK240⟩,⟨bkA BK241⟩,⟨bkA BK245⟩,⟨bkA BK246⟩,⟨blA⟩⟩
  ·
   rw [if_neg c30] at H
   have c30b0:((wrap64 ((wrap64 (a1_2*(wrap64 (a2_1*t244))))+(wrap64 (a1_3*t243)))) == 0)=false:=beq_eq_false_iff_ne.mpr c30
   have c30b1:((wrap64 ((wrap64 (a1_2*(wrap64 (a2_1*t244))))+(wrap64 (a1_3*t243)))) != 0)=true:=bne_iff_ne.mpr c30
   (first|rw [c30b0]|(simp only [dh,di];rw [c30b0])|skip)
   by_cases c33:(wrap64 (a1_2*t242))=0
   focus
    rw [if_pos c33] at H
    have c33b0:((wrap64 (a1_2*t242)) == 0)=true:=beq_iff_eq.mpr c33
    have c33b1:((wrap64 (a1_2*t242)) != 0)=false:=bne_eq_false_iff_eq.mpr c33
    clear c33
    have H':=aA.mk H
    clear H
   rotate_left
   focus
    rw [if_neg c33] at H
    have c33b0:((wrap64 (a1_2*t242)) == 0)=false:=beq_eq_false_iff_ne.mpr c33
    have c33b1:((wrap64 (a1_2*t242)) != 0)=true:=bne_iff_ne.mpr c33
    replace H:=bS H
    obtain ⟨t247,A36,H⟩:=H
    try dsimp only at H
    replace H:=bS H
    obtain ⟨t248,A37,H⟩:=H
    try dsimp only at H
    have H':=aA.mk H
    clear H
   rotate_left
   all_goals
    try go_wp2
    have n0_:aA (((w24.setCell ⟨gb246,0,none⟩ (.int .i64 (wrap64 ((wrap64 (a1_0*(wrap64 (a2_1*t244))))+(wrap64 (a1_1*t243)))))).setCell ⟨gb246,1,none⟩ (.int .i64 (wrap64 ((wrap64 (a1_2*(wrap64 (a2_1*t244))))+(wrap64 (a1_3*t243)))))).heap[gb239]?=some (.cells #[.int .i64 a1_0,.int .i64 a1_1,.int .i64 a1_2,.int .i64 a1_3] 59 (0,0))):=⟨bkF BK239⟩
    have n1_:aA (((w24.setCell ⟨gb246,0,none⟩ (.int .i64 (wrap64 ((wrap64 (a1_0*(wrap64 (a2_1*t244))))+(wrap64 (a1_1*t243)))))).setCell ⟨gb246,1,none⟩ (.int .i64 (wrap64 ((wrap64 (a1_2*(wrap64 (a2_1*t244))))+(wrap64 (a1_3*t243)))))).heap[gb240]?=some (.cells #[.int .i64 a2_0,.int .i64 a2_1,.int .i64 a2_2] 43 (0,0))):=⟨bkF BK240⟩
    have n2_:aA (((w24.setCell ⟨gb246,0,none⟩ (.int .i64 (wrap64 ((wrap64 (a1_0*(wrap64 (a2_1*t244))))+(wrap64 (a1_1*t243)))))).setCell ⟨gb246,1,none⟩ (.int .i64 (wrap64 ((wrap64 (a1_2*(wrap64 (a2_1*t244))))+(wrap64 (a1_3*t243)))))).heap[gb241]?=some (.cells #[.int .i64 0,.int .i64 0,.int .i64 0] 43 (0,0))):=⟨bkF BK241⟩
    have n3_:aA (((w24.setCell ⟨gb246,0,none⟩ (.int .i64 (wrap64 ((wrap64 (a1_0*(wrap64 (a2_1*t244))))+(wrap64 (a1_1*t243)))))).setCell ⟨gb246,1,none⟩ (.int .i64 (wrap64 ((wrap64 (a1_2*(wrap64 (a2_1*t244))))+(wrap64 (a1_3*t243)))))).heap[gb245]?=some (.cells #[.int .i64 (wrap64 (a1_0*t242)),.int .i64 (wrap64 (a1_2*t242))] 57 (0,0))):=⟨bkF BK245⟩
    have n4_:aA (((w24.setCell ⟨gb246,0,none⟩ (.int .i64 (wrap64 ((wrap64 (a1_0*(wrap64 (a2_1*t244))))+(wrap64 (a1_1*t243)))))).setCell ⟨gb246,1,none⟩ (.int .i64 (wrap64 ((wrap64 (a1_2*(wrap64 (a2_1*t244))))+(wrap64 (a1_3*t243)))))).heap[gb246]?=some (.cells #[.int .i64 (wrap64 ((wrap64 (a1_0*(wrap64 (a2_1*t244))))+(wrap64 (a1_1*t243)))),.int .i64 (wrap64 ((wrap64 (a1_2*(wrap64 (a2_1*t244))))+(wrap64 (a1_3*t243))))] 57 (0,0))):=⟨bpA BK246⟩
    have n5_:aA (Below w.heap.size w ((w24.setCell ⟨gb246,0,none⟩ (.int .i64 (wrap64 ((wrap64 (a1_0*(wrap64 (a2_1*t244))))+(wrap64 (a1_1*t243)))))).setCell ⟨gb246,1,none⟩ (.int .i64 (wrap64 ((wrap64 (a1_2*(wrap64 (a2_1*t244))))+(wrap64 (a1_3*t243))))))):=⟨blA⟩
    (try clear BK239)
    (try clear BK240)
    (try clear BK241)
    (try clear BK245)
    (try clear BK246)
    (try clear HB)
    generalize ((w24.setCell ⟨gb246,0,none⟩ (.int .i64 (wrap64 ((wrap64 (a1_0*(wrap64 (a2_1*t244))))+(wrap64 (a1_1*t243)))))).setCell ⟨gb246,1,none⟩ (.int .i64 (wrap64 ((wrap64 (a1_2*(wrap64 (a2_1*t244))))+(wrap64 (a1_3*t243))))))=w34 at n0_ n1_ n2_ n3_ n4_ n5_ ⊢
    have BK239:=n0_
    have BK240:=n1_
    have BK241:=n2_
    have BK245:=n3_
    have BK246:=n4_
    have HB:=n5_
    clear n0_ n1_ n2_ n3_ n4_ n5_
    have n0_:=aA.mk (ac BK239.out)
    have n1_:=aA.mk (ac BK240.out)
    have n2_:=aA.mk (ac BK241.out)
    have n3_:=aA.mk (ac BK245.out)
    have n4_:=aA.mk (ac BK246.out)
    have n5_:=aA.mk (al HB.out)
    clear BK239
    clear BK240
    clear BK241
    clear BK245
    clear BK246
    clear HB
    have BK239:=n0_
    have BK240:=n1_
    have BK241:=n2_
    have BK245:=n3_
    have BK246:=n4_
    have HB:=n5_
    clear n0_ n1_ n2_ n3_ n4_ n5_
   ·
    refine b7 (n:=19) (S:=fun w'=>w'.cell? ⟨gb246,0,none⟩=some (.int .i64 (wrap64 ((wrap64 (a1_0*(wrap64 (a2_1*t244))))+(wrap64 (a1_1*t243)))))∧w'.cell? ⟨gb246,1,none⟩=some (.int .i64 (wrap64 ((wrap64 (a1_2*(wrap64 (a2_1*t244))))+(wrap64 (a1_3*t243)))))∧w'.cell? ⟨gb245,0,none⟩=some (.int .i64 (wrap64 (a1_0*t242)))∧w'.cell? ⟨gb245,1,none⟩=some (.int .i64 (wrap64 (a1_2*t242)))) (ds:=[]) #[Z,Z,Z,Z,Z,Z,Z,Z,Z,Z,Z,Z,Z,Z,Z,Z,Z,Z,Z] (by kernel_rfl) rfl rfl ⟨cA BK246 0,cA BK246 1,cA BK245 0,cA BK245 1⟩ (fun hHeld=>?_);refine bT aT.tab6 aT.bits6 (fun HT_ HW_=>?_)
    generalize w34.drew=w35 at BK239 BK240 BK241 BK245 BK246 HB hHeld ⊢
    refine puA (i:=0) (N:=some 73) #[Y,Z,Z,Z,Z,Z,Z,Z,Z,Z,Z,Z,Z,Z,Z,Z,Z,Z,Z] rfl rfl HT_ ?_
    refine taA (i:=1) (N:=some 74) #[Y,Y,Z,Z,Z,Z,Z,Z,Z,Z,Z,Z,Z,Z,Z,Z,Z,Z,Z] rfl rfl HT_ HW_ hHeld ?_
    refine puA (i:=2) (N:=some 75) #[Y,Y,Y,Z,Z,Z,Z,Z,Z,Z,Z,Z,Z,Z,Z,Z,Z,Z,Z] rfl rfl HT_ ?_
    refine puA (i:=3) (N:=some 76) #[Y,Y,Y,Y,Z,Z,Z,Z,Z,Z,Z,Z,Z,Z,Z,Z,Z,Z,Z] rfl rfl HT_ ?_
    refine puA (i:=4) (N:=some 77) #[Y,Y,Y,Y,Y,Z,Z,Z,Z,Z,Z,Z,Z,Z,Z,Z,Z,Z,Z] rfl rfl HT_ ?_
    refine taA (i:=5) (N:=some 78) #[Y,Y,Y,Y,Y,Y,Z,Z,Z,Z,Z,Z,Z,Z,Z,Z,Z,Z,Z] rfl rfl HT_ HW_ hHeld ?_
    refine puA (i:=6) (N:=some 79) #[Y,Y,Y,Y,Y,Y,Y,Z,Z,Z,Z,Z,Z,Z,Z,Z,Z,Z,Z] rfl rfl HT_ ?_
    refine puA (i:=7) (N:=some 80) #[Y,Y,Y,Y,Y,Y,Y,Y,Z,Z,Z,Z,Z,Z,Z,Z,Z,Z,Z] rfl rfl HT_ ?_
    refine puU (i:=8) (N:=some 81) #[Y,Y,Y,Y,Y,Y,Y,Y,Y,Z,Z,Z,Z,Z,Z,Z,Z,Z,Z] rfl rfl HT_ ?_
    refine puU (i:=9) (N:=some 82) #[Y,Y,Y,Y,Y,Y,Y,Y,Y,Y,Z,Z,Z,Z,Z,Z,Z,Z,Z] rfl rfl HT_ ?_
    refine puU (i:=10) (N:=some 83) #[Y,Y,Y,Y,Y,Y,Y,Y,Y,Y,Y,Z,Z,Z,Z,Z,Z,Z,Z] rfl rfl HT_ ?_
    refine puU (i:=11) (N:=some 84) #[Y,Y,Y,Y,Y,Y,Y,Y,Y,Y,Y,Y,Z,Z,Z,Z,Z,Z,Z] rfl rfl HT_ ?_
    refine puU (i:=12) (N:=some 85) #[Y,Y,Y,Y,Y,Y,Y,Y,Y,Y,Y,Y,Y,Z,Z,Z,Z,Z,Z] rfl rfl HT_ ?_
    refine puU (i:=13) (N:=some 86) #[Y,Y,Y,Y,Y,Y,Y,Y,Y,Y,Y,Y,Y,Y,Z,Z,Z,Z,Z] rfl rfl HT_ ?_
    refine puU (i:=14) (N:=some 87) #[Y,Y,Y,Y,Y,Y,Y,Y,Y,Y,Y,Y,Y,Y,Y,Z,Z,Z,Z] rfl rfl HT_ ?_
    refine puU (i:=15) (N:=some 88) #[Y,Y,Y,Y,Y,Y,Y,Y,Y,Y,Y,Y,Y,Y,Y,Y,Z,Z,Z] rfl rfl HT_ ?_
    refine puU (i:=16) (N:=some 89) #[Y,Y,Y,Y,Y,Y,Y,Y,Y,Y,Y,Y,Y,Y,Y,Y,Y,Z,Z] rfl rfl HT_ ?_
    refine puA (i:=17) (N:=some 90) #[Y,Y,Y,Y,Y,Y,Y,Y,Y,Y,Y,Y,Y,Y,Y,Y,Y,Y,Z] rfl rfl HT_ ?_
    refine puA (i:=18) (N:=some 91) #[Y,Y,Y,Y,Y,Y,Y,Y,Y,Y,Y,Y,Y,Y,Y,Y,Y,Y,Y] rfl rfl HT_ ?_
    refine cg (br HT_.out (by kernel_rfl)) ?_
    try go_wp2
    go_meet
    case rel=>exact ⟨_,(false),hB,H',⟨by first|omega|exact Nat.le_refl _⟩,⟨bkA BK239⟩,⟨bkA BK240⟩,⟨bkA BK241⟩,⟨bkA BK245⟩,⟨bkA BK246⟩,⟨blA⟩⟩
   ·
    refine b7 (n:=19) (S:=fun w'=>w'.cell? ⟨gb246,0,none⟩=some (.int .i64 (wrap64 ((wrap64 (a1_0*(wrap64 (a2_1*t244))))+(wrap64 (a1_1*t243)))))∧w'.cell? ⟨gb246,1,none⟩=some (.int .i64 (wrap64 ((wrap64 (a1_2*(wrap64 (a2_1*t244))))+(wrap64 (a1_3*t243)))))∧w'.cell? ⟨gb245,0,none⟩=some (.int .i64 (wrap64 (a1_0*t242)))∧w'.cell? ⟨gb245,1,none⟩=some (.int .i64 (wrap64 (a1_2*t242)))) (ds:=[]) #[Z,Z,Z,Z,Z,Z,Z,Z,Z,Z,Z,Z,Z,Z,Z,Z,Z,Z,Z] (by kernel_rfl) rfl rfl ⟨cA BK246 0,cA BK246 1,cA BK245 0,cA BK245 1⟩ (fun hHeld=>?_);refine bT aT.tab6 aT.bits6 (fun HT_ HW_=>?_)
    generalize w34.drew=w39 at BK239 BK240 BK241 BK245 BK246 HB hHeld ⊢
    refine puA (i:=0) (N:=some 73) #[Y,Z,Z,Z,Z,Z,Z,Z,Z,Z,Z,Z,Z,Z,Z,Z,Z,Z,Z] rfl rfl HT_ ?_
    refine taA (i:=1) (N:=some 74) #[Y,Y,Z,Z,Z,Z,Z,Z,Z,Z,Z,Z,Z,Z,Z,Z,Z,Z,Z] rfl rfl HT_ HW_ hHeld ?_
    refine puA (i:=2) (N:=some 75) #[Y,Y,Y,Z,Z,Z,Z,Z,Z,Z,Z,Z,Z,Z,Z,Z,Z,Z,Z] rfl rfl HT_ ?_
    refine puA (i:=3) (N:=some 76) #[Y,Y,Y,Y,Z,Z,Z,Z,Z,Z,Z,Z,Z,Z,Z,Z,Z,Z,Z] rfl rfl HT_ ?_
    refine puA (i:=4) (N:=some 77) #[Y,Y,Y,Y,Y,Z,Z,Z,Z,Z,Z,Z,Z,Z,Z,Z,Z,Z,Z] rfl rfl HT_ ?_
    refine taA (i:=5) (N:=some 78) #[Y,Y,Y,Y,Y,Y,Z,Z,Z,Z,Z,Z,Z,Z,Z,Z,Z,Z,Z] rfl rfl HT_ HW_ hHeld ?_
    refine puA (i:=6) (N:=some 79) #[Y,Y,Y,Y,Y,Y,Y,Z,Z,Z,Z,Z,Z,Z,Z,Z,Z,Z,Z] rfl rfl HT_ ?_
    refine puA (i:=7) (N:=some 80) #[Y,Y,Y,Y,Y,Y,Y,Y,Z,Z,Z,Z,Z,Z,Z,Z,Z,Z,Z] rfl rfl HT_ ?_
    refine puA (i:=8) (N:=some 81) #[Y,Y,Y,Y,Y,Y,Y,Y,Y,Z,Z,Z,Z,Z,Z,Z,Z,Z,Z] rfl rfl HT_ ?_
    refine puA (i:=9) (N:=some 82) #[Y,Y,Y,Y,Y,Y,Y,Y,Y,Y,Z,Z,Z,Z,Z,Z,Z,Z,Z] rfl rfl HT_ ?_
    refine puA (i:=12) (N:=some 85) #[Y,Y,Y,Y,Y,Y,Y,Y,Y,Y,Z,Z,Y,Z,Z,Z,Z,Z,Z] rfl rfl HT_ ?_
    refine puA (i:=13) (N:=some 86) #[Y,Y,Y,Y,Y,Y,Y,Y,Y,Y,Z,Z,Y,Y,Z,Z,Z,Z,Z] rfl rfl HT_ ?_
    refine taA (i:=10) (N:=some 83) #[Y,Y,Y,Y,Y,Y,Y,Y,Y,Y,Y,Z,Y,Y,Z,Z,Z,Z,Z] rfl rfl HT_ HW_ hHeld ?_
    refine taA (i:=14) (N:=some 87) #[Y,Y,Y,Y,Y,Y,Y,Y,Y,Y,Y,Z,Y,Y,Y,Z,Z,Z,Z] rfl rfl HT_ HW_ hHeld ?_
    refine cV (i:=11) (N:=some 84) #[Y,Y,Y,Y,Y,Y,Y,Y,Y,Y,Y,Y,Y,Y,Y,Z,Z,Z,Z] rfl rfl (bX HT_.out (by kernel_rfl)) (by decide) (fun K hK=>?_)
    refine d9 Tryz.func92 (by kernel_rfl) rfl #[.int .i64 a0,.int .i64 (wrap64 ((wrap64 (a1_2*(wrap64 (a2_1*t244))))+(wrap64 (a1_3*t243))))] (by rfl) rfl rfl hA ?_
    with_reducible refine (ak.calls k a0 (wrap64 ((wrap64 (a1_2*(wrap64 (a2_1*t244))))+(wrap64 (a1_3*t243)))) t247 _ A36.out).mono ?_
    rintro e w' ⟨rfl,⟨nd,rfl⟩⟩
    refine ⟨_,rfl,?_⟩
    refine hK.out _ _ ⟨cA BK246 0,cA BK246 1,cA BK245 0,cA BK245 1⟩ (fun hHeld=>?_)
    clear hK K
    refine nmA ?_
    refine cV (i:=15) (N:=some 88) #[Y,Y,Y,Y,Y,Y,Y,Y,Y,Y,Y,Y,Y,Y,Y,Y,Z,Z,Z] rfl rfl (bX HT_.out (by kernel_rfl)) (by decide) (fun K hK=>?_)
    refine goC Tryz.func92 (ak.calls (w:=_) (h:=A37.out)) ?_
    rintro _ ⟨nd,rfl⟩
    refine hK.out _ _ ⟨cA BK246 0,cA BK246 1,cA BK245 0,cA BK245 1⟩ (fun hHeld=>?_)
    clear hK K
    refine nmA ?_
    refine puA (i:=16) (N:=some 89) #[Y,Y,Y,Y,Y,Y,Y,Y,Y,Y,Y,Y,Y,Y,Y,Y,Y,Z,Z] rfl rfl HT_ ?_
    refine puA (i:=17) (N:=some 90) #[Y,Y,Y,Y,Y,Y,Y,Y,Y,Y,Y,Y,Y,Y,Y,Y,Y,Y,Z] rfl rfl HT_ ?_
    refine puA (i:=18) (N:=some 91) #[Y,Y,Y,Y,Y,Y,Y,Y,Y,Y,Y,Y,Y,Y,Y,Y,Y,Y,Y] rfl rfl HT_ ?_
    refine cg (br HT_.out (by kernel_rfl)) ?_
    try go_wp2
    go_meet
    case rel=>exact ⟨_,(decide (t247>t248)),hB,H',⟨by first|omega|exact Nat.le_refl _⟩,⟨bkA BK239⟩,⟨bkA BK240⟩,⟨bkA BK241⟩,⟨bkA BK245⟩,⟨bkA BK246⟩,⟨blA⟩⟩
 case rest=>
  clear HC8
  try clear c30
  try clear c30b0
  try clear c30b1
  try clear c33
  try clear c33b0
  try clear c33b1
  try clear hcz17_0
  try clear hcz17_1
  try clear hcz17_2
  try clear hcz17_3
  try clear hcz22_0
  try clear hcz22_1
  try clear hcz23_0
  try clear hcz23_1
  try clear hcz23_2
  try clear hcz23_3
  try clear hcz29_0
  try clear hcz29_1
  try clear hfz17_0
  try clear hfz17_1
  try clear hfz17_2
  try clear hfz17_3
  try clear hfz22_0
  try clear hfz22_1
  try clear hfz23_0
  try clear hfz23_1
  try clear hfz23_2
  try clear hfz23_3
  try clear hfz29_0
  try clear hfz29_1
  obtain ⟨kq,x91_7,rfl,HA,HJ7,BK239,BK240,BK241,BK245,BK246,HB⟩:=hcut
  cases kq with
  | zero=>exact absurd HA.out (by simp [aT.j0])
  | succ kj7=>
   have H:=HA.out
   clear HA
   simp only [aT.j0] at H
   have HC40:=aA.mk H
   clear H
   go_upto_if 91 with (fail)
   go_cut [] (fun wc=>∃ (kq:Nat) (x247000_39:Int) (x247001_39:Int),aA (aT.j1 kq a0 ji4 a1_0 a1_1 a1_2 a1_3 a2_0 a2_1 a2_2 x247000_39 x247001_39=some (r1,r2,r3,r4))∧aA (kq≤kj7)∧aA (wc.heap[gb239]?=some (.cells #[.int .i64 a1_0,.int .i64 a1_1,.int .i64 a1_2,.int .i64 a1_3] 59 (0,0)))∧aA (wc.heap[gb240]?=some (.cells #[.int .i64 a2_0,.int .i64 a2_1,.int .i64 a2_2] 43 (0,0)))∧aA (wc.heap[gb241]?=some (.cells #[.int .i64 0,.int .i64 0,.int .i64 0] 43 (0,0)))∧aA (wc.heap[gb245]?=some (.cells #[.int .i64 (wrap64 (a1_0*t242)),.int .i64 (wrap64 (a1_2*t242))] 57 (0,0)))∧aA (wc.heap[gb246]?=some (.cells #[.int .i64 x247000_39,.int .i64 x247001_39] 57 (0,0)))∧aA (Below w.heap.size w wc))
   case first=>
    have H:=HC40.out
    clear HC40
    by_cases c41:x91_7=true
    ·
     subst c41
     rw [if_pos rfl] at H
     try dsimp only at H
     have H':=aA.mk H
     clear H
     have hnb42:=NB245_239.out
     have hnc42:=NB239_245.out
     have hnb43:=NB245_240.out
     have hnc43:=NB240_245.out
     have hnb44:=NB245_241.out
     have hnc44:=NB241_245.out
     have hnb45:=NB245_246.out
     have hnc45:=NB246_245.out
     obtain ⟨hcz46_0,hcz46_1,hfz46_0,hfz46_1⟩:=cz2 BK245
     have hnb47:=NB246_239.out
     have hnc47:=NB239_246.out
     have hnb48:=NB246_240.out
     have hnc48:=NB240_246.out
     have hnb49:=NB246_241.out
     have hnc49:=NB241_246.out
     have hcz50_0:wc.cell? ⟨gb246,0,none⟩=some (.int .i64 (wrap64 ((wrap64 (a1_0*(wrap64 (a2_1*t244))))+(wrap64 (a1_1*t243))))):=cA BK246 0
     have hcz50_1:wc.cell? ⟨gb246,1,none⟩=some (.int .i64 (wrap64 ((wrap64 (a1_2*(wrap64 (a2_1*t244))))+(wrap64 (a1_3*t243))))):=cA BK246 1
     have hfz50_0:=bH BK246.out 0
     have hfz50_1:=bH BK246.out 1
     go_wp2
     go_meet
     case rel=>exact ⟨_,((wrap64 (a1_0*t242))),((wrap64 (a1_2*t242))),H',⟨by have:=HJ7.out;first|omega|exact Nat.le_refl _⟩,⟨bkF BK239⟩,⟨bkF BK240⟩,⟨bkF BK241⟩,⟨bkF BK245⟩,⟨bpA BK246⟩,⟨blA⟩⟩
    ·
     replace c41:=Bool.eq_false_iff.mpr c41
     subst c41
     rw [if_neg (show ¬ (false=true) by decide)] at H
     try dsimp only at H
     have H':=aA.mk H
     clear H
     go_wp2
     go_meet
     case rel=>exact ⟨_,((wrap64 ((wrap64 (a1_0*(wrap64 (a2_1*t244))))+(wrap64 (a1_1*t243))))),((wrap64 ((wrap64 (a1_2*(wrap64 (a2_1*t244))))+(wrap64 (a1_3*t243))))),H',⟨by have:=HJ7.out;first|omega|exact Nat.le_refl _⟩,⟨bkA BK239⟩,⟨bkA BK240⟩,⟨bkA BK241⟩,⟨bkA BK245⟩,⟨bkA BK246⟩,⟨blA⟩⟩
   case rest=>
    clear HC40
    try clear c30
    try clear c30b0
    try clear c30b1
    try clear c33
    try clear c33b0
    try clear c33b1
    try clear c41
    try clear hcz17_0
    try clear hcz17_1
    try clear hcz17_2
    try clear hcz17_3
    try clear hcz22_0
    try clear hcz22_1
    try clear hcz23_0
    try clear hcz23_1
    try clear hcz23_2
    try clear hcz23_3
    try clear hcz29_0
    try clear hcz29_1
    try clear hcz46_0
    try clear hcz46_1
    try clear hcz50_0
    try clear hcz50_1
    try clear hfz17_0
    try clear hfz17_1
    try clear hfz17_2
    try clear hfz17_3
    try clear hfz22_0
    try clear hfz22_1
    try clear hfz23_0
    try clear hfz23_1
    try clear hfz23_2
    try clear hfz23_3
    try clear hfz29_0
    try clear hfz29_1
    try clear hfz46_0
    try clear hfz46_1
    try clear hfz50_0
    try clear hfz50_1
    obtain ⟨kq,x247000_39,x247001_39,HA,HJ39,BK239,BK240,BK241,BK245,BK246,HB⟩:=hcut
    cases kq with
    | zero=>exact absurd HA.out (by simp [aT.j1])
    | succ kj39=>
     have H:=HA.out
     clear HA
     simp only [aT.j1] at H
     replace H:=bS H
     obtain ⟨t249,A51,H⟩:=H
     try dsimp only at H
     replace H:=bS H
     obtain ⟨t250,A52,H⟩:=H
     try dsimp only at H
     replace H:=bS H
     obtain ⟨t251,A53,H⟩:=H
     try dsimp only at H
     replace H:=bS H
     obtain ⟨⟨t252,t253,t254,t255⟩,A54,H⟩:=H
     try dsimp only at H
     simp only [Option.some.injEq,Prod.mk.injEq] at H
     obtain ⟨rfl,rfl,rfl,rfl⟩:=H
     try go_wp2
     have n0_:=aA.mk (ac BK239.out)
     have n1_:=aA.mk (ac BK240.out)
     have n2_:=aA.mk (ac BK241.out)
     have n3_:=aA.mk (ac BK245.out)
     have n4_:=aA.mk (ac BK246.out)
     have n5_:=aA.mk (al HB.out)
     clear BK239
     clear BK240
     clear BK241
     clear BK245
     clear BK246
     clear HB
     have BK239:=n0_
     have BK240:=n1_
     have BK241:=n2_
     have BK245:=n3_
     have BK246:=n4_
     have HB:=n5_
     clear n0_ n1_ n2_ n3_ n4_ n5_
     refine b7 (n:=17) (S:=fun w'=>w'.cell? ⟨gb239,0,none⟩=some (.int .i64 a1_0)∧w'.cell? ⟨gb239,1,none⟩=some (.int .i64 a1_1)∧w'.cell? ⟨gb239,2,none⟩=some (.int .i64 a1_2)∧w'.cell? ⟨gb239,3,none⟩=some (.int .i64 a1_3)∧w'.cell? ⟨gb240,0,none⟩=some (.int .i64 a2_0)∧w'.cell? ⟨gb240,1,none⟩=some (.int .i64 a2_1)∧w'.cell? ⟨gb240,2,none⟩=some (.int .i64 a2_2)∧w'.cell? ⟨gb246,0,none⟩=some (.int .i64 x247000_39)∧w'.cell? ⟨gb246,1,none⟩=some (.int .i64 x247001_39)) (ds:=[]) #[Z,Z,Z,Z,Z,Z,Z,Z,Z,Z,Z,Z,Z,Z,Z,Z,Z] (by kernel_rfl) rfl rfl ⟨cA BK239 0,cA BK239 1,cA BK239 2,cA BK239 3,cA BK240 0,cA BK240 1,cA BK240 2,cA BK246 0,cA BK246 1⟩ (fun hHeld=>?_);refine bT aT.tab8 aT.bits8 (fun HT_ HW_=>?_)
     generalize wc.drew=w55 at BK239 BK240 BK241 BK245 BK246 HB hHeld ⊢
     refine puA (i:=0) (N:=some 93) #[Y,Z,Z,Z,Z,Z,Z,Z,Z,Z,Z,Z,Z,Z,Z,Z,Z] rfl rfl HT_ ?_
     refine puA (i:=4) (N:=some 97) #[Y,Z,Z,Z,Y,Z,Z,Z,Z,Z,Z,Z,Z,Z,Z,Z,Z] rfl rfl HT_ ?_
     refine puA (i:=7) (N:=some 100) #[Y,Z,Z,Z,Y,Z,Z,Y,Z,Z,Z,Z,Z,Z,Z,Z,Z] rfl rfl HT_ ?_
     refine puA (i:=8) (N:=some 101) #[Y,Z,Z,Z,Y,Z,Z,Y,Y,Z,Z,Z,Z,Z,Z,Z,Z] rfl rfl HT_ ?_
     refine puA (i:=10) (N:=some 103) #[Y,Z,Z,Z,Y,Z,Z,Y,Y,Z,Y,Z,Z,Z,Z,Z,Z] rfl rfl HT_ ?_
     refine puA (i:=11) (N:=some 104) #[Y,Z,Z,Z,Y,Z,Z,Y,Y,Z,Y,Y,Z,Z,Z,Z,Z] rfl rfl HT_ ?_
     refine taA (i:=1) (N:=some 94) #[Y,Y,Z,Z,Y,Z,Z,Y,Y,Z,Y,Y,Z,Z,Z,Z,Z] rfl rfl HT_ HW_ hHeld ?_
     refine taA (i:=5) (N:=some 98) #[Y,Y,Z,Z,Y,Y,Z,Y,Y,Z,Y,Y,Z,Z,Z,Z,Z] rfl rfl HT_ HW_ hHeld ?_
     refine taA (i:=12) (N:=some 105) #[Y,Y,Z,Z,Y,Y,Z,Y,Y,Z,Y,Y,Y,Z,Z,Z,Z] rfl rfl HT_ HW_ hHeld ?_
     refine cV (i:=2) (N:=some 95) #[Y,Y,Y,Z,Y,Y,Z,Y,Y,Z,Y,Y,Y,Z,Z,Z,Z] rfl rfl (bX HT_.out (by kernel_rfl)) (by decide) (fun K hK=>?_)
     refine goC Tryz.func93 (dR.calls (w:=_) (h:=A51.out)) ?_
     intro w56 hb
     replace BK239:=kB BK239 hb
     replace BK240:=kB BK240 hb
     replace BK241:=kB BK241 hb
     replace BK245:=kB BK245 hb
     replace BK246:=kB BK246 hb
     replace HB:=lB hb
     (try clear hb)
     (try clear hb2)
     (try clear hk)
     (try clear hi)
     refine hK.out _ _ ⟨cA BK239 0,cA BK239 1,cA BK239 2,cA BK239 3,cA BK240 0,cA BK240 1,cA BK240 2,cA BK246 0,cA BK246 1⟩ (fun hHeld=>?_)
     clear hK K
     refine nmA ?_
     refine cV (i:=3) (N:=some 96) #[Y,Y,Y,Y,Y,Y,Z,Y,Y,Z,Y,Y,Y,Z,Z,Z,Z] rfl rfl (bX HT_.out (by kernel_rfl)) (by decide) (fun K hK=>?_)
     refine goC Tryz.func92 (ak.calls (w:=_) (h:=A52.out)) ?_
     rintro _ ⟨nd,rfl⟩
     refine hK.out _ _ ⟨cA BK239 0,cA BK239 1,cA BK239 2,cA BK239 3,cA BK240 0,cA BK240 1,cA BK240 2,cA BK246 0,cA BK246 1⟩ (fun hHeld=>?_)
     clear hK K
     refine nmA ?_
     refine puA (i:=6) (N:=some 99) #[Y,Y,Y,Y,Y,Y,Y,Y,Y,Z,Y,Y,Y,Z,Z,Z,Z] rfl rfl HT_ ?_
     refine puA (i:=9) (N:=some 102) #[Y,Y,Y,Y,Y,Y,Y,Y,Y,Y,Y,Y,Y,Z,Z,Z,Z] rfl rfl HT_ ?_
     refine cV (i:=13) (N:=some 106) #[Y,Y,Y,Y,Y,Y,Y,Y,Y,Y,Y,Y,Y,Y,Z,Z,Z] rfl rfl (bX HT_.out (by kernel_rfl)) (by decide) (fun K hK=>?_)
     refine goC Tryz.func92 (ak.calls (w:=_) (h:=A53.out)) ?_
     rintro _ ⟨nd,rfl⟩
     refine hK.out _ _ ⟨cA BK239 0,cA BK239 1,cA BK239 2,cA BK239 3,cA BK240 0,cA BK240 1,cA BK240 2,cA BK246 0,cA BK246 1⟩ (fun hHeld=>?_)
     clear hK K
     refine nmA ?_
     refine puA (i:=14) (N:=some 107) #[Y,Y,Y,Y,Y,Y,Y,Y,Y,Y,Y,Y,Y,Y,Y,Z,Z] rfl rfl HT_ ?_
     refine puA (i:=15) (N:=some 108) #[Y,Y,Y,Y,Y,Y,Y,Y,Y,Y,Y,Y,Y,Y,Y,Y,Z] rfl rfl HT_ ?_
     refine puA (i:=16) (N:=some 14) #[Y,Y,Y,Y,Y,Y,Y,Y,Y,Y,Y,Y,Y,Y,Y,Y,Y] rfl rfl HT_ ?_
     refine cg (br HT_.out (by kernel_rfl)) ?_
     have hnb57:=NB246_239.out
     have hnc57:=NB239_246.out
     have hnb58:=NB246_240.out
     have hnc58:=NB240_246.out
     have hnb59:=NB246_241.out
     have hnc59:=NB241_246.out
     have hnb60:=NB246_245.out
     have hnc60:=NB245_246.out
     obtain ⟨hcz61_0,hcz61_1,hfz61_0,hfz61_1⟩:=cz2 BK246
     try go_wp2_with (first|((with_reducible refine a6 (f:=81) rfl ?_);refine eq (some 115) rfl rfl Tryz.func81 (by kernel_rfl) rfl #[.int .i64 a0,.int .i64 x247000_39,.int .i64 x247001_39,.int .i64 (wrap64 ((wrap64 ((wrap64 (t250+a2_0))+(wrap64 (2*ji4)))) - (wrap64 (2*t251))))] rfl (by (try simp only [List.map_toArray,List.map_cons,List.map_nil]);first|done|(simp only [hji4];rfl)|rfl|(simp only [List.length_drop,List.length_take];rfl)) ?_;(with_reducible refine (bf.calls kj39 a0 x247000_39 x247001_39 (wrap64 ((wrap64 ((wrap64 (t250+a2_0))+(wrap64 (2*ji4)))) - (wrap64 (2*t251)))) t252 t253 t254 t255 _ A54.out).mono ?_);rintro e w62 ⟨rfl,hb⟩;refine ⟨_,rfl,?_⟩;have n0_:=kB BK239 hb;have n1_:=kB BK240 hb;have n2_:=kB BK241 hb;have n3_:=kB BK245 hb;have n4_:=kB BK246 hb;have n5_:=lB hb;clear BK239;clear BK240;clear BK241;clear BK245;clear BK246;clear HB;have BK239:=n0_;have BK240:=n1_;have BK241:=n2_;have BK245:=n3_;have BK246:=n4_;have HB:=n5_;clear n0_ n1_ n2_ n3_ n4_ n5_;clear hb;have hnb63:=NB241_239.out;have hnc63:=NB239_241.out;have hnb64:=NB241_240.out;have hnc64:=NB240_241.out;have hnb65:=NB241_245.out;have hnc65:=NB245_241.out;obtain ⟨hcz66_0,hcz66_1,hcz66_2,hfz66_0,hfz66_1,hfz66_2⟩:=cz3 BK241))
     refine bodyPost_ret (bZ rfl _ _ gb241 43 #[.int .i64 t252,.int .i64 t253,.int .i64 t254] (0,0) _ rfl (bpA BK241) Tryz.underlying43 rfl (by kernel_rfl)) rfl ?_
     exact ⟨by first|rfl|(simp [bB,bA] <;> rfl)|(simp only [← hji4];first|rfl|(simp [bB,bA] <;> rfl))|(simp [*,bB,bA] <;> rfl),blA⟩
def aw.l0:Nat→List (S59)→Int→Int→Option (Bool)
 | 0,_,_,_=>none
 | k+1,x5,x6,x7=>if x7<x6 then (if 0≤x7 then (if x7<(x5.length:Int) then ((ct.f k ((ai x5 x7).f0.f0) ((ai x5 x7).f0.f1) ((ai x5 x7).f1.f0) ((ai x5 x7).f1.f1)).bind fun t349=>(if t349=true then (aw.l0 k x5 x6 (wrap64 (x7+1))) else (some false))) else (none)) else (none)) else (some true)
def aw.f (k:Nat) (l0:List (S59)):Option (Bool):=aw.l0 k l0 (l0.length:Int) 0
set_option maxHeartbeats 8000000 in
set_option maxRecDepth 100000 in
theorem aw.calls (k:Nat) (A0:Option Addr) (c0:Nat) (l0:List (S59)) (r:Bool) (w:World) (hr0:Kd.C k59 w A0 l0.length l0) (hc0:l0.length≤c0) (h:aw.f k l0=some r) :
  Calls Tryz.prog 97 #[.slice A0 l0.length c0] w fun e w'=>e=.returned (.bool r)∧Below w.heap.size w w':=by
 have hu59:=Tryz.underlying59
 have HR0:=aA.mk hr0
 have HC0:=aA.mk hc0
 clear hr0 hc0
 have HB:=aA.mk (Below.refl w.heap.size w)
 have H:=h
 unfold aw.f at H
 clear h
 have H':=aA.mk H
 clear H
 go_enter Tryz.func97,Tryz.ntmps97
 go_wp2
 go_loopg [7] k (fun kq v7 w'=>∃ (x7_1:Int),v7=.int .i64 x7_1∧aA (aw.l0 kq l0 (l0.length:Int) x7_1=some r)∧aA (kq≤k)∧aA (Below w.heap.size w w'))
 case atStart=>exact ⟨(0),hB,H',⟨Nat.le_refl _⟩,⟨blA⟩⟩
 case round=>
  clear H'
  obtain ⟨x7_1,rfl,HA,HK1,HB⟩:=hrel
  cases gk with
  | zero=>exact absurd HA.out (by simp [aw.l0])
  | succ k1=>
   have H:=HA.out
   clear HA
   simp only [aw.l0] at H
   by_cases c2:x7_1<(l0.length:Int)
   ·
    rw [if_pos c2] at H
    have c2b0:=decide_eq_true c2
    clear c2
    by_cases c3:0≤x7_1
    rotate_left
    ·
     rw [if_neg c3] at H
     exact absurd H (by simp)
    rw [if_pos c3] at H
    have c3b0:=decide_eq_true c3
    clear c3
    by_cases c4:x7_1<(l0.length:Int)
    rotate_left
    ·
     rw [if_neg c4] at H
     exact absurd H (by simp)
    rw [if_pos c4] at H
    have c4b0:=decide_eq_true c4
    clear c4
    replace H:=bS H
    obtain ⟨t349,A5,H⟩:=H
    try dsimp only at H
    by_cases c6:t349=true
    focus
     subst c6
     rw [if_pos rfl] at H
     try dsimp only at H
     have H':=aA.mk H
     clear H
     have p347:0≤(x7_1:Int):=dA
     have q347:x7_1<(l0.length:Int):=dA
     obtain ⟨ad347,e347,hx347_0,hx347_1,hx347_2,hx347_3⟩:=fA HR0.out x7_1 p347 q347
     cases e347
     replace hx347_0:=(HB.out.cell (World.block_lt_of_cell? w _ hx347_0)).trans hx347_0
     replace hx347_1:=(HB.out.cell (World.block_lt_of_cell? w _ hx347_1)).trans hx347_1
     replace hx347_2:=(HB.out.cell (World.block_lt_of_cell? w _ hx347_2)).trans hx347_2
     replace hx347_3:=(HB.out.cell (World.block_lt_of_cell? w _ hx347_3)).trans hx347_3
     replace p347:=eq_true p347
     replace q347:=eq_true q347
    rotate_left
    focus
     replace c6:=Bool.eq_false_iff.mpr c6
     subst c6
     rw [if_neg (show ¬ (false=true) by decide)] at H
     try dsimp only at H
     obtain rfl:=Option.some.inj H
     have p347:0≤(x7_1:Int):=dA
     have q347:x7_1<(l0.length:Int):=dA
     obtain ⟨ad347,e347,hx347_0,hx347_1,hx347_2,hx347_3⟩:=fA HR0.out x7_1 p347 q347
     cases e347
     replace hx347_0:=(HB.out.cell (World.block_lt_of_cell? w _ hx347_0)).trans hx347_0
     replace hx347_1:=(HB.out.cell (World.block_lt_of_cell? w _ hx347_1)).trans hx347_1
     replace hx347_2:=(HB.out.cell (World.block_lt_of_cell? w _ hx347_2)).trans hx347_2
     replace hx347_3:=(HB.out.cell (World.block_lt_of_cell? w _ hx347_3)).trans hx347_3
     replace p347:=eq_true p347
     replace q347:=eq_true q347
    rotate_left
    all_goals
     go_wp2_with (first|((with_reducible refine aN (N:=4) rfl ?_);refine bxE (cs:=#[.int .i64 0,.int .i64 0,.int .i64 0,.int .i64 0]) (t:=59) ?_;intro gb348 hg w7 hbox hb;have BK348:=aA.mk hbox;have GW348:=sA hg;have GE348:=sA hg;replace HB:=lB hb;clear hb hbox hg;obtain ⟨hcz8_0,hcz8_1,hcz8_2,hcz8_3,hfz8_0,hfz8_1,hfz8_2,hfz8_3⟩:=cz4 BK348)|((with_reducible refine gd 12 rfl ?_);refine gC (some 12) rfl Tryz.func121 (ct.calls (w:=_) (h:=A5.out)) ?_;intro w9 hb;have n0_:=aA.mk (bL (g:=gb348) (o:=.cells #[.int .i64 ((ai l0 x7_1).f0.f0),.int .i64 ((ai l0 x7_1).f0.f1),.int .i64 ((ai l0 x7_1).f1.f0),.int .i64 ((ai l0 x7_1).f1.f1)] 59 (0,0)) (bpA BK348) hb);have n1_:=lB hb;clear BK348;clear HB;have BK348:=n0_;have HB:=n1_;clear n0_ n1_;clear hb))
    ·
     go_roundg k1
     case measure=>have:=HK1.out;omega
     case rel=>exact ⟨(wrap64 (x7_1+1)),hB,H',⟨by have:=HK1.out;omega⟩,⟨blA⟩⟩
    ·
     go_ret
     exact cE blA
   ·
    rw [if_neg c2] at H
    have c2b0:=decide_eq_false c2
    clear c2
    obtain rfl:=Option.some.inj H
    go_wp2
    go_ret
    exact cE blA
end Go.Proofs.YtnhiehpbkimaeaaGreat.PAll
