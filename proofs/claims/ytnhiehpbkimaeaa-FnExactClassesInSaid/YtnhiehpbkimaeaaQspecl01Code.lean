-- turned out of the kit's print
import Derived.Test.YtnhiehpbkimaeaaQx
import Derived.Test.YtnhiehpbkimaeaaQimplBall56
import Derived.Test.YtnhiehpbkimaeaaQspecl01Is
namespace Go.Proofs.Ytnhiehpbkimaeaa.PAll
open Go.RowKit Go.Proofs.YtnhiehpbkimaeaaW.PrintWords Go.Proofs.YtnhiehpbkimaeaaW.PrintLast Go.Proofs.YtnhiehpbkimaeaaW.PrintMore
attribute [local go_sem] Go.Proofs.Ytnhiehpbkimaeaa.Aux.setCell_drewN Go.Proofs.Ytnhiehpbkimaeaa.Aux.isSome_setCell max2_int min2_int max_two min_two max_three min_three max_four min_four
set_option linter.unusedVariables false
set_option linter.unusedSimpArgs false
mutual
def spec_l04Move.j0:Nat→Int→Int→Bool→Int→Int→Int→Int→Int→Int→Int→Int→Int→Int→Int→Option (Int × Int × Int × Bool)
 | 0,_,_,_,_,_,_,_,_,_,_,_,_,_,_=>none
 | k+1,x0,x8,x91,x134000,x134001,x134002,x134003,x135000,x135001,x135002,x140000,x140001,x141000,x141001=>if x91=true then (spec_l04Move.j1 k x0 x8 x134000 x134001 x134002 x134003 x135000 x135001 x135002 x140000 x140001) else (spec_l04Move.j1 k x0 x8 x134000 x134001 x134002 x134003 x135000 x135001 x135002 x141000 x141001)
def spec_l04Move.j1:Nat→Int→Int→Int→Int→Int→Int→Int→Int→Int→Int→Int→Option (Int × Int × Int × Bool)
 | 0,_,_,_,_,_,_,_,_,_,_,_=>none
 | k+1,x0,x8,x134000,x134001,x134002,x134003,x135000,x135001,x135002,x141000,x141001=>(spec_l04Det.f x134000 x134001 x134002 x134003).bind fun t143=>((spec_l01Val.f k x0 t143).bind fun t144=>((spec_l01Val.f k x0 x141001).bind fun t145=>((spec_l01Of.f k x0 x141000 x141001 (wrap64 ((wrap64 ((wrap64 (t144+x135000))+(wrap64 (2*x8)))) - (wrap64 (2*t145))))).bind fun bt146=>(some (bt146.1,bt146.2.1,bt146.2.2.1,bt146.2.2.2)))))
end
def spec_l04Move.f (k:Nat) (a0 a1_0 a1_1 a1_2 a1_3 a2_0 a2_1 a2_2:Int):Option (Int × Int × Int × Bool):=(spec_l01Power.f k a0 (wrap64 (a2_0+(mx a2_2 (wrap64 (-a2_0)))))).bind fun t136=>((spec_l01Power.f k a0 (mx a2_2 (wrap64 (-a2_0)))).bind fun t137=>((spec_l01Power.f k a0 (wrap64 ((mx a2_2 (wrap64 (-a2_0))) - a2_2))).bind fun t138=>(if (wrap64 ((wrap64 (a1_2*(wrap64 (a2_1*t138))))+(wrap64 (a1_3*t137))))=0 then (spec_l04Move.j0 k a0 (mx a2_2 (wrap64 (-a2_0))) true a1_0 a1_1 a1_2 a1_3 a2_0 a2_1 a2_2 (wrap64 (a1_0*t136)) (wrap64 (a1_2*t136)) (wrap64 ((wrap64 (a1_0*(wrap64 (a2_1*t138))))+(wrap64 (a1_1*t137)))) (wrap64 ((wrap64 (a1_2*(wrap64 (a2_1*t138))))+(wrap64 (a1_3*t137))))) else (if (wrap64 (a1_2*t136))=0 then (spec_l04Move.j0 k a0 (mx a2_2 (wrap64 (-a2_0))) false a1_0 a1_1 a1_2 a1_3 a2_0 a2_1 a2_2 (wrap64 (a1_0*t136)) (wrap64 (a1_2*t136)) (wrap64 ((wrap64 (a1_0*(wrap64 (a2_1*t138))))+(wrap64 (a1_1*t137)))) (wrap64 ((wrap64 (a1_2*(wrap64 (a2_1*t138))))+(wrap64 (a1_3*t137))))) else ((spec_l01Val.f k a0 (wrap64 ((wrap64 (a1_2*(wrap64 (a2_1*t138))))+(wrap64 (a1_3*t137))))).bind fun t141=>((spec_l01Val.f k a0 (wrap64 (a1_2*t136))).bind fun t142=>(spec_l04Move.j0 k a0 (mx a2_2 (wrap64 (-a2_0))) (decide (t141>t142)) a1_0 a1_1 a1_2 a1_3 a2_0 a2_1 a2_2 (wrap64 (a1_0*t136)) (wrap64 (a1_2*t136)) (wrap64 ((wrap64 (a1_0*(wrap64 (a2_1*t138))))+(wrap64 (a1_1*t137)))) (wrap64 ((wrap64 (a1_2*(wrap64 (a2_1*t138))))+(wrap64 (a1_3*t137)))))))))))
theorem spec_l04Move.mono_l:∀ k,(∀ y0 y1 y2 y3 y4 y5 y6 y7 y8 y9 y10 y11 y12 y13,LeO (spec_l04Move.j0 k y0 y1 y2 y3 y4 y5 y6 y7 y8 y9 y10 y11 y12 y13) (spec_l04Move.j0 (k+1) y0 y1 y2 y3 y4 y5 y6 y7 y8 y9 y10 y11 y12 y13))∧(∀ y0 y1 y2 y3 y4 y5 y6 y7 y8 y9 y10,LeO (spec_l04Move.j1 k y0 y1 y2 y3 y4 y5 y6 y7 y8 y9 y10) (spec_l04Move.j1 (k+1) y0 y1 y2 y3 y4 y5 y6 y7 y8 y9 y10))
 | 0=>by refine ⟨?_,?_⟩ <;> (intros;intro r h;simp [spec_l04Move.j0,spec_l04Move.j1] at h)
 | k+1=>by
  obtain ⟨ih0,ih1⟩:=spec_l04Move.mono_l k
  refine ⟨?_,?_⟩ <;> (intros;first|unfold spec_l04Move.j0|unfold spec_l04Move.j1)
  all_goals repeat' first
  | with_reducible first|exact ih0 ..|exact ih1 ..|exact spec_l01Of.mono ..|exact spec_l01Power.mono ..|exact spec_l01Val.mono ..|exact LeO.refl _|exact LeO.none _|refine LeO.ite ?_ ?_|refine LeO.bind ?_ fun _=>?_
theorem spec_l04Move.mono:∀ a0 a1 a2 a3 a4 a5 a6 a7 k,LeO (spec_l04Move.f k a0 a1 a2 a3 a4 a5 a6 a7) (spec_l04Move.f (k+1) a0 a1 a2 a3 a4 a5 a6 a7):=by
 intro a0 a1 a2 a3 a4 a5 a6 a7 k
 obtain ⟨ih0,ih1⟩:=spec_l04Move.mono_l k
 unfold spec_l04Move.f
 repeat' first
   | with_reducible first|exact ih0 ..|exact ih1 ..|exact spec_l01Of.mono ..|exact spec_l01Power.mono ..|exact spec_l01Val.mono ..|exact LeO.refl _|exact LeO.none _|refine LeO.ite ?_ ?_|refine LeO.bind ?_ fun _=>?_
def spec_l04Move.T3:Bool × List (List Nat × List Nat):=(true,[([],[]),([0],[0]),([],[]),([],[]),([],[]),([4],[4]),([3,5],[3,5]),([2,6],[2,6]),([1,7],[1,7]),([8,7,0,1,2,3,4,5,6,7,8],[8])])
def spec_l04Move.B3:List Nat:=[0,1,0,0,0,16,56,124,255,511]
theorem spec_l04Move.tab3:rtab .any (opsOf Try.f28 3)=spec_l04Move.T3:=by kernel_rfl
theorem spec_l04Move.bits3:waitsOk spec_l04Move.T3.2 spec_l04Move.B3=true:=by kernel_rfl
def spec_l04Move.T6:Bool × List (List Nat × List Nat):=(true,[([],[]),([0],[0]),([1],[1]),([2],[2]),([3],[3]),([4,3],[3,4]),([5,3],[3,5]),([6,3,3],[3,6]),([7],[7]),([7],[7]),([9,7],[7,9]),([8,10,7,7],[7,8,10]),([7],[7]),([7],[7]),([13,7],[7,13]),([12,14,11,7],[7,12,14]),([11,15,7],[7,11,15]),([7,16,3],[3,7,16]),([3,17],[3,17])])
def spec_l04Move.B6:List Nat:=[0,1,3,7,15,31,63,127,255,255,767,2047,255,255,8447,32767,65535,131071,262143]
theorem spec_l04Move.tab6:rtab .any (opsOf Try.f28 6)=spec_l04Move.T6:=by kernel_rfl
theorem spec_l04Move.bits6:waitsOk spec_l04Move.T6.2 spec_l04Move.B6=true:=by kernel_rfl
def spec_l04Move.T8:Bool × List (List Nat × List Nat):=(true,[([],[]),([],[]),([1],[1]),([0,2,2],[0,2]),([],[]),([4],[4]),([3,5],[3,5]),([],[]),([7],[7]),([6,8],[6,8]),([],[]),([],[]),([11],[11]),([10,12,3],[10,12]),([13],[13]),([9,14],[9,14]),([15,13,0,1,2,3,4,5,6,7,8,9,10,11,12,13,14,15],[15])])
def spec_l04Move.B8:List Nat:=[0,0,2,7,0,16,63,0,128,511,0,0,2048,7183,15375,32767,65535]
theorem spec_l04Move.tab8:rtab .any (opsOf Try.f28 8)=spec_l04Move.T8:=by kernel_rfl
theorem spec_l04Move.bits8:waitsOk spec_l04Move.T8.2 spec_l04Move.B8=true:=by kernel_rfl
set_option maxHeartbeats 8000000 in
set_option maxRecDepth 100000 in
theorem spec_l04Move.calls (k:Nat) (a0 a1_0 a1_1 a1_2 a1_3 a2_0 a2_1 a2_2 r1 r2 r3:Int) (r4:Bool) (w:World) (h:spec_l04Move.f k a0 a1_0 a1_1 a1_2 a1_3 a2_0 a2_1 a2_2=some (r1,r2,r3,r4)) :
  Calls Try.prog 28 #[.int .i64 a0,.agg #[.int .i64 a1_0,.int .i64 a1_1,.int .i64 a1_2,.int .i64 a1_3],.agg #[.int .i64 a2_0,.int .i64 a2_1,.int .i64 a2_2]] w fun e w'=>e=.returned (.tuple #[.agg #[.int .i64 r1,.int .i64 r2,.int .i64 r3],.bool r4])∧Below w.heap.size w w':=by
 have hu42:=Try.underlying42
 have hu53:=Try.underlying53
 have hu40:=Try.underlying40
 have HB:=Aside0.mk (Below.refl w.heap.size w)
 have H:=h
 unfold spec_l04Move.f at H
 clear h
 obtain ⟨ji4,hji4⟩:∃ j_:Int,(mx a2_2 (wrap64 (-a2_0)))=j_:=⟨_,rfl⟩
 replace H:((spec_l01Power.f k a0 (wrap64 (a2_0+(ji4)))).bind fun t136=>((spec_l01Power.f k a0 (ji4)).bind fun t137=>((spec_l01Power.f k a0 (wrap64 ((ji4) - a2_2))).bind fun t138=>(if (wrap64 ((wrap64 (a1_2*(wrap64 (a2_1*t138))))+(wrap64 (a1_3*t137))))=0 then (spec_l04Move.j0 k a0 ji4 true a1_0 a1_1 a1_2 a1_3 a2_0 a2_1 a2_2 (wrap64 (a1_0*t136)) (wrap64 (a1_2*t136)) (wrap64 ((wrap64 (a1_0*(wrap64 (a2_1*t138))))+(wrap64 (a1_1*t137)))) (wrap64 ((wrap64 (a1_2*(wrap64 (a2_1*t138))))+(wrap64 (a1_3*t137))))) else (if (wrap64 (a1_2*t136))=0 then (spec_l04Move.j0 k a0 ji4 false a1_0 a1_1 a1_2 a1_3 a2_0 a2_1 a2_2 (wrap64 (a1_0*t136)) (wrap64 (a1_2*t136)) (wrap64 ((wrap64 (a1_0*(wrap64 (a2_1*t138))))+(wrap64 (a1_1*t137)))) (wrap64 ((wrap64 (a1_2*(wrap64 (a2_1*t138))))+(wrap64 (a1_3*t137))))) else ((spec_l01Val.f k a0 (wrap64 ((wrap64 (a1_2*(wrap64 (a2_1*t138))))+(wrap64 (a1_3*t137))))).bind fun t141=>((spec_l01Val.f k a0 (wrap64 (a1_2*t136))).bind fun t142=>(spec_l04Move.j0 k a0 ji4 (decide (t141>t142)) a1_0 a1_1 a1_2 a1_3 a2_0 a2_1 a2_2 (wrap64 (a1_0*t136)) (wrap64 (a1_2*t136)) (wrap64 ((wrap64 (a1_0*(wrap64 (a2_1*t138))))+(wrap64 (a1_1*t137)))) (wrap64 ((wrap64 (a1_2*(wrap64 (a2_1*t138))))+(wrap64 (a1_3*t137))))))))))))=some (r1,r2,r3,r4):=by first|(rw [hji4] at H;exact H)|(simp only [hji4] at H ⊢;exact H)
 have hji4_:(if a2_2<(wrap64 (-a2_0)) then (wrap64 (-a2_0)) else a2_2)=ji4:=hji4
 replace H:=bS H
 obtain ⟨t136,A5,H⟩:=H
 try dsimp only at H
 replace H:=bS H
 obtain ⟨t137,A6,H⟩:=H
 try dsimp only at H
 replace H:=bS H
 obtain ⟨t138,A7,H⟩:=H
 try dsimp only at H
 have HC8:=Aside0.mk H
 clear H
 go_enter Try.func28,Try.ntmps28
 try go_wp2_with (first|((with_reducible refine gate_dst (N:=4) rfl ?_);refine bxE (cs:=#[.int .i64 a1_0,.int .i64 a1_1,.int .i64 a1_2,.int .i64 a1_3]) (t:=42) ?_;intro gb133 hg w9 hbox hb;have n0_:=lB hb;have n1_:=Aside0.mk hbox;have n2_:=sA hg;have n3_:=sA hg;clear HB;have HB:=n0_;have BK133:=n1_;have GW133:=n2_;have GE133:=n3_;clear n0_ n1_ n2_ n3_;clear hb hbox hg)|((with_reducible refine gate_dst (N:=5) rfl ?_);refine bxE (cs:=#[.int .i64 a2_0,.int .i64 a2_1,.int .i64 a2_2]) (t:=53) ?_;intro gb134 hg w10 hbox hb;have n0_:=kB BK133 hb;have n1_:=lB hb;have n2_:=Aside0.mk hbox;have n3_:=sA hg;have n4_:=sA hg;have n5_:=nA hg BK133;have n6_:=nB hg BK133;clear BK133;clear HB;have BK133:=n0_;have HB:=n1_;have BK134:=n2_;have GW134:=n3_;have GE134:=n4_;have NB133_134:=n5_;have NB134_133:=n6_;clear n0_ n1_ n2_ n3_ n4_ n5_ n6_;clear hb hbox hg)|((with_reducible refine gate_dst (N:=6) rfl ?_);refine bxE (cs:=#[.int .i64 0,.int .i64 0,.int .i64 0]) (t:=53) ?_;intro gb135 hg w11 hbox hb;have n0_:=kB BK133 hb;have n1_:=kB BK134 hb;have n2_:=lB hb;have n3_:=Aside0.mk hbox;have n4_:=sA hg;have n5_:=sA hg;have n6_:=nA hg BK133;have n7_:=nB hg BK133;have n8_:=nA hg BK134;have n9_:=nB hg BK134;clear BK133;clear BK134;clear HB;have BK133:=n0_;have BK134:=n1_;have HB:=n2_;have BK135:=n3_;have GW135:=n4_;have GE135:=n5_;have NB133_135:=n6_;have NB135_133:=n7_;have NB134_135:=n8_;have NB135_134:=n9_;clear n0_ n1_ n2_ n3_ n4_ n5_ n6_ n7_ n8_ n9_;clear hb hbox hg;have hnb12:=NB134_133.out;have hnc12:=NB133_134.out;have hnb13:=NB134_135.out;have hnc13:=NB135_134.out;obtain ⟨hcz14_0,hcz14_1,hcz14_2,hfz14_0,hfz14_1,hfz14_2⟩:=cz3 BK134)|((with_reducible refine gate_callee (f:=41) rfl ?_);refine goesL_ (some 26) rfl rfl Try.func41 (by kernel_rfl) rfl #[.int .i64 a0,.int .i64 (wrap64 (a2_0+(ji4)))] rfl (by (try simp only [List.map_toArray,List.map_cons,List.map_nil]);first|done|(simp only [hji4];rfl)|rfl|(simp only [List.length_drop,List.length_take];rfl)) ?_;(with_reducible refine (spec_l01Power.calls k a0 (wrap64 (a2_0+(ji4))) t136 _ A5.out).mono ?_);rintro e w' ⟨rfl,⟨nd,rfl⟩⟩;refine ⟨_,rfl,?_⟩;(try (rw [drewN_self w11];generalize hq_:World.drewN w11 _=w11;have n0_:Aside0 (w11.heap[gb133]?=some (.cells #[.int .i64 a1_0,.int .i64 a1_1,.int .i64 a1_2,.int .i64 a1_3] 42 (0,0))):=⟨by rw [← hq_];exact (bkA BK133)⟩;have n1_:Aside0 (w11.heap[gb134]?=some (.cells #[.int .i64 a2_0,.int .i64 a2_1,.int .i64 a2_2] 53 (0,0))):=⟨by rw [← hq_];exact (bkA BK134)⟩;have n2_:Aside0 (w11.heap[gb135]?=some (.cells #[.int .i64 0,.int .i64 0,.int .i64 0] 53 (0,0))):=⟨by rw [← hq_];exact (bkA BK135)⟩;have n3_:Aside0 (Below w.heap.size w w11):=⟨by rw [← hq_];exact blA⟩;clear BK133 BK134 BK135 HB hq_;have BK133:=n0_;have BK134:=n1_;have BK135:=n2_;have HB:=n3_;clear n0_ n1_ n2_ n3_)))|((with_reducible refine gate_callee (f:=41) rfl ?_);refine goesL_ (some 29) rfl rfl Try.func41 (by kernel_rfl) rfl #[.int .i64 a0,.int .i64 ji4] rfl (by (try simp only [List.map_toArray,List.map_cons,List.map_nil]);first|done|(simp only [hji4];rfl)|rfl|(simp only [List.length_drop,List.length_take];rfl)) ?_;(with_reducible refine (spec_l01Power.calls k a0 ji4 t137 _ A6.out).mono ?_);rintro e w' ⟨rfl,⟨nd,rfl⟩⟩;refine ⟨_,rfl,?_⟩;(try (rw [drewN_self w11];generalize hq_:World.drewN w11 _=w11;have n0_:Aside0 (w11.heap[gb133]?=some (.cells #[.int .i64 a1_0,.int .i64 a1_1,.int .i64 a1_2,.int .i64 a1_3] 42 (0,0))):=⟨by rw [← hq_];exact (bkA BK133)⟩;have n1_:Aside0 (w11.heap[gb134]?=some (.cells #[.int .i64 a2_0,.int .i64 a2_1,.int .i64 a2_2] 53 (0,0))):=⟨by rw [← hq_];exact (bkA BK134)⟩;have n2_:Aside0 (w11.heap[gb135]?=some (.cells #[.int .i64 0,.int .i64 0,.int .i64 0] 53 (0,0))):=⟨by rw [← hq_];exact (bkA BK135)⟩;have n3_:Aside0 (Below w.heap.size w w11):=⟨by rw [← hq_];exact blA⟩;clear BK133 BK134 BK135 HB hq_;have BK133:=n0_;have BK134:=n1_;have BK135:=n2_;have HB:=n3_;clear n0_ n1_ n2_ n3_))))
 have n0_:=Aside0.mk (blk_drew BK133.out)
 have n1_:=Aside0.mk (blk_drew BK134.out)
 have n2_:=Aside0.mk (blk_drew BK135.out)
 have n3_:=Aside0.mk (below_drew1 HB.out)
 clear BK133
 clear BK134
 clear BK135
 clear HB
 have BK133:=n0_
 have BK134:=n1_
 have BK135:=n2_
 have HB:=n3_
 clear n0_ n1_ n2_ n3_
 refine start_ (n:=10) (S:=fun w'=>w'.cell? ⟨gb134,0,none⟩=some (.int .i64 a2_0)∧w'.cell? ⟨gb134,1,none⟩=some (.int .i64 a2_1)∧w'.cell? ⟨gb134,2,none⟩=some (.int .i64 a2_2)) (ds:=[]) #[Z,Z,Z,Z,Z,Z,Z,Z,Z,Z] (by kernel_rfl) rfl rfl ⟨cA BK134 0,cA BK134 1,cA BK134 2⟩ (fun hHeld=>?_);refine with_tabW spec_l04Move.tab3 spec_l04Move.bits3 (fun HT_ HW_=>?_)
 generalize w11.drew=w15 at BK133 BK134 BK135 HB hHeld ⊢
 refine puA (i:=0) (N:=some 30) #[Y,Z,Z,Z,Z,Z,Z,Z,Z,Z] rfl rfl HT_ ?_
 refine puA (i:=2) (N:=some 32) #[Y,Z,Y,Z,Z,Z,Z,Z,Z,Z] rfl rfl HT_ ?_
 refine puA (i:=3) (N:=some 33) #[Y,Z,Y,Y,Z,Z,Z,Z,Z,Z] rfl rfl HT_ ?_
 refine puA (i:=4) (N:=some 34) #[Y,Z,Y,Y,Y,Z,Z,Z,Z,Z] rfl rfl HT_ ?_
 refine taA (i:=1) (N:=some 31) #[Y,Y,Y,Y,Y,Z,Z,Z,Z,Z] rfl rfl HT_ HW_ hHeld ?_
 refine taA (i:=5) (N:=some 35) #[Y,Y,Y,Y,Y,Y,Z,Z,Z,Z] rfl rfl HT_ HW_ hHeld ?_
 refine puA (i:=6) (N:=some 36) #[Y,Y,Y,Y,Y,Y,Y,Z,Z,Z] rfl rfl HT_ ?_
 refine one_ (i:=7) (N:=some 37) #[Y,Y,Y,Y,Y,Y,Y,Y,Z,Z] rfl rfl (one_of HT_.out (by kernel_rfl)) (by decide) (fun K hK=>?_)
 refine goes_ Try.func41 (by kernel_rfl) rfl #[.int .i64 a0,.int .i64 (wrap64 ((ji4) - a2_2))] (by rfl) rfl rfl (by (try simp only [List.map_toArray,List.map_cons,List.map_nil]);first|done|(simp only [hji4];rfl)|rfl|(simp only [List.length_drop,List.length_take];rfl)) ?_
 with_reducible refine (spec_l01Power.calls k a0 (wrap64 ((ji4) - a2_2)) t138 _ A7.out).mono ?_
 rintro e w' ⟨rfl,⟨nd,rfl⟩⟩
 refine ⟨_,rfl,?_⟩
 refine hK.out _ _ ⟨cA BK134 0,cA BK134 1,cA BK134 2⟩ (fun hHeld=>?_)
 clear hK K
 refine nmA ?_
 refine puA (i:=8) (N:=some 38) #[Y,Y,Y,Y,Y,Y,Y,Y,Y,Z] rfl rfl HT_ ?_
 refine puA (i:=9) (N:=some 11) #[Y,Y,Y,Y,Y,Y,Y,Y,Y,Y] rfl rfl HT_ ?_
 refine done_ (done_of HT_.out (by kernel_rfl)) ?_
 have hnb16:=NB133_135.out
 have hnc16:=NB135_133.out
 obtain ⟨hcz17_0,hcz17_1,hcz17_2,hcz17_3,hfz17_0,hfz17_1,hfz17_2,hfz17_3⟩:=cz4 BK133
 go_upto_region 6 with (first|((with_reducible refine gate_dst (N:=12) rfl ?_);refine bxE (cs:=#[.int .i64 0,.int .i64 0]) (t:=40) ?_;intro gb139 hg w18 hbox hb;have n0_:=kB BK133 hb;have n1_:=kB BK134 hb;have n2_:=kB BK135 hb;have n3_:=lB hb;have n4_:=Aside0.mk hbox;have n5_:=sA hg;have n6_:=sA hg;have n7_:=nA hg BK133;have n8_:=nB hg BK133;have n9_:=nA hg BK134;have n10_:=nB hg BK134;have n11_:=nA hg BK135;have n12_:=nB hg BK135;clear BK133;clear BK134;clear BK135;clear HB;have BK133:=n0_;have BK134:=n1_;have BK135:=n2_;have HB:=n3_;have BK139:=n4_;have GW139:=n5_;have GE139:=n6_;have NB133_139:=n7_;have NB139_133:=n8_;have NB134_139:=n9_;have NB139_134:=n10_;have NB135_139:=n11_;have NB139_135:=n12_;clear n0_ n1_ n2_ n3_ n4_ n5_ n6_ n7_ n8_ n9_ n10_ n11_ n12_;clear hb hbox hg;have hnb19:=NB139_133.out;have hnc19:=NB133_139.out;have hnb20:=NB139_134.out;have hnc20:=NB134_139.out;have hnb21:=NB139_135.out;have hnc21:=NB135_139.out;obtain ⟨hcz22_0,hcz22_1,hfz22_0,hfz22_1⟩:=cz2 BK139;obtain ⟨hcz23_0,hcz23_1,hcz23_2,hcz23_3,hfz23_0,hfz23_1,hfz23_2,hfz23_3⟩:=cz4 BK133)|((with_reducible refine gate_dst (N:=13) rfl ?_);refine bxE (cs:=#[.int .i64 0,.int .i64 0]) (t:=40) ?_;intro gb140 hg w24 hbox hb;have n0_:=Aside0.mk (blk_below (g:=gb133) (o:=.cells #[.int .i64 a1_0,.int .i64 a1_1,.int .i64 a1_2,.int .i64 a1_3] 42 (0,0)) (bkF BK133) hb);have n1_:=Aside0.mk (blk_below (g:=gb134) (o:=.cells #[.int .i64 a2_0,.int .i64 a2_1,.int .i64 a2_2] 53 (0,0)) (bkF BK134) hb);have n2_:=Aside0.mk (blk_below (g:=gb135) (o:=.cells #[.int .i64 0,.int .i64 0,.int .i64 0] 53 (0,0)) (bkF BK135) hb);have n3_:=Aside0.mk (blk_below (g:=gb139) (o:=.cells #[.int .i64 (wrap64 (a1_0*t136)),.int .i64 (wrap64 (a1_2*t136))] 40 (0,0)) (bpA BK139) hb);have n4_:=lB hb;have n5_:=Aside0.mk hbox;have n6_:=sA hg;have n7_:=sA hg;have n8_:=Aside0.mk ((by rw [hg];exact Nat.ne_of_lt (blk_lt (g:=gb133) (o:=.cells #[.int .i64 a1_0,.int .i64 a1_1,.int .i64 a1_2,.int .i64 a1_3] 42 (0,0)) (bkF BK133)):gb133≠gb140));have n9_:=Aside0.mk ((by rw [hg];exact Nat.ne_of_gt (blk_lt (g:=gb133) (o:=.cells #[.int .i64 a1_0,.int .i64 a1_1,.int .i64 a1_2,.int .i64 a1_3] 42 (0,0)) (bkF BK133)):gb140≠gb133));have n10_:=Aside0.mk ((by rw [hg];exact Nat.ne_of_lt (blk_lt (g:=gb134) (o:=.cells #[.int .i64 a2_0,.int .i64 a2_1,.int .i64 a2_2] 53 (0,0)) (bkF BK134)):gb134≠gb140));have n11_:=Aside0.mk ((by rw [hg];exact Nat.ne_of_gt (blk_lt (g:=gb134) (o:=.cells #[.int .i64 a2_0,.int .i64 a2_1,.int .i64 a2_2] 53 (0,0)) (bkF BK134)):gb140≠gb134));have n12_:=Aside0.mk ((by rw [hg];exact Nat.ne_of_lt (blk_lt (g:=gb135) (o:=.cells #[.int .i64 0,.int .i64 0,.int .i64 0] 53 (0,0)) (bkF BK135)):gb135≠gb140));have n13_:=Aside0.mk ((by rw [hg];exact Nat.ne_of_gt (blk_lt (g:=gb135) (o:=.cells #[.int .i64 0,.int .i64 0,.int .i64 0] 53 (0,0)) (bkF BK135)):gb140≠gb135));have n14_:=Aside0.mk ((by rw [hg];exact Nat.ne_of_lt (blk_lt (g:=gb139) (o:=.cells #[.int .i64 (wrap64 (a1_0*t136)),.int .i64 (wrap64 (a1_2*t136))] 40 (0,0)) (bpA BK139)):gb139≠gb140));have n15_:=Aside0.mk ((by rw [hg];exact Nat.ne_of_gt (blk_lt (g:=gb139) (o:=.cells #[.int .i64 (wrap64 (a1_0*t136)),.int .i64 (wrap64 (a1_2*t136))] 40 (0,0)) (bpA BK139)):gb140≠gb139));clear BK133;clear BK134;clear BK135;clear BK139;clear HB;have BK133:=n0_;have BK134:=n1_;have BK135:=n2_;have BK139:=n3_;have HB:=n4_;have BK140:=n5_;have GW140:=n6_;have GE140:=n7_;have NB133_140:=n8_;have NB140_133:=n9_;have NB134_140:=n10_;have NB140_134:=n11_;have NB135_140:=n12_;have NB140_135:=n13_;have NB139_140:=n14_;have NB140_139:=n15_;clear n0_ n1_ n2_ n3_ n4_ n5_ n6_ n7_ n8_ n9_ n10_ n11_ n12_ n13_ n14_ n15_;clear hb hbox hg;have hnb25:=NB140_133.out;have hnc25:=NB133_140.out;have hnb26:=NB140_134.out;have hnc26:=NB134_140.out;have hnb27:=NB140_135.out;have hnc27:=NB135_140.out;have hnb28:=NB140_139.out;have hnc28:=NB139_140.out;obtain ⟨hcz29_0,hcz29_1,hfz29_0,hfz29_1⟩:=cz2 BK140))
 (try simp only [Act.put,List.setIfInBounds_toArray,List.set_cons_zero,List.set_cons_succ])
 go_cut [91] (fun v91 wc=>∃ (kq:Nat) (x91_7:Bool),v91=.bool x91_7∧Aside0 (spec_l04Move.j0 kq a0 ji4 x91_7 a1_0 a1_1 a1_2 a1_3 a2_0 a2_1 a2_2 (wrap64 (a1_0*t136)) (wrap64 (a1_2*t136)) (wrap64 ((wrap64 (a1_0*(wrap64 (a2_1*t138))))+(wrap64 (a1_1*t137)))) (wrap64 ((wrap64 (a1_2*(wrap64 (a2_1*t138))))+(wrap64 (a1_3*t137))))=some (r1,r2,r3,r4))∧Aside0 (kq≤k)∧Aside0 (wc.heap[gb133]?=some (.cells #[.int .i64 a1_0,.int .i64 a1_1,.int .i64 a1_2,.int .i64 a1_3] 42 (0,0)))∧Aside0 (wc.heap[gb134]?=some (.cells #[.int .i64 a2_0,.int .i64 a2_1,.int .i64 a2_2] 53 (0,0)))∧Aside0 (wc.heap[gb135]?=some (.cells #[.int .i64 0,.int .i64 0,.int .i64 0] 53 (0,0)))∧Aside0 (wc.heap[gb139]?=some (.cells #[.int .i64 (wrap64 (a1_0*t136)),.int .i64 (wrap64 (a1_2*t136))] 40 (0,0)))∧Aside0 (wc.heap[gb140]?=some (.cells #[.int .i64 (wrap64 ((wrap64 (a1_0*(wrap64 (a2_1*t138))))+(wrap64 (a1_1*t137)))),.int .i64 (wrap64 ((wrap64 (a1_2*(wrap64 (a2_1*t138))))+(wrap64 (a1_3*t137))))] 40 (0,0)))∧Aside0 (Below w.heap.size w wc))
 case first=>
  have H:=HC8.out
  clear HC8
  by_cases c30:(wrap64 ((wrap64 (a1_2*(wrap64 (a2_1*t138))))+(wrap64 (a1_3*t137))))=0
  ·
   rw [if_pos c30] at H
   have c30b0:((wrap64 ((wrap64 (a1_2*(wrap64 (a2_1*t138))))+(wrap64 (a1_3*t137)))) == 0)=true:=beq_iff_eq.mpr c30
   have c30b1:((wrap64 ((wrap64 (a1_2*(wrap64 (a2_1*t138))))+(wrap64 (a1_3*t137)))) != 0)=false:=bne_eq_false_iff_eq.mpr c30
   clear c30
   (first|rw [c30b0]|(simp only [i64_w,i32_w];rw [c30b0])|skip)
   have H':=Aside0.mk H
   clear H
   try go_wp2
   have n0_:Aside0 (((w24.setCell ⟨gb140,0,none⟩ (.int .i64 (wrap64 ((wrap64 (a1_0*(wrap64 (a2_1*t138))))+(wrap64 (a1_1*t137)))))).setCell ⟨gb140,1,none⟩ (.int .i64 (wrap64 ((wrap64 (a1_2*(wrap64 (a2_1*t138))))+(wrap64 (a1_3*t137)))))).heap[gb133]?=some (.cells #[.int .i64 a1_0,.int .i64 a1_1,.int .i64 a1_2,.int .i64 a1_3] 42 (0,0))):=⟨bkF BK133⟩
   have n1_:Aside0 (((w24.setCell ⟨gb140,0,none⟩ (.int .i64 (wrap64 ((wrap64 (a1_0*(wrap64 (a2_1*t138))))+(wrap64 (a1_1*t137)))))).setCell ⟨gb140,1,none⟩ (.int .i64 (wrap64 ((wrap64 (a1_2*(wrap64 (a2_1*t138))))+(wrap64 (a1_3*t137)))))).heap[gb134]?=some (.cells #[.int .i64 a2_0,.int .i64 a2_1,.int .i64 a2_2] 53 (0,0))):=⟨bkF BK134⟩
   have n2_:Aside0 (((w24.setCell ⟨gb140,0,none⟩ (.int .i64 (wrap64 ((wrap64 (a1_0*(wrap64 (a2_1*t138))))+(wrap64 (a1_1*t137)))))).setCell ⟨gb140,1,none⟩ (.int .i64 (wrap64 ((wrap64 (a1_2*(wrap64 (a2_1*t138))))+(wrap64 (a1_3*t137)))))).heap[gb135]?=some (.cells #[.int .i64 0,.int .i64 0,.int .i64 0] 53 (0,0))):=⟨bkF BK135⟩
   have n3_:Aside0 (((w24.setCell ⟨gb140,0,none⟩ (.int .i64 (wrap64 ((wrap64 (a1_0*(wrap64 (a2_1*t138))))+(wrap64 (a1_1*t137)))))).setCell ⟨gb140,1,none⟩ (.int .i64 (wrap64 ((wrap64 (a1_2*(wrap64 (a2_1*t138))))+(wrap64 (a1_3*t137)))))).heap[gb139]?=some (.cells #[.int .i64 (wrap64 (a1_0*t136)),.int .i64 (wrap64 (a1_2*t136))] 40 (0,0))):=⟨bkF BK139⟩
   have n4_:Aside0 (((w24.setCell ⟨gb140,0,none⟩ (.int .i64 (wrap64 ((wrap64 (a1_0*(wrap64 (a2_1*t138))))+(wrap64 (a1_1*t137)))))).setCell ⟨gb140,1,none⟩ (.int .i64 (wrap64 ((wrap64 (a1_2*(wrap64 (a2_1*t138))))+(wrap64 (a1_3*t137)))))).heap[gb140]?=some (.cells #[.int .i64 (wrap64 ((wrap64 (a1_0*(wrap64 (a2_1*t138))))+(wrap64 (a1_1*t137)))),.int .i64 (wrap64 ((wrap64 (a1_2*(wrap64 (a2_1*t138))))+(wrap64 (a1_3*t137))))] 40 (0,0))):=⟨bpA BK140⟩
   have n5_:Aside0 (Below w.heap.size w ((w24.setCell ⟨gb140,0,none⟩ (.int .i64 (wrap64 ((wrap64 (a1_0*(wrap64 (a2_1*t138))))+(wrap64 (a1_1*t137)))))).setCell ⟨gb140,1,none⟩ (.int .i64 (wrap64 ((wrap64 (a1_2*(wrap64 (a2_1*t138))))+(wrap64 (a1_3*t137))))))):=⟨blA⟩
   (try clear BK133)
   (try clear BK134)
   (try clear BK135)
   (try clear BK139)
   (try clear BK140)
   (try clear HB)
   generalize ((w24.setCell ⟨gb140,0,none⟩ (.int .i64 (wrap64 ((wrap64 (a1_0*(wrap64 (a2_1*t138))))+(wrap64 (a1_1*t137)))))).setCell ⟨gb140,1,none⟩ (.int .i64 (wrap64 ((wrap64 (a1_2*(wrap64 (a2_1*t138))))+(wrap64 (a1_3*t137))))))=w31 at n0_ n1_ n2_ n3_ n4_ n5_ ⊢
   have BK133:=n0_
   have BK134:=n1_
   have BK135:=n2_
   have BK139:=n3_
   have BK140:=n4_
   have HB:=n5_
   clear n0_ n1_ n2_ n3_ n4_ n5_
   have n0_:=Aside0.mk (blk_drew BK133.out)
   have n1_:=Aside0.mk (blk_drew BK134.out)
   have n2_:=Aside0.mk (blk_drew BK135.out)
   have n3_:=Aside0.mk (blk_drew BK139.out)
   have n4_:=Aside0.mk (blk_drew BK140.out)
   have n5_:=Aside0.mk (below_drew1 HB.out)
   clear BK133
   clear BK134
   clear BK135
   clear BK139
   clear BK140
   clear HB
   have BK133:=n0_
   have BK134:=n1_
   have BK135:=n2_
   have BK139:=n3_
   have BK140:=n4_
   have HB:=n5_
   clear n0_ n1_ n2_ n3_ n4_ n5_
   refine start_ (n:=19) (S:=fun w'=>w'.cell? ⟨gb140,0,none⟩=some (.int .i64 (wrap64 ((wrap64 (a1_0*(wrap64 (a2_1*t138))))+(wrap64 (a1_1*t137)))))∧w'.cell? ⟨gb140,1,none⟩=some (.int .i64 (wrap64 ((wrap64 (a1_2*(wrap64 (a2_1*t138))))+(wrap64 (a1_3*t137)))))) (ds:=[]) #[Z,Z,Z,Z,Z,Z,Z,Z,Z,Z,Z,Z,Z,Z,Z,Z,Z,Z,Z] (by kernel_rfl) rfl rfl ⟨cA BK140 0,cA BK140 1⟩ (fun hHeld=>?_);refine with_tabW spec_l04Move.tab6 spec_l04Move.bits6 (fun HT_ HW_=>?_)
   generalize w31.drew=w32 at BK133 BK134 BK135 BK139 BK140 HB hHeld ⊢
   refine puA (i:=0) (N:=some 73) #[Y,Z,Z,Z,Z,Z,Z,Z,Z,Z,Z,Z,Z,Z,Z,Z,Z,Z,Z] rfl rfl HT_ ?_
   refine taA (i:=1) (N:=some 74) #[Y,Y,Z,Z,Z,Z,Z,Z,Z,Z,Z,Z,Z,Z,Z,Z,Z,Z,Z] rfl rfl HT_ HW_ hHeld ?_
   refine puA (i:=2) (N:=some 75) #[Y,Y,Y,Z,Z,Z,Z,Z,Z,Z,Z,Z,Z,Z,Z,Z,Z,Z,Z] rfl rfl HT_ ?_
   refine puA (i:=3) (N:=some 76) #[Y,Y,Y,Y,Z,Z,Z,Z,Z,Z,Z,Z,Z,Z,Z,Z,Z,Z,Z] rfl rfl HT_ ?_
   refine puU (i:=4) (N:=some 77) #[Y,Y,Y,Y,Y,Z,Z,Z,Z,Z,Z,Z,Z,Z,Z,Z,Z,Z,Z] rfl rfl HT_ ?_
   refine puU (i:=5) (N:=some 78) #[Y,Y,Y,Y,Y,Y,Z,Z,Z,Z,Z,Z,Z,Z,Z,Z,Z,Z,Z] rfl rfl HT_ ?_
   refine puU (i:=6) (N:=some 79) #[Y,Y,Y,Y,Y,Y,Y,Z,Z,Z,Z,Z,Z,Z,Z,Z,Z,Z,Z] rfl rfl HT_ ?_
   refine puU (i:=7) (N:=some 80) #[Y,Y,Y,Y,Y,Y,Y,Y,Z,Z,Z,Z,Z,Z,Z,Z,Z,Z,Z] rfl rfl HT_ ?_
   refine puU (i:=8) (N:=some 81) #[Y,Y,Y,Y,Y,Y,Y,Y,Y,Z,Z,Z,Z,Z,Z,Z,Z,Z,Z] rfl rfl HT_ ?_
   refine puU (i:=9) (N:=some 82) #[Y,Y,Y,Y,Y,Y,Y,Y,Y,Y,Z,Z,Z,Z,Z,Z,Z,Z,Z] rfl rfl HT_ ?_
   refine puU (i:=10) (N:=some 83) #[Y,Y,Y,Y,Y,Y,Y,Y,Y,Y,Y,Z,Z,Z,Z,Z,Z,Z,Z] rfl rfl HT_ ?_
   refine puU (i:=11) (N:=some 84) #[Y,Y,Y,Y,Y,Y,Y,Y,Y,Y,Y,Y,Z,Z,Z,Z,Z,Z,Z] rfl rfl HT_ ?_
   refine puU (i:=12) (N:=some 85) #[Y,Y,Y,Y,Y,Y,Y,Y,Y,Y,Y,Y,Y,Z,Z,Z,Z,Z,Z] rfl rfl HT_ ?_
   refine puU (i:=13) (N:=some 86) #[Y,Y,Y,Y,Y,Y,Y,Y,Y,Y,Y,Y,Y,Y,Z,Z,Z,Z,Z] rfl rfl HT_ ?_
   refine puU (i:=14) (N:=some 87) #[Y,Y,Y,Y,Y,Y,Y,Y,Y,Y,Y,Y,Y,Y,Y,Z,Z,Z,Z] rfl rfl HT_ ?_
   refine puU (i:=15) (N:=some 88) #[Y,Y,Y,Y,Y,Y,Y,Y,Y,Y,Y,Y,Y,Y,Y,Y,Z,Z,Z] rfl rfl HT_ ?_
   refine puU (i:=16) (N:=some 89) #[Y,Y,Y,Y,Y,Y,Y,Y,Y,Y,Y,Y,Y,Y,Y,Y,Y,Z,Z] rfl rfl HT_ ?_
   refine puU (i:=17) (N:=some 90) #[Y,Y,Y,Y,Y,Y,Y,Y,Y,Y,Y,Y,Y,Y,Y,Y,Y,Y,Z] rfl rfl HT_ ?_
   refine puA (i:=18) (N:=some 91) #[Y,Y,Y,Y,Y,Y,Y,Y,Y,Y,Y,Y,Y,Y,Y,Y,Y,Y,Y] rfl rfl HT_ ?_
   refine done_ (done_of HT_.out (by kernel_rfl)) ?_
   try go_wp2
   go_meet
   case rel=>exact ⟨_,(true),hB,H',⟨by first|omega|exact Nat.le_refl _⟩,⟨bkA BK133⟩,⟨bkA BK134⟩,⟨bkA BK135⟩,⟨bkA BK139⟩,⟨bkA BK140⟩,⟨blA⟩⟩
  ·
   rw [if_neg c30] at H
   have c30b0:((wrap64 ((wrap64 (a1_2*(wrap64 (a2_1*t138))))+(wrap64 (a1_3*t137)))) == 0)=false:=beq_eq_false_iff_ne.mpr c30
   have c30b1:((wrap64 ((wrap64 (a1_2*(wrap64 (a2_1*t138))))+(wrap64 (a1_3*t137)))) != 0)=true:=bne_iff_ne.mpr c30
   (first|rw [c30b0]|(simp only [i64_w,i32_w];rw [c30b0])|skip)
   by_cases c33:(wrap64 (a1_2*t136))=0
   focus
    rw [if_pos c33] at H
    have c33b0:((wrap64 (a1_2*t136)) == 0)=true:=beq_iff_eq.mpr c33
    have c33b1:((wrap64 (a1_2*t136)) != 0)=false:=bne_eq_false_iff_eq.mpr c33
    clear c33
    have H':=Aside0.mk H
    clear H
   rotate_left
   focus
    rw [if_neg c33] at H
    have c33b0:((wrap64 (a1_2*t136)) == 0)=false:=beq_eq_false_iff_ne.mpr c33
    have c33b1:((wrap64 (a1_2*t136)) != 0)=true:=bne_iff_ne.mpr c33
    replace H:=bS H
    obtain ⟨t141,A36,H⟩:=H
    try dsimp only at H
    replace H:=bS H
    obtain ⟨t142,A37,H⟩:=H
    try dsimp only at H
    have H':=Aside0.mk H
    clear H
   rotate_left
   all_goals
    try go_wp2
    have n0_:Aside0 (((w24.setCell ⟨gb140,0,none⟩ (.int .i64 (wrap64 ((wrap64 (a1_0*(wrap64 (a2_1*t138))))+(wrap64 (a1_1*t137)))))).setCell ⟨gb140,1,none⟩ (.int .i64 (wrap64 ((wrap64 (a1_2*(wrap64 (a2_1*t138))))+(wrap64 (a1_3*t137)))))).heap[gb133]?=some (.cells #[.int .i64 a1_0,.int .i64 a1_1,.int .i64 a1_2,.int .i64 a1_3] 42 (0,0))):=⟨bkF BK133⟩
    have n1_:Aside0 (((w24.setCell ⟨gb140,0,none⟩ (.int .i64 (wrap64 ((wrap64 (a1_0*(wrap64 (a2_1*t138))))+(wrap64 (a1_1*t137)))))).setCell ⟨gb140,1,none⟩ (.int .i64 (wrap64 ((wrap64 (a1_2*(wrap64 (a2_1*t138))))+(wrap64 (a1_3*t137)))))).heap[gb134]?=some (.cells #[.int .i64 a2_0,.int .i64 a2_1,.int .i64 a2_2] 53 (0,0))):=⟨bkF BK134⟩
    have n2_:Aside0 (((w24.setCell ⟨gb140,0,none⟩ (.int .i64 (wrap64 ((wrap64 (a1_0*(wrap64 (a2_1*t138))))+(wrap64 (a1_1*t137)))))).setCell ⟨gb140,1,none⟩ (.int .i64 (wrap64 ((wrap64 (a1_2*(wrap64 (a2_1*t138))))+(wrap64 (a1_3*t137)))))).heap[gb135]?=some (.cells #[.int .i64 0,.int .i64 0,.int .i64 0] 53 (0,0))):=⟨bkF BK135⟩
    have n3_:Aside0 (((w24.setCell ⟨gb140,0,none⟩ (.int .i64 (wrap64 ((wrap64 (a1_0*(wrap64 (a2_1*t138))))+(wrap64 (a1_1*t137)))))).setCell ⟨gb140,1,none⟩ (.int .i64 (wrap64 ((wrap64 (a1_2*(wrap64 (a2_1*t138))))+(wrap64 (a1_3*t137)))))).heap[gb139]?=some (.cells #[.int .i64 (wrap64 (a1_0*t136)),.int .i64 (wrap64 (a1_2*t136))] 40 (0,0))):=⟨bkF BK139⟩
    have n4_:Aside0 (((w24.setCell ⟨gb140,0,none⟩ (.int .i64 (wrap64 ((wrap64 (a1_0*(wrap64 (a2_1*t138))))+(wrap64 (a1_1*t137)))))).setCell ⟨gb140,1,none⟩ (.int .i64 (wrap64 ((wrap64 (a1_2*(wrap64 (a2_1*t138))))+(wrap64 (a1_3*t137)))))).heap[gb140]?=some (.cells #[.int .i64 (wrap64 ((wrap64 (a1_0*(wrap64 (a2_1*t138))))+(wrap64 (a1_1*t137)))),.int .i64 (wrap64 ((wrap64 (a1_2*(wrap64 (a2_1*t138))))+(wrap64 (a1_3*t137))))] 40 (0,0))):=⟨bpA BK140⟩
    have n5_:Aside0 (Below w.heap.size w ((w24.setCell ⟨gb140,0,none⟩ (.int .i64 (wrap64 ((wrap64 (a1_0*(wrap64 (a2_1*t138))))+(wrap64 (a1_1*t137)))))).setCell ⟨gb140,1,none⟩ (.int .i64 (wrap64 ((wrap64 (a1_2*(wrap64 (a2_1*t138))))+(wrap64 (a1_3*t137))))))):=⟨blA⟩
    (try clear BK133)
    (try clear BK134)
    (try clear BK135)
    (try clear BK139)
    (try clear BK140)
    (try clear HB)
    generalize ((w24.setCell ⟨gb140,0,none⟩ (.int .i64 (wrap64 ((wrap64 (a1_0*(wrap64 (a2_1*t138))))+(wrap64 (a1_1*t137)))))).setCell ⟨gb140,1,none⟩ (.int .i64 (wrap64 ((wrap64 (a1_2*(wrap64 (a2_1*t138))))+(wrap64 (a1_3*t137))))))=w34 at n0_ n1_ n2_ n3_ n4_ n5_ ⊢
    have BK133:=n0_
    have BK134:=n1_
    have BK135:=n2_
    have BK139:=n3_
    have BK140:=n4_
    have HB:=n5_
    clear n0_ n1_ n2_ n3_ n4_ n5_
    have n0_:=Aside0.mk (blk_drew BK133.out)
    have n1_:=Aside0.mk (blk_drew BK134.out)
    have n2_:=Aside0.mk (blk_drew BK135.out)
    have n3_:=Aside0.mk (blk_drew BK139.out)
    have n4_:=Aside0.mk (blk_drew BK140.out)
    have n5_:=Aside0.mk (below_drew1 HB.out)
    clear BK133
    clear BK134
    clear BK135
    clear BK139
    clear BK140
    clear HB
    have BK133:=n0_
    have BK134:=n1_
    have BK135:=n2_
    have BK139:=n3_
    have BK140:=n4_
    have HB:=n5_
    clear n0_ n1_ n2_ n3_ n4_ n5_
   ·
    refine start_ (n:=19) (S:=fun w'=>w'.cell? ⟨gb140,0,none⟩=some (.int .i64 (wrap64 ((wrap64 (a1_0*(wrap64 (a2_1*t138))))+(wrap64 (a1_1*t137)))))∧w'.cell? ⟨gb140,1,none⟩=some (.int .i64 (wrap64 ((wrap64 (a1_2*(wrap64 (a2_1*t138))))+(wrap64 (a1_3*t137)))))∧w'.cell? ⟨gb139,0,none⟩=some (.int .i64 (wrap64 (a1_0*t136)))∧w'.cell? ⟨gb139,1,none⟩=some (.int .i64 (wrap64 (a1_2*t136)))) (ds:=[]) #[Z,Z,Z,Z,Z,Z,Z,Z,Z,Z,Z,Z,Z,Z,Z,Z,Z,Z,Z] (by kernel_rfl) rfl rfl ⟨cA BK140 0,cA BK140 1,cA BK139 0,cA BK139 1⟩ (fun hHeld=>?_);refine with_tabW spec_l04Move.tab6 spec_l04Move.bits6 (fun HT_ HW_=>?_)
    generalize w34.drew=w35 at BK133 BK134 BK135 BK139 BK140 HB hHeld ⊢
    refine puA (i:=0) (N:=some 73) #[Y,Z,Z,Z,Z,Z,Z,Z,Z,Z,Z,Z,Z,Z,Z,Z,Z,Z,Z] rfl rfl HT_ ?_
    refine taA (i:=1) (N:=some 74) #[Y,Y,Z,Z,Z,Z,Z,Z,Z,Z,Z,Z,Z,Z,Z,Z,Z,Z,Z] rfl rfl HT_ HW_ hHeld ?_
    refine puA (i:=2) (N:=some 75) #[Y,Y,Y,Z,Z,Z,Z,Z,Z,Z,Z,Z,Z,Z,Z,Z,Z,Z,Z] rfl rfl HT_ ?_
    refine puA (i:=3) (N:=some 76) #[Y,Y,Y,Y,Z,Z,Z,Z,Z,Z,Z,Z,Z,Z,Z,Z,Z,Z,Z] rfl rfl HT_ ?_
    refine puA (i:=4) (N:=some 77) #[Y,Y,Y,Y,Y,Z,Z,Z,Z,Z,Z,Z,Z,Z,Z,Z,Z,Z,Z] rfl rfl HT_ ?_
    refine taA (i:=5) (N:=some 78) #[Y,Y,Y,Y,Y,Y,Z,Z,Z,Z,Z,Z,Z,Z,Z,Z,Z,Z,Z] rfl rfl HT_ HW_ hHeld ?_
    refine puA (i:=6) (N:=some 79) #[Y,Y,Y,Y,Y,Y,Y,Z,Z,Z,Z,Z,Z,Z,Z,Z,Z,Z,Z] rfl rfl HT_ ?_
    refine puA (i:=7) (N:=some 80) #[Y,Y,Y,Y,Y,Y,Y,Y,Z,Z,Z,Z,Z,Z,Z,Z,Z,Z,Z] rfl rfl HT_ ?_
    refine puU (i:=8) (N:=some 81) #[Y,Y,Y,Y,Y,Y,Y,Y,Y,Z,Z,Z,Z,Z,Z,Z,Z,Z,Z] rfl rfl HT_ ?_
    refine puU (i:=9) (N:=some 82) #[Y,Y,Y,Y,Y,Y,Y,Y,Y,Y,Z,Z,Z,Z,Z,Z,Z,Z,Z] rfl rfl HT_ ?_
    refine puU (i:=10) (N:=some 83) #[Y,Y,Y,Y,Y,Y,Y,Y,Y,Y,Y,Z,Z,Z,Z,Z,Z,Z,Z] rfl rfl HT_ ?_
    refine puU (i:=11) (N:=some 84) #[Y,Y,Y,Y,Y,Y,Y,Y,Y,Y,Y,Y,Z,Z,Z,Z,Z,Z,Z] rfl rfl HT_ ?_
    refine puU (i:=12) (N:=some 85) #[Y,Y,Y,Y,Y,Y,Y,Y,Y,Y,Y,Y,Y,Z,Z,Z,Z,Z,Z] rfl rfl HT_ ?_
    refine puU (i:=13) (N:=some 86) #[Y,Y,Y,Y,Y,Y,Y,Y,Y,Y,Y,Y,Y,Y,Z,Z,Z,Z,Z] rfl rfl HT_ ?_
    refine puU (i:=14) (N:=some 87) #[Y,Y,Y,Y,Y,Y,Y,Y,Y,Y,Y,Y,Y,Y,Y,Z,Z,Z,Z] rfl rfl HT_ ?_
    refine puU (i:=15) (N:=some 88) #[Y,Y,Y,Y,Y,Y,Y,Y,Y,Y,Y,Y,Y,Y,Y,Y,Z,Z,Z] rfl rfl HT_ ?_
    refine puU (i:=16) (N:=some 89) #[Y,Y,Y,Y,Y,Y,Y,Y,Y,Y,Y,Y,Y,Y,Y,Y,Y,Z,Z] rfl rfl HT_ ?_
    refine puA (i:=17) (N:=some 90) #[Y,Y,Y,Y,Y,Y,Y,Y,Y,Y,Y,Y,Y,Y,Y,Y,Y,Y,Z] rfl rfl HT_ ?_
    refine puA (i:=18) (N:=some 91) #[Y,Y,Y,Y,Y,Y,Y,Y,Y,Y,Y,Y,Y,Y,Y,Y,Y,Y,Y] rfl rfl HT_ ?_
    refine done_ (done_of HT_.out (by kernel_rfl)) ?_
    try go_wp2
    go_meet
    case rel=>exact ⟨_,(false),hB,H',⟨by first|omega|exact Nat.le_refl _⟩,⟨bkA BK133⟩,⟨bkA BK134⟩,⟨bkA BK135⟩,⟨bkA BK139⟩,⟨bkA BK140⟩,⟨blA⟩⟩
   ·
    refine start_ (n:=19) (S:=fun w'=>w'.cell? ⟨gb140,0,none⟩=some (.int .i64 (wrap64 ((wrap64 (a1_0*(wrap64 (a2_1*t138))))+(wrap64 (a1_1*t137)))))∧w'.cell? ⟨gb140,1,none⟩=some (.int .i64 (wrap64 ((wrap64 (a1_2*(wrap64 (a2_1*t138))))+(wrap64 (a1_3*t137)))))∧w'.cell? ⟨gb139,0,none⟩=some (.int .i64 (wrap64 (a1_0*t136)))∧w'.cell? ⟨gb139,1,none⟩=some (.int .i64 (wrap64 (a1_2*t136)))) (ds:=[]) #[Z,Z,Z,Z,Z,Z,Z,Z,Z,Z,Z,Z,Z,Z,Z,Z,Z,Z,Z] (by kernel_rfl) rfl rfl ⟨cA BK140 0,cA BK140 1,cA BK139 0,cA BK139 1⟩ (fun hHeld=>?_);refine with_tabW spec_l04Move.tab6 spec_l04Move.bits6 (fun HT_ HW_=>?_)
    generalize w34.drew=w39 at BK133 BK134 BK135 BK139 BK140 HB hHeld ⊢
    refine puA (i:=0) (N:=some 73) #[Y,Z,Z,Z,Z,Z,Z,Z,Z,Z,Z,Z,Z,Z,Z,Z,Z,Z,Z] rfl rfl HT_ ?_
    refine taA (i:=1) (N:=some 74) #[Y,Y,Z,Z,Z,Z,Z,Z,Z,Z,Z,Z,Z,Z,Z,Z,Z,Z,Z] rfl rfl HT_ HW_ hHeld ?_
    refine puA (i:=2) (N:=some 75) #[Y,Y,Y,Z,Z,Z,Z,Z,Z,Z,Z,Z,Z,Z,Z,Z,Z,Z,Z] rfl rfl HT_ ?_
    refine puA (i:=3) (N:=some 76) #[Y,Y,Y,Y,Z,Z,Z,Z,Z,Z,Z,Z,Z,Z,Z,Z,Z,Z,Z] rfl rfl HT_ ?_
    refine puA (i:=4) (N:=some 77) #[Y,Y,Y,Y,Y,Z,Z,Z,Z,Z,Z,Z,Z,Z,Z,Z,Z,Z,Z] rfl rfl HT_ ?_
    refine taA (i:=5) (N:=some 78) #[Y,Y,Y,Y,Y,Y,Z,Z,Z,Z,Z,Z,Z,Z,Z,Z,Z,Z,Z] rfl rfl HT_ HW_ hHeld ?_
    refine puA (i:=6) (N:=some 79) #[Y,Y,Y,Y,Y,Y,Y,Z,Z,Z,Z,Z,Z,Z,Z,Z,Z,Z,Z] rfl rfl HT_ ?_
    refine puA (i:=7) (N:=some 80) #[Y,Y,Y,Y,Y,Y,Y,Y,Z,Z,Z,Z,Z,Z,Z,Z,Z,Z,Z] rfl rfl HT_ ?_
    refine puA (i:=8) (N:=some 81) #[Y,Y,Y,Y,Y,Y,Y,Y,Y,Z,Z,Z,Z,Z,Z,Z,Z,Z,Z] rfl rfl HT_ ?_
    refine puA (i:=9) (N:=some 82) #[Y,Y,Y,Y,Y,Y,Y,Y,Y,Y,Z,Z,Z,Z,Z,Z,Z,Z,Z] rfl rfl HT_ ?_
    refine puA (i:=12) (N:=some 85) #[Y,Y,Y,Y,Y,Y,Y,Y,Y,Y,Z,Z,Y,Z,Z,Z,Z,Z,Z] rfl rfl HT_ ?_
    refine puA (i:=13) (N:=some 86) #[Y,Y,Y,Y,Y,Y,Y,Y,Y,Y,Z,Z,Y,Y,Z,Z,Z,Z,Z] rfl rfl HT_ ?_
    refine taA (i:=10) (N:=some 83) #[Y,Y,Y,Y,Y,Y,Y,Y,Y,Y,Y,Z,Y,Y,Z,Z,Z,Z,Z] rfl rfl HT_ HW_ hHeld ?_
    refine taA (i:=14) (N:=some 87) #[Y,Y,Y,Y,Y,Y,Y,Y,Y,Y,Y,Z,Y,Y,Y,Z,Z,Z,Z] rfl rfl HT_ HW_ hHeld ?_
    refine one_ (i:=11) (N:=some 84) #[Y,Y,Y,Y,Y,Y,Y,Y,Y,Y,Y,Y,Y,Y,Y,Z,Z,Z,Z] rfl rfl (one_of HT_.out (by kernel_rfl)) (by decide) (fun K hK=>?_)
    refine goes_ Try.func42 (by kernel_rfl) rfl #[.int .i64 a0,.int .i64 (wrap64 ((wrap64 (a1_2*(wrap64 (a2_1*t138))))+(wrap64 (a1_3*t137))))] (by rfl) rfl rfl hA ?_
    with_reducible refine (spec_l01Val.calls k a0 (wrap64 ((wrap64 (a1_2*(wrap64 (a2_1*t138))))+(wrap64 (a1_3*t137)))) t141 _ A36.out).mono ?_
    rintro e w' ⟨rfl,⟨nd,rfl⟩⟩
    refine ⟨_,rfl,?_⟩
    refine hK.out _ _ ⟨cA BK140 0,cA BK140 1,cA BK139 0,cA BK139 1⟩ (fun hHeld=>?_)
    clear hK K
    refine nmA ?_
    refine one_ (i:=15) (N:=some 88) #[Y,Y,Y,Y,Y,Y,Y,Y,Y,Y,Y,Y,Y,Y,Y,Y,Z,Z,Z] rfl rfl (one_of HT_.out (by kernel_rfl)) (by decide) (fun K hK=>?_)
    refine goC Try.func42 (spec_l01Val.calls (w:=_) (h:=A37.out)) ?_
    rintro _ ⟨nd,rfl⟩
    refine hK.out _ _ ⟨cA BK140 0,cA BK140 1,cA BK139 0,cA BK139 1⟩ (fun hHeld=>?_)
    clear hK K
    refine nmA ?_
    refine puA (i:=16) (N:=some 89) #[Y,Y,Y,Y,Y,Y,Y,Y,Y,Y,Y,Y,Y,Y,Y,Y,Y,Z,Z] rfl rfl HT_ ?_
    refine puA (i:=17) (N:=some 90) #[Y,Y,Y,Y,Y,Y,Y,Y,Y,Y,Y,Y,Y,Y,Y,Y,Y,Y,Z] rfl rfl HT_ ?_
    refine puA (i:=18) (N:=some 91) #[Y,Y,Y,Y,Y,Y,Y,Y,Y,Y,Y,Y,Y,Y,Y,Y,Y,Y,Y] rfl rfl HT_ ?_
    refine done_ (done_of HT_.out (by kernel_rfl)) ?_
    try go_wp2
    go_meet
    case rel=>exact ⟨_,(decide (t141>t142)),hB,H',⟨by first|omega|exact Nat.le_refl _⟩,⟨bkA BK133⟩,⟨bkA BK134⟩,⟨bkA BK135⟩,⟨bkA BK139⟩,⟨bkA BK140⟩,⟨blA⟩⟩
 case rest=>
  clear HC8
  try clear c30
  try clear c30b0
  try clear c30b1
  try clear c33
  try clear c33b0
  try clear c33b1
  try clear hcz17_0
  try clear hcz17_1
  try clear hcz17_2
  try clear hcz17_3
  try clear hcz22_0
  try clear hcz22_1
  try clear hcz23_0
  try clear hcz23_1
  try clear hcz23_2
  try clear hcz23_3
  try clear hcz29_0
  try clear hcz29_1
  try clear hfz17_0
  try clear hfz17_1
  try clear hfz17_2
  try clear hfz17_3
  try clear hfz22_0
  try clear hfz22_1
  try clear hfz23_0
  try clear hfz23_1
  try clear hfz23_2
  try clear hfz23_3
  try clear hfz29_0
  try clear hfz29_1
  obtain ⟨kq,x91_7,rfl,HA,HJ7,BK133,BK134,BK135,BK139,BK140,HB⟩:=hcut
  cases kq with
  | zero=>exact absurd HA.out (by simp [spec_l04Move.j0])
  | succ kj7=>
   have H:=HA.out
   clear HA
   simp only [spec_l04Move.j0] at H
   have HC40:=Aside0.mk H
   clear H
   go_upto_if 91 with (fail)
   go_cut [] (fun wc=>∃ (kq:Nat) (x141000_39:Int) (x141001_39:Int),Aside0 (spec_l04Move.j1 kq a0 ji4 a1_0 a1_1 a1_2 a1_3 a2_0 a2_1 a2_2 x141000_39 x141001_39=some (r1,r2,r3,r4))∧Aside0 (kq≤kj7)∧Aside0 (wc.heap[gb133]?=some (.cells #[.int .i64 a1_0,.int .i64 a1_1,.int .i64 a1_2,.int .i64 a1_3] 42 (0,0)))∧Aside0 (wc.heap[gb134]?=some (.cells #[.int .i64 a2_0,.int .i64 a2_1,.int .i64 a2_2] 53 (0,0)))∧Aside0 (wc.heap[gb135]?=some (.cells #[.int .i64 0,.int .i64 0,.int .i64 0] 53 (0,0)))∧Aside0 (wc.heap[gb139]?=some (.cells #[.int .i64 (wrap64 (a1_0*t136)),.int .i64 (wrap64 (a1_2*t136))] 40 (0,0)))∧Aside0 (wc.heap[gb140]?=some (.cells #[.int .i64 x141000_39,.int .i64 x141001_39] 40 (0,0)))∧Aside0 (Below w.heap.size w wc))
   case first=>
    have H:=HC40.out
    clear HC40
    by_cases c41:x91_7=true
    ·
     subst c41
     rw [if_pos rfl] at H
     try dsimp only at H
     have H':=Aside0.mk H
     clear H
     have hnb42:=NB139_133.out
     have hnc42:=NB133_139.out
     have hnb43:=NB139_134.out
     have hnc43:=NB134_139.out
     have hnb44:=NB139_135.out
     have hnc44:=NB135_139.out
     have hnb45:=NB139_140.out
     have hnc45:=NB140_139.out
     obtain ⟨hcz46_0,hcz46_1,hfz46_0,hfz46_1⟩:=cz2 BK139
     have hnb47:=NB140_133.out
     have hnc47:=NB133_140.out
     have hnb48:=NB140_134.out
     have hnc48:=NB134_140.out
     have hnb49:=NB140_135.out
     have hnc49:=NB135_140.out
     have hcz50_0:wc.cell? ⟨gb140,0,none⟩=some (.int .i64 (wrap64 ((wrap64 (a1_0*(wrap64 (a2_1*t138))))+(wrap64 (a1_1*t137))))):=cA BK140 0
     have hcz50_1:wc.cell? ⟨gb140,1,none⟩=some (.int .i64 (wrap64 ((wrap64 (a1_2*(wrap64 (a2_1*t138))))+(wrap64 (a1_3*t137))))):=cA BK140 1
     have hfz50_0:=blk_frozen BK140.out 0
     have hfz50_1:=blk_frozen BK140.out 1
     go_wp2
     go_meet
     case rel=>exact ⟨_,((wrap64 (a1_0*t136))),((wrap64 (a1_2*t136))),H',⟨by have:=HJ7.out;first|omega|exact Nat.le_refl _⟩,⟨bkF BK133⟩,⟨bkF BK134⟩,⟨bkF BK135⟩,⟨bkF BK139⟩,⟨bpA BK140⟩,⟨blA⟩⟩
    ·
     replace c41:=Bool.eq_false_iff.mpr c41
     subst c41
     rw [if_neg (show ¬ (false=true) by decide)] at H
     try dsimp only at H
     have H':=Aside0.mk H
     clear H
     go_wp2
     go_meet
     case rel=>exact ⟨_,((wrap64 ((wrap64 (a1_0*(wrap64 (a2_1*t138))))+(wrap64 (a1_1*t137))))),((wrap64 ((wrap64 (a1_2*(wrap64 (a2_1*t138))))+(wrap64 (a1_3*t137))))),H',⟨by have:=HJ7.out;first|omega|exact Nat.le_refl _⟩,⟨bkA BK133⟩,⟨bkA BK134⟩,⟨bkA BK135⟩,⟨bkA BK139⟩,⟨bkA BK140⟩,⟨blA⟩⟩
   case rest=>
    clear HC40
    try clear c30
    try clear c30b0
    try clear c30b1
    try clear c33
    try clear c33b0
    try clear c33b1
    try clear c41
    try clear hcz17_0
    try clear hcz17_1
    try clear hcz17_2
    try clear hcz17_3
    try clear hcz22_0
    try clear hcz22_1
    try clear hcz23_0
    try clear hcz23_1
    try clear hcz23_2
    try clear hcz23_3
    try clear hcz29_0
    try clear hcz29_1
    try clear hcz46_0
    try clear hcz46_1
    try clear hcz50_0
    try clear hcz50_1
    try clear hfz17_0
    try clear hfz17_1
    try clear hfz17_2
    try clear hfz17_3
    try clear hfz22_0
    try clear hfz22_1
    try clear hfz23_0
    try clear hfz23_1
    try clear hfz23_2
    try clear hfz23_3
    try clear hfz29_0
    try clear hfz29_1
    try clear hfz46_0
    try clear hfz46_1
    try clear hfz50_0
    try clear hfz50_1
    obtain ⟨kq,x141000_39,x141001_39,HA,HJ39,BK133,BK134,BK135,BK139,BK140,HB⟩:=hcut
    cases kq with
    | zero=>exact absurd HA.out (by simp [spec_l04Move.j1])
    | succ kj39=>
     have H:=HA.out
     clear HA
     simp only [spec_l04Move.j1] at H
     replace H:=bS H
     obtain ⟨t143,A51,H⟩:=H
     try dsimp only at H
     replace H:=bS H
     obtain ⟨t144,A52,H⟩:=H
     try dsimp only at H
     replace H:=bS H
     obtain ⟨t145,A53,H⟩:=H
     try dsimp only at H
     replace H:=bS H
     obtain ⟨⟨t146,t147,t148,t149⟩,A54,H⟩:=H
     try dsimp only at H
     simp only [Option.some.injEq,Prod.mk.injEq] at H
     obtain ⟨rfl,rfl,rfl,rfl⟩:=H
     try go_wp2
     have n0_:=Aside0.mk (blk_drew BK133.out)
     have n1_:=Aside0.mk (blk_drew BK134.out)
     have n2_:=Aside0.mk (blk_drew BK135.out)
     have n3_:=Aside0.mk (blk_drew BK139.out)
     have n4_:=Aside0.mk (blk_drew BK140.out)
     have n5_:=Aside0.mk (below_drew1 HB.out)
     clear BK133
     clear BK134
     clear BK135
     clear BK139
     clear BK140
     clear HB
     have BK133:=n0_
     have BK134:=n1_
     have BK135:=n2_
     have BK139:=n3_
     have BK140:=n4_
     have HB:=n5_
     clear n0_ n1_ n2_ n3_ n4_ n5_
     refine start_ (n:=17) (S:=fun w'=>w'.cell? ⟨gb133,0,none⟩=some (.int .i64 a1_0)∧w'.cell? ⟨gb133,1,none⟩=some (.int .i64 a1_1)∧w'.cell? ⟨gb133,2,none⟩=some (.int .i64 a1_2)∧w'.cell? ⟨gb133,3,none⟩=some (.int .i64 a1_3)∧w'.cell? ⟨gb134,0,none⟩=some (.int .i64 a2_0)∧w'.cell? ⟨gb134,1,none⟩=some (.int .i64 a2_1)∧w'.cell? ⟨gb134,2,none⟩=some (.int .i64 a2_2)∧w'.cell? ⟨gb140,0,none⟩=some (.int .i64 x141000_39)∧w'.cell? ⟨gb140,1,none⟩=some (.int .i64 x141001_39)) (ds:=[]) #[Z,Z,Z,Z,Z,Z,Z,Z,Z,Z,Z,Z,Z,Z,Z,Z,Z] (by kernel_rfl) rfl rfl ⟨cA BK133 0,cA BK133 1,cA BK133 2,cA BK133 3,cA BK134 0,cA BK134 1,cA BK134 2,cA BK140 0,cA BK140 1⟩ (fun hHeld=>?_);refine with_tabW spec_l04Move.tab8 spec_l04Move.bits8 (fun HT_ HW_=>?_)
     generalize wc.drew=w55 at BK133 BK134 BK135 BK139 BK140 HB hHeld ⊢
     refine puA (i:=0) (N:=some 93) #[Y,Z,Z,Z,Z,Z,Z,Z,Z,Z,Z,Z,Z,Z,Z,Z,Z] rfl rfl HT_ ?_
     refine puA (i:=4) (N:=some 97) #[Y,Z,Z,Z,Y,Z,Z,Z,Z,Z,Z,Z,Z,Z,Z,Z,Z] rfl rfl HT_ ?_
     refine puA (i:=7) (N:=some 100) #[Y,Z,Z,Z,Y,Z,Z,Y,Z,Z,Z,Z,Z,Z,Z,Z,Z] rfl rfl HT_ ?_
     refine puA (i:=8) (N:=some 101) #[Y,Z,Z,Z,Y,Z,Z,Y,Y,Z,Z,Z,Z,Z,Z,Z,Z] rfl rfl HT_ ?_
     refine puA (i:=10) (N:=some 103) #[Y,Z,Z,Z,Y,Z,Z,Y,Y,Z,Y,Z,Z,Z,Z,Z,Z] rfl rfl HT_ ?_
     refine puA (i:=11) (N:=some 104) #[Y,Z,Z,Z,Y,Z,Z,Y,Y,Z,Y,Y,Z,Z,Z,Z,Z] rfl rfl HT_ ?_
     refine taA (i:=1) (N:=some 94) #[Y,Y,Z,Z,Y,Z,Z,Y,Y,Z,Y,Y,Z,Z,Z,Z,Z] rfl rfl HT_ HW_ hHeld ?_
     refine taA (i:=5) (N:=some 98) #[Y,Y,Z,Z,Y,Y,Z,Y,Y,Z,Y,Y,Z,Z,Z,Z,Z] rfl rfl HT_ HW_ hHeld ?_
     refine taA (i:=12) (N:=some 105) #[Y,Y,Z,Z,Y,Y,Z,Y,Y,Z,Y,Y,Y,Z,Z,Z,Z] rfl rfl HT_ HW_ hHeld ?_
     refine one_ (i:=2) (N:=some 95) #[Y,Y,Y,Z,Y,Y,Z,Y,Y,Z,Y,Y,Y,Z,Z,Z,Z] rfl rfl (one_of HT_.out (by kernel_rfl)) (by decide) (fun K hK=>?_)
     refine goC Try.func43 (spec_l04Det.calls (w:=_) (h:=A51.out)) ?_
     intro w56 hb
     replace BK133:=kB BK133 hb
     replace BK134:=kB BK134 hb
     replace BK135:=kB BK135 hb
     replace BK139:=kB BK139 hb
     replace BK140:=kB BK140 hb
     replace HB:=lB hb
     (try clear hb)
     (try clear hb2)
     (try clear hk)
     (try clear hi)
     refine hK.out _ _ ⟨cA BK133 0,cA BK133 1,cA BK133 2,cA BK133 3,cA BK134 0,cA BK134 1,cA BK134 2,cA BK140 0,cA BK140 1⟩ (fun hHeld=>?_)
     clear hK K
     refine nmA ?_
     refine one_ (i:=3) (N:=some 96) #[Y,Y,Y,Y,Y,Y,Z,Y,Y,Z,Y,Y,Y,Z,Z,Z,Z] rfl rfl (one_of HT_.out (by kernel_rfl)) (by decide) (fun K hK=>?_)
     refine goC Try.func42 (spec_l01Val.calls (w:=_) (h:=A52.out)) ?_
     rintro _ ⟨nd,rfl⟩
     refine hK.out _ _ ⟨cA BK133 0,cA BK133 1,cA BK133 2,cA BK133 3,cA BK134 0,cA BK134 1,cA BK134 2,cA BK140 0,cA BK140 1⟩ (fun hHeld=>?_)
     clear hK K
     refine nmA ?_
     refine puA (i:=6) (N:=some 99) #[Y,Y,Y,Y,Y,Y,Y,Y,Y,Z,Y,Y,Y,Z,Z,Z,Z] rfl rfl HT_ ?_
     refine puA (i:=9) (N:=some 102) #[Y,Y,Y,Y,Y,Y,Y,Y,Y,Y,Y,Y,Y,Z,Z,Z,Z] rfl rfl HT_ ?_
     refine one_ (i:=13) (N:=some 106) #[Y,Y,Y,Y,Y,Y,Y,Y,Y,Y,Y,Y,Y,Y,Z,Z,Z] rfl rfl (one_of HT_.out (by kernel_rfl)) (by decide) (fun K hK=>?_)
     refine goC Try.func42 (spec_l01Val.calls (w:=_) (h:=A53.out)) ?_
     rintro _ ⟨nd,rfl⟩
     refine hK.out _ _ ⟨cA BK133 0,cA BK133 1,cA BK133 2,cA BK133 3,cA BK134 0,cA BK134 1,cA BK134 2,cA BK140 0,cA BK140 1⟩ (fun hHeld=>?_)
     clear hK K
     refine nmA ?_
     refine puA (i:=14) (N:=some 107) #[Y,Y,Y,Y,Y,Y,Y,Y,Y,Y,Y,Y,Y,Y,Y,Z,Z] rfl rfl HT_ ?_
     refine puA (i:=15) (N:=some 108) #[Y,Y,Y,Y,Y,Y,Y,Y,Y,Y,Y,Y,Y,Y,Y,Y,Z] rfl rfl HT_ ?_
     refine puA (i:=16) (N:=some 14) #[Y,Y,Y,Y,Y,Y,Y,Y,Y,Y,Y,Y,Y,Y,Y,Y,Y] rfl rfl HT_ ?_
     refine done_ (done_of HT_.out (by kernel_rfl)) ?_
     have hnb57:=NB140_133.out
     have hnc57:=NB133_140.out
     have hnb58:=NB140_134.out
     have hnc58:=NB134_140.out
     have hnb59:=NB140_135.out
     have hnc59:=NB135_140.out
     have hnb60:=NB140_139.out
     have hnc60:=NB139_140.out
     obtain ⟨hcz61_0,hcz61_1,hfz61_0,hfz61_1⟩:=cz2 BK140
     try go_wp2_with (first|((with_reducible refine gate_callee (f:=44) rfl ?_);refine goesL_ (some 115) rfl rfl Try.func44 (by kernel_rfl) rfl #[.int .i64 a0,.int .i64 x141000_39,.int .i64 x141001_39,.int .i64 (wrap64 ((wrap64 ((wrap64 (t144+a2_0))+(wrap64 (2*ji4)))) - (wrap64 (2*t145))))] rfl (by (try simp only [List.map_toArray,List.map_cons,List.map_nil]);first|done|(simp only [hji4];rfl)|rfl|(simp only [List.length_drop,List.length_take];rfl)) ?_;(with_reducible refine (spec_l01Of.calls kj39 a0 x141000_39 x141001_39 (wrap64 ((wrap64 ((wrap64 (t144+a2_0))+(wrap64 (2*ji4)))) - (wrap64 (2*t145)))) t146 t147 t148 t149 _ A54.out).mono ?_);rintro e w62 ⟨rfl,hb⟩;refine ⟨_,rfl,?_⟩;have n0_:=kB BK133 hb;have n1_:=kB BK134 hb;have n2_:=kB BK135 hb;have n3_:=kB BK139 hb;have n4_:=kB BK140 hb;have n5_:=lB hb;clear BK133;clear BK134;clear BK135;clear BK139;clear BK140;clear HB;have BK133:=n0_;have BK134:=n1_;have BK135:=n2_;have BK139:=n3_;have BK140:=n4_;have HB:=n5_;clear n0_ n1_ n2_ n3_ n4_ n5_;clear hb;have hnb63:=NB135_133.out;have hnc63:=NB133_135.out;have hnb64:=NB135_134.out;have hnc64:=NB134_135.out;have hnb65:=NB135_139.out;have hnc65:=NB139_135.out;obtain ⟨hcz66_0,hcz66_1,hcz66_2,hfz66_0,hfz66_1,hfz66_2⟩:=cz3 BK135))
     refine bodyPost_ret (results_ct rfl _ _ gb135 53 #[.int .i64 t146,.int .i64 t147,.int .i64 t148] (0,0) _ rfl (bpA BK135) Try.underlying53 rfl (by kernel_rfl)) rfl ?_
     exact ⟨by first|rfl|(simp [errW_none,errW_some] <;> rfl)|(simp only [← hji4];first|rfl|(simp [errW_none,errW_some] <;> rfl))|(simp [*,errW_none,errW_some] <;> rfl),blA⟩
def spec_l01Code.l0:Nat→Int→List (S53)→Int→Option (Int)
 | 0,_,_,_=>none
 | k+1,x0,x1,x5=>if x5<(x1.length:Int) then (if 0≤x5 then ((spec_l01Is.f k x0 ((rd_T53 x1 x5).f0) ((rd_T53 x1 x5).f1) ((rd_T53 x1 x5).f2)).bind fun t182=>(if t182=true then (spec_l01Code.l0 k x0 x1 (wrap64 (x5+1))) else (some 1))) else (none)) else (some 0)
def spec_l01Code.f (k:Nat) (a0:Int) (l1:List (S53)):Option (Int):=(spec_l01Prime.f a0).bind fun t180=>(if t180=true then (spec_l01Code.l0 k a0 l1 0) else (some 1))
theorem spec_l01Code.mono_l:∀ k,(∀ y0 y1 y2,LeO (spec_l01Code.l0 k y0 y1 y2) (spec_l01Code.l0 (k+1) y0 y1 y2))
 | 0=>fun _ _ _ r h=>by simp [spec_l01Code.l0] at h
 | k+1=>by
  have ih0:=spec_l01Code.mono_l k
  ·
   intro y0 y1 y2
   unfold spec_l01Code.l0
   repeat' first
   | with_reducible first|exact ih0 ..|exact spec_l01Is.mono ..|exact LeO.refl _|exact LeO.none _|refine LeO.ite ?_ ?_|refine LeO.bind ?_ fun _=>?_
theorem spec_l01Code.mono:∀ a0 a1 k,LeO (spec_l01Code.f k a0 a1) (spec_l01Code.f (k+1) a0 a1):=by
 intro a0 a1 k
 have ih0:=spec_l01Code.mono_l k
 unfold spec_l01Code.f
 repeat' first
   | with_reducible first|exact ih0 ..|exact spec_l01Is.mono ..|exact LeO.refl _|exact LeO.none _|refine LeO.ite ?_ ?_|refine LeO.bind ?_ fun _=>?_
set_option maxHeartbeats 8000000 in
set_option maxRecDepth 100000 in
theorem spec_l01Code.calls (k:Nat) (a0:Int) (A1:Option Addr) (c1:Nat) (l1:List (S53)) (r:Int) (w:World) (hr1:Kd.C k53 w A1 l1.length l1) (hc1:l1.length≤c1) (h:spec_l01Code.f k a0 l1=some r) :
  Calls Try.prog 45 #[.int .i64 a0,.slice A1 l1.length c1] w fun e w'=>e=.returned (.int .i64 r)∧Below w.heap.size w w':=by
 have hu53:=Try.underlying53
 have HR1:=Aside0.mk hr1
 have HC1:=Aside0.mk hc1
 clear hr1 hc1
 have HB:=Aside0.mk (Below.refl w.heap.size w)
 have H:=h
 unfold spec_l01Code.f at H
 clear h
 replace H:=bS H
 obtain ⟨t180,A3,H⟩:=H
 try dsimp only at H
 by_cases c4:t180=true
 focus
  subst c4
  rw [if_pos rfl] at H
  try dsimp only at H
  have H':=Aside0.mk H
  clear H
 rotate_left
 focus
  replace c4:=Bool.eq_false_iff.mpr c4
  subst c4
  rw [if_neg (show ¬ (false=true) by decide)] at H
  try dsimp only at H
  obtain rfl:=Option.some.inj H
 rotate_left
 all_goals
  go_enter Try.func45,Try.ntmps45
  go_wp2_with (first|((with_reducible refine gd 7 rfl ?_);refine gC (some 7) rfl Try.func25 (spec_l01Prime.calls (w:=_) (h:=A3.out)) ?_;rintro _ ⟨nd,rfl⟩))
 ·
  go_loopg [5] k (fun kq v5 w'=>∃ (x5_1:Int),v5=.int .i64 x5_1∧Aside0 (spec_l01Code.l0 kq a0 l1 x5_1=some r)∧Aside0 (kq≤k)∧Aside0 (Below w.heap.size w w'))
  case atStart=>exact ⟨(0),hB,H',⟨Nat.le_refl _⟩,⟨blA⟩⟩
  case round=>
   clear H'
   try clear c1
   try clear c4
   obtain ⟨x5_1,rfl,HA,HK1,HB⟩:=hrel
   cases gk with
   | zero=>exact absurd HA.out (by simp [spec_l01Code.l0])
   | succ k1=>
    have H:=HA.out
    clear HA
    simp only [spec_l01Code.l0] at H
    by_cases c5:x5_1<(l1.length:Int)
    ·
     rw [if_pos c5] at H
     have c5b0:=decide_eq_true c5
     clear c5
     by_cases c6:0≤x5_1
     rotate_left
     ·
      rw [if_neg c6] at H
      exact absurd H (by simp)
     rw [if_pos c6] at H
     have c6b0:=decide_eq_true c6
     clear c6
     replace H:=bS H
     obtain ⟨t182,A7,H⟩:=H
     try dsimp only at H
     by_cases c8:t182=true
     focus
      subst c8
      rw [if_pos rfl] at H
      try dsimp only at H
      have H':=Aside0.mk H
      clear H
      have p181:0≤(x5_1:Int):=dA
      have q181:x5_1<(l1.length:Int):=dA
      obtain ⟨ad181,e181,hx181_0,hx181_1,hx181_2⟩:=at_T53 HR1.out x5_1 p181 q181
      cases e181
      replace hx181_0:=(HB.out.cell (World.block_lt_of_cell? w _ hx181_0)).trans hx181_0
      replace hx181_1:=(HB.out.cell (World.block_lt_of_cell? w _ hx181_1)).trans hx181_1
      replace hx181_2:=(HB.out.cell (World.block_lt_of_cell? w _ hx181_2)).trans hx181_2
      replace p181:=eq_true p181
      replace q181:=eq_true q181
     rotate_left
     focus
      replace c8:=Bool.eq_false_iff.mpr c8
      subst c8
      rw [if_neg (show ¬ (false=true) by decide)] at H
      try dsimp only at H
      obtain rfl:=Option.some.inj H
      have p181:0≤(x5_1:Int):=dA
      have q181:x5_1<(l1.length:Int):=dA
      obtain ⟨ad181,e181,hx181_0,hx181_1,hx181_2⟩:=at_T53 HR1.out x5_1 p181 q181
      cases e181
      replace hx181_0:=(HB.out.cell (World.block_lt_of_cell? w _ hx181_0)).trans hx181_0
      replace hx181_1:=(HB.out.cell (World.block_lt_of_cell? w _ hx181_1)).trans hx181_1
      replace hx181_2:=(HB.out.cell (World.block_lt_of_cell? w _ hx181_2)).trans hx181_2
      replace p181:=eq_true p181
      replace q181:=eq_true q181
     rotate_left
     all_goals
      go_wp2_with (first|((with_reducible refine gd 20 rfl ?_);refine gC (some 20) rfl Try.func59 (spec_l01Is.calls (w:=_) (h:=A7.out)) ?_;intro w9 hb;replace HB:=lB hb;clear hb))
     ·
      go_roundg k1
      case measure=>have:=HK1.out;omega
      case rel=>exact ⟨(wrap64 (x5_1+1)),hB,H',⟨by have:=HK1.out;omega⟩,⟨blA⟩⟩
     ·
      go_ret
      exact finA blA
    ·
     rw [if_neg c5] at H
     have c5b0:=decide_eq_false c5
     clear c5
     obtain rfl:=Option.some.inj H
     go_wp2
     go_ret
     exact finA blA
 ·
  go_ret
  exact finA blA
end Go.Proofs.Ytnhiehpbkimaeaa.PAll
