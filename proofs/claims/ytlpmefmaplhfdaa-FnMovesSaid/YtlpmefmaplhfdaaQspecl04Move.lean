-- turned out of the kit's print
import Derived.Test.YtlpmefmaplhfdaaQx
import Derived.Test.YtlpmefmaplhfdaaQbitsLeadingZeros64
import Derived.Test.YtlpmefmaplhfdaaQimplofMark
namespace Go.Proofs.Ytlpmefmaplhfdaa.PAll
open Go.RowKit Go.Proofs.YtlpmefmaplhfdaaW.PrintWords Go.Proofs.YtlpmefmaplhfdaaW.PrintLast Go.Proofs.YtlpmefmaplhfdaaW.PrintMore
attribute [local go_sem] Go.Proofs.Ytlpmefmaplhfdaa.Aux.setCell_drewN Go.Proofs.Ytlpmefmaplhfdaa.Aux.isSome_setCell max2_int min2_int max_two min_two max_three min_three max_four min_four
set_option linter.unusedVariables false
set_option linter.unusedSimpArgs false
mutual
def spec_l04Move.j0:Nat→Int→Int→Bool→Int→Int→Int→Int→Int→Int→Int→Int→Int→Int→Int→Option (Int × Int × Int × Bool)
 | 0,_,_,_,_,_,_,_,_,_,_,_,_,_,_=>none
 | k+1,x0,x8,x91,x400000,x400001,x400002,x400003,x401000,x401001,x401002,x406000,x406001,x407000,x407001=>if x91=true then (spec_l04Move.j1 k x0 x8 x400000 x400001 x400002 x400003 x401000 x401001 x401002 x406000 x406001) else (spec_l04Move.j1 k x0 x8 x400000 x400001 x400002 x400003 x401000 x401001 x401002 x407000 x407001)
def spec_l04Move.j1:Nat→Int→Int→Int→Int→Int→Int→Int→Int→Int→Int→Int→Option (Int × Int × Int × Bool)
 | 0,_,_,_,_,_,_,_,_,_,_,_=>none
 | k+1,x0,x8,x400000,x400001,x400002,x400003,x401000,x401001,x401002,x407000,x407001=>(spec_l04Det.f x400000 x400001 x400002 x400003).bind fun t409=>((spec_l01Val.f k x0 t409).bind fun t410=>((spec_l01Val.f k x0 x407001).bind fun t411=>((spec_l01Of.f k x0 x407000 x407001 (wrap64 ((wrap64 ((wrap64 (t410+x401000))+(wrap64 (2*x8)))) - (wrap64 (2*t411))))).bind fun bt412=>(some (bt412.1,bt412.2.1,bt412.2.2.1,bt412.2.2.2)))))
end
def spec_l04Move.f (k:Nat) (a0 a1_0 a1_1 a1_2 a1_3 a2_0 a2_1 a2_2:Int):Option (Int × Int × Int × Bool):=(spec_l01Power.f k a0 (wrap64 (a2_0+(mx a2_2 (wrap64 (-a2_0)))))).bind fun t402=>((spec_l01Power.f k a0 (mx a2_2 (wrap64 (-a2_0)))).bind fun t403=>((spec_l01Power.f k a0 (wrap64 ((mx a2_2 (wrap64 (-a2_0))) - a2_2))).bind fun t404=>(if (wrap64 ((wrap64 (a1_2*(wrap64 (a2_1*t404))))+(wrap64 (a1_3*t403))))=0 then (spec_l04Move.j0 k a0 (mx a2_2 (wrap64 (-a2_0))) true a1_0 a1_1 a1_2 a1_3 a2_0 a2_1 a2_2 (wrap64 (a1_0*t402)) (wrap64 (a1_2*t402)) (wrap64 ((wrap64 (a1_0*(wrap64 (a2_1*t404))))+(wrap64 (a1_1*t403)))) (wrap64 ((wrap64 (a1_2*(wrap64 (a2_1*t404))))+(wrap64 (a1_3*t403))))) else (if (wrap64 (a1_2*t402))=0 then (spec_l04Move.j0 k a0 (mx a2_2 (wrap64 (-a2_0))) false a1_0 a1_1 a1_2 a1_3 a2_0 a2_1 a2_2 (wrap64 (a1_0*t402)) (wrap64 (a1_2*t402)) (wrap64 ((wrap64 (a1_0*(wrap64 (a2_1*t404))))+(wrap64 (a1_1*t403)))) (wrap64 ((wrap64 (a1_2*(wrap64 (a2_1*t404))))+(wrap64 (a1_3*t403))))) else ((spec_l01Val.f k a0 (wrap64 ((wrap64 (a1_2*(wrap64 (a2_1*t404))))+(wrap64 (a1_3*t403))))).bind fun t407=>((spec_l01Val.f k a0 (wrap64 (a1_2*t402))).bind fun t408=>(spec_l04Move.j0 k a0 (mx a2_2 (wrap64 (-a2_0))) (decide (t407>t408)) a1_0 a1_1 a1_2 a1_3 a2_0 a2_1 a2_2 (wrap64 (a1_0*t402)) (wrap64 (a1_2*t402)) (wrap64 ((wrap64 (a1_0*(wrap64 (a2_1*t404))))+(wrap64 (a1_1*t403)))) (wrap64 ((wrap64 (a1_2*(wrap64 (a2_1*t404))))+(wrap64 (a1_3*t403)))))))))))
theorem spec_l04Move.mono_l:∀ k,(∀ y0 y1 y2 y3 y4 y5 y6 y7 y8 y9 y10 y11 y12 y13,LeO (spec_l04Move.j0 k y0 y1 y2 y3 y4 y5 y6 y7 y8 y9 y10 y11 y12 y13) (spec_l04Move.j0 (k+1) y0 y1 y2 y3 y4 y5 y6 y7 y8 y9 y10 y11 y12 y13))∧(∀ y0 y1 y2 y3 y4 y5 y6 y7 y8 y9 y10,LeO (spec_l04Move.j1 k y0 y1 y2 y3 y4 y5 y6 y7 y8 y9 y10) (spec_l04Move.j1 (k+1) y0 y1 y2 y3 y4 y5 y6 y7 y8 y9 y10))
 | 0=>by refine ⟨?_,?_⟩ <;> (intros;intro r h;simp [spec_l04Move.j0,spec_l04Move.j1] at h)
 | k+1=>by
  obtain ⟨ih0,ih1⟩:=spec_l04Move.mono_l k
  refine ⟨?_,?_⟩ <;> (intros;first|unfold spec_l04Move.j0|unfold spec_l04Move.j1)
  all_goals repeat' first
  | with_reducible first|exact ih0 ..|exact ih1 ..|exact spec_l01Of.mono ..|exact spec_l01Power.mono ..|exact spec_l01Val.mono ..|exact LeO.refl _|exact LeO.none _|refine LeO.ite ?_ ?_|refine LeO.bind ?_ fun _=>?_
theorem spec_l04Move.mono:∀ a0 a1 a2 a3 a4 a5 a6 a7 k,LeO (spec_l04Move.f k a0 a1 a2 a3 a4 a5 a6 a7) (spec_l04Move.f (k+1) a0 a1 a2 a3 a4 a5 a6 a7):=by
 intro a0 a1 a2 a3 a4 a5 a6 a7 k
 obtain ⟨ih0,ih1⟩:=spec_l04Move.mono_l k
 unfold spec_l04Move.f
 repeat' first
   | with_reducible first|exact ih0 ..|exact ih1 ..|exact spec_l01Of.mono ..|exact spec_l01Power.mono ..|exact spec_l01Val.mono ..|exact LeO.refl _|exact LeO.none _|refine LeO.ite ?_ ?_|refine LeO.bind ?_ fun _=>?_
def spec_l04Move.T3:Bool × List (List Nat × List Nat):=(true,[([],[]),([0],[0]),([],[]),([],[]),([],[]),([4],[4]),([3,5],[3,5]),([2,6],[2,6]),([1,7],[1,7]),([8,7,0,1,2,3,4,5,6,7,8],[8])])
def spec_l04Move.B3:List Nat:=[0,1,0,0,0,16,56,124,255,511]
theorem spec_l04Move.tab3:rtab .any (opsOf Try.f46 3)=spec_l04Move.T3:=by kernel_rfl
theorem spec_l04Move.bits3:waitsOk spec_l04Move.T3.2 spec_l04Move.B3=true:=by kernel_rfl
def spec_l04Move.T6:Bool × List (List Nat × List Nat):=(true,[([],[]),([0],[0]),([1],[1]),([2],[2]),([3],[3]),([4,3],[3,4]),([5,3],[3,5]),([6,3,3],[3,6]),([7],[7]),([7],[7]),([9,7],[7,9]),([8,10,7,7],[7,8,10]),([7],[7]),([7],[7]),([13,7],[7,13]),([12,14,11,7],[7,12,14]),([11,15,7],[7,11,15]),([7,16,3],[3,7,16]),([3,17],[3,17])])
def spec_l04Move.B6:List Nat:=[0,1,3,7,15,31,63,127,255,255,767,2047,255,255,8447,32767,65535,131071,262143]
theorem spec_l04Move.tab6:rtab .any (opsOf Try.f46 6)=spec_l04Move.T6:=by kernel_rfl
theorem spec_l04Move.bits6:waitsOk spec_l04Move.T6.2 spec_l04Move.B6=true:=by kernel_rfl
def spec_l04Move.T8:Bool × List (List Nat × List Nat):=(true,[([],[]),([],[]),([1],[1]),([0,2,2],[0,2]),([],[]),([4],[4]),([3,5],[3,5]),([],[]),([7],[7]),([6,8],[6,8]),([],[]),([],[]),([11],[11]),([10,12,3],[10,12]),([13],[13]),([9,14],[9,14]),([15,13,0,1,2,3,4,5,6,7,8,9,10,11,12,13,14,15],[15])])
def spec_l04Move.B8:List Nat:=[0,0,2,7,0,16,63,0,128,511,0,0,2048,7183,15375,32767,65535]
theorem spec_l04Move.tab8:rtab .any (opsOf Try.f46 8)=spec_l04Move.T8:=by kernel_rfl
theorem spec_l04Move.bits8:waitsOk spec_l04Move.T8.2 spec_l04Move.B8=true:=by kernel_rfl
set_option maxHeartbeats 8000000 in
set_option maxRecDepth 100000 in
theorem spec_l04Move.calls (k:Nat) (a0 a1_0 a1_1 a1_2 a1_3 a2_0 a2_1 a2_2 r1 r2 r3:Int) (r4:Bool) (w:World) (h:spec_l04Move.f k a0 a1_0 a1_1 a1_2 a1_3 a2_0 a2_1 a2_2=some (r1,r2,r3,r4)) :
  Calls Try.prog 46 #[.int .i64 a0,.agg #[.int .i64 a1_0,.int .i64 a1_1,.int .i64 a1_2,.int .i64 a1_3],.agg #[.int .i64 a2_0,.int .i64 a2_1,.int .i64 a2_2]] w fun e w'=>e=.returned (.tuple #[.agg #[.int .i64 r1,.int .i64 r2,.int .i64 r3],.bool r4])∧Below w.heap.size w w':=by
 have hu26:=Try.underlying26
 have hu28:=Try.underlying28
 have hu24:=Try.underlying24
 have HB:=Aside0.mk (Below.refl w.heap.size w)
 have H:=h
 unfold spec_l04Move.f at H
 clear h
 obtain ⟨ji4,hji4⟩:∃ j_:Int,(mx a2_2 (wrap64 (-a2_0)))=j_:=⟨_,rfl⟩
 replace H:((spec_l01Power.f k a0 (wrap64 (a2_0+(ji4)))).bind fun t402=>((spec_l01Power.f k a0 (ji4)).bind fun t403=>((spec_l01Power.f k a0 (wrap64 ((ji4) - a2_2))).bind fun t404=>(if (wrap64 ((wrap64 (a1_2*(wrap64 (a2_1*t404))))+(wrap64 (a1_3*t403))))=0 then (spec_l04Move.j0 k a0 ji4 true a1_0 a1_1 a1_2 a1_3 a2_0 a2_1 a2_2 (wrap64 (a1_0*t402)) (wrap64 (a1_2*t402)) (wrap64 ((wrap64 (a1_0*(wrap64 (a2_1*t404))))+(wrap64 (a1_1*t403)))) (wrap64 ((wrap64 (a1_2*(wrap64 (a2_1*t404))))+(wrap64 (a1_3*t403))))) else (if (wrap64 (a1_2*t402))=0 then (spec_l04Move.j0 k a0 ji4 false a1_0 a1_1 a1_2 a1_3 a2_0 a2_1 a2_2 (wrap64 (a1_0*t402)) (wrap64 (a1_2*t402)) (wrap64 ((wrap64 (a1_0*(wrap64 (a2_1*t404))))+(wrap64 (a1_1*t403)))) (wrap64 ((wrap64 (a1_2*(wrap64 (a2_1*t404))))+(wrap64 (a1_3*t403))))) else ((spec_l01Val.f k a0 (wrap64 ((wrap64 (a1_2*(wrap64 (a2_1*t404))))+(wrap64 (a1_3*t403))))).bind fun t407=>((spec_l01Val.f k a0 (wrap64 (a1_2*t402))).bind fun t408=>(spec_l04Move.j0 k a0 ji4 (decide (t407>t408)) a1_0 a1_1 a1_2 a1_3 a2_0 a2_1 a2_2 (wrap64 (a1_0*t402)) (wrap64 (a1_2*t402)) (wrap64 ((wrap64 (a1_0*(wrap64 (a2_1*t404))))+(wrap64 (a1_1*t403)))) (wrap64 ((wrap64 (a1_2*(wrap64 (a2_1*t404))))+(wrap64 (a1_3*t403))))))))))))=some (r1,r2,r3,r4):=by first|(rw [hji4] at H;exact H)|(simp only [hji4] at H ⊢;exact H)
 have hji4_:(if a2_2<(wrap64 (-a2_0)) then (wrap64 (-a2_0)) else a2_2)=ji4:=hji4
 replace H:=bS H
 obtain ⟨t402,A5,H⟩:=H
 try dsimp only at H
 replace H:=bS H
 obtain ⟨t403,A6,H⟩:=H
 try dsimp only at H
 replace H:=bS H
 obtain ⟨t404,A7,H⟩:=H
 try dsimp only at H
 have HC8:=Aside0.mk H
 clear H
 go_enter Try.func46,Try.ntmps46
 try go_wp2_with (first|((with_reducible refine gate_dst (N:=4) rfl ?_);refine bxE (cs:=#[.int .i64 a1_0,.int .i64 a1_1,.int .i64 a1_2,.int .i64 a1_3]) (t:=26) ?_;intro gb399 hg w9 hbox hb;have n0_:=lB hb;have n1_:=Aside0.mk hbox;have n2_:=sA hg;have n3_:=sA hg;clear HB;have HB:=n0_;have BK399:=n1_;have GW399:=n2_;have GE399:=n3_;clear n0_ n1_ n2_ n3_;clear hb hbox hg)|((with_reducible refine gate_dst (N:=5) rfl ?_);refine bxE (cs:=#[.int .i64 a2_0,.int .i64 a2_1,.int .i64 a2_2]) (t:=28) ?_;intro gb400 hg w10 hbox hb;have n0_:=kB BK399 hb;have n1_:=lB hb;have n2_:=Aside0.mk hbox;have n3_:=sA hg;have n4_:=sA hg;have n5_:=nA hg BK399;have n6_:=nB hg BK399;clear BK399;clear HB;have BK399:=n0_;have HB:=n1_;have BK400:=n2_;have GW400:=n3_;have GE400:=n4_;have NB399_400:=n5_;have NB400_399:=n6_;clear n0_ n1_ n2_ n3_ n4_ n5_ n6_;clear hb hbox hg)|((with_reducible refine gate_dst (N:=6) rfl ?_);refine bxE (cs:=#[.int .i64 0,.int .i64 0,.int .i64 0]) (t:=28) ?_;intro gb401 hg w11 hbox hb;have n0_:=kB BK399 hb;have n1_:=kB BK400 hb;have n2_:=lB hb;have n3_:=Aside0.mk hbox;have n4_:=sA hg;have n5_:=sA hg;have n6_:=nA hg BK399;have n7_:=nB hg BK399;have n8_:=nA hg BK400;have n9_:=nB hg BK400;clear BK399;clear BK400;clear HB;have BK399:=n0_;have BK400:=n1_;have HB:=n2_;have BK401:=n3_;have GW401:=n4_;have GE401:=n5_;have NB399_401:=n6_;have NB401_399:=n7_;have NB400_401:=n8_;have NB401_400:=n9_;clear n0_ n1_ n2_ n3_ n4_ n5_ n6_ n7_ n8_ n9_;clear hb hbox hg;have hnb12:=NB400_399.out;have hnc12:=NB399_400.out;have hnb13:=NB400_401.out;have hnc13:=NB401_400.out;obtain ⟨hcz14_0,hcz14_1,hcz14_2,hfz14_0,hfz14_1,hfz14_2⟩:=cz3 BK400)|((with_reducible refine gate_callee (f:=94) rfl ?_);refine goesL_ (some 26) rfl rfl Try.func94 (by kernel_rfl) rfl #[.int .i64 a0,.int .i64 (wrap64 (a2_0+(ji4)))] rfl (by (try simp only [List.map_toArray,List.map_cons,List.map_nil]);first|done|(simp only [hji4];rfl)|rfl|(simp only [List.length_drop,List.length_take];rfl)) ?_;(with_reducible refine (spec_l01Power.calls k a0 (wrap64 (a2_0+(ji4))) t402 _ A5.out).mono ?_);rintro e w' ⟨rfl,⟨nd,rfl⟩⟩;refine ⟨_,rfl,?_⟩;(try (rw [drewN_self w11];generalize hq_:World.drewN w11 _=w11;have n0_:Aside0 (w11.heap[gb399]?=some (.cells #[.int .i64 a1_0,.int .i64 a1_1,.int .i64 a1_2,.int .i64 a1_3] 26 (0,0))):=⟨by rw [← hq_];exact (bkA BK399)⟩;have n1_:Aside0 (w11.heap[gb400]?=some (.cells #[.int .i64 a2_0,.int .i64 a2_1,.int .i64 a2_2] 28 (0,0))):=⟨by rw [← hq_];exact (bkA BK400)⟩;have n2_:Aside0 (w11.heap[gb401]?=some (.cells #[.int .i64 0,.int .i64 0,.int .i64 0] 28 (0,0))):=⟨by rw [← hq_];exact (bkA BK401)⟩;have n3_:Aside0 (Below w.heap.size w w11):=⟨by rw [← hq_];exact blA⟩;clear BK399 BK400 BK401 HB hq_;have BK399:=n0_;have BK400:=n1_;have BK401:=n2_;have HB:=n3_;clear n0_ n1_ n2_ n3_)))|((with_reducible refine gate_callee (f:=94) rfl ?_);refine goesL_ (some 29) rfl rfl Try.func94 (by kernel_rfl) rfl #[.int .i64 a0,.int .i64 ji4] rfl (by (try simp only [List.map_toArray,List.map_cons,List.map_nil]);first|done|(simp only [hji4];rfl)|rfl|(simp only [List.length_drop,List.length_take];rfl)) ?_;(with_reducible refine (spec_l01Power.calls k a0 ji4 t403 _ A6.out).mono ?_);rintro e w' ⟨rfl,⟨nd,rfl⟩⟩;refine ⟨_,rfl,?_⟩;(try (rw [drewN_self w11];generalize hq_:World.drewN w11 _=w11;have n0_:Aside0 (w11.heap[gb399]?=some (.cells #[.int .i64 a1_0,.int .i64 a1_1,.int .i64 a1_2,.int .i64 a1_3] 26 (0,0))):=⟨by rw [← hq_];exact (bkA BK399)⟩;have n1_:Aside0 (w11.heap[gb400]?=some (.cells #[.int .i64 a2_0,.int .i64 a2_1,.int .i64 a2_2] 28 (0,0))):=⟨by rw [← hq_];exact (bkA BK400)⟩;have n2_:Aside0 (w11.heap[gb401]?=some (.cells #[.int .i64 0,.int .i64 0,.int .i64 0] 28 (0,0))):=⟨by rw [← hq_];exact (bkA BK401)⟩;have n3_:Aside0 (Below w.heap.size w w11):=⟨by rw [← hq_];exact blA⟩;clear BK399 BK400 BK401 HB hq_;have BK399:=n0_;have BK400:=n1_;have BK401:=n2_;have HB:=n3_;clear n0_ n1_ n2_ n3_))))
 have n0_:=Aside0.mk (blk_drew BK399.out)
 have n1_:=Aside0.mk (blk_drew BK400.out)
 have n2_:=Aside0.mk (blk_drew BK401.out)
 have n3_:=Aside0.mk (below_drew1 HB.out)
 clear BK399
 clear BK400
 clear BK401
 clear HB
 have BK399:=n0_
 have BK400:=n1_
 have BK401:=n2_
 have HB:=n3_
 clear n0_ n1_ n2_ n3_
 refine start_ (n:=10) (S:=fun w'=>w'.cell? ⟨gb400,0,none⟩=some (.int .i64 a2_0)∧w'.cell? ⟨gb400,1,none⟩=some (.int .i64 a2_1)∧w'.cell? ⟨gb400,2,none⟩=some (.int .i64 a2_2)) (ds:=[]) #[Z,Z,Z,Z,Z,Z,Z,Z,Z,Z] (by kernel_rfl) rfl rfl ⟨cA BK400 0,cA BK400 1,cA BK400 2⟩ (fun hHeld=>?_);refine with_tabW spec_l04Move.tab3 spec_l04Move.bits3 (fun HT_ HW_=>?_)
 generalize w11.drew=w15 at BK399 BK400 BK401 HB hHeld ⊢
 refine puA (i:=0) (N:=some 30) #[Y,Z,Z,Z,Z,Z,Z,Z,Z,Z] rfl rfl HT_ ?_
 refine puA (i:=2) (N:=some 32) #[Y,Z,Y,Z,Z,Z,Z,Z,Z,Z] rfl rfl HT_ ?_
 refine puA (i:=3) (N:=some 33) #[Y,Z,Y,Y,Z,Z,Z,Z,Z,Z] rfl rfl HT_ ?_
 refine puA (i:=4) (N:=some 34) #[Y,Z,Y,Y,Y,Z,Z,Z,Z,Z] rfl rfl HT_ ?_
 refine taA (i:=1) (N:=some 31) #[Y,Y,Y,Y,Y,Z,Z,Z,Z,Z] rfl rfl HT_ HW_ hHeld ?_
 refine taA (i:=5) (N:=some 35) #[Y,Y,Y,Y,Y,Y,Z,Z,Z,Z] rfl rfl HT_ HW_ hHeld ?_
 refine puA (i:=6) (N:=some 36) #[Y,Y,Y,Y,Y,Y,Y,Z,Z,Z] rfl rfl HT_ ?_
 refine one_ (i:=7) (N:=some 37) #[Y,Y,Y,Y,Y,Y,Y,Y,Z,Z] rfl rfl (one_of HT_.out (by kernel_rfl)) (by decide) (fun K hK=>?_)
 refine goes_ Try.func94 (by kernel_rfl) rfl #[.int .i64 a0,.int .i64 (wrap64 ((ji4) - a2_2))] (by rfl) rfl rfl (by (try simp only [List.map_toArray,List.map_cons,List.map_nil]);first|done|(simp only [hji4];rfl)|rfl|(simp only [List.length_drop,List.length_take];rfl)) ?_
 with_reducible refine (spec_l01Power.calls k a0 (wrap64 ((ji4) - a2_2)) t404 _ A7.out).mono ?_
 rintro e w' ⟨rfl,⟨nd,rfl⟩⟩
 refine ⟨_,rfl,?_⟩
 refine hK.out _ _ ⟨cA BK400 0,cA BK400 1,cA BK400 2⟩ (fun hHeld=>?_)
 clear hK K
 refine nmA ?_
 refine puA (i:=8) (N:=some 38) #[Y,Y,Y,Y,Y,Y,Y,Y,Y,Z] rfl rfl HT_ ?_
 refine puA (i:=9) (N:=some 11) #[Y,Y,Y,Y,Y,Y,Y,Y,Y,Y] rfl rfl HT_ ?_
 refine done_ (done_of HT_.out (by kernel_rfl)) ?_
 have hnb16:=NB399_401.out
 have hnc16:=NB401_399.out
 obtain ⟨hcz17_0,hcz17_1,hcz17_2,hcz17_3,hfz17_0,hfz17_1,hfz17_2,hfz17_3⟩:=cz4 BK399
 go_upto_region 6 with (first|((with_reducible refine gate_dst (N:=12) rfl ?_);refine bxE (cs:=#[.int .i64 0,.int .i64 0]) (t:=24) ?_;intro gb405 hg w18 hbox hb;have n0_:=kB BK399 hb;have n1_:=kB BK400 hb;have n2_:=kB BK401 hb;have n3_:=lB hb;have n4_:=Aside0.mk hbox;have n5_:=sA hg;have n6_:=sA hg;have n7_:=nA hg BK399;have n8_:=nB hg BK399;have n9_:=nA hg BK400;have n10_:=nB hg BK400;have n11_:=nA hg BK401;have n12_:=nB hg BK401;clear BK399;clear BK400;clear BK401;clear HB;have BK399:=n0_;have BK400:=n1_;have BK401:=n2_;have HB:=n3_;have BK405:=n4_;have GW405:=n5_;have GE405:=n6_;have NB399_405:=n7_;have NB405_399:=n8_;have NB400_405:=n9_;have NB405_400:=n10_;have NB401_405:=n11_;have NB405_401:=n12_;clear n0_ n1_ n2_ n3_ n4_ n5_ n6_ n7_ n8_ n9_ n10_ n11_ n12_;clear hb hbox hg;have hnb19:=NB405_399.out;have hnc19:=NB399_405.out;have hnb20:=NB405_400.out;have hnc20:=NB400_405.out;have hnb21:=NB405_401.out;have hnc21:=NB401_405.out;obtain ⟨hcz22_0,hcz22_1,hfz22_0,hfz22_1⟩:=cz2 BK405;obtain ⟨hcz23_0,hcz23_1,hcz23_2,hcz23_3,hfz23_0,hfz23_1,hfz23_2,hfz23_3⟩:=cz4 BK399)|((with_reducible refine gate_dst (N:=13) rfl ?_);refine bxE (cs:=#[.int .i64 0,.int .i64 0]) (t:=24) ?_;intro gb406 hg w24 hbox hb;have n0_:=Aside0.mk (blk_below (g:=gb399) (o:=.cells #[.int .i64 a1_0,.int .i64 a1_1,.int .i64 a1_2,.int .i64 a1_3] 26 (0,0)) (bkF BK399) hb);have n1_:=Aside0.mk (blk_below (g:=gb400) (o:=.cells #[.int .i64 a2_0,.int .i64 a2_1,.int .i64 a2_2] 28 (0,0)) (bkF BK400) hb);have n2_:=Aside0.mk (blk_below (g:=gb401) (o:=.cells #[.int .i64 0,.int .i64 0,.int .i64 0] 28 (0,0)) (bkF BK401) hb);have n3_:=Aside0.mk (blk_below (g:=gb405) (o:=.cells #[.int .i64 (wrap64 (a1_0*t402)),.int .i64 (wrap64 (a1_2*t402))] 24 (0,0)) (bpA BK405) hb);have n4_:=lB hb;have n5_:=Aside0.mk hbox;have n6_:=sA hg;have n7_:=sA hg;have n8_:=Aside0.mk ((by rw [hg];exact Nat.ne_of_lt (blk_lt (g:=gb399) (o:=.cells #[.int .i64 a1_0,.int .i64 a1_1,.int .i64 a1_2,.int .i64 a1_3] 26 (0,0)) (bkF BK399)):gb399≠gb406));have n9_:=Aside0.mk ((by rw [hg];exact Nat.ne_of_gt (blk_lt (g:=gb399) (o:=.cells #[.int .i64 a1_0,.int .i64 a1_1,.int .i64 a1_2,.int .i64 a1_3] 26 (0,0)) (bkF BK399)):gb406≠gb399));have n10_:=Aside0.mk ((by rw [hg];exact Nat.ne_of_lt (blk_lt (g:=gb400) (o:=.cells #[.int .i64 a2_0,.int .i64 a2_1,.int .i64 a2_2] 28 (0,0)) (bkF BK400)):gb400≠gb406));have n11_:=Aside0.mk ((by rw [hg];exact Nat.ne_of_gt (blk_lt (g:=gb400) (o:=.cells #[.int .i64 a2_0,.int .i64 a2_1,.int .i64 a2_2] 28 (0,0)) (bkF BK400)):gb406≠gb400));have n12_:=Aside0.mk ((by rw [hg];exact Nat.ne_of_lt (blk_lt (g:=gb401) (o:=.cells #[.int .i64 0,.int .i64 0,.int .i64 0] 28 (0,0)) (bkF BK401)):gb401≠gb406));have n13_:=Aside0.mk ((by rw [hg];exact Nat.ne_of_gt (blk_lt (g:=gb401) (o:=.cells #[.int .i64 0,.int .i64 0,.int .i64 0] 28 (0,0)) (bkF BK401)):gb406≠gb401));have n14_:=Aside0.mk ((by rw [hg];exact Nat.ne_of_lt (blk_lt (g:=gb405) (o:=.cells #[.int .i64 (wrap64 (a1_0*t402)),.int .i64 (wrap64 (a1_2*t402))] 24 (0,0)) (bpA BK405)):gb405≠gb406));have n15_:=Aside0.mk ((by rw [hg];exact Nat.ne_of_gt (blk_lt (g:=gb405) (o:=.cells #[.int .i64 (wrap64 (a1_0*t402)),.int .i64 (wrap64 (a1_2*t402))] 24 (0,0)) (bpA BK405)):gb406≠gb405));clear BK399;clear BK400;clear BK401;clear BK405;clear HB;have BK399:=n0_;have BK400:=n1_;have BK401:=n2_;have BK405:=n3_;have HB:=n4_;have BK406:=n5_;have GW406:=n6_;have GE406:=n7_;have NB399_406:=n8_;have NB406_399:=n9_;have NB400_406:=n10_;have NB406_400:=n11_;have NB401_406:=n12_;have NB406_401:=n13_;have NB405_406:=n14_;have NB406_405:=n15_;clear n0_ n1_ n2_ n3_ n4_ n5_ n6_ n7_ n8_ n9_ n10_ n11_ n12_ n13_ n14_ n15_;clear hb hbox hg;have hnb25:=NB406_399.out;have hnc25:=NB399_406.out;have hnb26:=NB406_400.out;have hnc26:=NB400_406.out;have hnb27:=NB406_401.out;have hnc27:=NB401_406.out;have hnb28:=NB406_405.out;have hnc28:=NB405_406.out;obtain ⟨hcz29_0,hcz29_1,hfz29_0,hfz29_1⟩:=cz2 BK406))
 (try simp only [Act.put,List.setIfInBounds_toArray,List.set_cons_zero,List.set_cons_succ])
 go_cut [91] (fun v91 wc=>∃ (kq:Nat) (x91_7:Bool),v91=.bool x91_7∧Aside0 (spec_l04Move.j0 kq a0 ji4 x91_7 a1_0 a1_1 a1_2 a1_3 a2_0 a2_1 a2_2 (wrap64 (a1_0*t402)) (wrap64 (a1_2*t402)) (wrap64 ((wrap64 (a1_0*(wrap64 (a2_1*t404))))+(wrap64 (a1_1*t403)))) (wrap64 ((wrap64 (a1_2*(wrap64 (a2_1*t404))))+(wrap64 (a1_3*t403))))=some (r1,r2,r3,r4))∧Aside0 (kq≤k)∧Aside0 (wc.heap[gb399]?=some (.cells #[.int .i64 a1_0,.int .i64 a1_1,.int .i64 a1_2,.int .i64 a1_3] 26 (0,0)))∧Aside0 (wc.heap[gb400]?=some (.cells #[.int .i64 a2_0,.int .i64 a2_1,.int .i64 a2_2] 28 (0,0)))∧Aside0 (wc.heap[gb401]?=some (.cells #[.int .i64 0,.int .i64 0,.int .i64 0] 28 (0,0)))∧Aside0 (wc.heap[gb405]?=some (.cells #[.int .i64 (wrap64 (a1_0*t402)),.int .i64 (wrap64 (a1_2*t402))] 24 (0,0)))∧Aside0 (wc.heap[gb406]?=some (.cells #[.int .i64 (wrap64 ((wrap64 (a1_0*(wrap64 (a2_1*t404))))+(wrap64 (a1_1*t403)))),.int .i64 (wrap64 ((wrap64 (a1_2*(wrap64 (a2_1*t404))))+(wrap64 (a1_3*t403))))] 24 (0,0)))∧Aside0 (Below w.heap.size w wc))
 case first=>
  have H:=HC8.out
  clear HC8
  by_cases c30:(wrap64 ((wrap64 (a1_2*(wrap64 (a2_1*t404))))+(wrap64 (a1_3*t403))))=0
  ·
   rw [if_pos c30] at H
   have c30b0:((wrap64 ((wrap64 (a1_2*(wrap64 (a2_1*t404))))+(wrap64 (a1_3*t403)))) == 0)=true:=beq_iff_eq.mpr c30
   have c30b1:((wrap64 ((wrap64 (a1_2*(wrap64 (a2_1*t404))))+(wrap64 (a1_3*t403)))) != 0)=false:=bne_eq_false_iff_eq.mpr c30
   clear c30
   (first|rw [c30b0]|(simp only [i64_w,i32_w];rw [c30b0])|skip)
   have H':=Aside0.mk H
   clear H
   try go_wp2
   have n0_:Aside0 (((w24.setCell ⟨gb406,0,none⟩ (.int .i64 (wrap64 ((wrap64 (a1_0*(wrap64 (a2_1*t404))))+(wrap64 (a1_1*t403)))))).setCell ⟨gb406,1,none⟩ (.int .i64 (wrap64 ((wrap64 (a1_2*(wrap64 (a2_1*t404))))+(wrap64 (a1_3*t403)))))).heap[gb399]?=some (.cells #[.int .i64 a1_0,.int .i64 a1_1,.int .i64 a1_2,.int .i64 a1_3] 26 (0,0))):=⟨bkF BK399⟩
   have n1_:Aside0 (((w24.setCell ⟨gb406,0,none⟩ (.int .i64 (wrap64 ((wrap64 (a1_0*(wrap64 (a2_1*t404))))+(wrap64 (a1_1*t403)))))).setCell ⟨gb406,1,none⟩ (.int .i64 (wrap64 ((wrap64 (a1_2*(wrap64 (a2_1*t404))))+(wrap64 (a1_3*t403)))))).heap[gb400]?=some (.cells #[.int .i64 a2_0,.int .i64 a2_1,.int .i64 a2_2] 28 (0,0))):=⟨bkF BK400⟩
   have n2_:Aside0 (((w24.setCell ⟨gb406,0,none⟩ (.int .i64 (wrap64 ((wrap64 (a1_0*(wrap64 (a2_1*t404))))+(wrap64 (a1_1*t403)))))).setCell ⟨gb406,1,none⟩ (.int .i64 (wrap64 ((wrap64 (a1_2*(wrap64 (a2_1*t404))))+(wrap64 (a1_3*t403)))))).heap[gb401]?=some (.cells #[.int .i64 0,.int .i64 0,.int .i64 0] 28 (0,0))):=⟨bkF BK401⟩
   have n3_:Aside0 (((w24.setCell ⟨gb406,0,none⟩ (.int .i64 (wrap64 ((wrap64 (a1_0*(wrap64 (a2_1*t404))))+(wrap64 (a1_1*t403)))))).setCell ⟨gb406,1,none⟩ (.int .i64 (wrap64 ((wrap64 (a1_2*(wrap64 (a2_1*t404))))+(wrap64 (a1_3*t403)))))).heap[gb405]?=some (.cells #[.int .i64 (wrap64 (a1_0*t402)),.int .i64 (wrap64 (a1_2*t402))] 24 (0,0))):=⟨bkF BK405⟩
   have n4_:Aside0 (((w24.setCell ⟨gb406,0,none⟩ (.int .i64 (wrap64 ((wrap64 (a1_0*(wrap64 (a2_1*t404))))+(wrap64 (a1_1*t403)))))).setCell ⟨gb406,1,none⟩ (.int .i64 (wrap64 ((wrap64 (a1_2*(wrap64 (a2_1*t404))))+(wrap64 (a1_3*t403)))))).heap[gb406]?=some (.cells #[.int .i64 (wrap64 ((wrap64 (a1_0*(wrap64 (a2_1*t404))))+(wrap64 (a1_1*t403)))),.int .i64 (wrap64 ((wrap64 (a1_2*(wrap64 (a2_1*t404))))+(wrap64 (a1_3*t403))))] 24 (0,0))):=⟨bpA BK406⟩
   have n5_:Aside0 (Below w.heap.size w ((w24.setCell ⟨gb406,0,none⟩ (.int .i64 (wrap64 ((wrap64 (a1_0*(wrap64 (a2_1*t404))))+(wrap64 (a1_1*t403)))))).setCell ⟨gb406,1,none⟩ (.int .i64 (wrap64 ((wrap64 (a1_2*(wrap64 (a2_1*t404))))+(wrap64 (a1_3*t403))))))):=⟨blA⟩
   (try clear BK399)
   (try clear BK400)
   (try clear BK401)
   (try clear BK405)
   (try clear BK406)
   (try clear HB)
   generalize ((w24.setCell ⟨gb406,0,none⟩ (.int .i64 (wrap64 ((wrap64 (a1_0*(wrap64 (a2_1*t404))))+(wrap64 (a1_1*t403)))))).setCell ⟨gb406,1,none⟩ (.int .i64 (wrap64 ((wrap64 (a1_2*(wrap64 (a2_1*t404))))+(wrap64 (a1_3*t403))))))=w31 at n0_ n1_ n2_ n3_ n4_ n5_ ⊢
   have BK399:=n0_
   have BK400:=n1_
   have BK401:=n2_
   have BK405:=n3_
   have BK406:=n4_
   have HB:=n5_
   clear n0_ n1_ n2_ n3_ n4_ n5_
   have n0_:=Aside0.mk (blk_drew BK399.out)
   have n1_:=Aside0.mk (blk_drew BK400.out)
   have n2_:=Aside0.mk (blk_drew BK401.out)
   have n3_:=Aside0.mk (blk_drew BK405.out)
   have n4_:=Aside0.mk (blk_drew BK406.out)
   have n5_:=Aside0.mk (below_drew1 HB.out)
   clear BK399
   clear BK400
   clear BK401
   clear BK405
   clear BK406
   clear HB
   have BK399:=n0_
   have BK400:=n1_
   have BK401:=n2_
   have BK405:=n3_
   have BK406:=n4_
   have HB:=n5_
   clear n0_ n1_ n2_ n3_ n4_ n5_
   refine start_ (n:=19) (S:=fun w'=>w'.cell? ⟨gb406,0,none⟩=some (.int .i64 (wrap64 ((wrap64 (a1_0*(wrap64 (a2_1*t404))))+(wrap64 (a1_1*t403)))))∧w'.cell? ⟨gb406,1,none⟩=some (.int .i64 (wrap64 ((wrap64 (a1_2*(wrap64 (a2_1*t404))))+(wrap64 (a1_3*t403)))))) (ds:=[]) #[Z,Z,Z,Z,Z,Z,Z,Z,Z,Z,Z,Z,Z,Z,Z,Z,Z,Z,Z] (by kernel_rfl) rfl rfl ⟨cA BK406 0,cA BK406 1⟩ (fun hHeld=>?_);refine with_tabW spec_l04Move.tab6 spec_l04Move.bits6 (fun HT_ HW_=>?_)
   generalize w31.drew=w32 at BK399 BK400 BK401 BK405 BK406 HB hHeld ⊢
   refine puA (i:=0) (N:=some 73) #[Y,Z,Z,Z,Z,Z,Z,Z,Z,Z,Z,Z,Z,Z,Z,Z,Z,Z,Z] rfl rfl HT_ ?_
   refine taA (i:=1) (N:=some 74) #[Y,Y,Z,Z,Z,Z,Z,Z,Z,Z,Z,Z,Z,Z,Z,Z,Z,Z,Z] rfl rfl HT_ HW_ hHeld ?_
   refine puA (i:=2) (N:=some 75) #[Y,Y,Y,Z,Z,Z,Z,Z,Z,Z,Z,Z,Z,Z,Z,Z,Z,Z,Z] rfl rfl HT_ ?_
   refine puA (i:=3) (N:=some 76) #[Y,Y,Y,Y,Z,Z,Z,Z,Z,Z,Z,Z,Z,Z,Z,Z,Z,Z,Z] rfl rfl HT_ ?_
   refine puU (i:=4) (N:=some 77) #[Y,Y,Y,Y,Y,Z,Z,Z,Z,Z,Z,Z,Z,Z,Z,Z,Z,Z,Z] rfl rfl HT_ ?_
   refine puU (i:=5) (N:=some 78) #[Y,Y,Y,Y,Y,Y,Z,Z,Z,Z,Z,Z,Z,Z,Z,Z,Z,Z,Z] rfl rfl HT_ ?_
   refine puU (i:=6) (N:=some 79) #[Y,Y,Y,Y,Y,Y,Y,Z,Z,Z,Z,Z,Z,Z,Z,Z,Z,Z,Z] rfl rfl HT_ ?_
   refine puU (i:=7) (N:=some 80) #[Y,Y,Y,Y,Y,Y,Y,Y,Z,Z,Z,Z,Z,Z,Z,Z,Z,Z,Z] rfl rfl HT_ ?_
   refine puU (i:=8) (N:=some 81) #[Y,Y,Y,Y,Y,Y,Y,Y,Y,Z,Z,Z,Z,Z,Z,Z,Z,Z,Z] rfl rfl HT_ ?_
   refine puU (i:=9) (N:=some 82) #[Y,Y,Y,Y,Y,Y,Y,Y,Y,Y,Z,Z,Z,Z,Z,Z,Z,Z,Z] rfl rfl HT_ ?_
   refine puU (i:=10) (N:=some 83) #[Y,Y,Y,Y,Y,Y,Y,Y,Y,Y,Y,Z,Z,Z,Z,Z,Z,Z,Z] rfl rfl HT_ ?_
   refine puU (i:=11) (N:=some 84) #[Y,Y,Y,Y,Y,Y,Y,Y,Y,Y,Y,Y,Z,Z,Z,Z,Z,Z,Z] rfl rfl HT_ ?_
   refine puU (i:=12) (N:=some 85) #[Y,Y,Y,Y,Y,Y,Y,Y,Y,Y,Y,Y,Y,Z,Z,Z,Z,Z,Z] rfl rfl HT_ ?_
   refine puU (i:=13) (N:=some 86) #[Y,Y,Y,Y,Y,Y,Y,Y,Y,Y,Y,Y,Y,Y,Z,Z,Z,Z,Z] rfl rfl HT_ ?_
   refine puU (i:=14) (N:=some 87) #[Y,Y,Y,Y,Y,Y,Y,Y,Y,Y,Y,Y,Y,Y,Y,Z,Z,Z,Z] rfl rfl HT_ ?_
   refine puU (i:=15) (N:=some 88) #[Y,Y,Y,Y,Y,Y,Y,Y,Y,Y,Y,Y,Y,Y,Y,Y,Z,Z,Z] rfl rfl HT_ ?_
   refine puU (i:=16) (N:=some 89) #[Y,Y,Y,Y,Y,Y,Y,Y,Y,Y,Y,Y,Y,Y,Y,Y,Y,Z,Z] rfl rfl HT_ ?_
   refine puU (i:=17) (N:=some 90) #[Y,Y,Y,Y,Y,Y,Y,Y,Y,Y,Y,Y,Y,Y,Y,Y,Y,Y,Z] rfl rfl HT_ ?_
   refine puA (i:=18) (N:=some 91) #[Y,Y,Y,Y,Y,Y,Y,Y,Y,Y,Y,Y,Y,Y,Y,Y,Y,Y,Y] rfl rfl HT_ ?_
   refine done_ (done_of HT_.out (by kernel_rfl)) ?_
   try go_wp2
   go_meet
   case rel=>exact ⟨_,(true),hB,H',⟨by first|omega|exact Nat.le_refl _⟩,⟨bkA BK399⟩,⟨bkA BK400⟩,⟨bkA BK401⟩,⟨bkA BK405⟩,⟨bkA BK406⟩,⟨blA⟩⟩
  ·
   rw [if_neg c30] at H
   have c30b0:((wrap64 ((wrap64 (a1_2*(wrap64 (a2_1*t404))))+(wrap64 (a1_3*t403)))) == 0)=false:=beq_eq_false_iff_ne.mpr c30
   have c30b1:((wrap64 ((wrap64 (a1_2*(wrap64 (a2_1*t404))))+(wrap64 (a1_3*t403)))) != 0)=true:=bne_iff_ne.mpr c30
   (first|rw [c30b0]|(simp only [i64_w,i32_w];rw [c30b0])|skip)
   by_cases c33:(wrap64 (a1_2*t402))=0
   focus
    rw [if_pos c33] at H
    have c33b0:((wrap64 (a1_2*t402)) == 0)=true:=beq_iff_eq.mpr c33
    have c33b1:((wrap64 (a1_2*t402)) != 0)=false:=bne_eq_false_iff_eq.mpr c33
    clear c33
    have H':=Aside0.mk H
    clear H
   rotate_left
   focus
    rw [if_neg c33] at H
    have c33b0:((wrap64 (a1_2*t402)) == 0)=false:=beq_eq_false_iff_ne.mpr c33
    have c33b1:((wrap64 (a1_2*t402)) != 0)=true:=bne_iff_ne.mpr c33
    replace H:=bS H
    obtain ⟨t407,A36,H⟩:=H
    try dsimp only at H
    replace H:=bS H
    obtain ⟨t408,A37,H⟩:=H
    try dsimp only at H
    have H':=Aside0.mk H
    clear H
   rotate_left
   all_goals
    try go_wp2
    have n0_:Aside0 (((w24.setCell ⟨gb406,0,none⟩ (.int .i64 (wrap64 ((wrap64 (a1_0*(wrap64 (a2_1*t404))))+(wrap64 (a1_1*t403)))))).setCell ⟨gb406,1,none⟩ (.int .i64 (wrap64 ((wrap64 (a1_2*(wrap64 (a2_1*t404))))+(wrap64 (a1_3*t403)))))).heap[gb399]?=some (.cells #[.int .i64 a1_0,.int .i64 a1_1,.int .i64 a1_2,.int .i64 a1_3] 26 (0,0))):=⟨bkF BK399⟩
    have n1_:Aside0 (((w24.setCell ⟨gb406,0,none⟩ (.int .i64 (wrap64 ((wrap64 (a1_0*(wrap64 (a2_1*t404))))+(wrap64 (a1_1*t403)))))).setCell ⟨gb406,1,none⟩ (.int .i64 (wrap64 ((wrap64 (a1_2*(wrap64 (a2_1*t404))))+(wrap64 (a1_3*t403)))))).heap[gb400]?=some (.cells #[.int .i64 a2_0,.int .i64 a2_1,.int .i64 a2_2] 28 (0,0))):=⟨bkF BK400⟩
    have n2_:Aside0 (((w24.setCell ⟨gb406,0,none⟩ (.int .i64 (wrap64 ((wrap64 (a1_0*(wrap64 (a2_1*t404))))+(wrap64 (a1_1*t403)))))).setCell ⟨gb406,1,none⟩ (.int .i64 (wrap64 ((wrap64 (a1_2*(wrap64 (a2_1*t404))))+(wrap64 (a1_3*t403)))))).heap[gb401]?=some (.cells #[.int .i64 0,.int .i64 0,.int .i64 0] 28 (0,0))):=⟨bkF BK401⟩
    have n3_:Aside0 (((w24.setCell ⟨gb406,0,none⟩ (.int .i64 (wrap64 ((wrap64 (a1_0*(wrap64 (a2_1*t404))))+(wrap64 (a1_1*t403)))))).setCell ⟨gb406,1,none⟩ (.int .i64 (wrap64 ((wrap64 (a1_2*(wrap64 (a2_1*t404))))+(wrap64 (a1_3*t403)))))).heap[gb405]?=some (.cells #[.int .i64 (wrap64 (a1_0*t402)),.int .i64 (wrap64 (a1_2*t402))] 24 (0,0))):=⟨bkF BK405⟩
    have n4_:Aside0 (((w24.setCell ⟨gb406,0,none⟩ (.int .i64 (wrap64 ((wrap64 (a1_0*(wrap64 (a2_1*t404))))+(wrap64 (a1_1*t403)))))).setCell ⟨gb406,1,none⟩ (.int .i64 (wrap64 ((wrap64 (a1_2*(wrap64 (a2_1*t404))))+(wrap64 (a1_3*t403)))))).heap[gb406]?=some (.cells #[.int .i64 (wrap64 ((wrap64 (a1_0*(wrap64 (a2_1*t404))))+(wrap64 (a1_1*t403)))),.int .i64 (wrap64 ((wrap64 (a1_2*(wrap64 (a2_1*t404))))+(wrap64 (a1_3*t403))))] 24 (0,0))):=⟨bpA BK406⟩
    have n5_:Aside0 (Below w.heap.size w ((w24.setCell ⟨gb406,0,none⟩ (.int .i64 (wrap64 ((wrap64 (a1_0*(wrap64 (a2_1*t404))))+(wrap64 (a1_1*t403)))))).setCell ⟨gb406,1,none⟩ (.int .i64 (wrap64 ((wrap64 (a1_2*(wrap64 (a2_1*t404))))+(wrap64 (a1_3*t403))))))):=⟨blA⟩
    (try clear BK399)
    (try clear BK400)
    (try clear BK401)
    (try clear BK405)
    (try clear BK406)
    (try clear HB)
    generalize ((w24.setCell ⟨gb406,0,none⟩ (.int .i64 (wrap64 ((wrap64 (a1_0*(wrap64 (a2_1*t404))))+(wrap64 (a1_1*t403)))))).setCell ⟨gb406,1,none⟩ (.int .i64 (wrap64 ((wrap64 (a1_2*(wrap64 (a2_1*t404))))+(wrap64 (a1_3*t403))))))=w34 at n0_ n1_ n2_ n3_ n4_ n5_ ⊢
    have BK399:=n0_
    have BK400:=n1_
    have BK401:=n2_
    have BK405:=n3_
    have BK406:=n4_
    have HB:=n5_
    clear n0_ n1_ n2_ n3_ n4_ n5_
    have n0_:=Aside0.mk (blk_drew BK399.out)
    have n1_:=Aside0.mk (blk_drew BK400.out)
    have n2_:=Aside0.mk (blk_drew BK401.out)
    have n3_:=Aside0.mk (blk_drew BK405.out)
    have n4_:=Aside0.mk (blk_drew BK406.out)
    have n5_:=Aside0.mk (below_drew1 HB.out)
    clear BK399
    clear BK400
    clear BK401
    clear BK405
    clear BK406
    clear HB
    have BK399:=n0_
    have BK400:=n1_
    have BK401:=n2_
    have BK405:=n3_
    have BK406:=n4_
    have HB:=n5_
    clear n0_ n1_ n2_ n3_ n4_ n5_
   ·
    refine start_ (n:=19) (S:=fun w'=>w'.cell? ⟨gb406,0,none⟩=some (.int .i64 (wrap64 ((wrap64 (a1_0*(wrap64 (a2_1*t404))))+(wrap64 (a1_1*t403)))))∧w'.cell? ⟨gb406,1,none⟩=some (.int .i64 (wrap64 ((wrap64 (a1_2*(wrap64 (a2_1*t404))))+(wrap64 (a1_3*t403)))))∧w'.cell? ⟨gb405,0,none⟩=some (.int .i64 (wrap64 (a1_0*t402)))∧w'.cell? ⟨gb405,1,none⟩=some (.int .i64 (wrap64 (a1_2*t402)))) (ds:=[]) #[Z,Z,Z,Z,Z,Z,Z,Z,Z,Z,Z,Z,Z,Z,Z,Z,Z,Z,Z] (by kernel_rfl) rfl rfl ⟨cA BK406 0,cA BK406 1,cA BK405 0,cA BK405 1⟩ (fun hHeld=>?_);refine with_tabW spec_l04Move.tab6 spec_l04Move.bits6 (fun HT_ HW_=>?_)
    generalize w34.drew=w35 at BK399 BK400 BK401 BK405 BK406 HB hHeld ⊢
    refine puA (i:=0) (N:=some 73) #[Y,Z,Z,Z,Z,Z,Z,Z,Z,Z,Z,Z,Z,Z,Z,Z,Z,Z,Z] rfl rfl HT_ ?_
    refine taA (i:=1) (N:=some 74) #[Y,Y,Z,Z,Z,Z,Z,Z,Z,Z,Z,Z,Z,Z,Z,Z,Z,Z,Z] rfl rfl HT_ HW_ hHeld ?_
    refine puA (i:=2) (N:=some 75) #[Y,Y,Y,Z,Z,Z,Z,Z,Z,Z,Z,Z,Z,Z,Z,Z,Z,Z,Z] rfl rfl HT_ ?_
    refine puA (i:=3) (N:=some 76) #[Y,Y,Y,Y,Z,Z,Z,Z,Z,Z,Z,Z,Z,Z,Z,Z,Z,Z,Z] rfl rfl HT_ ?_
    refine puA (i:=4) (N:=some 77) #[Y,Y,Y,Y,Y,Z,Z,Z,Z,Z,Z,Z,Z,Z,Z,Z,Z,Z,Z] rfl rfl HT_ ?_
    refine taA (i:=5) (N:=some 78) #[Y,Y,Y,Y,Y,Y,Z,Z,Z,Z,Z,Z,Z,Z,Z,Z,Z,Z,Z] rfl rfl HT_ HW_ hHeld ?_
    refine puA (i:=6) (N:=some 79) #[Y,Y,Y,Y,Y,Y,Y,Z,Z,Z,Z,Z,Z,Z,Z,Z,Z,Z,Z] rfl rfl HT_ ?_
    refine puA (i:=7) (N:=some 80) #[Y,Y,Y,Y,Y,Y,Y,Y,Z,Z,Z,Z,Z,Z,Z,Z,Z,Z,Z] rfl rfl HT_ ?_
    refine puU (i:=8) (N:=some 81) #[Y,Y,Y,Y,Y,Y,Y,Y,Y,Z,Z,Z,Z,Z,Z,Z,Z,Z,Z] rfl rfl HT_ ?_
    refine puU (i:=9) (N:=some 82) #[Y,Y,Y,Y,Y,Y,Y,Y,Y,Y,Z,Z,Z,Z,Z,Z,Z,Z,Z] rfl rfl HT_ ?_
    refine puU (i:=10) (N:=some 83) #[Y,Y,Y,Y,Y,Y,Y,Y,Y,Y,Y,Z,Z,Z,Z,Z,Z,Z,Z] rfl rfl HT_ ?_
    refine puU (i:=11) (N:=some 84) #[Y,Y,Y,Y,Y,Y,Y,Y,Y,Y,Y,Y,Z,Z,Z,Z,Z,Z,Z] rfl rfl HT_ ?_
    refine puU (i:=12) (N:=some 85) #[Y,Y,Y,Y,Y,Y,Y,Y,Y,Y,Y,Y,Y,Z,Z,Z,Z,Z,Z] rfl rfl HT_ ?_
    refine puU (i:=13) (N:=some 86) #[Y,Y,Y,Y,Y,Y,Y,Y,Y,Y,Y,Y,Y,Y,Z,Z,Z,Z,Z] rfl rfl HT_ ?_
    refine puU (i:=14) (N:=some 87) #[Y,Y,Y,Y,Y,Y,Y,Y,Y,Y,Y,Y,Y,Y,Y,Z,Z,Z,Z] rfl rfl HT_ ?_
    refine puU (i:=15) (N:=some 88) #[Y,Y,Y,Y,Y,Y,Y,Y,Y,Y,Y,Y,Y,Y,Y,Y,Z,Z,Z] rfl rfl HT_ ?_
    refine puU (i:=16) (N:=some 89) #[Y,Y,Y,Y,Y,Y,Y,Y,Y,Y,Y,Y,Y,Y,Y,Y,Y,Z,Z] rfl rfl HT_ ?_
    refine puA (i:=17) (N:=some 90) #[Y,Y,Y,Y,Y,Y,Y,Y,Y,Y,Y,Y,Y,Y,Y,Y,Y,Y,Z] rfl rfl HT_ ?_
    refine puA (i:=18) (N:=some 91) #[Y,Y,Y,Y,Y,Y,Y,Y,Y,Y,Y,Y,Y,Y,Y,Y,Y,Y,Y] rfl rfl HT_ ?_
    refine done_ (done_of HT_.out (by kernel_rfl)) ?_
    try go_wp2
    go_meet
    case rel=>exact ⟨_,(false),hB,H',⟨by first|omega|exact Nat.le_refl _⟩,⟨bkA BK399⟩,⟨bkA BK400⟩,⟨bkA BK401⟩,⟨bkA BK405⟩,⟨bkA BK406⟩,⟨blA⟩⟩
   ·
    refine start_ (n:=19) (S:=fun w'=>w'.cell? ⟨gb406,0,none⟩=some (.int .i64 (wrap64 ((wrap64 (a1_0*(wrap64 (a2_1*t404))))+(wrap64 (a1_1*t403)))))∧w'.cell? ⟨gb406,1,none⟩=some (.int .i64 (wrap64 ((wrap64 (a1_2*(wrap64 (a2_1*t404))))+(wrap64 (a1_3*t403)))))∧w'.cell? ⟨gb405,0,none⟩=some (.int .i64 (wrap64 (a1_0*t402)))∧w'.cell? ⟨gb405,1,none⟩=some (.int .i64 (wrap64 (a1_2*t402)))) (ds:=[]) #[Z,Z,Z,Z,Z,Z,Z,Z,Z,Z,Z,Z,Z,Z,Z,Z,Z,Z,Z] (by kernel_rfl) rfl rfl ⟨cA BK406 0,cA BK406 1,cA BK405 0,cA BK405 1⟩ (fun hHeld=>?_);refine with_tabW spec_l04Move.tab6 spec_l04Move.bits6 (fun HT_ HW_=>?_)
    generalize w34.drew=w39 at BK399 BK400 BK401 BK405 BK406 HB hHeld ⊢
    refine puA (i:=0) (N:=some 73) #[Y,Z,Z,Z,Z,Z,Z,Z,Z,Z,Z,Z,Z,Z,Z,Z,Z,Z,Z] rfl rfl HT_ ?_
    refine taA (i:=1) (N:=some 74) #[Y,Y,Z,Z,Z,Z,Z,Z,Z,Z,Z,Z,Z,Z,Z,Z,Z,Z,Z] rfl rfl HT_ HW_ hHeld ?_
    refine puA (i:=2) (N:=some 75) #[Y,Y,Y,Z,Z,Z,Z,Z,Z,Z,Z,Z,Z,Z,Z,Z,Z,Z,Z] rfl rfl HT_ ?_
    refine puA (i:=3) (N:=some 76) #[Y,Y,Y,Y,Z,Z,Z,Z,Z,Z,Z,Z,Z,Z,Z,Z,Z,Z,Z] rfl rfl HT_ ?_
    refine puA (i:=4) (N:=some 77) #[Y,Y,Y,Y,Y,Z,Z,Z,Z,Z,Z,Z,Z,Z,Z,Z,Z,Z,Z] rfl rfl HT_ ?_
    refine taA (i:=5) (N:=some 78) #[Y,Y,Y,Y,Y,Y,Z,Z,Z,Z,Z,Z,Z,Z,Z,Z,Z,Z,Z] rfl rfl HT_ HW_ hHeld ?_
    refine puA (i:=6) (N:=some 79) #[Y,Y,Y,Y,Y,Y,Y,Z,Z,Z,Z,Z,Z,Z,Z,Z,Z,Z,Z] rfl rfl HT_ ?_
    refine puA (i:=7) (N:=some 80) #[Y,Y,Y,Y,Y,Y,Y,Y,Z,Z,Z,Z,Z,Z,Z,Z,Z,Z,Z] rfl rfl HT_ ?_
    refine puA (i:=8) (N:=some 81) #[Y,Y,Y,Y,Y,Y,Y,Y,Y,Z,Z,Z,Z,Z,Z,Z,Z,Z,Z] rfl rfl HT_ ?_
    refine puA (i:=9) (N:=some 82) #[Y,Y,Y,Y,Y,Y,Y,Y,Y,Y,Z,Z,Z,Z,Z,Z,Z,Z,Z] rfl rfl HT_ ?_
    refine puA (i:=12) (N:=some 85) #[Y,Y,Y,Y,Y,Y,Y,Y,Y,Y,Z,Z,Y,Z,Z,Z,Z,Z,Z] rfl rfl HT_ ?_
    refine puA (i:=13) (N:=some 86) #[Y,Y,Y,Y,Y,Y,Y,Y,Y,Y,Z,Z,Y,Y,Z,Z,Z,Z,Z] rfl rfl HT_ ?_
    refine taA (i:=10) (N:=some 83) #[Y,Y,Y,Y,Y,Y,Y,Y,Y,Y,Y,Z,Y,Y,Z,Z,Z,Z,Z] rfl rfl HT_ HW_ hHeld ?_
    refine taA (i:=14) (N:=some 87) #[Y,Y,Y,Y,Y,Y,Y,Y,Y,Y,Y,Z,Y,Y,Y,Z,Z,Z,Z] rfl rfl HT_ HW_ hHeld ?_
    refine one_ (i:=11) (N:=some 84) #[Y,Y,Y,Y,Y,Y,Y,Y,Y,Y,Y,Y,Y,Y,Y,Z,Z,Z,Z] rfl rfl (one_of HT_.out (by kernel_rfl)) (by decide) (fun K hK=>?_)
    refine goes_ Try.func95 (by kernel_rfl) rfl #[.int .i64 a0,.int .i64 (wrap64 ((wrap64 (a1_2*(wrap64 (a2_1*t404))))+(wrap64 (a1_3*t403))))] (by rfl) rfl rfl hA ?_
    with_reducible refine (spec_l01Val.calls k a0 (wrap64 ((wrap64 (a1_2*(wrap64 (a2_1*t404))))+(wrap64 (a1_3*t403)))) t407 _ A36.out).mono ?_
    rintro e w' ⟨rfl,⟨nd,rfl⟩⟩
    refine ⟨_,rfl,?_⟩
    refine hK.out _ _ ⟨cA BK406 0,cA BK406 1,cA BK405 0,cA BK405 1⟩ (fun hHeld=>?_)
    clear hK K
    refine nmA ?_
    refine one_ (i:=15) (N:=some 88) #[Y,Y,Y,Y,Y,Y,Y,Y,Y,Y,Y,Y,Y,Y,Y,Y,Z,Z,Z] rfl rfl (one_of HT_.out (by kernel_rfl)) (by decide) (fun K hK=>?_)
    refine goC Try.func95 (spec_l01Val.calls (w:=_) (h:=A37.out)) ?_
    rintro _ ⟨nd,rfl⟩
    refine hK.out _ _ ⟨cA BK406 0,cA BK406 1,cA BK405 0,cA BK405 1⟩ (fun hHeld=>?_)
    clear hK K
    refine nmA ?_
    refine puA (i:=16) (N:=some 89) #[Y,Y,Y,Y,Y,Y,Y,Y,Y,Y,Y,Y,Y,Y,Y,Y,Y,Z,Z] rfl rfl HT_ ?_
    refine puA (i:=17) (N:=some 90) #[Y,Y,Y,Y,Y,Y,Y,Y,Y,Y,Y,Y,Y,Y,Y,Y,Y,Y,Z] rfl rfl HT_ ?_
    refine puA (i:=18) (N:=some 91) #[Y,Y,Y,Y,Y,Y,Y,Y,Y,Y,Y,Y,Y,Y,Y,Y,Y,Y,Y] rfl rfl HT_ ?_
    refine done_ (done_of HT_.out (by kernel_rfl)) ?_
    try go_wp2
    go_meet
    case rel=>exact ⟨_,(decide (t407>t408)),hB,H',⟨by first|omega|exact Nat.le_refl _⟩,⟨bkA BK399⟩,⟨bkA BK400⟩,⟨bkA BK401⟩,⟨bkA BK405⟩,⟨bkA BK406⟩,⟨blA⟩⟩
 case rest=>
  clear HC8
  try clear c30
  try clear c30b0
  try clear c30b1
  try clear c33
  try clear c33b0
  try clear c33b1
  try clear hcz17_0
  try clear hcz17_1
  try clear hcz17_2
  try clear hcz17_3
  try clear hcz22_0
  try clear hcz22_1
  try clear hcz23_0
  try clear hcz23_1
  try clear hcz23_2
  try clear hcz23_3
  try clear hcz29_0
  try clear hcz29_1
  try clear hfz17_0
  try clear hfz17_1
  try clear hfz17_2
  try clear hfz17_3
  try clear hfz22_0
  try clear hfz22_1
  try clear hfz23_0
  try clear hfz23_1
  try clear hfz23_2
  try clear hfz23_3
  try clear hfz29_0
  try clear hfz29_1
  obtain ⟨kq,x91_7,rfl,HA,HJ7,BK399,BK400,BK401,BK405,BK406,HB⟩:=hcut
  cases kq with
  | zero=>exact absurd HA.out (by simp [spec_l04Move.j0])
  | succ kj7=>
   have H:=HA.out
   clear HA
   simp only [spec_l04Move.j0] at H
   have HC40:=Aside0.mk H
   clear H
   go_upto_if 91 with (fail)
   go_cut [] (fun wc=>∃ (kq:Nat) (x407000_39:Int) (x407001_39:Int),Aside0 (spec_l04Move.j1 kq a0 ji4 a1_0 a1_1 a1_2 a1_3 a2_0 a2_1 a2_2 x407000_39 x407001_39=some (r1,r2,r3,r4))∧Aside0 (kq≤kj7)∧Aside0 (wc.heap[gb399]?=some (.cells #[.int .i64 a1_0,.int .i64 a1_1,.int .i64 a1_2,.int .i64 a1_3] 26 (0,0)))∧Aside0 (wc.heap[gb400]?=some (.cells #[.int .i64 a2_0,.int .i64 a2_1,.int .i64 a2_2] 28 (0,0)))∧Aside0 (wc.heap[gb401]?=some (.cells #[.int .i64 0,.int .i64 0,.int .i64 0] 28 (0,0)))∧Aside0 (wc.heap[gb405]?=some (.cells #[.int .i64 (wrap64 (a1_0*t402)),.int .i64 (wrap64 (a1_2*t402))] 24 (0,0)))∧Aside0 (wc.heap[gb406]?=some (.cells #[.int .i64 x407000_39,.int .i64 x407001_39] 24 (0,0)))∧Aside0 (Below w.heap.size w wc))
   case first=>
    have H:=HC40.out
    clear HC40
    by_cases c41:x91_7=true
    ·
     subst c41
     rw [if_pos rfl] at H
     try dsimp only at H
     have H':=Aside0.mk H
     clear H
     have hnb42:=NB405_399.out
     have hnc42:=NB399_405.out
     have hnb43:=NB405_400.out
     have hnc43:=NB400_405.out
     have hnb44:=NB405_401.out
     have hnc44:=NB401_405.out
     have hnb45:=NB405_406.out
     have hnc45:=NB406_405.out
     obtain ⟨hcz46_0,hcz46_1,hfz46_0,hfz46_1⟩:=cz2 BK405
     have hnb47:=NB406_399.out
     have hnc47:=NB399_406.out
     have hnb48:=NB406_400.out
     have hnc48:=NB400_406.out
     have hnb49:=NB406_401.out
     have hnc49:=NB401_406.out
     have hcz50_0:wc.cell? ⟨gb406,0,none⟩=some (.int .i64 (wrap64 ((wrap64 (a1_0*(wrap64 (a2_1*t404))))+(wrap64 (a1_1*t403))))):=cA BK406 0
     have hcz50_1:wc.cell? ⟨gb406,1,none⟩=some (.int .i64 (wrap64 ((wrap64 (a1_2*(wrap64 (a2_1*t404))))+(wrap64 (a1_3*t403))))):=cA BK406 1
     have hfz50_0:=blk_frozen BK406.out 0
     have hfz50_1:=blk_frozen BK406.out 1
     go_wp2
     go_meet
     case rel=>exact ⟨_,((wrap64 (a1_0*t402))),((wrap64 (a1_2*t402))),H',⟨by have:=HJ7.out;first|omega|exact Nat.le_refl _⟩,⟨bkF BK399⟩,⟨bkF BK400⟩,⟨bkF BK401⟩,⟨bkF BK405⟩,⟨bpA BK406⟩,⟨blA⟩⟩
    ·
     replace c41:=Bool.eq_false_iff.mpr c41
     subst c41
     rw [if_neg (show ¬ (false=true) by decide)] at H
     try dsimp only at H
     have H':=Aside0.mk H
     clear H
     go_wp2
     go_meet
     case rel=>exact ⟨_,((wrap64 ((wrap64 (a1_0*(wrap64 (a2_1*t404))))+(wrap64 (a1_1*t403))))),((wrap64 ((wrap64 (a1_2*(wrap64 (a2_1*t404))))+(wrap64 (a1_3*t403))))),H',⟨by have:=HJ7.out;first|omega|exact Nat.le_refl _⟩,⟨bkA BK399⟩,⟨bkA BK400⟩,⟨bkA BK401⟩,⟨bkA BK405⟩,⟨bkA BK406⟩,⟨blA⟩⟩
   case rest=>
    clear HC40
    try clear c30
    try clear c30b0
    try clear c30b1
    try clear c33
    try clear c33b0
    try clear c33b1
    try clear c41
    try clear hcz17_0
    try clear hcz17_1
    try clear hcz17_2
    try clear hcz17_3
    try clear hcz22_0
    try clear hcz22_1
    try clear hcz23_0
    try clear hcz23_1
    try clear hcz23_2
    try clear hcz23_3
    try clear hcz29_0
    try clear hcz29_1
    try clear hcz46_0
    try clear hcz46_1
    try clear hcz50_0
    try clear hcz50_1
    try clear hfz17_0
    try clear hfz17_1
    try clear hfz17_2
    try clear hfz17_3
    try clear hfz22_0
    try clear hfz22_1
    try clear hfz23_0
    try clear hfz23_1
    try clear hfz23_2
    try clear hfz23_3
    try clear hfz29_0
    try clear hfz29_1
    try clear hfz46_0
    try clear hfz46_1
    try clear hfz50_0
    try clear hfz50_1
    obtain ⟨kq,x407000_39,x407001_39,HA,HJ39,BK399,BK400,BK401,BK405,BK406,HB⟩:=hcut
    cases kq with
    | zero=>exact absurd HA.out (by simp [spec_l04Move.j1])
    | succ kj39=>
     have H:=HA.out
     clear HA
     simp only [spec_l04Move.j1] at H
     replace H:=bS H
     obtain ⟨t409,A51,H⟩:=H
     try dsimp only at H
     replace H:=bS H
     obtain ⟨t410,A52,H⟩:=H
     try dsimp only at H
     replace H:=bS H
     obtain ⟨t411,A53,H⟩:=H
     try dsimp only at H
     replace H:=bS H
     obtain ⟨⟨t412,t413,t414,t415⟩,A54,H⟩:=H
     try dsimp only at H
     simp only [Option.some.injEq,Prod.mk.injEq] at H
     obtain ⟨rfl,rfl,rfl,rfl⟩:=H
     try go_wp2
     have n0_:=Aside0.mk (blk_drew BK399.out)
     have n1_:=Aside0.mk (blk_drew BK400.out)
     have n2_:=Aside0.mk (blk_drew BK401.out)
     have n3_:=Aside0.mk (blk_drew BK405.out)
     have n4_:=Aside0.mk (blk_drew BK406.out)
     have n5_:=Aside0.mk (below_drew1 HB.out)
     clear BK399
     clear BK400
     clear BK401
     clear BK405
     clear BK406
     clear HB
     have BK399:=n0_
     have BK400:=n1_
     have BK401:=n2_
     have BK405:=n3_
     have BK406:=n4_
     have HB:=n5_
     clear n0_ n1_ n2_ n3_ n4_ n5_
     refine start_ (n:=17) (S:=fun w'=>w'.cell? ⟨gb399,0,none⟩=some (.int .i64 a1_0)∧w'.cell? ⟨gb399,1,none⟩=some (.int .i64 a1_1)∧w'.cell? ⟨gb399,2,none⟩=some (.int .i64 a1_2)∧w'.cell? ⟨gb399,3,none⟩=some (.int .i64 a1_3)∧w'.cell? ⟨gb400,0,none⟩=some (.int .i64 a2_0)∧w'.cell? ⟨gb400,1,none⟩=some (.int .i64 a2_1)∧w'.cell? ⟨gb400,2,none⟩=some (.int .i64 a2_2)∧w'.cell? ⟨gb406,0,none⟩=some (.int .i64 x407000_39)∧w'.cell? ⟨gb406,1,none⟩=some (.int .i64 x407001_39)) (ds:=[]) #[Z,Z,Z,Z,Z,Z,Z,Z,Z,Z,Z,Z,Z,Z,Z,Z,Z] (by kernel_rfl) rfl rfl ⟨cA BK399 0,cA BK399 1,cA BK399 2,cA BK399 3,cA BK400 0,cA BK400 1,cA BK400 2,cA BK406 0,cA BK406 1⟩ (fun hHeld=>?_);refine with_tabW spec_l04Move.tab8 spec_l04Move.bits8 (fun HT_ HW_=>?_)
     generalize wc.drew=w55 at BK399 BK400 BK401 BK405 BK406 HB hHeld ⊢
     refine puA (i:=0) (N:=some 93) #[Y,Z,Z,Z,Z,Z,Z,Z,Z,Z,Z,Z,Z,Z,Z,Z,Z] rfl rfl HT_ ?_
     refine puA (i:=4) (N:=some 97) #[Y,Z,Z,Z,Y,Z,Z,Z,Z,Z,Z,Z,Z,Z,Z,Z,Z] rfl rfl HT_ ?_
     refine puA (i:=7) (N:=some 100) #[Y,Z,Z,Z,Y,Z,Z,Y,Z,Z,Z,Z,Z,Z,Z,Z,Z] rfl rfl HT_ ?_
     refine puA (i:=8) (N:=some 101) #[Y,Z,Z,Z,Y,Z,Z,Y,Y,Z,Z,Z,Z,Z,Z,Z,Z] rfl rfl HT_ ?_
     refine puA (i:=10) (N:=some 103) #[Y,Z,Z,Z,Y,Z,Z,Y,Y,Z,Y,Z,Z,Z,Z,Z,Z] rfl rfl HT_ ?_
     refine puA (i:=11) (N:=some 104) #[Y,Z,Z,Z,Y,Z,Z,Y,Y,Z,Y,Y,Z,Z,Z,Z,Z] rfl rfl HT_ ?_
     refine taA (i:=1) (N:=some 94) #[Y,Y,Z,Z,Y,Z,Z,Y,Y,Z,Y,Y,Z,Z,Z,Z,Z] rfl rfl HT_ HW_ hHeld ?_
     refine taA (i:=5) (N:=some 98) #[Y,Y,Z,Z,Y,Y,Z,Y,Y,Z,Y,Y,Z,Z,Z,Z,Z] rfl rfl HT_ HW_ hHeld ?_
     refine taA (i:=12) (N:=some 105) #[Y,Y,Z,Z,Y,Y,Z,Y,Y,Z,Y,Y,Y,Z,Z,Z,Z] rfl rfl HT_ HW_ hHeld ?_
     refine one_ (i:=2) (N:=some 95) #[Y,Y,Y,Z,Y,Y,Z,Y,Y,Z,Y,Y,Y,Z,Z,Z,Z] rfl rfl (one_of HT_.out (by kernel_rfl)) (by decide) (fun K hK=>?_)
     refine goC Try.func96 (spec_l04Det.calls (w:=_) (h:=A51.out)) ?_
     intro w56 hb
     replace BK399:=kB BK399 hb
     replace BK400:=kB BK400 hb
     replace BK401:=kB BK401 hb
     replace BK405:=kB BK405 hb
     replace BK406:=kB BK406 hb
     replace HB:=lB hb
     (try clear hb)
     (try clear hb2)
     (try clear hk)
     (try clear hi)
     refine hK.out _ _ ⟨cA BK399 0,cA BK399 1,cA BK399 2,cA BK399 3,cA BK400 0,cA BK400 1,cA BK400 2,cA BK406 0,cA BK406 1⟩ (fun hHeld=>?_)
     clear hK K
     refine nmA ?_
     refine one_ (i:=3) (N:=some 96) #[Y,Y,Y,Y,Y,Y,Z,Y,Y,Z,Y,Y,Y,Z,Z,Z,Z] rfl rfl (one_of HT_.out (by kernel_rfl)) (by decide) (fun K hK=>?_)
     refine goC Try.func95 (spec_l01Val.calls (w:=_) (h:=A52.out)) ?_
     rintro _ ⟨nd,rfl⟩
     refine hK.out _ _ ⟨cA BK399 0,cA BK399 1,cA BK399 2,cA BK399 3,cA BK400 0,cA BK400 1,cA BK400 2,cA BK406 0,cA BK406 1⟩ (fun hHeld=>?_)
     clear hK K
     refine nmA ?_
     refine puA (i:=6) (N:=some 99) #[Y,Y,Y,Y,Y,Y,Y,Y,Y,Z,Y,Y,Y,Z,Z,Z,Z] rfl rfl HT_ ?_
     refine puA (i:=9) (N:=some 102) #[Y,Y,Y,Y,Y,Y,Y,Y,Y,Y,Y,Y,Y,Z,Z,Z,Z] rfl rfl HT_ ?_
     refine one_ (i:=13) (N:=some 106) #[Y,Y,Y,Y,Y,Y,Y,Y,Y,Y,Y,Y,Y,Y,Z,Z,Z] rfl rfl (one_of HT_.out (by kernel_rfl)) (by decide) (fun K hK=>?_)
     refine goC Try.func95 (spec_l01Val.calls (w:=_) (h:=A53.out)) ?_
     rintro _ ⟨nd,rfl⟩
     refine hK.out _ _ ⟨cA BK399 0,cA BK399 1,cA BK399 2,cA BK399 3,cA BK400 0,cA BK400 1,cA BK400 2,cA BK406 0,cA BK406 1⟩ (fun hHeld=>?_)
     clear hK K
     refine nmA ?_
     refine puA (i:=14) (N:=some 107) #[Y,Y,Y,Y,Y,Y,Y,Y,Y,Y,Y,Y,Y,Y,Y,Z,Z] rfl rfl HT_ ?_
     refine puA (i:=15) (N:=some 108) #[Y,Y,Y,Y,Y,Y,Y,Y,Y,Y,Y,Y,Y,Y,Y,Y,Z] rfl rfl HT_ ?_
     refine puA (i:=16) (N:=some 14) #[Y,Y,Y,Y,Y,Y,Y,Y,Y,Y,Y,Y,Y,Y,Y,Y,Y] rfl rfl HT_ ?_
     refine done_ (done_of HT_.out (by kernel_rfl)) ?_
     have hnb57:=NB406_399.out
     have hnc57:=NB399_406.out
     have hnb58:=NB406_400.out
     have hnc58:=NB400_406.out
     have hnb59:=NB406_401.out
     have hnc59:=NB401_406.out
     have hnb60:=NB406_405.out
     have hnc60:=NB405_406.out
     obtain ⟨hcz61_0,hcz61_1,hfz61_0,hfz61_1⟩:=cz2 BK406
     try go_wp2_with (first|((with_reducible refine gate_callee (f:=97) rfl ?_);refine goesL_ (some 115) rfl rfl Try.func97 (by kernel_rfl) rfl #[.int .i64 a0,.int .i64 x407000_39,.int .i64 x407001_39,.int .i64 (wrap64 ((wrap64 ((wrap64 (t410+a2_0))+(wrap64 (2*ji4)))) - (wrap64 (2*t411))))] rfl (by (try simp only [List.map_toArray,List.map_cons,List.map_nil]);first|done|(simp only [hji4];rfl)|rfl|(simp only [List.length_drop,List.length_take];rfl)) ?_;(with_reducible refine (spec_l01Of.calls kj39 a0 x407000_39 x407001_39 (wrap64 ((wrap64 ((wrap64 (t410+a2_0))+(wrap64 (2*ji4)))) - (wrap64 (2*t411)))) t412 t413 t414 t415 _ A54.out).mono ?_);rintro e w62 ⟨rfl,hb⟩;refine ⟨_,rfl,?_⟩;have n0_:=kB BK399 hb;have n1_:=kB BK400 hb;have n2_:=kB BK401 hb;have n3_:=kB BK405 hb;have n4_:=kB BK406 hb;have n5_:=lB hb;clear BK399;clear BK400;clear BK401;clear BK405;clear BK406;clear HB;have BK399:=n0_;have BK400:=n1_;have BK401:=n2_;have BK405:=n3_;have BK406:=n4_;have HB:=n5_;clear n0_ n1_ n2_ n3_ n4_ n5_;clear hb;have hnb63:=NB401_399.out;have hnc63:=NB399_401.out;have hnb64:=NB401_400.out;have hnc64:=NB400_401.out;have hnb65:=NB401_405.out;have hnc65:=NB405_401.out;obtain ⟨hcz66_0,hcz66_1,hcz66_2,hfz66_0,hfz66_1,hfz66_2⟩:=cz3 BK401))
     refine bodyPost_ret (results_ct rfl _ _ gb401 28 #[.int .i64 t412,.int .i64 t413,.int .i64 t414] (0,0) _ rfl (bpA BK401) Try.underlying28 rfl (by kernel_rfl)) rfl ?_
     exact ⟨by first|rfl|(simp [errW_none,errW_some] <;> rfl)|(simp only [← hji4];first|rfl|(simp [errW_none,errW_some] <;> rfl))|(simp [*,errW_none,errW_some] <;> rfl),blA⟩
end Go.Proofs.Ytlpmefmaplhfdaa.PAll
