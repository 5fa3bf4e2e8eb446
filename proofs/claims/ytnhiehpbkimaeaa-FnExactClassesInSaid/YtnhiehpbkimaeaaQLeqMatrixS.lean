-- turned out of the kit's print
import Derived.Test.YtnhiehpbkimaeaaQx
import Derived.Test.YtnhiehpbkimaeaaQimplBall38
import Derived.Test.YtnhiehpbkimaeaaQimplBall56
import Derived.Test.YtnhiehpbkimaeaaQimplmark
import Derived.Test.YtnhiehpbkimaeaaQspecl06Code
namespace Go.Proofs.Ytnhiehpbkimaeaa.PAll
open Go.RowKit Go.Proofs.YtnhiehpbkimaeaaW.PrintWords Go.Proofs.YtnhiehpbkimaeaaW.PrintLast Go.Proofs.YtnhiehpbkimaeaaW.PrintMore
attribute [local go_sem] Go.Proofs.Ytnhiehpbkimaeaa.Aux.setCell_drewN Go.Proofs.Ytnhiehpbkimaeaa.Aux.isSome_setCell max2_int min2_int max_two min_two max_three min_three max_four min_four
set_option linter.unusedVariables false
set_option linter.unusedSimpArgs false
def impl_child.f (k:Nat) (a0 a1_0 a1_1 a1_2 a2:Int):Option (Int × Int × Int × Bool):=(impl_mark.f k a0 a1_0 a1_1 a1_2).bind fun t425=>((impl_power.f k a0 (wrap64 (a1_0+6))).bind fun t426=>((impl_ofMark.f k a0 (wrap64 (a1_0+1)) (wrap64 (t425+(wrap64 (a2*t426))))).bind fun bt427=>(some (bt427.1,bt427.2.1,bt427.2.2.1,bt427.2.2.2))))
theorem impl_child.mono:∀ a0 a1 a2 a3 a4 k,LeO (impl_child.f k a0 a1 a2 a3 a4) (impl_child.f (k+1) a0 a1 a2 a3 a4):=by
 intro a0 a1 a2 a3 a4 k
 unfold impl_child.f
 repeat' first
   | with_reducible first|exact impl_mark.mono ..|exact impl_ofMark.mono ..|exact impl_power.mono ..|exact LeO.refl _|exact LeO.none _|refine LeO.ite ?_ ?_|refine LeO.bind ?_ fun _=>?_
def impl_child.T1:Bool × List (List Nat × List Nat):=(true,[([],[]),([],[]),([1],[1]),([2],[2]),([],[]),([],[]),([4,5],[4,5]),([],[]),([],[]),([],[]),([9],[9]),([10],[10]),([8,11,6],[8,11]),([7,12],[7,12]),([6,13],[6,13]),([0,3,14,12],[0,3,14]),([15],[15]),([15],[15]),([16,15,0,1,2,3,4,5,6,7,8,9,10,11,12,13,14,15,16,17],[16]),([17,18,0,1,2,3,4,5,6,7,8,9,10,11,12,13,14,15,16,17,18],[17])])
def impl_child.B1:List Nat:=[0,0,2,6,0,0,48,0,0,0,512,1536,3952,8176,16368,32767,65535,65535,262143,524287]
theorem impl_child.tab1:rtab .any (opsOf Try.f78 1)=impl_child.T1:=by kernel_rfl
theorem impl_child.bits1:waitsOk impl_child.T1.2 impl_child.B1=true:=by kernel_rfl
set_option maxHeartbeats 8000000 in
set_option maxRecDepth 100000 in
theorem impl_child.calls (k:Nat) (a0 a1_0 a1_1 a1_2 a2 r1 r2 r3:Int) (r4:Bool) (w:World) (h:impl_child.f k a0 a1_0 a1_1 a1_2 a2=some (r1,r2,r3,r4)) :
  Calls Try.prog 78 #[.int .i64 a0,.agg #[.int .i64 a1_0,.int .i64 a1_1,.int .i64 a1_2],.int .i64 a2] w fun e w'=>e=.returned (.tuple #[.agg #[.int .i64 r1,.int .i64 r2,.int .i64 r3],.bool r4])∧Below w.heap.size w w':=by
 have hu53:=Try.underlying53
 have HB:=Aside0.mk (Below.refl w.heap.size w)
 have H:=h
 unfold impl_child.f at H
 clear h
 replace H:=bS H
 obtain ⟨t425,A4,H⟩:=H
 try dsimp only at H
 replace H:=bS H
 obtain ⟨t426,A5,H⟩:=H
 try dsimp only at H
 replace H:=bS H
 obtain ⟨⟨t427,t428,t429,t430⟩,A6,H⟩:=H
 try dsimp only at H
 simp only [Option.some.injEq,Prod.mk.injEq] at H
 obtain ⟨rfl,rfl,rfl,rfl⟩:=H
 go_enter Try.func78,Try.ntmps78
 try go_wp2_with (first|((with_reducible refine gate_dst (N:=4) rfl ?_);refine bxE (cs:=#[.int .i64 a1_0,.int .i64 a1_1,.int .i64 a1_2]) (t:=53) ?_;intro gb423 hg w7 hbox hb;have n0_:=lB hb;have n1_:=Aside0.mk hbox;have n2_:=sA hg;have n3_:=sA hg;clear HB;have HB:=n0_;have BK423:=n1_;have GW423:=n2_;have GE423:=n3_;clear n0_ n1_ n2_ n3_;clear hb hbox hg)|((with_reducible refine gate_dst (N:=6) rfl ?_);refine bxE (cs:=#[.int .i64 0,.int .i64 0,.int .i64 0]) (t:=53) ?_;intro gb424 hg w8 hbox hb;have n0_:=kB BK423 hb;have n1_:=lB hb;have n2_:=Aside0.mk hbox;have n3_:=sA hg;have n4_:=sA hg;have n5_:=nA hg BK423;have n6_:=nB hg BK423;clear BK423;clear HB;have BK423:=n0_;have HB:=n1_;have BK424:=n2_;have GW424:=n3_;have GE424:=n4_;have NB423_424:=n5_;have NB424_423:=n6_;clear n0_ n1_ n2_ n3_ n4_ n5_ n6_;clear hb hbox hg))
 have n0_:=Aside0.mk (blk_drew BK423.out)
 have n1_:=Aside0.mk (blk_drew BK424.out)
 have n2_:=Aside0.mk (below_drew1 HB.out)
 clear BK423
 clear BK424
 clear HB
 have BK423:=n0_
 have BK424:=n1_
 have HB:=n2_
 clear n0_ n1_ n2_
 refine start_ (n:=20) (S:=fun w'=>w'.cell? ⟨gb423,0,none⟩=some (.int .i64 a1_0)∧w'.cell? ⟨gb423,1,none⟩=some (.int .i64 a1_1)∧w'.cell? ⟨gb423,2,none⟩=some (.int .i64 a1_2)) (ds:=[]) #[Z,Z,Z,Z,Z,Z,Z,Z,Z,Z,Z,Z,Z,Z,Z,Z,Z,Z,Z,Z] (by kernel_rfl) rfl rfl ⟨cA BK423 0,cA BK423 1,cA BK423 2⟩ (fun hHeld=>?_);refine with_tabW impl_child.tab1 impl_child.bits1 (fun HT_ HW_=>?_)
 generalize w8.drew=w9 at BK423 BK424 HB hHeld ⊢
 refine puA (i:=0) (N:=some 8) #[Y,Z,Z,Z,Z,Z,Z,Z,Z,Z,Z,Z,Z,Z,Z,Z,Z,Z,Z,Z] rfl rfl HT_ ?_
 refine puA (i:=1) (N:=some 9) #[Y,Y,Z,Z,Z,Z,Z,Z,Z,Z,Z,Z,Z,Z,Z,Z,Z,Z,Z,Z] rfl rfl HT_ ?_
 refine puA (i:=4) (N:=some 12) #[Y,Y,Z,Z,Y,Z,Z,Z,Z,Z,Z,Z,Z,Z,Z,Z,Z,Z,Z,Z] rfl rfl HT_ ?_
 refine puA (i:=7) (N:=some 15) #[Y,Y,Z,Z,Y,Z,Z,Y,Z,Z,Z,Z,Z,Z,Z,Z,Z,Z,Z,Z] rfl rfl HT_ ?_
 refine puA (i:=8) (N:=some 16) #[Y,Y,Z,Z,Y,Z,Z,Y,Y,Z,Z,Z,Z,Z,Z,Z,Z,Z,Z,Z] rfl rfl HT_ ?_
 refine puA (i:=9) (N:=some 17) #[Y,Y,Z,Z,Y,Z,Z,Y,Y,Y,Z,Z,Z,Z,Z,Z,Z,Z,Z,Z] rfl rfl HT_ ?_
 refine taA (i:=2) (N:=some 10) #[Y,Y,Y,Z,Y,Z,Z,Y,Y,Y,Z,Z,Z,Z,Z,Z,Z,Z,Z,Z] rfl rfl HT_ HW_ hHeld ?_
 refine puA (i:=3) (N:=some 11) #[Y,Y,Y,Y,Y,Z,Z,Y,Y,Y,Z,Z,Z,Z,Z,Z,Z,Z,Z,Z] rfl rfl HT_ ?_
 refine taA (i:=5) (N:=some 13) #[Y,Y,Y,Y,Y,Y,Z,Y,Y,Y,Z,Z,Z,Z,Z,Z,Z,Z,Z,Z] rfl rfl HT_ HW_ hHeld ?_
 refine taA (i:=10) (N:=some 18) #[Y,Y,Y,Y,Y,Y,Z,Y,Y,Y,Y,Z,Z,Z,Z,Z,Z,Z,Z,Z] rfl rfl HT_ HW_ hHeld ?_
 refine puA (i:=11) (N:=some 19) #[Y,Y,Y,Y,Y,Y,Z,Y,Y,Y,Y,Y,Z,Z,Z,Z,Z,Z,Z,Z] rfl rfl HT_ ?_
 refine one_ (i:=6) (N:=some 14) #[Y,Y,Y,Y,Y,Y,Y,Y,Y,Y,Y,Y,Z,Z,Z,Z,Z,Z,Z,Z] rfl rfl (one_of HT_.out (by kernel_rfl)) (by decide) (fun K hK=>?_)
 refine goC Try.func49 (impl_mark.calls (w:=_) (h:=A4.out)) ?_
 intro w10 hb
 replace BK423:=kB BK423 hb
 replace BK424:=kB BK424 hb
 replace HB:=lB hb
 (try clear hb)
 (try clear hb2)
 (try clear hk)
 (try clear hi)
 refine hK.out _ _ ⟨cA BK423 0,cA BK423 1,cA BK423 2⟩ (fun hHeld=>?_)
 clear hK K
 refine nmA ?_
 refine one_ (i:=12) (N:=some 20) #[Y,Y,Y,Y,Y,Y,Y,Y,Y,Y,Y,Y,Y,Z,Z,Z,Z,Z,Z,Z] rfl rfl (one_of HT_.out (by kernel_rfl)) (by decide) (fun K hK=>?_)
 refine goC Try.func50 (impl_power.calls (w:=_) (h:=A5.out)) ?_
 rintro _ ⟨nd,rfl⟩
 refine hK.out _ _ ⟨cA BK423 0,cA BK423 1,cA BK423 2⟩ (fun hHeld=>?_)
 clear hK K
 refine nmA ?_
 refine puA (i:=13) (N:=some 21) #[Y,Y,Y,Y,Y,Y,Y,Y,Y,Y,Y,Y,Y,Y,Z,Z,Z,Z,Z,Z] rfl rfl HT_ ?_
 refine puA (i:=14) (N:=some 22) #[Y,Y,Y,Y,Y,Y,Y,Y,Y,Y,Y,Y,Y,Y,Y,Z,Z,Z,Z,Z] rfl rfl HT_ ?_
 refine one_ (i:=15) (N:=some 23) #[Y,Y,Y,Y,Y,Y,Y,Y,Y,Y,Y,Y,Y,Y,Y,Y,Z,Z,Z,Z] rfl rfl (one_of HT_.out (by kernel_rfl)) (by decide) (fun K hK=>?_)
 refine goC Try.func68 (impl_ofMark.calls (w:=_) (h:=A6.out)) ?_
 intro w11 hb
 replace BK423:=kB BK423 hb
 replace BK424:=kB BK424 hb
 replace HB:=lB hb
 (try clear hb)
 (try clear hb2)
 (try clear hk)
 (try clear hi)
 refine hK.out _ _ ⟨cA BK423 0,cA BK423 1,cA BK423 2⟩ (fun hHeld=>?_)
 clear hK K
 refine nmA ?_
 refine puA (i:=16) (N:=some 24) #[Y,Y,Y,Y,Y,Y,Y,Y,Y,Y,Y,Y,Y,Y,Y,Y,Y,Z,Z,Z] rfl rfl HT_ ?_
 refine puA (i:=17) (N:=some 25) #[Y,Y,Y,Y,Y,Y,Y,Y,Y,Y,Y,Y,Y,Y,Y,Y,Y,Y,Z,Z] rfl rfl HT_ ?_
 refine one_ (i:=18) (N:=none) #[Y,Y,Y,Y,Y,Y,Y,Y,Y,Y,Y,Y,Y,Y,Y,Y,Y,Y,Y,Z] rfl rfl (one_of HT_.out (by kernel_rfl)) (by decide) (fun K hK=>?_)
 have hs12:w11.cell? ⟨gb424,0,none⟩=some (.int .i64 0):=cA BK424 0
 have hfs12:=blk_frozen BK424.out 0
 have hns12_0:=NB423_424.out
 have hms12_0:=NB424_423.out
 have hs13:w11.cell? ⟨gb424,1,none⟩=some (.int .i64 0):=cA BK424 1
 have hfs13:=blk_frozen BK424.out 1
 have hns13_0:=NB423_424.out
 have hms13_0:=NB424_423.out
 have hs14:w11.cell? ⟨gb424,2,none⟩=some (.int .i64 0):=cA BK424 2
 have hfs14:=blk_frozen BK424.out 2
 have hns14_0:=NB423_424.out
 have hms14_0:=NB424_423.out
 refine skip_ (w1:=?_) (by rfl) rfl ?_ ?_
 rotate_left
 ·
  go_simp
  rfl
 refine hK.out _ _ ⟨cfA hHeld.1,cfA hHeld.2.1,cfA hHeld.2.2⟩ (fun hHeld=>?_)
 clear hK K
 refine puA (i:=19) (N:=some 7) #[Y,Y,Y,Y,Y,Y,Y,Y,Y,Y,Y,Y,Y,Y,Y,Y,Y,Y,Y,Y] rfl rfl HT_ ?_
 refine done_ (done_of HT_.out (by kernel_rfl)) ?_
 try go_wp2
 refine bodyPost_ret (results_ct rfl _ _ gb424 53 #[.int .i64 t427,.int .i64 t428,.int .i64 t429] (0,0) _ rfl (bpA BK424) Try.underlying53 rfl (by kernel_rfl)) rfl ?_
 exact finA blA
def impl_joinLevel.f (k:Nat) (a0 a1_0 a1_1 a1_2 a2_0 a2_1 a2_2:Int):Option (Int):=(impl_mark.f k a0 a1_0 a1_1 a1_2).bind fun t455=>((impl_mark.f k a0 a2_0 a2_1 a2_2).bind fun t456=>((impl_valuation.f k a0 (wrap64 (t455 - t456))).bind fun t457=>(some (mn (mn a1_0 a2_0) (wrap64 (t457 - 6))))))
theorem impl_joinLevel.mono:∀ a0 a1 a2 a3 a4 a5 a6 k,LeO (impl_joinLevel.f k a0 a1 a2 a3 a4 a5 a6) (impl_joinLevel.f (k+1) a0 a1 a2 a3 a4 a5 a6):=by
 intro a0 a1 a2 a3 a4 a5 a6 k
 unfold impl_joinLevel.f
 repeat' first
   | with_reducible first|exact impl_mark.mono ..|exact impl_valuation.mono ..|exact LeO.refl _|exact LeO.none _|refine LeO.ite ?_ ?_|refine LeO.bind ?_ fun _=>?_
def impl_joinLevel.T1:Bool × List (List Nat × List Nat):=(true,[([],[]),([0],[0]),([],[]),([2],[2]),([],[]),([],[]),([],[]),([5,6],[5,6]),([],[]),([],[]),([8,9,7],[8,9]),([7,10],[7,10]),([4,11,10],[4,11]),([12],[12]),([1,3,13],[1,3,13]),([14,12,0,1,2,3,4,5,6,7,8,9,10,11,12,13,14],[14])])
def impl_joinLevel.B1:List Nat:=[0,1,0,4,0,0,0,96,0,0,992,2016,4080,8176,16383,32767]
theorem impl_joinLevel.tab1:rtab .any (opsOf Try.f70 1)=impl_joinLevel.T1:=by kernel_rfl
theorem impl_joinLevel.bits1:waitsOk impl_joinLevel.T1.2 impl_joinLevel.B1=true:=by kernel_rfl
set_option maxHeartbeats 8000000 in
set_option maxRecDepth 100000 in
theorem impl_joinLevel.calls (k:Nat) (a0 a1_0 a1_1 a1_2 a2_0 a2_1 a2_2 r:Int) (w:World) (h:impl_joinLevel.f k a0 a1_0 a1_1 a1_2 a2_0 a2_1 a2_2=some r) :
  Calls Try.prog 70 #[.int .i64 a0,.agg #[.int .i64 a1_0,.int .i64 a1_1,.int .i64 a1_2],.agg #[.int .i64 a2_0,.int .i64 a2_1,.int .i64 a2_2]] w fun e w'=>e=.returned (.int .i64 r)∧Below w.heap.size w w':=by
 have hu53:=Try.underlying53
 have HB:=Aside0.mk (Below.refl w.heap.size w)
 have H:=h
 unfold impl_joinLevel.f at H
 clear h
 replace H:=bS H
 obtain ⟨t455,A4,H⟩:=H
 try dsimp only at H
 replace H:=bS H
 obtain ⟨t456,A5,H⟩:=H
 try dsimp only at H
 replace H:=bS H
 obtain ⟨t457,A6,H⟩:=H
 try dsimp only at H
 obtain ⟨ji7,hji7⟩:∃ j_:Int,(mn a1_0 a2_0)=j_:=⟨_,rfl⟩
 replace H:(some (mn (ji7) (wrap64 (t457 - 6))))=some r:=by first|(rw [hji7] at H;exact H)|(simp only [hji7] at H ⊢;exact H)
 (try rw [hji7] at A4)
 (try rw [hji7] at A5)
 (try rw [hji7] at A6)
 have hji7_:(if a2_0<a1_0 then a2_0 else a1_0)=ji7:=hji7
 obtain ⟨ji8,hji8⟩:∃ j_:Int,(mn (ji7) (wrap64 (t457 - 6)))=j_:=⟨_,rfl⟩
 replace H:(some ji8)=some r:=by first|(rw [hji8] at H;exact H)|(simp only [hji8] at H ⊢;exact H)
 (try rw [hji8] at A4)
 (try rw [hji8] at A5)
 (try rw [hji8] at A6)
 have hji8_:(if (wrap64 (t457 - 6))<(ji7) then (wrap64 (t457 - 6)) else (ji7))=ji8:=hji8
 obtain rfl:=Option.some.inj H
 go_enter Try.func70,Try.ntmps70
 try go_wp2_with (first|((with_reducible refine gate_dst (N:=4) rfl ?_);refine bxE (cs:=#[.int .i64 a1_0,.int .i64 a1_1,.int .i64 a1_2]) (t:=53) ?_;intro gb453 hg w9 hbox hb;have n0_:=lB hb;have n1_:=Aside0.mk hbox;have n2_:=sA hg;have n3_:=sA hg;clear HB;have HB:=n0_;have BK453:=n1_;have GW453:=n2_;have GE453:=n3_;clear n0_ n1_ n2_ n3_;clear hb hbox hg)|((with_reducible refine gate_dst (N:=5) rfl ?_);refine bxE (cs:=#[.int .i64 a2_0,.int .i64 a2_1,.int .i64 a2_2]) (t:=53) ?_;intro gb454 hg w10 hbox hb;have n0_:=kB BK453 hb;have n1_:=lB hb;have n2_:=Aside0.mk hbox;have n3_:=sA hg;have n4_:=sA hg;have n5_:=nA hg BK453;have n6_:=nB hg BK453;clear BK453;clear HB;have BK453:=n0_;have HB:=n1_;have BK454:=n2_;have GW454:=n3_;have GE454:=n4_;have NB453_454:=n5_;have NB454_453:=n6_;clear n0_ n1_ n2_ n3_ n4_ n5_ n6_;clear hb hbox hg))
 have n0_:=Aside0.mk (blk_drew BK453.out)
 have n1_:=Aside0.mk (blk_drew BK454.out)
 have n2_:=Aside0.mk (below_drew1 HB.out)
 clear BK453
 clear BK454
 clear HB
 have BK453:=n0_
 have BK454:=n1_
 have HB:=n2_
 clear n0_ n1_ n2_
 refine start_ (n:=16) (S:=fun w'=>w'.cell? ⟨gb453,0,none⟩=some (.int .i64 a1_0)∧w'.cell? ⟨gb453,1,none⟩=some (.int .i64 a1_1)∧w'.cell? ⟨gb453,2,none⟩=some (.int .i64 a1_2)∧w'.cell? ⟨gb454,0,none⟩=some (.int .i64 a2_0)∧w'.cell? ⟨gb454,1,none⟩=some (.int .i64 a2_1)∧w'.cell? ⟨gb454,2,none⟩=some (.int .i64 a2_2)) (ds:=[]) #[Z,Z,Z,Z,Z,Z,Z,Z,Z,Z,Z,Z,Z,Z,Z,Z] (by kernel_rfl) rfl rfl ⟨cA BK453 0,cA BK453 1,cA BK453 2,cA BK454 0,cA BK454 1,cA BK454 2⟩ (fun hHeld=>?_);refine with_tabW impl_joinLevel.tab1 impl_joinLevel.bits1 (fun HT_ HW_=>?_)
 generalize w10.drew=w11 at BK453 BK454 HB hHeld ⊢
 refine puA (i:=0) (N:=some 7) #[Y,Z,Z,Z,Z,Z,Z,Z,Z,Z,Z,Z,Z,Z,Z,Z] rfl rfl HT_ ?_
 refine puA (i:=2) (N:=some 9) #[Y,Z,Y,Z,Z,Z,Z,Z,Z,Z,Z,Z,Z,Z,Z,Z] rfl rfl HT_ ?_
 refine puA (i:=4) (N:=some 11) #[Y,Z,Y,Z,Y,Z,Z,Z,Z,Z,Z,Z,Z,Z,Z,Z] rfl rfl HT_ ?_
 refine puA (i:=5) (N:=some 12) #[Y,Z,Y,Z,Y,Y,Z,Z,Z,Z,Z,Z,Z,Z,Z,Z] rfl rfl HT_ ?_
 refine puA (i:=8) (N:=some 15) #[Y,Z,Y,Z,Y,Y,Z,Z,Y,Z,Z,Z,Z,Z,Z,Z] rfl rfl HT_ ?_
 refine taA (i:=1) (N:=some 8) #[Y,Y,Y,Z,Y,Y,Z,Z,Y,Z,Z,Z,Z,Z,Z,Z] rfl rfl HT_ HW_ hHeld ?_
 refine taA (i:=3) (N:=some 10) #[Y,Y,Y,Y,Y,Y,Z,Z,Y,Z,Z,Z,Z,Z,Z,Z] rfl rfl HT_ HW_ hHeld ?_
 refine taA (i:=6) (N:=some 13) #[Y,Y,Y,Y,Y,Y,Y,Z,Y,Z,Z,Z,Z,Z,Z,Z] rfl rfl HT_ HW_ hHeld ?_
 refine taA (i:=9) (N:=some 16) #[Y,Y,Y,Y,Y,Y,Y,Z,Y,Y,Z,Z,Z,Z,Z,Z] rfl rfl HT_ HW_ hHeld ?_
 refine one_ (i:=7) (N:=some 14) #[Y,Y,Y,Y,Y,Y,Y,Y,Y,Y,Z,Z,Z,Z,Z,Z] rfl rfl (one_of HT_.out (by kernel_rfl)) (by decide) (fun K hK=>?_)
 refine goC Try.func49 (impl_mark.calls (w:=_) (h:=A4.out)) ?_
 intro w12 hb
 replace BK453:=kB BK453 hb
 replace BK454:=kB BK454 hb
 replace HB:=lB hb
 (try clear hb)
 (try clear hb2)
 (try clear hk)
 (try clear hi)
 refine hK.out _ _ ⟨cA BK453 0,cA BK453 1,cA BK453 2,cA BK454 0,cA BK454 1,cA BK454 2⟩ (fun hHeld=>?_)
 clear hK K
 refine nmA ?_
 refine one_ (i:=10) (N:=some 17) #[Y,Y,Y,Y,Y,Y,Y,Y,Y,Y,Y,Z,Z,Z,Z,Z] rfl rfl (one_of HT_.out (by kernel_rfl)) (by decide) (fun K hK=>?_)
 refine goC Try.func49 (impl_mark.calls (w:=_) (h:=A5.out)) ?_
 intro w13 hb
 replace BK453:=kB BK453 hb
 replace BK454:=kB BK454 hb
 replace HB:=lB hb
 (try clear hb)
 (try clear hb2)
 (try clear hk)
 (try clear hi)
 refine hK.out _ _ ⟨cA BK453 0,cA BK453 1,cA BK453 2,cA BK454 0,cA BK454 1,cA BK454 2⟩ (fun hHeld=>?_)
 clear hK K
 refine nmA ?_
 refine puA (i:=11) (N:=some 18) #[Y,Y,Y,Y,Y,Y,Y,Y,Y,Y,Y,Y,Z,Z,Z,Z] rfl rfl HT_ ?_
 refine one_ (i:=12) (N:=some 19) #[Y,Y,Y,Y,Y,Y,Y,Y,Y,Y,Y,Y,Y,Z,Z,Z] rfl rfl (one_of HT_.out (by kernel_rfl)) (by decide) (fun K hK=>?_)
 refine goC Try.func51 (impl_valuation.calls (w:=_) (h:=A6.out)) ?_
 rintro _ ⟨nd,rfl⟩
 refine hK.out _ _ ⟨cA BK453 0,cA BK453 1,cA BK453 2,cA BK454 0,cA BK454 1,cA BK454 2⟩ (fun hHeld=>?_)
 clear hK K
 refine nmA ?_
 refine puA (i:=13) (N:=some 20) #[Y,Y,Y,Y,Y,Y,Y,Y,Y,Y,Y,Y,Y,Y,Z,Z] rfl rfl HT_ ?_
 refine puA (i:=14) (N:=some 21) #[Y,Y,Y,Y,Y,Y,Y,Y,Y,Y,Y,Y,Y,Y,Y,Z] rfl rfl HT_ ?_
 refine puA (i:=15) (N:=some 6) #[Y,Y,Y,Y,Y,Y,Y,Y,Y,Y,Y,Y,Y,Y,Y,Y] rfl rfl HT_ ?_
 refine done_ (done_of HT_.out (by kernel_rfl)) ?_
 try go_wp2
 go_ret
 exact ⟨by first|rfl|(simp [errW_none,errW_some] <;> rfl)|(simp only [← hji7,← hji8];first|rfl|(simp [errW_none,errW_some] <;> rfl))|(simp [*,errW_none,errW_some] <;> rfl),blA⟩
def laws_eqMatrixS.l0:Nat→List (S42)→List (S42)→Int→Option (Bool)
 | 0,_,_,_=>none
 | k+1,x0,x1,x5=>if x5<(x0.length:Int) then (if 0≤x5 then (if x5<(x1.length:Int) then ((laws_eqMatrix.f ((rd_T42 x0 x5).f0.f0) ((rd_T42 x0 x5).f0.f1) ((rd_T42 x0 x5).f1.f0) ((rd_T42 x0 x5).f1.f1) ((rd_T42 x1 x5).f0.f0) ((rd_T42 x1 x5).f0.f1) ((rd_T42 x1 x5).f1.f0) ((rd_T42 x1 x5).f1.f1)).bind fun t519=>(if t519=true then (laws_eqMatrixS.l0 k x0 x1 (wrap64 (x5+1))) else (some false))) else (none)) else (none)) else (some true)
def laws_eqMatrixS.f (k:Nat) (l0:List (S42)) (l1:List (S42)):Option (Bool):=if (l0.length:Int)=(l1.length:Int) then (laws_eqMatrixS.l0 k l0 l1 0) else (some false)
theorem laws_eqMatrixS.mono_l:∀ k,(∀ y0 y1 y2,LeO (laws_eqMatrixS.l0 k y0 y1 y2) (laws_eqMatrixS.l0 (k+1) y0 y1 y2))
 | 0=>fun _ _ _ r h=>by simp [laws_eqMatrixS.l0] at h
 | k+1=>by
  have ih0:=laws_eqMatrixS.mono_l k
  ·
   intro y0 y1 y2
   unfold laws_eqMatrixS.l0
   repeat' first
   | with_reducible first|exact ih0 ..|exact LeO.refl _|exact LeO.none _|refine LeO.ite ?_ ?_|refine LeO.bind ?_ fun _=>?_
theorem laws_eqMatrixS.mono:∀ a0 a1 k,LeO (laws_eqMatrixS.f k a0 a1) (laws_eqMatrixS.f (k+1) a0 a1):=by
 intro a0 a1 k
 have ih0:=laws_eqMatrixS.mono_l k
 unfold laws_eqMatrixS.f
 repeat' first
   | with_reducible first|exact ih0 ..|exact LeO.refl _|exact LeO.none _|refine LeO.ite ?_ ?_|refine LeO.bind ?_ fun _=>?_
def laws_eqMatrixS.T6:Bool × List (List Nat × List Nat):=(true,[([],[]),([],[]),([0,1],[0,1]),([2],[2]),([],[]),([],[]),([4,5],[4,5]),([6],[6]),([3,7],[3,7]),([8],[8])])
def laws_eqMatrixS.B6:List Nat:=[0,0,3,7,0,0,48,112,255,511]
theorem laws_eqMatrixS.tab6:rtab .any (opsOf Try.f9 6)=laws_eqMatrixS.T6:=by kernel_rfl
theorem laws_eqMatrixS.bits6:waitsOk laws_eqMatrixS.T6.2 laws_eqMatrixS.B6=true:=by kernel_rfl
set_option maxHeartbeats 8000000 in
set_option maxRecDepth 100000 in
theorem laws_eqMatrixS.calls (k:Nat) (A0:Option Addr) (c0:Nat) (l0:List (S42)) (A1:Option Addr) (c1:Nat) (l1:List (S42)) (r:Bool) (w:World) (hr0:Kd.C k42 w A0 l0.length l0) (hc0:l0.length≤c0) (hr1:Kd.C k42 w A1 l1.length l1) (hc1:l1.length≤c1) (h:laws_eqMatrixS.f k l0 l1=some r) :
  Calls Try.prog 9 #[.slice A0 l0.length c0,.slice A1 l1.length c1] w fun e w'=>e=.returned (.bool r)∧Below w.heap.size w w':=by
 have hu42:=Try.underlying42
 have HR0:=Aside0.mk hr0
 have HC0:=Aside0.mk hc0
 clear hr0 hc0
 have HR1:=Aside0.mk hr1
 have HC1:=Aside0.mk hc1
 clear hr1 hc1
 have HB:=Aside0.mk (Below.refl w.heap.size w)
 have H:=h
 unfold laws_eqMatrixS.f at H
 clear h
 by_cases c3:(l0.length:Int)=(l1.length:Int)
 ·
  rw [if_pos c3] at H
  have c3b0:((l0.length:Int) == (l1.length:Int))=true:=beq_iff_eq.mpr c3
  have c3b1:((l0.length:Int) != (l1.length:Int))=false:=bne_eq_false_iff_eq.mpr c3
  have c3b2:(l0.length == l1.length)=true:=by first|simpa using c3|(simp at c3 ⊢;omega)
  clear c3
  have H':=Aside0.mk H
  clear H
  go_enter Try.func9,Try.ntmps9
  go_wp2
  go_loopg [5] k (fun kq v5 w'=>∃ (x5_1:Int),v5=.int .i64 x5_1∧Aside0 (laws_eqMatrixS.l0 kq l0 l1 x5_1=some r)∧Aside0 (kq≤k)∧Aside0 (Below w.heap.size w w'))
  case atStart=>exact ⟨(0),hB,H',⟨Nat.le_refl _⟩,⟨blA⟩⟩
  case round=>
   clear H'
   try clear c1
   try clear c3
   try clear c3b0
   try clear c3b1
   try clear c3b2
   obtain ⟨x5_1,rfl,HA,HK1,HB⟩:=hrel
   cases gk with
   | zero=>exact absurd HA.out (by simp [laws_eqMatrixS.l0])
   | succ k1=>
    have H:=HA.out
    clear HA
    simp only [laws_eqMatrixS.l0] at H
    by_cases c4:x5_1<(l0.length:Int)
    ·
     rw [if_pos c4] at H
     have c4b0:=decide_eq_true c4
     clear c4
     by_cases c5:0≤x5_1
     rotate_left
     ·
      rw [if_neg c5] at H
      exact absurd H (by simp)
     rw [if_pos c5] at H
     have c5b0:=decide_eq_true c5
     clear c5
     by_cases c6:x5_1<(l1.length:Int)
     rotate_left
     ·
      rw [if_neg c6] at H
      exact absurd H (by simp)
     rw [if_pos c6] at H
     have c6b0:=decide_eq_true c6
     clear c6
     replace H:=bS H
     obtain ⟨t519,A7,H⟩:=H
     try dsimp only at H
     by_cases c8:t519=true
     focus
      subst c8
      rw [if_pos rfl] at H
      try dsimp only at H
      have H':=Aside0.mk H
      clear H
     rotate_left
     focus
      replace c8:=Bool.eq_false_iff.mpr c8
      subst c8
      rw [if_neg (show ¬ (false=true) by decide)] at H
      try dsimp only at H
      obtain rfl:=Option.some.inj H
     rotate_left
     all_goals
      try go_wp2
      have n0_:=Aside0.mk (below_drew1 HB.out)
      clear HB
      have HB:=n0_
      clear n0_
      have p517:0≤(x5_1:Int):=dA
      have q517:x5_1<(l0.length:Int):=dA
      obtain ⟨ad517,e517,hx517_0,hx517_1,hx517_2,hx517_3⟩:=at_T42 HR0.out x5_1 p517 q517
      have hw517_3:=hx517_3
      have hw517_2:=hx517_2
      have hw517_1:=hx517_1
      have hw517_0:=hx517_0
      cases e517
      replace hx517_0:=(HB.out.cell (World.block_lt_of_cell? w _ hx517_0)).trans hx517_0
      replace hx517_1:=(HB.out.cell (World.block_lt_of_cell? w _ hx517_1)).trans hx517_1
      replace hx517_2:=(HB.out.cell (World.block_lt_of_cell? w _ hx517_2)).trans hx517_2
      replace hx517_3:=(HB.out.cell (World.block_lt_of_cell? w _ hx517_3)).trans hx517_3
      replace p517:=eq_true p517
      replace q517:=eq_true q517
      have p518:0≤(x5_1:Int):=dA
      have q518:x5_1<(l1.length:Int):=dA
      obtain ⟨ad518,e518,hx518_0,hx518_1,hx518_2,hx518_3⟩:=at_T42 HR1.out x5_1 p518 q518
      have hw518_3:=hx518_3
      have hw518_2:=hx518_2
      have hw518_1:=hx518_1
      have hw518_0:=hx518_0
      cases e518
      replace hx518_0:=(HB.out.cell (World.block_lt_of_cell? w _ hx518_0)).trans hx518_0
      replace hx518_1:=(HB.out.cell (World.block_lt_of_cell? w _ hx518_1)).trans hx518_1
      replace hx518_2:=(HB.out.cell (World.block_lt_of_cell? w _ hx518_2)).trans hx518_2
      replace hx518_3:=(HB.out.cell (World.block_lt_of_cell? w _ hx518_3)).trans hx518_3
      replace p518:=eq_true p518
      replace q518:=eq_true q518
      refine start_ (n:=10) (S:=fun w'=>w'.cell? (ad517.add ((x5_1).toNat*4))=some (.int .i64 ((rd_T42 l0 x5_1).f0.f0))∧w'.cell? ⟨(ad517.add ((x5_1).toNat*4)).block,(ad517.add ((x5_1).toNat*4)).off+1,none⟩=some (.int .i64 ((rd_T42 l0 x5_1).f0.f1))∧w'.cell? ⟨(ad517.add ((x5_1).toNat*4)).block,(ad517.add ((x5_1).toNat*4)).off+2,none⟩=some (.int .i64 ((rd_T42 l0 x5_1).f1.f0))∧w'.cell? ⟨(ad517.add ((x5_1).toNat*4)).block,(ad517.add ((x5_1).toNat*4)).off+3,none⟩=some (.int .i64 ((rd_T42 l0 x5_1).f1.f1))∧w'.cell? (ad518.add ((x5_1).toNat*4))=some (.int .i64 ((rd_T42 l1 x5_1).f0.f0))∧w'.cell? ⟨(ad518.add ((x5_1).toNat*4)).block,(ad518.add ((x5_1).toNat*4)).off+1,none⟩=some (.int .i64 ((rd_T42 l1 x5_1).f0.f1))∧w'.cell? ⟨(ad518.add ((x5_1).toNat*4)).block,(ad518.add ((x5_1).toNat*4)).off+2,none⟩=some (.int .i64 ((rd_T42 l1 x5_1).f1.f0))∧w'.cell? ⟨(ad518.add ((x5_1).toNat*4)).block,(ad518.add ((x5_1).toNat*4)).off+3,none⟩=some (.int .i64 ((rd_T42 l1 x5_1).f1.f1))) (ds:=[]) #[Z,Z,Z,Z,Z,Z,Z,Z,Z,Z] (by kernel_rfl) rfl rfl ⟨((HB.out.cell (World.block_lt_of_cell? w _ hw517_0)).trans hw517_0),((HB.out.cell (World.block_lt_of_cell? w _ hw517_1)).trans hw517_1),((HB.out.cell (World.block_lt_of_cell? w _ hw517_2)).trans hw517_2),((HB.out.cell (World.block_lt_of_cell? w _ hw517_3)).trans hw517_3),((HB.out.cell (World.block_lt_of_cell? w _ hw518_0)).trans hw518_0),((HB.out.cell (World.block_lt_of_cell? w _ hw518_1)).trans hw518_1),((HB.out.cell (World.block_lt_of_cell? w _ hw518_2)).trans hw518_2),((HB.out.cell (World.block_lt_of_cell? w _ hw518_3)).trans hw518_3)⟩ (fun hHeld=>?_);refine with_tabW laws_eqMatrixS.tab6 laws_eqMatrixS.bits6 (fun HT_ HW_=>?_)
      generalize wr.drew=w9 at HB hx517_0 hx517_1 hx517_2 hx517_3 hx518_0 hx518_1 hx518_2 hx518_3 hHeld ⊢
      refine puA (i:=0) (N:=some 17) #[Y,Z,Z,Z,Z,Z,Z,Z,Z,Z] rfl rfl HT_ ?_
      refine puA (i:=1) (N:=some 18) #[Y,Y,Z,Z,Z,Z,Z,Z,Z,Z] rfl rfl HT_ ?_
      refine puA (i:=2) (N:=some 19) #[Y,Y,Y,Z,Z,Z,Z,Z,Z,Z] rfl rfl HT_ ?_
      refine puA (i:=4) (N:=some 21) #[Y,Y,Y,Z,Y,Z,Z,Z,Z,Z] rfl rfl HT_ ?_
      refine puA (i:=5) (N:=some 22) #[Y,Y,Y,Z,Y,Y,Z,Z,Z,Z] rfl rfl HT_ ?_
      refine puA (i:=6) (N:=some 23) #[Y,Y,Y,Z,Y,Y,Y,Z,Z,Z] rfl rfl HT_ ?_
      refine taA (i:=3) (N:=some 20) #[Y,Y,Y,Y,Y,Y,Y,Z,Z,Z] rfl rfl HT_ HW_ hHeld ?_
      refine taA (i:=7) (N:=some 24) #[Y,Y,Y,Y,Y,Y,Y,Y,Z,Z] rfl rfl HT_ HW_ hHeld ?_
      refine one_ (i:=8) (N:=some 25) #[Y,Y,Y,Y,Y,Y,Y,Y,Y,Z] rfl rfl (one_of HT_.out (by kernel_rfl)) (by decide) (fun K hK=>?_)
      refine goC Try.func22 (laws_eqMatrix.calls (w:=_) (h:=A7.out)) ?_
      intro w10 hb
      replace HB:=lB hb
      (try clear hb)
      (try clear hb2)
      (try clear hk)
      (try clear hi)
      refine hK.out _ _ ⟨((HB.out.cell (World.block_lt_of_cell? w _ hw517_0)).trans hw517_0),((HB.out.cell (World.block_lt_of_cell? w _ hw517_1)).trans hw517_1),((HB.out.cell (World.block_lt_of_cell? w _ hw517_2)).trans hw517_2),((HB.out.cell (World.block_lt_of_cell? w _ hw517_3)).trans hw517_3),((HB.out.cell (World.block_lt_of_cell? w _ hw518_0)).trans hw518_0),((HB.out.cell (World.block_lt_of_cell? w _ hw518_1)).trans hw518_1),((HB.out.cell (World.block_lt_of_cell? w _ hw518_2)).trans hw518_2),((HB.out.cell (World.block_lt_of_cell? w _ hw518_3)).trans hw518_3)⟩ (fun hHeld=>?_)
      clear hK K
      refine nmA ?_
      refine puA (i:=9) (N:=some 26) #[Y,Y,Y,Y,Y,Y,Y,Y,Y,Y] rfl rfl HT_ ?_
      refine done_ (done_of HT_.out (by kernel_rfl)) ?_
      try go_wp2
     ·
      go_roundg k1
      case measure=>have:=HK1.out;omega
      case rel=>exact ⟨(wrap64 (x5_1+1)),hB,H',⟨by have:=HK1.out;omega⟩,⟨blA⟩⟩
     ·
      go_ret
      exact finA blA
    ·
     rw [if_neg c4] at H
     have c4b0:=decide_eq_false c4
     clear c4
     obtain rfl:=Option.some.inj H
     go_wp2
     go_ret
     exact finA blA
 ·
  rw [if_neg c3] at H
  have c3b0:((l0.length:Int) == (l1.length:Int))=false:=beq_eq_false_iff_ne.mpr c3
  have c3b1:((l0.length:Int) != (l1.length:Int))=true:=bne_iff_ne.mpr c3
  have c3b2:(l0.length == l1.length)=false:=by first|simpa using c3|(simp at c3 ⊢;omega)
  obtain rfl:=Option.some.inj H
  go_enter Try.func9,Try.ntmps9
  go_wp2
  go_ret
  exact finA blA
end Go.Proofs.Ytnhiehpbkimaeaa.PAll
