import Derived.Test.YtnhiehpbkimaeaaGreatQx
import Derived.Test.YtnhiehpbkimaeaaGreatLay
import Derived.Test.YtnhiehpbkimaeaaGreatQcmpCompareint64
import Derived.Test.YtnhiehpbkimaeaaGreatQcmpisNaNint64
import Derived.Test.YtnhiehpbkimaeaaGreatQimplareMatrices
import Derived.Test.YtnhiehpbkimaeaaGreatQimplofMark
import Derived.Test.YtnhiehpbkimaeaaGreatQspecl01Child
import Derived.Test.YtnhiehpbkimaeaaGreatQspecl02Children
import Derived.Test.YtnhiehpbkimaeaaGreatQspecl02Valuation
namespace Go.Proofs.YtnhiehpbkimaeaaGreat.PAll
open Go.RowKit Go.Proofs.YtnhiehpbkimaeaaGreatW.PrintWords Go.Proofs.YtnhiehpbkimaeaaGreatW.PrintLast Go.Proofs.YtnhiehpbkimaeaaGreatW.PrintMore
attribute [local go_sem] Go.Proofs.YtnhiehpbkimaeaaGreat.Aux.setCell_drewN Go.Proofs.YtnhiehpbkimaeaaGreat.Aux.isSome_setCell cC b9 cQ cP bm bl cB b8
set_option linter.unusedVariables false
set_option linter.unusedSimpArgs false
def cT.f (k:Nat) (l0:List (S59)):Option (Int):=(aw.f k l0).bind fun t350=>(if t350=true then (if (l0.length:Int)<1 then (some 2) else (if (l0.length:Int)>6 then (some 2) else (some 0))) else (some 1))
set_option maxHeartbeats 8000000 in
set_option maxRecDepth 100000 in
theorem cT.calls (k:Nat) (A0:Option Addr) (c0:Nat) (l0:List (S59)) (r:Int) (w:World) (hr0:Kd.C k59 w A0 l0.length l0) (hc0:l0.length≤c0) (h:cT.f k l0=some r) :
  Calls Tryz.prog 70 #[.slice A0 l0.length c0] w fun e w'=>e=.returned (.int .i64 r)∧Below w.heap.size w w':=by
 have HR0:=aA.mk hr0
 have HC0:=aA.mk hc0
 clear hr0 hc0
 have HB:=aA.mk (Below.refl w.heap.size w)
 have H:=h
 unfold cT.f at H
 clear h
 replace H:=bS H
 obtain ⟨t350,A2,H⟩:=H
 try dsimp only at H
 by_cases c3:t350=true
 ·
  subst c3
  rw [if_pos rfl] at H
  try dsimp only at H
  by_cases c4:(l0.length:Int)<1
  ·
   rw [if_pos c4] at H
   have c4b0:=decide_eq_true c4
   have c4b1:decide (l0.length<1)=true:=decide_eq_true (by omega)
   clear c4
   obtain rfl:=Option.some.inj H
   go_enter Tryz.func70,Tryz.ntmps70
   go_wp2_with (first|((with_reducible refine gd 5 rfl ?_);refine gC (some 5) rfl Tryz.func97 (aw.calls (w:=_) (hr0:=cR HR0.out) (hc0:=HC0.out) (h:=A2.out)) ?_;intro w5 hb;replace HB:=lB hb;clear hb))
   go_ret
   exact cE blA
  ·
   rw [if_neg c4] at H
   have c4b0:=decide_eq_false c4
   have c4b1:decide (l0.length<1)=false:=decide_eq_false (by omega)
   clear c4
   by_cases c6:(l0.length:Int)>6
   focus
    rw [if_pos c6] at H
    have c6b0:decide (6<(l0.length:Int))=true:=decide_eq_true c6
    have c6b1:decide (6<l0.length)=true:=decide_eq_true (by omega)
    clear c6
    obtain rfl:=Option.some.inj H
   rotate_left
   focus
    rw [if_neg c6] at H
    have c6b0:decide (6<(l0.length:Int))=false:=decide_eq_false c6
    have c6b1:decide (6<l0.length)=false:=decide_eq_false (by omega)
    clear c6
    obtain rfl:=Option.some.inj H
   rotate_left
   all_goals
    go_enter Tryz.func70,Tryz.ntmps70
    go_wp2_with (first|((with_reducible refine gd 5 rfl ?_);refine gC (some 5) rfl Tryz.func97 (aw.calls (w:=_) (hr0:=cR HR0.out) (hc0:=HC0.out) (h:=A2.out)) ?_;intro w7 hb;replace HB:=lB hb;clear hb))
   ·
    go_ret
    exact cE blA
   ·
    go_ret
    exact cE blA
 ·
  replace c3:=Bool.eq_false_iff.mpr c3
  subst c3
  rw [if_neg (show ¬ (false=true) by decide)] at H
  try dsimp only at H
  obtain rfl:=Option.some.inj H
  go_enter Tryz.func70,Tryz.ntmps70
  go_wp2_with (first|((with_reducible refine gd 5 rfl ?_);refine gC (some 5) rfl Tryz.func97 (aw.calls (w:=_) (hr0:=cR HR0.out) (hc0:=HC0.out) (h:=A2.out)) ?_;intro w9 hb;replace HB:=lB hb;clear hb))
  go_ret
  exact cE blA
def bG.f (k:Nat) (a0 a1_0 a1_1 a1_2 a2_0 a2_1 a2_2:Int):Option (Int):=(bQ.f k a0 a1_0 a1_1 a1_2 a2_0 a2_1 a2_2).bind fun t363=>(some (wrap64 ((wrap64 (a1_0+a2_0)) - (wrap64 (2*t363)))))
def bG.T1:Bool × List (List Nat × List Nat):=(true,[([],[]),([0],[0]),([],[]),([2],[2]),([1,3],[1,3]),([],[]),([],[]),([],[]),([5,6,7],[5,6,7]),([8],[8]),([4,9],[4,9]),([10,8,0,1,2,3,4,5,6,7,8,9,10],[10])])
def bG.B1:List Nat:=[0,1,0,4,15,0,0,0,224,480,1023,2047]
theorem bG.tab1:cZ .any (dL Tryz.f35 1)=bG.T1:=by kernel_rfl
theorem bG.bits1:bq bG.T1.2 bG.B1=true:=by kernel_rfl
set_option maxHeartbeats 8000000 in
set_option maxRecDepth 100000 in
theorem bG.calls (k:Nat) (a0 a1_0 a1_1 a1_2 a2_0 a2_1 a2_2 r:Int) (w:World) (h:bG.f k a0 a1_0 a1_1 a1_2 a2_0 a2_1 a2_2=some r) :
  Calls Tryz.prog 35 #[.int .i64 a0,.agg #[.int .i64 a1_0,.int .i64 a1_1,.int .i64 a1_2],.agg #[.int .i64 a2_0,.int .i64 a2_1,.int .i64 a2_2]] w fun e w'=>e=.returned (.int .i64 r)∧Below w.heap.size w w':=by
 have hu43:=Tryz.underlying43
 have HB:=aA.mk (Below.refl w.heap.size w)
 have H:=h
 unfold bG.f at H
 clear h
 replace H:=bS H
 obtain ⟨t363,A4,H⟩:=H
 try dsimp only at H
 obtain rfl:=Option.some.inj H
 go_enter Tryz.func35,Tryz.ntmps35
 try go_wp2_with (first|((with_reducible refine aN (N:=4) rfl ?_);refine bxE (cs:=#[.int .i64 a1_0,.int .i64 a1_1,.int .i64 a1_2]) (t:=43) ?_;intro gb361 hg w5 hbox hb;have n0_:=lB hb;have n1_:=aA.mk hbox;have n2_:=sA hg;have n3_:=sA hg;clear HB;have HB:=n0_;have BK361:=n1_;have GW361:=n2_;have GE361:=n3_;clear n0_ n1_ n2_ n3_;clear hb hbox hg)|((with_reducible refine aN (N:=5) rfl ?_);refine bxE (cs:=#[.int .i64 a2_0,.int .i64 a2_1,.int .i64 a2_2]) (t:=43) ?_;intro gb362 hg w6 hbox hb;have n0_:=kB BK361 hb;have n1_:=lB hb;have n2_:=aA.mk hbox;have n3_:=sA hg;have n4_:=sA hg;have n5_:=nA hg BK361;have n6_:=nB hg BK361;clear BK361;clear HB;have BK361:=n0_;have HB:=n1_;have BK362:=n2_;have GW362:=n3_;have GE362:=n4_;have NB361_362:=n5_;have NB362_361:=n6_;clear n0_ n1_ n2_ n3_ n4_ n5_ n6_;clear hb hbox hg))
 have n0_:=aA.mk (ac BK361.out)
 have n1_:=aA.mk (ac BK362.out)
 have n2_:=aA.mk (al HB.out)
 clear BK361
 clear BK362
 clear HB
 have BK361:=n0_
 have BK362:=n1_
 have HB:=n2_
 clear n0_ n1_ n2_
 refine b7 (n:=12) (S:=fun w'=>w'.cell? ⟨gb361,0,none⟩=some (.int .i64 a1_0)∧w'.cell? ⟨gb361,1,none⟩=some (.int .i64 a1_1)∧w'.cell? ⟨gb361,2,none⟩=some (.int .i64 a1_2)∧w'.cell? ⟨gb362,0,none⟩=some (.int .i64 a2_0)∧w'.cell? ⟨gb362,1,none⟩=some (.int .i64 a2_1)∧w'.cell? ⟨gb362,2,none⟩=some (.int .i64 a2_2)) (ds:=[]) #[Z,Z,Z,Z,Z,Z,Z,Z,Z,Z,Z,Z] (by kernel_rfl) rfl rfl ⟨cA BK361 0,cA BK361 1,cA BK361 2,cA BK362 0,cA BK362 1,cA BK362 2⟩ (fun hHeld=>?_);refine bT bG.tab1 bG.bits1 (fun HT_ HW_=>?_)
 generalize w6.drew=w7 at BK361 BK362 HB hHeld ⊢
 refine puA (i:=0) (N:=some 7) #[Y,Z,Z,Z,Z,Z,Z,Z,Z,Z,Z,Z] rfl rfl HT_ ?_
 refine puA (i:=2) (N:=some 9) #[Y,Z,Y,Z,Z,Z,Z,Z,Z,Z,Z,Z] rfl rfl HT_ ?_
 refine puA (i:=5) (N:=some 12) #[Y,Z,Y,Z,Z,Y,Z,Z,Z,Z,Z,Z] rfl rfl HT_ ?_
 refine taA (i:=1) (N:=some 8) #[Y,Y,Y,Z,Z,Y,Z,Z,Z,Z,Z,Z] rfl rfl HT_ HW_ hHeld ?_
 refine taA (i:=3) (N:=some 10) #[Y,Y,Y,Y,Z,Y,Z,Z,Z,Z,Z,Z] rfl rfl HT_ HW_ hHeld ?_
 refine puA (i:=4) (N:=some 11) #[Y,Y,Y,Y,Y,Y,Z,Z,Z,Z,Z,Z] rfl rfl HT_ ?_
 refine taA (i:=6) (N:=some 13) #[Y,Y,Y,Y,Y,Y,Y,Z,Z,Z,Z,Z] rfl rfl HT_ HW_ hHeld ?_
 refine taA (i:=7) (N:=some 14) #[Y,Y,Y,Y,Y,Y,Y,Y,Z,Z,Z,Z] rfl rfl HT_ HW_ hHeld ?_
 refine cV (i:=8) (N:=some 15) #[Y,Y,Y,Y,Y,Y,Y,Y,Y,Z,Z,Z] rfl rfl (bX HT_.out (by kernel_rfl)) (by decide) (fun K hK=>?_)
 refine goC Tryz.func74 (bQ.calls (w:=_) (h:=A4.out)) ?_
 intro w8 hb
 replace BK361:=kB BK361 hb
 replace BK362:=kB BK362 hb
 replace HB:=lB hb
 (try clear hb)
 (try clear hb2)
 (try clear hk)
 (try clear hi)
 refine hK.out _ _ ⟨cA BK361 0,cA BK361 1,cA BK361 2,cA BK362 0,cA BK362 1,cA BK362 2⟩ (fun hHeld=>?_)
 clear hK K
 refine nmA ?_
 refine puA (i:=9) (N:=some 16) #[Y,Y,Y,Y,Y,Y,Y,Y,Y,Y,Z,Z] rfl rfl HT_ ?_
 refine puA (i:=10) (N:=some 17) #[Y,Y,Y,Y,Y,Y,Y,Y,Y,Y,Y,Z] rfl rfl HT_ ?_
 refine puA (i:=11) (N:=some 6) #[Y,Y,Y,Y,Y,Y,Y,Y,Y,Y,Y,Y] rfl rfl HT_ ?_
 refine cg (br HT_.out (by kernel_rfl)) ?_
 try go_wp2
 go_ret
 exact cE blA
def ce.f (k:Nat) (a0 a1_0 a1_1 a1_2 a2:Int):Option (Int × Int × Int × Bool):=if a2=0 then ((bk.f k a0 a1_0 a1_1 a1_2).bind fun bt387=>(some (bt387.1,bt387.2.1,bt387.2.2.1,bt387.2.2.2))) else ((bw.f k a0 a1_0 a1_1 a1_2 (wrap64 (a2 - 1))).bind fun bt391=>(some (bt391.1,bt391.2.1,bt391.2.2.1,bt391.2.2.2)))
set_option maxHeartbeats 8000000 in
set_option maxRecDepth 100000 in
theorem ce.calls (k:Nat) (a0 a1_0 a1_1 a1_2 a2 r1 r2 r3:Int) (r4:Bool) (w:World) (h:ce.f k a0 a1_0 a1_1 a1_2 a2=some (r1,r2,r3,r4)) :
  Calls Tryz.prog 122 #[.int .i64 a0,.agg #[.int .i64 a1_0,.int .i64 a1_1,.int .i64 a1_2],.int .i64 a2] w fun e w'=>e=.returned (.tuple #[.agg #[.int .i64 r1,.int .i64 r2,.int .i64 r3],.bool r4])∧Below w.heap.size w w':=by
 have hu43:=Tryz.underlying43
 have HB:=aA.mk (Below.refl w.heap.size w)
 have H:=h
 unfold ce.f at H
 clear h
 by_cases c4:a2=0
 ·
  rw [if_pos c4] at H
  have c4b0:(a2 == 0)=true:=beq_iff_eq.mpr c4
  have c4b1:(a2 != 0)=false:=bne_eq_false_iff_eq.mpr c4
  clear c4
  replace H:=bS H
  obtain ⟨⟨t387,t388,t389,t390⟩,A5,H⟩:=H
  try dsimp only at H
  simp only [Option.some.injEq,Prod.mk.injEq] at H
  obtain ⟨rfl,rfl,rfl,rfl⟩:=H
  go_enter Tryz.func122,Tryz.ntmps122
  go_wp2_with (first|((with_reducible refine aN (N:=4) rfl ?_);refine bxE (cs:=#[.int .i64 a1_0,.int .i64 a1_1,.int .i64 a1_2]) (t:=43) ?_;intro gb385 hg w6 hbox hb;have BK385:=aA.mk hbox;have GW385:=sA hg;have GE385:=sA hg;replace HB:=lB hb;clear hb hbox hg)|((with_reducible refine aN (N:=6) rfl ?_);refine bxE (cs:=#[.int .i64 0,.int .i64 0,.int .i64 0]) (t:=43) ?_;intro gb386 hg w7 hbox hb;have BK386:=aA.mk hbox;have GW386:=sA hg;have GE386:=sA hg;have NB385_386:=nA hg BK385;have NB386_385:=nB hg BK385;replace BK385:=kB BK385 hb;replace HB:=lB hb;clear hb hbox hg;have hnb8:=NB385_386.out;have hnc8:=NB386_385.out;obtain ⟨hcz9_0,hcz9_1,hcz9_2,hfz9_0,hfz9_1,hfz9_2⟩:=cz3 BK385)|((with_reducible refine gd 12 rfl ?_);refine gC (some 12) rfl Tryz.func134 (bk.calls (w:=_) (h:=A5.out)) ?_;intro w10 hb;replace BK385:=kB BK385 hb;replace BK386:=kB BK386 hb;replace HB:=lB hb;clear hb;obtain ⟨hcz11_0,hcz11_1,hcz11_2,hfz11_0,hfz11_1,hfz11_2⟩:=cz3 BK386))
  refine bodyPost_ret (bZ rfl _ _ gb386 43 #[.int .i64 t387,.int .i64 t388,.int .i64 t389] (0,0) _ rfl (bpA BK386) Tryz.underlying43 rfl (by kernel_rfl)) rfl ?_
  exact cE blA
 ·
  rw [if_neg c4] at H
  have c4b0:(a2 == 0)=false:=beq_eq_false_iff_ne.mpr c4
  have c4b1:(a2 != 0)=true:=bne_iff_ne.mpr c4
  replace H:=bS H
  obtain ⟨⟨t391,t392,t393,t394⟩,A12,H⟩:=H
  try dsimp only at H
  simp only [Option.some.injEq,Prod.mk.injEq] at H
  obtain ⟨rfl,rfl,rfl,rfl⟩:=H
  go_enter Tryz.func122,Tryz.ntmps122
  go_wp2_with (first|((with_reducible refine aN (N:=4) rfl ?_);refine bxE (cs:=#[.int .i64 a1_0,.int .i64 a1_1,.int .i64 a1_2]) (t:=43) ?_;intro gb385 hg w13 hbox hb;have BK385:=aA.mk hbox;have GW385:=sA hg;have GE385:=sA hg;replace HB:=lB hb;clear hb hbox hg)|((with_reducible refine aN (N:=6) rfl ?_);refine bxE (cs:=#[.int .i64 0,.int .i64 0,.int .i64 0]) (t:=43) ?_;intro gb386 hg w14 hbox hb;have BK386:=aA.mk hbox;have GW386:=sA hg;have GE386:=sA hg;have NB385_386:=nA hg BK385;have NB386_385:=nB hg BK385;replace BK385:=kB BK385 hb;replace HB:=lB hb;clear hb hbox hg;have hnb15:=NB385_386.out;have hnc15:=NB386_385.out;obtain ⟨hcz16_0,hcz16_1,hcz16_2,hfz16_0,hfz16_1,hfz16_2⟩:=cz3 BK385)|((with_reducible refine gd 19 rfl ?_);refine gC (some 19) rfl Tryz.func135 (bw.calls (w:=_) (h:=A12.out)) ?_;intro w17 hb;replace BK385:=kB BK385 hb;replace BK386:=kB BK386 hb;replace HB:=lB hb;clear hb;obtain ⟨hcz18_0,hcz18_1,hcz18_2,hfz18_0,hfz18_1,hfz18_2⟩:=cz3 BK386))
  refine bodyPost_ret (bZ rfl _ _ gb386 43 #[.int .i64 t391,.int .i64 t392,.int .i64 t393] (0,0) _ rfl (bpA BK386) Tryz.underlying43 rfl (by kernel_rfl)) rfl ?_
  exact cE blA
def bx.j0:Nat→Int→Int→Int→Int→Int→Bool→Option (Int × Int × Int × Bool)
 | 0,_,_,_,_,_,_=>none
 | k+1,x0,x1,x2,x3,x10,x24=>if x24=true then (some (x3,0,0,true)) else (if x10<(-6) then (some (0,0,0,false)) else ((ag.f k x0 (wrap64 (x3+6))).bind fun t463=>((dK.f k x0 x1).bind fun t464=>((dK.f k x0 x2).bind fun t465=>((bg.f k t465 t463).bind fun t466=>((dC.f k t464 t466 t463).bind fun t467=>((ag.f k x0 (wrap64 (x10+6))).bind fun t468=>((dC.f k t467 t468 t463).bind fun t469=>((cN.f k x0 x3 t469).bind fun bt470=>(some (bt470.1,bt470.2.1,bt470.2.2.1,bt470.2.2.2)))))))))))
def bx.f (k:Nat) (a0 a1 a2 a3:Int):Option (Int × Int × Int × Bool):=(cM.f a3).bind fun t460=>(if t460=true then ((aa.f k a0 a1).bind fun t461=>((aa.f k a0 a2).bind fun t462=>(if a1=0 then (bx.j0 k a0 a1 a2 a3 (wrap64 (t461 - t462)) true) else (bx.j0 k a0 a1 a2 a3 (wrap64 (t461 - t462)) (decide ((wrap64 (t461 - t462))≥a3)))))) else (some (0,0,0,false)))
set_option maxHeartbeats 8000000 in
set_option maxRecDepth 100000 in
theorem bx.calls (k:Nat) (a0 a1 a2 a3 r1 r2 r3:Int) (r4:Bool) (w:World) (h:bx.f k a0 a1 a2 a3=some (r1,r2,r3,r4)) :
  Calls Tryz.prog 89 #[.int .i64 a0,.int .i64 a1,.int .i64 a2,.int .i64 a3] w fun e w'=>e=.returned (.tuple #[.agg #[.int .i64 r1,.int .i64 r2,.int .i64 r3],.bool r4])∧Below w.heap.size w w':=by
 have hu43:=Tryz.underlying43
 have HB:=aA.mk (Below.refl w.heap.size w)
 have H:=h
 unfold bx.f at H
 clear h
 replace H:=bS H
 obtain ⟨t460,A5,H⟩:=H
 try dsimp only at H
 by_cases c6:t460=true
 ·
  subst c6
  rw [if_pos rfl] at H
  try dsimp only at H
  replace H:=bS H
  obtain ⟨t461,A7,H⟩:=H
  try dsimp only at H
  replace H:=bS H
  obtain ⟨t462,A8,H⟩:=H
  try dsimp only at H
  have HC9:=aA.mk H
  clear H
  go_enter Tryz.func89,Tryz.ntmps89
  go_upto_region 4 with (first|((with_reducible refine aN (N:=8) rfl ?_);refine bxE (cs:=#[.int .i64 0,.int .i64 0,.int .i64 0]) (t:=43) ?_;intro gb459 hg w10 hbox hb;have BK459:=aA.mk hbox;have GW459:=sA hg;have GE459:=sA hg;replace HB:=lB hb;clear hb hbox hg)|((with_reducible refine gd 14 rfl ?_);refine gC (some 14) rfl Tryz.func83 (cM.calls (w:=_) (h:=A5.out)) ?_;rintro _ ⟨nd,rfl⟩)|((with_reducible refine gd 19 rfl ?_);refine gC (some 19) rfl Tryz.func87 (aa.calls (w:=_) (h:=A7.out)) ?_;rintro _ ⟨nd,rfl⟩)|((with_reducible refine gd 22 rfl ?_);refine gC (some 22) rfl Tryz.func87 (aa.calls (w:=_) (h:=A8.out)) ?_;rintro _ ⟨nd,rfl⟩))
  (try simp only [Act.put,List.setIfInBounds_toArray,List.set_cons_zero,List.set_cons_succ])
  go_cut [24] (fun v24 wc=>∃ (kq:Nat) (x24_8:Bool),v24=.bool x24_8∧aA (bx.j0 kq a0 a1 a2 a3 (wrap64 (t461 - t462)) x24_8=some (r1,r2,r3,r4))∧aA (kq≤k)∧aA (wc.heap[gb459]?=some (.cells #[.int .i64 0,.int .i64 0,.int .i64 0] 43 (0,0)))∧aA (Below w.heap.size w wc))
  case first=>
   have H:=HC9.out
   clear HC9
   by_cases c11:a1=0
   ·
    rw [if_pos c11] at H
    have c11b0:(a1 == 0)=true:=beq_iff_eq.mpr c11
    have c11b1:(a1 != 0)=false:=bne_eq_false_iff_eq.mpr c11
    clear c11
    (first|rw [c11b0]|(simp only [dh,di];rw [c11b0])|skip)
    have H':=aA.mk H
    clear H
    go_wp2
    go_meet
    case rel=>exact ⟨_,(true),hB,H',⟨by first|omega|exact Nat.le_refl _⟩,⟨bkA BK459⟩,⟨blA⟩⟩
   ·
    rw [if_neg c11] at H
    have c11b0:(a1 == 0)=false:=beq_eq_false_iff_ne.mpr c11
    have c11b1:(a1 != 0)=true:=bne_iff_ne.mpr c11
    (first|rw [c11b0]|(simp only [dh,di];rw [c11b0])|skip)
    have H':=aA.mk H
    clear H
    go_wp2
    go_meet
    case rel=>exact ⟨_,(decide ((wrap64 (t461 - t462))≥a3)),hB,H',⟨by first|omega|exact Nat.le_refl _⟩,⟨bkA BK459⟩,⟨blA⟩⟩
  case rest=>
   clear HC9
   try clear c6
   try clear c11
   try clear c11b0
   try clear c11b1
   obtain ⟨kq,x24_8,rfl,HA,HJ8,BK459,HB⟩:=hcut
   cases kq with
   | zero=>exact absurd HA.out (by simp [bx.j0])
   | succ kj8=>
    have H:=HA.out
    clear HA
    simp only [bx.j0] at H
    by_cases c12:x24_8=true
    ·
     subst c12
     rw [if_pos rfl] at H
     try dsimp only at H
     simp only [Option.some.injEq,Prod.mk.injEq] at H
     obtain ⟨rfl,rfl,rfl,rfl⟩:=H
     obtain ⟨hcz13_0,hcz13_1,hcz13_2,hfz13_0,hfz13_1,hfz13_2⟩:=cz3 BK459
     go_wp2
     refine bodyPost_ret (bZ rfl _ _ gb459 43 #[.int .i64 a3,.int .i64 0,.int .i64 0] (0,0) _ rfl (bpA BK459) Tryz.underlying43 rfl (by kernel_rfl)) rfl ?_
     exact cE blA
    ·
     replace c12:=Bool.eq_false_iff.mpr c12
     subst c12
     rw [if_neg (show ¬ (false=true) by decide)] at H
     try dsimp only at H
     by_cases c14:(wrap64 (t461 - t462))<(-6)
     ·
      rw [if_pos c14] at H
      have c14b0:=decide_eq_true c14
      clear c14
      simp only [Option.some.injEq,Prod.mk.injEq] at H
      obtain ⟨rfl,rfl,rfl,rfl⟩:=H
      obtain ⟨hcz15_0,hcz15_1,hcz15_2,hfz15_0,hfz15_1,hfz15_2⟩:=cz3 BK459
      go_wp2
      refine bodyPost_ret (bZ rfl _ _ gb459 43 #[.int .i64 0,.int .i64 0,.int .i64 0] (0,0) _ rfl (bpA BK459) Tryz.underlying43 rfl (by kernel_rfl)) rfl ?_
      exact cE blA
     ·
      rw [if_neg c14] at H
      have c14b0:=decide_eq_false c14
      clear c14
      replace H:=bS H
      obtain ⟨t463,A16,H⟩:=H
      try dsimp only at H
      replace H:=bS H
      obtain ⟨t464,A17,H⟩:=H
      try dsimp only at H
      replace H:=bS H
      obtain ⟨t465,A18,H⟩:=H
      try dsimp only at H
      replace H:=bS H
      obtain ⟨t466,A19,H⟩:=H
      try dsimp only at H
      replace H:=bS H
      obtain ⟨t467,A20,H⟩:=H
      try dsimp only at H
      replace H:=bS H
      obtain ⟨t468,A21,H⟩:=H
      try dsimp only at H
      replace H:=bS H
      obtain ⟨t469,A22,H⟩:=H
      try dsimp only at H
      replace H:=bS H
      obtain ⟨⟨t470,t471,t472,t473⟩,A23,H⟩:=H
      try dsimp only at H
      simp only [Option.some.injEq,Prod.mk.injEq] at H
      obtain ⟨rfl,rfl,rfl,rfl⟩:=H
      go_wp2_with (first|((with_reducible refine gd 41 rfl ?_);refine gC (some 41) rfl Tryz.func84 (ag.calls (w:=_) (h:=A16.out)) ?_;rintro _ ⟨nd,rfl⟩;(try (rw [bh wc];generalize hq_:World.drewN wc _=wc;replace BK459:=aA.mk (by rw [← hq_];exact (bkA BK459));replace HB:=aA.mk (by rw [← hq_];exact blA);clear hq_)))|((with_reducible refine gd 44 rfl ?_);refine gC (some 44) rfl Tryz.func115 (dK.calls (w:=_) (h:=A17.out)) ?_;rintro _ ⟨nd,rfl⟩;(try (rw [bh wc];generalize hq_:World.drewN wc _=wc;replace BK459:=aA.mk (by rw [← hq_];exact (bkA BK459));replace HB:=aA.mk (by rw [← hq_];exact blA);clear hq_)))|((with_reducible refine gd 47 rfl ?_);refine gC (some 47) rfl Tryz.func115 (dK.calls (w:=_) (h:=A18.out)) ?_;rintro _ ⟨nd,rfl⟩;(try (rw [bh wc];generalize hq_:World.drewN wc _=wc;replace BK459:=aA.mk (by rw [← hq_];exact (bkA BK459));replace HB:=aA.mk (by rw [← hq_];exact blA);clear hq_)))|((with_reducible refine gd 49 rfl ?_);refine gC (some 49) rfl Tryz.func116 (bg.calls (w:=_) (h:=A19.out)) ?_;rintro _ ⟨nd,rfl⟩;(try (rw [bh wc];generalize hq_:World.drewN wc _=wc;replace BK459:=aA.mk (by rw [← hq_];exact (bkA BK459));replace HB:=aA.mk (by rw [← hq_];exact blA);clear hq_)))|((with_reducible refine gd 51 rfl ?_);refine gC (some 51) rfl Tryz.func114 (dC.calls (w:=_) (h:=A20.out)) ?_;rintro _ ⟨nd,rfl⟩;(try (rw [bh wc];generalize hq_:World.drewN wc _=wc;replace BK459:=aA.mk (by rw [← hq_];exact (bkA BK459));replace HB:=aA.mk (by rw [← hq_];exact blA);clear hq_)))|((with_reducible refine gd 58 rfl ?_);refine gC (some 58) rfl Tryz.func84 (ag.calls (w:=_) (h:=A21.out)) ?_;rintro _ ⟨nd,rfl⟩;(try (rw [bh wc];generalize hq_:World.drewN wc _=wc;replace BK459:=aA.mk (by rw [← hq_];exact (bkA BK459));replace HB:=aA.mk (by rw [← hq_];exact blA);clear hq_)))|((with_reducible refine gd 60 rfl ?_);refine gC (some 60) rfl Tryz.func114 (dC.calls (w:=_) (h:=A22.out)) ?_;rintro _ ⟨nd,rfl⟩;(try (rw [bh wc];generalize hq_:World.drewN wc _=wc;replace BK459:=aA.mk (by rw [← hq_];exact (bkA BK459));replace HB:=aA.mk (by rw [← hq_];exact blA);clear hq_)))|((with_reducible refine gd 61 rfl ?_);refine gC (some 61) rfl Tryz.func117 (cN.calls (w:=_) (h:=A23.out)) ?_;intro w24 hb;replace BK459:=kB BK459 hb;replace HB:=lB hb;clear hb;obtain ⟨hcz25_0,hcz25_1,hcz25_2,hfz25_0,hfz25_1,hfz25_2⟩:=cz3 BK459))
      refine bodyPost_ret (bZ rfl _ _ gb459 43 #[.int .i64 t470,.int .i64 t471,.int .i64 t472] (0,0) _ rfl (bpA BK459) Tryz.underlying43 rfl (by kernel_rfl)) rfl ?_
      exact cE blA
 ·
  replace c6:=Bool.eq_false_iff.mpr c6
  subst c6
  rw [if_neg (show ¬ (false=true) by decide)] at H
  try dsimp only at H
  simp only [Option.some.injEq,Prod.mk.injEq] at H
  obtain ⟨rfl,rfl,rfl,rfl⟩:=H
  go_enter Tryz.func89,Tryz.ntmps89
  go_wp2_with (first|((with_reducible refine aN (N:=8) rfl ?_);refine bxE (cs:=#[.int .i64 0,.int .i64 0,.int .i64 0]) (t:=43) ?_;intro gb459 hg w26 hbox hb;have BK459:=aA.mk hbox;have GW459:=sA hg;have GE459:=sA hg;replace HB:=lB hb;clear hb hbox hg)|((with_reducible refine gd 14 rfl ?_);refine gC (some 14) rfl Tryz.func83 (cM.calls (w:=_) (h:=A5.out)) ?_;rintro _ ⟨nd,rfl⟩;(try (rw [bh w26];generalize hq_:World.drewN w26 _=w26;replace BK459:=aA.mk (by rw [← hq_];exact (bkA BK459));replace HB:=aA.mk (by rw [← hq_];exact blA);clear hq_));obtain ⟨hcz27_0,hcz27_1,hcz27_2,hfz27_0,hfz27_1,hfz27_2⟩:=cz3 BK459))
  refine bodyPost_ret (bZ rfl _ _ gb459 43 #[.int .i64 0,.int .i64 0,.int .i64 0] (0,0) _ rfl (bpA BK459) Tryz.underlying43 rfl (by kernel_rfl)) rfl ?_
  exact cE blA
theorem slices_SortFunc.one (a b:Int):cF.f a b=some (if a<b then -1 else if b<a then 1 else 0):=by
 simp only [cF.f,bU.f]
 by_cases h1:a<b
 ·
  simp [h1]
 ·
  by_cases h2:b<a <;> simp [h1,h2]
theorem slices_SortFunc.l0 (x y:List Int) (hx:x.length≤9223372036854775807):∀ d i,x.length - i≤d→i≤x.length→i≤y.length→ah.l0 (d+1) x y x (x.length:Int) (i:Int)=some (au.lexc (x.drop i) (y.drop i)):=by
 intro d
 induction d with
 | zero=>
  intro i h1 h2 h3
  simp only [ah.l0]
  rw [if_neg (by omega),show x.drop i=[] from List.drop_eq_nil_of_le (by omega)]
  by_cases h:(x.length:Int)<(y.length:Int)
  ·
   rw [if_pos h,List.drop_eq_getElem_cons (by omega)];rfl
  ·
   rw [if_neg h,show y.drop i=[] from List.drop_eq_nil_of_le (by omega)];rfl
 | succ d ih=>
  intro i h1 h2 h3
  rw [ah.l0]
  by_cases hi:i<x.length
  ·
   rw [if_pos (by omega),if_pos (by omega),if_pos (by omega),List.drop_eq_getElem_cons hi]
   by_cases hy:i<y.length
   ·
    rw [if_neg (by omega),if_pos (by omega),slices_SortFunc.one,List.drop_eq_getElem_cons hy,show rd x (i:Int)=x[i] by simp [rd,hi],show rd y (i:Int)=y[i] by simp [rd,hy]]
    simp only [Option.bind_some,au.lexc]
    by_cases h4:x[i]<y[i]
    ·
     simp [h4]
    ·
     by_cases h5:y[i]<x[i]
     ·
      simp [h4,h5]
     ·
      have:=ih (i+1) (by omega) (by omega) (by omega)
      simp only [h4,h5,if_false,if_true]
      rw [show wrap64 ((i:Int)+1)=((i+1:Nat):Int) by unfold wrap64;omega]
      exact this
   ·
    rw [if_pos (by omega),show y.drop i=[] from List.drop_eq_nil_of_le (by omega)];rfl
  ·
   rw [if_neg (by omega),show x.drop i=[] from List.drop_eq_nil_of_le (by omega)]
   by_cases h:(x.length:Int)<(y.length:Int)
   ·
    rw [if_pos h,List.drop_eq_getElem_cons (by omega)];rfl
   ·
    rw [if_neg h,show y.drop i=[] from List.drop_eq_nil_of_le (by omega)];rfl
theorem slices_SortFunc.cmp {A0 A1:Option Addr} {c0 c1:Nat} {x y:List Int} {w:World} (h0:Kd.C (Kd.int .i64) w A0 x.length x) (hc0:x.length≤c0) (h1:Kd.C (Kd.int .i64) w A1 y.length y) (hc1:y.length≤c1) :
  Calls Tryz.prog 37 #[.slice A0 x.length c0,.slice A1 y.length c1] w fun e w'=>e=.returned (.int .i64 (au.lexc x y))∧aI w w':=
 ah.calls (x.length+1) A0 c0 x A1 c1 y (au.lexc x y) w h0 hc0 h1 hc1 (slices_SortFunc.l0 x y h0.2.1 x.length 0 (by omega) (by omega) (by omega))
open Go.Sort in
theorem slices_SortFunc.calls (W:World) (base:Nat) (ok:Nat→Prop) (v:Value) (xs:List (List Int)) (h:Kd.S (Kd.slice 2 (Kd.int .i64)) 50 W base ok v xs) (hsz:xs.length<4611686018427387904) :
  Calls Tryz.prog 36 #[v,.func (.func 37) #[] #[]] W fun e w'=>e=.returned (.tuple #[])∧Kd.S (Kd.slice 2 (Kd.int .i64)) 50 w' base ok v (au.srt xs)∧W.grownBy w' v.ownBlock:=by
 by_cases hp:0<xs.length
 ·
  obtain ⟨g,cap,f,cs,cur,rfl,hok,hb,hh,hn,hm,hs,ht,hcl,hR⟩:=au.opened h hp
  have hgl:=cO hh
  have hrow:=au.rows hcl hR
  have hsw:∀ (n:Nat) (d':Array Nat) (os:Array Obj),(∀ k,k<W.heap.size→k≠g→(sortWorld (fun i=>cs.getD i (.slice none 0 0)) W g 0 n d' os).heap[k]?=W.heap[k]?)∧(sortWorld (fun i=>cs.getD i (.slice none 0 0)) W g 0 n d' os).heap[g]?=some (.cells (putCells (fun i=>cs.getD i (.slice none 0 0)) 0 d' cur) 50 (0,0)):=by
   intro n d' os
   obtain ⟨p1,p2⟩:=au.put hh (fun i=>cs.getD i (.slice none 0 0)) n d'
   refine ⟨fun k hk hne=>?_,?_⟩
   ·
    unfold sortWorld
    rw [heap_grow_old _ _ (by rw [size_putRow];exact hk)]
    exact p1 k hne
   ·
    unfold sortWorld
    rw [heap_grow_old _ _ (by rw [size_putRow];exact hgl)]
    exact p2
  have eg:∀ args w,(callFunc 37 args).run Tryz.prog w=.ok (.enter 37 args) w:=enters_of Tryz.func37 (by kernel_rfl) rfl
  have hcmp:CmpLays1 Tryz.prog 37 #[] (fun i=>cs.getD i (.slice none 0 0)) (fun i j=>au.lexc (xs.getD i []) (xs.getD j [])) g 0 xs.length W:=by
   intro m os dk _ i j
   obtain ⟨A0,c0,e0,hc0,h0⟩:=hrow _ (hsw m dk os).1 i
   obtain ⟨A1,c1,e1,hc1,h1⟩:=hrow _ (hsw m dk os).1 j
   simp only [e0,e1]
   exact (slices_SortFunc.cmp h0 hc0 h1 hc1).mono fun _ _ ⟨he,hd⟩=>⟨he,by obtain ⟨q,hq⟩:=hd.out;exact ⟨q,#[],by rw [grow_empty];exact hq⟩⟩
  have hdl:(Array.range xs.length).size=xs.length:=by simp
  have hH:=au.holds hh ht hcl
  have h1:OneCell (fun i=>cs.getD i (.slice none 0 0)):=fun i=>by
   obtain ⟨A,c,e,_⟩:=hrow W (fun _ _ _=>rfl) i
   show (cs.getD i (.slice none 0 0)).oneCell'=true
   rw [e];rfl
  have hO:SWO (ltOf fun i j=>au.lexc (xs.getD i []) (xs.getD j [])):=⟨fun i=>au.swo.irrefl _,fun i j k=>au.swo.trans _ _ _,fun i j k=>au.swo.ntrans _ _ _⟩
  have hcon:=Any.slices_SortFunc Tryz.sortRows (fun i=>cs.getD i (.slice none 0 0)) h1 (fun i j=>au.lexc (xs.getD i []) (xs.getD j [])) hO 37 #[] g 0 cap (Array.range xs.length) W eg (by rw [hdl];exact hcmp) hH hgl (by rw [hdl];exact hsz)
  rw [hdl] at hcon
  refine (show Calls Tryz.prog 36 _ _ _ from hcon).mono ?_
  rintro e w' ⟨rfl,d',n,os,hP,hSo,rfl⟩
  obtain ⟨hsz',_,hperm⟩:=hP
  rw [hdl] at hsz'
  have e1:d'.extract 0 xs.length=d':=by rw [← hsz'];exact Array.extract_size
  have e2:(Array.range xs.length).extract 0 xs.length=Array.range xs.length:=by have:=@Array.extract_size _ (Array.range xs.length);rwa [hdl] at this
  rw [e1,e2,Array.toList_range] at hperm
  have hval:d'.toList.map (fun i=>xs.getD i [])=au.srt xs:=by
   refine List.Perm.eq_of_pairwise (le:=fun x y=>(!au.ltr y x)=true) ?_ ?_ ?_ (List.Perm.trans ?_ (List.mergeSort_perm _ _).symm)
   ·
    intro a b _ _ k1 k2
    simp only [Bool.not_eq_true',au.ltr,decide_eq_false_iff_not] at k1 k2
    exact au.lexc_eq a b k2 k1
   ·
    rw [List.pairwise_iff_getElem]
    intro i j hi hj hij
    have hi':i<d'.size:=by simpa using hi
    have hj':j<d'.size:=by simpa using hj
    have:=hSo i j (Nat.zero_le _) hij (by omega)
    rw [getElem!_pos d' j hj',getElem!_pos d' i hi'] at this
    simpa [au.ltr,ltOf] using this
   ·
    refine List.pairwise_mergeSort ?_ ?_ _
    ·
     intro a b c k1 k2
     simp only [Bool.not_eq_true'] at k1 k2 ⊢
     exact au.swo.ntrans c b a k2 k1
    ·
     intro a b
     cases k:au.ltr b a with
     | false=>simp
     | true=>
      cases k2:au.ltr a b with
      | false=>simp
      | true=>have:=au.swo.trans _ _ _ k k2;rw [au.swo.irrefl] at this;cases this
   ·
    have h3:=hperm.map (fun i=>xs.getD i [])
    have h4:(List.range xs.length).map (fun i=>xs.getD i [])=xs:=by
     apply List.ext_getElem
     ·
      simp
     ·
      intro i k1 k2
      simp [k2]
    rwa [h4] at h3
  have hdn:d'.toList.length=xs.length:=by simpa using hsz'
  refine ⟨rfl,?_,⟨rfl,rfl,rfl,by simp [sortWorld],fun k hk hne=>(hsw n d' os).1 k hk (fun e=>hne (by rw [e];rfl))⟩⟩
  have:=au.picked hok hb hcl hR (hsw n d' os).1 d'.toList (hperm.symm.nodup List.nodup_range) (fun i hi=>by have:=hperm.mem_iff.1 hi;simpa using this) (hsw n d' os).2 (by simp [putCells,hs]) (by omega) hm ?_
  ·
   rw [hdn,hval] at this;exact this
  ·
   exact au.head (by omega) hdn (by omega) (fun j hj=>by rw [getElem!_pos d' j (by omega)];simp [show j<d'.size by omega])
 ·
  have he:xs=[]:=List.eq_nil_of_length_eq_zero (by omega)
  subst he
  obtain ⟨A,c,rfl⟩:=Kd.R_slice (Kd.S_R h)
  have hcon:=AnyF.slices_SortFunc_none (P:=Tryz.prog) (ρ:=Tryz.sortRows_ren) { Tryz.sortRows with } A c (.func (.func 37) #[] #[]) W
  refine (show Calls Tryz.prog 36 _ _ _ from hcon).mono ?_
  rintro e w' ⟨rfl,rfl⟩
  exact ⟨rfl,by rw [show au.srt []=[] by simp [au.srt]];exact h,⟨rfl,rfl,rfl,Nat.le_refl _,fun _ _ _=>rfl⟩⟩
def cL.f (k:Nat) (a0 a1_0 a1_1 a1_2:Int):Option ((List (S43)) × Bool):=(bO.f k a0 a1_0 a1_1 a1_2).bind fun bt177=>((a7.f k a0 a1_0 a1_1 a1_2).bind fun bt182=>((some (([(⟨bt177.1,bt177.2.1,bt177.2.2.1⟩:S43)]:List (S43)):List (S43))).bind fun y186=>(if y186.length+bt182.1.length<5864062014805 then ((some (y186 ++ bt182.1:List (S43))).bind fun y189=>(if bt177.2.2.2=true then (some (y189,bt182.2)) else (some (y189,false)))) else (none))))
set_option maxHeartbeats 8000000 in
set_option maxRecDepth 100000 in
theorem cL.calls (k:Nat) (a0 a1_0 a1_1 a1_2:Int) (r1:List (S43)) (r2:Bool) (w:World) (h:cL.f k a0 a1_0 a1_1 a1_2=some (r1,r2)) :
  Calls Tryz.prog 95 #[.int .i64 a0,.agg #[.int .i64 a1_0,.int .i64 a1_1,.int .i64 a1_2]] w fun e w'=>∃ v0_:Value,e=.returned (.tuple #[v0_,.bool r2])∧Kd.R k43 43 w' w.heap.size (fun _=>True) v0_ r1∧Below w.heap.size w w':=by
 have hu43:=Tryz.underlying43
 have HB:=aA.mk (Below.refl w.heap.size w)
 have H:=h
 unfold cL.f at H
 clear h
 replace H:=bS H
 obtain ⟨⟨t177,t178,t179,t180⟩,A3,H⟩:=H
 try dsimp only at H
 replace H:=bS H
 obtain ⟨⟨t182,t185⟩,A4,H⟩:=H
 try dsimp only at H
 obtain ⟨y186,hy186⟩:∃ y_:List (S43),y_=(([(⟨t177,t178,t179⟩:S43)]:List (S43))):=⟨_,rfl⟩
 replace H:(if y186.length+t182.length<5864062014805 then ((some (y186 ++ t182:List (S43))).bind fun y189=>(if t180=true then (some (y189,t185)) else (some (y189,false)))) else (none))=some (r1,r2):=rH hy186 H
 have Ny186:=aA.mk hy186
 clear hy186
 by_cases c5:y186.length+t182.length<5864062014805
 rotate_left
 ·
  rw [if_neg c5] at H
  exact absurd H (by simp)
 rw [if_pos c5] at H
 have LMc5:=aA.mk c5
 clear c5
 obtain ⟨y189,hy189⟩:∃ y_:List (S43),y_=(y186 ++ t182):=⟨_,rfl⟩
 replace H:(if t180=true then (some (y189,t185)) else (some (y189,false)))=some (r1,r2):=rH hy189 H
 have Ny189:=aA.mk hy189
 clear hy189
 by_cases c6:t180=true
 ·
  subst c6
  rw [if_pos rfl] at H
  try dsimp only at H
  simp only [Option.some.injEq,Prod.mk.injEq] at H
  obtain ⟨rfl,rfl⟩:=H
  go_enter Tryz.func95,Tryz.ntmps95
  go_wp2_with (first|((with_reducible refine aN (N:=3) rfl ?_);refine bxE (cs:=#[.int .i64 a1_0,.int .i64 a1_1,.int .i64 a1_2]) (t:=43) ?_;intro gb176 hg w7 hbox hb;have BK176:=aA.mk hbox;have GW176:=sA hg;have GE176:=sA hg;replace HB:=lB hb;clear hb hbox hg;obtain ⟨hcz8_0,hcz8_1,hcz8_2,hfz8_0,hfz8_1,hfz8_2⟩:=cz3 BK176)|((with_reducible refine gd 13 rfl ?_);refine gC (some 13) rfl Tryz.func119 (bO.calls (w:=_) (h:=A3.out)) ?_;intro w9 hb;replace BK176:=kB BK176 hb;replace HB:=lB hb;clear hb)|((with_reducible refine aN (N:=6) rfl ?_);refine bxE (cs:=#[.int .i64 0,.int .i64 0,.int .i64 0]) (t:=43) ?_;intro gb181 hg w10 hbox hb;have BK181:=aA.mk hbox;have GW181:=sA hg;have GE181:=sA hg;have NB176_181:=nA hg BK176;have NB181_176:=nB hg BK176;replace BK176:=kB BK176 hb;replace HB:=lB hb;clear hb hbox hg;have hnb11:=NB181_176.out;have hnc11:=NB176_181.out;obtain ⟨hcz12_0,hcz12_1,hcz12_2,hfz12_0,hfz12_1,hfz12_2⟩:=cz3 BK181;obtain ⟨hcz13_0,hcz13_1,hcz13_2,hfz13_0,hfz13_1,hfz13_2⟩:=cz3 BK176)|((with_reducible refine a6 (f:=120) rfl ?_);refine gL (some 19) rfl Tryz.func120 #[.int .i64 a0,.agg #[.int .i64 a1_0,.int .i64 a1_1,.int .i64 a1_2]] ?_;(with_reducible refine (a7.calls k a0 a1_0 a1_1 a1_2 t182 t185 _ A4.out).mono ?_);rintro e w14 ⟨v183,rfl,ho0,hb⟩;refine ⟨_,rfl,?_⟩;have n0_:=aA.mk (Kd.R_lower (Kd.R_newB (Kd.R_newB ho0 (g:=gb176) (o:=.cells #[.int .i64 a1_0,.int .i64 a1_1,.int .i64 a1_2] 43 (0,0)) (bkF BK176)) (g:=gb181) (o:=.cells #[.int .i64 t177,.int .i64 t178,.int .i64 t179] 43 (0,0)) (bpA BK181)) (aQ blA));have n1_:=aA.mk (bL (g:=gb176) (o:=.cells #[.int .i64 a1_0,.int .i64 a1_1,.int .i64 a1_2] 43 (0,0)) (bkF BK176) hb);have n2_:=aA.mk (bL (g:=gb181) (o:=.cells #[.int .i64 t177,.int .i64 t178,.int .i64 t179] 43 (0,0)) (bpA BK181) hb);have n3_:=lB hb;clear BK176;clear BK181;clear HB;have HO184:=n0_;have BK176:=n1_;have BK181:=n2_;have HB:=n3_;clear n0_ n1_ n2_ n3_;clear ho0 hb;obtain ⟨hcz15_0,hcz15_1,hcz15_2,hfz15_0,hfz15_1,hfz15_2⟩:=cz3 BK181)|((with_reducible refine aN (N:=23) rfl ?_);refine Kd.R_lit k43 _ 43 ?hg (N:=23) ?hd (xs:=([(⟨t177,t178,t179⟩:S43)]:List (S43))) (inner:=[.int .i64 t177,.int .i64 t178,.int .i64 t179]) (ok:=fun _=>True) (okp:=fun _=>True) ?hr ?hp (fun _ hk=>hk) trivial (Below.refl _ _) (Nat.le_refl _) (by simp) ?_;(case hd=>rfl);(case hg=>rfl);(case hr=>first|(go_simp;done)|(go_simp;rfl));(case hp=>exact (bD.c3 (show Kd.M k43 _ _ _ (⟨t177,t178,t179⟩:S43) [.int .i64 t177,.int .i64 t178,.int .i64 t179] from (de _ _ _ (⟨t177,t178,t179⟩:S43) )) (bD.none _ _)));intro v187 w16 ho17 hb hg_ hnew_;clear hg_ hnew_;(first|rw [← Ny186.out] at ho17|(simp only [Int.reduceToNat] at ho17;rw [← Ny186.out] at ho17));have HO188:=aA.mk (Kd.R_lower (Kd.R_newB (Kd.R_newB (Kd.R_new' ho17 (Kd.R_lt (rA HO184))) (bkA BK176)) (bkA BK181)) (aQ blA));replace HO184:=aA.mk (Kd.R_elder' (rA HO184) (Kd.R_base ho17) hb);replace BK176:=kB BK176 hb;replace BK181:=kB BK181 hb;replace HB:=lB hb;clear hb ho17;obtain ⟨Ao19,co19,eo19⟩:=Kd.R_slice HO184.out;subst eo19)|((with_reducible refine bY (b:=.append) (xs:=#[.tmp 23,.tmp 24]) rfl ?_);at_builtin;refine Kd.R_append_rows k43 (w0:=w) w.heap.size rfl (.tmp 23) (.tmp 24) 38 43 (.agg #[(.int .i64 0),(.int .i64 0),(.int .i64 0)]) 24 rfl Tryz.underlying38 eE rfl (by decide) (by omega) v187 y186 t182 _ _ _ (fun k_=>some k_≠(.slice Ao19 t182.length co19:Value).ownBlock∧k_≠gb176∧k_≠gb181) (fun _=>False) rfl rfl ?aO ?aR (fun _ _ h=>h) (fun _ h=>h.elim) ?aF ?aB ?aS ?aL ?_;(case aR=>exact cR (Kd.R_reads' HO184.out).2.2);(case aB=>exact blA);(case aF=>exact (fun k_ hk=>⟨Kd.fresh' (Kd.R_lt (rA HO184)) k_ hk,Kd.freshB (bkA BK176) k_ hk,Kd.freshB (bkA BK181) k_ hk⟩));(case aO=>exact (by (with_reducible repeat (first|apply Kd.R_alloc|apply Kd.R_drewN|apply Kd.R_drew));exact Kd.R_mono HO188.out (fun _ hk=>⟨hk.1.1.2,⟨hk.1.2,hk.2⟩⟩)));(case aS=>exact (aQ blA));(case aL=>have:=LMc5.out;omega);intro v190 w18 ho hb hg hat;rw [← Ny189.out] at ho;have HO191:=aA.mk ho;replace BK176:=aA.mk (bu (bkA BK176) hg (Kd.R_away HO188.out (fun _ hk=>hk.1.2)));replace BK181:=aA.mk (bu (bkA BK181) hg (Kd.R_away HO188.out (fun _ hk=>hk.2)));replace HO184:=aA.mk (Kd.R_after (ok:=(fun k_=>k_≠gb176∧k_≠gb181)) (by (with_reducible repeat (first|apply Kd.R_alloc|apply Kd.R_drewN|apply Kd.R_drew));exact Kd.R_mono HO184.out (fun _ hk=>⟨⟨hk.1.1.2,hk.1.2⟩,hk.2⟩)) hg hat);replace HB:=aA.mk hb;clear HO188;clear ho hb hg hat))
  go_ret2
  exact ⟨_,eW,by (with_reducible repeat (first|apply Kd.R_alloc|apply Kd.R_drewN|apply Kd.R_drew));exact Kd.R_mono HO191.out (fun _ hk=>trivial),blA⟩
 ·
  replace c6:=Bool.eq_false_iff.mpr c6
  subst c6
  rw [if_neg (show ¬ (false=true) by decide)] at H
  try dsimp only at H
  simp only [Option.some.injEq,Prod.mk.injEq] at H
  obtain ⟨rfl,rfl⟩:=H
  go_enter Tryz.func95,Tryz.ntmps95
  go_wp2_with (first|((with_reducible refine aN (N:=3) rfl ?_);refine bxE (cs:=#[.int .i64 a1_0,.int .i64 a1_1,.int .i64 a1_2]) (t:=43) ?_;intro gb176 hg w20 hbox hb;have BK176:=aA.mk hbox;have GW176:=sA hg;have GE176:=sA hg;replace HB:=lB hb;clear hb hbox hg;obtain ⟨hcz21_0,hcz21_1,hcz21_2,hfz21_0,hfz21_1,hfz21_2⟩:=cz3 BK176)|((with_reducible refine gd 13 rfl ?_);refine gC (some 13) rfl Tryz.func119 (bO.calls (w:=_) (h:=A3.out)) ?_;intro w22 hb;replace BK176:=kB BK176 hb;replace HB:=lB hb;clear hb)|((with_reducible refine aN (N:=6) rfl ?_);refine bxE (cs:=#[.int .i64 0,.int .i64 0,.int .i64 0]) (t:=43) ?_;intro gb181 hg w23 hbox hb;have BK181:=aA.mk hbox;have GW181:=sA hg;have GE181:=sA hg;have NB176_181:=nA hg BK176;have NB181_176:=nB hg BK176;replace BK176:=kB BK176 hb;replace HB:=lB hb;clear hb hbox hg;have hnb24:=NB181_176.out;have hnc24:=NB176_181.out;obtain ⟨hcz25_0,hcz25_1,hcz25_2,hfz25_0,hfz25_1,hfz25_2⟩:=cz3 BK181;obtain ⟨hcz26_0,hcz26_1,hcz26_2,hfz26_0,hfz26_1,hfz26_2⟩:=cz3 BK176)|((with_reducible refine a6 (f:=120) rfl ?_);refine gL (some 19) rfl Tryz.func120 #[.int .i64 a0,.agg #[.int .i64 a1_0,.int .i64 a1_1,.int .i64 a1_2]] ?_;(with_reducible refine (a7.calls k a0 a1_0 a1_1 a1_2 t182 t185 _ A4.out).mono ?_);rintro e w27 ⟨v183,rfl,ho0,hb⟩;refine ⟨_,rfl,?_⟩;have n0_:=aA.mk (Kd.R_lower (Kd.R_newB (Kd.R_newB ho0 (g:=gb176) (o:=.cells #[.int .i64 a1_0,.int .i64 a1_1,.int .i64 a1_2] 43 (0,0)) (bkF BK176)) (g:=gb181) (o:=.cells #[.int .i64 t177,.int .i64 t178,.int .i64 t179] 43 (0,0)) (bpA BK181)) (aQ blA));have n1_:=aA.mk (bL (g:=gb176) (o:=.cells #[.int .i64 a1_0,.int .i64 a1_1,.int .i64 a1_2] 43 (0,0)) (bkF BK176) hb);have n2_:=aA.mk (bL (g:=gb181) (o:=.cells #[.int .i64 t177,.int .i64 t178,.int .i64 t179] 43 (0,0)) (bpA BK181) hb);have n3_:=lB hb;clear BK176;clear BK181;clear HB;have HO184:=n0_;have BK176:=n1_;have BK181:=n2_;have HB:=n3_;clear n0_ n1_ n2_ n3_;clear ho0 hb;obtain ⟨hcz28_0,hcz28_1,hcz28_2,hfz28_0,hfz28_1,hfz28_2⟩:=cz3 BK181)|((with_reducible refine aN (N:=23) rfl ?_);refine Kd.R_lit k43 _ 43 ?hg (N:=23) ?hd (xs:=([(⟨t177,t178,t179⟩:S43)]:List (S43))) (inner:=[.int .i64 t177,.int .i64 t178,.int .i64 t179]) (ok:=fun _=>True) (okp:=fun _=>True) ?hr ?hp (fun _ hk=>hk) trivial (Below.refl _ _) (Nat.le_refl _) (by simp) ?_;(case hd=>rfl);(case hg=>rfl);(case hr=>first|(go_simp;done)|(go_simp;rfl));(case hp=>exact (bD.c3 (show Kd.M k43 _ _ _ (⟨t177,t178,t179⟩:S43) [.int .i64 t177,.int .i64 t178,.int .i64 t179] from (de _ _ _ (⟨t177,t178,t179⟩:S43) )) (bD.none _ _)));intro v187 w29 ho30 hb hg_ hnew_;clear hg_ hnew_;(first|rw [← Ny186.out] at ho30|(simp only [Int.reduceToNat] at ho30;rw [← Ny186.out] at ho30));have HO188:=aA.mk (Kd.R_lower (Kd.R_newB (Kd.R_newB (Kd.R_new' ho30 (Kd.R_lt (rA HO184))) (bkA BK176)) (bkA BK181)) (aQ blA));replace HO184:=aA.mk (Kd.R_elder' (rA HO184) (Kd.R_base ho30) hb);replace BK176:=kB BK176 hb;replace BK181:=kB BK181 hb;replace HB:=lB hb;clear hb ho30;obtain ⟨Ao32,co32,eo32⟩:=Kd.R_slice HO184.out;subst eo32)|((with_reducible refine bY (b:=.append) (xs:=#[.tmp 23,.tmp 24]) rfl ?_);at_builtin;refine Kd.R_append_rows k43 (w0:=w) w.heap.size rfl (.tmp 23) (.tmp 24) 38 43 (.agg #[(.int .i64 0),(.int .i64 0),(.int .i64 0)]) 24 rfl Tryz.underlying38 eE rfl (by decide) (by omega) v187 y186 t182 _ _ _ (fun k_=>some k_≠(.slice Ao32 t182.length co32:Value).ownBlock∧k_≠gb176∧k_≠gb181) (fun _=>False) rfl rfl ?aO ?aR (fun _ _ h=>h) (fun _ h=>h.elim) ?aF ?aB ?aS ?aL ?_;(case aR=>exact cR (Kd.R_reads' HO184.out).2.2);(case aB=>exact blA);(case aF=>exact (fun k_ hk=>⟨Kd.fresh' (Kd.R_lt (rA HO184)) k_ hk,Kd.freshB (bkA BK176) k_ hk,Kd.freshB (bkA BK181) k_ hk⟩));(case aO=>exact (by (with_reducible repeat (first|apply Kd.R_alloc|apply Kd.R_drewN|apply Kd.R_drew));exact Kd.R_mono HO188.out (fun _ hk=>⟨hk.1.1.2,⟨hk.1.2,hk.2⟩⟩)));(case aS=>exact (aQ blA));(case aL=>have:=LMc5.out;omega);intro v190 w31 ho hb hg hat;rw [← Ny189.out] at ho;have HO191:=aA.mk ho;replace BK176:=aA.mk (bu (bkA BK176) hg (Kd.R_away HO188.out (fun _ hk=>hk.1.2)));replace BK181:=aA.mk (bu (bkA BK181) hg (Kd.R_away HO188.out (fun _ hk=>hk.2)));replace HO184:=aA.mk (Kd.R_after (ok:=(fun k_=>k_≠gb176∧k_≠gb181)) (by (with_reducible repeat (first|apply Kd.R_alloc|apply Kd.R_drewN|apply Kd.R_drew));exact Kd.R_mono HO184.out (fun _ hk=>⟨⟨hk.1.1.2,hk.1.2⟩,hk.2⟩)) hg hat);replace HB:=aA.mk hb;clear HO188;clear ho hb hg hat))
  go_ret2
  exact ⟨_,eW,by (with_reducible repeat (first|apply Kd.R_alloc|apply Kd.R_drewN|apply Kd.R_drew));exact Kd.R_mono HO191.out (fun _ hk=>trivial),blA⟩
def cS.f (k:Nat) (a0:Int) (l1:List (S59)) (a2:Int):Option (Int):=(cm.f a0).bind fun t351=>(if t351=true then ((cT.f k l1).bind fun t352=>(if t352=0 then ((dF.f a2).bind fun t353=>(if t353=true then (some 0) else (some 2))) else (some t352))) else (some 1))
set_option maxHeartbeats 8000000 in
set_option maxRecDepth 100000 in
theorem cS.calls (k:Nat) (a0:Int) (A1:Option Addr) (c1:Nat) (l1:List (S59)) (a2 r:Int) (w:World) (hr1:Kd.C k59 w A1 l1.length l1) (hc1:l1.length≤c1) (h:cS.f k a0 l1 a2=some r) :
  Calls Tryz.prog 32 #[.int .i64 a0,.slice A1 l1.length c1,.int .i64 a2] w fun e w'=>e=.returned (.int .i64 r)∧Below w.heap.size w w':=by
 have HR1:=aA.mk hr1
 have HC1:=aA.mk hc1
 clear hr1 hc1
 have HB:=aA.mk (Below.refl w.heap.size w)
 have H:=h
 unfold cS.f at H
 clear h
 replace H:=bS H
 obtain ⟨t351,A4,H⟩:=H
 try dsimp only at H
 by_cases c5:t351=true
 ·
  subst c5
  rw [if_pos rfl] at H
  try dsimp only at H
  replace H:=bS H
  obtain ⟨t352,A6,H⟩:=H
  try dsimp only at H
  by_cases c7:t352=0
  ·
   rw [if_pos c7] at H
   have c7b0:(t352 == 0)=true:=beq_iff_eq.mpr c7
   have c7b1:(t352 != 0)=false:=bne_eq_false_iff_eq.mpr c7
   clear c7
   replace H:=bS H
   obtain ⟨t353,A8,H⟩:=H
   try dsimp only at H
   by_cases c9:t353=true
   focus
    subst c9
    rw [if_pos rfl] at H
    try dsimp only at H
    obtain rfl:=Option.some.inj H
   rotate_left
   focus
    replace c9:=Bool.eq_false_iff.mpr c9
    subst c9
    rw [if_neg (show ¬ (false=true) by decide)] at H
    try dsimp only at H
    obtain rfl:=Option.some.inj H
   rotate_left
   all_goals
    go_enter Tryz.func32,Tryz.ntmps32
    go_wp2_with (first|((with_reducible refine gd 9 rfl ?_);refine gC (some 9) rfl Tryz.func49 (cm.calls (w:=_) (h:=A4.out)) ?_;rintro _ ⟨nd,rfl⟩)|((with_reducible refine gd 12 rfl ?_);refine gC (some 12) rfl Tryz.func70 (cT.calls (w:=_) (hr0:=cR HR1.out) (hc0:=HC1.out) (h:=A6.out)) ?_;intro w10 hb;replace HB:=lB hb;clear hb)|((with_reducible refine gd 17 rfl ?_);refine gC (some 17) rfl Tryz.func50 (dF.calls (w:=_) (h:=A8.out)) ?_;rintro _ ⟨nd,rfl⟩))
   ·
    go_ret
    exact cE blA
   ·
    go_ret
    exact cE blA
  ·
   rw [if_neg c7] at H
   have c7b0:(t352 == 0)=false:=beq_eq_false_iff_ne.mpr c7
   have c7b1:(t352 != 0)=true:=bne_iff_ne.mpr c7
   obtain rfl:=Option.some.inj H
   go_enter Tryz.func32,Tryz.ntmps32
   go_wp2_with (first|((with_reducible refine gd 9 rfl ?_);refine gC (some 9) rfl Tryz.func49 (cm.calls (w:=_) (h:=A4.out)) ?_;rintro _ ⟨nd,rfl⟩)|((with_reducible refine gd 12 rfl ?_);refine gC (some 12) rfl Tryz.func70 (cT.calls (w:=_) (hr0:=cR HR1.out) (hc0:=HC1.out) (h:=A6.out)) ?_;intro w12 hb;replace HB:=lB hb;clear hb))
   go_ret
   exact cE blA
 ·
  replace c5:=Bool.eq_false_iff.mpr c5
  subst c5
  rw [if_neg (show ¬ (false=true) by decide)] at H
  try dsimp only at H
  obtain rfl:=Option.some.inj H
  go_enter Tryz.func32,Tryz.ntmps32
  go_wp2_with (first|((with_reducible refine gd 9 rfl ?_);refine gC (some 9) rfl Tryz.func49 (cm.calls (w:=_) (h:=A4.out)) ?_;rintro _ ⟨nd,rfl⟩))
  go_ret
  exact cE blA
end Go.Proofs.YtnhiehpbkimaeaaGreat.PAll
