import Derived.Test.YtnhiehpbkimaeaaGreatQx
import Derived.Test.YtnhiehpbkimaeaaGreatQcmpCompareint64
import Derived.Test.YtnhiehpbkimaeaaGreatQcmpisNaNint64
import Derived.Test.YtnhiehpbkimaeaaGreatQimplofMark
import Derived.Test.YtnhiehpbkimaeaaGreatQspecl01Child
import Derived.Test.YtnhiehpbkimaeaaGreatQspecl01Code
namespace Go.Proofs.YtnhiehpbkimaeaaGreat.PAll
open Go.RowKit Go.Proofs.YtnhiehpbkimaeaaGreatW.PrintWords Go.Proofs.YtnhiehpbkimaeaaGreatW.PrintLast Go.Proofs.YtnhiehpbkimaeaaGreatW.PrintMore
attribute [local go_sem] Go.Proofs.YtnhiehpbkimaeaaGreat.Aux.setCell_drewN Go.Proofs.YtnhiehpbkimaeaaGreat.Aux.isSome_setCell cC b9 cQ cP bm bl cB b8
set_option linter.unusedVariables false
set_option linter.unusedSimpArgs false
def bQ.f (k:Nat) (a0 a1_0 a1_1 a1_2 a2_0 a2_1 a2_2:Int):Option (Int):=(cJ.f k a0 a1_0 a1_1 a1_2).bind fun t358=>((cJ.f k a0 a2_0 a2_1 a2_2).bind fun t359=>((aa.f k a0 (wrap64 (t358 - t359))).bind fun t360=>(some (mn (mn a1_0 a2_0) (wrap64 (t360 - 6))))))
def bQ.T1:Bool × List (List Nat × List Nat):=(true,[([],[]),([0],[0]),([],[]),([2],[2]),([],[]),([],[]),([],[]),([5,6],[5,6]),([],[]),([],[]),([8,9,7],[8,9]),([7,10],[7,10]),([4,11,10],[4,11]),([12],[12]),([1,3,13],[1,3,13]),([14,12,0,1,2,3,4,5,6,7,8,9,10,11,12,13,14],[14])])
def bQ.B1:List Nat:=[0,1,0,4,0,0,0,96,0,0,992,2016,4080,8176,16383,32767]
theorem bQ.tab1:cZ .any (dL Tryz.f74 1)=bQ.T1:=by kernel_rfl
theorem bQ.bits1:bq bQ.T1.2 bQ.B1=true:=by kernel_rfl
set_option maxHeartbeats 8000000 in
set_option maxRecDepth 100000 in
theorem bQ.calls (k:Nat) (a0 a1_0 a1_1 a1_2 a2_0 a2_1 a2_2 r:Int) (w:World) (h:bQ.f k a0 a1_0 a1_1 a1_2 a2_0 a2_1 a2_2=some r) :
  Calls Tryz.prog 74 #[.int .i64 a0,.agg #[.int .i64 a1_0,.int .i64 a1_1,.int .i64 a1_2],.agg #[.int .i64 a2_0,.int .i64 a2_1,.int .i64 a2_2]] w fun e w'=>e=.returned (.int .i64 r)∧Below w.heap.size w w':=by
 have hu43:=Tryz.underlying43
 have HB:=aA.mk (Below.refl w.heap.size w)
 have H:=h
 unfold bQ.f at H
 clear h
 replace H:=bS H
 obtain ⟨t358,A4,H⟩:=H
 try dsimp only at H
 replace H:=bS H
 obtain ⟨t359,A5,H⟩:=H
 try dsimp only at H
 replace H:=bS H
 obtain ⟨t360,A6,H⟩:=H
 try dsimp only at H
 obtain ⟨ji7,hji7⟩:∃ j_:Int,(mn a1_0 a2_0)=j_:=⟨_,rfl⟩
 replace H:(some (mn (ji7) (wrap64 (t360 - 6))))=some r:=by first|(rw [hji7] at H;exact H)|(simp only [hji7] at H ⊢;exact H)
 (try rw [hji7] at A4)
 (try rw [hji7] at A5)
 (try rw [hji7] at A6)
 have hji7_:(if a2_0<a1_0 then a2_0 else a1_0)=ji7:=hji7
 obtain ⟨ji8,hji8⟩:∃ j_:Int,(mn (ji7) (wrap64 (t360 - 6)))=j_:=⟨_,rfl⟩
 replace H:(some ji8)=some r:=by first|(rw [hji8] at H;exact H)|(simp only [hji8] at H ⊢;exact H)
 (try rw [hji8] at A4)
 (try rw [hji8] at A5)
 (try rw [hji8] at A6)
 have hji8_:(if (wrap64 (t360 - 6))<(ji7) then (wrap64 (t360 - 6)) else (ji7))=ji8:=hji8
 obtain rfl:=Option.some.inj H
 go_enter Tryz.func74,Tryz.ntmps74
 try go_wp2_with (first|((with_reducible refine aN (N:=4) rfl ?_);refine bxE (cs:=#[.int .i64 a1_0,.int .i64 a1_1,.int .i64 a1_2]) (t:=43) ?_;intro gb356 hg w9 hbox hb;have n0_:=lB hb;have n1_:=aA.mk hbox;have n2_:=sA hg;have n3_:=sA hg;clear HB;have HB:=n0_;have BK356:=n1_;have GW356:=n2_;have GE356:=n3_;clear n0_ n1_ n2_ n3_;clear hb hbox hg)|((with_reducible refine aN (N:=5) rfl ?_);refine bxE (cs:=#[.int .i64 a2_0,.int .i64 a2_1,.int .i64 a2_2]) (t:=43) ?_;intro gb357 hg w10 hbox hb;have n0_:=kB BK356 hb;have n1_:=lB hb;have n2_:=aA.mk hbox;have n3_:=sA hg;have n4_:=sA hg;have n5_:=nA hg BK356;have n6_:=nB hg BK356;clear BK356;clear HB;have BK356:=n0_;have HB:=n1_;have BK357:=n2_;have GW357:=n3_;have GE357:=n4_;have NB356_357:=n5_;have NB357_356:=n6_;clear n0_ n1_ n2_ n3_ n4_ n5_ n6_;clear hb hbox hg))
 have n0_:=aA.mk (ac BK356.out)
 have n1_:=aA.mk (ac BK357.out)
 have n2_:=aA.mk (al HB.out)
 clear BK356
 clear BK357
 clear HB
 have BK356:=n0_
 have BK357:=n1_
 have HB:=n2_
 clear n0_ n1_ n2_
 refine b7 (n:=16) (S:=fun w'=>w'.cell? ⟨gb356,0,none⟩=some (.int .i64 a1_0)∧w'.cell? ⟨gb356,1,none⟩=some (.int .i64 a1_1)∧w'.cell? ⟨gb356,2,none⟩=some (.int .i64 a1_2)∧w'.cell? ⟨gb357,0,none⟩=some (.int .i64 a2_0)∧w'.cell? ⟨gb357,1,none⟩=some (.int .i64 a2_1)∧w'.cell? ⟨gb357,2,none⟩=some (.int .i64 a2_2)) (ds:=[]) #[Z,Z,Z,Z,Z,Z,Z,Z,Z,Z,Z,Z,Z,Z,Z,Z] (by kernel_rfl) rfl rfl ⟨cA BK356 0,cA BK356 1,cA BK356 2,cA BK357 0,cA BK357 1,cA BK357 2⟩ (fun hHeld=>?_);refine bT bQ.tab1 bQ.bits1 (fun HT_ HW_=>?_)
 generalize w10.drew=w11 at BK356 BK357 HB hHeld ⊢
 refine puA (i:=0) (N:=some 7) #[Y,Z,Z,Z,Z,Z,Z,Z,Z,Z,Z,Z,Z,Z,Z,Z] rfl rfl HT_ ?_
 refine puA (i:=2) (N:=some 9) #[Y,Z,Y,Z,Z,Z,Z,Z,Z,Z,Z,Z,Z,Z,Z,Z] rfl rfl HT_ ?_
 refine puA (i:=4) (N:=some 11) #[Y,Z,Y,Z,Y,Z,Z,Z,Z,Z,Z,Z,Z,Z,Z,Z] rfl rfl HT_ ?_
 refine puA (i:=5) (N:=some 12) #[Y,Z,Y,Z,Y,Y,Z,Z,Z,Z,Z,Z,Z,Z,Z,Z] rfl rfl HT_ ?_
 refine puA (i:=8) (N:=some 15) #[Y,Z,Y,Z,Y,Y,Z,Z,Y,Z,Z,Z,Z,Z,Z,Z] rfl rfl HT_ ?_
 refine taA (i:=1) (N:=some 8) #[Y,Y,Y,Z,Y,Y,Z,Z,Y,Z,Z,Z,Z,Z,Z,Z] rfl rfl HT_ HW_ hHeld ?_
 refine taA (i:=3) (N:=some 10) #[Y,Y,Y,Y,Y,Y,Z,Z,Y,Z,Z,Z,Z,Z,Z,Z] rfl rfl HT_ HW_ hHeld ?_
 refine taA (i:=6) (N:=some 13) #[Y,Y,Y,Y,Y,Y,Y,Z,Y,Z,Z,Z,Z,Z,Z,Z] rfl rfl HT_ HW_ hHeld ?_
 refine taA (i:=9) (N:=some 16) #[Y,Y,Y,Y,Y,Y,Y,Z,Y,Y,Z,Z,Z,Z,Z,Z] rfl rfl HT_ HW_ hHeld ?_
 refine cV (i:=7) (N:=some 14) #[Y,Y,Y,Y,Y,Y,Y,Y,Y,Y,Z,Z,Z,Z,Z,Z] rfl rfl (bX HT_.out (by kernel_rfl)) (by decide) (fun K hK=>?_)
 refine goC Tryz.func86 (cJ.calls (w:=_) (h:=A4.out)) ?_
 intro w12 hb
 replace BK356:=kB BK356 hb
 replace BK357:=kB BK357 hb
 replace HB:=lB hb
 (try clear hb)
 (try clear hb2)
 (try clear hk)
 (try clear hi)
 refine hK.out _ _ ⟨cA BK356 0,cA BK356 1,cA BK356 2,cA BK357 0,cA BK357 1,cA BK357 2⟩ (fun hHeld=>?_)
 clear hK K
 refine nmA ?_
 refine cV (i:=10) (N:=some 17) #[Y,Y,Y,Y,Y,Y,Y,Y,Y,Y,Y,Z,Z,Z,Z,Z] rfl rfl (bX HT_.out (by kernel_rfl)) (by decide) (fun K hK=>?_)
 refine goC Tryz.func86 (cJ.calls (w:=_) (h:=A5.out)) ?_
 intro w13 hb
 replace BK356:=kB BK356 hb
 replace BK357:=kB BK357 hb
 replace HB:=lB hb
 (try clear hb)
 (try clear hb2)
 (try clear hk)
 (try clear hi)
 refine hK.out _ _ ⟨cA BK356 0,cA BK356 1,cA BK356 2,cA BK357 0,cA BK357 1,cA BK357 2⟩ (fun hHeld=>?_)
 clear hK K
 refine nmA ?_
 refine puA (i:=11) (N:=some 18) #[Y,Y,Y,Y,Y,Y,Y,Y,Y,Y,Y,Y,Z,Z,Z,Z] rfl rfl HT_ ?_
 refine cV (i:=12) (N:=some 19) #[Y,Y,Y,Y,Y,Y,Y,Y,Y,Y,Y,Y,Y,Z,Z,Z] rfl rfl (bX HT_.out (by kernel_rfl)) (by decide) (fun K hK=>?_)
 refine goC Tryz.func87 (aa.calls (w:=_) (h:=A6.out)) ?_
 rintro _ ⟨nd,rfl⟩
 refine hK.out _ _ ⟨cA BK356 0,cA BK356 1,cA BK356 2,cA BK357 0,cA BK357 1,cA BK357 2⟩ (fun hHeld=>?_)
 clear hK K
 refine nmA ?_
 refine puA (i:=13) (N:=some 20) #[Y,Y,Y,Y,Y,Y,Y,Y,Y,Y,Y,Y,Y,Y,Z,Z] rfl rfl HT_ ?_
 refine puA (i:=14) (N:=some 21) #[Y,Y,Y,Y,Y,Y,Y,Y,Y,Y,Y,Y,Y,Y,Y,Z] rfl rfl HT_ ?_
 refine puA (i:=15) (N:=some 6) #[Y,Y,Y,Y,Y,Y,Y,Y,Y,Y,Y,Y,Y,Y,Y,Y] rfl rfl HT_ ?_
 refine cg (br HT_.out (by kernel_rfl)) ?_
 try go_wp2
 go_ret
 exact ⟨by first|rfl|(simp [bB,bA] <;> rfl)|(simp only [← hji7,← hji8];first|rfl|(simp [bB,bA] <;> rfl))|(simp [*,bB,bA] <;> rfl),blA⟩
def bk.f (k:Nat) (a0 a1_0 a1_1 a1_2:Int):Option (Int × Int × Int × Bool):=(cJ.f k a0 a1_0 a1_1 a1_2).bind fun t372=>((cN.f k a0 (wrap64 (a1_0 - 1)) t372).bind fun bt373=>(some (bt373.1,bt373.2.1,bt373.2.2.1,bt373.2.2.2)))
def bk.T1:Bool × List (List Nat × List Nat):=(true,[([],[]),([],[]),([1],[1]),([2],[2]),([],[]),([],[]),([4,5],[4,5]),([0,3,6,6],[0,3,6]),([7],[7]),([7],[7]),([8,7,0,1,2,3,4,5,6,7,8,9],[8]),([9,10,0,1,2,3,4,5,6,7,8,9,10],[9])])
def bk.B1:List Nat:=[0,0,2,6,0,0,48,127,255,255,1023,2047]
theorem bk.tab1:cZ .any (dL Tryz.f134 1)=bk.T1:=by kernel_rfl
theorem bk.bits1:bq bk.T1.2 bk.B1=true:=by kernel_rfl
set_option maxHeartbeats 8000000 in
set_option maxRecDepth 100000 in
theorem bk.calls (k:Nat) (a0 a1_0 a1_1 a1_2 r1 r2 r3:Int) (r4:Bool) (w:World) (h:bk.f k a0 a1_0 a1_1 a1_2=some (r1,r2,r3,r4)) :
  Calls Tryz.prog 134 #[.int .i64 a0,.agg #[.int .i64 a1_0,.int .i64 a1_1,.int .i64 a1_2]] w fun e w'=>e=.returned (.tuple #[.agg #[.int .i64 r1,.int .i64 r2,.int .i64 r3],.bool r4])∧Below w.heap.size w w':=by
 have hu43:=Tryz.underlying43
 have HB:=aA.mk (Below.refl w.heap.size w)
 have H:=h
 unfold bk.f at H
 clear h
 replace H:=bS H
 obtain ⟨t372,A3,H⟩:=H
 try dsimp only at H
 replace H:=bS H
 obtain ⟨⟨t373,t374,t375,t376⟩,A4,H⟩:=H
 try dsimp only at H
 simp only [Option.some.injEq,Prod.mk.injEq] at H
 obtain ⟨rfl,rfl,rfl,rfl⟩:=H
 go_enter Tryz.func134,Tryz.ntmps134
 try go_wp2_with (first|((with_reducible refine aN (N:=3) rfl ?_);refine bxE (cs:=#[.int .i64 a1_0,.int .i64 a1_1,.int .i64 a1_2]) (t:=43) ?_;intro gb370 hg w5 hbox hb;have n0_:=lB hb;have n1_:=aA.mk hbox;have n2_:=sA hg;have n3_:=sA hg;clear HB;have HB:=n0_;have BK370:=n1_;have GW370:=n2_;have GE370:=n3_;clear n0_ n1_ n2_ n3_;clear hb hbox hg)|((with_reducible refine aN (N:=4) rfl ?_);refine bxE (cs:=#[.int .i64 0,.int .i64 0,.int .i64 0]) (t:=43) ?_;intro gb371 hg w6 hbox hb;have n0_:=kB BK370 hb;have n1_:=lB hb;have n2_:=aA.mk hbox;have n3_:=sA hg;have n4_:=sA hg;have n5_:=nA hg BK370;have n6_:=nB hg BK370;clear BK370;clear HB;have BK370:=n0_;have HB:=n1_;have BK371:=n2_;have GW371:=n3_;have GE371:=n4_;have NB370_371:=n5_;have NB371_370:=n6_;clear n0_ n1_ n2_ n3_ n4_ n5_ n6_;clear hb hbox hg))
 have n0_:=aA.mk (ac BK370.out)
 have n1_:=aA.mk (ac BK371.out)
 have n2_:=aA.mk (al HB.out)
 clear BK370
 clear BK371
 clear HB
 have BK370:=n0_
 have BK371:=n1_
 have HB:=n2_
 clear n0_ n1_ n2_
 refine b7 (n:=12) (S:=fun w'=>w'.cell? ⟨gb370,0,none⟩=some (.int .i64 a1_0)∧w'.cell? ⟨gb370,1,none⟩=some (.int .i64 a1_1)∧w'.cell? ⟨gb370,2,none⟩=some (.int .i64 a1_2)) (ds:=[]) #[Z,Z,Z,Z,Z,Z,Z,Z,Z,Z,Z,Z] (by kernel_rfl) rfl rfl ⟨cA BK370 0,cA BK370 1,cA BK370 2⟩ (fun hHeld=>?_);refine bT bk.tab1 bk.bits1 (fun HT_ HW_=>?_)
 generalize w6.drew=w7 at BK370 BK371 HB hHeld ⊢
 refine puA (i:=0) (N:=some 6) #[Y,Z,Z,Z,Z,Z,Z,Z,Z,Z,Z,Z] rfl rfl HT_ ?_
 refine puA (i:=1) (N:=some 7) #[Y,Y,Z,Z,Z,Z,Z,Z,Z,Z,Z,Z] rfl rfl HT_ ?_
 refine puA (i:=4) (N:=some 10) #[Y,Y,Z,Z,Y,Z,Z,Z,Z,Z,Z,Z] rfl rfl HT_ ?_
 refine taA (i:=2) (N:=some 8) #[Y,Y,Y,Z,Y,Z,Z,Z,Z,Z,Z,Z] rfl rfl HT_ HW_ hHeld ?_
 refine puA (i:=3) (N:=some 9) #[Y,Y,Y,Y,Y,Z,Z,Z,Z,Z,Z,Z] rfl rfl HT_ ?_
 refine taA (i:=5) (N:=some 11) #[Y,Y,Y,Y,Y,Y,Z,Z,Z,Z,Z,Z] rfl rfl HT_ HW_ hHeld ?_
 refine cV (i:=6) (N:=some 12) #[Y,Y,Y,Y,Y,Y,Y,Z,Z,Z,Z,Z] rfl rfl (bX HT_.out (by kernel_rfl)) (by decide) (fun K hK=>?_)
 refine goC Tryz.func86 (cJ.calls (w:=_) (h:=A3.out)) ?_
 intro w8 hb
 replace BK370:=kB BK370 hb
 replace BK371:=kB BK371 hb
 replace HB:=lB hb
 (try clear hb)
 (try clear hb2)
 (try clear hk)
 (try clear hi)
 refine hK.out _ _ ⟨cA BK370 0,cA BK370 1,cA BK370 2⟩ (fun hHeld=>?_)
 clear hK K
 refine nmA ?_
 refine cV (i:=7) (N:=some 13) #[Y,Y,Y,Y,Y,Y,Y,Y,Z,Z,Z,Z] rfl rfl (bX HT_.out (by kernel_rfl)) (by decide) (fun K hK=>?_)
 refine goC Tryz.func117 (cN.calls (w:=_) (h:=A4.out)) ?_
 intro w9 hb
 replace BK370:=kB BK370 hb
 replace BK371:=kB BK371 hb
 replace HB:=lB hb
 (try clear hb)
 (try clear hb2)
 (try clear hk)
 (try clear hi)
 refine hK.out _ _ ⟨cA BK370 0,cA BK370 1,cA BK370 2⟩ (fun hHeld=>?_)
 clear hK K
 refine nmA ?_
 refine puA (i:=8) (N:=some 14) #[Y,Y,Y,Y,Y,Y,Y,Y,Y,Z,Z,Z] rfl rfl HT_ ?_
 refine puA (i:=9) (N:=some 15) #[Y,Y,Y,Y,Y,Y,Y,Y,Y,Y,Z,Z] rfl rfl HT_ ?_
 refine cV (i:=10) (N:=none) #[Y,Y,Y,Y,Y,Y,Y,Y,Y,Y,Y,Z] rfl rfl (bX HT_.out (by kernel_rfl)) (by decide) (fun K hK=>?_)
 have hs10:w9.cell? ⟨gb371,0,none⟩=some (.int .i64 0):=cA BK371 0
 have hfs10:=bH BK371.out 0
 have hns10_0:=NB370_371.out
 have hms10_0:=NB371_370.out
 have hs11:w9.cell? ⟨gb371,1,none⟩=some (.int .i64 0):=cA BK371 1
 have hfs11:=bH BK371.out 1
 have hns11_0:=NB370_371.out
 have hms11_0:=NB371_370.out
 have hs12:w9.cell? ⟨gb371,2,none⟩=some (.int .i64 0):=cA BK371 2
 have hfs12:=bH BK371.out 2
 have hns12_0:=NB370_371.out
 have hms12_0:=NB371_370.out
 refine skip_ (w1:=?_) (by rfl) rfl ?_ ?_
 rotate_left
 ·
  go_simp
  rfl
 refine hK.out _ _ ⟨cfA hHeld.1,cfA hHeld.2.1,cfA hHeld.2.2⟩ (fun hHeld=>?_)
 clear hK K
 refine puA (i:=11) (N:=some 5) #[Y,Y,Y,Y,Y,Y,Y,Y,Y,Y,Y,Y] rfl rfl HT_ ?_
 refine cg (br HT_.out (by kernel_rfl)) ?_
 try go_wp2
 refine bodyPost_ret (bZ rfl _ _ gb371 43 #[.int .i64 t373,.int .i64 t374,.int .i64 t375] (0,0) _ rfl (bpA BK371) Tryz.underlying43 rfl (by kernel_rfl)) rfl ?_
 exact cE blA
def bw.f (k:Nat) (a0 a1_0 a1_1 a1_2 a2:Int):Option (Int × Int × Int × Bool):=(cJ.f k a0 a1_0 a1_1 a1_2).bind fun t379=>((ag.f k a0 (wrap64 (a1_0+6))).bind fun t380=>((cN.f k a0 (wrap64 (a1_0+1)) (wrap64 (t379+(wrap64 (a2*t380))))).bind fun bt381=>(some (bt381.1,bt381.2.1,bt381.2.2.1,bt381.2.2.2))))
def bw.T1:Bool × List (List Nat × List Nat):=(true,[([],[]),([],[]),([1],[1]),([2],[2]),([],[]),([],[]),([4,5],[4,5]),([],[]),([],[]),([],[]),([9],[9]),([10],[10]),([8,11,6],[8,11]),([7,12],[7,12]),([6,13],[6,13]),([0,3,14,12],[0,3,14]),([15],[15]),([15],[15]),([16,15,0,1,2,3,4,5,6,7,8,9,10,11,12,13,14,15,16,17],[16]),([17,18,0,1,2,3,4,5,6,7,8,9,10,11,12,13,14,15,16,17,18],[17])])
def bw.B1:List Nat:=[0,0,2,6,0,0,48,0,0,0,512,1536,3952,8176,16368,32767,65535,65535,262143,524287]
theorem bw.tab1:cZ .any (dL Tryz.f135 1)=bw.T1:=by kernel_rfl
theorem bw.bits1:bq bw.T1.2 bw.B1=true:=by kernel_rfl
set_option maxHeartbeats 8000000 in
set_option maxRecDepth 100000 in
theorem bw.calls (k:Nat) (a0 a1_0 a1_1 a1_2 a2 r1 r2 r3:Int) (r4:Bool) (w:World) (h:bw.f k a0 a1_0 a1_1 a1_2 a2=some (r1,r2,r3,r4)) :
  Calls Tryz.prog 135 #[.int .i64 a0,.agg #[.int .i64 a1_0,.int .i64 a1_1,.int .i64 a1_2],.int .i64 a2] w fun e w'=>e=.returned (.tuple #[.agg #[.int .i64 r1,.int .i64 r2,.int .i64 r3],.bool r4])∧Below w.heap.size w w':=by
 have hu43:=Tryz.underlying43
 have HB:=aA.mk (Below.refl w.heap.size w)
 have H:=h
 unfold bw.f at H
 clear h
 replace H:=bS H
 obtain ⟨t379,A4,H⟩:=H
 try dsimp only at H
 replace H:=bS H
 obtain ⟨t380,A5,H⟩:=H
 try dsimp only at H
 replace H:=bS H
 obtain ⟨⟨t381,t382,t383,t384⟩,A6,H⟩:=H
 try dsimp only at H
 simp only [Option.some.injEq,Prod.mk.injEq] at H
 obtain ⟨rfl,rfl,rfl,rfl⟩:=H
 go_enter Tryz.func135,Tryz.ntmps135
 try go_wp2_with (first|((with_reducible refine aN (N:=4) rfl ?_);refine bxE (cs:=#[.int .i64 a1_0,.int .i64 a1_1,.int .i64 a1_2]) (t:=43) ?_;intro gb377 hg w7 hbox hb;have n0_:=lB hb;have n1_:=aA.mk hbox;have n2_:=sA hg;have n3_:=sA hg;clear HB;have HB:=n0_;have BK377:=n1_;have GW377:=n2_;have GE377:=n3_;clear n0_ n1_ n2_ n3_;clear hb hbox hg)|((with_reducible refine aN (N:=6) rfl ?_);refine bxE (cs:=#[.int .i64 0,.int .i64 0,.int .i64 0]) (t:=43) ?_;intro gb378 hg w8 hbox hb;have n0_:=kB BK377 hb;have n1_:=lB hb;have n2_:=aA.mk hbox;have n3_:=sA hg;have n4_:=sA hg;have n5_:=nA hg BK377;have n6_:=nB hg BK377;clear BK377;clear HB;have BK377:=n0_;have HB:=n1_;have BK378:=n2_;have GW378:=n3_;have GE378:=n4_;have NB377_378:=n5_;have NB378_377:=n6_;clear n0_ n1_ n2_ n3_ n4_ n5_ n6_;clear hb hbox hg))
 have n0_:=aA.mk (ac BK377.out)
 have n1_:=aA.mk (ac BK378.out)
 have n2_:=aA.mk (al HB.out)
 clear BK377
 clear BK378
 clear HB
 have BK377:=n0_
 have BK378:=n1_
 have HB:=n2_
 clear n0_ n1_ n2_
 refine b7 (n:=20) (S:=fun w'=>w'.cell? ⟨gb377,0,none⟩=some (.int .i64 a1_0)∧w'.cell? ⟨gb377,1,none⟩=some (.int .i64 a1_1)∧w'.cell? ⟨gb377,2,none⟩=some (.int .i64 a1_2)) (ds:=[]) #[Z,Z,Z,Z,Z,Z,Z,Z,Z,Z,Z,Z,Z,Z,Z,Z,Z,Z,Z,Z] (by kernel_rfl) rfl rfl ⟨cA BK377 0,cA BK377 1,cA BK377 2⟩ (fun hHeld=>?_);refine bT bw.tab1 bw.bits1 (fun HT_ HW_=>?_)
 generalize w8.drew=w9 at BK377 BK378 HB hHeld ⊢
 refine puA (i:=0) (N:=some 8) #[Y,Z,Z,Z,Z,Z,Z,Z,Z,Z,Z,Z,Z,Z,Z,Z,Z,Z,Z,Z] rfl rfl HT_ ?_
 refine puA (i:=1) (N:=some 9) #[Y,Y,Z,Z,Z,Z,Z,Z,Z,Z,Z,Z,Z,Z,Z,Z,Z,Z,Z,Z] rfl rfl HT_ ?_
 refine puA (i:=4) (N:=some 12) #[Y,Y,Z,Z,Y,Z,Z,Z,Z,Z,Z,Z,Z,Z,Z,Z,Z,Z,Z,Z] rfl rfl HT_ ?_
 refine puA (i:=7) (N:=some 15) #[Y,Y,Z,Z,Y,Z,Z,Y,Z,Z,Z,Z,Z,Z,Z,Z,Z,Z,Z,Z] rfl rfl HT_ ?_
 refine puA (i:=8) (N:=some 16) #[Y,Y,Z,Z,Y,Z,Z,Y,Y,Z,Z,Z,Z,Z,Z,Z,Z,Z,Z,Z] rfl rfl HT_ ?_
 refine puA (i:=9) (N:=some 17) #[Y,Y,Z,Z,Y,Z,Z,Y,Y,Y,Z,Z,Z,Z,Z,Z,Z,Z,Z,Z] rfl rfl HT_ ?_
 refine taA (i:=2) (N:=some 10) #[Y,Y,Y,Z,Y,Z,Z,Y,Y,Y,Z,Z,Z,Z,Z,Z,Z,Z,Z,Z] rfl rfl HT_ HW_ hHeld ?_
 refine puA (i:=3) (N:=some 11) #[Y,Y,Y,Y,Y,Z,Z,Y,Y,Y,Z,Z,Z,Z,Z,Z,Z,Z,Z,Z] rfl rfl HT_ ?_
 refine taA (i:=5) (N:=some 13) #[Y,Y,Y,Y,Y,Y,Z,Y,Y,Y,Z,Z,Z,Z,Z,Z,Z,Z,Z,Z] rfl rfl HT_ HW_ hHeld ?_
 refine taA (i:=10) (N:=some 18) #[Y,Y,Y,Y,Y,Y,Z,Y,Y,Y,Y,Z,Z,Z,Z,Z,Z,Z,Z,Z] rfl rfl HT_ HW_ hHeld ?_
 refine puA (i:=11) (N:=some 19) #[Y,Y,Y,Y,Y,Y,Z,Y,Y,Y,Y,Y,Z,Z,Z,Z,Z,Z,Z,Z] rfl rfl HT_ ?_
 refine cV (i:=6) (N:=some 14) #[Y,Y,Y,Y,Y,Y,Y,Y,Y,Y,Y,Y,Z,Z,Z,Z,Z,Z,Z,Z] rfl rfl (bX HT_.out (by kernel_rfl)) (by decide) (fun K hK=>?_)
 refine goC Tryz.func86 (cJ.calls (w:=_) (h:=A4.out)) ?_
 intro w10 hb
 replace BK377:=kB BK377 hb
 replace BK378:=kB BK378 hb
 replace HB:=lB hb
 (try clear hb)
 (try clear hb2)
 (try clear hk)
 (try clear hi)
 refine hK.out _ _ ⟨cA BK377 0,cA BK377 1,cA BK377 2⟩ (fun hHeld=>?_)
 clear hK K
 refine nmA ?_
 refine cV (i:=12) (N:=some 20) #[Y,Y,Y,Y,Y,Y,Y,Y,Y,Y,Y,Y,Y,Z,Z,Z,Z,Z,Z,Z] rfl rfl (bX HT_.out (by kernel_rfl)) (by decide) (fun K hK=>?_)
 refine goC Tryz.func84 (ag.calls (w:=_) (h:=A5.out)) ?_
 rintro _ ⟨nd,rfl⟩
 refine hK.out _ _ ⟨cA BK377 0,cA BK377 1,cA BK377 2⟩ (fun hHeld=>?_)
 clear hK K
 refine nmA ?_
 refine puA (i:=13) (N:=some 21) #[Y,Y,Y,Y,Y,Y,Y,Y,Y,Y,Y,Y,Y,Y,Z,Z,Z,Z,Z,Z] rfl rfl HT_ ?_
 refine puA (i:=14) (N:=some 22) #[Y,Y,Y,Y,Y,Y,Y,Y,Y,Y,Y,Y,Y,Y,Y,Z,Z,Z,Z,Z] rfl rfl HT_ ?_
 refine cV (i:=15) (N:=some 23) #[Y,Y,Y,Y,Y,Y,Y,Y,Y,Y,Y,Y,Y,Y,Y,Y,Z,Z,Z,Z] rfl rfl (bX HT_.out (by kernel_rfl)) (by decide) (fun K hK=>?_)
 refine goC Tryz.func117 (cN.calls (w:=_) (h:=A6.out)) ?_
 intro w11 hb
 replace BK377:=kB BK377 hb
 replace BK378:=kB BK378 hb
 replace HB:=lB hb
 (try clear hb)
 (try clear hb2)
 (try clear hk)
 (try clear hi)
 refine hK.out _ _ ⟨cA BK377 0,cA BK377 1,cA BK377 2⟩ (fun hHeld=>?_)
 clear hK K
 refine nmA ?_
 refine puA (i:=16) (N:=some 24) #[Y,Y,Y,Y,Y,Y,Y,Y,Y,Y,Y,Y,Y,Y,Y,Y,Y,Z,Z,Z] rfl rfl HT_ ?_
 refine puA (i:=17) (N:=some 25) #[Y,Y,Y,Y,Y,Y,Y,Y,Y,Y,Y,Y,Y,Y,Y,Y,Y,Y,Z,Z] rfl rfl HT_ ?_
 refine cV (i:=18) (N:=none) #[Y,Y,Y,Y,Y,Y,Y,Y,Y,Y,Y,Y,Y,Y,Y,Y,Y,Y,Y,Z] rfl rfl (bX HT_.out (by kernel_rfl)) (by decide) (fun K hK=>?_)
 have hs12:w11.cell? ⟨gb378,0,none⟩=some (.int .i64 0):=cA BK378 0
 have hfs12:=bH BK378.out 0
 have hns12_0:=NB377_378.out
 have hms12_0:=NB378_377.out
 have hs13:w11.cell? ⟨gb378,1,none⟩=some (.int .i64 0):=cA BK378 1
 have hfs13:=bH BK378.out 1
 have hns13_0:=NB377_378.out
 have hms13_0:=NB378_377.out
 have hs14:w11.cell? ⟨gb378,2,none⟩=some (.int .i64 0):=cA BK378 2
 have hfs14:=bH BK378.out 2
 have hns14_0:=NB377_378.out
 have hms14_0:=NB378_377.out
 refine skip_ (w1:=?_) (by rfl) rfl ?_ ?_
 rotate_left
 ·
  go_simp
  rfl
 refine hK.out _ _ ⟨cfA hHeld.1,cfA hHeld.2.1,cfA hHeld.2.2⟩ (fun hHeld=>?_)
 clear hK K
 refine puA (i:=19) (N:=some 7) #[Y,Y,Y,Y,Y,Y,Y,Y,Y,Y,Y,Y,Y,Y,Y,Y,Y,Y,Y,Y] rfl rfl HT_ ?_
 refine cg (br HT_.out (by kernel_rfl)) ?_
 try go_wp2
 refine bodyPost_ret (bZ rfl _ _ gb378 43 #[.int .i64 t381,.int .i64 t382,.int .i64 t383] (0,0) _ rfl (bpA BK378) Tryz.underlying43 rfl (by kernel_rfl)) rfl ?_
 exact cE blA
def dC.f (k:Nat) (a0 a1 a2:Int):Option (Int):=(cf.f a0 a2).bind fun t449=>((cf.f a1 a2).bind fun t450=>((bits_Mul64.f (IntKind.u64.wrap (t449)) (IntKind.u64.wrap (t450))).bind fun bt451=>(if (IntKind.u64.wrap (a2))=0 then (none) else ((aX.f k (Int.tmod bt451.1 (IntKind.u64.wrap (a2))) bt451.2 (IntKind.u64.wrap (a2))).bind fun bt453=>(some (wrap64 (bt453.2)))))))
set_option maxHeartbeats 8000000 in
set_option maxRecDepth 100000 in
theorem dC.calls (k:Nat) (a0 a1 a2 r:Int) (w:World) (h:dC.f k a0 a1 a2=some r) :
  Calls Tryz.prog 114 #[.int .i64 a0,.int .i64 a1,.int .i64 a2] w fun e w'=>e=.returned (.int .i64 r)∧aI w w':=by
 have H:=h
 unfold dC.f at H
 clear h
 replace H:=bS H
 obtain ⟨t449,A4,H⟩:=H
 try dsimp only at H
 replace H:=bS H
 obtain ⟨t450,A5,H⟩:=H
 try dsimp only at H
 replace H:=bS H
 obtain ⟨⟨t451,t452⟩,A6,H⟩:=H
 try dsimp only at H
 by_cases c7:(IntKind.u64.wrap (a2))=0
 ·
  rw [if_pos c7] at H
  exact absurd H (by simp)
 rw [if_neg c7] at H
 have c7b0:((IntKind.u64.wrap (a2)) == 0)=false:=beq_eq_false_iff_ne.mpr c7
 have c7b1:((IntKind.u64.wrap (a2)) != 0)=true:=bne_iff_ne.mpr c7
 replace H:=bS H
 obtain ⟨⟨t453,t454⟩,A8,H⟩:=H
 try dsimp only at H
 obtain rfl:=Option.some.inj H
 go_enter Tryz.func114,Tryz.ntmps114
 go_wp2_with (first|((with_reducible refine gd 14 rfl ?_);refine gC (some 14) rfl Tryz.func130 (cf.calls (w:=_) (h:=A4.out)) ?_;rintro _ ⟨nd,rfl⟩)|((with_reducible refine gd 18 rfl ?_);refine gC (some 18) rfl Tryz.func130 (cf.calls (w:=_) (h:=A5.out)) ?_;rintro _ ⟨nd,rfl⟩)|((with_reducible refine gd 20 rfl ?_);refine gC (some 20) rfl Tryz.func129 (bits_Mul64.calls (w:=_) (h:=A6.out)) ?_;rintro _ ⟨nd,rfl⟩)|((with_reducible refine gd 31 rfl ?_);refine gC (some 31) rfl Tryz.func131 (aX.calls (w:=_) (h:=A8.out)) ?_;rintro _ ⟨nd,rfl⟩))
 go_ret
 exact ⟨by first|rfl|(simp;done)|(simp [*];done),by repeat (first|exact aI.refl _|apply aI.step)⟩
def ah.l0:Nat→List Int→List Int→List Int→Int→Int→Option (Int)
 | 0,_,_,_,_,_=>none
 | k+1,x0,x1,x9,x10,x11=>if x11<x10 then (if 0≤x11 then (if x11<(x9.length:Int) then (if x11≥(x1.length:Int) then (some 1) else (if x11<(x1.length:Int) then ((cF.f (rd x9 x11) (rd x1 x11)).bind fun t548=>(if t548=0 then (ah.l0 k x0 x1 x9 x10 (wrap64 (x11+1))) else (some t548))) else (none))) else (none)) else (none)) else (if (x0.length:Int)<(x1.length:Int) then (some (-1)) else (some 0))
def ah.f (k:Nat) (l0 l1:List Int):Option (Int):=ah.l0 k l0 l1 l0 (l0.length:Int) 0
set_option maxHeartbeats 8000000 in
set_option maxRecDepth 100000 in
theorem ah.calls (k:Nat) (A0:Option Addr) (c0:Nat) (l0:List Int) (A1:Option Addr) (c1:Nat) (l1:List Int) (r:Int) (w:World) (hr0:Kd.C (Kd.int .i64) w A0 l0.length l0) (hc0:l0.length≤c0) (hr1:Kd.C (Kd.int .i64) w A1 l1.length l1) (hc1:l1.length≤c1) (h:ah.f k l0 l1=some r) :
  Calls Tryz.prog 37 #[.slice A0 l0.length c0,.slice A1 l1.length c1] w fun e w'=>e=.returned (.int .i64 r)∧aI w w':=by
 have HR0:=aA.mk hr0
 have HC0:=aA.mk hc0
 clear hr0 hc0
 have HR1:=aA.mk hr1
 have HC1:=aA.mk hc1
 clear hr1 hc1
 have H:=h
 unfold ah.f at H
 clear h
 have H':=aA.mk H
 clear H
 go_enter Tryz.func37,Tryz.ntmps37
 go_wp2
 go_loopg [11] k (fun kq v11 w'=>∃ (x11_1:Int),v11=.int .i64 x11_1∧aA (ah.l0 kq l0 l1 l0 (l0.length:Int) x11_1=some r)∧aA (kq≤k)∧aI w w')
 case atStart=>exact ⟨(0),hB,H',⟨Nat.le_refl _⟩,by repeat (first|exact aI.refl _|apply aI.step)⟩
 case round=>
  clear H'
  try clear c1
  obtain ⟨x11_1,rfl,HA,HK1,⟨m1,rfl⟩⟩:=hrel
  cases gk with
  | zero=>exact absurd HA.out (by simp [ah.l0])
  | succ k1=>
   have H:=HA.out
   clear HA
   simp only [ah.l0] at H
   by_cases c3:x11_1<(l0.length:Int)
   ·
    rw [if_pos c3] at H
    have c3b0:=decide_eq_true c3
    clear c3
    by_cases c4:0≤x11_1
    rotate_left
    ·
     rw [if_neg c4] at H
     exact absurd H (by simp)
    rw [if_pos c4] at H
    have c4b0:=decide_eq_true c4
    clear c4
    by_cases c5:x11_1<(l0.length:Int)
    rotate_left
    ·
     rw [if_neg c5] at H
     exact absurd H (by simp)
    rw [if_pos c5] at H
    have c5b0:=decide_eq_true c5
    clear c5
    by_cases c6:x11_1≥(l1.length:Int)
    ·
     rw [if_pos c6] at H
     have c6b0:decide ((l1.length:Int)≤x11_1)=true:=decide_eq_true c6
     clear c6
     obtain rfl:=Option.some.inj H
     have p546:0≤(x11_1:Int):=dA
     have q546:x11_1<(l0.length:Int):=dA
     obtain ⟨ad546,e546,hx546_0⟩:=Kd.at_int HR0.out x11_1 p546 q546
     cases e546
     replace p546:=eq_true p546
     replace q546:=eq_true q546
     go_wp2
     go_ret
     exact ⟨by first|rfl|(simp;done)|(simp [*];done),by repeat (first|exact aI.refl _|apply aI.step)⟩
    ·
     rw [if_neg c6] at H
     have c6b0:decide ((l1.length:Int)≤x11_1)=false:=decide_eq_false c6
     clear c6
     by_cases c7:x11_1<(l1.length:Int)
     rotate_left
     ·
      rw [if_neg c7] at H
      exact absurd H (by simp)
     rw [if_pos c7] at H
     have c7b0:=decide_eq_true c7
     clear c7
     replace H:=bS H
     obtain ⟨t548,A8,H⟩:=H
     try dsimp only at H
     by_cases c9:t548=0
     focus
      rw [if_pos c9] at H
      have c9b0:(t548 == 0)=true:=beq_iff_eq.mpr c9
      have c9b1:(t548 != 0)=false:=bne_eq_false_iff_eq.mpr c9
      clear c9
      have H':=aA.mk H
      clear H
      have p546:0≤(x11_1:Int):=dA
      have q546:x11_1<(l0.length:Int):=dA
      obtain ⟨ad546,e546,hx546_0⟩:=Kd.at_int HR0.out x11_1 p546 q546
      cases e546
      replace p546:=eq_true p546
      replace q546:=eq_true q546
      have p547:0≤(x11_1:Int):=dA
      have q547:x11_1<(l1.length:Int):=dA
      obtain ⟨ad547,e547,hx547_0⟩:=Kd.at_int HR1.out x11_1 p547 q547
      cases e547
      replace p547:=eq_true p547
      replace q547:=eq_true q547
     rotate_left
     focus
      rw [if_neg c9] at H
      have c9b0:(t548 == 0)=false:=beq_eq_false_iff_ne.mpr c9
      have c9b1:(t548 != 0)=true:=bne_iff_ne.mpr c9
      obtain rfl:=Option.some.inj H
      have p546:0≤(x11_1:Int):=dA
      have q546:x11_1<(l0.length:Int):=dA
      obtain ⟨ad546,e546,hx546_0⟩:=Kd.at_int HR0.out x11_1 p546 q546
      cases e546
      replace p546:=eq_true p546
      replace q546:=eq_true q546
      have p547:0≤(x11_1:Int):=dA
      have q547:x11_1<(l1.length:Int):=dA
      obtain ⟨ad547,e547,hx547_0⟩:=Kd.at_int HR1.out x11_1 p547 q547
      cases e547
      replace p547:=eq_true p547
      replace q547:=eq_true q547
     rotate_left
     all_goals
      go_wp2_with (first|((with_reducible refine gd 26 rfl ?_);refine gC (some 26) rfl Tryz.func77 (cF.calls (w:=_) (h:=A8.out)) ?_;rintro _ ⟨nd,rfl⟩))
     ·
      go_roundg k1
      case measure=>have:=HK1.out;omega
      case rel=>exact ⟨(wrap64 (x11_1+1)),hB,H',⟨by have:=HK1.out;omega⟩,by repeat (first|exact aI.refl _|apply aI.step)⟩
     ·
      go_ret
      exact ⟨by first|rfl|(simp;done)|(simp [*];done),by repeat (first|exact aI.refl _|apply aI.step)⟩
   ·
    rw [if_neg c3] at H
    have c3b0:=decide_eq_false c3
    clear c3
    by_cases c10:(l0.length:Int)<(l1.length:Int)
    ·
     rw [if_pos c10] at H
     have c10b0:=decide_eq_true c10
     have c10b1:decide (l0.length<l1.length)=true:=decide_eq_true (Int.ofNat_lt.mp c10)
     clear c10
     obtain rfl:=Option.some.inj H
     go_wp2
     go_ret
     exact ⟨by first|rfl|(simp;done)|(simp [*];done),by repeat (first|exact aI.refl _|apply aI.step)⟩
    ·
     rw [if_neg c10] at H
     have c10b0:=decide_eq_false c10
     have c10b1:decide (l0.length<l1.length)=false:=decide_eq_false (fun h=>c10 (Int.ofNat_lt.mpr h))
     clear c10
     obtain rfl:=Option.some.inj H
     go_wp2
     go_ret
     exact ⟨by first|rfl|(simp;done)|(simp [*];done),by repeat (first|exact aI.refl _|apply aI.step)⟩
def am.l0:Nat→List (S59)→List (S59)→Int→Option (Bool)
 | 0,_,_,_=>none
 | k+1,x0,x1,x5=>if x5<(x0.length:Int) then (if 0≤x5 then (if x5<(x1.length:Int) then ((dN.f ((ai x0 x5).f0.f0) ((ai x0 x5).f0.f1) ((ai x0 x5).f1.f0) ((ai x0 x5).f1.f1) ((ai x1 x5).f0.f0) ((ai x1 x5).f0.f1) ((ai x1 x5).f1.f0) ((ai x1 x5).f1.f1)).bind fun t586=>(if t586=true then (am.l0 k x0 x1 (wrap64 (x5+1))) else (some false))) else (none)) else (none)) else (some true)
def am.f (k:Nat) (l0:List (S59)) (l1:List (S59)):Option (Bool):=if (l0.length:Int)=(l1.length:Int) then (am.l0 k l0 l1 0) else (some false)
def am.T6:Bool × List (List Nat × List Nat):=(true,[([],[]),([],[]),([0,1],[0,1]),([2],[2]),([],[]),([],[]),([4,5],[4,5]),([6],[6]),([3,7],[3,7]),([8],[8])])
def am.B6:List Nat:=[0,0,3,7,0,0,48,112,255,511]
theorem am.tab6:cZ .any (dL Tryz.f10 6)=am.T6:=by kernel_rfl
theorem am.bits6:bq am.T6.2 am.B6=true:=by kernel_rfl
set_option maxHeartbeats 8000000 in
set_option maxRecDepth 100000 in
theorem am.calls (k:Nat) (A0:Option Addr) (c0:Nat) (l0:List (S59)) (A1:Option Addr) (c1:Nat) (l1:List (S59)) (r:Bool) (w:World) (hr0:Kd.C k59 w A0 l0.length l0) (hc0:l0.length≤c0) (hr1:Kd.C k59 w A1 l1.length l1) (hc1:l1.length≤c1) (h:am.f k l0 l1=some r) :
  Calls Tryz.prog 10 #[.slice A0 l0.length c0,.slice A1 l1.length c1] w fun e w'=>e=.returned (.bool r)∧Below w.heap.size w w':=by
 have hu59:=Tryz.underlying59
 have HR0:=aA.mk hr0
 have HC0:=aA.mk hc0
 clear hr0 hc0
 have HR1:=aA.mk hr1
 have HC1:=aA.mk hc1
 clear hr1 hc1
 have HB:=aA.mk (Below.refl w.heap.size w)
 have H:=h
 unfold am.f at H
 clear h
 by_cases c3:(l0.length:Int)=(l1.length:Int)
 ·
  rw [if_pos c3] at H
  have c3b0:((l0.length:Int) == (l1.length:Int))=true:=beq_iff_eq.mpr c3
  have c3b1:((l0.length:Int) != (l1.length:Int))=false:=bne_eq_false_iff_eq.mpr c3
  have c3b2:(l0.length == l1.length)=true:=by first|simpa using c3|(simp at c3 ⊢;omega)
  clear c3
  have H':=aA.mk H
  clear H
  go_enter Tryz.func10,Tryz.ntmps10
  go_wp2
  go_loopg [5] k (fun kq v5 w'=>∃ (x5_1:Int),v5=.int .i64 x5_1∧aA (am.l0 kq l0 l1 x5_1=some r)∧aA (kq≤k)∧aA (Below w.heap.size w w'))
  case atStart=>exact ⟨(0),hB,H',⟨Nat.le_refl _⟩,⟨blA⟩⟩
  case round=>
   clear H'
   try clear c1
   try clear c3
   try clear c3b0
   try clear c3b1
   try clear c3b2
   obtain ⟨x5_1,rfl,HA,HK1,HB⟩:=hrel
   cases gk with
   | zero=>exact absurd HA.out (by simp [am.l0])
   | succ k1=>
    have H:=HA.out
    clear HA
    simp only [am.l0] at H
    by_cases c4:x5_1<(l0.length:Int)
    ·
     rw [if_pos c4] at H
     have c4b0:=decide_eq_true c4
     clear c4
     by_cases c5:0≤x5_1
     rotate_left
     ·
      rw [if_neg c5] at H
      exact absurd H (by simp)
     rw [if_pos c5] at H
     have c5b0:=decide_eq_true c5
     clear c5
     by_cases c6:x5_1<(l1.length:Int)
     rotate_left
     ·
      rw [if_neg c6] at H
      exact absurd H (by simp)
     rw [if_pos c6] at H
     have c6b0:=decide_eq_true c6
     clear c6
     replace H:=bS H
     obtain ⟨t586,A7,H⟩:=H
     try dsimp only at H
     by_cases c8:t586=true
     focus
      subst c8
      rw [if_pos rfl] at H
      try dsimp only at H
      have H':=aA.mk H
      clear H
     rotate_left
     focus
      replace c8:=Bool.eq_false_iff.mpr c8
      subst c8
      rw [if_neg (show ¬ (false=true) by decide)] at H
      try dsimp only at H
      obtain rfl:=Option.some.inj H
     rotate_left
     all_goals
      try go_wp2
      have n0_:=aA.mk (al HB.out)
      clear HB
      have HB:=n0_
      clear n0_
      have p584:0≤(x5_1:Int):=dA
      have q584:x5_1<(l0.length:Int):=dA
      obtain ⟨ad584,e584,hx584_0,hx584_1,hx584_2,hx584_3⟩:=fA HR0.out x5_1 p584 q584
      have hw584_3:=hx584_3
      have hw584_2:=hx584_2
      have hw584_1:=hx584_1
      have hw584_0:=hx584_0
      cases e584
      replace hx584_0:=(HB.out.cell (World.block_lt_of_cell? w _ hx584_0)).trans hx584_0
      replace hx584_1:=(HB.out.cell (World.block_lt_of_cell? w _ hx584_1)).trans hx584_1
      replace hx584_2:=(HB.out.cell (World.block_lt_of_cell? w _ hx584_2)).trans hx584_2
      replace hx584_3:=(HB.out.cell (World.block_lt_of_cell? w _ hx584_3)).trans hx584_3
      replace p584:=eq_true p584
      replace q584:=eq_true q584
      have p585:0≤(x5_1:Int):=dA
      have q585:x5_1<(l1.length:Int):=dA
      obtain ⟨ad585,e585,hx585_0,hx585_1,hx585_2,hx585_3⟩:=fA HR1.out x5_1 p585 q585
      have hw585_3:=hx585_3
      have hw585_2:=hx585_2
      have hw585_1:=hx585_1
      have hw585_0:=hx585_0
      cases e585
      replace hx585_0:=(HB.out.cell (World.block_lt_of_cell? w _ hx585_0)).trans hx585_0
      replace hx585_1:=(HB.out.cell (World.block_lt_of_cell? w _ hx585_1)).trans hx585_1
      replace hx585_2:=(HB.out.cell (World.block_lt_of_cell? w _ hx585_2)).trans hx585_2
      replace hx585_3:=(HB.out.cell (World.block_lt_of_cell? w _ hx585_3)).trans hx585_3
      replace p585:=eq_true p585
      replace q585:=eq_true q585
      refine b7 (n:=10) (S:=fun w'=>w'.cell? (ad584.add ((x5_1).toNat*4))=some (.int .i64 ((ai l0 x5_1).f0.f0))∧w'.cell? ⟨(ad584.add ((x5_1).toNat*4)).block,(ad584.add ((x5_1).toNat*4)).off+1,none⟩=some (.int .i64 ((ai l0 x5_1).f0.f1))∧w'.cell? ⟨(ad584.add ((x5_1).toNat*4)).block,(ad584.add ((x5_1).toNat*4)).off+2,none⟩=some (.int .i64 ((ai l0 x5_1).f1.f0))∧w'.cell? ⟨(ad584.add ((x5_1).toNat*4)).block,(ad584.add ((x5_1).toNat*4)).off+3,none⟩=some (.int .i64 ((ai l0 x5_1).f1.f1))∧w'.cell? (ad585.add ((x5_1).toNat*4))=some (.int .i64 ((ai l1 x5_1).f0.f0))∧w'.cell? ⟨(ad585.add ((x5_1).toNat*4)).block,(ad585.add ((x5_1).toNat*4)).off+1,none⟩=some (.int .i64 ((ai l1 x5_1).f0.f1))∧w'.cell? ⟨(ad585.add ((x5_1).toNat*4)).block,(ad585.add ((x5_1).toNat*4)).off+2,none⟩=some (.int .i64 ((ai l1 x5_1).f1.f0))∧w'.cell? ⟨(ad585.add ((x5_1).toNat*4)).block,(ad585.add ((x5_1).toNat*4)).off+3,none⟩=some (.int .i64 ((ai l1 x5_1).f1.f1))) (ds:=[]) #[Z,Z,Z,Z,Z,Z,Z,Z,Z,Z] (by kernel_rfl) rfl rfl ⟨((HB.out.cell (World.block_lt_of_cell? w _ hw584_0)).trans hw584_0),((HB.out.cell (World.block_lt_of_cell? w _ hw584_1)).trans hw584_1),((HB.out.cell (World.block_lt_of_cell? w _ hw584_2)).trans hw584_2),((HB.out.cell (World.block_lt_of_cell? w _ hw584_3)).trans hw584_3),((HB.out.cell (World.block_lt_of_cell? w _ hw585_0)).trans hw585_0),((HB.out.cell (World.block_lt_of_cell? w _ hw585_1)).trans hw585_1),((HB.out.cell (World.block_lt_of_cell? w _ hw585_2)).trans hw585_2),((HB.out.cell (World.block_lt_of_cell? w _ hw585_3)).trans hw585_3)⟩ (fun hHeld=>?_);refine bT am.tab6 am.bits6 (fun HT_ HW_=>?_)
      generalize wr.drew=w9 at HB hx584_0 hx584_1 hx584_2 hx584_3 hx585_0 hx585_1 hx585_2 hx585_3 hHeld ⊢
      refine puA (i:=0) (N:=some 17) #[Y,Z,Z,Z,Z,Z,Z,Z,Z,Z] rfl rfl HT_ ?_
      refine puA (i:=1) (N:=some 18) #[Y,Y,Z,Z,Z,Z,Z,Z,Z,Z] rfl rfl HT_ ?_
      refine puA (i:=2) (N:=some 19) #[Y,Y,Y,Z,Z,Z,Z,Z,Z,Z] rfl rfl HT_ ?_
      refine puA (i:=4) (N:=some 21) #[Y,Y,Y,Z,Y,Z,Z,Z,Z,Z] rfl rfl HT_ ?_
      refine puA (i:=5) (N:=some 22) #[Y,Y,Y,Z,Y,Y,Z,Z,Z,Z] rfl rfl HT_ ?_
      refine puA (i:=6) (N:=some 23) #[Y,Y,Y,Z,Y,Y,Y,Z,Z,Z] rfl rfl HT_ ?_
      refine taA (i:=3) (N:=some 20) #[Y,Y,Y,Y,Y,Y,Y,Z,Z,Z] rfl rfl HT_ HW_ hHeld ?_
      refine taA (i:=7) (N:=some 24) #[Y,Y,Y,Y,Y,Y,Y,Y,Z,Z] rfl rfl HT_ HW_ hHeld ?_
      refine cV (i:=8) (N:=some 25) #[Y,Y,Y,Y,Y,Y,Y,Y,Y,Z] rfl rfl (bX HT_.out (by kernel_rfl)) (by decide) (fun K hK=>?_)
      refine goC Tryz.func41 (dN.calls (w:=_) (h:=A7.out)) ?_
      intro w10 hb
      replace HB:=lB hb
      (try clear hb)
      (try clear hb2)
      (try clear hk)
      (try clear hi)
      refine hK.out _ _ ⟨((HB.out.cell (World.block_lt_of_cell? w _ hw584_0)).trans hw584_0),((HB.out.cell (World.block_lt_of_cell? w _ hw584_1)).trans hw584_1),((HB.out.cell (World.block_lt_of_cell? w _ hw584_2)).trans hw584_2),((HB.out.cell (World.block_lt_of_cell? w _ hw584_3)).trans hw584_3),((HB.out.cell (World.block_lt_of_cell? w _ hw585_0)).trans hw585_0),((HB.out.cell (World.block_lt_of_cell? w _ hw585_1)).trans hw585_1),((HB.out.cell (World.block_lt_of_cell? w _ hw585_2)).trans hw585_2),((HB.out.cell (World.block_lt_of_cell? w _ hw585_3)).trans hw585_3)⟩ (fun hHeld=>?_)
      clear hK K
      refine nmA ?_
      refine puA (i:=9) (N:=some 26) #[Y,Y,Y,Y,Y,Y,Y,Y,Y,Y] rfl rfl HT_ ?_
      refine cg (br HT_.out (by kernel_rfl)) ?_
      try go_wp2
     ·
      go_roundg k1
      case measure=>have:=HK1.out;omega
      case rel=>exact ⟨(wrap64 (x5_1+1)),hB,H',⟨by have:=HK1.out;omega⟩,⟨blA⟩⟩
     ·
      go_ret
      exact cE blA
    ·
     rw [if_neg c4] at H
     have c4b0:=decide_eq_false c4
     clear c4
     obtain rfl:=Option.some.inj H
     go_wp2
     go_ret
     exact cE blA
 ·
  rw [if_neg c3] at H
  have c3b0:((l0.length:Int) == (l1.length:Int))=false:=beq_eq_false_iff_ne.mpr c3
  have c3b1:((l0.length:Int) != (l1.length:Int))=true:=bne_iff_ne.mpr c3
  have c3b2:(l0.length == l1.length)=false:=by first|simpa using c3|(simp at c3 ⊢;omega)
  obtain rfl:=Option.some.inj H
  go_enter Tryz.func10,Tryz.ntmps10
  go_wp2
  go_ret
  exact cE blA
def an.f (k:Nat) (a0 a1_0 a1_1 a1_2 a2_0 a2_1 a2_2:Int):Option (Int):=(dB.f k a0 a1_0 a1_1 a1_2 a2_0 a2_1 a2_2).bind fun t118=>(some (wrap64 ((wrap64 (a1_0+a2_0)) - (wrap64 (2*t118)))))
def an.T1:Bool × List (List Nat × List Nat):=(true,[([],[]),([0],[0]),([],[]),([2],[2]),([1,3],[1,3]),([],[]),([],[]),([],[]),([5,6,7],[5,6,7]),([8],[8]),([4,9],[4,9]),([10,8,0,1,2,3,4,5,6,7,8,9,10],[10])])
def an.B1:List Nat:=[0,1,0,4,15,0,0,0,224,480,1023,2047]
theorem an.tab1:cZ .any (dL Tryz.f30 1)=an.T1:=by kernel_rfl
theorem an.bits1:bq an.T1.2 an.B1=true:=by kernel_rfl
set_option maxHeartbeats 8000000 in
set_option maxRecDepth 100000 in
theorem an.calls (k:Nat) (a0 a1_0 a1_1 a1_2 a2_0 a2_1 a2_2 r:Int) (w:World) (h:an.f k a0 a1_0 a1_1 a1_2 a2_0 a2_1 a2_2=some r) :
  Calls Tryz.prog 30 #[.int .i64 a0,.agg #[.int .i64 a1_0,.int .i64 a1_1,.int .i64 a1_2],.agg #[.int .i64 a2_0,.int .i64 a2_1,.int .i64 a2_2]] w fun e w'=>e=.returned (.int .i64 r)∧Below w.heap.size w w':=by
 have hu43:=Tryz.underlying43
 have HB:=aA.mk (Below.refl w.heap.size w)
 have H:=h
 unfold an.f at H
 clear h
 replace H:=bS H
 obtain ⟨t118,A4,H⟩:=H
 try dsimp only at H
 obtain rfl:=Option.some.inj H
 go_enter Tryz.func30,Tryz.ntmps30
 try go_wp2_with (first|((with_reducible refine aN (N:=4) rfl ?_);refine bxE (cs:=#[.int .i64 a1_0,.int .i64 a1_1,.int .i64 a1_2]) (t:=43) ?_;intro gb116 hg w5 hbox hb;have n0_:=lB hb;have n1_:=aA.mk hbox;have n2_:=sA hg;have n3_:=sA hg;clear HB;have HB:=n0_;have BK116:=n1_;have GW116:=n2_;have GE116:=n3_;clear n0_ n1_ n2_ n3_;clear hb hbox hg)|((with_reducible refine aN (N:=5) rfl ?_);refine bxE (cs:=#[.int .i64 a2_0,.int .i64 a2_1,.int .i64 a2_2]) (t:=43) ?_;intro gb117 hg w6 hbox hb;have n0_:=kB BK116 hb;have n1_:=lB hb;have n2_:=aA.mk hbox;have n3_:=sA hg;have n4_:=sA hg;have n5_:=nA hg BK116;have n6_:=nB hg BK116;clear BK116;clear HB;have BK116:=n0_;have HB:=n1_;have BK117:=n2_;have GW117:=n3_;have GE117:=n4_;have NB116_117:=n5_;have NB117_116:=n6_;clear n0_ n1_ n2_ n3_ n4_ n5_ n6_;clear hb hbox hg))
 have n0_:=aA.mk (ac BK116.out)
 have n1_:=aA.mk (ac BK117.out)
 have n2_:=aA.mk (al HB.out)
 clear BK116
 clear BK117
 clear HB
 have BK116:=n0_
 have BK117:=n1_
 have HB:=n2_
 clear n0_ n1_ n2_
 refine b7 (n:=12) (S:=fun w'=>w'.cell? ⟨gb116,0,none⟩=some (.int .i64 a1_0)∧w'.cell? ⟨gb116,1,none⟩=some (.int .i64 a1_1)∧w'.cell? ⟨gb116,2,none⟩=some (.int .i64 a1_2)∧w'.cell? ⟨gb117,0,none⟩=some (.int .i64 a2_0)∧w'.cell? ⟨gb117,1,none⟩=some (.int .i64 a2_1)∧w'.cell? ⟨gb117,2,none⟩=some (.int .i64 a2_2)) (ds:=[]) #[Z,Z,Z,Z,Z,Z,Z,Z,Z,Z,Z,Z] (by kernel_rfl) rfl rfl ⟨cA BK116 0,cA BK116 1,cA BK116 2,cA BK117 0,cA BK117 1,cA BK117 2⟩ (fun hHeld=>?_);refine bT an.tab1 an.bits1 (fun HT_ HW_=>?_)
 generalize w6.drew=w7 at BK116 BK117 HB hHeld ⊢
 refine puA (i:=0) (N:=some 7) #[Y,Z,Z,Z,Z,Z,Z,Z,Z,Z,Z,Z] rfl rfl HT_ ?_
 refine puA (i:=2) (N:=some 9) #[Y,Z,Y,Z,Z,Z,Z,Z,Z,Z,Z,Z] rfl rfl HT_ ?_
 refine puA (i:=5) (N:=some 12) #[Y,Z,Y,Z,Z,Y,Z,Z,Z,Z,Z,Z] rfl rfl HT_ ?_
 refine taA (i:=1) (N:=some 8) #[Y,Y,Y,Z,Z,Y,Z,Z,Z,Z,Z,Z] rfl rfl HT_ HW_ hHeld ?_
 refine taA (i:=3) (N:=some 10) #[Y,Y,Y,Y,Z,Y,Z,Z,Z,Z,Z,Z] rfl rfl HT_ HW_ hHeld ?_
 refine puA (i:=4) (N:=some 11) #[Y,Y,Y,Y,Y,Y,Z,Z,Z,Z,Z,Z] rfl rfl HT_ ?_
 refine taA (i:=6) (N:=some 13) #[Y,Y,Y,Y,Y,Y,Y,Z,Z,Z,Z,Z] rfl rfl HT_ HW_ hHeld ?_
 refine taA (i:=7) (N:=some 14) #[Y,Y,Y,Y,Y,Y,Y,Y,Z,Z,Z,Z] rfl rfl HT_ HW_ hHeld ?_
 refine cV (i:=8) (N:=some 15) #[Y,Y,Y,Y,Y,Y,Y,Y,Y,Z,Z,Z] rfl rfl (bX HT_.out (by kernel_rfl)) (by decide) (fun K hK=>?_)
 refine goC Tryz.func68 (dB.calls (w:=_) (h:=A4.out)) ?_
 intro w8 hb
 replace BK116:=kB BK116 hb
 replace BK117:=kB BK117 hb
 replace HB:=lB hb
 (try clear hb)
 (try clear hb2)
 (try clear hk)
 (try clear hi)
 refine hK.out _ _ ⟨cA BK116 0,cA BK116 1,cA BK116 2,cA BK117 0,cA BK117 1,cA BK117 2⟩ (fun hHeld=>?_)
 clear hK K
 refine nmA ?_
 refine puA (i:=9) (N:=some 16) #[Y,Y,Y,Y,Y,Y,Y,Y,Y,Y,Z,Z] rfl rfl HT_ ?_
 refine puA (i:=10) (N:=some 17) #[Y,Y,Y,Y,Y,Y,Y,Y,Y,Y,Y,Z] rfl rfl HT_ ?_
 refine puA (i:=11) (N:=some 6) #[Y,Y,Y,Y,Y,Y,Y,Y,Y,Y,Y,Y] rfl rfl HT_ ?_
 refine cg (br HT_.out (by kernel_rfl)) ?_
 try go_wp2
 go_ret
 exact cE blA
def a7.l0:Nat→Int→List (S43)→Int→Int→Int→Int→Option ((List (S43)) × Bool)
 | 0,_,_,_,_,_,_=>none
 | k+1,x0,x6,x7,x165000,x165001,x165002=>if x7<x0 then ((cp.f k x0 x165000 x165001 x165002 x7).bind fun bt168=>(if bt168.2.2.2=true then (if x6.length<5864062014805 then (a7.l0 k x0 (x6 ++ [(⟨bt168.1,bt168.2.1,bt168.2.2.1⟩:S43)]) (wrap64 (x7+1)) x165000 x165001 x165002) else (none)) else (some (([]:List (S43)),false)))) else (some (x6,true))
def a7.f (k:Nat) (a0 a1_0 a1_1 a1_2:Int):Option ((List (S43)) × Bool):=a7.l0 k a0 (([]:List (S43))) 0 a1_0 a1_1 a1_2
set_option maxHeartbeats 8000000 in
set_option maxRecDepth 100000 in
theorem a7.calls (k:Nat) (a0 a1_0 a1_1 a1_2:Int) (r1:List (S43)) (r2:Bool) (w:World) (h:a7.f k a0 a1_0 a1_1 a1_2=some (r1,r2)) :
  Calls Tryz.prog 120 #[.int .i64 a0,.agg #[.int .i64 a1_0,.int .i64 a1_1,.int .i64 a1_2]] w fun e w'=>∃ v0_:Value,e=.returned (.tuple #[v0_,.bool r2])∧Kd.R k43 43 w' w.heap.size (fun _=>True) v0_ r1∧Below w.heap.size w w':=by
 have hu43:=Tryz.underlying43
 have HB:=aA.mk (Below.refl w.heap.size w)
 have H:=h
 unfold a7.f at H
 clear h
 obtain ⟨y165,hy165⟩:∃ y_:List (S43),y_=(([]:List (S43))):=⟨_,rfl⟩
 replace H:(a7.l0 k a0 y165 0 a1_0 a1_1 a1_2)=some (r1,r2):=rH hy165 H
 have Ny165:=aA.mk hy165
 clear hy165
 have H':=aA.mk H
 clear H
 go_enter Tryz.func120,Tryz.ntmps120
 go_wp2_with (first|((with_reducible refine aN (N:=3) rfl ?_);refine bxE (cs:=#[.int .i64 a1_0,.int .i64 a1_1,.int .i64 a1_2]) (t:=43) ?_;intro gb164 hg w3 hbox hb;have BK164:=aA.mk hbox;have GW164:=sA hg;have GE164:=sA hg;replace HB:=lB hb;clear hb hbox hg)|((with_reducible refine aN (N:=10) rfl ?_);refine Kd.R_lit k43 _ 43 ?hg (N:=10) ?hd (xs:=([]:List (S43))) (inner:=[]) (ok:=fun _=>True) (okp:=fun _=>True) ?hr ?hp (fun _ hk=>hk) trivial (Below.refl _ _) (Nat.le_refl _) (by simp) ?_;(case hd=>rfl);(case hg=>rfl);(case hr=>first|(go_simp;done)|(go_simp;rfl));(case hp=>exact (bD.none _ _));intro v166 w4 ho5 hb hg_ hnew_;clear hg_ hnew_;(first|rw [← Ny165.out] at ho5|(simp only [Int.reduceToNat] at ho5;rw [← Ny165.out] at ho5));have HO167:=aA.mk (Kd.R_lower (Kd.R_newB ho5 (bkA BK164)) (aQ blA));replace BK164:=kB BK164 hb;replace HB:=lB hb;clear hb ho5))
 go_loopg [6,7] k (fun kq v6 v7 w'=>∃ (x6_1:List (S43)) (x7_1:Int),v7=.int .i64 x7_1∧aA (a7.l0 kq a0 x6_1 x7_1 a1_0 a1_1 a1_2=some (r1,r2))∧aA (kq≤k)∧aA (Kd.R k43 43 w' w.heap.size (fun k_=>k_≠gb164) v6 x6_1)∧aA (w'.heap[gb164]?=some (.cells #[.int .i64 a1_0,.int .i64 a1_1,.int .i64 a1_2] 43 (0,0)))∧aA (Below w.heap.size w w'))
 case atStart=>exact ⟨(y165),(0),hB,H',⟨Nat.le_refl _⟩,⟨by (with_reducible repeat (first|apply Kd.R_alloc|apply Kd.R_drewN|apply Kd.R_drew));exact Kd.R_mono HO167.out (fun _ hk=>hk.2)⟩,⟨bkA BK164⟩,⟨blA⟩⟩
 case round=>
  clear H'
  obtain ⟨x6_1,x7_1,rfl,HA,HK1,HO_6,BK164,HB⟩:=hrel
  cases gk with
  | zero=>exact absurd HA.out (by simp [a7.l0])
  | succ k1=>
   have H:=HA.out
   clear HA
   simp only [a7.l0] at H
   by_cases c6:x7_1<a0
   ·
    rw [if_pos c6] at H
    have c6b0:=decide_eq_true c6
    clear c6
    replace H:=bS H
    obtain ⟨⟨t168,t169,t170,t171⟩,A7,H⟩:=H
    try dsimp only at H
    by_cases c8:t171=true
    focus
     subst c8
     rw [if_pos rfl] at H
     try dsimp only at H
     by_cases c9:x6_1.length<5864062014805
     rotate_left
     ·
      rw [if_neg c9] at H
      exact absurd H (by simp)
     rw [if_pos c9] at H
     have LMc9:=aA.mk c9
     clear c9
     obtain ⟨y173,hy173⟩:∃ y_:List (S43),y_=(x6_1 ++ [(⟨t168,t169,t170⟩:S43)]):=⟨_,rfl⟩
     replace H:(a7.l0 k1 a0 y173 (wrap64 (x7_1+1)) a1_0 a1_1 a1_2)=some (r1,r2):=rH hy173 H
     have Ny173:=aA.mk hy173
     clear hy173
     have H':=aA.mk H
     clear H
     obtain ⟨hcz10_0,hcz10_1,hcz10_2,hfz10_0,hfz10_1,hfz10_2⟩:=cz3 BK164
    rotate_left
    focus
     replace c8:=Bool.eq_false_iff.mpr c8
     subst c8
     rw [if_neg (show ¬ (false=true) by decide)] at H
     try dsimp only at H
     simp only [Option.some.injEq,Prod.mk.injEq] at H
     obtain ⟨rfl,rfl⟩:=H
     obtain ⟨hcz16_0,hcz16_1,hcz16_2,hfz16_0,hfz16_1,hfz16_2⟩:=cz3 BK164
    rotate_left
    all_goals
     go_wp2_with (first|((with_reducible refine gd 20 rfl ?_);refine gC (some 20) rfl Tryz.func132 (cp.calls (w:=_) (h:=A7.out)) ?_;intro w11 hb;replace HO_6:=aA.mk (Kd.R_below (rA HO_6) hb);replace BK164:=kB BK164 hb;replace HB:=lB hb;clear hb)|((with_reducible refine aN (N:=8) rfl ?_);refine bxE (cs:=#[.int .i64 0,.int .i64 0,.int .i64 0]) (t:=43) ?_;intro gb172 hg w12 hbox hb;have BK172:=aA.mk hbox;have GW172:=sA hg;have GE172:=sA hg;have NB164_172:=nA hg BK164;have NB172_164:=nB hg BK164;replace HO_6:=aA.mk (Kd.R_below (Kd.R_elderB (rA HO_6) gb172 (Nat.le_of_eq hg.symm)) hb);replace BK164:=kB BK164 hb;replace HB:=lB hb;clear hb hbox hg;have hnb13:=NB172_164.out;have hnc13:=NB164_172.out;obtain ⟨hcz14_0,hcz14_1,hcz14_2,hfz14_0,hfz14_1,hfz14_2⟩:=cz3 BK172)|((with_reducible refine bY (b:=.append) (xs:=#[.tmp 25,.tmp 27]) rfl ?_);at_builtin;refine Kd.R_append k43 (w0:=w) w.heap.size rfl (.tmp 25) (.tmp 27) 38 43 (.agg #[(.int .i64 0),(.int .i64 0),(.int .i64 0)]) 24 rfl Tryz.underlying38 eE rfl (by decide) (by omega) u6 x6_1 (⟨t168,t169,t170⟩:S43) [.int .i64 t168,.int .i64 t169,.int .i64 t170] (fun k_=>k_≠gb164∧k_≠gb172) (fun _=>False) rfl (by first|(go_simp;done)|(go_simp;rfl)) ?aP (fun _ hk=>hk.elim) ?aF ?aO ?aB ?aS ?aL ?_;(case aP=>exact de _ _ _ (⟨t168,t169,t170⟩:S43));(case aB=>exact blA);(case aF=>exact (fun k_ hk=>⟨Kd.freshB (g:=gb164) (o:=.cells #[.int .i64 a1_0,.int .i64 a1_1,.int .i64 a1_2] 43 (0,0)) (bkF BK164) k_ hk,Kd.freshB (g:=gb172) (o:=.cells #[.int .i64 t168,.int .i64 t169,.int .i64 t170] 43 (0,0)) (bpA BK172) k_ hk⟩));(case aO=>exact (by (with_reducible repeat (first|apply Kd.R_alloc|apply Kd.R_drewN|apply Kd.R_drew));exact Kd.R_mono (Kd.R_far (p:=⟨gb172,2,none⟩) (Kd.R_far (p:=⟨gb172,1,none⟩) (Kd.R_far (p:=⟨gb172,0,none⟩) (Kd.R_mono HO_6.out (fun k_ hk=>(⟨hk,hk.2⟩:_∧k_≠gb172))) (fun _ hk=>hk.2) (.int .i64 t168)) (fun _ hk=>hk.2) (.int .i64 t169)) (fun _ hk=>hk.2) (.int .i64 t170)) (fun _ hk=>⟨hk.1.1,hk.1.2⟩)));(case aS=>exact (aQ blA));(case aL=>have:=LMc9.out;omega);intro v174 w15 ho hb hg hat;rw [← Ny173.out] at ho;have n0_:=aA.mk (bu (g:=gb164) (o:=.cells #[.int .i64 a1_0,.int .i64 a1_1,.int .i64 a1_2] 43 (0,0)) (bkF BK164) hg (Kd.R_away HO_6.out (fun _ hk=>hk.1)));have n1_:=aA.mk (bu (g:=gb172) (o:=.cells #[.int .i64 t168,.int .i64 t169,.int .i64 t170] 43 (0,0)) (bpA BK172) hg (Kd.R_away HO_6.out (fun _ hk=>hk.2)));have n2_:=aA.mk hb;have n3_:=aA.mk ho;clear BK164;clear BK172;clear HB;clear HO_6;have BK164:=n0_;have BK172:=n1_;have HB:=n2_;have HO175:=n3_;clear n0_ n1_ n2_ n3_;clear ho hb hg hat))
    ·
     go_roundg k1
     case measure=>have:=HK1.out;omega
     case rel=>exact ⟨(y173),(wrap64 (x7_1+1)),hB,H',⟨by have:=HK1.out;omega⟩,⟨by (with_reducible repeat (first|apply Kd.R_alloc|apply Kd.R_drewN|apply Kd.R_drew));exact Kd.R_mono HO175.out (fun _ hk=>hk.1)⟩,⟨bkA BK164⟩,⟨blA⟩⟩
    ·
     go_ret2
     exact ⟨_,eW,nlA,blA⟩
   ·
    rw [if_neg c6] at H
    have c6b0:=decide_eq_false c6
    clear c6
    simp only [Option.some.injEq,Prod.mk.injEq] at H
    obtain ⟨rfl,rfl⟩:=H
    go_wp2
    go_ret2
    exact ⟨_,eW,by (with_reducible repeat (first|apply Kd.R_alloc|apply Kd.R_drewN|apply Kd.R_drew));exact Kd.R_mono HO_6.out (fun _ hk=>trivial),blA⟩
end Go.Proofs.YtnhiehpbkimaeaaGreat.PAll
