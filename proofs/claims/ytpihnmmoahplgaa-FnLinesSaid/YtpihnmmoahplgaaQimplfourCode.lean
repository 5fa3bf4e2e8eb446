import Derived.Test.YtpihnmmoahplgaaQx
import Derived.Test.YtpihnmmoahplgaaQimpljoinLevel
import Derived.Test.YtpihnmmoahplgaaQimplnearness
import Derived.Test.YtpihnmmoahplgaaQimpltimes
import Derived.Test.YtpihnmmoahplgaaQspecDrawBallsOfLine
import Derived.Test.YtpihnmmoahplgaaQspecl01EndOf
import Derived.Test.YtpihnmmoahplgaaQspecl05Code
import Derived.Test.YtpihnmmoahplgaaQspecl05Small
namespace Go.Proofs.Ytpihnmmoahplgaa.PAll
open Go.RowKit Go.Proofs.YtpihnmmoahplgaaW.PrintWords Go.Proofs.YtpihnmmoahplgaaW.PrintLast Go.Proofs.YtpihnmmoahplgaaW.PrintMore
attribute [local go_sem] Go.Proofs.Ytpihnmmoahplgaa.Aux.setCell_drewN Go.Proofs.Ytpihnmmoahplgaa.Aux.isSome_setCell Go.Proofs.Ytpihnmmoahplgaa.Aux.max_eight bq bo cG cF ba bZ bp bm
set_option linter.unusedVariables false
set_option linter.unusedSimpArgs false
def cT.f (k:Nat) (a0 a1_0 a1_1 a1_2 a2_0 a2_1:Int):Option (Bool):=if a2_1=0 then (some false) else ((bl.f k a0 a1_0 a1_1 a1_2 a2_0 a2_1).bind fun t366=>(some (decide (t366≥a1_0))))
def cT.T1:Bool × List (List Nat × List Nat):=(true,[([],[]),([0],[0]),([1],[1]),([2],[2]),([3],[3]),([3],[3]),([3],[3]),([6,3],[3,6]),([3],[3]),([8,3],[3,8]),([4,5,7,9,3,3],[3,4,5,7,9]),([3],[3]),([11,3],[3,11]),([10,12,3],[3,10,12]),([3,13],[3,13]),([14,10,0,1,2,3,4,5,6,7,8,9,10,11,12,13,14],[14])])
def cT.B1:List Nat:=[0,1,3,7,15,15,15,79,15,271,1023,15,2063,8191,16383,32767]
theorem cT.tab1:ck .any (dC Try.f82 1)=cT.T1:=by kernel_rfl
theorem cT.bits1:br cT.T1.2 cT.B1=true:=by kernel_rfl
set_option maxHeartbeats 8000000 in
set_option maxRecDepth 100000 in
theorem cT.calls (k:Nat) (a0 a1_0 a1_1 a1_2 a2_0 a2_1:Int) (r:Bool) (w:World) (h:cT.f k a0 a1_0 a1_1 a1_2 a2_0 a2_1=some r) :
  Calls Try.prog 82 #[.int .i64 a0,.agg #[.int .i64 a1_0,.int .i64 a1_1,.int .i64 a1_2],.agg #[.int .i64 a2_0,.int .i64 a2_1]] w fun e w'=>e=.returned (.bool r)∧Below w.heap.size w w':=by
 have hu25:=Try.underlying25
 have hu28:=Try.underlying28
 have HB:=aA.mk (Below.refl w.heap.size w)
 have H:=h
 unfold cT.f at H
 clear h
 by_cases c4:a2_1=0
 focus
  rw [if_pos c4] at H
  have c4b0:(a2_1 == 0)=true:=beq_iff_eq.mpr c4
  have c4b1:(a2_1 != 0)=false:=bne_eq_false_iff_eq.mpr c4
  clear c4
  obtain rfl:=Option.some.inj H
 rotate_left
 focus
  rw [if_neg c4] at H
  have c4b0:(a2_1 == 0)=false:=beq_eq_false_iff_ne.mpr c4
  have c4b1:(a2_1 != 0)=true:=bne_iff_ne.mpr c4
  replace H:=bS H
  obtain ⟨t366,A8,H⟩:=H
  try dsimp only at H
  obtain rfl:=Option.some.inj H
 rotate_left
 all_goals
  go_enter Try.func82,Try.ntmps82
  try go_wp2_with (first|((with_reducible refine aH (N:=4) rfl ?_);refine bxE (cs:=#[.int .i64 a1_0,.int .i64 a1_1,.int .i64 a1_2]) (t:=25) ?_;intro gb364 hg w5 hbox hb;have BK364:=aA.mk hbox;have GW364:=sA hg;have GE364:=sA hg;replace HB:=lB hb;clear hb hbox hg)|((with_reducible refine aH (N:=5) rfl ?_);refine bxE (cs:=#[.int .i64 a2_0,.int .i64 a2_1]) (t:=28) ?_;intro gb365 hg w6 hbox hb;have LT364_365:=nL hg BK364;have BK365:=aA.mk hbox;have GW365:=sA hg;have GE365:=sA hg;replace BK364:=kB BK364 hb;replace HB:=lB hb;clear hb hbox hg))
  have n0_:=aA.mk (aK BK364.out)
  have n1_:=aA.mk (aK BK365.out)
  have n2_:=aA.mk (aV HB.out)
  clear BK364
  clear BK365
  clear HB
  have BK364:=n0_
  have BK365:=n1_
  have HB:=n2_
  clear n0_ n1_ n2_
 ·
  refine bf (n:=16) (S:=fun w'=>w'.cell? ⟨gb365,0,none⟩=some (.int .i64 a2_0)∧w'.cell? ⟨gb365,1,none⟩=some (.int .i64 a2_1)) (ds:=[]) #[Z,Z,Z,Z,Z,Z,Z,Z,Z,Z,Z,Z,Z,Z,Z,Z] (by kernel_rfl) rfl rfl ⟨cA BK365 0,cA BK365 1⟩ (fun hHeld=>?_);refine bH cT.tab1 cT.bits1 (fun HT_ HW_=>?_)
  generalize w6.drew=w7 at BK364 BK365 HB hHeld ⊢
  refine puA (i:=0) (N:=some 7) #[Y,Z,Z,Z,Z,Z,Z,Z,Z,Z,Z,Z,Z,Z,Z,Z] rfl rfl HT_ ?_
  refine taA (i:=1) (N:=some 8) #[Y,Y,Z,Z,Z,Z,Z,Z,Z,Z,Z,Z,Z,Z,Z,Z] rfl rfl HT_ HW_ hHeld ?_
  refine puA (i:=2) (N:=some 9) #[Y,Y,Y,Z,Z,Z,Z,Z,Z,Z,Z,Z,Z,Z,Z,Z] rfl rfl HT_ ?_
  refine puA (i:=3) (N:=some 10) #[Y,Y,Y,Y,Z,Z,Z,Z,Z,Z,Z,Z,Z,Z,Z,Z] rfl rfl HT_ ?_
  refine puU (i:=4) (N:=some 11) #[Y,Y,Y,Y,Y,Z,Z,Z,Z,Z,Z,Z,Z,Z,Z,Z] rfl rfl HT_ ?_
  refine puU (i:=5) (N:=some 12) #[Y,Y,Y,Y,Y,Y,Z,Z,Z,Z,Z,Z,Z,Z,Z,Z] rfl rfl HT_ ?_
  refine puU (i:=6) (N:=some 13) #[Y,Y,Y,Y,Y,Y,Y,Z,Z,Z,Z,Z,Z,Z,Z,Z] rfl rfl HT_ ?_
  refine puU (i:=7) (N:=some 14) #[Y,Y,Y,Y,Y,Y,Y,Y,Z,Z,Z,Z,Z,Z,Z,Z] rfl rfl HT_ ?_
  refine puU (i:=8) (N:=some 15) #[Y,Y,Y,Y,Y,Y,Y,Y,Y,Z,Z,Z,Z,Z,Z,Z] rfl rfl HT_ ?_
  refine puU (i:=9) (N:=some 16) #[Y,Y,Y,Y,Y,Y,Y,Y,Y,Y,Z,Z,Z,Z,Z,Z] rfl rfl HT_ ?_
  refine puU (i:=10) (N:=some 17) #[Y,Y,Y,Y,Y,Y,Y,Y,Y,Y,Y,Z,Z,Z,Z,Z] rfl rfl HT_ ?_
  refine puU (i:=11) (N:=some 18) #[Y,Y,Y,Y,Y,Y,Y,Y,Y,Y,Y,Y,Z,Z,Z,Z] rfl rfl HT_ ?_
  refine puU (i:=12) (N:=some 19) #[Y,Y,Y,Y,Y,Y,Y,Y,Y,Y,Y,Y,Y,Z,Z,Z] rfl rfl HT_ ?_
  refine puU (i:=13) (N:=some 20) #[Y,Y,Y,Y,Y,Y,Y,Y,Y,Y,Y,Y,Y,Y,Z,Z] rfl rfl HT_ ?_
  refine puA (i:=14) (N:=some 21) #[Y,Y,Y,Y,Y,Y,Y,Y,Y,Y,Y,Y,Y,Y,Y,Z] rfl rfl HT_ ?_
  refine puA (i:=15) (N:=some 6) #[Y,Y,Y,Y,Y,Y,Y,Y,Y,Y,Y,Y,Y,Y,Y,Y] rfl rfl HT_ ?_
  refine cL (bX HT_.out (by kernel_rfl)) ?_
  try go_wp2
  go_ret
  exact bU blA
 ·
  refine bf (n:=16) (S:=fun w'=>w'.cell? ⟨gb365,0,none⟩=some (.int .i64 a2_0)∧w'.cell? ⟨gb365,1,none⟩=some (.int .i64 a2_1)∧w'.cell? ⟨gb364,0,none⟩=some (.int .i64 a1_0)∧w'.cell? ⟨gb364,1,none⟩=some (.int .i64 a1_1)∧w'.cell? ⟨gb364,2,none⟩=some (.int .i64 a1_2)) (ds:=[]) #[Z,Z,Z,Z,Z,Z,Z,Z,Z,Z,Z,Z,Z,Z,Z,Z] (by kernel_rfl) rfl rfl ⟨cA BK365 0,cA BK365 1,cA BK364 0,cA BK364 1,cA BK364 2⟩ (fun hHeld=>?_);refine bH cT.tab1 cT.bits1 (fun HT_ HW_=>?_)
  generalize w6.drew=w11 at BK364 BK365 HB hHeld ⊢
  refine puA (i:=0) (N:=some 7) #[Y,Z,Z,Z,Z,Z,Z,Z,Z,Z,Z,Z,Z,Z,Z,Z] rfl rfl HT_ ?_
  refine taA (i:=1) (N:=some 8) #[Y,Y,Z,Z,Z,Z,Z,Z,Z,Z,Z,Z,Z,Z,Z,Z] rfl rfl HT_ HW_ hHeld ?_
  refine puA (i:=2) (N:=some 9) #[Y,Y,Y,Z,Z,Z,Z,Z,Z,Z,Z,Z,Z,Z,Z,Z] rfl rfl HT_ ?_
  refine puA (i:=3) (N:=some 10) #[Y,Y,Y,Y,Z,Z,Z,Z,Z,Z,Z,Z,Z,Z,Z,Z] rfl rfl HT_ ?_
  refine puA (i:=4) (N:=some 11) #[Y,Y,Y,Y,Y,Z,Z,Z,Z,Z,Z,Z,Z,Z,Z,Z] rfl rfl HT_ ?_
  refine puA (i:=6) (N:=some 13) #[Y,Y,Y,Y,Y,Z,Y,Z,Z,Z,Z,Z,Z,Z,Z,Z] rfl rfl HT_ ?_
  refine puA (i:=8) (N:=some 15) #[Y,Y,Y,Y,Y,Z,Y,Z,Y,Z,Z,Z,Z,Z,Z,Z] rfl rfl HT_ ?_
  refine puA (i:=11) (N:=some 18) #[Y,Y,Y,Y,Y,Z,Y,Z,Y,Z,Z,Y,Z,Z,Z,Z] rfl rfl HT_ ?_
  refine taA (i:=5) (N:=some 12) #[Y,Y,Y,Y,Y,Y,Y,Z,Y,Z,Z,Y,Z,Z,Z,Z] rfl rfl HT_ HW_ hHeld ?_
  refine taA (i:=7) (N:=some 14) #[Y,Y,Y,Y,Y,Y,Y,Y,Y,Z,Z,Y,Z,Z,Z,Z] rfl rfl HT_ HW_ hHeld ?_
  refine taA (i:=9) (N:=some 16) #[Y,Y,Y,Y,Y,Y,Y,Y,Y,Y,Z,Y,Z,Z,Z,Z] rfl rfl HT_ HW_ hHeld ?_
  refine taA (i:=12) (N:=some 19) #[Y,Y,Y,Y,Y,Y,Y,Y,Y,Y,Z,Y,Y,Z,Z,Z] rfl rfl HT_ HW_ hHeld ?_
  refine bg (i:=10) (N:=some 17) #[Y,Y,Y,Y,Y,Y,Y,Y,Y,Y,Y,Y,Y,Z,Z,Z] rfl rfl (az HT_.out (by kernel_rfl)) (by decide) (fun K hK=>?_)
  refine goC Try.func91 (bl.calls (w:=_) (h:=A8.out)) ?_
  intro w12 hb
  replace BK364:=kB BK364 hb
  replace BK365:=kB BK365 hb
  replace HB:=lB hb
  (try clear hb)
  (try clear hb2)
  (try clear hk)
  (try clear hi)
  refine hK.out _ _ ⟨cA BK365 0,cA BK365 1,cA BK364 0,cA BK364 1,cA BK364 2⟩ (fun hHeld=>?_)
  clear hK K
  refine nmA ?_
  refine puA (i:=13) (N:=some 20) #[Y,Y,Y,Y,Y,Y,Y,Y,Y,Y,Y,Y,Y,Y,Z,Z] rfl rfl HT_ ?_
  refine puA (i:=14) (N:=some 21) #[Y,Y,Y,Y,Y,Y,Y,Y,Y,Y,Y,Y,Y,Y,Y,Z] rfl rfl HT_ ?_
  refine puA (i:=15) (N:=some 6) #[Y,Y,Y,Y,Y,Y,Y,Y,Y,Y,Y,Y,Y,Y,Y,Y] rfl rfl HT_ ?_
  refine cL (bX HT_.out (by kernel_rfl)) ?_
  try go_wp2
  go_ret
  exact bU blA
def bi.f (k:Nat) (a0 a1_0 a1_1 a1_2 a2_0 a2_1 a2_2:Int):Option (Int):=(be.f k a0 a1_0 a1_1 a1_2 a2_0 a2_1 a2_2).bind fun t394=>(some (wrap64 ((wrap64 (a1_0+a2_0)) - (wrap64 (2*t394)))))
def bi.T1:Bool × List (List Nat × List Nat):=(true,[([],[]),([0],[0]),([],[]),([2],[2]),([1,3],[1,3]),([],[]),([],[]),([],[]),([5,6,7],[5,6,7]),([8],[8]),([4,9],[4,9]),([10,8,0,1,2,3,4,5,6,7,8,9,10],[10])])
def bi.B1:List Nat:=[0,1,0,4,15,0,0,0,224,480,1023,2047]
theorem bi.tab1:ck .any (dC Try.f49 1)=bi.T1:=by kernel_rfl
theorem bi.bits1:br bi.T1.2 bi.B1=true:=by kernel_rfl
set_option maxHeartbeats 8000000 in
set_option maxRecDepth 100000 in
theorem bi.calls (k:Nat) (a0 a1_0 a1_1 a1_2 a2_0 a2_1 a2_2 r:Int) (w:World) (h:bi.f k a0 a1_0 a1_1 a1_2 a2_0 a2_1 a2_2=some r) :
  Calls Try.prog 49 #[.int .i64 a0,.agg #[.int .i64 a1_0,.int .i64 a1_1,.int .i64 a1_2],.agg #[.int .i64 a2_0,.int .i64 a2_1,.int .i64 a2_2]] w fun e w'=>e=.returned (.int .i64 r)∧Below w.heap.size w w':=by
 have hu25:=Try.underlying25
 have HB:=aA.mk (Below.refl w.heap.size w)
 have H:=h
 unfold bi.f at H
 clear h
 replace H:=bS H
 obtain ⟨t394,A4,H⟩:=H
 try dsimp only at H
 obtain rfl:=Option.some.inj H
 go_enter Try.func49,Try.ntmps49
 try go_wp2_with (first|((with_reducible refine aH (N:=4) rfl ?_);refine bxE (cs:=#[.int .i64 a1_0,.int .i64 a1_1,.int .i64 a1_2]) (t:=25) ?_;intro gb392 hg w5 hbox hb;have BK392:=aA.mk hbox;have GW392:=sA hg;have GE392:=sA hg;replace HB:=lB hb;clear hb hbox hg)|((with_reducible refine aH (N:=5) rfl ?_);refine bxE (cs:=#[.int .i64 a2_0,.int .i64 a2_1,.int .i64 a2_2]) (t:=25) ?_;intro gb393 hg w6 hbox hb;have LT392_393:=nL hg BK392;have BK393:=aA.mk hbox;have GW393:=sA hg;have GE393:=sA hg;replace BK392:=kB BK392 hb;replace HB:=lB hb;clear hb hbox hg))
 have n0_:=aA.mk (aK BK392.out)
 have n1_:=aA.mk (aK BK393.out)
 have n2_:=aA.mk (aV HB.out)
 clear BK392
 clear BK393
 clear HB
 have BK392:=n0_
 have BK393:=n1_
 have HB:=n2_
 clear n0_ n1_ n2_
 refine bf (n:=12) (S:=fun w'=>w'.cell? ⟨gb392,0,none⟩=some (.int .i64 a1_0)∧w'.cell? ⟨gb392,1,none⟩=some (.int .i64 a1_1)∧w'.cell? ⟨gb392,2,none⟩=some (.int .i64 a1_2)∧w'.cell? ⟨gb393,0,none⟩=some (.int .i64 a2_0)∧w'.cell? ⟨gb393,1,none⟩=some (.int .i64 a2_1)∧w'.cell? ⟨gb393,2,none⟩=some (.int .i64 a2_2)) (ds:=[]) #[Z,Z,Z,Z,Z,Z,Z,Z,Z,Z,Z,Z] (by kernel_rfl) rfl rfl ⟨cA BK392 0,cA BK392 1,cA BK392 2,cA BK393 0,cA BK393 1,cA BK393 2⟩ (fun hHeld=>?_);refine bH bi.tab1 bi.bits1 (fun HT_ HW_=>?_)
 generalize w6.drew=w7 at BK392 BK393 HB hHeld ⊢
 refine puA (i:=0) (N:=some 7) #[Y,Z,Z,Z,Z,Z,Z,Z,Z,Z,Z,Z] rfl rfl HT_ ?_
 refine puA (i:=2) (N:=some 9) #[Y,Z,Y,Z,Z,Z,Z,Z,Z,Z,Z,Z] rfl rfl HT_ ?_
 refine puA (i:=5) (N:=some 12) #[Y,Z,Y,Z,Z,Y,Z,Z,Z,Z,Z,Z] rfl rfl HT_ ?_
 refine taA (i:=1) (N:=some 8) #[Y,Y,Y,Z,Z,Y,Z,Z,Z,Z,Z,Z] rfl rfl HT_ HW_ hHeld ?_
 refine taA (i:=3) (N:=some 10) #[Y,Y,Y,Y,Z,Y,Z,Z,Z,Z,Z,Z] rfl rfl HT_ HW_ hHeld ?_
 refine puA (i:=4) (N:=some 11) #[Y,Y,Y,Y,Y,Y,Z,Z,Z,Z,Z,Z] rfl rfl HT_ ?_
 refine taA (i:=6) (N:=some 13) #[Y,Y,Y,Y,Y,Y,Y,Z,Z,Z,Z,Z] rfl rfl HT_ HW_ hHeld ?_
 refine taA (i:=7) (N:=some 14) #[Y,Y,Y,Y,Y,Y,Y,Y,Z,Z,Z,Z] rfl rfl HT_ HW_ hHeld ?_
 refine bg (i:=8) (N:=some 15) #[Y,Y,Y,Y,Y,Y,Y,Y,Y,Z,Z,Z] rfl rfl (az HT_.out (by kernel_rfl)) (by decide) (fun K hK=>?_)
 refine goC Try.func84 (be.calls (w:=_) (h:=A4.out)) ?_
 intro w8 hb
 replace BK392:=kB BK392 hb
 replace BK393:=kB BK393 hb
 replace HB:=lB hb
 (try clear hb)
 (try clear hb2)
 (try clear hk)
 (try clear hi)
 refine hK.out _ _ ⟨cA BK392 0,cA BK392 1,cA BK392 2,cA BK393 0,cA BK393 1,cA BK393 2⟩ (fun hHeld=>?_)
 clear hK K
 refine nmA ?_
 refine puA (i:=9) (N:=some 16) #[Y,Y,Y,Y,Y,Y,Y,Y,Y,Y,Z,Z] rfl rfl HT_ ?_
 refine puA (i:=10) (N:=some 17) #[Y,Y,Y,Y,Y,Y,Y,Y,Y,Y,Y,Z] rfl rfl HT_ ?_
 refine puA (i:=11) (N:=some 6) #[Y,Y,Y,Y,Y,Y,Y,Y,Y,Y,Y,Y] rfl rfl HT_ ?_
 refine cL (bX HT_.out (by kernel_rfl)) ?_
 try go_wp2
 go_ret
 exact bU blA
def cO.f (k:Nat) (l0:List Int):Option (Int × Int × Int × Int × Int × Int × Int):=(ao.f k l0).bind fun bt460=>((ag.f bt460.1 bt460.2.1 bt460.2.2 (([2,3,5,7,2,3,4]:List Int))).bind fun bt467=>((ae.f bt460.1 bt467.2.1 bt467.2.2 4).bind fun bt470=>(if bt470.1=0 then ((ac.f k bt460.1 bt470.2.1 bt470.2.2).bind fun bt473=>((ac.f k bt460.1 bt473.2.2.1 bt473.2.2.2).bind fun bt477=>((ac.f k bt460.1 bt477.2.2.1 bt477.2.2.2).bind fun bt481=>(some (bt467.1,bt473.1,bt473.2.1,bt477.1,bt477.2.1,bt481.1,bt481.2.1))))) else ((au.f k bt460.1 bt470.2.1 bt470.2.2).bind fun bt485=>((au.f k bt460.1 bt485.2.2.1 bt485.2.2.2).bind fun bt489=>((au.f k bt460.1 bt489.2.2.1 bt489.2.2.2).bind fun bt493=>(some (bt467.1,bt485.1,bt485.2.1,bt489.1,bt489.2.1,bt493.1,bt493.2.1))))))))
set_option maxHeartbeats 8000000 in
set_option maxRecDepth 100000 in
theorem cO.calls (k:Nat) (A0:Option Addr) (c0:Nat) (l0:List Int) (r1 r2 r3 r4 r5 r6 r7:Int) (w:World) (hr0:Kd.C (Kd.int .u8) w A0 l0.length l0) (hc0:l0.length≤c0) (h:cO.f k l0=some (r1,r2,r3,r4,r5,r6,r7)) :
  Calls Try.prog 16 #[.slice A0 l0.length c0] w fun e w'=>e=.returned (.tuple #[.int .i64 r1,.agg #[.int .i64 r2,.int .i64 r3],.agg #[.int .i64 r4,.int .i64 r5],.agg #[.int .i64 r6,.int .i64 r7]])∧Below w.heap.size w w':=by
 have hu28:=Try.underlying28
 have HR0:=aA.mk hr0
 have HC0:=aA.mk hc0
 clear hr0 hc0
 have HB:=aA.mk (Below.refl w.heap.size w)
 have H:=h
 unfold cO.f at H
 clear h
 replace H:=bS H
 obtain ⟨⟨t460,t461,t462⟩,A2,H⟩:=H
 try dsimp only at H
 obtain ⟨y464,hy464⟩:∃ y_:List Int,y_=(([2,3,5,7,2,3,4]:List Int)):=⟨_,rfl⟩
 replace H:((ag.f t460 t461 t462 y464).bind fun bt467=>((ae.f t460 bt467.2.1 bt467.2.2 4).bind fun bt470=>(if bt470.1=0 then ((ac.f k t460 bt470.2.1 bt470.2.2).bind fun bt473=>((ac.f k t460 bt473.2.2.1 bt473.2.2.2).bind fun bt477=>((ac.f k t460 bt477.2.2.1 bt477.2.2.2).bind fun bt481=>(some (bt467.1,bt473.1,bt473.2.1,bt477.1,bt477.2.1,bt481.1,bt481.2.1))))) else ((au.f k t460 bt470.2.1 bt470.2.2).bind fun bt485=>((au.f k t460 bt485.2.2.1 bt485.2.2.2).bind fun bt489=>((au.f k t460 bt489.2.2.1 bt489.2.2.2).bind fun bt493=>(some (bt467.1,bt485.1,bt485.2.1,bt489.1,bt489.2.1,bt493.1,bt493.2.1))))))))=some (r1,r2,r3,r4,r5,r6,r7):=rH hy464 H
 have Ny464:=aA.mk hy464
 clear hy464
 replace H:=bS H
 obtain ⟨⟨t467,t468,t469⟩,A3,H⟩:=H
 try dsimp only at H
 replace H:=bS H
 obtain ⟨⟨t470,t471,t472⟩,A4,H⟩:=H
 try dsimp only at H
 by_cases c5:t470=0
 ·
  rw [if_pos c5] at H
  have c5b0:(t470 == 0)=true:=beq_iff_eq.mpr c5
  have c5b1:(t470 != 0)=false:=bne_eq_false_iff_eq.mpr c5
  clear c5
  replace H:=bS H
  obtain ⟨⟨t473,t474,t475,t476⟩,A6,H⟩:=H
  try dsimp only at H
  replace H:=bS H
  obtain ⟨⟨t477,t478,t479,t480⟩,A7,H⟩:=H
  try dsimp only at H
  replace H:=bS H
  obtain ⟨⟨t481,t482,t483,t484⟩,A8,H⟩:=H
  try dsimp only at H
  simp only [Option.some.injEq,Prod.mk.injEq] at H
  obtain ⟨rfl,rfl,rfl,rfl,rfl,rfl,rfl⟩:=H
  go_enter Try.func16,Try.ntmps16
  go_wp2_with (first|((with_reducible refine aH (N:=3) rfl ?_);refine bxE (cs:=#[.int .i64 0,.int .i64 0]) (t:=28) ?_;intro gb457 hg w9 hbox hb;have BK457:=aA.mk hbox;have GW457:=sA hg;have GE457:=sA hg;replace HB:=lB hb;clear hb hbox hg)|((with_reducible refine aH (N:=4) rfl ?_);refine bxE (cs:=#[.int .i64 0,.int .i64 0]) (t:=28) ?_;intro gb458 hg w10 hbox hb;have BK458:=aA.mk hbox;have GW458:=sA hg;have GE458:=sA hg;have NB457_458:=nA hg BK457;have NB458_457:=nB hg BK457;have LT457_458:=nL hg BK457;replace BK457:=kB BK457 hb;replace HB:=lB hb;clear hb hbox hg)|((with_reducible refine aH (N:=5) rfl ?_);refine bxE (cs:=#[.int .i64 0,.int .i64 0]) (t:=28) ?_;intro gb459 hg w11 hbox hb;have BK459:=aA.mk hbox;have GW459:=sA hg;have GE459:=sA hg;have NB457_459:=nA hg BK457;have NB459_457:=nB hg BK457;have LT457_459:=nL hg BK457;have NB458_459:=nA hg BK458;have NB459_458:=nB hg BK458;have LT458_459:=nL hg BK458;replace BK457:=kB BK457 hb;replace BK458:=kB BK458 hb;replace HB:=lB hb;clear hb hbox hg)|((with_reducible refine bK (f:=39) rfl ?_);refine gL (some 9) rfl Try.func39 #[.slice A0 l0.length c0] ?_;(with_reducible refine (ao.calls k _ _ l0 t460 t461 t462 w _ ?side1 ?side2 ?side3 A2.out).mono ?_);(case side1=>exact blI);(case side2=>exact HR0.out);(case side3=>exact HC0.out);rintro e w12 ⟨g463,rfl,hi,hb,hb2⟩;refine ⟨_,rfl,?_⟩;have HI463:=aA.mk hi;have NB463_457:=aA.mk (aW.ne_blk hi (aE (bkA BK457) hb2) (by decide));have NB457_463:=aA.mk (Ne.symm (aW.ne_blk hi (aE (bkA BK457) hb2) (by decide)));have NB463_458:=aA.mk (aW.ne_blk hi (aE (bkA BK458) hb2) (by decide));have NB458_463:=aA.mk (Ne.symm (aW.ne_blk hi (aE (bkA BK458) hb2) (by decide)));have NB463_459:=aA.mk (aW.ne_blk hi (aE (bkA BK459) hb2) (by decide));have NB459_463:=aA.mk (Ne.symm (aW.ne_blk hi (aE (bkA BK459) hb2) (by decide)));replace BK457:=kB BK457 hb2;replace BK458:=kB BK458 hb2;replace BK459:=kB BK459 hb2;replace HB:=aA.mk hb;clear hi hb hb2)|((with_reducible refine aH (N:=11) rfl ?_);refine Kd.R_lit (Kd.int .i64) _ 2 ?hg (N:=11) ?hd (xs:=([2,3,5,7,2,3,4]:List Int)) (inner:=[.int .i64 2,.int .i64 3,.int .i64 5,.int .i64 7,.int .i64 2,.int .i64 3,.int .i64 4]) (ok:=fun _=>True) (okp:=fun _=>True) ?hr ?hp (fun _ hk=>hk) trivial (Below.refl _ _) (Nat.le_refl _) (by simp) ?_;(case hd=>rfl);(case hg=>rfl);(case hr=>first|(go_simp;done)|(go_simp;rfl));(case hp=>exact (aY.one (show Kd.M (Kd.int .i64) _ _ _ 2 [.int .i64 2] from rfl) (aY.one (show Kd.M (Kd.int .i64) _ _ _ 3 [.int .i64 3] from rfl) (aY.one (show Kd.M (Kd.int .i64) _ _ _ 5 [.int .i64 5] from rfl) (aY.one (show Kd.M (Kd.int .i64) _ _ _ 7 [.int .i64 7] from rfl) (aY.one (show Kd.M (Kd.int .i64) _ _ _ 2 [.int .i64 2] from rfl) (aY.one (show Kd.M (Kd.int .i64) _ _ _ 3 [.int .i64 3] from rfl) (aY.one (show Kd.M (Kd.int .i64) _ _ _ 4 [.int .i64 4] from rfl) (aY.none _ _)))))))));intro v465 w13 ho14 hb hg_ hnew_;clear hg_ hnew_;(first|rw [← Ny464.out] at ho14|(simp only [Int.reduceToNat] at ho14;rw [← Ny464.out] at ho14));have HO466:=aA.mk (Kd.R_lower ho14 (ak blI));replace BK457:=kB BK457 hb;replace BK458:=kB BK458 hb;replace BK459:=kB BK459 hb;replace HI463:=aA.mk (aW.below (iA HI463) hb);replace HB:=lI hb;clear hb ho14;obtain ⟨Ao15,co15,eo15⟩:=Kd.R_slice HO466.out;subst eo15)|((with_reducible refine gd 12 rfl ?_);refine gC (some 12) rfl Try.func40 (ag.calls (w:=_) (g:=g463) (w0:=w) (hI:=iA HI463) (hB:=blI) (hr1:=cR (Kd.R_reads' HO466.out).2.2) (hc1:=(Kd.R_reads' HO466.out).2.1) (hf1:=cw (aW.own_ne HI463.out HO466.out (by decide))) (h:=A3.out)) ?_;rintro w16 ⟨hi,hb,hk⟩;replace BK457:=kbk hk BK457 NB457_463;replace BK458:=kbk hk BK458 NB458_463;replace BK459:=kbk hk BK459 NB459_463;replace HO466:=aA.mk (Kd.R_mono (Kd.R_keep (aW.apart (show aW w _ g463 t460 t461 t462 from iA HI463) (rA HO466) (by decide)) hk (fun _ h=>h.2)) (fun _ h=>h.1));replace HB:=aA.mk hb;replace HI463:=aA.mk hi;clear hi hb hk)|((with_reducible refine gd 14 rfl ?_);refine gC (some 14) rfl Try.func50 (ae.calls (w:=_) (g:=g463) (w0:=w) (hI:=iA HI463) (hB:=blI) (h:=A4.out)) ?_;rintro w17 ⟨hi,hb,hk⟩;replace BK457:=kbk hk BK457 NB457_463;replace BK458:=kbk hk BK458 NB458_463;replace BK459:=kbk hk BK459 NB459_463;replace HO466:=aA.mk (Kd.R_mono (Kd.R_keep (aW.apart (show aW w _ g463 t460 t468 t469 from iA HI463) (rA HO466) (by decide)) hk (fun _ h=>h.2)) (fun _ h=>h.1));replace HB:=aA.mk hb;replace HI463:=aA.mk hi;clear hi hb hk)|((with_reducible refine gd 18 rfl ?_);refine gC (some 18) rfl Try.func51 (ac.calls (w:=_) (g:=g463) (w0:=w) (hI:=iA HI463) (hB:=blI) (h:=A6.out)) ?_;rintro w18 ⟨hi,hb,hk⟩;replace BK457:=kbk hk BK457 NB457_463;replace BK458:=kbk hk BK458 NB458_463;replace BK459:=kbk hk BK459 NB459_463;replace HO466:=aA.mk (Kd.R_mono (Kd.R_keep (aW.apart (show aW w _ g463 t460 t471 t472 from iA HI463) (rA HO466) (by decide)) hk (fun _ h=>h.2)) (fun _ h=>h.1));replace HB:=aA.mk hb;replace HI463:=aA.mk hi;clear hi hb hk)|((with_reducible refine gd 20 rfl ?_);refine gC (some 20) rfl Try.func51 (ac.calls (w:=_) (g:=g463) (w0:=w) (hI:=iA HI463) (hB:=blI) (h:=A7.out)) ?_;rintro w19 ⟨hi,hb,hk⟩;replace BK457:=kbk hk BK457 NB457_463;replace BK458:=kbk hk BK458 NB458_463;replace BK459:=kbk hk BK459 NB459_463;replace HO466:=aA.mk (Kd.R_mono (Kd.R_keep (aW.apart (show aW w _ g463 t460 t475 t476 from iA HI463) (rA HO466) (by decide)) hk (fun _ h=>h.2)) (fun _ h=>h.1));replace HB:=aA.mk hb;replace HI463:=aA.mk hi;clear hi hb hk)|((with_reducible refine gd 22 rfl ?_);refine gC (some 22) rfl Try.func51 (ac.calls (w:=_) (g:=g463) (w0:=w) (hI:=iA HI463) (hB:=blI) (h:=A8.out)) ?_;rintro w20 ⟨hi,hb,hk⟩;replace BK457:=kbk hk BK457 NB457_463;replace BK458:=kbk hk BK458 NB458_463;replace BK459:=kbk hk BK459 NB459_463;replace HO466:=aA.mk (Kd.R_mono (Kd.R_keep (aW.apart (show aW w _ g463 t460 t479 t480 from iA HI463) (rA HO466) (by decide)) hk (fun _ h=>h.2)) (fun _ h=>h.1));replace HB:=aA.mk hb;replace HI463:=aA.mk hi;clear hi hb hk;have hnb21:=LT457_458.out;have hnb22:=LT457_459.out;have hnb23:=NB457_463.out;obtain ⟨hcz24_0,hcz24_1,hfz24_0,hfz24_1⟩:=cz2 BK457;have hnb25:=LT458_459.out;have hnb26:=NB458_463.out;obtain ⟨hcz27_0,hcz27_1,hfz27_0,hfz27_1⟩:=cz2 BK458;have hnb28:=NB459_463.out;obtain ⟨hcz29_0,hcz29_1,hfz29_0,hfz29_1⟩:=cz2 BK459))
  refine bodyPost_ret (dF (rs:=[.tmp 2,.cell 3 28,.cell 4 28,.cell 5 28]) rfl (by simp) (.tmp (.cell gb457 28 #[.int .i64 t473,.int .i64 t474] (0,0) _ rfl (bpA BK457) Try.underlying28 rfl (by kernel_rfl) (.cell gb458 28 #[.int .i64 t477,.int .i64 t478] (0,0) _ rfl (bpA BK458) Try.underlying28 rfl (by kernel_rfl) (.cell gb459 28 #[.int .i64 t481,.int .i64 t482] (0,0) _ rfl (bpA BK459) Try.underlying28 rfl (by kernel_rfl) .nil))))) rfl ?_
  exact rf0 blI
 ·
  rw [if_neg c5] at H
  have c5b0:(t470 == 0)=false:=beq_eq_false_iff_ne.mpr c5
  have c5b1:(t470 != 0)=true:=bne_iff_ne.mpr c5
  replace H:=bS H
  obtain ⟨⟨t485,t486,t487,t488⟩,A30,H⟩:=H
  try dsimp only at H
  replace H:=bS H
  obtain ⟨⟨t489,t490,t491,t492⟩,A31,H⟩:=H
  try dsimp only at H
  replace H:=bS H
  obtain ⟨⟨t493,t494,t495,t496⟩,A32,H⟩:=H
  try dsimp only at H
  simp only [Option.some.injEq,Prod.mk.injEq] at H
  obtain ⟨rfl,rfl,rfl,rfl,rfl,rfl,rfl⟩:=H
  go_enter Try.func16,Try.ntmps16
  go_wp2_with (first|((with_reducible refine aH (N:=3) rfl ?_);refine bxE (cs:=#[.int .i64 0,.int .i64 0]) (t:=28) ?_;intro gb457 hg w33 hbox hb;have BK457:=aA.mk hbox;have GW457:=sA hg;have GE457:=sA hg;replace HB:=lB hb;clear hb hbox hg)|((with_reducible refine aH (N:=4) rfl ?_);refine bxE (cs:=#[.int .i64 0,.int .i64 0]) (t:=28) ?_;intro gb458 hg w34 hbox hb;have BK458:=aA.mk hbox;have GW458:=sA hg;have GE458:=sA hg;have NB457_458:=nA hg BK457;have NB458_457:=nB hg BK457;have LT457_458:=nL hg BK457;replace BK457:=kB BK457 hb;replace HB:=lB hb;clear hb hbox hg)|((with_reducible refine aH (N:=5) rfl ?_);refine bxE (cs:=#[.int .i64 0,.int .i64 0]) (t:=28) ?_;intro gb459 hg w35 hbox hb;have BK459:=aA.mk hbox;have GW459:=sA hg;have GE459:=sA hg;have NB457_459:=nA hg BK457;have NB459_457:=nB hg BK457;have LT457_459:=nL hg BK457;have NB458_459:=nA hg BK458;have NB459_458:=nB hg BK458;have LT458_459:=nL hg BK458;replace BK457:=kB BK457 hb;replace BK458:=kB BK458 hb;replace HB:=lB hb;clear hb hbox hg)|((with_reducible refine bK (f:=39) rfl ?_);refine gL (some 9) rfl Try.func39 #[.slice A0 l0.length c0] ?_;(with_reducible refine (ao.calls k _ _ l0 t460 t461 t462 w _ ?side1 ?side2 ?side3 A2.out).mono ?_);(case side1=>exact blI);(case side2=>exact HR0.out);(case side3=>exact HC0.out);rintro e w36 ⟨g463,rfl,hi,hb,hb2⟩;refine ⟨_,rfl,?_⟩;have HI463:=aA.mk hi;have NB463_457:=aA.mk (aW.ne_blk hi (aE (bkA BK457) hb2) (by decide));have NB457_463:=aA.mk (Ne.symm (aW.ne_blk hi (aE (bkA BK457) hb2) (by decide)));have NB463_458:=aA.mk (aW.ne_blk hi (aE (bkA BK458) hb2) (by decide));have NB458_463:=aA.mk (Ne.symm (aW.ne_blk hi (aE (bkA BK458) hb2) (by decide)));have NB463_459:=aA.mk (aW.ne_blk hi (aE (bkA BK459) hb2) (by decide));have NB459_463:=aA.mk (Ne.symm (aW.ne_blk hi (aE (bkA BK459) hb2) (by decide)));replace BK457:=kB BK457 hb2;replace BK458:=kB BK458 hb2;replace BK459:=kB BK459 hb2;replace HB:=aA.mk hb;clear hi hb hb2)|((with_reducible refine aH (N:=11) rfl ?_);refine Kd.R_lit (Kd.int .i64) _ 2 ?hg (N:=11) ?hd (xs:=([2,3,5,7,2,3,4]:List Int)) (inner:=[.int .i64 2,.int .i64 3,.int .i64 5,.int .i64 7,.int .i64 2,.int .i64 3,.int .i64 4]) (ok:=fun _=>True) (okp:=fun _=>True) ?hr ?hp (fun _ hk=>hk) trivial (Below.refl _ _) (Nat.le_refl _) (by simp) ?_;(case hd=>rfl);(case hg=>rfl);(case hr=>first|(go_simp;done)|(go_simp;rfl));(case hp=>exact (aY.one (show Kd.M (Kd.int .i64) _ _ _ 2 [.int .i64 2] from rfl) (aY.one (show Kd.M (Kd.int .i64) _ _ _ 3 [.int .i64 3] from rfl) (aY.one (show Kd.M (Kd.int .i64) _ _ _ 5 [.int .i64 5] from rfl) (aY.one (show Kd.M (Kd.int .i64) _ _ _ 7 [.int .i64 7] from rfl) (aY.one (show Kd.M (Kd.int .i64) _ _ _ 2 [.int .i64 2] from rfl) (aY.one (show Kd.M (Kd.int .i64) _ _ _ 3 [.int .i64 3] from rfl) (aY.one (show Kd.M (Kd.int .i64) _ _ _ 4 [.int .i64 4] from rfl) (aY.none _ _)))))))));intro v465 w37 ho38 hb hg_ hnew_;clear hg_ hnew_;(first|rw [← Ny464.out] at ho38|(simp only [Int.reduceToNat] at ho38;rw [← Ny464.out] at ho38));have HO466:=aA.mk (Kd.R_lower ho38 (ak blI));replace BK457:=kB BK457 hb;replace BK458:=kB BK458 hb;replace BK459:=kB BK459 hb;replace HI463:=aA.mk (aW.below (iA HI463) hb);replace HB:=lI hb;clear hb ho38;obtain ⟨Ao39,co39,eo39⟩:=Kd.R_slice HO466.out;subst eo39)|((with_reducible refine gd 12 rfl ?_);refine gC (some 12) rfl Try.func40 (ag.calls (w:=_) (g:=g463) (w0:=w) (hI:=iA HI463) (hB:=blI) (hr1:=cR (Kd.R_reads' HO466.out).2.2) (hc1:=(Kd.R_reads' HO466.out).2.1) (hf1:=cw (aW.own_ne HI463.out HO466.out (by decide))) (h:=A3.out)) ?_;rintro w40 ⟨hi,hb,hk⟩;replace BK457:=kbk hk BK457 NB457_463;replace BK458:=kbk hk BK458 NB458_463;replace BK459:=kbk hk BK459 NB459_463;replace HO466:=aA.mk (Kd.R_mono (Kd.R_keep (aW.apart (show aW w _ g463 t460 t461 t462 from iA HI463) (rA HO466) (by decide)) hk (fun _ h=>h.2)) (fun _ h=>h.1));replace HB:=aA.mk hb;replace HI463:=aA.mk hi;clear hi hb hk)|((with_reducible refine gd 14 rfl ?_);refine gC (some 14) rfl Try.func50 (ae.calls (w:=_) (g:=g463) (w0:=w) (hI:=iA HI463) (hB:=blI) (h:=A4.out)) ?_;rintro w41 ⟨hi,hb,hk⟩;replace BK457:=kbk hk BK457 NB457_463;replace BK458:=kbk hk BK458 NB458_463;replace BK459:=kbk hk BK459 NB459_463;replace HO466:=aA.mk (Kd.R_mono (Kd.R_keep (aW.apart (show aW w _ g463 t460 t468 t469 from iA HI463) (rA HO466) (by decide)) hk (fun _ h=>h.2)) (fun _ h=>h.1));replace HB:=aA.mk hb;replace HI463:=aA.mk hi;clear hi hb hk)|((with_reducible refine gd 25 rfl ?_);refine gC (some 25) rfl Try.func41 (au.calls (w:=_) (g:=g463) (w0:=w) (hI:=iA HI463) (hB:=blI) (h:=A30.out)) ?_;rintro w42 ⟨hi,hb,hk⟩;replace BK457:=kbk hk BK457 NB457_463;replace BK458:=kbk hk BK458 NB458_463;replace BK459:=kbk hk BK459 NB459_463;replace HO466:=aA.mk (Kd.R_mono (Kd.R_keep (aW.apart (show aW w _ g463 t460 t471 t472 from iA HI463) (rA HO466) (by decide)) hk (fun _ h=>h.2)) (fun _ h=>h.1));replace HB:=aA.mk hb;replace HI463:=aA.mk hi;clear hi hb hk)|((with_reducible refine gd 27 rfl ?_);refine gC (some 27) rfl Try.func41 (au.calls (w:=_) (g:=g463) (w0:=w) (hI:=iA HI463) (hB:=blI) (h:=A31.out)) ?_;rintro w43 ⟨hi,hb,hk⟩;replace BK457:=kbk hk BK457 NB457_463;replace BK458:=kbk hk BK458 NB458_463;replace BK459:=kbk hk BK459 NB459_463;replace HO466:=aA.mk (Kd.R_mono (Kd.R_keep (aW.apart (show aW w _ g463 t460 t487 t488 from iA HI463) (rA HO466) (by decide)) hk (fun _ h=>h.2)) (fun _ h=>h.1));replace HB:=aA.mk hb;replace HI463:=aA.mk hi;clear hi hb hk)|((with_reducible refine gd 29 rfl ?_);refine gC (some 29) rfl Try.func41 (au.calls (w:=_) (g:=g463) (w0:=w) (hI:=iA HI463) (hB:=blI) (h:=A32.out)) ?_;rintro w44 ⟨hi,hb,hk⟩;replace BK457:=kbk hk BK457 NB457_463;replace BK458:=kbk hk BK458 NB458_463;replace BK459:=kbk hk BK459 NB459_463;replace HO466:=aA.mk (Kd.R_mono (Kd.R_keep (aW.apart (show aW w _ g463 t460 t491 t492 from iA HI463) (rA HO466) (by decide)) hk (fun _ h=>h.2)) (fun _ h=>h.1));replace HB:=aA.mk hb;replace HI463:=aA.mk hi;clear hi hb hk;have hnb45:=LT457_458.out;have hnb46:=LT457_459.out;have hnb47:=NB457_463.out;obtain ⟨hcz48_0,hcz48_1,hfz48_0,hfz48_1⟩:=cz2 BK457;have hnb49:=LT458_459.out;have hnb50:=NB458_463.out;obtain ⟨hcz51_0,hcz51_1,hfz51_0,hfz51_1⟩:=cz2 BK458;have hnb52:=NB459_463.out;obtain ⟨hcz53_0,hcz53_1,hfz53_0,hfz53_1⟩:=cz2 BK459))
  refine bodyPost_ret (dF (rs:=[.tmp 2,.cell 3 28,.cell 4 28,.cell 5 28]) rfl (by simp) (.tmp (.cell gb457 28 #[.int .i64 t485,.int .i64 t486] (0,0) _ rfl (bpA BK457) Try.underlying28 rfl (by kernel_rfl) (.cell gb458 28 #[.int .i64 t489,.int .i64 t490] (0,0) _ rfl (bpA BK458) Try.underlying28 rfl (by kernel_rfl) (.cell gb459 28 #[.int .i64 t493,.int .i64 t494] (0,0) _ rfl (bpA BK459) Try.underlying28 rfl (by kernel_rfl) .nil))))) rfl ?_
  exact rf0 blI
def cH.f (k:Nat) (l0:List Int):Option (Int × Int × Int × Int × Int × Int × Int × Int):=(ao.f k l0).bind fun bt501=>((ae.f bt501.1 bt501.2.1 bt501.2.2 5).bind fun bt505=>(if bt505.1=0 then ((ac.f k bt501.1 bt505.2.1 bt505.2.2).bind fun bt508=>((ac.f k bt501.1 bt508.2.2.1 bt508.2.2.2).bind fun bt512=>((ac.f k bt501.1 bt512.2.2.1 bt512.2.2.2).bind fun bt516=>((ac.f k bt501.1 bt516.2.2.1 bt516.2.2.2).bind fun bt520=>(some (bt508.1,bt508.2.1,bt512.1,bt512.2.1,bt516.1,bt516.2.1,bt520.1,bt520.2.1)))))) else ((au.f k bt501.1 bt505.2.1 bt505.2.2).bind fun bt524=>((au.f k bt501.1 bt524.2.2.1 bt524.2.2.2).bind fun bt528=>((au.f k bt501.1 bt528.2.2.1 bt528.2.2.2).bind fun bt532=>((au.f k bt501.1 bt532.2.2.1 bt532.2.2.2).bind fun bt536=>(some (bt524.1,bt524.2.1,bt528.1,bt528.2.1,bt532.1,bt532.2.1,bt536.1,bt536.2.1))))))))
set_option maxHeartbeats 8000000 in
set_option maxRecDepth 100000 in
theorem cH.calls (k:Nat) (A0:Option Addr) (c0:Nat) (l0:List Int) (r1 r2 r3 r4 r5 r6 r7 r8:Int) (w:World) (hr0:Kd.C (Kd.int .u8) w A0 l0.length l0) (hc0:l0.length≤c0) (h:cH.f k l0=some (r1,r2,r3,r4,r5,r6,r7,r8)) :
  Calls Try.prog 52 #[.slice A0 l0.length c0] w fun e w'=>e=.returned (.tuple #[.agg #[.int .i64 r1,.int .i64 r2],.agg #[.int .i64 r3,.int .i64 r4],.agg #[.int .i64 r5,.int .i64 r6],.agg #[.int .i64 r7,.int .i64 r8]])∧Below w.heap.size w w':=by
 have hu28:=Try.underlying28
 have HR0:=aA.mk hr0
 have HC0:=aA.mk hc0
 clear hr0 hc0
 have HB:=aA.mk (Below.refl w.heap.size w)
 have H:=h
 unfold cH.f at H
 clear h
 replace H:=bS H
 obtain ⟨⟨t501,t502,t503⟩,A2,H⟩:=H
 try dsimp only at H
 replace H:=bS H
 obtain ⟨⟨t505,t506,t507⟩,A3,H⟩:=H
 try dsimp only at H
 by_cases c4:t505=0
 ·
  rw [if_pos c4] at H
  have c4b0:(t505 == 0)=true:=beq_iff_eq.mpr c4
  have c4b1:(t505 != 0)=false:=bne_eq_false_iff_eq.mpr c4
  clear c4
  replace H:=bS H
  obtain ⟨⟨t508,t509,t510,t511⟩,A5,H⟩:=H
  try dsimp only at H
  replace H:=bS H
  obtain ⟨⟨t512,t513,t514,t515⟩,A6,H⟩:=H
  try dsimp only at H
  replace H:=bS H
  obtain ⟨⟨t516,t517,t518,t519⟩,A7,H⟩:=H
  try dsimp only at H
  replace H:=bS H
  obtain ⟨⟨t520,t521,t522,t523⟩,A8,H⟩:=H
  try dsimp only at H
  simp only [Option.some.injEq,Prod.mk.injEq] at H
  obtain ⟨rfl,rfl,rfl,rfl,rfl,rfl,rfl,rfl⟩:=H
  go_enter Try.func52,Try.ntmps52
  go_wp2_with (first|((with_reducible refine aH (N:=2) rfl ?_);refine bxE (cs:=#[.int .i64 0,.int .i64 0]) (t:=28) ?_;intro gb497 hg w9 hbox hb;have BK497:=aA.mk hbox;have GW497:=sA hg;have GE497:=sA hg;replace HB:=lB hb;clear hb hbox hg)|((with_reducible refine aH (N:=3) rfl ?_);refine bxE (cs:=#[.int .i64 0,.int .i64 0]) (t:=28) ?_;intro gb498 hg w10 hbox hb;have BK498:=aA.mk hbox;have GW498:=sA hg;have GE498:=sA hg;have NB497_498:=nA hg BK497;have NB498_497:=nB hg BK497;have LT497_498:=nL hg BK497;replace BK497:=kB BK497 hb;replace HB:=lB hb;clear hb hbox hg)|((with_reducible refine aH (N:=4) rfl ?_);refine bxE (cs:=#[.int .i64 0,.int .i64 0]) (t:=28) ?_;intro gb499 hg w11 hbox hb;have BK499:=aA.mk hbox;have GW499:=sA hg;have GE499:=sA hg;have NB497_499:=nA hg BK497;have NB499_497:=nB hg BK497;have LT497_499:=nL hg BK497;have NB498_499:=nA hg BK498;have NB499_498:=nB hg BK498;have LT498_499:=nL hg BK498;replace BK497:=kB BK497 hb;replace BK498:=kB BK498 hb;replace HB:=lB hb;clear hb hbox hg)|((with_reducible refine aH (N:=5) rfl ?_);refine bxE (cs:=#[.int .i64 0,.int .i64 0]) (t:=28) ?_;intro gb500 hg w12 hbox hb;have BK500:=aA.mk hbox;have GW500:=sA hg;have GE500:=sA hg;have NB497_500:=nA hg BK497;have NB500_497:=nB hg BK497;have LT497_500:=nL hg BK497;have NB498_500:=nA hg BK498;have NB500_498:=nB hg BK498;have LT498_500:=nL hg BK498;have NB499_500:=nA hg BK499;have NB500_499:=nB hg BK499;have LT499_500:=nL hg BK499;replace BK497:=kB BK497 hb;replace BK498:=kB BK498 hb;replace BK499:=kB BK499 hb;replace HB:=lB hb;clear hb hbox hg)|((with_reducible refine bK (f:=39) rfl ?_);refine gL (some 8) rfl Try.func39 #[.slice A0 l0.length c0] ?_;(with_reducible refine (ao.calls k _ _ l0 t501 t502 t503 w _ ?side1 ?side2 ?side3 A2.out).mono ?_);(case side1=>exact blI);(case side2=>exact HR0.out);(case side3=>exact HC0.out);rintro e w13 ⟨g504,rfl,hi,hb,hb2⟩;refine ⟨_,rfl,?_⟩;have HI504:=aA.mk hi;have NB504_497:=aA.mk (aW.ne_blk hi (aE (bkA BK497) hb2) (by decide));have NB497_504:=aA.mk (Ne.symm (aW.ne_blk hi (aE (bkA BK497) hb2) (by decide)));have NB504_498:=aA.mk (aW.ne_blk hi (aE (bkA BK498) hb2) (by decide));have NB498_504:=aA.mk (Ne.symm (aW.ne_blk hi (aE (bkA BK498) hb2) (by decide)));have NB504_499:=aA.mk (aW.ne_blk hi (aE (bkA BK499) hb2) (by decide));have NB499_504:=aA.mk (Ne.symm (aW.ne_blk hi (aE (bkA BK499) hb2) (by decide)));have NB504_500:=aA.mk (aW.ne_blk hi (aE (bkA BK500) hb2) (by decide));have NB500_504:=aA.mk (Ne.symm (aW.ne_blk hi (aE (bkA BK500) hb2) (by decide)));replace BK497:=kB BK497 hb2;replace BK498:=kB BK498 hb2;replace BK499:=kB BK499 hb2;replace BK500:=kB BK500 hb2;replace HB:=aA.mk hb;clear hi hb hb2)|((with_reducible refine gd 10 rfl ?_);refine gC (some 10) rfl Try.func50 (ae.calls (w:=_) (g:=g504) (w0:=w) (hI:=iA HI504) (hB:=blI) (h:=A3.out)) ?_;rintro w14 ⟨hi,hb,hk⟩;replace BK497:=kbk hk BK497 NB497_504;replace BK498:=kbk hk BK498 NB498_504;replace BK499:=kbk hk BK499 NB499_504;replace BK500:=kbk hk BK500 NB500_504;replace HB:=aA.mk hb;replace HI504:=aA.mk hi;clear hi hb hk)|((with_reducible refine gd 13 rfl ?_);refine gC (some 13) rfl Try.func51 (ac.calls (w:=_) (g:=g504) (w0:=w) (hI:=iA HI504) (hB:=blI) (h:=A5.out)) ?_;rintro w15 ⟨hi,hb,hk⟩;replace BK497:=kbk hk BK497 NB497_504;replace BK498:=kbk hk BK498 NB498_504;replace BK499:=kbk hk BK499 NB499_504;replace BK500:=kbk hk BK500 NB500_504;replace HB:=aA.mk hb;replace HI504:=aA.mk hi;clear hi hb hk)|((with_reducible refine gd 15 rfl ?_);refine gC (some 15) rfl Try.func51 (ac.calls (w:=_) (g:=g504) (w0:=w) (hI:=iA HI504) (hB:=blI) (h:=A6.out)) ?_;rintro w16 ⟨hi,hb,hk⟩;replace BK497:=kbk hk BK497 NB497_504;replace BK498:=kbk hk BK498 NB498_504;replace BK499:=kbk hk BK499 NB499_504;replace BK500:=kbk hk BK500 NB500_504;replace HB:=aA.mk hb;replace HI504:=aA.mk hi;clear hi hb hk)|((with_reducible refine gd 17 rfl ?_);refine gC (some 17) rfl Try.func51 (ac.calls (w:=_) (g:=g504) (w0:=w) (hI:=iA HI504) (hB:=blI) (h:=A7.out)) ?_;rintro w17 ⟨hi,hb,hk⟩;replace BK497:=kbk hk BK497 NB497_504;replace BK498:=kbk hk BK498 NB498_504;replace BK499:=kbk hk BK499 NB499_504;replace BK500:=kbk hk BK500 NB500_504;replace HB:=aA.mk hb;replace HI504:=aA.mk hi;clear hi hb hk)|((with_reducible refine gd 19 rfl ?_);refine gC (some 19) rfl Try.func51 (ac.calls (w:=_) (g:=g504) (w0:=w) (hI:=iA HI504) (hB:=blI) (h:=A8.out)) ?_;rintro w18 ⟨hi,hb,hk⟩;replace BK497:=kbk hk BK497 NB497_504;replace BK498:=kbk hk BK498 NB498_504;replace BK499:=kbk hk BK499 NB499_504;replace BK500:=kbk hk BK500 NB500_504;replace HB:=aA.mk hb;replace HI504:=aA.mk hi;clear hi hb hk;have hnb19:=LT497_498.out;have hnb20:=LT497_499.out;have hnb21:=LT497_500.out;have hnb22:=NB497_504.out;obtain ⟨hcz23_0,hcz23_1,hfz23_0,hfz23_1⟩:=cz2 BK497;have hnb24:=LT498_499.out;have hnb25:=LT498_500.out;have hnb26:=NB498_504.out;obtain ⟨hcz27_0,hcz27_1,hfz27_0,hfz27_1⟩:=cz2 BK498;have hnb28:=LT499_500.out;have hnb29:=NB499_504.out;obtain ⟨hcz30_0,hcz30_1,hfz30_0,hfz30_1⟩:=cz2 BK499;have hnb31:=NB500_504.out;obtain ⟨hcz32_0,hcz32_1,hfz32_0,hfz32_1⟩:=cz2 BK500))
  refine bodyPost_ret (dF (rs:=[.cell 2 28,.cell 3 28,.cell 4 28,.cell 5 28]) rfl (by simp) (.cell gb497 28 #[.int .i64 t508,.int .i64 t509] (0,0) _ rfl (bpA BK497) Try.underlying28 rfl (by kernel_rfl) (.cell gb498 28 #[.int .i64 t512,.int .i64 t513] (0,0) _ rfl (bpA BK498) Try.underlying28 rfl (by kernel_rfl) (.cell gb499 28 #[.int .i64 t516,.int .i64 t517] (0,0) _ rfl (bpA BK499) Try.underlying28 rfl (by kernel_rfl) (.cell gb500 28 #[.int .i64 t520,.int .i64 t521] (0,0) _ rfl (bpA BK500) Try.underlying28 rfl (by kernel_rfl) .nil))))) rfl ?_
  exact rf0 blI
 ·
  rw [if_neg c4] at H
  have c4b0:(t505 == 0)=false:=beq_eq_false_iff_ne.mpr c4
  have c4b1:(t505 != 0)=true:=bne_iff_ne.mpr c4
  replace H:=bS H
  obtain ⟨⟨t524,t525,t526,t527⟩,A33,H⟩:=H
  try dsimp only at H
  replace H:=bS H
  obtain ⟨⟨t528,t529,t530,t531⟩,A34,H⟩:=H
  try dsimp only at H
  replace H:=bS H
  obtain ⟨⟨t532,t533,t534,t535⟩,A35,H⟩:=H
  try dsimp only at H
  replace H:=bS H
  obtain ⟨⟨t536,t537,t538,t539⟩,A36,H⟩:=H
  try dsimp only at H
  simp only [Option.some.injEq,Prod.mk.injEq] at H
  obtain ⟨rfl,rfl,rfl,rfl,rfl,rfl,rfl,rfl⟩:=H
  go_enter Try.func52,Try.ntmps52
  go_wp2_with (first|((with_reducible refine aH (N:=2) rfl ?_);refine bxE (cs:=#[.int .i64 0,.int .i64 0]) (t:=28) ?_;intro gb497 hg w37 hbox hb;have BK497:=aA.mk hbox;have GW497:=sA hg;have GE497:=sA hg;replace HB:=lB hb;clear hb hbox hg)|((with_reducible refine aH (N:=3) rfl ?_);refine bxE (cs:=#[.int .i64 0,.int .i64 0]) (t:=28) ?_;intro gb498 hg w38 hbox hb;have BK498:=aA.mk hbox;have GW498:=sA hg;have GE498:=sA hg;have NB497_498:=nA hg BK497;have NB498_497:=nB hg BK497;have LT497_498:=nL hg BK497;replace BK497:=kB BK497 hb;replace HB:=lB hb;clear hb hbox hg)|((with_reducible refine aH (N:=4) rfl ?_);refine bxE (cs:=#[.int .i64 0,.int .i64 0]) (t:=28) ?_;intro gb499 hg w39 hbox hb;have BK499:=aA.mk hbox;have GW499:=sA hg;have GE499:=sA hg;have NB497_499:=nA hg BK497;have NB499_497:=nB hg BK497;have LT497_499:=nL hg BK497;have NB498_499:=nA hg BK498;have NB499_498:=nB hg BK498;have LT498_499:=nL hg BK498;replace BK497:=kB BK497 hb;replace BK498:=kB BK498 hb;replace HB:=lB hb;clear hb hbox hg)|((with_reducible refine aH (N:=5) rfl ?_);refine bxE (cs:=#[.int .i64 0,.int .i64 0]) (t:=28) ?_;intro gb500 hg w40 hbox hb;have BK500:=aA.mk hbox;have GW500:=sA hg;have GE500:=sA hg;have NB497_500:=nA hg BK497;have NB500_497:=nB hg BK497;have LT497_500:=nL hg BK497;have NB498_500:=nA hg BK498;have NB500_498:=nB hg BK498;have LT498_500:=nL hg BK498;have NB499_500:=nA hg BK499;have NB500_499:=nB hg BK499;have LT499_500:=nL hg BK499;replace BK497:=kB BK497 hb;replace BK498:=kB BK498 hb;replace BK499:=kB BK499 hb;replace HB:=lB hb;clear hb hbox hg)|((with_reducible refine bK (f:=39) rfl ?_);refine gL (some 8) rfl Try.func39 #[.slice A0 l0.length c0] ?_;(with_reducible refine (ao.calls k _ _ l0 t501 t502 t503 w _ ?side1 ?side2 ?side3 A2.out).mono ?_);(case side1=>exact blI);(case side2=>exact HR0.out);(case side3=>exact HC0.out);rintro e w41 ⟨g504,rfl,hi,hb,hb2⟩;refine ⟨_,rfl,?_⟩;have HI504:=aA.mk hi;have NB504_497:=aA.mk (aW.ne_blk hi (aE (bkA BK497) hb2) (by decide));have NB497_504:=aA.mk (Ne.symm (aW.ne_blk hi (aE (bkA BK497) hb2) (by decide)));have NB504_498:=aA.mk (aW.ne_blk hi (aE (bkA BK498) hb2) (by decide));have NB498_504:=aA.mk (Ne.symm (aW.ne_blk hi (aE (bkA BK498) hb2) (by decide)));have NB504_499:=aA.mk (aW.ne_blk hi (aE (bkA BK499) hb2) (by decide));have NB499_504:=aA.mk (Ne.symm (aW.ne_blk hi (aE (bkA BK499) hb2) (by decide)));have NB504_500:=aA.mk (aW.ne_blk hi (aE (bkA BK500) hb2) (by decide));have NB500_504:=aA.mk (Ne.symm (aW.ne_blk hi (aE (bkA BK500) hb2) (by decide)));replace BK497:=kB BK497 hb2;replace BK498:=kB BK498 hb2;replace BK499:=kB BK499 hb2;replace BK500:=kB BK500 hb2;replace HB:=aA.mk hb;clear hi hb hb2)|((with_reducible refine gd 10 rfl ?_);refine gC (some 10) rfl Try.func50 (ae.calls (w:=_) (g:=g504) (w0:=w) (hI:=iA HI504) (hB:=blI) (h:=A3.out)) ?_;rintro w42 ⟨hi,hb,hk⟩;replace BK497:=kbk hk BK497 NB497_504;replace BK498:=kbk hk BK498 NB498_504;replace BK499:=kbk hk BK499 NB499_504;replace BK500:=kbk hk BK500 NB500_504;replace HB:=aA.mk hb;replace HI504:=aA.mk hi;clear hi hb hk)|((with_reducible refine gd 21 rfl ?_);refine gC (some 21) rfl Try.func41 (au.calls (w:=_) (g:=g504) (w0:=w) (hI:=iA HI504) (hB:=blI) (h:=A33.out)) ?_;rintro w43 ⟨hi,hb,hk⟩;replace BK497:=kbk hk BK497 NB497_504;replace BK498:=kbk hk BK498 NB498_504;replace BK499:=kbk hk BK499 NB499_504;replace BK500:=kbk hk BK500 NB500_504;replace HB:=aA.mk hb;replace HI504:=aA.mk hi;clear hi hb hk)|((with_reducible refine gd 23 rfl ?_);refine gC (some 23) rfl Try.func41 (au.calls (w:=_) (g:=g504) (w0:=w) (hI:=iA HI504) (hB:=blI) (h:=A34.out)) ?_;rintro w44 ⟨hi,hb,hk⟩;replace BK497:=kbk hk BK497 NB497_504;replace BK498:=kbk hk BK498 NB498_504;replace BK499:=kbk hk BK499 NB499_504;replace BK500:=kbk hk BK500 NB500_504;replace HB:=aA.mk hb;replace HI504:=aA.mk hi;clear hi hb hk)|((with_reducible refine gd 25 rfl ?_);refine gC (some 25) rfl Try.func41 (au.calls (w:=_) (g:=g504) (w0:=w) (hI:=iA HI504) (hB:=blI) (h:=A35.out)) ?_;rintro w45 ⟨hi,hb,hk⟩;replace BK497:=kbk hk BK497 NB497_504;replace BK498:=kbk hk BK498 NB498_504;replace BK499:=kbk hk BK499 NB499_504;replace BK500:=kbk hk BK500 NB500_504;replace HB:=aA.mk hb;replace HI504:=aA.mk hi;clear hi hb hk)|((with_reducible refine gd 27 rfl ?_);refine gC (some 27) rfl Try.func41 (au.calls (w:=_) (g:=g504) (w0:=w) (hI:=iA HI504) (hB:=blI) (h:=A36.out)) ?_;rintro w46 ⟨hi,hb,hk⟩;replace BK497:=kbk hk BK497 NB497_504;replace BK498:=kbk hk BK498 NB498_504;replace BK499:=kbk hk BK499 NB499_504;replace BK500:=kbk hk BK500 NB500_504;replace HB:=aA.mk hb;replace HI504:=aA.mk hi;clear hi hb hk;have hnb47:=LT497_498.out;have hnb48:=LT497_499.out;have hnb49:=LT497_500.out;have hnb50:=NB497_504.out;obtain ⟨hcz51_0,hcz51_1,hfz51_0,hfz51_1⟩:=cz2 BK497;have hnb52:=LT498_499.out;have hnb53:=LT498_500.out;have hnb54:=NB498_504.out;obtain ⟨hcz55_0,hcz55_1,hfz55_0,hfz55_1⟩:=cz2 BK498;have hnb56:=LT499_500.out;have hnb57:=NB499_504.out;obtain ⟨hcz58_0,hcz58_1,hfz58_0,hfz58_1⟩:=cz2 BK499;have hnb59:=NB500_504.out;obtain ⟨hcz60_0,hcz60_1,hfz60_0,hfz60_1⟩:=cz2 BK500))
  refine bodyPost_ret (dF (rs:=[.cell 2 28,.cell 3 28,.cell 4 28,.cell 5 28]) rfl (by simp) (.cell gb497 28 #[.int .i64 t524,.int .i64 t525] (0,0) _ rfl (bpA BK497) Try.underlying28 rfl (by kernel_rfl) (.cell gb498 28 #[.int .i64 t528,.int .i64 t529] (0,0) _ rfl (bpA BK498) Try.underlying28 rfl (by kernel_rfl) (.cell gb499 28 #[.int .i64 t532,.int .i64 t533] (0,0) _ rfl (bpA BK499) Try.underlying28 rfl (by kernel_rfl) (.cell gb500 28 #[.int .i64 t536,.int .i64 t537] (0,0) _ rfl (bpA BK500) Try.underlying28 rfl (by kernel_rfl) .nil))))) rfl ?_
  exact rf0 blI
def b6.f (k:Nat) (l0:List (S28)):Option (Int):=(bL.f k l0).bind fun t540=>(if t540=true then ((bI.f k l0).bind fun t541=>(if t541=true then (some 0) else (some 5))) else (some 1))
set_option maxHeartbeats 8000000 in
set_option maxRecDepth 100000 in
theorem b6.calls (k:Nat) (A0:Option Addr) (c0:Nat) (l0:List (S28)) (r:Int) (w:World) (hr0:Kd.C k28 w A0 l0.length l0) (hc0:l0.length≤c0) (h:b6.f k l0=some r) :
  Calls Try.prog 53 #[.slice A0 l0.length c0] w fun e w'=>e=.returned (.int .i64 r)∧Below w.heap.size w w':=by
 have HR0:=aA.mk hr0
 have HC0:=aA.mk hc0
 clear hr0 hc0
 have HB:=aA.mk (Below.refl w.heap.size w)
 have H:=h
 unfold b6.f at H
 clear h
 replace H:=bS H
 obtain ⟨t540,A2,H⟩:=H
 try dsimp only at H
 by_cases c3:t540=true
 ·
  subst c3
  rw [if_pos rfl] at H
  try dsimp only at H
  replace H:=bS H
  obtain ⟨t541,A4,H⟩:=H
  try dsimp only at H
  by_cases c5:t541=true
  focus
   subst c5
   rw [if_pos rfl] at H
   try dsimp only at H
   obtain rfl:=Option.some.inj H
  rotate_left
  focus
   replace c5:=Bool.eq_false_iff.mpr c5
   subst c5
   rw [if_neg (show ¬ (false=true) by decide)] at H
   try dsimp only at H
   obtain rfl:=Option.some.inj H
  rotate_left
  all_goals
   go_enter Try.func53,Try.ntmps53
   go_wp2_with (first|((with_reducible refine gd 5 rfl ?_);refine gC (some 5) rfl Try.func32 (bL.calls (w:=_) (hr0:=cR HR0.out) (hc0:=HC0.out) (h:=A2.out)) ?_;intro w6 hb;replace HB:=lB hb;clear hb)|((with_reducible refine gd 9 rfl ?_);refine gC (some 9) rfl Try.func33 (bI.calls (w:=_) (hr0:=cR (Kd.C_below HR0.out HB.out)) (hc0:=HC0.out) (h:=A4.out)) ?_;intro w7 hb;replace HB:=lB hb;clear hb))
  ·
   go_ret
   exact bU blA
  ·
   go_ret
   exact bU blA
 ·
  replace c3:=Bool.eq_false_iff.mpr c3
  subst c3
  rw [if_neg (show ¬ (false=true) by decide)] at H
  try dsimp only at H
  obtain rfl:=Option.some.inj H
  go_enter Try.func53,Try.ntmps53
  go_wp2_with (first|((with_reducible refine gd 5 rfl ?_);refine gC (some 5) rfl Try.func32 (bL.calls (w:=_) (hr0:=cR HR0.out) (hc0:=HC0.out) (h:=A2.out)) ?_;intro w10 hb;replace HB:=lB hb;clear hb))
  go_ret
  exact bU blA
end Go.Proofs.Ytpihnmmoahplgaa.PAll
