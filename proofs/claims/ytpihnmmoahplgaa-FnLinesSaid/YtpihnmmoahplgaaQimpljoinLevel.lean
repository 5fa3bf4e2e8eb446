import Derived.Test.YtpihnmmoahplgaaQx
import Derived.Test.YtpihnmmoahplgaaQimplfractionsCode
import Derived.Test.YtpihnmmoahplgaaQspecl01End
namespace Go.Proofs.Ytpihnmmoahplgaa.PAll
open Go.RowKit Go.Proofs.YtpihnmmoahplgaaW.PrintWords Go.Proofs.YtpihnmmoahplgaaW.PrintLast Go.Proofs.YtpihnmmoahplgaaW.PrintMore
attribute [local go_sem] Go.Proofs.Ytpihnmmoahplgaa.Aux.setCell_drewN Go.Proofs.Ytpihnmmoahplgaa.Aux.isSome_setCell Go.Proofs.Ytpihnmmoahplgaa.Aux.max_eight bq bo cG cF ba bZ bp bm
set_option linter.unusedVariables false
set_option linter.unusedSimpArgs false
def be.f (k:Nat) (a0 a1_0 a1_1 a1_2 a2_0 a2_1 a2_2:Int):Option (Int):=(cu.f k a0 a1_0 a1_1 a1_2).bind fun t389=>((cu.f k a0 a2_0 a2_1 a2_2).bind fun t390=>((aX.f k a0 (wrap64 (t389 - t390))).bind fun t391=>(some (mn (mn a1_0 a2_0) (wrap64 (t391 - 6))))))
def be.T1:Bool × List (List Nat × List Nat):=(true,[([],[]),([0],[0]),([],[]),([2],[2]),([],[]),([],[]),([],[]),([5,6],[5,6]),([],[]),([],[]),([8,9,7],[8,9]),([7,10],[7,10]),([4,11,10],[4,11]),([12],[12]),([1,3,13],[1,3,13]),([14,12,0,1,2,3,4,5,6,7,8,9,10,11,12,13,14],[14])])
def be.B1:List Nat:=[0,1,0,4,0,0,0,96,0,0,992,2016,4080,8176,16383,32767]
theorem be.tab1:ck .any (dC Try.f84 1)=be.T1:=by kernel_rfl
theorem be.bits1:br be.T1.2 be.B1=true:=by kernel_rfl
set_option maxHeartbeats 8000000 in
set_option maxRecDepth 100000 in
theorem be.calls (k:Nat) (a0 a1_0 a1_1 a1_2 a2_0 a2_1 a2_2 r:Int) (w:World) (h:be.f k a0 a1_0 a1_1 a1_2 a2_0 a2_1 a2_2=some r) :
  Calls Try.prog 84 #[.int .i64 a0,.agg #[.int .i64 a1_0,.int .i64 a1_1,.int .i64 a1_2],.agg #[.int .i64 a2_0,.int .i64 a2_1,.int .i64 a2_2]] w fun e w'=>e=.returned (.int .i64 r)∧Below w.heap.size w w':=by
 have hu25:=Try.underlying25
 have HB:=aA.mk (Below.refl w.heap.size w)
 have H:=h
 unfold be.f at H
 clear h
 replace H:=bS H
 obtain ⟨t389,A4,H⟩:=H
 try dsimp only at H
 replace H:=bS H
 obtain ⟨t390,A5,H⟩:=H
 try dsimp only at H
 replace H:=bS H
 obtain ⟨t391,A6,H⟩:=H
 try dsimp only at H
 obtain ⟨ji7,hji7⟩:∃ j_:Int,(mn a1_0 a2_0)=j_:=⟨_,rfl⟩
 replace H:(some (mn (ji7) (wrap64 (t391 - 6))))=some r:=by first|(rw [hji7] at H;exact H)|(simp only [hji7] at H ⊢;exact H)
 (try rw [hji7] at A4)
 (try rw [hji7] at A5)
 (try rw [hji7] at A6)
 have hji7_:(if a2_0<a1_0 then a2_0 else a1_0)=ji7:=hji7
 obtain ⟨ji8,hji8⟩:∃ j_:Int,(mn (ji7) (wrap64 (t391 - 6)))=j_:=⟨_,rfl⟩
 replace H:(some ji8)=some r:=by first|(rw [hji8] at H;exact H)|(simp only [hji8] at H ⊢;exact H)
 (try rw [hji8] at A4)
 (try rw [hji8] at A5)
 (try rw [hji8] at A6)
 have hji8_:(if (wrap64 (t391 - 6))<(ji7) then (wrap64 (t391 - 6)) else (ji7))=ji8:=hji8
 obtain rfl:=Option.some.inj H
 go_enter Try.func84,Try.ntmps84
 try go_wp2_with (first|((with_reducible refine aH (N:=4) rfl ?_);refine bxE (cs:=#[.int .i64 a1_0,.int .i64 a1_1,.int .i64 a1_2]) (t:=25) ?_;intro gb387 hg w9 hbox hb;have BK387:=aA.mk hbox;have GW387:=sA hg;have GE387:=sA hg;replace HB:=lB hb;clear hb hbox hg)|((with_reducible refine aH (N:=5) rfl ?_);refine bxE (cs:=#[.int .i64 a2_0,.int .i64 a2_1,.int .i64 a2_2]) (t:=25) ?_;intro gb388 hg w10 hbox hb;have LT387_388:=nL hg BK387;have BK388:=aA.mk hbox;have GW388:=sA hg;have GE388:=sA hg;replace BK387:=kB BK387 hb;replace HB:=lB hb;clear hb hbox hg))
 have n0_:=aA.mk (aK BK387.out)
 have n1_:=aA.mk (aK BK388.out)
 have n2_:=aA.mk (aV HB.out)
 clear BK387
 clear BK388
 clear HB
 have BK387:=n0_
 have BK388:=n1_
 have HB:=n2_
 clear n0_ n1_ n2_
 refine bf (n:=16) (S:=fun w'=>w'.cell? ⟨gb387,0,none⟩=some (.int .i64 a1_0)∧w'.cell? ⟨gb387,1,none⟩=some (.int .i64 a1_1)∧w'.cell? ⟨gb387,2,none⟩=some (.int .i64 a1_2)∧w'.cell? ⟨gb388,0,none⟩=some (.int .i64 a2_0)∧w'.cell? ⟨gb388,1,none⟩=some (.int .i64 a2_1)∧w'.cell? ⟨gb388,2,none⟩=some (.int .i64 a2_2)) (ds:=[]) #[Z,Z,Z,Z,Z,Z,Z,Z,Z,Z,Z,Z,Z,Z,Z,Z] (by kernel_rfl) rfl rfl ⟨cA BK387 0,cA BK387 1,cA BK387 2,cA BK388 0,cA BK388 1,cA BK388 2⟩ (fun hHeld=>?_);refine bH be.tab1 be.bits1 (fun HT_ HW_=>?_)
 generalize w10.drew=w11 at BK387 BK388 HB hHeld ⊢
 refine puA (i:=0) (N:=some 7) #[Y,Z,Z,Z,Z,Z,Z,Z,Z,Z,Z,Z,Z,Z,Z,Z] rfl rfl HT_ ?_
 refine puA (i:=2) (N:=some 9) #[Y,Z,Y,Z,Z,Z,Z,Z,Z,Z,Z,Z,Z,Z,Z,Z] rfl rfl HT_ ?_
 refine puA (i:=4) (N:=some 11) #[Y,Z,Y,Z,Y,Z,Z,Z,Z,Z,Z,Z,Z,Z,Z,Z] rfl rfl HT_ ?_
 refine puA (i:=5) (N:=some 12) #[Y,Z,Y,Z,Y,Y,Z,Z,Z,Z,Z,Z,Z,Z,Z,Z] rfl rfl HT_ ?_
 refine puA (i:=8) (N:=some 15) #[Y,Z,Y,Z,Y,Y,Z,Z,Y,Z,Z,Z,Z,Z,Z,Z] rfl rfl HT_ ?_
 refine taA (i:=1) (N:=some 8) #[Y,Y,Y,Z,Y,Y,Z,Z,Y,Z,Z,Z,Z,Z,Z,Z] rfl rfl HT_ HW_ hHeld ?_
 refine taA (i:=3) (N:=some 10) #[Y,Y,Y,Y,Y,Y,Z,Z,Y,Z,Z,Z,Z,Z,Z,Z] rfl rfl HT_ HW_ hHeld ?_
 refine taA (i:=6) (N:=some 13) #[Y,Y,Y,Y,Y,Y,Y,Z,Y,Z,Z,Z,Z,Z,Z,Z] rfl rfl HT_ HW_ hHeld ?_
 refine taA (i:=9) (N:=some 16) #[Y,Y,Y,Y,Y,Y,Y,Z,Y,Y,Z,Z,Z,Z,Z,Z] rfl rfl HT_ HW_ hHeld ?_
 refine bg (i:=7) (N:=some 14) #[Y,Y,Y,Y,Y,Y,Y,Y,Y,Y,Z,Z,Z,Z,Z,Z] rfl rfl (az HT_.out (by kernel_rfl)) (by decide) (fun K hK=>?_)
 refine goC Try.func83 (cu.calls (w:=_) (h:=A4.out)) ?_
 intro w12 hb
 replace BK387:=kB BK387 hb
 replace BK388:=kB BK388 hb
 replace HB:=lB hb
 (try clear hb)
 (try clear hb2)
 (try clear hk)
 (try clear hi)
 refine hK.out _ _ ⟨cA BK387 0,cA BK387 1,cA BK387 2,cA BK388 0,cA BK388 1,cA BK388 2⟩ (fun hHeld=>?_)
 clear hK K
 refine nmA ?_
 refine bg (i:=10) (N:=some 17) #[Y,Y,Y,Y,Y,Y,Y,Y,Y,Y,Y,Z,Z,Z,Z,Z] rfl rfl (az HT_.out (by kernel_rfl)) (by decide) (fun K hK=>?_)
 refine goC Try.func83 (cu.calls (w:=_) (h:=A5.out)) ?_
 intro w13 hb
 replace BK387:=kB BK387 hb
 replace BK388:=kB BK388 hb
 replace HB:=lB hb
 (try clear hb)
 (try clear hb2)
 (try clear hk)
 (try clear hi)
 refine hK.out _ _ ⟨cA BK387 0,cA BK387 1,cA BK387 2,cA BK388 0,cA BK388 1,cA BK388 2⟩ (fun hHeld=>?_)
 clear hK K
 refine nmA ?_
 refine puA (i:=11) (N:=some 18) #[Y,Y,Y,Y,Y,Y,Y,Y,Y,Y,Y,Y,Z,Z,Z,Z] rfl rfl HT_ ?_
 refine bg (i:=12) (N:=some 19) #[Y,Y,Y,Y,Y,Y,Y,Y,Y,Y,Y,Y,Y,Z,Z,Z] rfl rfl (az HT_.out (by kernel_rfl)) (by decide) (fun K hK=>?_)
 refine goC Try.func54 (aX.calls (w:=_) (h:=A6.out)) ?_
 rintro _ ⟨nd,rfl⟩
 refine hK.out _ _ ⟨cA BK387 0,cA BK387 1,cA BK387 2,cA BK388 0,cA BK388 1,cA BK388 2⟩ (fun hHeld=>?_)
 clear hK K
 refine nmA ?_
 refine puA (i:=13) (N:=some 20) #[Y,Y,Y,Y,Y,Y,Y,Y,Y,Y,Y,Y,Y,Y,Z,Z] rfl rfl HT_ ?_
 refine puA (i:=14) (N:=some 21) #[Y,Y,Y,Y,Y,Y,Y,Y,Y,Y,Y,Y,Y,Y,Y,Z] rfl rfl HT_ ?_
 refine puA (i:=15) (N:=some 6) #[Y,Y,Y,Y,Y,Y,Y,Y,Y,Y,Y,Y,Y,Y,Y,Y] rfl rfl HT_ ?_
 refine cL (bX HT_.out (by kernel_rfl)) ?_
 try go_wp2
 go_ret
 exact ⟨by first|rfl|(simp [bB,bA] <;> rfl)|(simp only [← hji7,← hji8];first|rfl|(simp [bB,bA] <;> rfl))|(simp [*,bB,bA] <;> rfl),blA⟩
end Go.Proofs.Ytpihnmmoahplgaa.PAll
