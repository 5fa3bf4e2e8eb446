import Derived.Test.YtpihnmmoahplgaaQx
import Derived.Test.YtpihnmmoahplgaaQspecl05Code
namespace Go.Proofs.Ytpihnmmoahplgaa.PAll
open Go.RowKit Go.Proofs.YtpihnmmoahplgaaW.PrintWords Go.Proofs.YtpihnmmoahplgaaW.PrintLast Go.Proofs.YtpihnmmoahplgaaW.PrintMore
attribute [local go_sem] Go.Proofs.Ytpihnmmoahplgaa.Aux.setCell_drewN Go.Proofs.Ytpihnmmoahplgaa.Aux.isSome_setCell Go.Proofs.Ytpihnmmoahplgaa.Aux.max_eight bq bo cG cF ba bZ bp bm
set_option linter.unusedVariables false
set_option linter.unusedSimpArgs false
def bN.f (k:Nat) (a0 a1_0 a1_1 a2_0 a2_1:Int):Option (Int):=(aj.f a1_0 a1_1 a2_0 a2_1).bind fun t124=>((a8.f k a0 t124).bind fun t125=>((a8.f k a0 a1_1).bind fun t126=>((a8.f k a0 a2_1).bind fun t127=>(some (wrap64 ((wrap64 (t125 - t126)) - t127))))))
def bN.T1:Bool × List (List Nat × List Nat):=(true,[([],[]),([],[]),([],[]),([1,2],[1,2]),([0,3,3],[0,3]),([],[]),([],[]),([6],[6]),([5,7,4],[5,7]),([4,8],[4,8]),([],[]),([],[]),([11],[11]),([10,12,8],[10,12]),([9,13],[9,13]),([14,13,0,1,2,3,4,5,6,7,8,9,10,11,12,13,14],[14])])
def bN.B1:List Nat:=[0,0,0,6,15,0,0,64,255,511,0,0,2048,7679,16383,32767]
theorem bN.tab1:ck .any (dC Try.f29 1)=bN.T1:=by kernel_rfl
theorem bN.bits1:br bN.T1.2 bN.B1=true:=by kernel_rfl
set_option maxHeartbeats 8000000 in
set_option maxRecDepth 100000 in
theorem bN.calls (k:Nat) (a0 a1_0 a1_1 a2_0 a2_1 r:Int) (w:World) (h:bN.f k a0 a1_0 a1_1 a2_0 a2_1=some r) :
  Calls Try.prog 29 #[.int .i64 a0,.agg #[.int .i64 a1_0,.int .i64 a1_1],.agg #[.int .i64 a2_0,.int .i64 a2_1]] w fun e w'=>e=.returned (.int .i64 r)∧Below w.heap.size w w':=by
 have hu28:=Try.underlying28
 have HB:=aA.mk (Below.refl w.heap.size w)
 have H:=h
 unfold bN.f at H
 clear h
 replace H:=bS H
 obtain ⟨t124,A4,H⟩:=H
 try dsimp only at H
 replace H:=bS H
 obtain ⟨t125,A5,H⟩:=H
 try dsimp only at H
 replace H:=bS H
 obtain ⟨t126,A6,H⟩:=H
 try dsimp only at H
 replace H:=bS H
 obtain ⟨t127,A7,H⟩:=H
 try dsimp only at H
 obtain rfl:=Option.some.inj H
 go_enter Try.func29,Try.ntmps29
 try go_wp2_with (first|((with_reducible refine aH (N:=4) rfl ?_);refine bxE (cs:=#[.int .i64 a1_0,.int .i64 a1_1]) (t:=28) ?_;intro gb122 hg w8 hbox hb;have BK122:=aA.mk hbox;have GW122:=sA hg;have GE122:=sA hg;replace HB:=lB hb;clear hb hbox hg)|((with_reducible refine aH (N:=5) rfl ?_);refine bxE (cs:=#[.int .i64 a2_0,.int .i64 a2_1]) (t:=28) ?_;intro gb123 hg w9 hbox hb;have LT122_123:=nL hg BK122;have BK123:=aA.mk hbox;have GW123:=sA hg;have GE123:=sA hg;replace BK122:=kB BK122 hb;replace HB:=lB hb;clear hb hbox hg))
 have n0_:=aA.mk (aK BK122.out)
 have n1_:=aA.mk (aK BK123.out)
 have n2_:=aA.mk (aV HB.out)
 clear BK122
 clear BK123
 clear HB
 have BK122:=n0_
 have BK123:=n1_
 have HB:=n2_
 clear n0_ n1_ n2_
 refine bf (n:=16) (S:=fun w'=>w'.cell? ⟨gb122,0,none⟩=some (.int .i64 a1_0)∧w'.cell? ⟨gb122,1,none⟩=some (.int .i64 a1_1)∧w'.cell? ⟨gb123,0,none⟩=some (.int .i64 a2_0)∧w'.cell? ⟨gb123,1,none⟩=some (.int .i64 a2_1)) (ds:=[]) #[Z,Z,Z,Z,Z,Z,Z,Z,Z,Z,Z,Z,Z,Z,Z,Z] (by kernel_rfl) rfl rfl ⟨cA BK122 0,cA BK122 1,cA BK123 0,cA BK123 1⟩ (fun hHeld=>?_);refine bH bN.tab1 bN.bits1 (fun HT_ HW_=>?_)
 generalize w9.drew=w10 at BK122 BK123 HB hHeld ⊢
 refine puA (i:=0) (N:=some 7) #[Y,Z,Z,Z,Z,Z,Z,Z,Z,Z,Z,Z,Z,Z,Z,Z] rfl rfl HT_ ?_
 refine puA (i:=5) (N:=some 12) #[Y,Z,Z,Z,Z,Y,Z,Z,Z,Z,Z,Z,Z,Z,Z,Z] rfl rfl HT_ ?_
 refine puA (i:=6) (N:=some 13) #[Y,Z,Z,Z,Z,Y,Y,Z,Z,Z,Z,Z,Z,Z,Z,Z] rfl rfl HT_ ?_
 refine puA (i:=10) (N:=some 17) #[Y,Z,Z,Z,Z,Y,Y,Z,Z,Z,Y,Z,Z,Z,Z,Z] rfl rfl HT_ ?_
 refine puA (i:=11) (N:=some 18) #[Y,Z,Z,Z,Z,Y,Y,Z,Z,Z,Y,Y,Z,Z,Z,Z] rfl rfl HT_ ?_
 refine taA (i:=1) (N:=some 8) #[Y,Y,Z,Z,Z,Y,Y,Z,Z,Z,Y,Y,Z,Z,Z,Z] rfl rfl HT_ HW_ hHeld ?_
 refine taA (i:=2) (N:=some 9) #[Y,Y,Y,Z,Z,Y,Y,Z,Z,Z,Y,Y,Z,Z,Z,Z] rfl rfl HT_ HW_ hHeld ?_
 refine taA (i:=7) (N:=some 14) #[Y,Y,Y,Z,Z,Y,Y,Y,Z,Z,Y,Y,Z,Z,Z,Z] rfl rfl HT_ HW_ hHeld ?_
 refine taA (i:=12) (N:=some 19) #[Y,Y,Y,Z,Z,Y,Y,Y,Z,Z,Y,Y,Y,Z,Z,Z] rfl rfl HT_ HW_ hHeld ?_
 refine bg (i:=3) (N:=some 10) #[Y,Y,Y,Y,Z,Y,Y,Y,Z,Z,Y,Y,Y,Z,Z,Z] rfl rfl (az HT_.out (by kernel_rfl)) (by decide) (fun K hK=>?_)
 refine goC Try.func57 (aj.calls (w:=_) (h:=A4.out)) ?_
 intro w11 hb
 replace BK122:=kB BK122 hb
 replace BK123:=kB BK123 hb
 replace HB:=lB hb
 (try clear hb)
 (try clear hb2)
 (try clear hk)
 (try clear hi)
 refine hK.out _ _ ⟨cA BK122 0,cA BK122 1,cA BK123 0,cA BK123 1⟩ (fun hHeld=>?_)
 clear hK K
 refine nmA ?_
 refine bg (i:=4) (N:=some 11) #[Y,Y,Y,Y,Y,Y,Y,Y,Z,Z,Y,Y,Y,Z,Z,Z] rfl rfl (az HT_.out (by kernel_rfl)) (by decide) (fun K hK=>?_)
 refine goC Try.func56 (a8.calls (w:=_) (h:=A5.out)) ?_
 rintro _ ⟨nd,rfl⟩
 refine hK.out _ _ ⟨cA BK122 0,cA BK122 1,cA BK123 0,cA BK123 1⟩ (fun hHeld=>?_)
 clear hK K
 refine nmA ?_
 refine bg (i:=8) (N:=some 15) #[Y,Y,Y,Y,Y,Y,Y,Y,Y,Z,Y,Y,Y,Z,Z,Z] rfl rfl (az HT_.out (by kernel_rfl)) (by decide) (fun K hK=>?_)
 refine goC Try.func56 (a8.calls (w:=_) (h:=A6.out)) ?_
 rintro _ ⟨nd,rfl⟩
 refine hK.out _ _ ⟨cA BK122 0,cA BK122 1,cA BK123 0,cA BK123 1⟩ (fun hHeld=>?_)
 clear hK K
 refine nmA ?_
 refine puA (i:=9) (N:=some 16) #[Y,Y,Y,Y,Y,Y,Y,Y,Y,Y,Y,Y,Y,Z,Z,Z] rfl rfl HT_ ?_
 refine bg (i:=13) (N:=some 20) #[Y,Y,Y,Y,Y,Y,Y,Y,Y,Y,Y,Y,Y,Y,Z,Z] rfl rfl (az HT_.out (by kernel_rfl)) (by decide) (fun K hK=>?_)
 refine goC Try.func56 (a8.calls (w:=_) (h:=A7.out)) ?_
 rintro _ ⟨nd,rfl⟩
 refine hK.out _ _ ⟨cA BK122 0,cA BK122 1,cA BK123 0,cA BK123 1⟩ (fun hHeld=>?_)
 clear hK K
 refine nmA ?_
 refine puA (i:=14) (N:=some 21) #[Y,Y,Y,Y,Y,Y,Y,Y,Y,Y,Y,Y,Y,Y,Y,Z] rfl rfl HT_ ?_
 refine puA (i:=15) (N:=some 6) #[Y,Y,Y,Y,Y,Y,Y,Y,Y,Y,Y,Y,Y,Y,Y,Y] rfl rfl HT_ ?_
 refine cL (bX HT_.out (by kernel_rfl)) ?_
 try go_wp2
 go_ret
 exact bU blA
end Go.Proofs.Ytpihnmmoahplgaa.PAll
