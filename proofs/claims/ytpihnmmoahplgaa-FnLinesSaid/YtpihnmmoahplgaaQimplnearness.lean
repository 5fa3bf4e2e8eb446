import Derived.Test.YtpihnmmoahplgaaQx
import Derived.Test.YtpihnmmoahplgaaQimplfractionsCode
import Derived.Test.YtpihnmmoahplgaaQspecl01End
namespace Go.Proofs.Ytpihnmmoahplgaa.PAll
open Go.RowKit Go.Proofs.YtpihnmmoahplgaaW.PrintWords Go.Proofs.YtpihnmmoahplgaaW.PrintLast Go.Proofs.YtpihnmmoahplgaaW.PrintMore
attribute [local go_sem] Go.Proofs.Ytpihnmmoahplgaa.Aux.setCell_drewN Go.Proofs.Ytpihnmmoahplgaa.Aux.isSome_setCell Go.Proofs.Ytpihnmmoahplgaa.Aux.max_eight bq bo cG cF ba bZ bp bm
set_option linter.unusedVariables false
set_option linter.unusedSimpArgs false
def bl.f (k:Nat) (a0 a1_0 a1_1 a1_2 a2 a3:Int):Option (Int):=(ar.f k a0 6).bind fun t360=>((cu.f k a0 a1_0 a1_1 a1_2).bind fun t361=>(if (wrap64 ((wrap64 (a2*t360)) - (wrap64 (t361*a3))))=0 then (some 1000) else ((aX.f k a0 (wrap64 ((wrap64 (a2*t360)) - (wrap64 (t361*a3))))).bind fun t362=>((aX.f k a0 a3).bind fun t363=>(some (wrap64 ((wrap64 (t362 - t363)) - 6)))))))
def bl.T1:Bool × List (List Nat × List Nat):=(true,[([],[]),([],[]),([1],[1]),([0,2],[0,2]),([],[]),([],[]),([4,5,2],[4,5]),([],[]),([6,7],[6,7]),([3,8],[3,8]),([9,6,0,1,2,3,4,5,6,7,8,9],[9])])
def bl.B1:List Nat:=[0,0,2,7,0,0,54,0,246,511,1023]
theorem bl.tab1:ck .any (dC Try.f91 1)=bl.T1:=by kernel_rfl
theorem bl.bits1:br bl.T1.2 bl.B1=true:=by kernel_rfl
set_option maxHeartbeats 8000000 in
set_option maxRecDepth 100000 in
theorem bl.calls (k:Nat) (a0 a1_0 a1_1 a1_2 a2 a3 r:Int) (w:World) (h:bl.f k a0 a1_0 a1_1 a1_2 a2 a3=some r) :
  Calls Try.prog 91 #[.int .i64 a0,.agg #[.int .i64 a1_0,.int .i64 a1_1,.int .i64 a1_2],.int .i64 a2,.int .i64 a3] w fun e w'=>e=.returned (.int .i64 r)∧Below w.heap.size w w':=by
 have hu25:=Try.underlying25
 have HB:=aA.mk (Below.refl w.heap.size w)
 have H:=h
 unfold bl.f at H
 clear h
 replace H:=bS H
 obtain ⟨t360,A5,H⟩:=H
 try dsimp only at H
 replace H:=bS H
 obtain ⟨t361,A6,H⟩:=H
 try dsimp only at H
 by_cases c7:(wrap64 ((wrap64 (a2*t360)) - (wrap64 (t361*a3))))=0
 focus
  rw [if_pos c7] at H
  have c7b0:((wrap64 ((wrap64 (a2*t360)) - (wrap64 (t361*a3)))) == 0)=true:=beq_iff_eq.mpr c7
  have c7b1:((wrap64 ((wrap64 (a2*t360)) - (wrap64 (t361*a3)))) != 0)=false:=bne_eq_false_iff_eq.mpr c7
  clear c7
  obtain rfl:=Option.some.inj H
 rotate_left
 focus
  rw [if_neg c7] at H
  have c7b0:((wrap64 ((wrap64 (a2*t360)) - (wrap64 (t361*a3)))) == 0)=false:=beq_eq_false_iff_ne.mpr c7
  have c7b1:((wrap64 ((wrap64 (a2*t360)) - (wrap64 (t361*a3)))) != 0)=true:=bne_iff_ne.mpr c7
  replace H:=bS H
  obtain ⟨t362,A11,H⟩:=H
  try dsimp only at H
  replace H:=bS H
  obtain ⟨t363,A12,H⟩:=H
  try dsimp only at H
  obtain rfl:=Option.some.inj H
 rotate_left
 all_goals
  go_enter Try.func91,Try.ntmps91
  try go_wp2_with (first|((with_reducible refine aH (N:=5) rfl ?_);refine bxE (cs:=#[.int .i64 a1_0,.int .i64 a1_1,.int .i64 a1_2]) (t:=25) ?_;intro gb359 hg w8 hbox hb;have BK359:=aA.mk hbox;have GW359:=sA hg;have GE359:=sA hg;replace HB:=lB hb;clear hb hbox hg))
  have n0_:=aA.mk (aK BK359.out)
  have n1_:=aA.mk (aV HB.out)
  clear BK359
  clear HB
  have BK359:=n0_
  have HB:=n1_
  clear n0_ n1_
  refine bf (n:=11) (S:=fun w'=>w'.cell? ⟨gb359,0,none⟩=some (.int .i64 a1_0)∧w'.cell? ⟨gb359,1,none⟩=some (.int .i64 a1_1)∧w'.cell? ⟨gb359,2,none⟩=some (.int .i64 a1_2)) (ds:=[]) #[Z,Z,Z,Z,Z,Z,Z,Z,Z,Z,Z] (by kernel_rfl) rfl rfl ⟨cA BK359 0,cA BK359 1,cA BK359 2⟩ (fun hHeld=>?_);refine bH bl.tab1 bl.bits1 (fun HT_ HW_=>?_)
  generalize w8.drew=w9 at BK359 HB hHeld ⊢
  refine puA (i:=0) (N:=some 10) #[Y,Z,Z,Z,Z,Z,Z,Z,Z,Z,Z] rfl rfl HT_ ?_
  refine puA (i:=1) (N:=some 11) #[Y,Y,Z,Z,Z,Z,Z,Z,Z,Z,Z] rfl rfl HT_ ?_
  refine puA (i:=4) (N:=some 14) #[Y,Y,Z,Z,Y,Z,Z,Z,Z,Z,Z] rfl rfl HT_ ?_
  refine puA (i:=7) (N:=some 17) #[Y,Y,Z,Z,Y,Z,Z,Y,Z,Z,Z] rfl rfl HT_ ?_
  refine taA (i:=5) (N:=some 15) #[Y,Y,Z,Z,Y,Y,Z,Y,Z,Z,Z] rfl rfl HT_ HW_ hHeld ?_
  refine bg (i:=2) (N:=some 12) #[Y,Y,Y,Z,Y,Y,Z,Y,Z,Z,Z] rfl rfl (az HT_.out (by kernel_rfl)) (by decide) (fun K hK=>?_)
  refine goC Try.func76 (ar.calls (w:=_) (h:=A5.out)) ?_
  rintro _ ⟨nd,rfl⟩
  refine hK.out _ _ ⟨cA BK359 0,cA BK359 1,cA BK359 2⟩ (fun hHeld=>?_)
  clear hK K
  refine nmA ?_
  refine puA (i:=3) (N:=some 13) #[Y,Y,Y,Y,Y,Y,Z,Y,Z,Z,Z] rfl rfl HT_ ?_
  refine bg (i:=6) (N:=some 16) #[Y,Y,Y,Y,Y,Y,Y,Y,Z,Z,Z] rfl rfl (az HT_.out (by kernel_rfl)) (by decide) (fun K hK=>?_)
  refine goC Try.func83 (cu.calls (w:=_) (h:=A6.out)) ?_
  intro w10 hb
  replace BK359:=kB BK359 hb
  replace HB:=lB hb
  (try clear hb)
  (try clear hb2)
  (try clear hk)
  (try clear hi)
  refine hK.out _ _ ⟨cA BK359 0,cA BK359 1,cA BK359 2⟩ (fun hHeld=>?_)
  clear hK K
  refine nmA ?_
  refine puA (i:=8) (N:=some 18) #[Y,Y,Y,Y,Y,Y,Y,Y,Y,Z,Z] rfl rfl HT_ ?_
  refine puA (i:=9) (N:=some 19) #[Y,Y,Y,Y,Y,Y,Y,Y,Y,Y,Z] rfl rfl HT_ ?_
  refine puA (i:=10) (N:=some 9) #[Y,Y,Y,Y,Y,Y,Y,Y,Y,Y,Y] rfl rfl HT_ ?_
  refine cL (bX HT_.out (by kernel_rfl)) ?_
  try go_wp2_with (first|((with_reducible refine gd 24 rfl ?_);refine gC (some 24) rfl Try.func54 (aX.calls (w:=_) (h:=A11.out)) ?_;rintro _ ⟨nd,rfl⟩)|((with_reducible refine gd 27 rfl ?_);refine gC (some 27) rfl Try.func54 (aX.calls (w:=_) (h:=A12.out)) ?_;rintro _ ⟨nd,rfl⟩))
 ·
  go_ret
  exact bU blA
 ·
  go_ret
  exact bU blA
end Go.Proofs.Ytpihnmmoahplgaa.PAll
