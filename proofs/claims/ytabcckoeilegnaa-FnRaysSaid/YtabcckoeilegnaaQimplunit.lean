-- turned out of the kit's print
import Derived.Test.YtabcckoeilegnaaQx
import Derived.Test.YtabcckoeilegnaaQimplmod
namespace Go.Proofs.Ytabcckoeilegnaa.PAll
open Go.RowKit Go.Proofs.YtabcckoeilegnaaW.PrintWords Go.Proofs.YtabcckoeilegnaaW.PrintLast Go.Proofs.YtabcckoeilegnaaW.PrintMore
attribute [local go_sem] Go.Proofs.Ytabcckoeilegnaa.Aux.setCell_drewN Go.Proofs.Ytabcckoeilegnaa.Aux.isSome_setCell max2_int min2_int max_two min_two max_three min_three max_four min_four
set_option linter.unusedVariables false
set_option linter.unusedSimpArgs false
def impl_unit.f (k:Nat) (a0 a1:Int):Option (Int):=(impl_valuation.f k a0 a1).bind fun t403=>((impl_power.f k a0 t403).bind fun t404=>(if t404=0 then (none) else (some (wrap64 (Int.tdiv a1 t404)))))
theorem impl_unit.mono:∀ a0 a1 k,LeO (impl_unit.f k a0 a1) (impl_unit.f (k+1) a0 a1):=by
 intro a0 a1 k
 unfold impl_unit.f
 repeat' first
   | with_reducible first|exact impl_power.mono ..|exact impl_valuation.mono ..|exact LeO.refl _|exact LeO.none _|refine LeO.ite ?_ ?_|refine LeO.bind ?_ fun _=>?_
set_option maxHeartbeats 8000000 in
set_option maxRecDepth 100000 in
theorem impl_unit.calls (k:Nat) (a0 a1 r:Int) (w:World) (h:impl_unit.f k a0 a1=some r) :
  Calls Try.prog 66 #[.int .i64 a0,.int .i64 a1] w fun e w'=>e=.returned (.int .i64 r)∧Drawn0 w w':=by
 have H:=h
 unfold impl_unit.f at H
 clear h
 replace H:=bS H
 obtain ⟨t403,A3,H⟩:=H
 try dsimp only at H
 replace H:=bS H
 obtain ⟨t404,A4,H⟩:=H
 try dsimp only at H
 by_cases c5:t404=0
 ·
  rw [if_pos c5] at H
  exact absurd H (by simp)
 rw [if_neg c5] at H
 have c5b0:(t404 == 0)=false:=beq_eq_false_iff_ne.mpr c5
 have c5b1:(t404 != 0)=true:=bne_iff_ne.mpr c5
 obtain rfl:=Option.some.inj H
 go_enter Try.func66,Try.ntmps66
 go_wp2_with (first|((with_reducible refine gd 9 rfl ?_);refine gC (some 9) rfl Try.func63 (impl_valuation.calls (w:=_) (h:=A3.out)) ?_;rintro _ ⟨nd,rfl⟩)|((with_reducible refine gd 10 rfl ?_);refine gC (some 10) rfl Try.func57 (impl_power.calls (w:=_) (h:=A4.out)) ?_;rintro _ ⟨nd,rfl⟩))
 go_ret
 exact ⟨by first|rfl|(simp;done)|(simp [*];done),by repeat (first|exact Drawn0.refl _|apply Drawn0.step)⟩
end Go.Proofs.Ytabcckoeilegnaa.PAll
