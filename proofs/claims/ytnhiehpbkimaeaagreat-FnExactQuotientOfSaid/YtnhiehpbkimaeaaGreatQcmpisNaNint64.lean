import Derived.Test.YtnhiehpbkimaeaaGreatQx
namespace Go.Proofs.YtnhiehpbkimaeaaGreat.PAll
open Go.RowKit Go.Proofs.YtnhiehpbkimaeaaGreatW.PrintWords Go.Proofs.YtnhiehpbkimaeaaGreatW.PrintLast Go.Proofs.YtnhiehpbkimaeaaGreatW.PrintMore
attribute [local go_sem] Go.Proofs.YtnhiehpbkimaeaaGreat.Aux.setCell_drewN Go.Proofs.YtnhiehpbkimaeaaGreat.Aux.isSome_setCell cC b9 cQ cP bm bl cB b8
set_option linter.unusedVariables false
set_option linter.unusedSimpArgs false
def bz.f (l0:List (S58)) (a1:Int):Option (Int):=if (wrap64 (a1 - (l0.length:Int)))<0 then (some (-1)) else (some (wrap64 (a1 - (l0.length:Int))))
set_option maxHeartbeats 8000000 in
set_option maxRecDepth 100000 in
theorem bz.calls (A0:Option Addr) (c0:Nat) (l0:List (S58)) (a1 r:Int) (w:World) (hr0:Kd.C k58 w A0 l0.length l0) (hc0:l0.length≤c0) (h:bz.f l0 a1=some r) :
  Calls Tryz.prog 5 #[.slice A0 l0.length c0,.int .i64 a1] w fun e w'=>e=.returned (.int .i64 r)∧aI w w':=by
 have HR0:=aA.mk hr0
 have HC0:=aA.mk hc0
 clear hr0 hc0
 have H:=h
 unfold bz.f at H
 clear h
 by_cases c3:(wrap64 (a1 - (l0.length:Int)))<0
 ·
  rw [if_pos c3] at H
  have c3b0:=decide_eq_true c3
  clear c3
  obtain rfl:=Option.some.inj H
  go_enter Tryz.func5,Tryz.ntmps5
  go_wp2
  go_ret
  exact ⟨by first|rfl|(simp;done)|(simp [*];done),by repeat (first|exact aI.refl _|apply aI.step)⟩
 ·
  rw [if_neg c3] at H
  have c3b0:=decide_eq_false c3
  clear c3
  obtain rfl:=Option.some.inj H
  go_enter Tryz.func5,Tryz.ntmps5
  go_wp2
  go_ret
  exact ⟨by first|rfl|(simp;done)|(simp [*];done),by repeat (first|exact aI.refl _|apply aI.step)⟩
def aq.f (a0:Int):Option (Bool):=if a0=2 then (some true) else (if a0=3 then (some true) else (if a0=5 then (some true) else (some (a0 == 7))))
set_option maxHeartbeats 8000000 in
set_option maxRecDepth 100000 in
theorem aq.calls (a0:Int) (r:Bool) (w:World) (h:aq.f a0=some r) :
  Calls Tryz.prog 51 #[.int .i64 a0] w fun e w'=>e=.returned (.bool r)∧aI w w':=by
 have H:=h
 unfold aq.f at H
 clear h
 by_cases c2:a0=2
 ·
  rw [if_pos c2] at H
  have c2b0:(a0 == 2)=true:=beq_iff_eq.mpr c2
  have c2b1:(a0 != 2)=false:=bne_eq_false_iff_eq.mpr c2
  clear c2
  obtain rfl:=Option.some.inj H
  go_enter Tryz.func51,Tryz.ntmps51
  go_wp2
  go_ret
  exact ⟨by first|rfl|(simp;done)|(simp [*];done),by repeat (first|exact aI.refl _|apply aI.step)⟩
 ·
  rw [if_neg c2] at H
  have c2b0:(a0 == 2)=false:=beq_eq_false_iff_ne.mpr c2
  have c2b1:(a0 != 2)=true:=bne_iff_ne.mpr c2
  by_cases c3:a0=3
  ·
   rw [if_pos c3] at H
   have c3b0:(a0 == 3)=true:=beq_iff_eq.mpr c3
   have c3b1:(a0 != 3)=false:=bne_eq_false_iff_eq.mpr c3
   clear c3
   obtain rfl:=Option.some.inj H
   go_enter Tryz.func51,Tryz.ntmps51
   go_wp2
   go_ret
   exact ⟨by first|rfl|(simp;done)|(simp [*];done),by repeat (first|exact aI.refl _|apply aI.step)⟩
  ·
   rw [if_neg c3] at H
   have c3b0:(a0 == 3)=false:=beq_eq_false_iff_ne.mpr c3
   have c3b1:(a0 != 3)=true:=bne_iff_ne.mpr c3
   by_cases c4:a0=5
   ·
    rw [if_pos c4] at H
    have c4b0:(a0 == 5)=true:=beq_iff_eq.mpr c4
    have c4b1:(a0 != 5)=false:=bne_eq_false_iff_eq.mpr c4
    clear c4
    obtain rfl:=Option.some.inj H
    go_enter Tryz.func51,Tryz.ntmps51
    go_wp2
    go_ret
    exact ⟨by first|rfl|(simp;done)|(simp [*];done),by repeat (first|exact aI.refl _|apply aI.step)⟩
   ·
    rw [if_neg c4] at H
    have c4b0:(a0 == 5)=false:=beq_eq_false_iff_ne.mpr c4
    have c4b1:(a0 != 5)=true:=bne_iff_ne.mpr c4
    obtain rfl:=Option.some.inj H
    go_enter Tryz.func51,Tryz.ntmps51
    go_wp2
    go_ret
    exact ⟨by first|rfl|(simp;done)|(simp [*];done),by repeat (first|exact aI.refl _|apply aI.step)⟩
def av.f (a0 a1 a2:Int):Option (Bool):=if a0≥a1 then (some (decide (a0≤a2))) else (some false)
set_option maxHeartbeats 8000000 in
set_option maxRecDepth 100000 in
theorem av.calls (a0 a1 a2:Int) (r:Bool) (w:World) (h:av.f a0 a1 a2=some r) :
  Calls Tryz.prog 52 #[.int .i64 a0,.int .i64 a1,.int .i64 a2] w fun e w'=>e=.returned (.bool r)∧aI w w':=by
 have H:=h
 unfold av.f at H
 clear h
 by_cases c4:a0≥a1
 ·
  rw [if_pos c4] at H
  have c4b0:decide (a1≤a0)=true:=decide_eq_true c4
  clear c4
  obtain rfl:=Option.some.inj H
  go_enter Tryz.func52,Tryz.ntmps52
  go_wp2
  go_ret
  exact ⟨by first|rfl|(simp;done)|(simp [*];done),by repeat (first|exact aI.refl _|apply aI.step)⟩
 ·
  rw [if_neg c4] at H
  have c4b0:decide (a1≤a0)=false:=decide_eq_false c4
  clear c4
  obtain rfl:=Option.some.inj H
  go_enter Tryz.func52,Tryz.ntmps52
  go_wp2
  go_ret
  exact ⟨by first|rfl|(simp;done)|(simp [*];done),by repeat (first|exact aI.refl _|apply aI.step)⟩
def dR.f (a0_0 a0_1 a0_2 a0_3:Int):Option (Int):=some (wrap64 ((wrap64 (a0_0*a0_3)) - (wrap64 (a0_1*a0_2))))
set_option maxHeartbeats 8000000 in
set_option maxRecDepth 100000 in
theorem dR.calls (a0_0 a0_1 a0_2 a0_3 r:Int) (w:World) (h:dR.f a0_0 a0_1 a0_2 a0_3=some r) :
  Calls Tryz.prog 93 #[.agg #[.int .i64 a0_0,.int .i64 a0_1,.int .i64 a0_2,.int .i64 a0_3]] w fun e w'=>e=.returned (.int .i64 r)∧Below w.heap.size w w':=by
 have hu59:=Tryz.underlying59
 have HB:=aA.mk (Below.refl w.heap.size w)
 have H:=h
 unfold dR.f at H
 clear h
 obtain rfl:=Option.some.inj H
 go_enter Tryz.func93,Tryz.ntmps93
 go_wp2_with (first|((with_reducible refine aN (N:=1) rfl ?_);refine bxE (cs:=#[.int .i64 a0_0,.int .i64 a0_1,.int .i64 a0_2,.int .i64 a0_3]) (t:=59) ?_;intro gb101 hg w2 hbox hb;have BK101:=aA.mk hbox;have GW101:=sA hg;have GE101:=sA hg;replace HB:=lB hb;clear hb hbox hg;obtain ⟨hcz3_0,hcz3_1,hcz3_2,hcz3_3,hfz3_0,hfz3_1,hfz3_2,hfz3_3⟩:=cz4 BK101))
 go_ret
 exact cE blA
def dW.f (a0_0 a0_1 a0_2 a0_3:Int):Option (Bool):=some (decide ((-1000≤a0_0∧a0_0≤1000)∧(-1000≤a0_1∧a0_1≤1000)∧(-1000≤a0_2∧a0_2≤1000)∧(-1000≤a0_3∧a0_3≤1000)∧wrap64 (wrap64 (a0_0*a0_3) - wrap64 (a0_1*a0_2))≠0))
set_option maxHeartbeats 8000000 in
set_option maxRecDepth 100000 in
theorem dW.calls (a0_0 a0_1 a0_2 a0_3:Int) (r:Bool) (w:World) (h:dW.f a0_0 a0_1 a0_2 a0_3=some r) :
  Calls Tryz.prog 94 #[.agg #[.int .i64 a0_0,.int .i64 a0_1,.int .i64 a0_2,.int .i64 a0_3]] w fun e w'=>e=.returned (.bool r)∧Below w.heap.size w w':=by
 have hr:r=decide ((-1000≤a0_0∧a0_0≤1000)∧(-1000≤a0_1∧a0_1≤1000)∧(-1000≤a0_2∧a0_2≤1000)∧(-1000≤a0_3∧a0_3≤1000)∧wrap64 (wrap64 (a0_0*a0_3) - wrap64 (a0_1*a0_2))≠0):=(Option.some.inj h).symm
 clear h
 have HR:=aA.mk hr
 clear hr
 go_enter Tryz.func94,Tryz.ntmps94
 go_wp2
 repeat any_goals (first|(rw [rounds_succ];go_wp2)|(refine wp_loop_rounds 3 ?_;rw [rounds_succ];go_wp2))
 all_goals go_returns
 all_goals refine ⟨bret ?_,by go_grown⟩
 all_goals rw [HR.out]
 all_goals clear HR
 all_goals try simp only [Bool.not_eq_true',Bool.not_eq_false',decide_eq_false_iff_not,decide_eq_true_eq] at *
 all_goals first
  | (symm;refine decide_eq_false ?_;omega)
  | (rw [Bool.eq_iff_iff];simp only [decide_eq_true_eq,bne_iff_ne];exact ⟨fun z=>⟨by omega,by omega,by omega,by omega,z⟩,fun z=>z.2.2.2.2⟩)
def aJ.l0:Nat→Int→Int→Int→Option (Int)
 | 0,_,_,_=>none
 | k+1,x0,x1,x5=>if x1>0 then (aJ.l0 k x0 (wrap64 (x1 - 1)) (wrap64 (x5*x0))) else (some x5)
def aJ.f (k:Nat) (a0 a1:Int):Option (Int):=aJ.l0 k a0 a1 1
set_option maxHeartbeats 8000000 in
set_option maxRecDepth 100000 in
theorem aJ.calls (k:Nat) (a0 a1 r:Int) (w:World) (h:aJ.f k a0 a1=some r) :
  Calls Tryz.prog 82 #[.int .i64 a0,.int .i64 a1] w fun e w'=>e=.returned (.int .i64 r)∧aI w w':=by
 have H:=h
 unfold aJ.f at H
 clear h
 have H':=aA.mk H
 clear H
 go_enter Tryz.func82,Tryz.ntmps82
 go_wp2
 go_loopg [1,5] k (fun kq v1 v5 w'=>∃ (x1_1:Int) (x5_1:Int),v1=.int .i64 x1_1∧v5=.int .i64 x5_1∧aA (aJ.l0 kq a0 x1_1 x5_1=some r)∧aA (kq≤k)∧aI w w')
 case atStart=>exact ⟨(a1),(1),hB,hB,H',⟨Nat.le_refl _⟩,by repeat (first|exact aI.refl _|apply aI.step)⟩
 case round=>
  clear H'
  obtain ⟨x1_1,x5_1,rfl,rfl,HA,HK1,⟨m1,rfl⟩⟩:=hrel
  cases gk with
  | zero=>exact absurd HA.out (by simp [aJ.l0])
  | succ k1=>
   have H:=HA.out
   clear HA
   simp only [aJ.l0] at H
   by_cases c3:x1_1>0
   ·
    rw [if_pos c3] at H
    have c3b0:decide (0<x1_1)=true:=decide_eq_true c3
    clear c3
    have H':=aA.mk H
    clear H
    go_wp2
    go_roundg k1
    case measure=>have:=HK1.out;omega
    case rel=>exact ⟨(wrap64 (x1_1 - 1)),(wrap64 (x5_1*a0)),hB,hB,H',⟨by have:=HK1.out;omega⟩,by repeat (first|exact aI.refl _|apply aI.step)⟩
   ·
    rw [if_neg c3] at H
    have c3b0:decide (0<x1_1)=false:=decide_eq_false c3
    clear c3
    obtain rfl:=Option.some.inj H
    go_wp2
    go_ret
    exact ⟨by first|rfl|(simp;done)|(simp [*];done),by repeat (first|exact aI.refl _|apply aI.step)⟩
def ak.l0:Nat→Int→Int→Int→Option (Int)
 | 0,_,_,_=>none
 | k+1,x0,x1,x5=>if x0=0 then (none) else (if (Int.tmod x1 x0)=0 then (ak.l0 k x0 (wrap64 (Int.tdiv x1 x0)) (wrap64 (x5+1))) else (some x5))
def ak.f (k:Nat) (a0 a1:Int):Option (Int):=ak.l0 k a0 a1 0
set_option maxHeartbeats 8000000 in
set_option maxRecDepth 100000 in
theorem ak.calls (k:Nat) (a0 a1 r:Int) (w:World) (h:ak.f k a0 a1=some r) :
  Calls Tryz.prog 92 #[.int .i64 a0,.int .i64 a1] w fun e w'=>e=.returned (.int .i64 r)∧aI w w':=by
 have H:=h
 unfold ak.f at H
 clear h
 have H':=aA.mk H
 clear H
 go_enter Tryz.func92,Tryz.ntmps92
 go_wp2
 go_loopg [1,5] k (fun kq v1 v5 w'=>∃ (x1_1:Int) (x5_1:Int),v1=.int .i64 x1_1∧v5=.int .i64 x5_1∧aA (ak.l0 kq a0 x1_1 x5_1=some r)∧aA (kq≤k)∧aI w w')
 case atStart=>exact ⟨(a1),(0),hB,hB,H',⟨Nat.le_refl _⟩,by repeat (first|exact aI.refl _|apply aI.step)⟩
 case round=>
  clear H'
  obtain ⟨x1_1,x5_1,rfl,rfl,HA,HK1,⟨m1,rfl⟩⟩:=hrel
  cases gk with
  | zero=>exact absurd HA.out (by simp [ak.l0])
  | succ k1=>
   have H:=HA.out
   clear HA
   simp only [ak.l0] at H
   by_cases c3:a0=0
   ·
    rw [if_pos c3] at H
    exact absurd H (by simp)
   rw [if_neg c3] at H
   have c3b0:(a0 == 0)=false:=beq_eq_false_iff_ne.mpr c3
   have c3b1:(a0 != 0)=true:=bne_iff_ne.mpr c3
   by_cases c4:(Int.tmod x1_1 a0)=0
   ·
    rw [if_pos c4] at H
    have c4b0:((Int.tmod x1_1 a0) == 0)=true:=beq_iff_eq.mpr c4
    have c4b1:((Int.tmod x1_1 a0) != 0)=false:=bne_eq_false_iff_eq.mpr c4
    clear c4
    have H':=aA.mk H
    clear H
    go_wp2
    go_roundg k1
    case measure=>have:=HK1.out;omega
    case rel=>exact ⟨(wrap64 (Int.tdiv x1_1 a0)),(wrap64 (x5_1+1)),hB,hB,H',⟨by have:=HK1.out;omega⟩,by repeat (first|exact aI.refl _|apply aI.step)⟩
   ·
    rw [if_neg c4] at H
    have c4b0:((Int.tmod x1_1 a0) == 0)=false:=beq_eq_false_iff_ne.mpr c4
    have c4b1:((Int.tmod x1_1 a0) != 0)=true:=bne_iff_ne.mpr c4
    obtain rfl:=Option.some.inj H
    go_wp2
    go_ret
    exact ⟨by first|rfl|(simp;done)|(simp [*];done),by repeat (first|exact aI.refl _|apply aI.step)⟩
def bi.f (a0 a1 a2:Int):Option (Int):=if a2=0 then (none) else (some (Int.tmod (wrap64 ((Int.tmod (wrap64 ((Int.tmod (wrap64 ((Int.tmod (wrap64 ((Int.tmod a0 a2)+a2)) a2)*(wrap64 (Int.tdiv (Int.tmod (wrap64 ((Int.tmod a1 a2)+a2)) a2) 1000000)))) a2)*1000000)) a2)+(Int.tmod (wrap64 ((Int.tmod (wrap64 ((Int.tmod a0 a2)+a2)) a2)*(Int.tmod (Int.tmod (wrap64 ((Int.tmod a1 a2)+a2)) a2) 1000000))) a2))) a2))
set_option maxHeartbeats 8000000 in
set_option maxRecDepth 100000 in
theorem bi.calls (a0 a1 a2 r:Int) (w:World) (h:bi.f a0 a1 a2=some r) :
  Calls Tryz.prog 111 #[.int .i64 a0,.int .i64 a1,.int .i64 a2] w fun e w'=>e=.returned (.int .i64 r)∧aI w w':=by
 have H:=h
 unfold bi.f at H
 clear h
 by_cases c4:a2=0
 ·
  rw [if_pos c4] at H
  exact absurd H (by simp)
 rw [if_neg c4] at H
 have c4b0:(a2 == 0)=false:=beq_eq_false_iff_ne.mpr c4
 have c4b1:(a2 != 0)=true:=bne_iff_ne.mpr c4
 obtain rfl:=Option.some.inj H
 go_enter Tryz.func111,Tryz.ntmps111
 go_wp2
 repeat (go_quiet (fail);try go_wp2)
 go_ret
 exact ⟨by first|rfl|(simp;done)|(simp [*];done),by repeat (first|exact aI.refl _|apply aI.step)⟩
def bP.l0:Nat→Int→Int→Int→Int→Int→Option (Int)
 | 0,_,_,_,_,_=>none
 | k+1,x1,x5,x6,x7,x8=>if x6=0 then (if x1=0 then (none) else (some (Int.tmod (wrap64 ((Int.tmod x7 x1)+x1)) x1))) else (bP.l0 k x1 x6 (wrap64 (x5 - (wrap64 ((wrap64 (Int.tdiv x5 x6))*x6)))) x8 (wrap64 (x7 - (wrap64 ((wrap64 (Int.tdiv x5 x6))*x8)))))
def bP.f (k:Nat) (a0 a1:Int):Option (Int):=if a1=0 then (none) else (bP.l0 k a1 (Int.tmod (wrap64 ((Int.tmod a0 a1)+a1)) a1) a1 1 0)
set_option maxHeartbeats 8000000 in
set_option maxRecDepth 100000 in
theorem bP.calls (k:Nat) (a0 a1 r:Int) (w:World) (h:bP.f k a0 a1=some r) :
  Calls Tryz.prog 112 #[.int .i64 a0,.int .i64 a1] w fun e w'=>e=.returned (.int .i64 r)∧aI w w':=by
 have H:=h
 unfold bP.f at H
 clear h
 by_cases c3:a1=0
 ·
  rw [if_pos c3] at H
  exact absurd H (by simp)
 rw [if_neg c3] at H
 have c3b0:(a1 == 0)=false:=beq_eq_false_iff_ne.mpr c3
 have c3b1:(a1 != 0)=true:=bne_iff_ne.mpr c3
 have H':=aA.mk H
 clear H
 go_enter Tryz.func112,Tryz.ntmps112
 go_wp2
 go_loopg [5,6,7,8] k (fun kq v5 v6 v7 v8 w'=>∃ (x5_1:Int) (x6_1:Int) (x7_1:Int) (x8_1:Int),v5=.int .i64 x5_1∧v6=.int .i64 x6_1∧v7=.int .i64 x7_1∧v8=.int .i64 x8_1∧aA (bP.l0 kq a1 x5_1 x6_1 x7_1 x8_1=some r)∧aA (kq≤k)∧aI w w')
 case atStart=>exact ⟨(Int.tmod (wrap64 ((Int.tmod a0 a1)+a1)) a1),(a1),(1),(0),hB,hB,hB,hB,H',⟨Nat.le_refl _⟩,by repeat (first|exact aI.refl _|apply aI.step)⟩
 case round=>
  clear H'
  try clear c3
  try clear c3b0
  try clear c3b1
  obtain ⟨x5_1,x6_1,x7_1,x8_1,rfl,rfl,rfl,rfl,HA,HK1,⟨m1,rfl⟩⟩:=hrel
  cases gk with
  | zero=>exact absurd HA.out (by simp [bP.l0])
  | succ k1=>
   have H:=HA.out
   clear HA
   simp only [bP.l0] at H
   by_cases c4:x6_1=0
   ·
    rw [if_pos c4] at H
    have c4b0:(x6_1 == 0)=true:=beq_iff_eq.mpr c4
    have c4b1:(x6_1 != 0)=false:=bne_eq_false_iff_eq.mpr c4
    clear c4
    by_cases c5:a1=0
    ·
     rw [if_pos c5] at H
     exact absurd H (by simp)
    rw [if_neg c5] at H
    have c5b0:(a1 == 0)=false:=beq_eq_false_iff_ne.mpr c5
    have c5b1:(a1 != 0)=true:=bne_iff_ne.mpr c5
    obtain rfl:=Option.some.inj H
    go_wp2
    go_ret
    exact ⟨by first|rfl|(simp;done)|(simp [*];done),by repeat (first|exact aI.refl _|apply aI.step)⟩
   ·
    rw [if_neg c4] at H
    have c4b0:(x6_1 == 0)=false:=beq_eq_false_iff_ne.mpr c4
    have c4b1:(x6_1 != 0)=true:=bne_iff_ne.mpr c4
    have H':=aA.mk H
    clear H
    go_wp2
    go_roundg k1
    case measure=>have:=HK1.out;omega
    case rel=>exact ⟨(x6_1),(wrap64 (x5_1 - (wrap64 ((wrap64 (Int.tdiv x5_1 x6_1))*x6_1)))),(x8_1),(wrap64 (x7_1 - (wrap64 ((wrap64 (Int.tdiv x5_1 x6_1))*x8_1)))),hB,hB,hB,hB,H',⟨by have:=HK1.out;omega⟩,by repeat (first|exact aI.refl _|apply aI.step)⟩
mutual
def aW.l0:Nat→List Int→List (List Int)→Int→Option ((List (List Int)))
 | 0,_,_,_=>none
 | k+1,x0,x3,x4=>if x4<(x0.length:Int) then (if 0≤x4 then (if (rd x0 x4)=x4 then (aW.l1 k x0 x3 x4 (([]:List Int)) x4) else (aW.l0 k x0 x3 (wrap64 (x4+1)))) else (none)) else (some x3)
def aW.l1:Nat→List Int→List (List Int)→Int→List Int→Int→Option ((List (List Int)))
 | 0,_,_,_,_,_=>none
 | k+1,x0,x3,x4,x5,x6=>if x6<(x0.length:Int) then (if 0≤x6 then (if (rd x0 x6)=x4 then (if x5.length<17592186044416 then (aW.l1 k x0 x3 x4 (x5 ++ [x6]) (wrap64 (x6+1))) else (none)) else (aW.l1 k x0 x3 x4 x5 (wrap64 (x6+1)))) else (none)) else (if x3.length<5864062014805 then (aW.l0 k x0 (x3 ++ [x5]) (wrap64 (x4+1))) else (none))
end
def aW.f (k:Nat) (l0:List Int):Option ((List (List Int))):=aW.l0 k l0 (([]:List (List Int))) 0
set_option maxHeartbeats 8000000 in
set_option maxRecDepth 100000 in
theorem aW.calls (k:Nat) (A0:Option Addr) (c0:Nat) (l0:List Int) (r:List (List Int)) (w:World) (hr0:Kd.C (Kd.int .i64) w A0 l0.length l0) (hc0:l0.length≤c0) (h:aW.f k l0=some r) :
  Calls Tryz.prog 28 #[.slice A0 l0.length c0] w fun e w'=>∃ v0_:Value,e=.returned (v0_)∧Kd.S (Kd.slice 2 (Kd.int .i64)) 50 w' w.heap.size (fun _=>True) v0_ r∧Below w.heap.size w w':=by
 have HR0:=aA.mk hr0
 have HC0:=aA.mk hc0
 clear hr0 hc0
 have HB:=aA.mk (Below.refl w.heap.size w)
 have H:=h
 unfold aW.f at H
 clear h
 obtain ⟨y225,hy225⟩:∃ y_:List (List Int),y_=(([]:List (List Int))):=⟨_,rfl⟩
 replace H:(aW.l0 k l0 y225 0)=some r:=rH hy225 H
 have Ny225:=aA.mk hy225
 clear hy225
 have H':=aA.mk H
 clear H
 go_enter Tryz.func28,Tryz.ntmps28
 go_wp2_with (first|((with_reducible refine aN (N:=7) rfl ?_);refine Kd.S_lit (Kd.slice 2 (Kd.int .i64)) _ 50 ?hg (N:=7) ?hd (xs:=([]:List (List Int))) (inner:=[]) (ok:=fun _=>True) (okp:=fun _=>True) ?hr ?hp (fun _ hk=>hk) trivial (Below.refl _ _) (Nat.le_refl _) (by simp) ?_;(case hd=>rfl);(case hg=>rfl);(case hr=>first|(go_simp;done)|(go_simp;rfl));(case hp=>exact (bD.none _ _));intro v226 w2 ho3 hb hg_ hnew_;clear hg_ hnew_;(first|rw [← Ny225.out] at ho3|(simp only [Int.reduceToNat] at ho3;rw [← Ny225.out] at ho3));have HO227:=aA.mk (Kd.S_lower ho3 (aQ blA));replace HB:=lB hb;clear hb ho3))
 go_loopg [3,4] k (fun kq v3 v4 w'=>∃ (x3_1:List (List Int)) (x4_1:Int),v4=.int .i64 x4_1∧aA (aW.l0 kq l0 x3_1 x4_1=some r)∧aA (kq≤k)∧aA (Kd.S (Kd.slice 2 (Kd.int .i64)) 50 w' w.heap.size (fun _=>True) v3 x3_1)∧aA (Below w.heap.size w w'))
 case atStart=>exact ⟨(y225),(0),hB,H',⟨Nat.le_refl _⟩,⟨by (with_reducible repeat (first|apply Kd.S_alloc|apply Kd.S_drewN|apply Kd.S_drew));exact HO227.out⟩,⟨blA⟩⟩
 case round=>
  clear H'
  obtain ⟨x3_1,x4_1,rfl,HA,HK1,HO_3,HB⟩:=hrel
  cases gk with
  | zero=>exact absurd HA.out (by simp [aW.l0])
  | succ k1=>
   have H:=HA.out
   clear HA
   simp only [aW.l0] at H
   by_cases c4:x4_1<(l0.length:Int)
   ·
    rw [if_pos c4] at H
    have c4b0:=decide_eq_true c4
    clear c4
    by_cases c5:0≤x4_1
    rotate_left
    ·
     rw [if_neg c5] at H
     exact absurd H (by simp)
    rw [if_pos c5] at H
    have c5b0:=decide_eq_true c5
    clear c5
    by_cases c6:(rd l0 x4_1)=x4_1
    ·
     rw [if_pos c6] at H
     have c6b0:((rd l0 x4_1) == x4_1)=true:=beq_iff_eq.mpr c6
     have c6b1:((rd l0 x4_1) != x4_1)=false:=bne_eq_false_iff_eq.mpr c6
     clear c6
     obtain ⟨y229,hy229⟩:∃ y_:List Int,y_=(([]:List Int)):=⟨_,rfl⟩
     replace H:(aW.l1 k1 l0 x3_1 x4_1 y229 x4_1)=some r:=rH hy229 H
     have Ny229:=aA.mk hy229
     clear hy229
     have H':=aA.mk H
     clear H
     have p228:0≤(x4_1:Int):=dA
     have q228:x4_1<(l0.length:Int):=dA
     obtain ⟨ad228,e228,hx228_0⟩:=Kd.at_int HR0.out x4_1 p228 q228
     cases e228
     replace hx228_0:=(HB.out.cell (World.block_lt_of_cell? w _ hx228_0)).trans hx228_0
     replace p228:=eq_true p228
     replace q228:=eq_true q228
     go_wp2_with (first|((with_reducible refine aN (N:=20) rfl ?_);refine Kd.R_lit (Kd.int .i64) _ 2 ?hg (N:=20) ?hd (xs:=([]:List Int)) (inner:=[]) (ok:=fun _=>True) (okp:=fun _=>True) ?hr ?hp (fun _ hk=>hk) trivial (Below.refl _ _) (Nat.le_refl _) (by simp) ?_;(case hd=>rfl);(case hg=>rfl);(case hr=>first|(go_simp;done)|(go_simp;rfl));(case hp=>exact (bD.none _ _));intro v230 w7 ho8 hb hg_ hnew_;clear hg_ hnew_;(first|rw [← Ny229.out] at ho8|(simp only [Int.reduceToNat] at ho8;rw [← Ny229.out] at ho8));have HO231:=aA.mk (Kd.R_lower ho8 (aQ blA));replace HO_3:=aA.mk (Kd.S_elder' (by (with_reducible repeat (first|apply Kd.S_alloc|apply Kd.S_drewN|apply Kd.S_drew));exact HO_3.out) (Kd.R_base ho8) hb);replace HB:=lB hb;clear hb ho8))
     go_loopg [5,6] k1 (fun kq v5 v6 w'=>∃ (x5_2:List Int) (x6_2:Int),v6=.int .i64 x6_2∧aA (aW.l1 kq l0 x3_1 x4_1 x5_2 x6_2=some r)∧aA (kq≤k1)∧aA (Kd.S (Kd.slice 2 (Kd.int .i64)) 50 w' w.heap.size (fun k_=>some k_≠(v5:Value).ownBlock) u3 x3_1)∧aA (Kd.R (Kd.int .i64) 2 w' w.heap.size (fun _=>True) v5 x5_2)∧aA (Below w.heap.size w w'))
     case atStart=>exact ⟨(y229),(x4_1),hB,H',⟨Nat.le_refl _⟩,⟨by (with_reducible repeat (first|apply Kd.S_alloc|apply Kd.S_drewN|apply Kd.S_drew));exact Kd.S_mono HO_3.out (fun _ hk=>hk.2)⟩,⟨rA HO231⟩,⟨blA⟩⟩
     case round=>
      clear H'
      try clear c4
      try clear c4b0
      try clear c5
      try clear c5b0
      try clear c6
      try clear c6b0
      try clear c6b1
      try clear hx228_0
      try clear p228
      try clear q228
      obtain ⟨x5_2,x6_2,rfl,HA,HK2,HO_3,HO_5,HB⟩:=hrel
      cases gk with
      | zero=>exact absurd HA.out (by simp [aW.l1])
      | succ k2=>
       have H:=HA.out
       clear HA
       simp only [aW.l1] at H
       by_cases c9:x6_2<(l0.length:Int)
       ·
        rw [if_pos c9] at H
        have c9b0:=decide_eq_true c9
        clear c9
        by_cases c10:0≤x6_2
        rotate_left
        ·
         rw [if_neg c10] at H
         exact absurd H (by simp)
        rw [if_pos c10] at H
        have c10b0:=decide_eq_true c10
        clear c10
        by_cases c11:(rd l0 x6_2)=x4_1
        ·
         rw [if_pos c11] at H
         have c11b0:((rd l0 x6_2) == x4_1)=true:=beq_iff_eq.mpr c11
         have c11b1:((rd l0 x6_2) != x4_1)=false:=bne_eq_false_iff_eq.mpr c11
         clear c11
         by_cases c12:x5_2.length<17592186044416
         rotate_left
         ·
          rw [if_neg c12] at H
          exact absurd H (by simp)
         rw [if_pos c12] at H
         have LMc12:=aA.mk c12
         clear c12
         obtain ⟨y233,hy233⟩:∃ y_:List Int,y_=(x5_2 ++ [x6_2]):=⟨_,rfl⟩
         replace H:(aW.l1 k2 l0 x3_1 x4_1 y233 (wrap64 (x6_2+1)))=some r:=rH hy233 H
         have Ny233:=aA.mk hy233
         clear hy233
         have H':=aA.mk H
         clear H
         have p232:0≤(x6_2:Int):=dA
         have q232:x6_2<(l0.length:Int):=dA
         obtain ⟨ad232,e232,hx232_0⟩:=Kd.at_int HR0.out x6_2 p232 q232
         obtain rfl:ad228=ad232:=(by injection e232)
         replace hx232_0:=(HB.out.cell (World.block_lt_of_cell? w _ hx232_0)).trans hx232_0
         replace p232:=eq_true p232
         replace q232:=eq_true q232
         go_wp2_with (first|((with_reducible refine bY (b:=.append) (xs:=#[.tmp 34,.tmp 36]) rfl ?_);at_builtin;refine Kd.R_append (Kd.int .i64) (w0:=w) w.heap.size rfl (.tmp 34) (.tmp 36) 50 2 (.int .i64 0) 8 rfl Tryz.underlying50 eH rfl (by decide) (by omega) u5 x5_2 x6_2 [.int .i64 x6_2] (fun _=>True) (fun _=>False) rfl rfl ?aP (fun _ hk=>hk.elim) ?aF ?aO ?aB ?aS ?aL ?_;(case aP=>exact rfl);(case aB=>exact blA);(case aF=>exact (fun _ _=>trivial));(case aO=>exact (rA HO_5));(case aS=>exact (aQ blA));(case aL=>have:=LMc12.out;omega);intro v234 w13 ho hb hg hat;rw [← Ny233.out] at ho;have HO235:=aA.mk ho;replace HO_3:=aA.mk (Kd.S_after (ok:=(fun _=>True)) (by (with_reducible repeat (first|apply Kd.S_alloc|apply Kd.S_drewN|apply Kd.S_drew));exact Kd.S_mono HO_3.out (fun _ hk=>⟨trivial,hk⟩)) hg hat);replace HB:=aA.mk hb;clear HO_5;clear ho hb hg hat))
         go_roundg k2
         case measure=>have:=HK1.out;have:=HK2.out;omega
         case rel=>exact ⟨(y233),(wrap64 (x6_2+1)),hB,H',⟨by have:=HK1.out;have:=HK2.out;omega⟩,⟨by (with_reducible repeat (first|apply Kd.S_alloc|apply Kd.S_drewN|apply Kd.S_drew));exact Kd.S_mono HO_3.out (fun _ hk=>hk.2)⟩,⟨rA HO235⟩,⟨blA⟩⟩
        ·
         rw [if_neg c11] at H
         have c11b0:((rd l0 x6_2) == x4_1)=false:=beq_eq_false_iff_ne.mpr c11
         have c11b1:((rd l0 x6_2) != x4_1)=true:=bne_iff_ne.mpr c11
         have H':=aA.mk H
         clear H
         have p232:0≤(x6_2:Int):=dA
         have q232:x6_2<(l0.length:Int):=dA
         obtain ⟨ad232,e232,hx232_0⟩:=Kd.at_int HR0.out x6_2 p232 q232
         obtain rfl:ad228=ad232:=(by injection e232)
         replace hx232_0:=(HB.out.cell (World.block_lt_of_cell? w _ hx232_0)).trans hx232_0
         replace p232:=eq_true p232
         replace q232:=eq_true q232
         go_wp2
         go_roundg k2
         case measure=>have:=HK1.out;have:=HK2.out;omega
         case rel=>exact ⟨(x5_2),(wrap64 (x6_2+1)),hB,H',⟨by have:=HK1.out;have:=HK2.out;omega⟩,⟨by (with_reducible repeat (first|apply Kd.S_alloc|apply Kd.S_drewN|apply Kd.S_drew));exact HO_3.out⟩,⟨rA HO_5⟩,⟨blA⟩⟩
       ·
        rw [if_neg c9] at H
        have c9b0:=decide_eq_false c9
        clear c9
        by_cases c14:x3_1.length<5864062014805
        rotate_left
        ·
         rw [if_neg c14] at H
         exact absurd H (by simp)
        rw [if_pos c14] at H
        have LMc14:=aA.mk c14
        clear c14
        obtain ⟨y236,hy236⟩:∃ y_:List (List Int),y_=(x3_1 ++ [x5_2]):=⟨_,rfl⟩
        replace H:(aW.l0 k2 l0 y236 (wrap64 (x4_1+1)))=some r:=rH hy236 H
        have Ny236:=aA.mk hy236
        clear hy236
        have H':=aA.mk H
        clear H
        obtain ⟨Ao16,co16,eo16⟩:=Kd.R_slice HO_5.out
        subst eo16
        go_wp2_with (first|((with_reducible refine bY (b:=.append) (xs:=#[.tmp 38,.tmp 40]) rfl ?_);at_builtin;refine Kd.S_append (Kd.slice 2 (Kd.int .i64)) (w0:=w) w.heap.size rfl (.tmp 38) (.tmp 40) 24 50 (.slice none 0 0) 24 rfl Tryz.underlying24 info50 rfl (by decide) (by omega) u3 x3_1 x5_2 [.slice Ao16 x5_2.length co16] (fun _=>True) (fun k_=>some k_=(.slice Ao16 x5_2.length co16:Value).ownBlock) rfl rfl ?aP (fun k_ hk_=>((Kd.R_mono (ok':=fun k_=>((fun _=>True)) k_∧some k_≠(u3:Value).ownBlock) (Kd.R_apart' (HO_5.out) (Kd.S_typed HO_3.out) (by decide)) (fun k_ hk=>⟨trivial,hk.2⟩))).1 k_ hk_.symm) ?aF ?aO ?aB ?aS ?aL ?_;(case aP=>exact Kd.M_row (Kd.R_mono (Kd.R_tight rfl (Kd.R_mono (ok':=fun k_=>((fun _=>True)) k_∧some k_≠(u3:Value).ownBlock) (Kd.R_apart' (HO_5.out) (Kd.S_typed HO_3.out) (by decide)) (fun k_ hk=>⟨trivial,hk.2⟩))) (fun _ h_=>h_)));(case aB=>exact blA);(case aF=>exact (fun _ _=>trivial));(case aO=>exact (by (with_reducible repeat (first|apply Kd.S_alloc|apply Kd.S_drewN|apply Kd.S_drew));exact Kd.S_mono HO_3.out (fun k_ hk=>⟨trivial,fun e_=>hk e_⟩)));(case aS=>exact (aQ blA));(case aL=>have:=LMc14.out;omega);intro v237 w15 ho hb hg hat;rw [← Ny236.out] at ho;have HO238:=aA.mk ho;replace HB:=aA.mk hb;clear HO_3 HO_5;clear ho hb hg hat))
        go_roundg k2
        case measure=>have:=HK1.out;have:=HK2.out;omega
        case rel=>exact ⟨(y236),(wrap64 (x4_1+1)),hB,H',⟨by have:=HK1.out;have:=HK2.out;omega⟩,⟨by (with_reducible repeat (first|apply Kd.S_alloc|apply Kd.S_drewN|apply Kd.S_drew));exact HO238.out⟩,⟨blA⟩⟩
    ·
     rw [if_neg c6] at H
     have c6b0:((rd l0 x4_1) == x4_1)=false:=beq_eq_false_iff_ne.mpr c6
     have c6b1:((rd l0 x4_1) != x4_1)=true:=bne_iff_ne.mpr c6
     have H':=aA.mk H
     clear H
     have p228:0≤(x4_1:Int):=dA
     have q228:x4_1<(l0.length:Int):=dA
     obtain ⟨ad228,e228,hx228_0⟩:=Kd.at_int HR0.out x4_1 p228 q228
     cases e228
     replace hx228_0:=(HB.out.cell (World.block_lt_of_cell? w _ hx228_0)).trans hx228_0
     replace p228:=eq_true p228
     replace q228:=eq_true q228
     go_wp2
     go_roundg k1
     case measure=>have:=HK1.out;omega
     case rel=>exact ⟨(x3_1),(wrap64 (x4_1+1)),hB,H',⟨by have:=HK1.out;omega⟩,⟨by (with_reducible repeat (first|apply Kd.S_alloc|apply Kd.S_drewN|apply Kd.S_drew));exact HO_3.out⟩,⟨blA⟩⟩
   ·
    rw [if_neg c4] at H
    have c4b0:=decide_eq_false c4
    clear c4
    obtain rfl:=Option.some.inj H
    go_wp2
    go_ret
    exact ⟨_,eW,by (with_reducible repeat (first|apply Kd.S_alloc|apply Kd.S_drewN|apply Kd.S_drew));exact HO_3.out,blA⟩
def dE.f (a0_0 a0_1 a0_2 a0_3:Int):Option (Int × Int × Int × Int):=some (a0_0,a0_1,a0_2,a0_3)
set_option maxHeartbeats 8000000 in
set_option maxRecDepth 100000 in
theorem dE.calls (a0_0 a0_1 a0_2 a0_3 r1 r2 r3 r4:Int) (w:World) (h:dE.f a0_0 a0_1 a0_2 a0_3=some (r1,r2,r3,r4)) :
  Calls Tryz.prog 31 #[.agg #[.int .i64 a0_0,.int .i64 a0_1,.int .i64 a0_2,.int .i64 a0_3]] w fun e w'=>e=.returned (.agg #[.int .i64 r1,.int .i64 r2,.int .i64 r3,.int .i64 r4])∧Below w.heap.size w w':=by
 obtain ⟨rfl,rfl,rfl,rfl⟩:a0_0=r1∧a0_1=r2∧a0_2=r3∧a0_3=r4:=by simpa [dE.f] using h
 clear h
 go_enter Tryz.func31,Tryz.ntmps31
 go_wp2
 refine wp_loop_rounds 3 ?_
 rw [rounds_succ];go_wp2
 go_rounds 3
 go_rounds 3
 refine bodyPost_ret (v:=.agg #[.int .i64 a0_0,.int .i64 a0_1,.int .i64 a0_2,.int .i64 a0_3]) (by simp [results,Tryz.results31,go_sem]) rfl ⟨rfl,?_⟩
 go_grown
def cm.f (a0:Int):Option (Bool):=if a0=2 then (some true) else (if a0=3 then (some true) else (if a0=5 then (some true) else (some (a0 == 7))))
set_option maxHeartbeats 8000000 in
set_option maxRecDepth 100000 in
theorem cm.calls (a0:Int) (r:Bool) (w:World) (h:cm.f a0=some r) :
  Calls Tryz.prog 49 #[.int .i64 a0] w fun e w'=>e=.returned (.bool r)∧aI w w':=by
 have H:=h
 unfold cm.f at H
 clear h
 by_cases c2:a0=2
 ·
  rw [if_pos c2] at H
  have c2b0:(a0 == 2)=true:=beq_iff_eq.mpr c2
  have c2b1:(a0 != 2)=false:=bne_eq_false_iff_eq.mpr c2
  clear c2
  obtain rfl:=Option.some.inj H
  go_enter Tryz.func49,Tryz.ntmps49
  go_wp2
  go_ret
  exact ⟨by first|rfl|(simp;done)|(simp [*];done),by repeat (first|exact aI.refl _|apply aI.step)⟩
 ·
  rw [if_neg c2] at H
  have c2b0:(a0 == 2)=false:=beq_eq_false_iff_ne.mpr c2
  have c2b1:(a0 != 2)=true:=bne_iff_ne.mpr c2
  by_cases c3:a0=3
  ·
   rw [if_pos c3] at H
   have c3b0:(a0 == 3)=true:=beq_iff_eq.mpr c3
   have c3b1:(a0 != 3)=false:=bne_eq_false_iff_eq.mpr c3
   clear c3
   obtain rfl:=Option.some.inj H
   go_enter Tryz.func49,Tryz.ntmps49
   go_wp2
   go_ret
   exact ⟨by first|rfl|(simp;done)|(simp [*];done),by repeat (first|exact aI.refl _|apply aI.step)⟩
  ·
   rw [if_neg c3] at H
   have c3b0:(a0 == 3)=false:=beq_eq_false_iff_ne.mpr c3
   have c3b1:(a0 != 3)=true:=bne_iff_ne.mpr c3
   by_cases c4:a0=5
   ·
    rw [if_pos c4] at H
    have c4b0:(a0 == 5)=true:=beq_iff_eq.mpr c4
    have c4b1:(a0 != 5)=false:=bne_eq_false_iff_eq.mpr c4
    clear c4
    obtain rfl:=Option.some.inj H
    go_enter Tryz.func49,Tryz.ntmps49
    go_wp2
    go_ret
    exact ⟨by first|rfl|(simp;done)|(simp [*];done),by repeat (first|exact aI.refl _|apply aI.step)⟩
   ·
    rw [if_neg c4] at H
    have c4b0:(a0 == 5)=false:=beq_eq_false_iff_ne.mpr c4
    have c4b1:(a0 != 5)=true:=bne_iff_ne.mpr c4
    obtain rfl:=Option.some.inj H
    go_enter Tryz.func49,Tryz.ntmps49
    go_wp2
    go_ret
    exact ⟨by first|rfl|(simp;done)|(simp [*];done),by repeat (first|exact aI.refl _|apply aI.step)⟩
def dF.f (a0:Int):Option (Bool):=if a0≥0 then (some (decide (a0≤3))) else (some false)
set_option maxHeartbeats 8000000 in
set_option maxRecDepth 100000 in
theorem dF.calls (a0:Int) (r:Bool) (w:World) (h:dF.f a0=some r) :
  Calls Tryz.prog 50 #[.int .i64 a0] w fun e w'=>e=.returned (.bool r)∧aI w w':=by
 have H:=h
 unfold dF.f at H
 clear h
 by_cases c2:a0≥0
 ·
  rw [if_pos c2] at H
  have c2b0:decide (0≤a0)=true:=decide_eq_true c2
  clear c2
  obtain rfl:=Option.some.inj H
  go_enter Tryz.func50,Tryz.ntmps50
  go_wp2
  go_ret
  exact ⟨by first|rfl|(simp;done)|(simp [*];done),by repeat (first|exact aI.refl _|apply aI.step)⟩
 ·
  rw [if_neg c2] at H
  have c2b0:decide (0≤a0)=false:=decide_eq_false c2
  clear c2
  obtain rfl:=Option.some.inj H
  go_enter Tryz.func50,Tryz.ntmps50
  go_wp2
  go_ret
  exact ⟨by first|rfl|(simp;done)|(simp [*];done),by repeat (first|exact aI.refl _|apply aI.step)⟩
def bj.f (a0_0 a0_1 a0_2 a0_3:Int):Option (Int):=some (wrap64 ((wrap64 (a0_0*a0_3)) - (wrap64 (a0_1*a0_2))))
set_option maxHeartbeats 8000000 in
set_option maxRecDepth 100000 in
theorem bj.calls (a0_0 a0_1 a0_2 a0_3 r:Int) (w:World) (h:bj.f a0_0 a0_1 a0_2 a0_3=some r) :
  Calls Tryz.prog 88 #[.agg #[.int .i64 a0_0,.int .i64 a0_1,.int .i64 a0_2,.int .i64 a0_3]] w fun e w'=>e=.returned (.int .i64 r)∧Below w.heap.size w w':=by
 have hu59:=Tryz.underlying59
 have HB:=aA.mk (Below.refl w.heap.size w)
 have H:=h
 unfold bj.f at H
 clear h
 obtain rfl:=Option.some.inj H
 go_enter Tryz.func88,Tryz.ntmps88
 go_wp2_with (first|((with_reducible refine aN (N:=1) rfl ?_);refine bxE (cs:=#[.int .i64 a0_0,.int .i64 a0_1,.int .i64 a0_2,.int .i64 a0_3]) (t:=59) ?_;intro gb339 hg w2 hbox hb;have BK339:=aA.mk hbox;have GW339:=sA hg;have GE339:=sA hg;replace HB:=lB hb;clear hb hbox hg;obtain ⟨hcz3_0,hcz3_1,hcz3_2,hcz3_3,hfz3_0,hfz3_1,hfz3_2,hfz3_3⟩:=cz4 BK339))
 go_ret
 exact cE blA
def bb.l0:Nat→Int→List Int→Int→Int→Option (Bool)
 | 0,_,_,_,_=>none
 | k+1,x0,x7,x8,x9=>if x9<x8 then (if 0≤x9 then (if x9<(x7.length:Int) then (if (rd x7 x9)<(wrap64 (-x0)) then (some false) else (if (rd x7 x9)>x0 then (some false) else (bb.l0 k x0 x7 x8 (wrap64 (x9+1))))) else (none)) else (none)) else (some true)
def bb.f (k:Nat) (a0:Int) (l1:List Int):Option (Bool):=bb.l0 k a0 l1 (l1.length:Int) 0
set_option maxHeartbeats 8000000 in
set_option maxRecDepth 100000 in
theorem bb.calls (k:Nat) (a0:Int) (A1:Option Addr) (c1:Nat) (l1:List Int) (r:Bool) (w:World) (hr1:Kd.C (Kd.int .i64) w A1 l1.length l1) (hc1:l1.length≤c1) (h:bb.f k a0 l1=some r) :
  Calls Tryz.prog 133 #[.int .i64 a0,.slice A1 l1.length c1] w fun e w'=>e=.returned (.bool r)∧aI w w':=by
 have HR1:=aA.mk hr1
 have HC1:=aA.mk hc1
 clear hr1 hc1
 have H:=h
 unfold bb.f at H
 clear h
 have H':=aA.mk H
 clear H
 go_enter Tryz.func133,Tryz.ntmps133
 go_wp2
 go_loopg [9] k (fun kq v9 w'=>∃ (x9_1:Int),v9=.int .i64 x9_1∧aA (bb.l0 kq a0 l1 (l1.length:Int) x9_1=some r)∧aA (kq≤k)∧aI w w')
 case atStart=>exact ⟨(0),hB,H',⟨Nat.le_refl _⟩,by repeat (first|exact aI.refl _|apply aI.step)⟩
 case round=>
  clear H'
  try clear c1
  obtain ⟨x9_1,rfl,HA,HK1,⟨m1,rfl⟩⟩:=hrel
  cases gk with
  | zero=>exact absurd HA.out (by simp [bb.l0])
  | succ k1=>
   have H:=HA.out
   clear HA
   simp only [bb.l0] at H
   by_cases c3:x9_1<(l1.length:Int)
   ·
    rw [if_pos c3] at H
    have c3b0:=decide_eq_true c3
    clear c3
    by_cases c4:0≤x9_1
    rotate_left
    ·
     rw [if_neg c4] at H
     exact absurd H (by simp)
    rw [if_pos c4] at H
    have c4b0:=decide_eq_true c4
    clear c4
    by_cases c5:x9_1<(l1.length:Int)
    rotate_left
    ·
     rw [if_neg c5] at H
     exact absurd H (by simp)
    rw [if_pos c5] at H
    have c5b0:=decide_eq_true c5
    clear c5
    by_cases c6:(rd l1 x9_1)<(wrap64 (-a0))
    ·
     rw [if_pos c6] at H
     have c6b0:=decide_eq_true c6
     clear c6
     obtain rfl:=Option.some.inj H
     have p340:0≤(x9_1:Int):=dA
     have q340:x9_1<(l1.length:Int):=dA
     obtain ⟨ad340,e340,hx340_0⟩:=Kd.at_int HR1.out x9_1 p340 q340
     cases e340
     replace p340:=eq_true p340
     replace q340:=eq_true q340
     go_wp2
     go_ret
     exact ⟨by first|rfl|(simp;done)|(simp [*];done),by repeat (first|exact aI.refl _|apply aI.step)⟩
    ·
     rw [if_neg c6] at H
     have c6b0:=decide_eq_false c6
     clear c6
     by_cases c7:(rd l1 x9_1)>a0
     ·
      rw [if_pos c7] at H
      have c7b0:decide (a0<(rd l1 x9_1))=true:=decide_eq_true c7
      clear c7
      obtain rfl:=Option.some.inj H
      have p340:0≤(x9_1:Int):=dA
      have q340:x9_1<(l1.length:Int):=dA
      obtain ⟨ad340,e340,hx340_0⟩:=Kd.at_int HR1.out x9_1 p340 q340
      cases e340
      replace p340:=eq_true p340
      replace q340:=eq_true q340
      go_wp2
      go_ret
      exact ⟨by first|rfl|(simp;done)|(simp [*];done),by repeat (first|exact aI.refl _|apply aI.step)⟩
     ·
      rw [if_neg c7] at H
      have c7b0:decide (a0<(rd l1 x9_1))=false:=decide_eq_false c7
      clear c7
      have H':=aA.mk H
      clear H
      have p340:0≤(x9_1:Int):=dA
      have q340:x9_1<(l1.length:Int):=dA
      obtain ⟨ad340,e340,hx340_0⟩:=Kd.at_int HR1.out x9_1 p340 q340
      cases e340
      replace p340:=eq_true p340
      replace q340:=eq_true q340
      go_wp2
      go_roundg k1
      case measure=>have:=HK1.out;omega
      case rel=>exact ⟨(wrap64 (x9_1+1)),hB,H',⟨by have:=HK1.out;omega⟩,by repeat (first|exact aI.refl _|apply aI.step)⟩
   ·
    rw [if_neg c3] at H
    have c3b0:=decide_eq_false c3
    clear c3
    obtain rfl:=Option.some.inj H
    go_wp2
    go_ret
    exact ⟨by first|rfl|(simp;done)|(simp [*];done),by repeat (first|exact aI.refl _|apply aI.step)⟩
def ag.l0:Nat→Int→Int→Int→Int→Option (Int)
 | 0,_,_,_,_=>none
 | k+1,x0,x5,x6,x7=>if x7<x6 then (ag.l0 k x0 (wrap64 (x5*x0)) x6 (wrap64 (x7+1))) else (some x5)
def ag.f (k:Nat) (a0 a1:Int):Option (Int):=ag.l0 k a0 1 a1 0
set_option maxHeartbeats 8000000 in
set_option maxRecDepth 100000 in
theorem ag.calls (k:Nat) (a0 a1 r:Int) (w:World) (h:ag.f k a0 a1=some r) :
  Calls Tryz.prog 84 #[.int .i64 a0,.int .i64 a1] w fun e w'=>e=.returned (.int .i64 r)∧aI w w':=by
 have H:=h
 unfold ag.f at H
 clear h
 have H':=aA.mk H
 clear H
 go_enter Tryz.func84,Tryz.ntmps84
 go_wp2
 go_loopg [5,7] k (fun kq v5 v7 w'=>∃ (x5_1:Int) (x7_1:Int),v5=.int .i64 x5_1∧v7=.int .i64 x7_1∧aA (ag.l0 kq a0 x5_1 a1 x7_1=some r)∧aA (kq≤k)∧aI w w')
 case atStart=>exact ⟨(1),(0),hB,hB,H',⟨Nat.le_refl _⟩,by repeat (first|exact aI.refl _|apply aI.step)⟩
 case round=>
  clear H'
  obtain ⟨x5_1,x7_1,rfl,rfl,HA,HK1,⟨m1,rfl⟩⟩:=hrel
  cases gk with
  | zero=>exact absurd HA.out (by simp [ag.l0])
  | succ k1=>
   have H:=HA.out
   clear HA
   simp only [ag.l0] at H
   by_cases c3:x7_1<a1
   ·
    rw [if_pos c3] at H
    have c3b0:=decide_eq_true c3
    clear c3
    have H':=aA.mk H
    clear H
    go_wp2
    go_roundg k1
    case measure=>have:=HK1.out;omega
    case rel=>exact ⟨(wrap64 (x5_1*a0)),(wrap64 (x7_1+1)),hB,hB,H',⟨by have:=HK1.out;omega⟩,by repeat (first|exact aI.refl _|apply aI.step)⟩
   ·
    rw [if_neg c3] at H
    have c3b0:=decide_eq_false c3
    clear c3
    obtain rfl:=Option.some.inj H
    go_wp2
    go_ret
    exact ⟨by first|rfl|(simp;done)|(simp [*];done),by repeat (first|exact aI.refl _|apply aI.step)⟩
def aa.l0:Nat→Int→Int→Int→Option (Int)
 | 0,_,_,_=>none
 | k+1,x0,x1,x5=>if x0=0 then (none) else (if (Int.tmod x1 x0)=0 then (aa.l0 k x0 (wrap64 (Int.tdiv x1 x0)) (wrap64 (x5+1))) else (some x5))
def aa.f (k:Nat) (a0 a1:Int):Option (Int):=if a1=0 then (some 1000) else (aa.l0 k a0 a1 0)
set_option maxHeartbeats 8000000 in
set_option maxRecDepth 100000 in
theorem aa.calls (k:Nat) (a0 a1 r:Int) (w:World) (h:aa.f k a0 a1=some r) :
  Calls Tryz.prog 87 #[.int .i64 a0,.int .i64 a1] w fun e w'=>e=.returned (.int .i64 r)∧aI w w':=by
 have H:=h
 unfold aa.f at H
 clear h
 by_cases c3:a1=0
 ·
  rw [if_pos c3] at H
  have c3b0:(a1 == 0)=true:=beq_iff_eq.mpr c3
  have c3b1:(a1 != 0)=false:=bne_eq_false_iff_eq.mpr c3
  clear c3
  obtain rfl:=Option.some.inj H
  go_enter Tryz.func87,Tryz.ntmps87
  go_wp2
  go_ret
  exact ⟨by first|rfl|(simp;done)|(simp [*];done),by repeat (first|exact aI.refl _|apply aI.step)⟩
 ·
  rw [if_neg c3] at H
  have c3b0:(a1 == 0)=false:=beq_eq_false_iff_ne.mpr c3
  have c3b1:(a1 != 0)=true:=bne_iff_ne.mpr c3
  have H':=aA.mk H
  clear H
  go_enter Tryz.func87,Tryz.ntmps87
  go_wp2
  go_loopg [1,5] k (fun kq v1 v5 w'=>∃ (x1_1:Int) (x5_1:Int),v1=.int .i64 x1_1∧v5=.int .i64 x5_1∧aA (aa.l0 kq a0 x1_1 x5_1=some r)∧aA (kq≤k)∧aI w w')
  case atStart=>exact ⟨(a1),(0),hB,hB,H',⟨Nat.le_refl _⟩,by repeat (first|exact aI.refl _|apply aI.step)⟩
  case round=>
   clear H'
   try clear c3
   try clear c3b0
   try clear c3b1
   obtain ⟨x1_1,x5_1,rfl,rfl,HA,HK1,⟨m1,rfl⟩⟩:=hrel
   cases gk with
   | zero=>exact absurd HA.out (by simp [aa.l0])
   | succ k1=>
    have H:=HA.out
    clear HA
    simp only [aa.l0] at H
    by_cases c4:a0=0
    ·
     rw [if_pos c4] at H
     exact absurd H (by simp)
    rw [if_neg c4] at H
    have c4b0:(a0 == 0)=false:=beq_eq_false_iff_ne.mpr c4
    have c4b1:(a0 != 0)=true:=bne_iff_ne.mpr c4
    by_cases c5:(Int.tmod x1_1 a0)=0
    ·
     rw [if_pos c5] at H
     have c5b0:((Int.tmod x1_1 a0) == 0)=true:=beq_iff_eq.mpr c5
     have c5b1:((Int.tmod x1_1 a0) != 0)=false:=bne_eq_false_iff_eq.mpr c5
     clear c5
     have H':=aA.mk H
     clear H
     go_wp2
     go_roundg k1
     case measure=>have:=HK1.out;omega
     case rel=>exact ⟨(wrap64 (Int.tdiv x1_1 a0)),(wrap64 (x5_1+1)),hB,hB,H',⟨by have:=HK1.out;omega⟩,by repeat (first|exact aI.refl _|apply aI.step)⟩
    ·
     rw [if_neg c5] at H
     have c5b0:((Int.tmod x1_1 a0) == 0)=false:=beq_eq_false_iff_ne.mpr c5
     have c5b1:((Int.tmod x1_1 a0) != 0)=true:=bne_iff_ne.mpr c5
     obtain rfl:=Option.some.inj H
     go_wp2
     go_ret
     exact ⟨by first|rfl|(simp;done)|(simp [*];done),by repeat (first|exact aI.refl _|apply aI.step)⟩
def cM.f (a0:Int):Option (Bool):=if a0≥(-6) then (some (decide (a0≤6))) else (some false)
set_option maxHeartbeats 8000000 in
set_option maxRecDepth 100000 in
theorem cM.calls (a0:Int) (r:Bool) (w:World) (h:cM.f a0=some r) :
  Calls Tryz.prog 83 #[.int .i64 a0] w fun e w'=>e=.returned (.bool r)∧aI w w':=by
 have H:=h
 unfold cM.f at H
 clear h
 by_cases c2:a0≥(-6)
 ·
  rw [if_pos c2] at H
  have c2b0:decide ((-6)≤a0)=true:=decide_eq_true c2
  clear c2
  obtain rfl:=Option.some.inj H
  go_enter Tryz.func83,Tryz.ntmps83
  go_wp2
  go_ret
  exact ⟨by first|rfl|(simp;done)|(simp [*];done),by repeat (first|exact aI.refl _|apply aI.step)⟩
 ·
  rw [if_neg c2] at H
  have c2b0:decide ((-6)≤a0)=false:=decide_eq_false c2
  clear c2
  obtain rfl:=Option.some.inj H
  go_enter Tryz.func83,Tryz.ntmps83
  go_wp2
  go_ret
  exact ⟨by first|rfl|(simp;done)|(simp [*];done),by repeat (first|exact aI.refl _|apply aI.step)⟩
def cf.f (a0 a1:Int):Option (Int):=if a1=0 then (none) else (some (Int.tmod (wrap64 ((Int.tmod a0 a1)+a1)) a1))
set_option maxHeartbeats 8000000 in
set_option maxRecDepth 100000 in
theorem cf.calls (a0 a1 r:Int) (w:World) (h:cf.f a0 a1=some r) :
  Calls Tryz.prog 130 #[.int .i64 a0,.int .i64 a1] w fun e w'=>e=.returned (.int .i64 r)∧aI w w':=by
 have H:=h
 unfold cf.f at H
 clear h
 by_cases c3:a1=0
 ·
  rw [if_pos c3] at H
  exact absurd H (by simp)
 rw [if_neg c3] at H
 have c3b0:(a1 == 0)=false:=beq_eq_false_iff_ne.mpr c3
 have c3b1:(a1 != 0)=true:=bne_iff_ne.mpr c3
 obtain rfl:=Option.some.inj H
 go_enter Tryz.func130,Tryz.ntmps130
 go_wp2
 go_ret
 exact ⟨by first|rfl|(simp;done)|(simp [*];done),by repeat (first|exact aI.refl _|apply aI.step)⟩
def cW.f (a0 a1:Int):Option (List S43):=if 0≤a1∧a1≤1000000 then some [] else none
theorem cW.cut {w:World} {base n c:Nat} {A:Option Addr} {xs:List S43} (h:Kd.R k43 43 w base (fun _=>True) (.slice A n c) xs):Kd.R k43 43 w base (fun _=>True) (.slice A 0 c) []:=by
 obtain ⟨_,inner,ho,_⟩:=h
 obtain ⟨A',c',e⟩:=own_slice ho
 injection e with e1 e2 e3
 subst e2
 have:=own_take ho (m:=0) (Nat.zero_le _)
 rw [Nat.zero_mul,List.take_zero] at this
 exact ⟨fun _ _=>trivial,[],this,bD.none _ _⟩
set_option maxHeartbeats 8000000 in
set_option maxRecDepth 100000 in
theorem cW.calls (a0 a1:Int) (r:List S43) (w:World) (h:cW.f a0 a1=some r) :
  Calls Tryz.prog 99 #[.slice none 0 0,.int .i64 a1] w fun e w'=>∃ v0_:Value,e=.returned (v0_)∧Kd.R k43 43 w' w.heap.size (fun _=>True) v0_ r∧Below w.heap.size w w':=by
 unfold cW.f at h
 by_cases hb:0≤a1∧a1≤1000000
 case neg=>rw [if_neg hb] at h;cases h
 rw [if_pos hb] at h
 obtain rfl:=Option.some.inj h
 obtain ⟨h0,h1⟩:=hb
 have HB:=aA.mk (Below.refl w.heap.size w)
 have c0:decide (a1<0)=false:=decide_eq_false (by omega)
 have e0:wrap64 (a1 - 0)=a1:=by unfold wrap64;omega
 obtain ⟨i0,hi0,_,_,_⟩:=info_parts eE
 by_cases z:a1=0
 ·
  subst z
  go_enter Tryz.func99,Tryz.ntmps99
  go_wp2
  go_ret
  exact ⟨_,by first|rfl|(simp [bB,bA] <;> rfl),Kd.R_nil _ _ _ _ _,blA⟩
 ·
  have c1:decide (0<a1)=true:=decide_eq_true (by omega)
  go_enter Tryz.func99,Tryz.ntmps99
  go_wp2_with (first|((with_reducible refine bY (b:=.append) (xs:=#[.tmp 20,.tmp 21]) rfl ?_);at_builtin;refine Kd.R_append_zeros k43 (w0:=w) w.heap.size rfl (.tmp 20) (.tmp 21) 38 3 43 (.agg #[(.int .i64 0),(.int .i64 0),(.int .i64 0)]) 24 rfl Tryz.underlying38 Tryz.underlying3 eE rfl (by decide) (by omega) (.slice none 0 0) ([]:List S43) (⟨0,0,0⟩:S43) a1 (fun _=>True) rfl rfl ?aZ ?aF ?aO h0 ?aB ?aS ?aL ?_;(case aZ=>exact (de _ _ _ (⟨0,0,0⟩:S43)));(case aF=>exact (fun _ _=>trivial));(case aO=>exact Kd.R_nil _ _ _ _ _);(case aB=>exact blA);(case aS=>exact (aQ blA));(case aL=>simp only [List.length_nil];omega);intro v1 w1 ho hb hg hat;obtain ⟨A1,q1,e1⟩:=Kd.R_slice ho;subst e1;have hq:=(Kd.R_reads' ho).2.1;have hcut:=cut_to (P:=Tryz.prog) 38 43 .i64 Tryz.underlying38 hi0 A1 _ q1 0 (by omega) (by omega) hq;have hr:=cW.cut ho;have HO:=aA.mk hr;replace HB:=aA.mk hb;clear ho hb hg hat hr hq))
  go_ret
  exact ⟨_,by first|rfl|(simp [bB,bA] <;> rfl),HO.out,blA⟩
def bits_Mul64.f (a0 a1:Int):Option (Int × Int):=if 0≤a0∧a0<18446744073709551616∧0≤a1∧a1<18446744073709551616 then some (a0*a1 / 18446744073709551616,a0*a1 % 18446744073709551616) else none
theorem bits_Mul64.calls (a0 a1 r1 r2:Int) (w:World) (h:bits_Mul64.f a0 a1=some (r1,r2)) :
  Calls Tryz.prog 129 #[.int .u64 a0,.int .u64 a1] w fun e w'=>e=.returned (.tuple #[.int .u64 r1,.int .u64 r2])∧aI w w':=by
 unfold bits_Mul64.f at h
 by_cases c:0≤a0∧a0<18446744073709551616∧0≤a1∧a1<18446744073709551616
 ·
  rw [if_pos c] at h
  obtain ⟨h0,h1,h2,h3⟩:=c
  obtain ⟨x,rfl⟩:=Int.eq_ofNat_of_zero_le h0
  obtain ⟨y,rfl⟩:=Int.eq_ofNat_of_zero_le h2
  simp only [Option.some.injEq,Prod.mk.injEq] at h
  obtain ⟨rfl,rfl⟩:=h
  refine (Tryz.bits_Mul64 x y (by omega) (by omega) w).mono fun e w' ⟨he,hw⟩=>⟨he.trans ?_,hw ▸ aI.refl _⟩
  simp
 ·
  rw [if_neg c] at h;cases h
def bits_LeadingZeros64.f (a0:Int):Option (Int):=if 0≤a0∧a0≤18446744073709551615 then some (64 - (Lib.bitLen a0.toNat:Int)) else none
theorem bits_LeadingZeros64.calls (a0 r:Int) (w:World) (h:bits_LeadingZeros64.f a0=some r) :
  Calls Tryz.prog 137 #[.int .u64 a0] w fun e w'=>e=.returned (.int .i64 r)∧aI w w':=by
 unfold bits_LeadingZeros64.f at h
 by_cases c:0≤a0∧a0≤18446744073709551615
 ·
  rw [if_pos c] at h
  obtain rfl:=Option.some.inj h
  exact (Tryz.bits_LeadingZeros64 a0 w c.1 c.2).mono fun e w' ⟨he,hw⟩=>⟨he,hw ▸ aI.refl _⟩
 ·
  rw [if_neg c] at h;cases h
def bU.f (a0:Int):Option (Bool):=some (a0 != a0)
set_option maxHeartbeats 8000000 in
set_option maxRecDepth 100000 in
theorem bU.calls (a0:Int) (r:Bool) (w:World) (h:bU.f a0=some r) :
  Calls Tryz.prog 110 #[.int .i64 a0] w fun e w'=>e=.returned (.bool r)∧aI w w':=by
 have H:=h
 unfold bU.f at H
 clear h
 obtain rfl:=Option.some.inj H
 go_enter Tryz.func110,Tryz.ntmps110
 go_wp2
 go_ret
 exact ⟨by first|rfl|(simp;done)|(simp [*];done),by repeat (first|exact aI.refl _|apply aI.step)⟩
end Go.Proofs.YtnhiehpbkimaeaaGreat.PAll
