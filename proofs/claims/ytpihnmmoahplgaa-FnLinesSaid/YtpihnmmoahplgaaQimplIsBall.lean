import Derived.Test.YtpihnmmoahplgaaQx
import Derived.Test.YtpihnmmoahplgaaQspecl01End
namespace Go.Proofs.Ytpihnmmoahplgaa.PAll
open Go.RowKit Go.Proofs.YtpihnmmoahplgaaW.PrintWords Go.Proofs.YtpihnmmoahplgaaW.PrintLast Go.Proofs.YtpihnmmoahplgaaW.PrintMore
attribute [local go_sem] Go.Proofs.Ytpihnmmoahplgaa.Aux.setCell_drewN Go.Proofs.Ytpihnmmoahplgaa.Aux.isSome_setCell Go.Proofs.Ytpihnmmoahplgaa.Aux.max_eight bq bo cG cF ba bZ bp bm
set_option linter.unusedVariables false
set_option linter.unusedSimpArgs false
attribute [local go_sem high] eqA25
def cI.l0:Nat→List (S25)→List (S25)→Int→Option (Bool)
 | 0,_,_,_=>none
 | k+1,x0,x1,x5=>if x5<(x0.length:Int) then (if 0≤x5 then (if x5<(x1.length:Int) then (if (!(((an x0 x5).f0) == ((an x1 x5).f0)) || (!(((an x0 x5).f1) == ((an x1 x5).f1)) || (!(((an x0 x5).f2) == ((an x1 x5).f2)))))=true then (some false) else (cI.l0 k x0 x1 (wrap64 (x5+1)))) else (none)) else (none)) else (some true)
def cI.f (k:Nat) (l0:List (S25)) (l1:List (S25)):Option (Bool):=if (l0.length:Int)=(l1.length:Int) then (cI.l0 k l0 l1 0) else (some false)
set_option maxHeartbeats 8000000 in
set_option maxRecDepth 100000 in
theorem cI.calls (k:Nat) (A0:Option Addr) (c0:Nat) (l0:List (S25)) (A1:Option Addr) (c1:Nat) (l1:List (S25)) (r:Bool) (w:World) (hr0:Kd.C k25 w A0 l0.length l0) (hc0:l0.length≤c0) (hr1:Kd.C k25 w A1 l1.length l1) (hc1:l1.length≤c1) (h:cI.f k l0 l1=some r) :
  Calls Try.prog 13 #[.slice A0 l0.length c0,.slice A1 l1.length c1] w fun e w'=>e=.returned (.bool r)∧aU w w':=by
 have hu25:=Try.underlying25
 have HR0:=aA.mk hr0
 have HC0:=aA.mk hc0
 clear hr0 hc0
 have HR1:=aA.mk hr1
 have HC1:=aA.mk hc1
 clear hr1 hc1
 have H:=h
 unfold cI.f at H
 clear h
 by_cases c3:(l0.length:Int)=(l1.length:Int)
 focus
  rw [if_pos c3] at H
  have c3b0:((l0.length:Int) == (l1.length:Int))=true:=beq_iff_eq.mpr c3
  have c3b1:((l0.length:Int) != (l1.length:Int))=false:=bne_eq_false_iff_eq.mpr c3
  have c3b2:(l0.length == l1.length)=true:=by first|simpa using c3|(simp at c3 ⊢;omega)
  clear c3
  have H':=aA.mk H
  clear H
 rotate_left
 focus
  rw [if_neg c3] at H
  have c3b0:((l0.length:Int) == (l1.length:Int))=false:=beq_eq_false_iff_ne.mpr c3
  have c3b1:((l0.length:Int) != (l1.length:Int))=true:=bne_iff_ne.mpr c3
  have c3b2:(l0.length == l1.length)=false:=by first|simpa using c3|(simp at c3 ⊢;omega)
  obtain rfl:=Option.some.inj H
 rotate_left
 all_goals
  go_enter Try.func13,Try.ntmps13
  go_wp2
  repeat (go_quiet (fail);try go_wp2)
 ·
  go_loopg [5] k (fun kq v5 w'=>∃ (x5_1:Int),v5=.int .i64 x5_1∧aA (cI.l0 kq l0 l1 x5_1=some r)∧aA (kq≤k)∧aU w w')
  case atStart=>exact ⟨(0),hB,H',⟨Nat.le_refl _⟩,by repeat (first|exact aU.refl _|apply aU.step)⟩
  case round=>
   clear H'
   try clear c1
   try clear c3
   try clear c3b0
   try clear c3b1
   try clear c3b2
   obtain ⟨x5_1,rfl,HA,HK1,⟨m1,rfl⟩⟩:=hrel
   cases gk with
   | zero=>exact absurd HA.out (by simp [cI.l0])
   | succ k1=>
    have H:=HA.out
    clear HA
    simp only [cI.l0] at H
    by_cases c4:x5_1<(l0.length:Int)
    ·
     rw [if_pos c4] at H
     have c4b0:=decide_eq_true c4
     clear c4
     by_cases c5:0≤x5_1
     rotate_left
     ·
      rw [if_neg c5] at H
      exact absurd H (by simp)
     rw [if_pos c5] at H
     have c5b0:=decide_eq_true c5
     clear c5
     by_cases c6:x5_1<(l1.length:Int)
     rotate_left
     ·
      rw [if_neg c6] at H
      exact absurd H (by simp)
     rw [if_pos c6] at H
     have c6b0:=decide_eq_true c6
     clear c6
     by_cases c7:(!(((an l0 x5_1).f0) == ((an l1 x5_1).f0)) || (!(((an l0 x5_1).f1) == ((an l1 x5_1).f1)) || (!(((an l0 x5_1).f2) == ((an l1 x5_1).f2)))))=true
     ·
      rw [if_pos c7] at H
      have c7b0:(!(((an l0 x5_1).f0) == ((an l1 x5_1).f0)) || (!(((an l0 x5_1).f1) == ((an l1 x5_1).f1)) || (!(((an l0 x5_1).f2) == ((an l1 x5_1).f2)))))=true:=c7
      clear c7
      obtain rfl:=Option.some.inj H
      have p343:0≤(x5_1:Int):=dA
      have q343:x5_1<(l0.length:Int):=dA
      obtain ⟨ad343,e343,hx343_0,hx343_1,hx343_2⟩:=eH HR0.out x5_1 p343 q343
      cases e343
      replace p343:=eq_true p343
      replace q343:=eq_true q343
      have p344:0≤(x5_1:Int):=dA
      have q344:x5_1<(l1.length:Int):=dA
      obtain ⟨ad344,e344,hx344_0,hx344_1,hx344_2⟩:=eH HR1.out x5_1 p344 q344
      cases e344
      replace p344:=eq_true p344
      replace q344:=eq_true q344
      go_wp2
      repeat (go_quiet (fail);try go_wp2)
      go_ret
      exact ⟨by first|rfl|(simp;done)|(simp [*];done),by repeat (first|exact aU.refl _|apply aU.step)⟩
     ·
      rw [if_neg c7] at H
      have c7b0:(!(((an l0 x5_1).f0) == ((an l1 x5_1).f0)) || (!(((an l0 x5_1).f1) == ((an l1 x5_1).f1)) || (!(((an l0 x5_1).f2) == ((an l1 x5_1).f2)))))=false:=by simpa using c7
      clear c7
      have H':=aA.mk H
      clear H
      have p343:0≤(x5_1:Int):=dA
      have q343:x5_1<(l0.length:Int):=dA
      obtain ⟨ad343,e343,hx343_0,hx343_1,hx343_2⟩:=eH HR0.out x5_1 p343 q343
      cases e343
      replace p343:=eq_true p343
      replace q343:=eq_true q343
      have p344:0≤(x5_1:Int):=dA
      have q344:x5_1<(l1.length:Int):=dA
      obtain ⟨ad344,e344,hx344_0,hx344_1,hx344_2⟩:=eH HR1.out x5_1 p344 q344
      cases e344
      replace p344:=eq_true p344
      replace q344:=eq_true q344
      go_wp2
      repeat (go_quiet (fail);try go_wp2)
      go_roundg k1
      case measure=>have:=HK1.out;omega
      case rel=>exact ⟨(wrap64 (x5_1+1)),hB,H',⟨by have:=HK1.out;omega⟩,by repeat (first|exact aU.refl _|apply aU.step)⟩
    ·
     rw [if_neg c4] at H
     have c4b0:=decide_eq_false c4
     clear c4
     obtain rfl:=Option.some.inj H
     go_wp2
     repeat (go_quiet (fail);try go_wp2)
     go_ret
     exact ⟨by first|rfl|(simp;done)|(simp [*];done),by repeat (first|exact aU.refl _|apply aU.step)⟩
 ·
  go_ret
  exact ⟨by first|rfl|(simp;done)|(simp [*];done),by repeat (first|exact aU.refl _|apply aU.step)⟩
def bj.j0:Nat→Int→Bool→Int→Int→Int→Option (Bool)
 | 0,_,_,_,_,_=>none
 | k+1,x0,x24,x346000,x346001,x346002=>if x24=true then (some false) else (if (wrap64 (x346000+x346002))≤0 then (if x346001=0 then (some (x346002 == 0)) else (some false)) else (if x346001≥0 then ((ar.f k x0 (wrap64 (x346000+x346002))).bind fun t348=>(if x346001<t348 then (if x346002=0 then (some true) else (if x0=0 then (none) else (some ((Int.tmod x346001 x0) != 0)))) else (some false))) else (some false)))
def bj.f (k:Nat) (a0 a1_0 a1_1 a1_2:Int):Option (Bool):=(av.f a0).bind fun t346=>(if t346=true then ((bW.f a1_0).bind fun t347=>(if t347=true then (if a1_2<0 then (bj.j0 k a0 true a1_0 a1_1 a1_2) else (bj.j0 k a0 (decide (a1_2>6)) a1_0 a1_1 a1_2)) else (bj.j0 k a0 true a1_0 a1_1 a1_2))) else (bj.j0 k a0 true a1_0 a1_1 a1_2))
set_option maxHeartbeats 8000000 in
set_option maxRecDepth 100000 in
theorem bj.calls (k:Nat) (a0 a1_0 a1_1 a1_2:Int) (r:Bool) (w:World) (h:bj.f k a0 a1_0 a1_1 a1_2=some r) :
  Calls Try.prog 81 #[.int .i64 a0,.agg #[.int .i64 a1_0,.int .i64 a1_1,.int .i64 a1_2]] w fun e w'=>e=.returned (.bool r)∧Below w.heap.size w w':=by
 have hu25:=Try.underlying25
 have HB:=aA.mk (Below.refl w.heap.size w)
 have H:=h
 unfold bj.f at H
 clear h
 have HC3:=aA.mk H
 clear H
 go_enter Try.func81,Try.ntmps81
 go_upto_region 1 with (first|((with_reducible refine aH (N:=3) rfl ?_);refine bxE (cs:=#[.int .i64 a1_0,.int .i64 a1_1,.int .i64 a1_2]) (t:=25) ?_;intro gb345 hg w4 hbox hb;have BK345:=aA.mk hbox;have GW345:=sA hg;have GE345:=sA hg;replace HB:=lB hb;clear hb hbox hg))
 repeat (go_quiet (first|((with_reducible refine aH (N:=3) rfl ?_);refine bxE (cs:=#[.int .i64 a1_0,.int .i64 a1_1,.int .i64 a1_2]) (t:=25) ?_;intro gb345 hg w4 hbox hb;have BK345:=aA.mk hbox;have GW345:=sA hg;have GE345:=sA hg;replace HB:=lB hb;clear hb hbox hg));go_upto_region 1 with (first|((with_reducible refine aH (N:=3) rfl ?_);refine bxE (cs:=#[.int .i64 a1_0,.int .i64 a1_1,.int .i64 a1_2]) (t:=25) ?_;intro gb345 hg w4 hbox hb;have BK345:=aA.mk hbox;have GW345:=sA hg;have GE345:=sA hg;replace HB:=lB hb;clear hb hbox hg)))
 (try simp only [Act.put,List.setIfInBounds_toArray,List.set_cons_zero,List.set_cons_succ])
 go_cut [24] (fun v24 wc=>∃ (kq:Nat) (x24_2:Bool),v24=.bool x24_2∧aA (bj.j0 kq a0 x24_2 a1_0 a1_1 a1_2=some r)∧aA (kq≤k)∧aA (wc.heap[gb345]?=some (.cells #[.int .i64 a1_0,.int .i64 a1_1,.int .i64 a1_2] 25 (0,0)))∧aA (Below w.heap.size w wc))
 case first=>
  have H:=HC3.out
  clear HC3
  replace H:=bS H
  obtain ⟨t346,A5,H⟩:=H
  try dsimp only at H
  by_cases c6:t346=true
  ·
   subst c6
   rw [if_pos rfl] at H
   try dsimp only at H
   replace H:=bS H
   obtain ⟨t347,A7,H⟩:=H
   try dsimp only at H
   by_cases c8:t347=true
   ·
    subst c8
    rw [if_pos rfl] at H
    try dsimp only at H
    by_cases c9:a1_2<0
    ·
     rw [if_pos c9] at H
     have c9b0:=decide_eq_true c9
     clear c9
     (first|rw [c9b0]|(simp only [cl,co];rw [c9b0])|skip)
     have H':=aA.mk H
     clear H
     go_wp2_with (first|(go_at_call 31;(with_reducible refine (av.calls a0 true _ A5.out).mono ?_);rintro e w' ⟨rfl,⟨nd,rfl⟩⟩;(try exact dd);obtain ⟨hcz10_0,hcz10_1,hcz10_2,hfz10_0,hfz10_1,hfz10_2⟩:=cz3 BK345)|(go_at_call 75;(with_reducible refine (bW.calls a1_0 true _ A7.out).mono ?_);rintro e w' ⟨rfl,⟨nd,rfl⟩⟩;(try exact dd)))
     repeat (go_quiet (first|(go_at_call 31;(with_reducible refine (av.calls a0 true _ A5.out).mono ?_);rintro e w' ⟨rfl,⟨nd,rfl⟩⟩;(try exact dd);obtain ⟨hcz10_0,hcz10_1,hcz10_2,hfz10_0,hfz10_1,hfz10_2⟩:=cz3 BK345)|(go_at_call 75;(with_reducible refine (bW.calls a1_0 true _ A7.out).mono ?_);rintro e w' ⟨rfl,⟨nd,rfl⟩⟩;(try exact dd)));try go_wp2_with (first|(go_at_call 31;(with_reducible refine (av.calls a0 true _ A5.out).mono ?_);rintro e w' ⟨rfl,⟨nd,rfl⟩⟩;(try exact dd);obtain ⟨hcz10_0,hcz10_1,hcz10_2,hfz10_0,hfz10_1,hfz10_2⟩:=cz3 BK345)|(go_at_call 75;(with_reducible refine (bW.calls a1_0 true _ A7.out).mono ?_);rintro e w' ⟨rfl,⟨nd,rfl⟩⟩;(try exact dd))))
     go_meet
     case rel=>exact ⟨_,(true),hB,H',⟨by first|omega|exact Nat.le_refl _⟩,⟨bkA BK345⟩,⟨blA⟩⟩
    ·
     rw [if_neg c9] at H
     have c9b0:=decide_eq_false c9
     clear c9
     (first|rw [c9b0]|(simp only [cl,co];rw [c9b0])|skip)
     have H':=aA.mk H
     clear H
     go_wp2_with (first|(go_at_call 31;(with_reducible refine (av.calls a0 true _ A5.out).mono ?_);rintro e w' ⟨rfl,⟨nd,rfl⟩⟩;(try exact dd);obtain ⟨hcz11_0,hcz11_1,hcz11_2,hfz11_0,hfz11_1,hfz11_2⟩:=cz3 BK345)|(go_at_call 75;(with_reducible refine (bW.calls a1_0 true _ A7.out).mono ?_);rintro e w' ⟨rfl,⟨nd,rfl⟩⟩;(try exact dd)))
     repeat (go_quiet (first|(go_at_call 31;(with_reducible refine (av.calls a0 true _ A5.out).mono ?_);rintro e w' ⟨rfl,⟨nd,rfl⟩⟩;(try exact dd);obtain ⟨hcz11_0,hcz11_1,hcz11_2,hfz11_0,hfz11_1,hfz11_2⟩:=cz3 BK345)|(go_at_call 75;(with_reducible refine (bW.calls a1_0 true _ A7.out).mono ?_);rintro e w' ⟨rfl,⟨nd,rfl⟩⟩;(try exact dd)));try go_wp2_with (first|(go_at_call 31;(with_reducible refine (av.calls a0 true _ A5.out).mono ?_);rintro e w' ⟨rfl,⟨nd,rfl⟩⟩;(try exact dd);obtain ⟨hcz11_0,hcz11_1,hcz11_2,hfz11_0,hfz11_1,hfz11_2⟩:=cz3 BK345)|(go_at_call 75;(with_reducible refine (bW.calls a1_0 true _ A7.out).mono ?_);rintro e w' ⟨rfl,⟨nd,rfl⟩⟩;(try exact dd))))
     go_meet
     case rel=>exact ⟨_,(decide (a1_2>6)),hB,H',⟨by first|omega|exact Nat.le_refl _⟩,⟨bkA BK345⟩,⟨blA⟩⟩
   ·
    replace c8:=Bool.eq_false_iff.mpr c8
    subst c8
    rw [if_neg (show ¬ (false=true) by decide)] at H
    try dsimp only at H
    have H':=aA.mk H
    clear H
    go_wp2_with (first|(go_at_call 31;(with_reducible refine (av.calls a0 true _ A5.out).mono ?_);rintro e w' ⟨rfl,⟨nd,rfl⟩⟩;(try exact dd);obtain ⟨hcz12_0,hcz12_1,hcz12_2,hfz12_0,hfz12_1,hfz12_2⟩:=cz3 BK345)|(go_at_call 75;(with_reducible refine (bW.calls a1_0 false _ A7.out).mono ?_);rintro e w' ⟨rfl,⟨nd,rfl⟩⟩;(try exact dd)))
    repeat (go_quiet (first|(go_at_call 31;(with_reducible refine (av.calls a0 true _ A5.out).mono ?_);rintro e w' ⟨rfl,⟨nd,rfl⟩⟩;(try exact dd);obtain ⟨hcz12_0,hcz12_1,hcz12_2,hfz12_0,hfz12_1,hfz12_2⟩:=cz3 BK345)|(go_at_call 75;(with_reducible refine (bW.calls a1_0 false _ A7.out).mono ?_);rintro e w' ⟨rfl,⟨nd,rfl⟩⟩;(try exact dd)));try go_wp2_with (first|(go_at_call 31;(with_reducible refine (av.calls a0 true _ A5.out).mono ?_);rintro e w' ⟨rfl,⟨nd,rfl⟩⟩;(try exact dd);obtain ⟨hcz12_0,hcz12_1,hcz12_2,hfz12_0,hfz12_1,hfz12_2⟩:=cz3 BK345)|(go_at_call 75;(with_reducible refine (bW.calls a1_0 false _ A7.out).mono ?_);rintro e w' ⟨rfl,⟨nd,rfl⟩⟩;(try exact dd))))
    go_meet
    case rel=>exact ⟨_,(true),hB,H',⟨by first|omega|exact Nat.le_refl _⟩,⟨bkA BK345⟩,⟨blA⟩⟩
  ·
   replace c6:=Bool.eq_false_iff.mpr c6
   subst c6
   rw [if_neg (show ¬ (false=true) by decide)] at H
   try dsimp only at H
   have H':=aA.mk H
   clear H
   go_wp2_with (first|(go_at_call 31;(with_reducible refine (av.calls a0 false _ A5.out).mono ?_);rintro e w' ⟨rfl,⟨nd,rfl⟩⟩;(try exact dd)))
   repeat (go_quiet (first|(go_at_call 31;(with_reducible refine (av.calls a0 false _ A5.out).mono ?_);rintro e w' ⟨rfl,⟨nd,rfl⟩⟩;(try exact dd)));try go_wp2_with (first|(go_at_call 31;(with_reducible refine (av.calls a0 false _ A5.out).mono ?_);rintro e w' ⟨rfl,⟨nd,rfl⟩⟩;(try exact dd))))
   go_meet
   case rel=>exact ⟨_,(true),hB,H',⟨by first|omega|exact Nat.le_refl _⟩,⟨bkA BK345⟩,⟨blA⟩⟩
 case rest=>
  clear HC3
  try clear c6
  try clear c8
  try clear c9
  try clear c9b0
  try clear hcz10_0
  try clear hcz10_1
  try clear hcz10_2
  try clear hcz11_0
  try clear hcz11_1
  try clear hcz11_2
  try clear hcz12_0
  try clear hcz12_1
  try clear hcz12_2
  try clear hfz10_0
  try clear hfz10_1
  try clear hfz10_2
  try clear hfz11_0
  try clear hfz11_1
  try clear hfz11_2
  try clear hfz12_0
  try clear hfz12_1
  try clear hfz12_2
  obtain ⟨kq,x24_2,rfl,HA,HJ2,BK345,HB⟩:=hcut
  cases kq with
  | zero=>exact absurd HA.out (by simp [bj.j0])
  | succ kj2=>
   have H:=HA.out
   clear HA
   simp only [bj.j0] at H
   by_cases c13:x24_2=true
   ·
    subst c13
    rw [if_pos rfl] at H
    try dsimp only at H
    obtain rfl:=Option.some.inj H
    go_wp2
    repeat (go_quiet (fail);try go_wp2)
    go_ret
    exact bU blA
   ·
    replace c13:=Bool.eq_false_iff.mpr c13
    subst c13
    rw [if_neg (show ¬ (false=true) by decide)] at H
    try dsimp only at H
    by_cases c14:(wrap64 (a1_0+a1_2))≤0
    ·
     rw [if_pos c14] at H
     have c14b0:=decide_eq_true c14
     clear c14
     by_cases c15:a1_1=0
     ·
      rw [if_pos c15] at H
      have c15b0:(a1_1 == 0)=true:=beq_iff_eq.mpr c15
      have c15b1:(a1_1 != 0)=false:=bne_eq_false_iff_eq.mpr c15
      clear c15
      obtain rfl:=Option.some.inj H
      obtain ⟨hcz16_0,hcz16_1,hcz16_2,hfz16_0,hfz16_1,hfz16_2⟩:=cz3 BK345
      go_wp2
      repeat (go_quiet (fail);try go_wp2)
      go_ret
      exact bU blA
     ·
      rw [if_neg c15] at H
      have c15b0:(a1_1 == 0)=false:=beq_eq_false_iff_ne.mpr c15
      have c15b1:(a1_1 != 0)=true:=bne_iff_ne.mpr c15
      obtain rfl:=Option.some.inj H
      obtain ⟨hcz17_0,hcz17_1,hcz17_2,hfz17_0,hfz17_1,hfz17_2⟩:=cz3 BK345
      go_wp2
      repeat (go_quiet (fail);try go_wp2)
      go_ret
      exact bU blA
    ·
     rw [if_neg c14] at H
     have c14b0:=decide_eq_false c14
     clear c14
     by_cases c18:a1_1≥0
     ·
      rw [if_pos c18] at H
      have c18b0:decide (0≤a1_1)=true:=decide_eq_true c18
      clear c18
      replace H:=bS H
      obtain ⟨t348,A19,H⟩:=H
      try dsimp only at H
      by_cases c20:a1_1<t348
      ·
       rw [if_pos c20] at H
       have c20b0:=decide_eq_true c20
       clear c20
       by_cases c21:a1_2=0
       focus
        rw [if_pos c21] at H
        have c21b0:(a1_2 == 0)=true:=beq_iff_eq.mpr c21
        have c21b1:(a1_2 != 0)=false:=bne_eq_false_iff_eq.mpr c21
        clear c21
        obtain rfl:=Option.some.inj H
        obtain ⟨hcz22_0,hcz22_1,hcz22_2,hfz22_0,hfz22_1,hfz22_2⟩:=cz3 BK345
       rotate_left
       focus
        rw [if_neg c21] at H
        have c21b0:(a1_2 == 0)=false:=beq_eq_false_iff_ne.mpr c21
        have c21b1:(a1_2 != 0)=true:=bne_iff_ne.mpr c21
        by_cases c23:a0=0
        ·
         rw [if_pos c23] at H
         exact absurd H (by simp)
        rw [if_neg c23] at H
        have c23b0:(a0 == 0)=false:=beq_eq_false_iff_ne.mpr c23
        have c23b1:(a0 != 0)=true:=bne_iff_ne.mpr c23
        obtain rfl:=Option.some.inj H
        obtain ⟨hcz24_0,hcz24_1,hcz24_2,hfz24_0,hfz24_1,hfz24_2⟩:=cz3 BK345
       rotate_left
       all_goals
        go_wp2_with (first|(go_at_call 76;(with_reducible refine (ar.calls kj2 a0 (wrap64 (a1_0+a1_2)) t348 _ A19.out).mono ?_);rintro e w' ⟨rfl,⟨nd,rfl⟩⟩;(try exact dd)))
        repeat (go_quiet (first|(go_at_call 76;(with_reducible refine (ar.calls kj2 a0 (wrap64 (a1_0+a1_2)) t348 _ A19.out).mono ?_);rintro e w' ⟨rfl,⟨nd,rfl⟩⟩;(try exact dd)));try go_wp2_with (first|(go_at_call 76;(with_reducible refine (ar.calls kj2 a0 (wrap64 (a1_0+a1_2)) t348 _ A19.out).mono ?_);rintro e w' ⟨rfl,⟨nd,rfl⟩⟩;(try exact dd))))
       ·
        go_ret
        exact bU blA
       ·
        go_ret
        exact bU blA
      ·
       rw [if_neg c20] at H
       have c20b0:=decide_eq_false c20
       clear c20
       obtain rfl:=Option.some.inj H
       obtain ⟨hcz25_0,hcz25_1,hcz25_2,hfz25_0,hfz25_1,hfz25_2⟩:=cz3 BK345
       go_wp2_with (first|(go_at_call 76;(with_reducible refine (ar.calls kj2 a0 (wrap64 (a1_0+a1_2)) t348 _ A19.out).mono ?_);rintro e w' ⟨rfl,⟨nd,rfl⟩⟩;(try exact dd)))
       repeat (go_quiet (first|(go_at_call 76;(with_reducible refine (ar.calls kj2 a0 (wrap64 (a1_0+a1_2)) t348 _ A19.out).mono ?_);rintro e w' ⟨rfl,⟨nd,rfl⟩⟩;(try exact dd)));try go_wp2_with (first|(go_at_call 76;(with_reducible refine (ar.calls kj2 a0 (wrap64 (a1_0+a1_2)) t348 _ A19.out).mono ?_);rintro e w' ⟨rfl,⟨nd,rfl⟩⟩;(try exact dd))))
       go_ret
       exact bU blA
     ·
      rw [if_neg c18] at H
      have c18b0:decide (0≤a1_1)=false:=decide_eq_false c18
      clear c18
      obtain rfl:=Option.some.inj H
      obtain ⟨hcz26_0,hcz26_1,hcz26_2,hfz26_0,hfz26_1,hfz26_2⟩:=cz3 BK345
      go_wp2
      repeat (go_quiet (fail);try go_wp2)
      go_ret
      exact bU blA
end Go.Proofs.Ytpihnmmoahplgaa.PAll
