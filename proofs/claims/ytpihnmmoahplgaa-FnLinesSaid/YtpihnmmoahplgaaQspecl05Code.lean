import Derived.Test.YtpihnmmoahplgaaQx
import Derived.Test.YtpihnmmoahplgaaQimpltimes
import Derived.Test.YtpihnmmoahplgaaQspecl01End
namespace Go.Proofs.Ytpihnmmoahplgaa.PAll
open Go.RowKit Go.Proofs.YtpihnmmoahplgaaW.PrintWords Go.Proofs.YtpihnmmoahplgaaW.PrintLast Go.Proofs.YtpihnmmoahplgaaW.PrintMore
attribute [local go_sem] Go.Proofs.Ytpihnmmoahplgaa.Aux.setCell_drewN Go.Proofs.Ytpihnmmoahplgaa.Aux.isSome_setCell Go.Proofs.Ytpihnmmoahplgaa.Aux.max_eight bq bo cG cF ba bZ bp bm
set_option linter.unusedVariables false
set_option linter.unusedSimpArgs false
attribute [local go_sem high] eqA28
mutual
def ap.l0:Nat→List (S28)→Int→Option (Bool)
 | 0,_,_=>none
 | k+1,x0,x3=>if x3<(x0.length:Int) then (ap.l1 k x0 x3 0) else (some true)
def ap.l1:Nat→List (S28)→Int→Int→Option (Bool)
 | 0,_,_,_=>none
 | k+1,x0,x3,x4=>if x4<x3 then (if 0≤x3 then (if x3<(x0.length:Int) then (if 0≤x4 then (if x4<(x0.length:Int) then (if (((am x0 x3).f0) == ((am x0 x4).f0) && (((am x0 x3).f1) == ((am x0 x4).f1)))=true then (some false) else (ap.l1 k x0 x3 (wrap64 (x4+1)))) else (none)) else (none)) else (none)) else (none)) else (ap.l0 k x0 (wrap64 (x3+1)))
end
def ap.f (k:Nat) (l0:List (S28)):Option (Bool):=ap.l0 k l0 0
set_option maxHeartbeats 8000000 in
set_option maxRecDepth 100000 in
theorem ap.calls (k:Nat) (A0:Option Addr) (c0:Nat) (l0:List (S28)) (r:Bool) (w:World) (hr0:Kd.C k28 w A0 l0.length l0) (hc0:l0.length≤c0) (h:ap.f k l0=some r) :
  Calls Try.prog 68 #[.slice A0 l0.length c0] w fun e w'=>e=.returned (.bool r)∧aU w w':=by
 have hu28:=Try.underlying28
 have HR0:=aA.mk hr0
 have HC0:=aA.mk hc0
 clear hr0 hc0
 have H:=h
 unfold ap.f at H
 clear h
 have H':=aA.mk H
 clear H
 go_enter Try.func68,Try.ntmps68
 go_wp2
 repeat (go_quiet (fail);try go_wp2)
 go_loopg [3] k (fun kq v3 w'=>∃ (x3_1:Int),v3=.int .i64 x3_1∧aA (ap.l0 kq l0 x3_1=some r)∧aA (kq≤k)∧aU w w')
 case atStart=>exact ⟨(0),hB,H',⟨Nat.le_refl _⟩,by repeat (first|exact aU.refl _|apply aU.step)⟩
 case round=>
  clear H'
  obtain ⟨x3_1,rfl,HA,HK1,⟨m1,rfl⟩⟩:=hrel
  cases gk with
  | zero=>exact absurd HA.out (by simp [ap.l0])
  | succ k1=>
   have H:=HA.out
   clear HA
   simp only [ap.l0] at H
   by_cases c2:x3_1<(l0.length:Int)
   ·
    rw [if_pos c2] at H
    have c2b0:=decide_eq_true c2
    clear c2
    have H':=aA.mk H
    clear H
    go_wp2
    repeat (go_quiet (fail);try go_wp2)
    go_loopg [4] k1 (fun kq v4 w'=>∃ (x4_2:Int),v4=.int .i64 x4_2∧aA (ap.l1 kq l0 x3_1 x4_2=some r)∧aA (kq≤k1)∧aU w w')
    case atStart=>exact ⟨(0),hB,H',⟨Nat.le_refl _⟩,by repeat (first|exact aU.refl _|apply aU.step)⟩
    case round=>
     clear H'
     try clear c2
     try clear c2b0
     obtain ⟨x4_2,rfl,HA,HK2,⟨m2,rfl⟩⟩:=hrel
     cases gk with
     | zero=>exact absurd HA.out (by simp [ap.l1])
     | succ k2=>
      have H:=HA.out
      clear HA
      simp only [ap.l1] at H
      by_cases c3:x4_2<x3_1
      ·
       rw [if_pos c3] at H
       have c3b0:=decide_eq_true c3
       clear c3
       by_cases c4:0≤x3_1
       rotate_left
       ·
        rw [if_neg c4] at H
        exact absurd H (by simp)
       rw [if_pos c4] at H
       have c4b0:=decide_eq_true c4
       clear c4
       by_cases c5:x3_1<(l0.length:Int)
       rotate_left
       ·
        rw [if_neg c5] at H
        exact absurd H (by simp)
       rw [if_pos c5] at H
       have c5b0:=decide_eq_true c5
       clear c5
       by_cases c6:0≤x4_2
       rotate_left
       ·
        rw [if_neg c6] at H
        exact absurd H (by simp)
       rw [if_pos c6] at H
       have c6b0:=decide_eq_true c6
       clear c6
       by_cases c7:x4_2<(l0.length:Int)
       rotate_left
       ·
        rw [if_neg c7] at H
        exact absurd H (by simp)
       rw [if_pos c7] at H
       have c7b0:=decide_eq_true c7
       clear c7
       by_cases c8:(((am l0 x3_1).f0) == ((am l0 x4_2).f0) && (((am l0 x3_1).f1) == ((am l0 x4_2).f1)))=true
       ·
        rw [if_pos c8] at H
        have c8b0:(((am l0 x3_1).f0) == ((am l0 x4_2).f0) && (((am l0 x3_1).f1) == ((am l0 x4_2).f1)))=true:=c8
        (try (have c8b1:decide (((am l0 x3_1).f0)=((am l0 x4_2).f0) && (((am l0 x3_1).f1) == ((am l0 x4_2).f1)))=true:=by simpa using c8))
        (try (have c8b2:(((am l0 x3_1).f0) == ((am l0 x4_2).f0) && (((am l0 x3_1).f1) == ((am l0 x4_2).f1)))=true:=by simpa using c8))
        clear c8
        obtain rfl:=Option.some.inj H
        have p114:0≤(x3_1:Int):=dA
        have q114:x3_1<(l0.length:Int):=dA
        obtain ⟨ad114,e114,hx114_0,hx114_1⟩:=eG HR0.out x3_1 p114 q114
        cases e114
        replace p114:=eq_true p114
        replace q114:=eq_true q114
        have p115:0≤(x4_2:Int):=dA
        have q115:x4_2<(l0.length:Int):=dA
        obtain ⟨ad115,e115,hx115_0,hx115_1⟩:=eG HR0.out x4_2 p115 q115
        obtain rfl:ad114=ad115:=(by injection e115)
        replace p115:=eq_true p115
        replace q115:=eq_true q115
        go_wp2
        repeat (go_quiet (fail);try go_wp2)
        go_ret
        exact ⟨by first|rfl|(simp;done)|(simp [*];done),by repeat (first|exact aU.refl _|apply aU.step)⟩
       ·
        rw [if_neg c8] at H
        have c8b0:(((am l0 x3_1).f0) == ((am l0 x4_2).f0) && (((am l0 x3_1).f1) == ((am l0 x4_2).f1)))=false:=by simpa using c8
        (try (have c8b1:decide (((am l0 x3_1).f0)=((am l0 x4_2).f0) && (((am l0 x3_1).f1) == ((am l0 x4_2).f1)))=false:=by simpa using c8))
        (try (have c8b2:(((am l0 x3_1).f0) == ((am l0 x4_2).f0) && (((am l0 x3_1).f1) == ((am l0 x4_2).f1)))=false:=by simpa using c8))
        (try (have c8b3:¬ (((am l0 x3_1).f0)=((am l0 x4_2).f0) && (((am l0 x3_1).f1) == ((am l0 x4_2).f1))):=by simpa using c8))
        clear c8
        have H':=aA.mk H
        clear H
        have p114:0≤(x3_1:Int):=dA
        have q114:x3_1<(l0.length:Int):=dA
        obtain ⟨ad114,e114,hx114_0,hx114_1⟩:=eG HR0.out x3_1 p114 q114
        cases e114
        replace p114:=eq_true p114
        replace q114:=eq_true q114
        have p115:0≤(x4_2:Int):=dA
        have q115:x4_2<(l0.length:Int):=dA
        obtain ⟨ad115,e115,hx115_0,hx115_1⟩:=eG HR0.out x4_2 p115 q115
        obtain rfl:ad114=ad115:=(by injection e115)
        replace p115:=eq_true p115
        replace q115:=eq_true q115
        go_wp2
        repeat (go_quiet (fail);try go_wp2)
        go_roundg k2
        case measure=>have:=HK1.out;have:=HK2.out;omega
        case rel=>exact ⟨(wrap64 (x4_2+1)),hB,H',⟨by have:=HK1.out;have:=HK2.out;omega⟩,by repeat (first|exact aU.refl _|apply aU.step)⟩
      ·
       rw [if_neg c3] at H
       have c3b0:=decide_eq_false c3
       clear c3
       have H':=aA.mk H
       clear H
       go_wp2
       repeat (go_quiet (fail);try go_wp2)
       go_roundg k2
       case measure=>have:=HK1.out;have:=HK2.out;omega
       case rel=>exact ⟨(wrap64 (x3_1+1)),hB,H',⟨by have:=HK1.out;have:=HK2.out;omega⟩,by repeat (first|exact aU.refl _|apply aU.step)⟩
   ·
    rw [if_neg c2] at H
    have c2b0:=decide_eq_false c2
    clear c2
    obtain rfl:=Option.some.inj H
    go_wp2
    repeat (go_quiet (fail);try go_wp2)
    go_ret
    exact ⟨by first|rfl|(simp;done)|(simp [*];done),by repeat (first|exact aU.refl _|apply aU.step)⟩
def a8.l0:Nat→Int→Int→Int→Option (Int)
 | 0,_,_,_=>none
 | k+1,x0,x1,x5=>if x0=0 then (none) else (if (Int.tmod x1 x0)=0 then (a8.l0 k x0 (wrap64 (Int.tdiv x1 x0)) (wrap64 (x5+1))) else (some x5))
def a8.f (k:Nat) (a0 a1:Int):Option (Int):=a8.l0 k a0 a1 0
set_option maxHeartbeats 8000000 in
set_option maxRecDepth 100000 in
theorem a8.calls (k:Nat) (a0 a1 r:Int) (w:World) (h:a8.f k a0 a1=some r) :
  Calls Try.prog 56 #[.int .i64 a0,.int .i64 a1] w fun e w'=>e=.returned (.int .i64 r)∧aU w w':=by
 have H:=h
 unfold a8.f at H
 clear h
 have H':=aA.mk H
 clear H
 go_enter Try.func56,Try.ntmps56
 go_wp2
 go_loopg [1,5] k (fun kq v1 v5 w'=>∃ (x1_1:Int) (x5_1:Int),v1=.int .i64 x1_1∧v5=.int .i64 x5_1∧aA (a8.l0 kq a0 x1_1 x5_1=some r)∧aA (kq≤k)∧aU w w')
 case atStart=>exact ⟨(a1),(0),hB,hB,H',⟨Nat.le_refl _⟩,by repeat (first|exact aU.refl _|apply aU.step)⟩
 case round=>
  clear H'
  obtain ⟨x1_1,x5_1,rfl,rfl,HA,HK1,⟨m1,rfl⟩⟩:=hrel
  cases gk with
  | zero=>exact absurd HA.out (by simp [a8.l0])
  | succ k1=>
   have H:=HA.out
   clear HA
   simp only [a8.l0] at H
   by_cases c3:a0=0
   ·
    rw [if_pos c3] at H
    exact absurd H (by simp)
   rw [if_neg c3] at H
   have c3b0:(a0 == 0)=false:=beq_eq_false_iff_ne.mpr c3
   have c3b1:(a0 != 0)=true:=bne_iff_ne.mpr c3
   by_cases c4:(Int.tmod x1_1 a0)=0
   ·
    rw [if_pos c4] at H
    have c4b0:((Int.tmod x1_1 a0) == 0)=true:=beq_iff_eq.mpr c4
    have c4b1:((Int.tmod x1_1 a0) != 0)=false:=bne_eq_false_iff_eq.mpr c4
    clear c4
    have H':=aA.mk H
    clear H
    go_wp2
    go_roundg k1
    case measure=>have:=HK1.out;omega
    case rel=>exact ⟨(wrap64 (Int.tdiv x1_1 a0)),(wrap64 (x5_1+1)),hB,hB,H',⟨by have:=HK1.out;omega⟩,by repeat (first|exact aU.refl _|apply aU.step)⟩
   ·
    rw [if_neg c4] at H
    have c4b0:((Int.tmod x1_1 a0) == 0)=false:=beq_eq_false_iff_ne.mpr c4
    have c4b1:((Int.tmod x1_1 a0) != 0)=true:=bne_iff_ne.mpr c4
    obtain rfl:=Option.some.inj H
    go_wp2
    go_ret
    exact ⟨by first|rfl|(simp;done)|(simp [*];done),by repeat (first|exact aU.refl _|apply aU.step)⟩
def aj.f (a0_0 a0_1 a1_0 a1_1:Int):Option (Int):=some (wrap64 ((wrap64 (a0_0*a1_1)) - (wrap64 (a1_0*a0_1))))
set_option maxHeartbeats 8000000 in
set_option maxRecDepth 100000 in
theorem aj.calls (a0_0 a0_1 a1_0 a1_1 r:Int) (w:World) (h:aj.f a0_0 a0_1 a1_0 a1_1=some r) :
  Calls Try.prog 57 #[.agg #[.int .i64 a0_0,.int .i64 a0_1],.agg #[.int .i64 a1_0,.int .i64 a1_1]] w fun e w'=>e=.returned (.int .i64 r)∧Below w.heap.size w w':=by
 have hu28:=Try.underlying28
 have HB:=aA.mk (Below.refl w.heap.size w)
 have H:=h
 unfold aj.f at H
 clear h
 obtain rfl:=Option.some.inj H
 go_enter Try.func57,Try.ntmps57
 go_wp2_with (first|((with_reducible refine aH (N:=2) rfl ?_);refine bxE (cs:=#[.int .i64 a0_0,.int .i64 a0_1]) (t:=28) ?_;intro gb120 hg w3 hbox hb;have BK120:=aA.mk hbox;have GW120:=sA hg;have GE120:=sA hg;replace HB:=lB hb;clear hb hbox hg)|((with_reducible refine aH (N:=3) rfl ?_);refine bxE (cs:=#[.int .i64 a1_0,.int .i64 a1_1]) (t:=28) ?_;intro gb121 hg w4 hbox hb;have BK121:=aA.mk hbox;have GW121:=sA hg;have GE121:=sA hg;have NB120_121:=nA hg BK120;have NB121_120:=nB hg BK120;have LT120_121:=nL hg BK120;replace BK120:=kB BK120 hb;replace HB:=lB hb;clear hb hbox hg;have hnb5:=LT120_121.out;obtain ⟨hcz6_0,hcz6_1,hfz6_0,hfz6_1⟩:=cz2 BK120;obtain ⟨hcz7_0,hcz7_1,hfz7_0,hfz7_1⟩:=cz2 BK121))
 go_ret
 exact bU blA
def cJ.l0:Nat→List (S28)→Int→Int→Int→Int→Option (Int)
 | 0,_,_,_,_,_=>none
 | k+1,x0,x7,x8,x154000,x154001=>if x8<x7 then (if 0≤x8 then (if x8<(x0.length:Int) then (if (x154000 == ((am x0 x8).f0) && (x154001 == ((am x0 x8).f1)))=true then (some x8) else (cJ.l0 k x0 x7 (wrap64 (x8+1)) x154000 x154001)) else (none)) else (none)) else (some (-1))
def cJ.f (k:Nat) (l0:List (S28)) (a1_0 a1_1:Int):Option (Int):=cJ.l0 k l0 (l0.length:Int) 0 a1_0 a1_1
set_option maxHeartbeats 8000000 in
set_option maxRecDepth 100000 in
theorem cJ.calls (k:Nat) (A0:Option Addr) (c0:Nat) (l0:List (S28)) (a1_0 a1_1 r:Int) (w:World) (hr0:Kd.C k28 w A0 l0.length l0) (hc0:l0.length≤c0) (h:cJ.f k l0 a1_0 a1_1=some r) :
  Calls Try.prog 87 #[.slice A0 l0.length c0,.agg #[.int .i64 a1_0,.int .i64 a1_1]] w fun e w'=>e=.returned (.int .i64 r)∧Below w.heap.size w w':=by
 have hu28:=Try.underlying28
 have HR0:=aA.mk hr0
 have HC0:=aA.mk hc0
 clear hr0 hc0
 have HB:=aA.mk (Below.refl w.heap.size w)
 have H:=h
 unfold cJ.f at H
 clear h
 have H':=aA.mk H
 clear H
 go_enter Try.func87,Try.ntmps87
 go_wp2_with (first|((with_reducible refine aH (N:=3) rfl ?_);refine bxE (cs:=#[.int .i64 a1_0,.int .i64 a1_1]) (t:=28) ?_;intro gb153 hg w3 hbox hb;have BK153:=aA.mk hbox;have GW153:=sA hg;have GE153:=sA hg;replace HB:=lB hb;clear hb hbox hg))
 repeat (go_quiet (first|((with_reducible refine aH (N:=3) rfl ?_);refine bxE (cs:=#[.int .i64 a1_0,.int .i64 a1_1]) (t:=28) ?_;intro gb153 hg w3 hbox hb;have BK153:=aA.mk hbox;have GW153:=sA hg;have GE153:=sA hg;replace HB:=lB hb;clear hb hbox hg));try go_wp2_with (first|((with_reducible refine aH (N:=3) rfl ?_);refine bxE (cs:=#[.int .i64 a1_0,.int .i64 a1_1]) (t:=28) ?_;intro gb153 hg w3 hbox hb;have BK153:=aA.mk hbox;have GW153:=sA hg;have GE153:=sA hg;replace HB:=lB hb;clear hb hbox hg)))
 go_loopg [8] k (fun kq v8 w'=>∃ (x8_1:Int),v8=.int .i64 x8_1∧aA (cJ.l0 kq l0 (l0.length:Int) x8_1 a1_0 a1_1=some r)∧aA (kq≤k)∧aA (w'.heap[gb153]?=some (.cells #[.int .i64 a1_0,.int .i64 a1_1] 28 (0,0)))∧aA (Below w.heap.size w w'))
 case atStart=>exact ⟨(0),hB,H',⟨Nat.le_refl _⟩,⟨bkA BK153⟩,⟨blA⟩⟩
 case round=>
  clear H'
  obtain ⟨x8_1,rfl,HA,HK1,BK153,HB⟩:=hrel
  cases gk with
  | zero=>exact absurd HA.out (by simp [cJ.l0])
  | succ k1=>
   have H:=HA.out
   clear HA
   simp only [cJ.l0] at H
   by_cases c4:x8_1<(l0.length:Int)
   ·
    rw [if_pos c4] at H
    have c4b0:=decide_eq_true c4
    clear c4
    by_cases c5:0≤x8_1
    rotate_left
    ·
     rw [if_neg c5] at H
     exact absurd H (by simp)
    rw [if_pos c5] at H
    have c5b0:=decide_eq_true c5
    clear c5
    by_cases c6:x8_1<(l0.length:Int)
    rotate_left
    ·
     rw [if_neg c6] at H
     exact absurd H (by simp)
    rw [if_pos c6] at H
    have c6b0:=decide_eq_true c6
    clear c6
    by_cases c7:(a1_0 == ((am l0 x8_1).f0) && (a1_1 == ((am l0 x8_1).f1)))=true
    ·
     rw [if_pos c7] at H
     have c7b0:(a1_0 == ((am l0 x8_1).f0) && (a1_1 == ((am l0 x8_1).f1)))=true:=c7
     (try (have c7b1:decide (a1_0=((am l0 x8_1).f0) && (a1_1 == ((am l0 x8_1).f1)))=true:=by simpa using c7))
     (try (have c7b2:(a1_0 == ((am l0 x8_1).f0) && (a1_1 == ((am l0 x8_1).f1)))=true:=by simpa using c7))
     clear c7
     obtain rfl:=Option.some.inj H
     obtain ⟨hcz8_0,hcz8_1,hfz8_0,hfz8_1⟩:=cz2 BK153
     have p154:0≤(x8_1:Int):=dA
     have q154:x8_1<(l0.length:Int):=dA
     obtain ⟨ad154,e154,hx154_0,hx154_1⟩:=eG HR0.out x8_1 p154 q154
     cases e154
     replace hx154_0:=(HB.out.cell (World.block_lt_of_cell? w _ hx154_0)).trans hx154_0
     replace hx154_1:=(HB.out.cell (World.block_lt_of_cell? w _ hx154_1)).trans hx154_1
     replace p154:=eq_true p154
     replace q154:=eq_true q154
     go_wp2
     repeat (go_quiet (fail);try go_wp2)
     go_ret
     exact bU blA
    ·
     rw [if_neg c7] at H
     have c7b0:(a1_0 == ((am l0 x8_1).f0) && (a1_1 == ((am l0 x8_1).f1)))=false:=by simpa using c7
     (try (have c7b1:decide (a1_0=((am l0 x8_1).f0) && (a1_1 == ((am l0 x8_1).f1)))=false:=by simpa using c7))
     (try (have c7b2:(a1_0 == ((am l0 x8_1).f0) && (a1_1 == ((am l0 x8_1).f1)))=false:=by simpa using c7))
     (try (have c7b3:¬ (a1_0=((am l0 x8_1).f0) && (a1_1 == ((am l0 x8_1).f1))):=by simpa using c7))
     clear c7
     have H':=aA.mk H
     clear H
     obtain ⟨hcz9_0,hcz9_1,hfz9_0,hfz9_1⟩:=cz2 BK153
     have p154:0≤(x8_1:Int):=dA
     have q154:x8_1<(l0.length:Int):=dA
     obtain ⟨ad154,e154,hx154_0,hx154_1⟩:=eG HR0.out x8_1 p154 q154
     cases e154
     replace hx154_0:=(HB.out.cell (World.block_lt_of_cell? w _ hx154_0)).trans hx154_0
     replace hx154_1:=(HB.out.cell (World.block_lt_of_cell? w _ hx154_1)).trans hx154_1
     replace p154:=eq_true p154
     replace q154:=eq_true q154
     go_wp2
     repeat (go_quiet (fail);try go_wp2)
     go_roundg k1
     case measure=>have:=HK1.out;omega
     case rel=>exact ⟨(wrap64 (x8_1+1)),hB,H',⟨by have:=HK1.out;omega⟩,⟨bkA BK153⟩,⟨blA⟩⟩
   ·
    rw [if_neg c4] at H
    have c4b0:=decide_eq_false c4
    clear c4
    obtain rfl:=Option.some.inj H
    go_wp2
    repeat (go_quiet (fail);try go_wp2)
    go_ret
    exact bU blA
def dI.f (k:Nat) (l0:List (S28)) (a1_0 a1_1:Int):Option (Bool):=(cJ.f k l0 a1_0 a1_1).bind fun t156=>(some (decide (t156≥0)))
set_option maxHeartbeats 8000000 in
set_option maxRecDepth 100000 in
theorem dI.calls (k:Nat) (A0:Option Addr) (c0:Nat) (l0:List (S28)) (a1_0 a1_1:Int) (r:Bool) (w:World) (hr0:Kd.C k28 w A0 l0.length l0) (hc0:l0.length≤c0) (h:dI.f k l0 a1_0 a1_1=some r) :
  Calls Try.prog 73 #[.slice A0 l0.length c0,.agg #[.int .i64 a1_0,.int .i64 a1_1]] w fun e w'=>e=.returned (.bool r)∧Below w.heap.size w w':=by
 have hu28:=Try.underlying28
 have HR0:=aA.mk hr0
 have HC0:=aA.mk hc0
 clear hr0 hc0
 have HB:=aA.mk (Below.refl w.heap.size w)
 have H:=h
 unfold dI.f at H
 clear h
 replace H:=bS H
 obtain ⟨t156,A3,H⟩:=H
 try dsimp only at H
 obtain rfl:=Option.some.inj H
 go_enter Try.func73,Try.ntmps73
 go_wp2_with (first|((with_reducible refine aH (N:=3) rfl ?_);refine bxE (cs:=#[.int .i64 a1_0,.int .i64 a1_1]) (t:=28) ?_;intro gb155 hg w4 hbox hb;have BK155:=aA.mk hbox;have GW155:=sA hg;have GE155:=sA hg;replace HB:=lB hb;clear hb hbox hg;obtain ⟨hcz5_0,hcz5_1,hfz5_0,hfz5_1⟩:=cz2 BK155)|((with_reducible refine gd 7 rfl ?_);refine gC (some 7) rfl Try.func87 (cJ.calls (w:=_) (hr0:=cR (Kd.C_below HR0.out HB.out)) (hc0:=HC0.out) (h:=A3.out)) ?_;intro w6 hb;replace BK155:=kB BK155 hb;replace HB:=lB hb;clear hb))
 go_ret
 exact bU blA
def bI.l0:Nat→List (S28)→List (S28)→Int→Int→Option (Bool)
 | 0,_,_,_,_=>none
 | k+1,x0,x5,x6,x7=>if x7<x6 then (if 0≤x7 then (if x7<(x5.length:Int) then (if x7≤(x0.length:Int) then ((dI.f k (x0.take (x7:Int).toNat) ((am x5 x7).f0) ((am x5 x7).f1)).bind fun t163=>(if t163=true then (some false) else (bI.l0 k x0 x5 x6 (wrap64 (x7+1))))) else (none)) else (none)) else (none)) else (some true)
def bI.f (k:Nat) (l0:List (S28)):Option (Bool):=bI.l0 k l0 l0 (l0.length:Int) 0
set_option maxHeartbeats 8000000 in
set_option maxRecDepth 100000 in
theorem bI.calls (k:Nat) (A0:Option Addr) (c0:Nat) (l0:List (S28)) (r:Bool) (w:World) (hr0:Kd.C k28 w A0 l0.length l0) (hc0:l0.length≤c0) (h:bI.f k l0=some r) :
  Calls Try.prog 33 #[.slice A0 l0.length c0] w fun e w'=>e=.returned (.bool r)∧Below w.heap.size w w':=by
 have hu28:=Try.underlying28
 have HR0:=aA.mk hr0
 have HC0:=aA.mk hc0
 clear hr0 hc0
 have HB:=aA.mk (Below.refl w.heap.size w)
 have H:=h
 unfold bI.f at H
 clear h
 have H':=aA.mk H
 clear H
 go_enter Try.func33,Try.ntmps33
 go_wp2
 go_loopg [7] k (fun kq v7 w'=>∃ (x7_1:Int),v7=.int .i64 x7_1∧aA (bI.l0 kq l0 l0 (l0.length:Int) x7_1=some r)∧aA (kq≤k)∧aA (Below w.heap.size w w'))
 case atStart=>exact ⟨(0),hB,H',⟨Nat.le_refl _⟩,⟨blA⟩⟩
 case round=>
  clear H'
  obtain ⟨x7_1,rfl,HA,HK1,HB⟩:=hrel
  cases gk with
  | zero=>exact absurd HA.out (by simp [bI.l0])
  | succ k1=>
   have H:=HA.out
   clear HA
   simp only [bI.l0] at H
   by_cases c2:x7_1<(l0.length:Int)
   ·
    rw [if_pos c2] at H
    have c2b0:=decide_eq_true c2
    clear c2
    by_cases c3:0≤x7_1
    rotate_left
    ·
     rw [if_neg c3] at H
     exact absurd H (by simp)
    rw [if_pos c3] at H
    have c3b0:=decide_eq_true c3
    clear c3
    by_cases c4:x7_1<(l0.length:Int)
    rotate_left
    ·
     rw [if_neg c4] at H
     exact absurd H (by simp)
    rw [if_pos c4] at H
    have c4b0:=decide_eq_true c4
    clear c4
    have c5b0:=eq_true (dA:0≤x7_1)
    by_cases c6:x7_1≤(l0.length:Int)
    rotate_left
    ·
     rw [if_neg c6] at H
     exact absurd H (by simp)
    rw [if_pos c6] at H
    have c6b0:=eq_true c6
    have c6b1:=decide_eq_true c6
    clear c6
    obtain ⟨y159,hy159⟩:∃ y_:List (S28),y_=(l0.take (x7_1:Int).toNat):=⟨_,rfl⟩
    replace H:((dI.f k1 y159 ((am l0 x7_1).f0) ((am l0 x7_1).f1)).bind fun t163=>(if t163=true then (some false) else (bI.l0 k1 l0 l0 (l0.length:Int) (wrap64 (x7_1+1)))))=some r:=rH hy159 H
    have Ny159:=aA.mk hy159
    clear hy159
    replace H:=bS H
    obtain ⟨t163,A7,H⟩:=H
    try dsimp only at H
    by_cases c8:t163=true
    ·
     subst c8
     rw [if_pos rfl] at H
     try dsimp only at H
     obtain rfl:=Option.some.inj H
     have p157:0≤(x7_1:Int):=dA
     have q157:x7_1<(l0.length:Int):=dA
     obtain ⟨ad157,e157,hx157_0,hx157_1⟩:=eG HR0.out x7_1 p157 q157
     cases e157
     replace hx157_0:=(HB.out.cell (World.block_lt_of_cell? w _ hx157_0)).trans hx157_0
     replace hx157_1:=(HB.out.cell (World.block_lt_of_cell? w _ hx157_1)).trans hx157_1
     replace p157:=eq_true p157
     replace q157:=eq_true q157
     try go_wp2_with (first|((with_reducible refine aH (N:=4) rfl ?_);refine bxE (cs:=#[.int .i64 0,.int .i64 0]) (t:=28) ?_;intro gb158 hg w9 hbox hb;have BK158:=aA.mk hbox;have GW158:=sA hg;have GE158:=sA hg;replace HB:=lB hb;clear hb hbox hg;obtain ⟨hcz10_0,hcz10_1,hfz10_0,hfz10_1⟩:=cz2 BK158))
     have n0_:aA (((w9.setCell ⟨gb158,0,none⟩ (.int .i64 ((am l0 x7_1).f0))).setCell ⟨gb158,1,none⟩ (.int .i64 ((am l0 x7_1).f1))).heap[gb158]?=some (.cells #[.int .i64 ((am l0 x7_1).f0),.int .i64 ((am l0 x7_1).f1)] 28 (0,0))):=⟨bpA BK158⟩
     have n1_:aA (Below w.heap.size w ((w9.setCell ⟨gb158,0,none⟩ (.int .i64 ((am l0 x7_1).f0))).setCell ⟨gb158,1,none⟩ (.int .i64 ((am l0 x7_1).f1)))):=⟨blA⟩
     (try clear BK158)
     (try clear HB)
     generalize ((w9.setCell ⟨gb158,0,none⟩ (.int .i64 ((am l0 x7_1).f0))).setCell ⟨gb158,1,none⟩ (.int .i64 ((am l0 x7_1).f1)))=w11 at n0_ n1_ ⊢
     have BK158:=n0_
     have HB:=n1_
     clear n0_ n1_
     have n0_:=aA.mk (aK BK158.out)
     have n1_:=aA.mk (aV HB.out)
     clear BK158
     clear HB
     have BK158:=n0_
     have HB:=n1_
     clear n0_ n1_
     have q13:(x7_1:Int)≤((l0.length:Int):Int):=dA
     obtain ⟨i013,hi013,_,hsz13,_⟩:=info_parts info28
     have hroom13:l0.length≤c0:=HC0.out
     have hC13:Kd.C k28 _ (some ad157) l0.length l0:=HR0.out
     have hcut13:=cut_to (P:=Try.prog) 63 28 .i64 Try.underlying63 hi013 (some ad157) l0.length c0 x7_1 (dA) q13 hroom13
     have hr13:=Kd.C_take (m:=(x7_1:Int).toNat) hC13 (by omega)
     have hy13:y159.length=(x7_1:Int).toNat:=(by rw [Ny159.out,List.length_take];omega)
     rw [← Ny159.out] at hr13
     rw [← hy13] at hcut13
     have HR162:=aA.mk hr13
     have HC162:=aA.mk (show y159.length≤c0 from by omega)
     clear hr13 hC13 hroom13 hi013 hsz13
     have KY13:=aA.mk hy13
     clear hy13
     replace q13:=eq_true q13
     refine bf (n:=5) (S:=fun w'=>w'.cell? ⟨gb158,0,none⟩=some (.int .i64 ((am l0 x7_1).f0))∧w'.cell? ⟨gb158,1,none⟩=some (.int .i64 ((am l0 x7_1).f1))) (ds:=[]) #[Z,Z,Z,Z,Z] (by kernel_rfl) rfl rfl ⟨cA BK158 0,cA BK158 1⟩ (fun hHeld=>?_)
     generalize w11.drew=w12 at BK158 HB HR162 hHeld ⊢
     refine fT (i:=0) (N:=some 12) (v:=?_) (a':=?_) #[Y,Z,Z,Z,Z] rfl rfl (by kernel_rfl) (fun _ _ _ h=>h) (Or.inl ⟨by rfl,?_⟩) ?_ ?_
     rotate_left
     ·
      intro w'
      go_simp
      with_reducible rfl
     rotate_left
     ·
      simp only [pA]
      rfl
     refine fT (i:=1) (N:=some 13) (v:=?_) (a':=?_) #[Y,Y,Z,Z,Z] rfl rfl (by kernel_rfl) (fun _ _ _ h=>h) (Or.inl ⟨by rfl,?_⟩) ?_ ?_
     rotate_left
     ·
      intro w'
      go_simp
      with_reducible rfl
     rotate_left
     ·
      simp only [pA]
      rfl
     refine fT (i:=2) (N:=some 14) (v:=?_) (a':=?_) #[Y,Y,Y,Z,Z] rfl rfl (by kernel_rfl) (fun _ _ _ h=>h) (Or.inl ⟨by rfl,?_⟩) ?_ ?_
     rotate_left
     ·
      intro w'
      go_simp
      with_reducible rfl
     rotate_left
     ·
      simp only [pA]
      rfl
     refine take_ (i:=3) (N:=some 15) (v:=?_) (a':=?_) #[Y,Y,Y,Y,Z] rfl rfl (by kernel_rfl) (fun _ _ _ h=>h) (Or.inl ⟨by rfl,?_⟩) hHeld ?_ ?_
     rotate_left
     ·
      rintro w' ⟨s0,s1⟩
      go_simp
      with_reducible rfl
     rotate_left
     ·
      simp only [pA]
      rfl
     refine bg (i:=4) (N:=some 16) #[Y,Y,Y,Y,Y] rfl rfl (by kernel_rfl) (by decide) (fun K hK=>?_)
     refine goC Try.func73 (dI.calls (w:=_) (hr0:=cR (Kd.C_below HR162.out HB.out)) (hc0:=HC162.out) (h:=A7.out)) ?_
     intro w14 hb
     replace BK158:=kB BK158 hb
     replace HB:=lB hb
     (try clear hb)
     (try clear hb2)
     (try clear hk)
     (try clear hi)
     refine hK.out _ _ ⟨cA BK158 0,cA BK158 1⟩ (fun hHeld=>?_)
     clear hK K
     refine nmA ?_
     refine cL (by kernel_rfl) ?_
     try go_wp2
     go_ret
     exact bU blA
    ·
     replace c8:=Bool.eq_false_iff.mpr c8
     subst c8
     rw [if_neg (show ¬ (false=true) by decide)] at H
     try dsimp only at H
     have H':=aA.mk H
     clear H
     have p157:0≤(x7_1:Int):=dA
     have q157:x7_1<(l0.length:Int):=dA
     obtain ⟨ad157,e157,hx157_0,hx157_1⟩:=eG HR0.out x7_1 p157 q157
     cases e157
     replace hx157_0:=(HB.out.cell (World.block_lt_of_cell? w _ hx157_0)).trans hx157_0
     replace hx157_1:=(HB.out.cell (World.block_lt_of_cell? w _ hx157_1)).trans hx157_1
     replace p157:=eq_true p157
     replace q157:=eq_true q157
     try go_wp2_with (first|((with_reducible refine aH (N:=4) rfl ?_);refine bxE (cs:=#[.int .i64 0,.int .i64 0]) (t:=28) ?_;intro gb158 hg w15 hbox hb;have BK158:=aA.mk hbox;have GW158:=sA hg;have GE158:=sA hg;replace HB:=lB hb;clear hb hbox hg;obtain ⟨hcz16_0,hcz16_1,hfz16_0,hfz16_1⟩:=cz2 BK158))
     have n0_:aA (((w15.setCell ⟨gb158,0,none⟩ (.int .i64 ((am l0 x7_1).f0))).setCell ⟨gb158,1,none⟩ (.int .i64 ((am l0 x7_1).f1))).heap[gb158]?=some (.cells #[.int .i64 ((am l0 x7_1).f0),.int .i64 ((am l0 x7_1).f1)] 28 (0,0))):=⟨bpA BK158⟩
     have n1_:aA (Below w.heap.size w ((w15.setCell ⟨gb158,0,none⟩ (.int .i64 ((am l0 x7_1).f0))).setCell ⟨gb158,1,none⟩ (.int .i64 ((am l0 x7_1).f1)))):=⟨blA⟩
     (try clear BK158)
     (try clear HB)
     generalize ((w15.setCell ⟨gb158,0,none⟩ (.int .i64 ((am l0 x7_1).f0))).setCell ⟨gb158,1,none⟩ (.int .i64 ((am l0 x7_1).f1)))=w17 at n0_ n1_ ⊢
     have BK158:=n0_
     have HB:=n1_
     clear n0_ n1_
     have n0_:=aA.mk (aK BK158.out)
     have n1_:=aA.mk (aV HB.out)
     clear BK158
     clear HB
     have BK158:=n0_
     have HB:=n1_
     clear n0_ n1_
     have q19:(x7_1:Int)≤((l0.length:Int):Int):=dA
     obtain ⟨i019,hi019,_,hsz19,_⟩:=info_parts info28
     have hroom19:l0.length≤c0:=HC0.out
     have hC19:Kd.C k28 _ (some ad157) l0.length l0:=HR0.out
     have hcut19:=cut_to (P:=Try.prog) 63 28 .i64 Try.underlying63 hi019 (some ad157) l0.length c0 x7_1 (dA) q19 hroom19
     have hr19:=Kd.C_take (m:=(x7_1:Int).toNat) hC19 (by omega)
     have hy19:y159.length=(x7_1:Int).toNat:=(by rw [Ny159.out,List.length_take];omega)
     rw [← Ny159.out] at hr19
     rw [← hy19] at hcut19
     have HR162:=aA.mk hr19
     have HC162:=aA.mk (show y159.length≤c0 from by omega)
     clear hr19 hC19 hroom19 hi019 hsz19
     have KY19:=aA.mk hy19
     clear hy19
     replace q19:=eq_true q19
     refine bf (n:=5) (S:=fun w'=>w'.cell? ⟨gb158,0,none⟩=some (.int .i64 ((am l0 x7_1).f0))∧w'.cell? ⟨gb158,1,none⟩=some (.int .i64 ((am l0 x7_1).f1))) (ds:=[]) #[Z,Z,Z,Z,Z] (by kernel_rfl) rfl rfl ⟨cA BK158 0,cA BK158 1⟩ (fun hHeld=>?_)
     generalize w17.drew=w18 at BK158 HB HR162 hHeld ⊢
     refine fT (i:=0) (N:=some 12) (v:=?_) (a':=?_) #[Y,Z,Z,Z,Z] rfl rfl (by kernel_rfl) (fun _ _ _ h=>h) (Or.inl ⟨by rfl,?_⟩) ?_ ?_
     rotate_left
     ·
      intro w'
      go_simp
      with_reducible rfl
     rotate_left
     ·
      simp only [pA]
      rfl
     refine fT (i:=1) (N:=some 13) (v:=?_) (a':=?_) #[Y,Y,Z,Z,Z] rfl rfl (by kernel_rfl) (fun _ _ _ h=>h) (Or.inl ⟨by rfl,?_⟩) ?_ ?_
     rotate_left
     ·
      intro w'
      go_simp
      with_reducible rfl
     rotate_left
     ·
      simp only [pA]
      rfl
     refine fT (i:=2) (N:=some 14) (v:=?_) (a':=?_) #[Y,Y,Y,Z,Z] rfl rfl (by kernel_rfl) (fun _ _ _ h=>h) (Or.inl ⟨by rfl,?_⟩) ?_ ?_
     rotate_left
     ·
      intro w'
      go_simp
      with_reducible rfl
     rotate_left
     ·
      simp only [pA]
      rfl
     refine take_ (i:=3) (N:=some 15) (v:=?_) (a':=?_) #[Y,Y,Y,Y,Z] rfl rfl (by kernel_rfl) (fun _ _ _ h=>h) (Or.inl ⟨by rfl,?_⟩) hHeld ?_ ?_
     rotate_left
     ·
      rintro w' ⟨s0,s1⟩
      go_simp
      with_reducible rfl
     rotate_left
     ·
      simp only [pA]
      rfl
     refine bg (i:=4) (N:=some 16) #[Y,Y,Y,Y,Y] rfl rfl (by kernel_rfl) (by decide) (fun K hK=>?_)
     refine goC Try.func73 (dI.calls (w:=_) (hr0:=cR (Kd.C_below HR162.out HB.out)) (hc0:=HC162.out) (h:=A7.out)) ?_
     intro w20 hb
     replace BK158:=kB BK158 hb
     replace HB:=lB hb
     (try clear hb)
     (try clear hb2)
     (try clear hk)
     (try clear hi)
     refine hK.out _ _ ⟨cA BK158 0,cA BK158 1⟩ (fun hHeld=>?_)
     clear hK K
     refine nmA ?_
     refine cL (by kernel_rfl) ?_
     try go_wp2
     go_roundg k1
     case measure=>have:=HK1.out;omega
     case rel=>exact ⟨(wrap64 (x7_1+1)),hB,H',⟨by have:=HK1.out;omega⟩,⟨blA⟩⟩
   ·
    rw [if_neg c2] at H
    have c2b0:=decide_eq_false c2
    clear c2
    obtain rfl:=Option.some.inj H
    go_wp2
    go_ret
    exact bU blA
def ax.l0:Nat→List (S28)→Int→Option (Int)
 | 0,_,_=>none
 | k+1,x2,x7=>if x7<(x2.length:Int) then (if 0≤x7 then ((cq.f k ((am x2 x7).f0) ((am x2 x7).f1)).bind fun t118=>(if t118=true then (ax.l0 k x2 (wrap64 (x7+1))) else (some 1))) else (none)) else ((ap.f k x2).bind fun t119=>(if t119=true then (some 0) else (some 5)))
def ax.f (k:Nat) (a0:Int) (l1:List (S25)) (l2:List (S28)):Option (Int):=(bv.f k a0 l1).bind fun t116=>(if t116=0 then (ax.l0 k l2 0) else (some 1))
set_option maxHeartbeats 8000000 in
set_option maxRecDepth 100000 in
theorem ax.calls (k:Nat) (a0:Int) (A1:Option Addr) (c1:Nat) (l1:List (S25)) (A2:Option Addr) (c2:Nat) (l2:List (S28)) (r:Int) (w:World) (hr1:Kd.C k25 w A1 l1.length l1) (hc1:l1.length≤c1) (hr2:Kd.C k28 w A2 l2.length l2) (hc2:l2.length≤c2) (h:ax.f k a0 l1 l2=some r) :
  Calls Try.prog 28 #[.int .i64 a0,.slice A1 l1.length c1,.slice A2 l2.length c2] w fun e w'=>e=.returned (.int .i64 r)∧Below w.heap.size w w':=by
 have hu28:=Try.underlying28
 have HR1:=aA.mk hr1
 have HC1:=aA.mk hc1
 clear hr1 hc1
 have HR2:=aA.mk hr2
 have HC2:=aA.mk hc2
 clear hr2 hc2
 have HB:=aA.mk (Below.refl w.heap.size w)
 have H:=h
 unfold ax.f at H
 clear h
 replace H:=bS H
 obtain ⟨t116,A4,H⟩:=H
 try dsimp only at H
 by_cases c5:t116=0
 focus
  rw [if_pos c5] at H
  have c5b0:(t116 == 0)=true:=beq_iff_eq.mpr c5
  have c5b1:(t116 != 0)=false:=bne_eq_false_iff_eq.mpr c5
  clear c5
  have H':=aA.mk H
  clear H
 rotate_left
 focus
  rw [if_neg c5] at H
  have c5b0:(t116 == 0)=false:=beq_eq_false_iff_ne.mpr c5
  have c5b1:(t116 != 0)=true:=bne_iff_ne.mpr c5
  obtain rfl:=Option.some.inj H
 rotate_left
 all_goals
  go_enter Try.func28,Try.ntmps28
  go_wp2_with (first|((with_reducible refine gd 10 rfl ?_);refine gC (some 10) rfl Try.func66 (bv.calls (w:=_) (hr1:=cR HR1.out) (hc1:=HC1.out) (h:=A4.out)) ?_;intro w6 hb;replace HB:=lB hb;clear hb))
 ·
  go_loopg [7] k (fun kq v7 w'=>∃ (x7_1:Int),v7=.int .i64 x7_1∧aA (ax.l0 kq l2 x7_1=some r)∧aA (kq≤k)∧aA (Below w.heap.size w w'))
  case atStart=>exact ⟨(0),hB,H',⟨Nat.le_refl _⟩,⟨blA⟩⟩
  case round=>
   clear H'
   try clear c1
   try clear c2
   try clear c5
   try clear c5b0
   try clear c5b1
   obtain ⟨x7_1,rfl,HA,HK1,HB⟩:=hrel
   cases gk with
   | zero=>exact absurd HA.out (by simp [ax.l0])
   | succ k1=>
    have H:=HA.out
    clear HA
    simp only [ax.l0] at H
    by_cases c7:x7_1<(l2.length:Int)
    ·
     rw [if_pos c7] at H
     have c7b0:=decide_eq_true c7
     clear c7
     by_cases c8:0≤x7_1
     rotate_left
     ·
      rw [if_neg c8] at H
      exact absurd H (by simp)
     rw [if_pos c8] at H
     have c8b0:=decide_eq_true c8
     clear c8
     replace H:=bS H
     obtain ⟨t118,A9,H⟩:=H
     try dsimp only at H
     by_cases c10:t118=true
     focus
      subst c10
      rw [if_pos rfl] at H
      try dsimp only at H
      have H':=aA.mk H
      clear H
      have p117:0≤(x7_1:Int):=dA
      have q117:x7_1<(l2.length:Int):=dA
      obtain ⟨ad117,e117,hx117_0,hx117_1⟩:=eG HR2.out x7_1 p117 q117
      cases e117
      replace hx117_0:=(HB.out.cell (World.block_lt_of_cell? w _ hx117_0)).trans hx117_0
      replace hx117_1:=(HB.out.cell (World.block_lt_of_cell? w _ hx117_1)).trans hx117_1
      replace p117:=eq_true p117
      replace q117:=eq_true q117
     rotate_left
     focus
      replace c10:=Bool.eq_false_iff.mpr c10
      subst c10
      rw [if_neg (show ¬ (false=true) by decide)] at H
      try dsimp only at H
      obtain rfl:=Option.some.inj H
      have p117:0≤(x7_1:Int):=dA
      have q117:x7_1<(l2.length:Int):=dA
      obtain ⟨ad117,e117,hx117_0,hx117_1⟩:=eG HR2.out x7_1 p117 q117
      cases e117
      replace hx117_0:=(HB.out.cell (World.block_lt_of_cell? w _ hx117_0)).trans hx117_0
      replace hx117_1:=(HB.out.cell (World.block_lt_of_cell? w _ hx117_1)).trans hx117_1
      replace p117:=eq_true p117
      replace q117:=eq_true q117
     rotate_left
     all_goals
      go_wp2_with (first|((with_reducible refine gd 22 rfl ?_);refine gC (some 22) rfl Try.func67 (cq.calls (w:=_) (h:=A9.out)) ?_;intro w11 hb;replace HB:=lB hb;clear hb))
     ·
      go_roundg k1
      case measure=>have:=HK1.out;omega
      case rel=>exact ⟨(wrap64 (x7_1+1)),hB,H',⟨by have:=HK1.out;omega⟩,⟨blA⟩⟩
     ·
      go_ret
      exact bU blA
    ·
     rw [if_neg c7] at H
     have c7b0:=decide_eq_false c7
     clear c7
     replace H:=bS H
     obtain ⟨t119,A13,H⟩:=H
     try dsimp only at H
     by_cases c14:t119=true
     focus
      subst c14
      rw [if_pos rfl] at H
      try dsimp only at H
      obtain rfl:=Option.some.inj H
     rotate_left
     focus
      replace c14:=Bool.eq_false_iff.mpr c14
      subst c14
      rw [if_neg (show ¬ (false=true) by decide)] at H
      try dsimp only at H
      obtain rfl:=Option.some.inj H
     rotate_left
     all_goals
      go_wp2_with (first|((with_reducible refine gd 25 rfl ?_);refine gC (some 25) rfl Try.func68 (ap.calls (w:=_) (hr0:=cR (Kd.C_below HR2.out HB.out)) (hc0:=HC2.out) (h:=A13.out)) ?_;rintro _ ⟨nd,rfl⟩))
     ·
      go_ret
      exact bU blA
     ·
      go_ret
      exact bU blA
 ·
  go_ret
  exact bU blA
end Go.Proofs.Ytpihnmmoahplgaa.PAll
