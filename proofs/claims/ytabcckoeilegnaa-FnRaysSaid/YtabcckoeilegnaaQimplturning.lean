-- turned out of the kit's print
import Derived.Test.YtabcckoeilegnaaQx
import Derived.Test.YtabcckoeilegnaaQimplmark
import Derived.Test.YtabcckoeilegnaaQimplmod
import Derived.Test.YtabcckoeilegnaaQimpltimes
import Derived.Test.YtabcckoeilegnaaQspecl01Is
import Derived.Test.YtabcckoeilegnaaQspecl05Nearest
namespace Go.Proofs.Ytabcckoeilegnaa.PAll
open Go.RowKit Go.Proofs.YtabcckoeilegnaaW.PrintWords Go.Proofs.YtabcckoeilegnaaW.PrintLast Go.Proofs.YtabcckoeilegnaaW.PrintMore
attribute [local go_sem] Go.Proofs.Ytabcckoeilegnaa.Aux.setCell_drewN Go.Proofs.Ytabcckoeilegnaa.Aux.isSome_setCell max2_int min2_int max_two min_two max_three min_three max_four min_four
set_option linter.unusedVariables false
set_option linter.unusedSimpArgs false
attribute [local go_sem high] eqA27
mutual
def spec_l05Different.l0:Nat→List (S27)→Int→Option (Bool)
 | 0,_,_=>none
 | k+1,x0,x3=>if x3<(x0.length:Int) then (spec_l05Different.l1 k x0 x3 0) else (some true)
def spec_l05Different.l1:Nat→List (S27)→Int→Int→Option (Bool)
 | 0,_,_,_=>none
 | k+1,x0,x3,x4=>if x4<x3 then (if 0≤x3 then (if x3<(x0.length:Int) then (if 0≤x4 then (if x4<(x0.length:Int) then (if (((rd_T27 x0 x3).f0) == ((rd_T27 x0 x4).f0) && (((rd_T27 x0 x3).f1) == ((rd_T27 x0 x4).f1)))=true then (some false) else (spec_l05Different.l1 k x0 x3 (wrap64 (x4+1)))) else (none)) else (none)) else (none)) else (none)) else (spec_l05Different.l0 k x0 (wrap64 (x3+1)))
end
def spec_l05Different.f (k:Nat) (l0:List (S27)):Option (Bool):=spec_l05Different.l0 k l0 0
theorem spec_l05Different.mono_l:∀ k,(∀ y0 y1,LeO (spec_l05Different.l0 k y0 y1) (spec_l05Different.l0 (k+1) y0 y1))∧(∀ y0 y1 y2,LeO (spec_l05Different.l1 k y0 y1 y2) (spec_l05Different.l1 (k+1) y0 y1 y2))
 | 0=>by refine ⟨?_,?_⟩ <;> (intros;intro r h;simp [spec_l05Different.l0,spec_l05Different.l1] at h)
 | k+1=>by
  obtain ⟨ih0,ih1⟩:=spec_l05Different.mono_l k
  refine ⟨?_,?_⟩ <;> (intros;first|unfold spec_l05Different.l0|unfold spec_l05Different.l1)
  all_goals repeat' first
  | with_reducible first|exact ih0 ..|exact ih1 ..|exact LeO.refl _|exact LeO.none _|refine LeO.ite ?_ ?_|refine LeO.bind ?_ fun _=>?_
theorem spec_l05Different.mono:∀ a0 k,LeO (spec_l05Different.f k a0) (spec_l05Different.f (k+1) a0):=by
 intro a0 k
 obtain ⟨ih0,ih1⟩:=spec_l05Different.mono_l k
 unfold spec_l05Different.f
 repeat' first
   | with_reducible first|exact ih0 ..|exact ih1 ..|exact LeO.refl _|exact LeO.none _|refine LeO.ite ?_ ?_|refine LeO.bind ?_ fun _=>?_
set_option maxHeartbeats 8000000 in
set_option maxRecDepth 100000 in
theorem spec_l05Different.calls (k:Nat) (A0:Option Addr) (c0:Nat) (l0:List (S27)) (r:Bool) (w:World) (hr0:Kd.C k27 w A0 l0.length l0) (hc0:l0.length≤c0) (h:spec_l05Different.f k l0=some r) :
  Calls Try.prog 69 #[.slice A0 l0.length c0] w fun e w'=>e=.returned (.bool r)∧Drawn0 w w':=by
 have hu27:=Try.underlying27
 have HR0:=Aside0.mk hr0
 have HC0:=Aside0.mk hc0
 clear hr0 hc0
 have H:=h
 unfold spec_l05Different.f at H
 clear h
 have H':=Aside0.mk H
 clear H
 go_enter Try.func69,Try.ntmps69
 go_wp2
 repeat (go_quiet (fail);try go_wp2)
 go_loopg [3] k (fun kq v3 w'=>∃ (x3_1:Int),v3=.int .i64 x3_1∧Aside0 (spec_l05Different.l0 kq l0 x3_1=some r)∧Aside0 (kq≤k)∧Drawn0 w w')
 case atStart=>exact ⟨(0),hB,H',⟨Nat.le_refl _⟩,by repeat (first|exact Drawn0.refl _|apply Drawn0.step)⟩
 case round=>
  clear H'
  obtain ⟨x3_1,rfl,HA,HK1,⟨m1,rfl⟩⟩:=hrel
  cases gk with
  | zero=>exact absurd HA.out (by simp [spec_l05Different.l0])
  | succ k1=>
   have H:=HA.out
   clear HA
   simp only [spec_l05Different.l0] at H
   by_cases c2:x3_1<(l0.length:Int)
   ·
    rw [if_pos c2] at H
    have c2b0:=decide_eq_true c2
    clear c2
    have H':=Aside0.mk H
    clear H
    go_wp2
    repeat (go_quiet (fail);try go_wp2)
    go_loopg [4] k1 (fun kq v4 w'=>∃ (x4_2:Int),v4=.int .i64 x4_2∧Aside0 (spec_l05Different.l1 kq l0 x3_1 x4_2=some r)∧Aside0 (kq≤k1)∧Drawn0 w w')
    case atStart=>exact ⟨(0),hB,H',⟨Nat.le_refl _⟩,by repeat (first|exact Drawn0.refl _|apply Drawn0.step)⟩
    case round=>
     clear H'
     try clear c2
     try clear c2b0
     obtain ⟨x4_2,rfl,HA,HK2,⟨m2,rfl⟩⟩:=hrel
     cases gk with
     | zero=>exact absurd HA.out (by simp [spec_l05Different.l1])
     | succ k2=>
      have H:=HA.out
      clear HA
      simp only [spec_l05Different.l1] at H
      by_cases c3:x4_2<x3_1
      ·
       rw [if_pos c3] at H
       have c3b0:=decide_eq_true c3
       clear c3
       by_cases c4:0≤x3_1
       rotate_left
       ·
        rw [if_neg c4] at H
        exact absurd H (by simp)
       rw [if_pos c4] at H
       have c4b0:=decide_eq_true c4
       clear c4
       by_cases c5:x3_1<(l0.length:Int)
       rotate_left
       ·
        rw [if_neg c5] at H
        exact absurd H (by simp)
       rw [if_pos c5] at H
       have c5b0:=decide_eq_true c5
       clear c5
       by_cases c6:0≤x4_2
       rotate_left
       ·
        rw [if_neg c6] at H
        exact absurd H (by simp)
       rw [if_pos c6] at H
       have c6b0:=decide_eq_true c6
       clear c6
       by_cases c7:x4_2<(l0.length:Int)
       rotate_left
       ·
        rw [if_neg c7] at H
        exact absurd H (by simp)
       rw [if_pos c7] at H
       have c7b0:=decide_eq_true c7
       clear c7
       by_cases c8:(((rd_T27 l0 x3_1).f0) == ((rd_T27 l0 x4_2).f0) && (((rd_T27 l0 x3_1).f1) == ((rd_T27 l0 x4_2).f1)))=true
       ·
        rw [if_pos c8] at H
        have c8b0:(((rd_T27 l0 x3_1).f0) == ((rd_T27 l0 x4_2).f0) && (((rd_T27 l0 x3_1).f1) == ((rd_T27 l0 x4_2).f1)))=true:=c8
        (try (have c8b1:decide (((rd_T27 l0 x3_1).f0)=((rd_T27 l0 x4_2).f0) && (((rd_T27 l0 x3_1).f1) == ((rd_T27 l0 x4_2).f1)))=true:=by simpa using c8))
        (try (have c8b2:(((rd_T27 l0 x3_1).f0) == ((rd_T27 l0 x4_2).f0) && (((rd_T27 l0 x3_1).f1) == ((rd_T27 l0 x4_2).f1)))=true:=by simpa using c8))
        clear c8
        obtain rfl:=Option.some.inj H
        have p438:0≤(x3_1:Int):=dA
        have q438:x3_1<(l0.length:Int):=dA
        obtain ⟨ad438,e438,hx438_0,hx438_1⟩:=at_T27 HR0.out x3_1 p438 q438
        cases e438
        replace p438:=eq_true p438
        replace q438:=eq_true q438
        have p439:0≤(x4_2:Int):=dA
        have q439:x4_2<(l0.length:Int):=dA
        obtain ⟨ad439,e439,hx439_0,hx439_1⟩:=at_T27 HR0.out x4_2 p439 q439
        obtain rfl:ad438=ad439:=(by injection e439)
        replace p439:=eq_true p439
        replace q439:=eq_true q439
        go_wp2
        repeat (go_quiet (fail);try go_wp2)
        go_ret
        exact ⟨by first|rfl|(simp;done)|(simp [*];done),by repeat (first|exact Drawn0.refl _|apply Drawn0.step)⟩
       ·
        rw [if_neg c8] at H
        have c8b0:(((rd_T27 l0 x3_1).f0) == ((rd_T27 l0 x4_2).f0) && (((rd_T27 l0 x3_1).f1) == ((rd_T27 l0 x4_2).f1)))=false:=by simpa using c8
        (try (have c8b1:decide (((rd_T27 l0 x3_1).f0)=((rd_T27 l0 x4_2).f0) && (((rd_T27 l0 x3_1).f1) == ((rd_T27 l0 x4_2).f1)))=false:=by simpa using c8))
        (try (have c8b2:(((rd_T27 l0 x3_1).f0) == ((rd_T27 l0 x4_2).f0) && (((rd_T27 l0 x3_1).f1) == ((rd_T27 l0 x4_2).f1)))=false:=by simpa using c8))
        (try (have c8b3:¬ (((rd_T27 l0 x3_1).f0)=((rd_T27 l0 x4_2).f0) && (((rd_T27 l0 x3_1).f1) == ((rd_T27 l0 x4_2).f1))):=by simpa using c8))
        clear c8
        have H':=Aside0.mk H
        clear H
        have p438:0≤(x3_1:Int):=dA
        have q438:x3_1<(l0.length:Int):=dA
        obtain ⟨ad438,e438,hx438_0,hx438_1⟩:=at_T27 HR0.out x3_1 p438 q438
        cases e438
        replace p438:=eq_true p438
        replace q438:=eq_true q438
        have p439:0≤(x4_2:Int):=dA
        have q439:x4_2<(l0.length:Int):=dA
        obtain ⟨ad439,e439,hx439_0,hx439_1⟩:=at_T27 HR0.out x4_2 p439 q439
        obtain rfl:ad438=ad439:=(by injection e439)
        replace p439:=eq_true p439
        replace q439:=eq_true q439
        go_wp2
        repeat (go_quiet (fail);try go_wp2)
        go_roundg k2
        case measure=>have:=HK1.out;have:=HK2.out;omega
        case rel=>exact ⟨(wrap64 (x4_2+1)),hB,H',⟨by have:=HK1.out;have:=HK2.out;omega⟩,by repeat (first|exact Drawn0.refl _|apply Drawn0.step)⟩
      ·
       rw [if_neg c3] at H
       have c3b0:=decide_eq_false c3
       clear c3
       have H':=Aside0.mk H
       clear H
       go_wp2
       repeat (go_quiet (fail);try go_wp2)
       go_roundg k2
       case measure=>have:=HK1.out;have:=HK2.out;omega
       case rel=>exact ⟨(wrap64 (x3_1+1)),hB,H',⟨by have:=HK1.out;have:=HK2.out;omega⟩,by repeat (first|exact Drawn0.refl _|apply Drawn0.step)⟩
   ·
    rw [if_neg c2] at H
    have c2b0:=decide_eq_false c2
    clear c2
    obtain rfl:=Option.some.inj H
    go_wp2
    repeat (go_quiet (fail);try go_wp2)
    go_ret
    exact ⟨by first|rfl|(simp;done)|(simp [*];done),by repeat (first|exact Drawn0.refl _|apply Drawn0.step)⟩
def impl_cross.f (a0_0 a0_1 a1_0 a1_1:Int):Option (Int):=some (wrap64 ((wrap64 (a0_0*a1_1)) - (wrap64 (a1_0*a0_1))))
set_option maxHeartbeats 8000000 in
set_option maxRecDepth 100000 in
theorem impl_cross.calls (a0_0 a0_1 a1_0 a1_1 r:Int) (w:World) (h:impl_cross.f a0_0 a0_1 a1_0 a1_1=some r) :
  Calls Try.prog 87 #[.agg #[.int .i64 a0_0,.int .i64 a0_1],.agg #[.int .i64 a1_0,.int .i64 a1_1]] w fun e w'=>e=.returned (.int .i64 r)∧Below w.heap.size w w':=by
 have hu27:=Try.underlying27
 have HB:=Aside0.mk (Below.refl w.heap.size w)
 have H:=h
 unfold impl_cross.f at H
 clear h
 obtain rfl:=Option.some.inj H
 go_enter Try.func87,Try.ntmps87
 go_wp2_with (first|((with_reducible refine gate_dst (N:=2) rfl ?_);refine bxE (cs:=#[.int .i64 a0_0,.int .i64 a0_1]) (t:=27) ?_;intro gb597 hg w3 hbox hb;have BK597:=Aside0.mk hbox;have GW597:=sA hg;have GE597:=sA hg;replace HB:=lB hb;clear hb hbox hg)|((with_reducible refine gate_dst (N:=3) rfl ?_);refine bxE (cs:=#[.int .i64 a1_0,.int .i64 a1_1]) (t:=27) ?_;intro gb598 hg w4 hbox hb;have BK598:=Aside0.mk hbox;have GW598:=sA hg;have GE598:=sA hg;have NB597_598:=nA hg BK597;have NB598_597:=nB hg BK597;replace BK597:=kB BK597 hb;replace HB:=lB hb;clear hb hbox hg;have hnb5:=NB597_598.out;have hnc5:=NB598_597.out;obtain ⟨hcz6_0,hcz6_1,hfz6_0,hfz6_1⟩:=cz2 BK597;obtain ⟨hcz7_0,hcz7_1,hfz7_0,hfz7_1⟩:=cz2 BK598))
 go_ret
 exact finA blA
def spec_l01End.f (k:Nat) (a0_0 a0_1:Int):Option (Bool):=if a0_1=0 then (some (a0_0 == 1)) else ((spec_l01In.f a0_1 1 1000000).bind fun t435=>(if t435=true then ((spec_l01In.f a0_0 (-1000000) 1000000).bind fun t436=>(if t436=true then ((spec_l01Gcd.f k a0_0 a0_1).bind fun t437=>(some (t437 == 1))) else (some false))) else (some false)))
theorem spec_l01End.mono:∀ a0 a1 k,LeO (spec_l01End.f k a0 a1) (spec_l01End.f (k+1) a0 a1):=by
 intro a0 a1 k
 unfold spec_l01End.f
 repeat' first
   | with_reducible first|exact spec_l01Gcd.mono ..|exact LeO.refl _|exact LeO.none _|refine LeO.ite ?_ ?_|refine LeO.bind ?_ fun _=>?_
set_option maxHeartbeats 8000000 in
set_option maxRecDepth 100000 in
theorem spec_l01End.calls (k:Nat) (a0_0 a0_1:Int) (r:Bool) (w:World) (h:spec_l01End.f k a0_0 a0_1=some r) :
  Calls Try.prog 68 #[.agg #[.int .i64 a0_0,.int .i64 a0_1]] w fun e w'=>e=.returned (.bool r)∧Below w.heap.size w w':=by
 have hu27:=Try.underlying27
 have HB:=Aside0.mk (Below.refl w.heap.size w)
 have H:=h
 unfold spec_l01End.f at H
 clear h
 by_cases c2:a0_1=0
 ·
  rw [if_pos c2] at H
  have c2b0:(a0_1 == 0)=true:=beq_iff_eq.mpr c2
  have c2b1:(a0_1 != 0)=false:=bne_eq_false_iff_eq.mpr c2
  clear c2
  obtain rfl:=Option.some.inj H
  go_enter Try.func68,Try.ntmps68
  go_wp2_with (first|((with_reducible refine gate_dst (N:=1) rfl ?_);refine bxE (cs:=#[.int .i64 a0_0,.int .i64 a0_1]) (t:=27) ?_;intro gb434 hg w3 hbox hb;have BK434:=Aside0.mk hbox;have GW434:=sA hg;have GE434:=sA hg;replace HB:=lB hb;clear hb hbox hg;obtain ⟨hcz4_0,hcz4_1,hfz4_0,hfz4_1⟩:=cz2 BK434))
  go_ret
  exact finA blA
 ·
  rw [if_neg c2] at H
  have c2b0:(a0_1 == 0)=false:=beq_eq_false_iff_ne.mpr c2
  have c2b1:(a0_1 != 0)=true:=bne_iff_ne.mpr c2
  replace H:=bS H
  obtain ⟨t435,A5,H⟩:=H
  try dsimp only at H
  by_cases c6:t435=true
  ·
   subst c6
   rw [if_pos rfl] at H
   try dsimp only at H
   replace H:=bS H
   obtain ⟨t436,A7,H⟩:=H
   try dsimp only at H
   by_cases c8:t436=true
   ·
    subst c8
    rw [if_pos rfl] at H
    try dsimp only at H
    replace H:=bS H
    obtain ⟨t437,A9,H⟩:=H
    try dsimp only at H
    obtain rfl:=Option.some.inj H
    go_enter Try.func68,Try.ntmps68
    go_wp2_with (first|((with_reducible refine gate_dst (N:=1) rfl ?_);refine bxE (cs:=#[.int .i64 a0_0,.int .i64 a0_1]) (t:=27) ?_;intro gb434 hg w10 hbox hb;have BK434:=Aside0.mk hbox;have GW434:=sA hg;have GE434:=sA hg;replace HB:=lB hb;clear hb hbox hg;obtain ⟨hcz11_0,hcz11_1,hfz11_0,hfz11_1⟩:=cz2 BK434)|((with_reducible refine gd 11 rfl ?_);refine gC (some 11) rfl Try.func32 (spec_l01In.calls (w:=_) (h:=A5.out)) ?_;rintro _ ⟨nd,rfl⟩)|(go_at_call 32;(with_reducible refine (spec_l01In.calls a0_0 (-1000000) 1000000 true _ A7.out).mono ?_);rintro e w' ⟨rfl,⟨nd,rfl⟩⟩)|(go_at_call 83;(with_reducible refine (spec_l01Gcd.calls k a0_0 a0_1 t437 _ A9.out).mono ?_);rintro e w12 ⟨rfl,hb⟩;replace BK434:=kB BK434 hb;replace HB:=lB hb;clear hb))
    go_ret
    exact finA blA
   ·
    replace c8:=Bool.eq_false_iff.mpr c8
    subst c8
    rw [if_neg (show ¬ (false=true) by decide)] at H
    try dsimp only at H
    obtain rfl:=Option.some.inj H
    go_enter Try.func68,Try.ntmps68
    go_wp2_with (first|((with_reducible refine gate_dst (N:=1) rfl ?_);refine bxE (cs:=#[.int .i64 a0_0,.int .i64 a0_1]) (t:=27) ?_;intro gb434 hg w13 hbox hb;have BK434:=Aside0.mk hbox;have GW434:=sA hg;have GE434:=sA hg;replace HB:=lB hb;clear hb hbox hg;obtain ⟨hcz14_0,hcz14_1,hfz14_0,hfz14_1⟩:=cz2 BK434)|((with_reducible refine gd 11 rfl ?_);refine gC (some 11) rfl Try.func32 (spec_l01In.calls (w:=_) (h:=A5.out)) ?_;rintro _ ⟨nd,rfl⟩)|(go_at_call 32;(with_reducible refine (spec_l01In.calls a0_0 (-1000000) 1000000 false _ A7.out).mono ?_);rintro e w' ⟨rfl,⟨nd,rfl⟩⟩))
    go_ret
    exact finA blA
  ·
   replace c6:=Bool.eq_false_iff.mpr c6
   subst c6
   rw [if_neg (show ¬ (false=true) by decide)] at H
   try dsimp only at H
   obtain rfl:=Option.some.inj H
   go_enter Try.func68,Try.ntmps68
   go_wp2_with (first|((with_reducible refine gate_dst (N:=1) rfl ?_);refine bxE (cs:=#[.int .i64 a0_0,.int .i64 a0_1]) (t:=27) ?_;intro gb434 hg w15 hbox hb;have BK434:=Aside0.mk hbox;have GW434:=sA hg;have GE434:=sA hg;replace HB:=lB hb;clear hb hbox hg;obtain ⟨hcz16_0,hcz16_1,hfz16_0,hfz16_1⟩:=cz2 BK434)|((with_reducible refine gd 11 rfl ?_);refine gC (some 11) rfl Try.func32 (spec_l01In.calls (w:=_) (h:=A5.out)) ?_;rintro _ ⟨nd,rfl⟩))
   go_ret
   exact finA blA
def spec_l01Code.l0:Nat→Int→List (S25)→Int→Option (Int)
 | 0,_,_,_=>none
 | k+1,x0,x1,x5=>if x5<(x1.length:Int) then (if 0≤x5 then ((spec_l01Is.f k x0 ((rd_T25 x1 x5).f0) ((rd_T25 x1 x5).f1) ((rd_T25 x1 x5).f2)).bind fun t433=>(if t433=true then (spec_l01Code.l0 k x0 x1 (wrap64 (x5+1))) else (some 1))) else (none)) else (some 0)
def spec_l01Code.f (k:Nat) (a0:Int) (l1:List (S25)):Option (Int):=(spec_l01Prime.f a0).bind fun t431=>(if t431=true then (spec_l01Code.l0 k a0 l1 0) else (some 1))
theorem spec_l01Code.mono_l:∀ k,(∀ y0 y1 y2,LeO (spec_l01Code.l0 k y0 y1 y2) (spec_l01Code.l0 (k+1) y0 y1 y2))
 | 0=>fun _ _ _ r h=>by simp [spec_l01Code.l0] at h
 | k+1=>by
  have ih0:=spec_l01Code.mono_l k
  ·
   intro y0 y1 y2
   unfold spec_l01Code.l0
   repeat' first
   | with_reducible first|exact ih0 ..|exact spec_l01Is.mono ..|exact LeO.refl _|exact LeO.none _|refine LeO.ite ?_ ?_|refine LeO.bind ?_ fun _=>?_
theorem spec_l01Code.mono:∀ a0 a1 k,LeO (spec_l01Code.f k a0 a1) (spec_l01Code.f (k+1) a0 a1):=by
 intro a0 a1 k
 have ih0:=spec_l01Code.mono_l k
 unfold spec_l01Code.f
 repeat' first
   | with_reducible first|exact ih0 ..|exact spec_l01Is.mono ..|exact LeO.refl _|exact LeO.none _|refine LeO.ite ?_ ?_|refine LeO.bind ?_ fun _=>?_
set_option maxHeartbeats 8000000 in
set_option maxRecDepth 100000 in
theorem spec_l01Code.calls (k:Nat) (a0:Int) (A1:Option Addr) (c1:Nat) (l1:List (S25)) (r:Int) (w:World) (hr1:Kd.C k25 w A1 l1.length l1) (hc1:l1.length≤c1) (h:spec_l01Code.f k a0 l1=some r) :
  Calls Try.prog 67 #[.int .i64 a0,.slice A1 l1.length c1] w fun e w'=>e=.returned (.int .i64 r)∧Below w.heap.size w w':=by
 have hu25:=Try.underlying25
 have HR1:=Aside0.mk hr1
 have HC1:=Aside0.mk hc1
 clear hr1 hc1
 have HB:=Aside0.mk (Below.refl w.heap.size w)
 have H:=h
 unfold spec_l01Code.f at H
 clear h
 replace H:=bS H
 obtain ⟨t431,A3,H⟩:=H
 try dsimp only at H
 by_cases c4:t431=true
 focus
  subst c4
  rw [if_pos rfl] at H
  try dsimp only at H
  have H':=Aside0.mk H
  clear H
 rotate_left
 focus
  replace c4:=Bool.eq_false_iff.mpr c4
  subst c4
  rw [if_neg (show ¬ (false=true) by decide)] at H
  try dsimp only at H
  obtain rfl:=Option.some.inj H
 rotate_left
 all_goals
  go_enter Try.func67,Try.ntmps67
  go_wp2_with (first|((with_reducible refine gd 7 rfl ?_);refine gC (some 7) rfl Try.func82 (spec_l01Prime.calls (w:=_) (h:=A3.out)) ?_;rintro _ ⟨nd,rfl⟩))
 ·
  go_loopg [5] k (fun kq v5 w'=>∃ (x5_1:Int),v5=.int .i64 x5_1∧Aside0 (spec_l01Code.l0 kq a0 l1 x5_1=some r)∧Aside0 (kq≤k)∧Aside0 (Below w.heap.size w w'))
  case atStart=>exact ⟨(0),hB,H',⟨Nat.le_refl _⟩,⟨blA⟩⟩
  case round=>
   clear H'
   try clear c1
   try clear c4
   obtain ⟨x5_1,rfl,HA,HK1,HB⟩:=hrel
   cases gk with
   | zero=>exact absurd HA.out (by simp [spec_l01Code.l0])
   | succ k1=>
    have H:=HA.out
    clear HA
    simp only [spec_l01Code.l0] at H
    by_cases c5:x5_1<(l1.length:Int)
    ·
     rw [if_pos c5] at H
     have c5b0:=decide_eq_true c5
     clear c5
     by_cases c6:0≤x5_1
     rotate_left
     ·
      rw [if_neg c6] at H
      exact absurd H (by simp)
     rw [if_pos c6] at H
     have c6b0:=decide_eq_true c6
     clear c6
     replace H:=bS H
     obtain ⟨t433,A7,H⟩:=H
     try dsimp only at H
     by_cases c8:t433=true
     focus
      subst c8
      rw [if_pos rfl] at H
      try dsimp only at H
      have H':=Aside0.mk H
      clear H
      have p432:0≤(x5_1:Int):=dA
      have q432:x5_1<(l1.length:Int):=dA
      obtain ⟨ad432,e432,hx432_0,hx432_1,hx432_2⟩:=at_T25 HR1.out x5_1 p432 q432
      cases e432
      replace hx432_0:=(HB.out.cell (World.block_lt_of_cell? w _ hx432_0)).trans hx432_0
      replace hx432_1:=(HB.out.cell (World.block_lt_of_cell? w _ hx432_1)).trans hx432_1
      replace hx432_2:=(HB.out.cell (World.block_lt_of_cell? w _ hx432_2)).trans hx432_2
      replace p432:=eq_true p432
      replace q432:=eq_true q432
     rotate_left
     focus
      replace c8:=Bool.eq_false_iff.mpr c8
      subst c8
      rw [if_neg (show ¬ (false=true) by decide)] at H
      try dsimp only at H
      obtain rfl:=Option.some.inj H
      have p432:0≤(x5_1:Int):=dA
      have q432:x5_1<(l1.length:Int):=dA
      obtain ⟨ad432,e432,hx432_0,hx432_1,hx432_2⟩:=at_T25 HR1.out x5_1 p432 q432
      cases e432
      replace hx432_0:=(HB.out.cell (World.block_lt_of_cell? w _ hx432_0)).trans hx432_0
      replace hx432_1:=(HB.out.cell (World.block_lt_of_cell? w _ hx432_1)).trans hx432_1
      replace hx432_2:=(HB.out.cell (World.block_lt_of_cell? w _ hx432_2)).trans hx432_2
      replace p432:=eq_true p432
      replace q432:=eq_true q432
     rotate_left
     all_goals
      go_wp2_with (first|((with_reducible refine gd 20 rfl ?_);refine gC (some 20) rfl Try.func51 (spec_l01Is.calls (w:=_) (h:=A7.out)) ?_;intro w9 hb;replace HB:=lB hb;clear hb))
     ·
      go_roundg k1
      case measure=>have:=HK1.out;omega
      case rel=>exact ⟨(wrap64 (x5_1+1)),hB,H',⟨by have:=HK1.out;omega⟩,⟨blA⟩⟩
     ·
      go_ret
      exact finA blA
    ·
     rw [if_neg c5] at H
     have c5b0:=decide_eq_false c5
     clear c5
     obtain rfl:=Option.some.inj H
     go_wp2
     go_ret
     exact finA blA
 ·
  go_ret
  exact finA blA
def impl_lineCode.j0:Nat→Bool→Int→Int→Int→Int→Option (Int)
 | 0,_,_,_,_,_=>none
 | k+1,x9,x588000,x588001,x589000,x589001=>if x9=true then (some 1) else (if (x588000 == x589000 && (x588001 == x589001))=true then (some 5) else (some 0))
def impl_lineCode.f (k:Nat) (a0 a1_0 a1_1 a1_2 a2_0 a2_1 a3_0 a3_1:Int):Option (Int):=(impl_IsBall.f k a0 a1_0 a1_1 a1_2).bind fun t589=>(if t589=true then ((impl_areEnds.f k (([(⟨a2_0,a2_1⟩:S27),(⟨a3_0,a3_1⟩:S27)]:List (S27)))).bind fun t593=>(impl_lineCode.j0 k (!t593) a2_0 a2_1 a3_0 a3_1)) else (impl_lineCode.j0 k true a2_0 a2_1 a3_0 a3_1))
theorem impl_lineCode.mono_l:∀ k,(∀ y0 y1 y2 y3 y4,LeO (impl_lineCode.j0 k y0 y1 y2 y3 y4) (impl_lineCode.j0 (k+1) y0 y1 y2 y3 y4))
 | 0=>fun _ _ _ _ _ r h=>by simp [impl_lineCode.j0] at h
 | k+1=>by
  have ih0:=impl_lineCode.mono_l k
  ·
   intro y0 y1 y2 y3 y4
   unfold impl_lineCode.j0
   repeat' first
   | with_reducible first|exact ih0 ..|exact impl_IsBall.mono ..|exact impl_areEnds.mono ..|exact LeO.refl _|exact LeO.none _|refine LeO.ite ?_ ?_|refine LeO.bind ?_ fun _=>?_
theorem impl_lineCode.mono:∀ a0 a1 a2 a3 a4 a5 a6 a7 k,LeO (impl_lineCode.f k a0 a1 a2 a3 a4 a5 a6 a7) (impl_lineCode.f (k+1) a0 a1 a2 a3 a4 a5 a6 a7):=by
 intro a0 a1 a2 a3 a4 a5 a6 a7 k
 have ih0:=impl_lineCode.mono_l k
 unfold impl_lineCode.f
 repeat' first
   | with_reducible first|exact ih0 ..|exact impl_IsBall.mono ..|exact impl_areEnds.mono ..|exact LeO.refl _|exact LeO.none _|refine LeO.ite ?_ ?_|refine LeO.bind ?_ fun _=>?_
set_option maxHeartbeats 8000000 in
set_option maxRecDepth 100000 in
theorem impl_lineCode.calls (k:Nat) (a0 a1_0 a1_1 a1_2 a2_0 a2_1 a3_0 a3_1 r:Int) (w:World) (h:impl_lineCode.f k a0 a1_0 a1_1 a1_2 a2_0 a2_1 a3_0 a3_1=some r) :
  Calls Try.prog 37 #[.int .i64 a0,.agg #[.int .i64 a1_0,.int .i64 a1_1,.int .i64 a1_2],.agg #[.int .i64 a2_0,.int .i64 a2_1],.agg #[.int .i64 a3_0,.int .i64 a3_1]] w fun e w'=>e=.returned (.int .i64 r)∧Below w.heap.size w w':=by
 have hu25:=Try.underlying25
 have hu27:=Try.underlying27
 have HB:=Aside0.mk (Below.refl w.heap.size w)
 have H:=h
 unfold impl_lineCode.f at H
 clear h
 have HC5:=Aside0.mk H
 clear H
 go_enter Try.func37,Try.ntmps37
 go_upto_region 1 with (first|((with_reducible refine gate_dst (N:=5) rfl ?_);(try (refine gate_guard (by rfl) ?_;dsimp only));refine bxE (cs:=#[.int .i64 a1_0,.int .i64 a1_1,.int .i64 a1_2]) (t:=25) ?_;intro gb586 hg w6 hbox hb;have BK586:=Aside0.mk hbox;have GW586:=sA hg;have GE586:=sA hg;replace HB:=lB hb;clear hb hbox hg)|((with_reducible refine gate_dst (N:=6) rfl ?_);(try (refine gate_guard (by rfl) ?_;dsimp only));refine bxE (cs:=#[.int .i64 a2_0,.int .i64 a2_1]) (t:=27) ?_;intro gb587 hg w7 hbox hb;have BK587:=Aside0.mk hbox;have GW587:=sA hg;have GE587:=sA hg;have NB586_587:=nA hg BK586;have NB587_586:=nB hg BK586;replace BK586:=kB BK586 hb;replace HB:=lB hb;clear hb hbox hg)|((with_reducible refine gate_dst (N:=7) rfl ?_);(try (refine gate_guard (by rfl) ?_;dsimp only));refine bxE (cs:=#[.int .i64 a3_0,.int .i64 a3_1]) (t:=27) ?_;intro gb588 hg w8 hbox hb;have BK588:=Aside0.mk hbox;have GW588:=sA hg;have GE588:=sA hg;have NB586_588:=nA hg BK586;have NB588_586:=nB hg BK586;have NB587_588:=nA hg BK587;have NB588_587:=nB hg BK587;replace BK586:=kB BK586 hb;replace BK587:=kB BK587 hb;replace HB:=lB hb;clear hb hbox hg))
 (try simp only [Act.put,List.setIfInBounds_toArray,List.set_cons_zero,List.set_cons_succ])
 go_cut [9] (fun v9 wc=>∃ (kq:Nat) (x9_4:Bool),v9=.bool x9_4∧Aside0 (impl_lineCode.j0 kq x9_4 a2_0 a2_1 a3_0 a3_1=some r)∧Aside0 (kq≤k)∧Aside0 (wc.heap[gb586]?=some (.cells #[.int .i64 a1_0,.int .i64 a1_1,.int .i64 a1_2] 25 (0,0)))∧Aside0 (wc.heap[gb587]?=some (.cells #[.int .i64 a2_0,.int .i64 a2_1] 27 (0,0)))∧Aside0 (wc.heap[gb588]?=some (.cells #[.int .i64 a3_0,.int .i64 a3_1] 27 (0,0)))∧Aside0 (Below w.heap.size w wc))
 case first=>
  have H:=HC5.out
  clear HC5
  replace H:=bS H
  obtain ⟨t589,A9,H⟩:=H
  try dsimp only at H
  by_cases c10:t589=true
  ·
   subst c10
   rw [if_pos rfl] at H
   try dsimp only at H
   obtain ⟨y590,hy590⟩:∃ y_:List (S27),y_=(([(⟨a2_0,a2_1⟩:S27),(⟨a3_0,a3_1⟩:S27)]:List (S27))):=⟨_,rfl⟩
   replace H:((impl_areEnds.f k y590).bind fun t593=>(impl_lineCode.j0 k (!t593) a2_0 a2_1 a3_0 a3_1))=some r:=rH hy590 H
   have Ny590:=Aside0.mk hy590
   clear hy590
   replace H:=bS H
   obtain ⟨t593,A11,H⟩:=H
   try dsimp only at H
   have H':=Aside0.mk H
   clear H
   have hnb12:=NB586_587.out
   have hnc12:=NB587_586.out
   have hnb13:=NB586_588.out
   have hnc13:=NB588_586.out
   obtain ⟨hcz14_0,hcz14_1,hcz14_2,hfz14_0,hfz14_1,hfz14_2⟩:=cz3 BK586
   go_wp2_with (first|((with_reducible refine gd 12 rfl ?_);refine gC (some 12) rfl Try.func27 (impl_IsBall.calls (w:=_) (h:=A9.out)) ?_;intro w15 hb;replace BK586:=kB BK586 hb;replace BK587:=kB BK587 hb;replace BK588:=kB BK588 hb;replace HB:=lB hb;clear hb;have hnb16:=NB587_588.out;have hnc16:=NB588_587.out;obtain ⟨hcz17_0,hcz17_1,hfz17_0,hfz17_1⟩:=cz2 BK587;obtain ⟨hcz18_0,hcz18_1,hfz18_0,hfz18_1⟩:=cz2 BK588)|((with_reducible refine gate_dst (N:=17) rfl ?_);(try (refine gate_guard (by rfl) ?_;dsimp only));refine Kd.R_lit k27 _ 27 ?hg (N:=17) ?hd (xs:=([(⟨a2_0,a2_1⟩:S27),(⟨a3_0,a3_1⟩:S27)]:List (S27))) (inner:=[.int .i64 a2_0,.int .i64 a2_1,.int .i64 a3_0,.int .i64 a3_1]) (ok:=fun _=>True) (okp:=fun _=>True) ?hr ?hp (fun _ hk=>hk) trivial (Below.refl _ _) (Nat.le_refl _) (by simp) ?_;(case hd=>rfl);(case hg=>rfl);(case hr=>first|(go_simp;done)|(go_simp;rfl));(case hp=>exact (Reps.c2 (show Kd.M k27 _ _ _ (⟨a2_0,a2_1⟩:S27) [.int .i64 a2_0,.int .i64 a2_1] from (k27_mkM _ _ _ (⟨a2_0,a2_1⟩:S27) )) (Reps.c2 (show Kd.M k27 _ _ _ (⟨a3_0,a3_1⟩:S27) [.int .i64 a3_0,.int .i64 a3_1] from (k27_mkM _ _ _ (⟨a3_0,a3_1⟩:S27) )) (Reps.none _ _))));intro v591 w19 ho20 hb hg_ hnew_;clear hg_ hnew_;(first|rw [← Ny590.out] at ho20|(simp only [Int.reduceToNat] at ho20;rw [← Ny590.out] at ho20));have HO592:=Aside0.mk (Kd.R_lower (Kd.R_newB (Kd.R_newB ho20 (bkA BK587)) (bkA BK588)) (below_size blA));replace BK586:=kB BK586 hb;replace BK587:=kB BK587 hb;replace BK588:=kB BK588 hb;replace HB:=lB hb;clear hb ho20;obtain ⟨Ao21,co21,eo21⟩:=Kd.R_slice HO592.out;subst eo21)|(go_at_call 73;(with_reducible refine (impl_areEnds.calls k _ _ y590 t593 _ ?side1 ?side2 A11.out).mono ?_);(case side1=>exact cR (Kd.R_reads' HO592.out).2.2);(case side2=>exact (Kd.R_reads' HO592.out).2.1);rintro e w22 ⟨rfl,hb⟩;replace HO592:=Aside0.mk (Kd.R_below (rA HO592) hb);replace BK586:=kB BK586 hb;replace BK587:=kB BK587 hb;replace BK588:=kB BK588 hb;replace HB:=lB hb;clear hb))
   go_meet
   case rel=>exact ⟨_,(!t593),hB,H',⟨by first|omega|exact Nat.le_refl _⟩,⟨bkA BK586⟩,⟨bkA BK587⟩,⟨bkA BK588⟩,⟨blA⟩⟩
  ·
   replace c10:=Bool.eq_false_iff.mpr c10
   subst c10
   rw [if_neg (show ¬ (false=true) by decide)] at H
   try dsimp only at H
   have H':=Aside0.mk H
   clear H
   have hnb23:=NB586_587.out
   have hnc23:=NB587_586.out
   have hnb24:=NB586_588.out
   have hnc24:=NB588_586.out
   obtain ⟨hcz25_0,hcz25_1,hcz25_2,hfz25_0,hfz25_1,hfz25_2⟩:=cz3 BK586
   go_wp2_with (first|((with_reducible refine gd 12 rfl ?_);refine gC (some 12) rfl Try.func27 (impl_IsBall.calls (w:=_) (h:=A9.out)) ?_;intro w26 hb;replace BK586:=kB BK586 hb;replace BK587:=kB BK587 hb;replace BK588:=kB BK588 hb;replace HB:=lB hb;clear hb))
   go_meet
   case rel=>exact ⟨_,(true),hB,H',⟨by first|omega|exact Nat.le_refl _⟩,⟨bkA BK586⟩,⟨bkA BK587⟩,⟨bkA BK588⟩,⟨blA⟩⟩
 case rest=>
  clear HC5
  try clear c2
  try clear c10
  try clear hcz14_0
  try clear hcz14_1
  try clear hcz14_2
  try clear hcz17_0
  try clear hcz17_1
  try clear hcz18_0
  try clear hcz18_1
  try clear hcz25_0
  try clear hcz25_1
  try clear hcz25_2
  try clear hfz14_0
  try clear hfz14_1
  try clear hfz14_2
  try clear hfz17_0
  try clear hfz17_1
  try clear hfz18_0
  try clear hfz18_1
  try clear hfz25_0
  try clear hfz25_1
  try clear hfz25_2
  obtain ⟨kq,x9_4,rfl,HA,HJ4,BK586,BK587,BK588,HB⟩:=hcut
  cases kq with
  | zero=>exact absurd HA.out (by simp [impl_lineCode.j0])
  | succ kj4=>
   have H:=HA.out
   clear HA
   simp only [impl_lineCode.j0] at H
   by_cases c27:x9_4=true
   ·
    subst c27
    rw [if_pos rfl] at H
    try dsimp only at H
    obtain rfl:=Option.some.inj H
    go_wp2
    go_ret
    exact finA blA
   ·
    replace c27:=Bool.eq_false_iff.mpr c27
    subst c27
    rw [if_neg (show ¬ (false=true) by decide)] at H
    try dsimp only at H
    by_cases c28:(a2_0 == a3_0 && (a2_1 == a3_1))=true
    ·
     rw [if_pos c28] at H
     have c28b0:(a2_0 == a3_0 && (a2_1 == a3_1))=true:=c28
     (try (have c28b1:decide (a2_0=a3_0 && (a2_1 == a3_1))=true:=by simpa using c28))
     (try (have c28b2:(a2_0 == a3_0 && (a2_1 == a3_1))=true:=by simpa using c28))
     clear c28
     obtain rfl:=Option.some.inj H
     have hnb29:=NB587_586.out
     have hnc29:=NB586_587.out
     have hnb30:=NB587_588.out
     have hnc30:=NB588_587.out
     obtain ⟨hcz31_0,hcz31_1,hfz31_0,hfz31_1⟩:=cz2 BK587
     have hnb32:=NB588_586.out
     have hnc32:=NB586_588.out
     obtain ⟨hcz33_0,hcz33_1,hfz33_0,hfz33_1⟩:=cz2 BK588
     go_wp2
     go_ret
     exact finA blA
    ·
     rw [if_neg c28] at H
     have c28b0:(a2_0 == a3_0 && (a2_1 == a3_1))=false:=by simpa using c28
     (try (have c28b1:decide (a2_0=a3_0 && (a2_1 == a3_1))=false:=by simpa using c28))
     (try (have c28b2:(a2_0 == a3_0 && (a2_1 == a3_1))=false:=by simpa using c28))
     (try (have c28b3:¬ (a2_0=a3_0 && (a2_1 == a3_1)):=by simpa using c28))
     clear c28
     obtain rfl:=Option.some.inj H
     have hnb34:=NB587_586.out
     have hnc34:=NB586_587.out
     have hnb35:=NB587_588.out
     have hnc35:=NB588_587.out
     obtain ⟨hcz36_0,hcz36_1,hfz36_0,hfz36_1⟩:=cz2 BK587
     have hnb37:=NB588_586.out
     have hnc37:=NB586_588.out
     obtain ⟨hcz38_0,hcz38_1,hfz38_0,hfz38_1⟩:=cz2 BK588
     go_wp2
     go_ret
     exact finA blA
def impl_turning.f (k:Nat) (a0 a1_0 a1_1 a1_2 a2_0 a2_1:Int):Option (Int):=(impl_nearness.f k a0 a1_0 a1_1 a1_2 a2_0 a2_1).bind fun t596=>(some (mn a1_0 t596))
theorem impl_turning.mono:∀ a0 a1 a2 a3 a4 a5 k,LeO (impl_turning.f k a0 a1 a2 a3 a4 a5) (impl_turning.f (k+1) a0 a1 a2 a3 a4 a5):=by
 intro a0 a1 a2 a3 a4 a5 k
 unfold impl_turning.f
 repeat' first
   | with_reducible first|exact impl_nearness.mono ..|exact LeO.refl _|exact LeO.none _|refine LeO.ite ?_ ?_|refine LeO.bind ?_ fun _=>?_
def impl_turning.T1:Bool × List (List Nat × List Nat):=(true,[([],[]),([0],[0]),([],[]),([],[]),([],[]),([4],[4]),([],[]),([6],[6]),([2,3,5,7],[2,3,5,7]),([1,8],[1,8]),([9,8,0,1,2,3,4,5,6,7,8,9],[9])])
def impl_turning.B1:List Nat:=[0,1,0,0,0,16,0,64,252,511,1023]
theorem impl_turning.tab1:rtab .any (opsOf Try.f74 1)=impl_turning.T1:=by kernel_rfl
theorem impl_turning.bits1:waitsOk impl_turning.T1.2 impl_turning.B1=true:=by kernel_rfl
set_option maxHeartbeats 8000000 in
set_option maxRecDepth 100000 in
theorem impl_turning.calls (k:Nat) (a0 a1_0 a1_1 a1_2 a2_0 a2_1 r:Int) (w:World) (h:impl_turning.f k a0 a1_0 a1_1 a1_2 a2_0 a2_1=some r) :
  Calls Try.prog 74 #[.int .i64 a0,.agg #[.int .i64 a1_0,.int .i64 a1_1,.int .i64 a1_2],.agg #[.int .i64 a2_0,.int .i64 a2_1]] w fun e w'=>e=.returned (.int .i64 r)∧Below w.heap.size w w':=by
 have hu25:=Try.underlying25
 have hu27:=Try.underlying27
 have HB:=Aside0.mk (Below.refl w.heap.size w)
 have H:=h
 unfold impl_turning.f at H
 clear h
 replace H:=bS H
 obtain ⟨t596,A4,H⟩:=H
 try dsimp only at H
 obtain ⟨ji5,hji5⟩:∃ j_:Int,(mn a1_0 t596)=j_:=⟨_,rfl⟩
 replace H:(some ji5)=some r:=by first|(rw [hji5] at H;exact H)|(simp only [hji5] at H ⊢;exact H)
 (try rw [hji5] at A4)
 have hji5_:(if t596<a1_0 then t596 else a1_0)=ji5:=hji5
 obtain rfl:=Option.some.inj H
 go_enter Try.func74,Try.ntmps74
 try go_wp2_with (first|((with_reducible refine gate_dst (N:=4) rfl ?_);refine bxE (cs:=#[.int .i64 a1_0,.int .i64 a1_1,.int .i64 a1_2]) (t:=25) ?_;intro gb594 hg w6 hbox hb;have n0_:=lB hb;have n1_:=Aside0.mk hbox;have n2_:=sA hg;have n3_:=sA hg;clear HB;have HB:=n0_;have BK594:=n1_;have GW594:=n2_;have GE594:=n3_;clear n0_ n1_ n2_ n3_;clear hb hbox hg)|((with_reducible refine gate_dst (N:=5) rfl ?_);refine bxE (cs:=#[.int .i64 a2_0,.int .i64 a2_1]) (t:=27) ?_;intro gb595 hg w7 hbox hb;have n0_:=kB BK594 hb;have n1_:=lB hb;have n2_:=Aside0.mk hbox;have n3_:=sA hg;have n4_:=sA hg;have n5_:=nA hg BK594;have n6_:=nB hg BK594;clear BK594;clear HB;have BK594:=n0_;have HB:=n1_;have BK595:=n2_;have GW595:=n3_;have GE595:=n4_;have NB594_595:=n5_;have NB595_594:=n6_;clear n0_ n1_ n2_ n3_ n4_ n5_ n6_;clear hb hbox hg))
 have n0_:=Aside0.mk (blk_drew BK594.out)
 have n1_:=Aside0.mk (blk_drew BK595.out)
 have n2_:=Aside0.mk (below_drew1 HB.out)
 clear BK594
 clear BK595
 clear HB
 have BK594:=n0_
 have BK595:=n1_
 have HB:=n2_
 clear n0_ n1_ n2_
 refine start_ (n:=11) (S:=fun w'=>w'.cell? ⟨gb594,0,none⟩=some (.int .i64 a1_0)∧w'.cell? ⟨gb594,1,none⟩=some (.int .i64 a1_1)∧w'.cell? ⟨gb594,2,none⟩=some (.int .i64 a1_2)∧w'.cell? ⟨gb595,0,none⟩=some (.int .i64 a2_0)∧w'.cell? ⟨gb595,1,none⟩=some (.int .i64 a2_1)) (ds:=[]) #[Z,Z,Z,Z,Z,Z,Z,Z,Z,Z,Z] (by kernel_rfl) rfl rfl ⟨cA BK594 0,cA BK594 1,cA BK594 2,cA BK595 0,cA BK595 1⟩ (fun hHeld=>?_);refine with_tabW impl_turning.tab1 impl_turning.bits1 (fun HT_ HW_=>?_)
 generalize w7.drew=w8 at BK594 BK595 HB hHeld ⊢
 refine puA (i:=0) (N:=some 7) #[Y,Z,Z,Z,Z,Z,Z,Z,Z,Z,Z] rfl rfl HT_ ?_
 refine puA (i:=2) (N:=some 9) #[Y,Z,Y,Z,Z,Z,Z,Z,Z,Z,Z] rfl rfl HT_ ?_
 refine puA (i:=4) (N:=some 11) #[Y,Z,Y,Z,Y,Z,Z,Z,Z,Z,Z] rfl rfl HT_ ?_
 refine puA (i:=6) (N:=some 13) #[Y,Z,Y,Z,Y,Z,Y,Z,Z,Z,Z] rfl rfl HT_ ?_
 refine taA (i:=1) (N:=some 8) #[Y,Y,Y,Z,Y,Z,Y,Z,Z,Z,Z] rfl rfl HT_ HW_ hHeld ?_
 refine taA (i:=3) (N:=some 10) #[Y,Y,Y,Y,Y,Z,Y,Z,Z,Z,Z] rfl rfl HT_ HW_ hHeld ?_
 refine taA (i:=5) (N:=some 12) #[Y,Y,Y,Y,Y,Y,Y,Z,Z,Z,Z] rfl rfl HT_ HW_ hHeld ?_
 refine taA (i:=7) (N:=some 14) #[Y,Y,Y,Y,Y,Y,Y,Y,Z,Z,Z] rfl rfl HT_ HW_ hHeld ?_
 refine one_ (i:=8) (N:=some 15) #[Y,Y,Y,Y,Y,Y,Y,Y,Y,Z,Z] rfl rfl (one_of HT_.out (by kernel_rfl)) (by decide) (fun K hK=>?_)
 refine goC Try.func84 (impl_nearness.calls (w:=_) (h:=A4.out)) ?_
 intro w9 hb
 replace BK594:=kB BK594 hb
 replace BK595:=kB BK595 hb
 replace HB:=lB hb
 (try clear hb)
 (try clear hb2)
 (try clear hk)
 (try clear hi)
 refine hK.out _ _ ⟨cA BK594 0,cA BK594 1,cA BK594 2,cA BK595 0,cA BK595 1⟩ (fun hHeld=>?_)
 clear hK K
 refine nmA ?_
 refine puA (i:=9) (N:=some 16) #[Y,Y,Y,Y,Y,Y,Y,Y,Y,Y,Z] rfl rfl HT_ ?_
 refine puA (i:=10) (N:=some 6) #[Y,Y,Y,Y,Y,Y,Y,Y,Y,Y,Y] rfl rfl HT_ ?_
 refine done_ (done_of HT_.out (by kernel_rfl)) ?_
 try go_wp2
 go_ret
 exact ⟨by first|rfl|(simp [errW_none,errW_some] <;> rfl)|(simp only [← hji5];first|rfl|(simp [errW_none,errW_some] <;> rfl))|(simp [*,errW_none,errW_some] <;> rfl),blA⟩
end Go.Proofs.Ytabcckoeilegnaa.PAll
