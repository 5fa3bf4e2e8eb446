-- turned out of the kit's print
import Derived.Test.YtboneolhoajaoaaQx
import Derived.Test.YtboneolhoajaoaaQLeqBall
import Derived.Test.YtboneolhoajaoaaQimplballAt
namespace Go.Proofs.Ytboneolhoajaoaa.PAll
open Go.RowKit Go.Proofs.YtboneolhoajaoaaW.PrintWords Go.Proofs.YtboneolhoajaoaaW.PrintLast Go.Proofs.YtboneolhoajaoaaW.PrintMore
attribute [local go_sem] Go.Proofs.Ytboneolhoajaoaa.Aux.setCell_drewN Go.Proofs.Ytboneolhoajaoaa.Aux.isSome_setCell max2_int min2_int max_two min_two max_three min_three max_four min_four
set_option linter.unusedVariables false
set_option linter.unusedSimpArgs false
attribute [local go_sem high] eqA27
mutual
def spec_l05Different.l0:Nat→List (S27)→Int→Option (Bool)
 | 0,_,_=>none
 | k+1,x0,x3=>if x3<(x0.length:Int) then (spec_l05Different.l1 k x0 x3 0) else (some true)
def spec_l05Different.l1:Nat→List (S27)→Int→Int→Option (Bool)
 | 0,_,_,_=>none
 | k+1,x0,x3,x4=>if x4<x3 then (if 0≤x3 then (if x3<(x0.length:Int) then (if 0≤x4 then (if x4<(x0.length:Int) then (if (((rd_T27 x0 x3).f0) == ((rd_T27 x0 x4).f0) && (((rd_T27 x0 x3).f1) == ((rd_T27 x0 x4).f1)))=true then (some false) else (spec_l05Different.l1 k x0 x3 (wrap64 (x4+1)))) else (none)) else (none)) else (none)) else (none)) else (spec_l05Different.l0 k x0 (wrap64 (x3+1)))
end
def spec_l05Different.f (k:Nat) (l0:List (S27)):Option (Bool):=spec_l05Different.l0 k l0 0
theorem spec_l05Different.mono_l:∀ k,(∀ y0 y1,LeO (spec_l05Different.l0 k y0 y1) (spec_l05Different.l0 (k+1) y0 y1))∧(∀ y0 y1 y2,LeO (spec_l05Different.l1 k y0 y1 y2) (spec_l05Different.l1 (k+1) y0 y1 y2))
 | 0=>by refine ⟨?_,?_⟩ <;> (intros;intro r h;simp [spec_l05Different.l0,spec_l05Different.l1] at h)
 | k+1=>by
  obtain ⟨ih0,ih1⟩:=spec_l05Different.mono_l k
  refine ⟨?_,?_⟩ <;> (intros;first|unfold spec_l05Different.l0|unfold spec_l05Different.l1)
  all_goals repeat' first
  | with_reducible first|exact ih0 ..|exact ih1 ..|exact LeO.refl _|exact LeO.none _|refine LeO.ite ?_ ?_|refine LeO.bind ?_ fun _=>?_
theorem spec_l05Different.mono:∀ a0 k,LeO (spec_l05Different.f k a0) (spec_l05Different.f (k+1) a0):=by
 intro a0 k
 obtain ⟨ih0,ih1⟩:=spec_l05Different.mono_l k
 unfold spec_l05Different.f
 repeat' first
   | with_reducible first|exact ih0 ..|exact ih1 ..|exact LeO.refl _|exact LeO.none _|refine LeO.ite ?_ ?_|refine LeO.bind ?_ fun _=>?_
set_option maxHeartbeats 8000000 in
set_option maxRecDepth 100000 in
theorem spec_l05Different.calls (k:Nat) (A0:Option Addr) (c0:Nat) (l0:List (S27)) (r:Bool) (w:World) (hr0:Kd.C k27 w A0 l0.length l0) (hc0:l0.length≤c0) (h:spec_l05Different.f k l0=some r) :
  Calls Try.prog 22 #[.slice A0 l0.length c0] w fun e w'=>e=.returned (.bool r)∧Drawn0 w w':=by
 have hu27:=Try.underlying27
 have HR0:=Aside0.mk hr0
 have HC0:=Aside0.mk hc0
 clear hr0 hc0
 have H:=h
 unfold spec_l05Different.f at H
 clear h
 have H':=Aside0.mk H
 clear H
 go_enter Try.func22,Try.ntmps22
 go_wp2
 repeat (go_quiet (fail);try go_wp2)
 go_loopg [3] k (fun kq v3 w'=>∃ (x3_1:Int),v3=.int .i64 x3_1∧Aside0 (spec_l05Different.l0 kq l0 x3_1=some r)∧Aside0 (kq≤k)∧Drawn0 w w')
 case atStart=>exact ⟨(0),hB,H',⟨Nat.le_refl _⟩,by repeat (first|exact Drawn0.refl _|apply Drawn0.step)⟩
 case round=>
  clear H'
  obtain ⟨x3_1,rfl,HA,HK1,⟨m1,rfl⟩⟩:=hrel
  cases gk with
  | zero=>exact absurd HA.out (by simp [spec_l05Different.l0])
  | succ k1=>
   have H:=HA.out
   clear HA
   simp only [spec_l05Different.l0] at H
   by_cases c2:x3_1<(l0.length:Int)
   ·
    rw [if_pos c2] at H
    have c2b0:=decide_eq_true c2
    clear c2
    have H':=Aside0.mk H
    clear H
    go_wp2
    repeat (go_quiet (fail);try go_wp2)
    go_loopg [4] k1 (fun kq v4 w'=>∃ (x4_2:Int),v4=.int .i64 x4_2∧Aside0 (spec_l05Different.l1 kq l0 x3_1 x4_2=some r)∧Aside0 (kq≤k1)∧Drawn0 w w')
    case atStart=>exact ⟨(0),hB,H',⟨Nat.le_refl _⟩,by repeat (first|exact Drawn0.refl _|apply Drawn0.step)⟩
    case round=>
     clear H'
     try clear c2
     try clear c2b0
     obtain ⟨x4_2,rfl,HA,HK2,⟨m2,rfl⟩⟩:=hrel
     cases gk with
     | zero=>exact absurd HA.out (by simp [spec_l05Different.l1])
     | succ k2=>
      have H:=HA.out
      clear HA
      simp only [spec_l05Different.l1] at H
      by_cases c3:x4_2<x3_1
      ·
       rw [if_pos c3] at H
       have c3b0:=decide_eq_true c3
       clear c3
       by_cases c4:0≤x3_1
       rotate_left
       ·
        rw [if_neg c4] at H
        exact absurd H (by simp)
       rw [if_pos c4] at H
       have c4b0:=decide_eq_true c4
       clear c4
       by_cases c5:x3_1<(l0.length:Int)
       rotate_left
       ·
        rw [if_neg c5] at H
        exact absurd H (by simp)
       rw [if_pos c5] at H
       have c5b0:=decide_eq_true c5
       clear c5
       by_cases c6:0≤x4_2
       rotate_left
       ·
        rw [if_neg c6] at H
        exact absurd H (by simp)
       rw [if_pos c6] at H
       have c6b0:=decide_eq_true c6
       clear c6
       by_cases c7:x4_2<(l0.length:Int)
       rotate_left
       ·
        rw [if_neg c7] at H
        exact absurd H (by simp)
       rw [if_pos c7] at H
       have c7b0:=decide_eq_true c7
       clear c7
       by_cases c8:(((rd_T27 l0 x3_1).f0) == ((rd_T27 l0 x4_2).f0) && (((rd_T27 l0 x3_1).f1) == ((rd_T27 l0 x4_2).f1)))=true
       ·
        rw [if_pos c8] at H
        have c8b0:(((rd_T27 l0 x3_1).f0) == ((rd_T27 l0 x4_2).f0) && (((rd_T27 l0 x3_1).f1) == ((rd_T27 l0 x4_2).f1)))=true:=c8
        (try (have c8b1:decide (((rd_T27 l0 x3_1).f0)=((rd_T27 l0 x4_2).f0) && (((rd_T27 l0 x3_1).f1) == ((rd_T27 l0 x4_2).f1)))=true:=by simpa using c8))
        (try (have c8b2:(((rd_T27 l0 x3_1).f0) == ((rd_T27 l0 x4_2).f0) && (((rd_T27 l0 x3_1).f1) == ((rd_T27 l0 x4_2).f1)))=true:=by simpa using c8))
        clear c8
        obtain rfl:=Option.some.inj H
        have p146:0≤(x3_1:Int):=dA
        have q146:x3_1<(l0.length:Int):=dA
        obtain ⟨ad146,e146,hx146_0,hx146_1⟩:=at_T27 HR0.out x3_1 p146 q146
        cases e146
        replace p146:=eq_true p146
        replace q146:=eq_true q146
        have p147:0≤(x4_2:Int):=dA
        have q147:x4_2<(l0.length:Int):=dA
        obtain ⟨ad147,e147,hx147_0,hx147_1⟩:=at_T27 HR0.out x4_2 p147 q147
        obtain rfl:ad146=ad147:=(by injection e147)
        replace p147:=eq_true p147
        replace q147:=eq_true q147
        go_wp2
        repeat (go_quiet (fail);try go_wp2)
        go_ret
        exact ⟨by first|rfl|(simp;done)|(simp [*];done),by repeat (first|exact Drawn0.refl _|apply Drawn0.step)⟩
       ·
        rw [if_neg c8] at H
        have c8b0:(((rd_T27 l0 x3_1).f0) == ((rd_T27 l0 x4_2).f0) && (((rd_T27 l0 x3_1).f1) == ((rd_T27 l0 x4_2).f1)))=false:=by simpa using c8
        (try (have c8b1:decide (((rd_T27 l0 x3_1).f0)=((rd_T27 l0 x4_2).f0) && (((rd_T27 l0 x3_1).f1) == ((rd_T27 l0 x4_2).f1)))=false:=by simpa using c8))
        (try (have c8b2:(((rd_T27 l0 x3_1).f0) == ((rd_T27 l0 x4_2).f0) && (((rd_T27 l0 x3_1).f1) == ((rd_T27 l0 x4_2).f1)))=false:=by simpa using c8))
        (try (have c8b3:¬ (((rd_T27 l0 x3_1).f0)=((rd_T27 l0 x4_2).f0) && (((rd_T27 l0 x3_1).f1) == ((rd_T27 l0 x4_2).f1))):=by simpa using c8))
        clear c8
        have H':=Aside0.mk H
        clear H
        have p146:0≤(x3_1:Int):=dA
        have q146:x3_1<(l0.length:Int):=dA
        obtain ⟨ad146,e146,hx146_0,hx146_1⟩:=at_T27 HR0.out x3_1 p146 q146
        cases e146
        replace p146:=eq_true p146
        replace q146:=eq_true q146
        have p147:0≤(x4_2:Int):=dA
        have q147:x4_2<(l0.length:Int):=dA
        obtain ⟨ad147,e147,hx147_0,hx147_1⟩:=at_T27 HR0.out x4_2 p147 q147
        obtain rfl:ad146=ad147:=(by injection e147)
        replace p147:=eq_true p147
        replace q147:=eq_true q147
        go_wp2
        repeat (go_quiet (fail);try go_wp2)
        go_roundg k2
        case measure=>have:=HK1.out;have:=HK2.out;omega
        case rel=>exact ⟨(wrap64 (x4_2+1)),hB,H',⟨by have:=HK1.out;have:=HK2.out;omega⟩,by repeat (first|exact Drawn0.refl _|apply Drawn0.step)⟩
      ·
       rw [if_neg c3] at H
       have c3b0:=decide_eq_false c3
       clear c3
       have H':=Aside0.mk H
       clear H
       go_wp2
       repeat (go_quiet (fail);try go_wp2)
       go_roundg k2
       case measure=>have:=HK1.out;have:=HK2.out;omega
       case rel=>exact ⟨(wrap64 (x3_1+1)),hB,H',⟨by have:=HK1.out;have:=HK2.out;omega⟩,by repeat (first|exact Drawn0.refl _|apply Drawn0.step)⟩
   ·
    rw [if_neg c2] at H
    have c2b0:=decide_eq_false c2
    clear c2
    obtain rfl:=Option.some.inj H
    go_wp2
    repeat (go_quiet (fail);try go_wp2)
    go_ret
    exact ⟨by first|rfl|(simp;done)|(simp [*];done),by repeat (first|exact Drawn0.refl _|apply Drawn0.step)⟩
def spec_l01End.f (k:Nat) (a0_0 a0_1:Int):Option (Bool):=if a0_1=0 then (some (a0_0 == 1)) else ((spec_l01In.f a0_1 1 1000000).bind fun t143=>(if t143=true then ((spec_l01In.f a0_0 (-1000000) 1000000).bind fun t144=>(if t144=true then ((spec_l01Gcd.f k a0_0 a0_1).bind fun t145=>(some (t145 == 1))) else (some false))) else (some false)))
theorem spec_l01End.mono:∀ a0 a1 k,LeO (spec_l01End.f k a0 a1) (spec_l01End.f (k+1) a0 a1):=by
 intro a0 a1 k
 unfold spec_l01End.f
 repeat' first
   | with_reducible first|exact spec_l01Gcd.mono ..|exact LeO.refl _|exact LeO.none _|refine LeO.ite ?_ ?_|refine LeO.bind ?_ fun _=>?_
set_option maxHeartbeats 8000000 in
set_option maxRecDepth 100000 in
theorem spec_l01End.calls (k:Nat) (a0_0 a0_1:Int) (r:Bool) (w:World) (h:spec_l01End.f k a0_0 a0_1=some r) :
  Calls Try.prog 21 #[.agg #[.int .i64 a0_0,.int .i64 a0_1]] w fun e w'=>e=.returned (.bool r)∧Below w.heap.size w w':=by
 have hu27:=Try.underlying27
 have HB:=Aside0.mk (Below.refl w.heap.size w)
 have H:=h
 unfold spec_l01End.f at H
 clear h
 by_cases c2:a0_1=0
 ·
  rw [if_pos c2] at H
  have c2b0:(a0_1 == 0)=true:=beq_iff_eq.mpr c2
  have c2b1:(a0_1 != 0)=false:=bne_eq_false_iff_eq.mpr c2
  clear c2
  obtain rfl:=Option.some.inj H
  go_enter Try.func21,Try.ntmps21
  go_wp2_with (first|((with_reducible refine gate_dst (N:=1) rfl ?_);refine bxE (cs:=#[.int .i64 a0_0,.int .i64 a0_1]) (t:=27) ?_;intro gb142 hg w3 hbox hb;have BK142:=Aside0.mk hbox;have GW142:=sA hg;have GE142:=sA hg;replace HB:=lB hb;clear hb hbox hg;obtain ⟨hcz4_0,hcz4_1,hfz4_0,hfz4_1⟩:=cz2 BK142))
  go_ret
  exact finA blA
 ·
  rw [if_neg c2] at H
  have c2b0:(a0_1 == 0)=false:=beq_eq_false_iff_ne.mpr c2
  have c2b1:(a0_1 != 0)=true:=bne_iff_ne.mpr c2
  replace H:=bS H
  obtain ⟨t143,A5,H⟩:=H
  try dsimp only at H
  by_cases c6:t143=true
  ·
   subst c6
   rw [if_pos rfl] at H
   try dsimp only at H
   replace H:=bS H
   obtain ⟨t144,A7,H⟩:=H
   try dsimp only at H
   by_cases c8:t144=true
   ·
    subst c8
    rw [if_pos rfl] at H
    try dsimp only at H
    replace H:=bS H
    obtain ⟨t145,A9,H⟩:=H
    try dsimp only at H
    obtain rfl:=Option.some.inj H
    go_enter Try.func21,Try.ntmps21
    go_wp2_with (first|((with_reducible refine gate_dst (N:=1) rfl ?_);refine bxE (cs:=#[.int .i64 a0_0,.int .i64 a0_1]) (t:=27) ?_;intro gb142 hg w10 hbox hb;have BK142:=Aside0.mk hbox;have GW142:=sA hg;have GE142:=sA hg;replace HB:=lB hb;clear hb hbox hg;obtain ⟨hcz11_0,hcz11_1,hfz11_0,hfz11_1⟩:=cz2 BK142)|((with_reducible refine gd 11 rfl ?_);refine gC (some 11) rfl Try.func11 (spec_l01In.calls (w:=_) (h:=A5.out)) ?_;rintro _ ⟨nd,rfl⟩)|(go_at_call 11;(with_reducible refine (spec_l01In.calls a0_0 (-1000000) 1000000 true _ A7.out).mono ?_);rintro e w' ⟨rfl,⟨nd,rfl⟩⟩)|(go_at_call 37;(with_reducible refine (spec_l01Gcd.calls k a0_0 a0_1 t145 _ A9.out).mono ?_);rintro e w12 ⟨rfl,hb⟩;replace BK142:=kB BK142 hb;replace HB:=lB hb;clear hb))
    go_ret
    exact finA blA
   ·
    replace c8:=Bool.eq_false_iff.mpr c8
    subst c8
    rw [if_neg (show ¬ (false=true) by decide)] at H
    try dsimp only at H
    obtain rfl:=Option.some.inj H
    go_enter Try.func21,Try.ntmps21
    go_wp2_with (first|((with_reducible refine gate_dst (N:=1) rfl ?_);refine bxE (cs:=#[.int .i64 a0_0,.int .i64 a0_1]) (t:=27) ?_;intro gb142 hg w13 hbox hb;have BK142:=Aside0.mk hbox;have GW142:=sA hg;have GE142:=sA hg;replace HB:=lB hb;clear hb hbox hg;obtain ⟨hcz14_0,hcz14_1,hfz14_0,hfz14_1⟩:=cz2 BK142)|((with_reducible refine gd 11 rfl ?_);refine gC (some 11) rfl Try.func11 (spec_l01In.calls (w:=_) (h:=A5.out)) ?_;rintro _ ⟨nd,rfl⟩)|(go_at_call 11;(with_reducible refine (spec_l01In.calls a0_0 (-1000000) 1000000 false _ A7.out).mono ?_);rintro e w' ⟨rfl,⟨nd,rfl⟩⟩))
    go_ret
    exact finA blA
  ·
   replace c6:=Bool.eq_false_iff.mpr c6
   subst c6
   rw [if_neg (show ¬ (false=true) by decide)] at H
   try dsimp only at H
   obtain rfl:=Option.some.inj H
   go_enter Try.func21,Try.ntmps21
   go_wp2_with (first|((with_reducible refine gate_dst (N:=1) rfl ?_);refine bxE (cs:=#[.int .i64 a0_0,.int .i64 a0_1]) (t:=27) ?_;intro gb142 hg w15 hbox hb;have BK142:=Aside0.mk hbox;have GW142:=sA hg;have GE142:=sA hg;replace HB:=lB hb;clear hb hbox hg;obtain ⟨hcz16_0,hcz16_1,hfz16_0,hfz16_1⟩:=cz2 BK142)|((with_reducible refine gd 11 rfl ?_);refine gC (some 11) rfl Try.func11 (spec_l01In.calls (w:=_) (h:=A5.out)) ?_;rintro _ ⟨nd,rfl⟩))
   go_ret
   exact finA blA
def spec_l05Code.l0:Nat→List (S27)→Int→Option (Int)
 | 0,_,_=>none
 | k+1,x2,x7=>if x7<(x2.length:Int) then (if 0≤x7 then ((spec_l01End.f k ((rd_T27 x2 x7).f0) ((rd_T27 x2 x7).f1)).bind fun t150=>(if t150=true then (spec_l05Code.l0 k x2 (wrap64 (x7+1))) else (some 1))) else (none)) else ((spec_l05Different.f k x2).bind fun t151=>(if t151=true then (some 0) else (some 5)))
def spec_l05Code.f (k:Nat) (a0:Int) (l1:List (S38)) (l2:List (S27)):Option (Int):=(spec_l01Code.f k a0 l1).bind fun t148=>(if t148=0 then (spec_l05Code.l0 k l2 0) else (some 1))
theorem spec_l05Code.mono_l:∀ k,(∀ y0 y1,LeO (spec_l05Code.l0 k y0 y1) (spec_l05Code.l0 (k+1) y0 y1))
 | 0=>fun _ _ r h=>by simp [spec_l05Code.l0] at h
 | k+1=>by
  have ih0:=spec_l05Code.mono_l k
  ·
   intro y0 y1
   unfold spec_l05Code.l0
   repeat' first
   | with_reducible first|exact ih0 ..|exact spec_l01Code.mono ..|exact spec_l01End.mono ..|exact spec_l05Different.mono ..|exact LeO.refl _|exact LeO.none _|refine LeO.ite ?_ ?_|refine LeO.bind ?_ fun _=>?_
theorem spec_l05Code.mono:∀ a0 a1 a2 k,LeO (spec_l05Code.f k a0 a1 a2) (spec_l05Code.f (k+1) a0 a1 a2):=by
 intro a0 a1 a2 k
 have ih0:=spec_l05Code.mono_l k
 unfold spec_l05Code.f
 repeat' first
   | with_reducible first|exact ih0 ..|exact spec_l01Code.mono ..|exact spec_l01End.mono ..|exact spec_l05Different.mono ..|exact LeO.refl _|exact LeO.none _|refine LeO.ite ?_ ?_|refine LeO.bind ?_ fun _=>?_
set_option maxHeartbeats 8000000 in
set_option maxRecDepth 100000 in
theorem spec_l05Code.calls (k:Nat) (a0:Int) (A1:Option Addr) (c1:Nat) (l1:List (S38)) (A2:Option Addr) (c2:Nat) (l2:List (S27)) (r:Int) (w:World) (hr1:Kd.C k38 w A1 l1.length l1) (hc1:l1.length≤c1) (hr2:Kd.C k27 w A2 l2.length l2) (hc2:l2.length≤c2) (h:spec_l05Code.f k a0 l1 l2=some r) :
  Calls Try.prog 10 #[.int .i64 a0,.slice A1 l1.length c1,.slice A2 l2.length c2] w fun e w'=>e=.returned (.int .i64 r)∧Below w.heap.size w w':=by
 have hu27:=Try.underlying27
 have HR1:=Aside0.mk hr1
 have HC1:=Aside0.mk hc1
 clear hr1 hc1
 have HR2:=Aside0.mk hr2
 have HC2:=Aside0.mk hc2
 clear hr2 hc2
 have HB:=Aside0.mk (Below.refl w.heap.size w)
 have H:=h
 unfold spec_l05Code.f at H
 clear h
 replace H:=bS H
 obtain ⟨t148,A4,H⟩:=H
 try dsimp only at H
 by_cases c5:t148=0
 focus
  rw [if_pos c5] at H
  have c5b0:(t148 == 0)=true:=beq_iff_eq.mpr c5
  have c5b1:(t148 != 0)=false:=bne_eq_false_iff_eq.mpr c5
  clear c5
  have H':=Aside0.mk H
  clear H
 rotate_left
 focus
  rw [if_neg c5] at H
  have c5b0:(t148 == 0)=false:=beq_eq_false_iff_ne.mpr c5
  have c5b1:(t148 != 0)=true:=bne_iff_ne.mpr c5
  obtain rfl:=Option.some.inj H
 rotate_left
 all_goals
  go_enter Try.func10,Try.ntmps10
  go_wp2_with (first|((with_reducible refine gd 10 rfl ?_);refine gC (some 10) rfl Try.func20 (spec_l01Code.calls (w:=_) (hr1:=cR HR1.out) (hc1:=HC1.out) (h:=A4.out)) ?_;intro w6 hb;replace HB:=lB hb;clear hb))
 ·
  go_loopg [7] k (fun kq v7 w'=>∃ (x7_1:Int),v7=.int .i64 x7_1∧Aside0 (spec_l05Code.l0 kq l2 x7_1=some r)∧Aside0 (kq≤k)∧Aside0 (Below w.heap.size w w'))
  case atStart=>exact ⟨(0),hB,H',⟨Nat.le_refl _⟩,⟨blA⟩⟩
  case round=>
   clear H'
   try clear c1
   try clear c2
   try clear c5
   try clear c5b0
   try clear c5b1
   obtain ⟨x7_1,rfl,HA,HK1,HB⟩:=hrel
   cases gk with
   | zero=>exact absurd HA.out (by simp [spec_l05Code.l0])
   | succ k1=>
    have H:=HA.out
    clear HA
    simp only [spec_l05Code.l0] at H
    by_cases c7:x7_1<(l2.length:Int)
    ·
     rw [if_pos c7] at H
     have c7b0:=decide_eq_true c7
     clear c7
     by_cases c8:0≤x7_1
     rotate_left
     ·
      rw [if_neg c8] at H
      exact absurd H (by simp)
     rw [if_pos c8] at H
     have c8b0:=decide_eq_true c8
     clear c8
     replace H:=bS H
     obtain ⟨t150,A9,H⟩:=H
     try dsimp only at H
     by_cases c10:t150=true
     focus
      subst c10
      rw [if_pos rfl] at H
      try dsimp only at H
      have H':=Aside0.mk H
      clear H
      have p149:0≤(x7_1:Int):=dA
      have q149:x7_1<(l2.length:Int):=dA
      obtain ⟨ad149,e149,hx149_0,hx149_1⟩:=at_T27 HR2.out x7_1 p149 q149
      cases e149
      replace hx149_0:=(HB.out.cell (World.block_lt_of_cell? w _ hx149_0)).trans hx149_0
      replace hx149_1:=(HB.out.cell (World.block_lt_of_cell? w _ hx149_1)).trans hx149_1
      replace p149:=eq_true p149
      replace q149:=eq_true q149
     rotate_left
     focus
      replace c10:=Bool.eq_false_iff.mpr c10
      subst c10
      rw [if_neg (show ¬ (false=true) by decide)] at H
      try dsimp only at H
      obtain rfl:=Option.some.inj H
      have p149:0≤(x7_1:Int):=dA
      have q149:x7_1<(l2.length:Int):=dA
      obtain ⟨ad149,e149,hx149_0,hx149_1⟩:=at_T27 HR2.out x7_1 p149 q149
      cases e149
      replace hx149_0:=(HB.out.cell (World.block_lt_of_cell? w _ hx149_0)).trans hx149_0
      replace hx149_1:=(HB.out.cell (World.block_lt_of_cell? w _ hx149_1)).trans hx149_1
      replace p149:=eq_true p149
      replace q149:=eq_true q149
     rotate_left
     all_goals
      go_wp2_with (first|((with_reducible refine gd 22 rfl ?_);refine gC (some 22) rfl Try.func21 (spec_l01End.calls (w:=_) (h:=A9.out)) ?_;intro w11 hb;replace HB:=lB hb;clear hb))
     ·
      go_roundg k1
      case measure=>have:=HK1.out;omega
      case rel=>exact ⟨(wrap64 (x7_1+1)),hB,H',⟨by have:=HK1.out;omega⟩,⟨blA⟩⟩
     ·
      go_ret
      exact finA blA
    ·
     rw [if_neg c7] at H
     have c7b0:=decide_eq_false c7
     clear c7
     replace H:=bS H
     obtain ⟨t151,A13,H⟩:=H
     try dsimp only at H
     by_cases c14:t151=true
     focus
      subst c14
      rw [if_pos rfl] at H
      try dsimp only at H
      obtain rfl:=Option.some.inj H
     rotate_left
     focus
      replace c14:=Bool.eq_false_iff.mpr c14
      subst c14
      rw [if_neg (show ¬ (false=true) by decide)] at H
      try dsimp only at H
      obtain rfl:=Option.some.inj H
     rotate_left
     all_goals
      go_wp2_with (first|((with_reducible refine gd 25 rfl ?_);refine gC (some 25) rfl Try.func22 (spec_l05Different.calls (w:=_) (hr0:=cR (Kd.C_below HR2.out HB.out)) (hc0:=HC2.out) (h:=A13.out)) ?_;rintro _ ⟨nd,rfl⟩))
     ·
      go_ret
      exact finA blA
     ·
      go_ret
      exact finA blA
 ·
  go_ret
  exact finA blA
end Go.Proofs.Ytboneolhoajaoaa.PAll
