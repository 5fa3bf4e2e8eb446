-- turned out of the kit's print
import Derived.Test.YtabcckoeilegnaaQx
import Derived.Test.YtabcckoeilegnaaQimplheld
import Derived.Test.YtabcckoeilegnaaQimplinverse
import Derived.Test.YtabcckoeilegnaaQimplmark
import Derived.Test.YtabcckoeilegnaaQimplmod
import Derived.Test.YtabcckoeilegnaaQimpltimes
import Derived.Test.YtabcckoeilegnaaQimplturning
import Derived.Test.YtabcckoeilegnaaQimplunit
import Derived.Test.YtabcckoeilegnaaQspecl01Is
import Derived.Test.YtabcckoeilegnaaQspecl01Parent
import Derived.Test.YtabcckoeilegnaaQspecl02Meet
import Derived.Test.YtabcckoeilegnaaQspecl05Nearest
namespace Go.Proofs.Ytabcckoeilegnaa.PAll
open Go.RowKit Go.Proofs.YtabcckoeilegnaaW.PrintWords Go.Proofs.YtabcckoeilegnaaW.PrintLast Go.Proofs.YtabcckoeilegnaaW.PrintMore
attribute [local go_sem] Go.Proofs.Ytabcckoeilegnaa.Aux.setCell_drewN Go.Proofs.Ytabcckoeilegnaa.Aux.isSome_setCell max2_int min2_int max_two min_two max_three min_three max_four min_four
set_option linter.unusedVariables false
set_option linter.unusedSimpArgs false
def spec_l05Code.l0:Nat→List (S27)→Int→Option (Int)
 | 0,_,_=>none
 | k+1,x2,x7=>if x7<(x2.length:Int) then (if 0≤x7 then ((spec_l01End.f k ((rd_T27 x2 x7).f0) ((rd_T27 x2 x7).f1)).bind fun t442=>(if t442=true then (spec_l05Code.l0 k x2 (wrap64 (x7+1))) else (some 1))) else (none)) else ((spec_l05Different.f k x2).bind fun t443=>(if t443=true then (some 0) else (some 5)))
def spec_l05Code.f (k:Nat) (a0:Int) (l1:List (S25)) (l2:List (S27)):Option (Int):=(spec_l01Code.f k a0 l1).bind fun t440=>(if t440=0 then (spec_l05Code.l0 k l2 0) else (some 1))
theorem spec_l05Code.mono_l:∀ k,(∀ y0 y1,LeO (spec_l05Code.l0 k y0 y1) (spec_l05Code.l0 (k+1) y0 y1))
 | 0=>fun _ _ r h=>by simp [spec_l05Code.l0] at h
 | k+1=>by
  have ih0:=spec_l05Code.mono_l k
  ·
   intro y0 y1
   unfold spec_l05Code.l0
   repeat' first
   | with_reducible first|exact ih0 ..|exact spec_l01Code.mono ..|exact spec_l01End.mono ..|exact spec_l05Different.mono ..|exact LeO.refl _|exact LeO.none _|refine LeO.ite ?_ ?_|refine LeO.bind ?_ fun _=>?_
theorem spec_l05Code.mono:∀ a0 a1 a2 k,LeO (spec_l05Code.f k a0 a1 a2) (spec_l05Code.f (k+1) a0 a1 a2):=by
 intro a0 a1 a2 k
 have ih0:=spec_l05Code.mono_l k
 unfold spec_l05Code.f
 repeat' first
   | with_reducible first|exact ih0 ..|exact spec_l01Code.mono ..|exact spec_l01End.mono ..|exact spec_l05Different.mono ..|exact LeO.refl _|exact LeO.none _|refine LeO.ite ?_ ?_|refine LeO.bind ?_ fun _=>?_
set_option maxHeartbeats 40000000 in
set_option maxRecDepth 100000 in
theorem spec_l05Code.calls (k:Nat) (a0:Int) (A1:Option Addr) (c1:Nat) (l1:List (S25)) (A2:Option Addr) (c2:Nat) (l2:List (S27)) (r:Int) (w:World) (hr1:Kd.C k25 w A1 l1.length l1) (hc1:l1.length≤c1) (hr2:Kd.C k27 w A2 l2.length l2) (hc2:l2.length≤c2) (h:spec_l05Code.f k a0 l1 l2=some r) :
  Calls Try.prog 31 #[.int .i64 a0,.slice A1 l1.length c1,.slice A2 l2.length c2] w fun e w'=>e=.returned (.int .i64 r)∧Below w.heap.size w w':=by
 have hu27:=Try.underlying27
 have HR1:=Aside0.mk hr1
 have HC1:=Aside0.mk hc1
 clear hr1 hc1
 have HR2:=Aside0.mk hr2
 have HC2:=Aside0.mk hc2
 clear hr2 hc2
 have HB:=Aside0.mk (Below.refl w.heap.size w)
 have H:=h
 unfold spec_l05Code.f at H
 clear h
 replace H:=bS H
 obtain ⟨t440,A4,H⟩:=H
 try dsimp only at H
 by_cases c5:t440=0
 focus
  rw [if_pos c5] at H
  have c5b0:(t440 == 0)=true:=beq_iff_eq.mpr c5
  have c5b1:(t440 != 0)=false:=bne_eq_false_iff_eq.mpr c5
  clear c5
  have H':=Aside0.mk H
  clear H
 rotate_left
 focus
  rw [if_neg c5] at H
  have c5b0:(t440 == 0)=false:=beq_eq_false_iff_ne.mpr c5
  have c5b1:(t440 != 0)=true:=bne_iff_ne.mpr c5
  obtain rfl:=Option.some.inj H
 rotate_left
 all_goals
  go_enter Try.func31,Try.ntmps31
  go_wp2_with (first|((with_reducible refine gd 10 rfl ?_);refine gC (some 10) rfl Try.func67 (spec_l01Code.calls (w:=_) (hr1:=cR HR1.out) (hc1:=HC1.out) (h:=A4.out)) ?_;intro w6 hb;replace HB:=lB hb;clear hb))
 ·
  go_loopg [7] k (fun kq v7 w'=>∃ (x7_1:Int),v7=.int .i64 x7_1∧Aside0 (spec_l05Code.l0 kq l2 x7_1=some r)∧Aside0 (kq≤k)∧Aside0 (Below w.heap.size w w'))
  case atStart=>exact ⟨(0),hB,H',⟨Nat.le_refl _⟩,⟨blA⟩⟩
  case round=>
   clear H'
   try clear c1
   try clear c2
   try clear c5
   try clear c5b0
   try clear c5b1
   obtain ⟨x7_1,rfl,HA,HK1,HB⟩:=hrel
   cases gk with
   | zero=>exact absurd HA.out (by simp [spec_l05Code.l0])
   | succ k1=>
    have H:=HA.out
    clear HA
    simp only [spec_l05Code.l0] at H
    by_cases c7:x7_1<(l2.length:Int)
    ·
     rw [if_pos c7] at H
     have c7b0:=decide_eq_true c7
     clear c7
     by_cases c8:0≤x7_1
     rotate_left
     ·
      rw [if_neg c8] at H
      exact absurd H (by simp)
     rw [if_pos c8] at H
     have c8b0:=decide_eq_true c8
     clear c8
     replace H:=bS H
     obtain ⟨t442,A9,H⟩:=H
     try dsimp only at H
     by_cases c10:t442=true
     focus
      subst c10
      rw [if_pos rfl] at H
      try dsimp only at H
      have H':=Aside0.mk H
      clear H
      have p441:0≤(x7_1:Int):=dA
      have q441:x7_1<(l2.length:Int):=dA
      obtain ⟨ad441,e441,hx441_0,hx441_1⟩:=at_T27 HR2.out x7_1 p441 q441
      cases e441
      replace hx441_0:=(HB.out.cell (World.block_lt_of_cell? w _ hx441_0)).trans hx441_0
      replace hx441_1:=(HB.out.cell (World.block_lt_of_cell? w _ hx441_1)).trans hx441_1
      replace p441:=eq_true p441
      replace q441:=eq_true q441
     rotate_left
     focus
      replace c10:=Bool.eq_false_iff.mpr c10
      subst c10
      rw [if_neg (show ¬ (false=true) by decide)] at H
      try dsimp only at H
      obtain rfl:=Option.some.inj H
      have p441:0≤(x7_1:Int):=dA
      have q441:x7_1<(l2.length:Int):=dA
      obtain ⟨ad441,e441,hx441_0,hx441_1⟩:=at_T27 HR2.out x7_1 p441 q441
      cases e441
      replace hx441_0:=(HB.out.cell (World.block_lt_of_cell? w _ hx441_0)).trans hx441_0
      replace hx441_1:=(HB.out.cell (World.block_lt_of_cell? w _ hx441_1)).trans hx441_1
      replace p441:=eq_true p441
      replace q441:=eq_true q441
     rotate_left
     all_goals
      go_wp2_with (first|((with_reducible refine gd 22 rfl ?_);refine gC (some 22) rfl Try.func68 (spec_l01End.calls (w:=_) (h:=A9.out)) ?_;intro w11 hb;replace HB:=lB hb;clear hb))
     ·
      go_roundg k1
      case measure=>have:=HK1.out;omega
      case rel=>exact ⟨(wrap64 (x7_1+1)),hB,H',⟨by have:=HK1.out;omega⟩,⟨blA⟩⟩
     ·
      go_ret
      exact finA blA
    ·
     rw [if_neg c7] at H
     have c7b0:=decide_eq_false c7
     clear c7
     replace H:=bS H
     obtain ⟨t443,A13,H⟩:=H
     try dsimp only at H
     by_cases c14:t443=true
     focus
      subst c14
      rw [if_pos rfl] at H
      try dsimp only at H
      obtain rfl:=Option.some.inj H
     rotate_left
     focus
      replace c14:=Bool.eq_false_iff.mpr c14
      subst c14
      rw [if_neg (show ¬ (false=true) by decide)] at H
      try dsimp only at H
      obtain rfl:=Option.some.inj H
     rotate_left
     all_goals
      go_wp2_with (first|((with_reducible refine gd 25 rfl ?_);refine gC (some 25) rfl Try.func69 (spec_l05Different.calls (w:=_) (hr0:=cR (Kd.C_below HR2.out HB.out)) (hc0:=HC2.out) (h:=A13.out)) ?_;rintro _ ⟨nd,rfl⟩))
     ·
      go_ret
      exact finA blA
     ·
      go_ret
      exact finA blA
 ·
  go_ret
  exact finA blA
def spec_l05Next.f (k:Nat) (a0 a1_0 a1_1 a1_2 a2_0 a2_1:Int):Option (Int × Int × Int × Bool):=(spec_l05Branch.f k a0 a1_0 a1_1 a1_2 a2_0 a2_1).bind fun t488=>(if t488>0 then ((spec_l01Child.f k a0 a1_0 a1_1 a1_2 (wrap64 (t488 - 1))).bind fun bt489=>(some (bt489.1,bt489.2.1,bt489.2.2.1,bt489.2.2.2))) else ((spec_l01Parent.f k a0 a1_0 a1_1 a1_2).bind fun bt494=>(some (bt494.1,bt494.2.1,bt494.2.2.1,bt494.2.2.2))))
theorem spec_l05Next.mono:∀ a0 a1 a2 a3 a4 a5 k,LeO (spec_l05Next.f k a0 a1 a2 a3 a4 a5) (spec_l05Next.f (k+1) a0 a1 a2 a3 a4 a5):=by
 intro a0 a1 a2 a3 a4 a5 k
 unfold spec_l05Next.f
 repeat' first
   | with_reducible first|exact spec_l01Child.mono ..|exact spec_l01Parent.mono ..|exact spec_l05Branch.mono ..|exact LeO.refl _|exact LeO.none _|refine LeO.ite ?_ ?_|refine LeO.bind ?_ fun _=>?_
set_option maxHeartbeats 40000000 in
set_option maxRecDepth 100000 in
theorem spec_l05Next.calls (k:Nat) (a0 a1_0 a1_1 a1_2 a2_0 a2_1 r1 r2 r3:Int) (r4:Bool) (w:World) (h:spec_l05Next.f k a0 a1_0 a1_1 a1_2 a2_0 a2_1=some (r1,r2,r3,r4)) :
  Calls Try.prog 33 #[.int .i64 a0,.agg #[.int .i64 a1_0,.int .i64 a1_1,.int .i64 a1_2],.agg #[.int .i64 a2_0,.int .i64 a2_1]] w fun e w'=>e=.returned (.tuple #[.agg #[.int .i64 r1,.int .i64 r2,.int .i64 r3],.bool r4])∧Below w.heap.size w w':=by
 have hu25:=Try.underlying25
 have hu27:=Try.underlying27
 have HB:=Aside0.mk (Below.refl w.heap.size w)
 have H:=h
 unfold spec_l05Next.f at H
 clear h
 replace H:=bS H
 obtain ⟨t488,A4,H⟩:=H
 try dsimp only at H
 by_cases c5:t488>0
 ·
  rw [if_pos c5] at H
  have c5b0:decide (0<t488)=true:=decide_eq_true c5
  clear c5
  replace H:=bS H
  obtain ⟨⟨t489,t490,t491,t492⟩,A6,H⟩:=H
  try dsimp only at H
  simp only [Option.some.injEq,Prod.mk.injEq] at H
  obtain ⟨rfl,rfl,rfl,rfl⟩:=H
  go_enter Try.func33,Try.ntmps33
  go_wp2_with (first|((with_reducible refine gate_dst (N:=4) rfl ?_);refine bxE (cs:=#[.int .i64 a1_0,.int .i64 a1_1,.int .i64 a1_2]) (t:=25) ?_;intro gb485 hg w7 hbox hb;have BK485:=Aside0.mk hbox;have GW485:=sA hg;have GE485:=sA hg;replace HB:=lB hb;clear hb hbox hg)|((with_reducible refine gate_dst (N:=5) rfl ?_);refine bxE (cs:=#[.int .i64 a2_0,.int .i64 a2_1]) (t:=27) ?_;intro gb486 hg w8 hbox hb;have BK486:=Aside0.mk hbox;have GW486:=sA hg;have GE486:=sA hg;have NB485_486:=nA hg BK485;have NB486_485:=nB hg BK485;replace BK485:=kB BK485 hb;replace HB:=lB hb;clear hb hbox hg)|((with_reducible refine gate_dst (N:=6) rfl ?_);refine bxE (cs:=#[.int .i64 0,.int .i64 0,.int .i64 0]) (t:=25) ?_;intro gb487 hg w9 hbox hb;have BK487:=Aside0.mk hbox;have GW487:=sA hg;have GE487:=sA hg;have NB485_487:=nA hg BK485;have NB487_485:=nB hg BK485;have NB486_487:=nA hg BK486;have NB487_486:=nB hg BK486;replace BK485:=kB BK485 hb;replace BK486:=kB BK486 hb;replace HB:=lB hb;clear hb hbox hg;have hnb10:=NB485_486.out;have hnc10:=NB486_485.out;have hnb11:=NB485_487.out;have hnc11:=NB487_485.out;obtain ⟨hcz12_0,hcz12_1,hcz12_2,hfz12_0,hfz12_1,hfz12_2⟩:=cz3 BK485;have hnb13:=NB486_487.out;have hnc13:=NB487_486.out;obtain ⟨hcz14_0,hcz14_1,hfz14_0,hfz14_1⟩:=cz2 BK486)|((with_reducible refine gd 16 rfl ?_);refine gC (some 16) rfl Try.func46 (spec_l05Branch.calls (w:=_) (h:=A4.out)) ?_;intro w15 hb;replace BK485:=kB BK485 hb;replace BK486:=kB BK486 hb;replace BK487:=kB BK487 hb;replace HB:=lB hb;clear hb;obtain ⟨hcz16_0,hcz16_1,hcz16_2,hfz16_0,hfz16_1,hfz16_2⟩:=cz3 BK485)|((with_reducible refine gd 24 rfl ?_);refine gC (some 24) rfl Try.func70 (spec_l01Child.calls (w:=_) (h:=A6.out)) ?_;intro w17 hb;replace BK485:=kB BK485 hb;replace BK486:=kB BK486 hb;replace BK487:=kB BK487 hb;replace HB:=lB hb;clear hb)|((with_reducible refine gate_dst (N:=9) rfl ?_);refine bxE (cs:=#[.int .i64 0,.int .i64 0,.int .i64 0]) (t:=25) ?_;intro gb493 hg w18 hbox hb;have BK493:=Aside0.mk hbox;have GW493:=sA hg;have GE493:=sA hg;have NB485_493:=nA hg BK485;have NB493_485:=nB hg BK485;have NB486_493:=nA hg BK486;have NB493_486:=nB hg BK486;have NB487_493:=nA hg BK487;have NB493_487:=nB hg BK487;replace BK485:=kB BK485 hb;replace BK486:=kB BK486 hb;replace BK487:=kB BK487 hb;replace HB:=lB hb;clear hb hbox hg;have hnb19:=NB493_485.out;have hnc19:=NB485_493.out;have hnb20:=NB493_486.out;have hnc20:=NB486_493.out;have hnb21:=NB493_487.out;have hnc21:=NB487_493.out;obtain ⟨hcz22_0,hcz22_1,hcz22_2,hfz22_0,hfz22_1,hfz22_2⟩:=cz3 BK493;obtain ⟨hcz23_0,hcz23_1,hcz23_2,hfz23_0,hfz23_1,hfz23_2⟩:=cz3 BK487))
  refine bodyPost_ret (results_ct rfl _ _ gb487 25 #[.int .i64 t489,.int .i64 t490,.int .i64 t491] (0,0) _ rfl (bpA BK487) Try.underlying25 rfl (by kernel_rfl)) rfl ?_
  exact finA blA
 ·
  rw [if_neg c5] at H
  have c5b0:decide (0<t488)=false:=decide_eq_false c5
  clear c5
  replace H:=bS H
  obtain ⟨⟨t494,t495,t496,t497⟩,A24,H⟩:=H
  try dsimp only at H
  simp only [Option.some.injEq,Prod.mk.injEq] at H
  obtain ⟨rfl,rfl,rfl,rfl⟩:=H
  go_enter Try.func33,Try.ntmps33
  go_wp2_with (first|((with_reducible refine gate_dst (N:=4) rfl ?_);refine bxE (cs:=#[.int .i64 a1_0,.int .i64 a1_1,.int .i64 a1_2]) (t:=25) ?_;intro gb485 hg w25 hbox hb;have BK485:=Aside0.mk hbox;have GW485:=sA hg;have GE485:=sA hg;replace HB:=lB hb;clear hb hbox hg)|((with_reducible refine gate_dst (N:=5) rfl ?_);refine bxE (cs:=#[.int .i64 a2_0,.int .i64 a2_1]) (t:=27) ?_;intro gb486 hg w26 hbox hb;have BK486:=Aside0.mk hbox;have GW486:=sA hg;have GE486:=sA hg;have NB485_486:=nA hg BK485;have NB486_485:=nB hg BK485;replace BK485:=kB BK485 hb;replace HB:=lB hb;clear hb hbox hg)|((with_reducible refine gate_dst (N:=6) rfl ?_);refine bxE (cs:=#[.int .i64 0,.int .i64 0,.int .i64 0]) (t:=25) ?_;intro gb487 hg w27 hbox hb;have BK487:=Aside0.mk hbox;have GW487:=sA hg;have GE487:=sA hg;have NB485_487:=nA hg BK485;have NB487_485:=nB hg BK485;have NB486_487:=nA hg BK486;have NB487_486:=nB hg BK486;replace BK485:=kB BK485 hb;replace BK486:=kB BK486 hb;replace HB:=lB hb;clear hb hbox hg;have hnb28:=NB485_486.out;have hnc28:=NB486_485.out;have hnb29:=NB485_487.out;have hnc29:=NB487_485.out;obtain ⟨hcz30_0,hcz30_1,hcz30_2,hfz30_0,hfz30_1,hfz30_2⟩:=cz3 BK485;have hnb31:=NB486_487.out;have hnc31:=NB487_486.out;obtain ⟨hcz32_0,hcz32_1,hfz32_0,hfz32_1⟩:=cz2 BK486)|((with_reducible refine gd 16 rfl ?_);refine gC (some 16) rfl Try.func46 (spec_l05Branch.calls (w:=_) (h:=A4.out)) ?_;intro w33 hb;replace BK485:=kB BK485 hb;replace BK486:=kB BK486 hb;replace BK487:=kB BK487 hb;replace HB:=lB hb;clear hb;obtain ⟨hcz34_0,hcz34_1,hcz34_2,hfz34_0,hfz34_1,hfz34_2⟩:=cz3 BK485)|((with_reducible refine gd 32 rfl ?_);refine gC (some 32) rfl Try.func71 (spec_l01Parent.calls (w:=_) (h:=A24.out)) ?_;intro w35 hb;replace BK485:=kB BK485 hb;replace BK486:=kB BK486 hb;replace BK487:=kB BK487 hb;replace HB:=lB hb;clear hb)|((with_reducible refine gate_dst (N:=11) rfl ?_);refine bxE (cs:=#[.int .i64 0,.int .i64 0,.int .i64 0]) (t:=25) ?_;intro gb498 hg w36 hbox hb;have BK498:=Aside0.mk hbox;have GW498:=sA hg;have GE498:=sA hg;have NB485_498:=nA hg BK485;have NB498_485:=nB hg BK485;have NB486_498:=nA hg BK486;have NB498_486:=nB hg BK486;have NB487_498:=nA hg BK487;have NB498_487:=nB hg BK487;replace BK485:=kB BK485 hb;replace BK486:=kB BK486 hb;replace BK487:=kB BK487 hb;replace HB:=lB hb;clear hb hbox hg;have hnb37:=NB498_485.out;have hnc37:=NB485_498.out;have hnb38:=NB498_486.out;have hnc38:=NB486_498.out;have hnb39:=NB498_487.out;have hnc39:=NB487_498.out;obtain ⟨hcz40_0,hcz40_1,hcz40_2,hfz40_0,hfz40_1,hfz40_2⟩:=cz3 BK498;obtain ⟨hcz41_0,hcz41_1,hcz41_2,hfz41_0,hfz41_1,hfz41_2⟩:=cz3 BK487))
  refine bodyPost_ret (results_ct rfl _ _ gb487 25 #[.int .i64 t494,.int .i64 t495,.int .i64 t496] (0,0) _ rfl (bpA BK487) Try.underlying25 rfl (by kernel_rfl)) rfl ?_
  exact finA blA
def impl_distance.f (k:Nat) (a0 a1_0 a1_1 a1_2 a2_0 a2_1 a2_2:Int):Option (Int):=(impl_joinLevel.f k a0 a1_0 a1_1 a1_2 a2_0 a2_1 a2_2).bind fun t534=>(some (wrap64 ((wrap64 (a1_0+a2_0)) - (wrap64 (2*t534)))))
theorem impl_distance.mono:∀ a0 a1 a2 a3 a4 a5 a6 k,LeO (impl_distance.f k a0 a1 a2 a3 a4 a5 a6) (impl_distance.f (k+1) a0 a1 a2 a3 a4 a5 a6):=by
 intro a0 a1 a2 a3 a4 a5 a6 k
 unfold impl_distance.f
 repeat' first
   | with_reducible first|exact impl_joinLevel.mono ..|exact LeO.refl _|exact LeO.none _|refine LeO.ite ?_ ?_|refine LeO.bind ?_ fun _=>?_
def impl_distance.T1:Bool × List (List Nat × List Nat):=(true,[([],[]),([0],[0]),([],[]),([2],[2]),([1,3],[1,3]),([],[]),([],[]),([],[]),([5,6,7],[5,6,7]),([8],[8]),([4,9],[4,9]),([10,8,0,1,2,3,4,5,6,7,8,9,10],[10])])
def impl_distance.B1:List Nat:=[0,1,0,4,15,0,0,0,224,480,1023,2047]
theorem impl_distance.tab1:rtab .any (opsOf Try.f35 1)=impl_distance.T1:=by kernel_rfl
theorem impl_distance.bits1:waitsOk impl_distance.T1.2 impl_distance.B1=true:=by kernel_rfl
set_option maxHeartbeats 40000000 in
set_option maxRecDepth 100000 in
theorem impl_distance.calls (k:Nat) (a0 a1_0 a1_1 a1_2 a2_0 a2_1 a2_2 r:Int) (w:World) (h:impl_distance.f k a0 a1_0 a1_1 a1_2 a2_0 a2_1 a2_2=some r) :
  Calls Try.prog 35 #[.int .i64 a0,.agg #[.int .i64 a1_0,.int .i64 a1_1,.int .i64 a1_2],.agg #[.int .i64 a2_0,.int .i64 a2_1,.int .i64 a2_2]] w fun e w'=>e=.returned (.int .i64 r)∧Below w.heap.size w w':=by
 have hu25:=Try.underlying25
 have HB:=Aside0.mk (Below.refl w.heap.size w)
 have H:=h
 unfold impl_distance.f at H
 clear h
 replace H:=bS H
 obtain ⟨t534,A4,H⟩:=H
 try dsimp only at H
 obtain rfl:=Option.some.inj H
 go_enter Try.func35,Try.ntmps35
 try go_wp2_with (first|((with_reducible refine gate_dst (N:=4) rfl ?_);refine bxE (cs:=#[.int .i64 a1_0,.int .i64 a1_1,.int .i64 a1_2]) (t:=25) ?_;intro gb532 hg w5 hbox hb;have n0_:=lB hb;have n1_:=Aside0.mk hbox;have n2_:=sA hg;have n3_:=sA hg;clear HB;have HB:=n0_;have BK532:=n1_;have GW532:=n2_;have GE532:=n3_;clear n0_ n1_ n2_ n3_;clear hb hbox hg)|((with_reducible refine gate_dst (N:=5) rfl ?_);refine bxE (cs:=#[.int .i64 a2_0,.int .i64 a2_1,.int .i64 a2_2]) (t:=25) ?_;intro gb533 hg w6 hbox hb;have n0_:=kB BK532 hb;have n1_:=lB hb;have n2_:=Aside0.mk hbox;have n3_:=sA hg;have n4_:=sA hg;have n5_:=nA hg BK532;have n6_:=nB hg BK532;clear BK532;clear HB;have BK532:=n0_;have HB:=n1_;have BK533:=n2_;have GW533:=n3_;have GE533:=n4_;have NB532_533:=n5_;have NB533_532:=n6_;clear n0_ n1_ n2_ n3_ n4_ n5_ n6_;clear hb hbox hg))
 have n0_:=Aside0.mk (blk_drew BK532.out)
 have n1_:=Aside0.mk (blk_drew BK533.out)
 have n2_:=Aside0.mk (below_drew1 HB.out)
 clear BK532
 clear BK533
 clear HB
 have BK532:=n0_
 have BK533:=n1_
 have HB:=n2_
 clear n0_ n1_ n2_
 refine start_ (n:=12) (S:=fun w'=>w'.cell? ⟨gb532,0,none⟩=some (.int .i64 a1_0)∧w'.cell? ⟨gb532,1,none⟩=some (.int .i64 a1_1)∧w'.cell? ⟨gb532,2,none⟩=some (.int .i64 a1_2)∧w'.cell? ⟨gb533,0,none⟩=some (.int .i64 a2_0)∧w'.cell? ⟨gb533,1,none⟩=some (.int .i64 a2_1)∧w'.cell? ⟨gb533,2,none⟩=some (.int .i64 a2_2)) (ds:=[]) #[Z,Z,Z,Z,Z,Z,Z,Z,Z,Z,Z,Z] (by kernel_rfl) rfl rfl ⟨cA BK532 0,cA BK532 1,cA BK532 2,cA BK533 0,cA BK533 1,cA BK533 2⟩ (fun hHeld=>?_);refine with_tabW impl_distance.tab1 impl_distance.bits1 (fun HT_ HW_=>?_)
 generalize w6.drew=w7 at BK532 BK533 HB hHeld ⊢
 refine puA (i:=0) (N:=some 7) #[Y,Z,Z,Z,Z,Z,Z,Z,Z,Z,Z,Z] rfl rfl HT_ ?_
 refine puA (i:=2) (N:=some 9) #[Y,Z,Y,Z,Z,Z,Z,Z,Z,Z,Z,Z] rfl rfl HT_ ?_
 refine puA (i:=5) (N:=some 12) #[Y,Z,Y,Z,Z,Y,Z,Z,Z,Z,Z,Z] rfl rfl HT_ ?_
 refine taA (i:=1) (N:=some 8) #[Y,Y,Y,Z,Z,Y,Z,Z,Z,Z,Z,Z] rfl rfl HT_ HW_ hHeld ?_
 refine taA (i:=3) (N:=some 10) #[Y,Y,Y,Y,Z,Y,Z,Z,Z,Z,Z,Z] rfl rfl HT_ HW_ hHeld ?_
 refine puA (i:=4) (N:=some 11) #[Y,Y,Y,Y,Y,Y,Z,Z,Z,Z,Z,Z] rfl rfl HT_ ?_
 refine taA (i:=6) (N:=some 13) #[Y,Y,Y,Y,Y,Y,Y,Z,Z,Z,Z,Z] rfl rfl HT_ HW_ hHeld ?_
 refine taA (i:=7) (N:=some 14) #[Y,Y,Y,Y,Y,Y,Y,Y,Z,Z,Z,Z] rfl rfl HT_ HW_ hHeld ?_
 refine one_ (i:=8) (N:=some 15) #[Y,Y,Y,Y,Y,Y,Y,Y,Y,Z,Z,Z] rfl rfl (one_of HT_.out (by kernel_rfl)) (by decide) (fun K hK=>?_)
 refine goC Try.func72 (impl_joinLevel.calls (w:=_) (h:=A4.out)) ?_
 intro w8 hb
 replace BK532:=kB BK532 hb
 replace BK533:=kB BK533 hb
 replace HB:=lB hb
 (try clear hb)
 (try clear hb2)
 (try clear hk)
 (try clear hi)
 refine hK.out _ _ ⟨cA BK532 0,cA BK532 1,cA BK532 2,cA BK533 0,cA BK533 1,cA BK533 2⟩ (fun hHeld=>?_)
 clear hK K
 refine nmA ?_
 refine puA (i:=9) (N:=some 16) #[Y,Y,Y,Y,Y,Y,Y,Y,Y,Y,Z,Z] rfl rfl HT_ ?_
 refine puA (i:=10) (N:=some 17) #[Y,Y,Y,Y,Y,Y,Y,Y,Y,Y,Y,Z] rfl rfl HT_ ?_
 refine puA (i:=11) (N:=some 6) #[Y,Y,Y,Y,Y,Y,Y,Y,Y,Y,Y,Y] rfl rfl HT_ ?_
 refine done_ (done_of HT_.out (by kernel_rfl)) ?_
 try go_wp2
 go_ret
 exact finA blA
def spec_l05Steps.f (k:Nat) (a0 a1_0 a1_1 a1_2 a2_0 a2_1 a3_0 a3_1:Int):Option (Int):=(spec_l05Nearest.f k a0 a1_0 a1_1 a1_2 a2_0 a2_1 a3_0 a3_1).bind fun bt639=>((spec_l02Meet.f k a0 a1_0 a1_1 a1_2 bt639.1 bt639.2.1).bind fun t643=>(some (wrap64 ((wrap64 ((wrap64 (a1_0 - (mn t643 bt639.2.2)))+bt639.2.2)) - (mn t643 bt639.2.2)))))
theorem spec_l05Steps.mono:∀ a0 a1 a2 a3 a4 a5 a6 a7 k,LeO (spec_l05Steps.f k a0 a1 a2 a3 a4 a5 a6 a7) (spec_l05Steps.f (k+1) a0 a1 a2 a3 a4 a5 a6 a7):=by
 intro a0 a1 a2 a3 a4 a5 a6 a7 k
 unfold spec_l05Steps.f
 repeat' first
   | with_reducible first|exact spec_l02Meet.mono ..|exact spec_l05Nearest.mono ..|exact LeO.refl _|exact LeO.none _|refine LeO.ite ?_ ?_|refine LeO.bind ?_ fun _=>?_
set_option maxHeartbeats 40000000 in
set_option maxRecDepth 100000 in
theorem spec_l05Steps.calls (k:Nat) (a0 a1_0 a1_1 a1_2 a2_0 a2_1 a3_0 a3_1 r:Int) (w:World) (h:spec_l05Steps.f k a0 a1_0 a1_1 a1_2 a2_0 a2_1 a3_0 a3_1=some r) :
  Calls Try.prog 39 #[.int .i64 a0,.agg #[.int .i64 a1_0,.int .i64 a1_1,.int .i64 a1_2],.agg #[.int .i64 a2_0,.int .i64 a2_1],.agg #[.int .i64 a3_0,.int .i64 a3_1]] w fun e w'=>e=.returned (.int .i64 r)∧Below w.heap.size w w':=by
 have hu25:=Try.underlying25
 have hu27:=Try.underlying27
 have HB:=Aside0.mk (Below.refl w.heap.size w)
 have H:=h
 unfold spec_l05Steps.f at H
 clear h
 replace H:=bS H
 obtain ⟨⟨t639,t640,t641⟩,A5,H⟩:=H
 try dsimp only at H
 replace H:=bS H
 obtain ⟨t643,A6,H⟩:=H
 try dsimp only at H
 obtain ⟨ji7,hji7⟩:∃ j_:Int,(mn t643 t641)=j_:=⟨_,rfl⟩
 replace H:(some (wrap64 ((wrap64 ((wrap64 (a1_0 - (ji7)))+t641)) - (ji7))))=some r:=by first|(rw [hji7] at H;exact H)|(simp only [hji7] at H ⊢;exact H)
 (try rw [hji7] at A5)
 (try rw [hji7] at A6)
 have hji7_:(if t641<t643 then t641 else t643)=ji7:=hji7
 obtain rfl:=Option.some.inj H
 go_enter Try.func39,Try.ntmps39
 go_wp2_with (first|((with_reducible refine gate_dst (N:=5) rfl ?_);refine bxE (cs:=#[.int .i64 a1_0,.int .i64 a1_1,.int .i64 a1_2]) (t:=25) ?_;intro gb636 hg w8 hbox hb;have BK636:=Aside0.mk hbox;have GW636:=sA hg;have GE636:=sA hg;replace HB:=lB hb;clear hb hbox hg)|((with_reducible refine gate_dst (N:=6) rfl ?_);refine bxE (cs:=#[.int .i64 a2_0,.int .i64 a2_1]) (t:=27) ?_;intro gb637 hg w9 hbox hb;have BK637:=Aside0.mk hbox;have GW637:=sA hg;have GE637:=sA hg;have NB636_637:=nA hg BK636;have NB637_636:=nB hg BK636;replace BK636:=kB BK636 hb;replace HB:=lB hb;clear hb hbox hg)|((with_reducible refine gate_dst (N:=7) rfl ?_);refine bxE (cs:=#[.int .i64 a3_0,.int .i64 a3_1]) (t:=27) ?_;intro gb638 hg w10 hbox hb;have BK638:=Aside0.mk hbox;have GW638:=sA hg;have GE638:=sA hg;have NB636_638:=nA hg BK636;have NB638_636:=nB hg BK636;have NB637_638:=nA hg BK637;have NB638_637:=nB hg BK637;replace BK636:=kB BK636 hb;replace BK637:=kB BK637 hb;replace HB:=lB hb;clear hb hbox hg;have hnb11:=NB636_637.out;have hnc11:=NB637_636.out;have hnb12:=NB636_638.out;have hnc12:=NB638_636.out;obtain ⟨hcz13_0,hcz13_1,hcz13_2,hfz13_0,hfz13_1,hfz13_2⟩:=cz3 BK636;have hnb14:=NB637_638.out;have hnc14:=NB638_637.out;obtain ⟨hcz15_0,hcz15_1,hfz15_0,hfz15_1⟩:=cz2 BK637;obtain ⟨hcz16_0,hcz16_1,hfz16_0,hfz16_1⟩:=cz2 BK638)|((with_reducible refine gd 17 rfl ?_);refine gC (some 17) rfl Try.func44 (spec_l05Nearest.calls (w:=_) (h:=A5.out)) ?_;intro w17 hb;replace BK636:=kB BK636 hb;replace BK637:=kB BK637 hb;replace BK638:=kB BK638 hb;replace HB:=lB hb;clear hb)|((with_reducible refine gate_dst (N:=9) rfl ?_);refine bxE (cs:=#[.int .i64 0,.int .i64 0]) (t:=27) ?_;intro gb642 hg w18 hbox hb;have BK642:=Aside0.mk hbox;have GW642:=sA hg;have GE642:=sA hg;have NB636_642:=nA hg BK636;have NB642_636:=nB hg BK636;have NB637_642:=nA hg BK637;have NB642_637:=nB hg BK637;have NB638_642:=nA hg BK638;have NB642_638:=nB hg BK638;replace BK636:=kB BK636 hb;replace BK637:=kB BK637 hb;replace BK638:=kB BK638 hb;replace HB:=lB hb;clear hb hbox hg;have hnb19:=NB642_636.out;have hnc19:=NB636_642.out;have hnb20:=NB642_637.out;have hnc20:=NB637_642.out;have hnb21:=NB642_638.out;have hnc21:=NB638_642.out;obtain ⟨hcz22_0,hcz22_1,hfz22_0,hfz22_1⟩:=cz2 BK642;obtain ⟨hcz23_0,hcz23_1,hcz23_2,hfz23_0,hfz23_1,hfz23_2⟩:=cz3 BK636)|((with_reducible refine gd 23 rfl ?_);refine gC (some 23) rfl Try.func76 (spec_l02Meet.calls (w:=_) (h:=A6.out)) ?_;intro w24 hb;have n0_:=Aside0.mk (blk_below (g:=gb636) (o:=.cells #[.int .i64 a1_0,.int .i64 a1_1,.int .i64 a1_2] 25 (0,0)) (bkF BK636) hb);have n1_:=Aside0.mk (blk_below (g:=gb637) (o:=.cells #[.int .i64 a2_0,.int .i64 a2_1] 27 (0,0)) (bkF BK637) hb);have n2_:=Aside0.mk (blk_below (g:=gb638) (o:=.cells #[.int .i64 a3_0,.int .i64 a3_1] 27 (0,0)) (bkF BK638) hb);have n3_:=Aside0.mk (blk_below (g:=gb642) (o:=.cells #[.int .i64 t639,.int .i64 t640] 27 (0,0)) (bpA BK642) hb);have n4_:=lB hb;clear BK636;clear BK637;clear BK638;clear BK642;clear HB;have BK636:=n0_;have BK637:=n1_;have BK638:=n2_;have BK642:=n3_;have HB:=n4_;clear n0_ n1_ n2_ n3_ n4_;clear hb;obtain ⟨hcz25_0,hcz25_1,hcz25_2,hfz25_0,hfz25_1,hfz25_2⟩:=cz3 BK636))
 go_ret
 exact ⟨by first|rfl|(simp [errW_none,errW_some] <;> rfl)|(simp only [← hji7];first|rfl|(simp [errW_none,errW_some] <;> rfl))|(simp [*,errW_none,errW_some] <;> rfl),blA⟩
def impl_ballAt.j0:Nat→Int→Int→Int→Int→Int→Bool→Option (Int × Int × Int × Bool)
 | 0,_,_,_,_,_,_=>none
 | k+1,x0,x1,x2,x3,x10,x24=>if x24=true then (some (x3,0,0,true)) else (if x10<(-6) then (some (0,0,0,false)) else ((impl_power.f k x0 (wrap64 (x3+6))).bind fun t677=>((impl_unit.f k x0 x1).bind fun t678=>((impl_unit.f k x0 x2).bind fun t679=>((impl_inverse.f k t679 t677).bind fun t680=>((impl_times.f k t678 t680 t677).bind fun t681=>((impl_power.f k x0 (wrap64 (x10+6))).bind fun t682=>((impl_times.f k t681 t682 t677).bind fun t683=>((impl_ofMark.f k x0 x3 t683).bind fun bt684=>(some (bt684.1,bt684.2.1,bt684.2.2.1,bt684.2.2.2)))))))))))
def impl_ballAt.f (k:Nat) (a0 a1 a2 a3:Int):Option (Int × Int × Int × Bool):=(impl_isLevel.f a3).bind fun t674=>(if t674=true then ((impl_valuation.f k a0 a1).bind fun t675=>((impl_valuation.f k a0 a2).bind fun t676=>(if a1=0 then (impl_ballAt.j0 k a0 a1 a2 a3 (wrap64 (t675 - t676)) true) else (impl_ballAt.j0 k a0 a1 a2 a3 (wrap64 (t675 - t676)) (decide ((wrap64 (t675 - t676))≥a3)))))) else (some (0,0,0,false)))
theorem impl_ballAt.mono_l:∀ k,(∀ y0 y1 y2 y3 y4 y5,LeO (impl_ballAt.j0 k y0 y1 y2 y3 y4 y5) (impl_ballAt.j0 (k+1) y0 y1 y2 y3 y4 y5))
 | 0=>fun _ _ _ _ _ _ r h=>by simp [impl_ballAt.j0] at h
 | k+1=>by
  have ih0:=impl_ballAt.mono_l k
  ·
   intro y0 y1 y2 y3 y4 y5
   unfold impl_ballAt.j0
   repeat' first
   | with_reducible first|exact ih0 ..|exact impl_inverse.mono ..|exact impl_ofMark.mono ..|exact impl_power.mono ..|exact impl_times.mono ..|exact impl_unit.mono ..|exact impl_valuation.mono ..|exact LeO.refl _|exact LeO.none _|refine LeO.ite ?_ ?_|refine LeO.bind ?_ fun _=>?_
theorem impl_ballAt.mono:∀ a0 a1 a2 a3 k,LeO (impl_ballAt.f k a0 a1 a2 a3) (impl_ballAt.f (k+1) a0 a1 a2 a3):=by
 intro a0 a1 a2 a3 k
 have ih0:=impl_ballAt.mono_l k
 unfold impl_ballAt.f
 repeat' first
   | with_reducible first|exact ih0 ..|exact impl_inverse.mono ..|exact impl_ofMark.mono ..|exact impl_power.mono ..|exact impl_times.mono ..|exact impl_unit.mono ..|exact impl_valuation.mono ..|exact LeO.refl _|exact LeO.none _|refine LeO.ite ?_ ?_|refine LeO.bind ?_ fun _=>?_
set_option maxHeartbeats 40000000 in
set_option maxRecDepth 100000 in
theorem impl_ballAt.calls (k:Nat) (a0 a1 a2 a3 r1 r2 r3:Int) (r4:Bool) (w:World) (h:impl_ballAt.f k a0 a1 a2 a3=some (r1,r2,r3,r4)) :
  Calls Try.prog 41 #[.int .i64 a0,.int .i64 a1,.int .i64 a2,.int .i64 a3] w fun e w'=>e=.returned (.tuple #[.agg #[.int .i64 r1,.int .i64 r2,.int .i64 r3],.bool r4])∧Below w.heap.size w w':=by
 have hu25:=Try.underlying25
 have HB:=Aside0.mk (Below.refl w.heap.size w)
 have H:=h
 unfold impl_ballAt.f at H
 clear h
 replace H:=bS H
 obtain ⟨t674,A5,H⟩:=H
 try dsimp only at H
 by_cases c6:t674=true
 ·
  subst c6
  rw [if_pos rfl] at H
  try dsimp only at H
  replace H:=bS H
  obtain ⟨t675,A7,H⟩:=H
  try dsimp only at H
  replace H:=bS H
  obtain ⟨t676,A8,H⟩:=H
  try dsimp only at H
  have HC9:=Aside0.mk H
  clear H
  go_enter Try.func41,Try.ntmps41
  go_upto_region 4 with (first|((with_reducible refine gate_dst (N:=8) rfl ?_);refine bxE (cs:=#[.int .i64 0,.int .i64 0,.int .i64 0]) (t:=25) ?_;intro gb673 hg w10 hbox hb;have BK673:=Aside0.mk hbox;have GW673:=sA hg;have GE673:=sA hg;replace HB:=lB hb;clear hb hbox hg)|((with_reducible refine gd 14 rfl ?_);refine gC (some 14) rfl Try.func56 (impl_isLevel.calls (w:=_) (h:=A5.out)) ?_;rintro _ ⟨nd,rfl⟩)|((with_reducible refine gd 19 rfl ?_);refine gC (some 19) rfl Try.func63 (impl_valuation.calls (w:=_) (h:=A7.out)) ?_;rintro _ ⟨nd,rfl⟩)|((with_reducible refine gd 22 rfl ?_);refine gC (some 22) rfl Try.func63 (impl_valuation.calls (w:=_) (h:=A8.out)) ?_;rintro _ ⟨nd,rfl⟩))
  (try simp only [Act.put,List.setIfInBounds_toArray,List.set_cons_zero,List.set_cons_succ])
  go_cut [24] (fun v24 wc=>∃ (kq:Nat) (x24_8:Bool),v24=.bool x24_8∧Aside0 (impl_ballAt.j0 kq a0 a1 a2 a3 (wrap64 (t675 - t676)) x24_8=some (r1,r2,r3,r4))∧Aside0 (kq≤k)∧Aside0 (wc.heap[gb673]?=some (.cells #[.int .i64 0,.int .i64 0,.int .i64 0] 25 (0,0)))∧Aside0 (Below w.heap.size w wc))
  case first=>
   have H:=HC9.out
   clear HC9
   by_cases c11:a1=0
   ·
    rw [if_pos c11] at H
    have c11b0:(a1 == 0)=true:=beq_iff_eq.mpr c11
    have c11b1:(a1 != 0)=false:=bne_eq_false_iff_eq.mpr c11
    clear c11
    (first|rw [c11b0]|(simp only [i64_w,i32_w];rw [c11b0])|skip)
    have H':=Aside0.mk H
    clear H
    go_wp2
    go_meet
    case rel=>exact ⟨_,(true),hB,H',⟨by first|omega|exact Nat.le_refl _⟩,⟨bkA BK673⟩,⟨blA⟩⟩
   ·
    rw [if_neg c11] at H
    have c11b0:(a1 == 0)=false:=beq_eq_false_iff_ne.mpr c11
    have c11b1:(a1 != 0)=true:=bne_iff_ne.mpr c11
    (first|rw [c11b0]|(simp only [i64_w,i32_w];rw [c11b0])|skip)
    have H':=Aside0.mk H
    clear H
    go_wp2
    go_meet
    case rel=>exact ⟨_,(decide ((wrap64 (t675 - t676))≥a3)),hB,H',⟨by first|omega|exact Nat.le_refl _⟩,⟨bkA BK673⟩,⟨blA⟩⟩
  case rest=>
   clear HC9
   try clear c6
   try clear c11
   try clear c11b0
   try clear c11b1
   obtain ⟨kq,x24_8,rfl,HA,HJ8,BK673,HB⟩:=hcut
   cases kq with
   | zero=>exact absurd HA.out (by simp [impl_ballAt.j0])
   | succ kj8=>
    have H:=HA.out
    clear HA
    simp only [impl_ballAt.j0] at H
    by_cases c12:x24_8=true
    ·
     subst c12
     rw [if_pos rfl] at H
     try dsimp only at H
     simp only [Option.some.injEq,Prod.mk.injEq] at H
     obtain ⟨rfl,rfl,rfl,rfl⟩:=H
     obtain ⟨hcz13_0,hcz13_1,hcz13_2,hfz13_0,hfz13_1,hfz13_2⟩:=cz3 BK673
     go_wp2
     refine bodyPost_ret (results_ct rfl _ _ gb673 25 #[.int .i64 a3,.int .i64 0,.int .i64 0] (0,0) _ rfl (bpA BK673) Try.underlying25 rfl (by kernel_rfl)) rfl ?_
     exact finA blA
    ·
     replace c12:=Bool.eq_false_iff.mpr c12
     subst c12
     rw [if_neg (show ¬ (false=true) by decide)] at H
     try dsimp only at H
     by_cases c14:(wrap64 (t675 - t676))<(-6)
     ·
      rw [if_pos c14] at H
      have c14b0:=decide_eq_true c14
      clear c14
      simp only [Option.some.injEq,Prod.mk.injEq] at H
      obtain ⟨rfl,rfl,rfl,rfl⟩:=H
      obtain ⟨hcz15_0,hcz15_1,hcz15_2,hfz15_0,hfz15_1,hfz15_2⟩:=cz3 BK673
      go_wp2
      refine bodyPost_ret (results_ct rfl _ _ gb673 25 #[.int .i64 0,.int .i64 0,.int .i64 0] (0,0) _ rfl (bpA BK673) Try.underlying25 rfl (by kernel_rfl)) rfl ?_
      exact finA blA
     ·
      rw [if_neg c14] at H
      have c14b0:=decide_eq_false c14
      clear c14
      replace H:=bS H
      obtain ⟨t677,A16,H⟩:=H
      try dsimp only at H
      replace H:=bS H
      obtain ⟨t678,A17,H⟩:=H
      try dsimp only at H
      replace H:=bS H
      obtain ⟨t679,A18,H⟩:=H
      try dsimp only at H
      replace H:=bS H
      obtain ⟨t680,A19,H⟩:=H
      try dsimp only at H
      replace H:=bS H
      obtain ⟨t681,A20,H⟩:=H
      try dsimp only at H
      replace H:=bS H
      obtain ⟨t682,A21,H⟩:=H
      try dsimp only at H
      replace H:=bS H
      obtain ⟨t683,A22,H⟩:=H
      try dsimp only at H
      replace H:=bS H
      obtain ⟨⟨t684,t685,t686,t687⟩,A23,H⟩:=H
      try dsimp only at H
      simp only [Option.some.injEq,Prod.mk.injEq] at H
      obtain ⟨rfl,rfl,rfl,rfl⟩:=H
      go_wp2_with (first|((with_reducible refine gd 41 rfl ?_);refine gC (some 41) rfl Try.func57 (impl_power.calls (w:=_) (h:=A16.out)) ?_;rintro _ ⟨nd,rfl⟩;(try (rw [drewN_self wc];generalize hq_:World.drewN wc _=wc;replace BK673:=Aside0.mk (by rw [← hq_];exact (bkA BK673));replace HB:=Aside0.mk (by rw [← hq_];exact blA);clear hq_)))|((with_reducible refine gd 44 rfl ?_);refine gC (some 44) rfl Try.func66 (impl_unit.calls (w:=_) (h:=A17.out)) ?_;rintro _ ⟨nd,rfl⟩;(try (rw [drewN_self wc];generalize hq_:World.drewN wc _=wc;replace BK673:=Aside0.mk (by rw [← hq_];exact (bkA BK673));replace HB:=Aside0.mk (by rw [← hq_];exact blA);clear hq_)))|((with_reducible refine gd 47 rfl ?_);refine gC (some 47) rfl Try.func66 (impl_unit.calls (w:=_) (h:=A18.out)) ?_;rintro _ ⟨nd,rfl⟩;(try (rw [drewN_self wc];generalize hq_:World.drewN wc _=wc;replace BK673:=Aside0.mk (by rw [← hq_];exact (bkA BK673));replace HB:=Aside0.mk (by rw [← hq_];exact blA);clear hq_)))|((with_reducible refine gd 49 rfl ?_);refine gC (some 49) rfl Try.func65 (impl_inverse.calls (w:=_) (h:=A19.out)) ?_;rintro _ ⟨nd,rfl⟩;(try (rw [drewN_self wc];generalize hq_:World.drewN wc _=wc;replace BK673:=Aside0.mk (by rw [← hq_];exact (bkA BK673));replace HB:=Aside0.mk (by rw [← hq_];exact blA);clear hq_)))|((with_reducible refine gd 51 rfl ?_);refine gC (some 51) rfl Try.func64 (impl_times.calls (w:=_) (h:=A20.out)) ?_;rintro _ ⟨nd,rfl⟩;(try (rw [drewN_self wc];generalize hq_:World.drewN wc _=wc;replace BK673:=Aside0.mk (by rw [← hq_];exact (bkA BK673));replace HB:=Aside0.mk (by rw [← hq_];exact blA);clear hq_)))|((with_reducible refine gd 58 rfl ?_);refine gC (some 58) rfl Try.func57 (impl_power.calls (w:=_) (h:=A21.out)) ?_;rintro _ ⟨nd,rfl⟩;(try (rw [drewN_self wc];generalize hq_:World.drewN wc _=wc;replace BK673:=Aside0.mk (by rw [← hq_];exact (bkA BK673));replace HB:=Aside0.mk (by rw [← hq_];exact blA);clear hq_)))|((with_reducible refine gd 60 rfl ?_);refine gC (some 60) rfl Try.func64 (impl_times.calls (w:=_) (h:=A22.out)) ?_;rintro _ ⟨nd,rfl⟩;(try (rw [drewN_self wc];generalize hq_:World.drewN wc _=wc;replace BK673:=Aside0.mk (by rw [← hq_];exact (bkA BK673));replace HB:=Aside0.mk (by rw [← hq_];exact blA);clear hq_)))|((with_reducible refine gd 61 rfl ?_);refine gC (some 61) rfl Try.func42 (impl_ofMark.calls (w:=_) (h:=A23.out)) ?_;intro w24 hb;replace BK673:=kB BK673 hb;replace HB:=lB hb;clear hb;obtain ⟨hcz25_0,hcz25_1,hcz25_2,hfz25_0,hfz25_1,hfz25_2⟩:=cz3 BK673))
      refine bodyPost_ret (results_ct rfl _ _ gb673 25 #[.int .i64 t684,.int .i64 t685,.int .i64 t686] (0,0) _ rfl (bpA BK673) Try.underlying25 rfl (by kernel_rfl)) rfl ?_
      exact finA blA
 ·
  replace c6:=Bool.eq_false_iff.mpr c6
  subst c6
  rw [if_neg (show ¬ (false=true) by decide)] at H
  try dsimp only at H
  simp only [Option.some.injEq,Prod.mk.injEq] at H
  obtain ⟨rfl,rfl,rfl,rfl⟩:=H
  go_enter Try.func41,Try.ntmps41
  go_wp2_with (first|((with_reducible refine gate_dst (N:=8) rfl ?_);refine bxE (cs:=#[.int .i64 0,.int .i64 0,.int .i64 0]) (t:=25) ?_;intro gb673 hg w26 hbox hb;have BK673:=Aside0.mk hbox;have GW673:=sA hg;have GE673:=sA hg;replace HB:=lB hb;clear hb hbox hg)|((with_reducible refine gd 14 rfl ?_);refine gC (some 14) rfl Try.func56 (impl_isLevel.calls (w:=_) (h:=A5.out)) ?_;rintro _ ⟨nd,rfl⟩;(try (rw [drewN_self w26];generalize hq_:World.drewN w26 _=w26;replace BK673:=Aside0.mk (by rw [← hq_];exact (bkA BK673));replace HB:=Aside0.mk (by rw [← hq_];exact blA);clear hq_));obtain ⟨hcz27_0,hcz27_1,hcz27_2,hfz27_0,hfz27_1,hfz27_2⟩:=cz3 BK673))
  refine bodyPost_ret (results_ct rfl _ _ gb673 25 #[.int .i64 0,.int .i64 0,.int .i64 0] (0,0) _ rfl (bpA BK673) Try.underlying25 rfl (by kernel_rfl)) rfl ?_
  exact finA blA
def spec_DrawRayOf.f (k:Nat) (l0:List Int):Option (Int × Int × Int × Int × Int × Int × Int):=(spec_l01From.f k l0).bind fun bt318=>((spec_l01Spoil.f k bt318.1 bt318.2.1 bt318.2.2).bind fun bt322=>((spec_l05End.f k bt318.1 bt322.2.2.2.2.1 bt322.2.2.2.2.2 bt322.1 bt322.2.1 bt322.2.2.1 bt322.2.2.2.1).bind fun bt329=>((spec_l01Near.f bt318.1 bt329.2.2.1 bt329.2.2.2 12).bind fun bt333=>((spec_l01Pick.f bt318.1 bt333.2.1 bt333.2.2 (([0,1,2,3,bt333.1]:List Int))).bind fun bt339=>(some (bt322.1,bt322.2.1,bt322.2.2.1,bt322.2.2.2.1,bt329.1,bt329.2.1,bt339.1))))))
theorem spec_DrawRayOf.mono:∀ a0 k,LeO (spec_DrawRayOf.f k a0) (spec_DrawRayOf.f (k+1) a0):=by
 intro a0 k
 unfold spec_DrawRayOf.f
 repeat' first
   | with_reducible first|exact spec_l01From.mono ..|exact spec_l01Spoil.mono ..|exact spec_l05End.mono ..|exact LeO.refl _|exact LeO.none _|refine LeO.ite ?_ ?_|refine LeO.bind ?_ fun _=>?_
def spec_DrawRayOf.T3:Bool × List (List Nat × List Nat):=(true,[([],[]),([],[]),([],[]),([],[]),([],[]),([2,3,4],[2,3,4]),([],[]),([],[]),([7,5],[7]),([8],[8]),([6,9,8],[6,9]),([0,10,0],[0]),([1,11,0,1,11],[1]),([5,12,0,1,2,3,4,5,11,12],[5]),([10,13,0,1,2,3,4,5,6,7,8,9,10,11,12,13],[10])])
def spec_DrawRayOf.B3:List Nat:=[0,0,0,0,0,28,0,0,188,444,1020,2045,4095,8191,16383]
theorem spec_DrawRayOf.tab3:rtab .any (opsOf Try.f5 3)=spec_DrawRayOf.T3:=by kernel_rfl
theorem spec_DrawRayOf.bits3:waitsOk spec_DrawRayOf.T3.2 spec_DrawRayOf.B3=true:=by kernel_rfl
set_option maxHeartbeats 40000000 in
set_option maxRecDepth 100000 in
theorem spec_DrawRayOf.calls (k:Nat) (A0:Option Addr) (c0:Nat) (l0:List Int) (r1 r2 r3 r4 r5 r6 r7:Int) (w:World) (hr0:Kd.C (Kd.int .u8) w A0 l0.length l0) (hc0:l0.length≤c0) (h:spec_DrawRayOf.f k l0=some (r1,r2,r3,r4,r5,r6,r7)) :
  Calls Try.prog 5 #[.slice A0 l0.length c0] w fun e w'=>e=.returned (.tuple #[.int .i64 r1,.agg #[.int .i64 r2,.int .i64 r3,.int .i64 r4],.agg #[.int .i64 r5,.int .i64 r6],.int .i64 r7])∧Below w.heap.size w w':=by
 have hu25:=Try.underlying25
 have hu27:=Try.underlying27
 have HR0:=Aside0.mk hr0
 have HC0:=Aside0.mk hc0
 clear hr0 hc0
 have HB:=Aside0.mk (Below.refl w.heap.size w)
 have H:=h
 unfold spec_DrawRayOf.f at H
 clear h
 replace H:=bS H
 obtain ⟨⟨t318,t319,t320⟩,A2,H⟩:=H
 try dsimp only at H
 replace H:=bS H
 obtain ⟨⟨t322,t323,t324,t325,t326,t327⟩,A3,H⟩:=H
 try dsimp only at H
 replace H:=bS H
 obtain ⟨⟨t329,t330,t331,t332⟩,A4,H⟩:=H
 try dsimp only at H
 replace H:=bS H
 obtain ⟨⟨t333,t334,t335⟩,A5,H⟩:=H
 try dsimp only at H
 obtain ⟨y336,hy336⟩:∃ y_:List Int,y_=(([0,1,2,3,t333]:List Int)):=⟨_,rfl⟩
 replace H:((spec_l01Pick.f t318 t334 t335 y336).bind fun bt339=>(some (t322,t323,t324,t325,t329,t330,bt339.1)))=some (r1,r2,r3,r4,r5,r6,r7):=rH hy336 H
 have Ny336:=Aside0.mk hy336
 clear hy336
 replace H:=bS H
 obtain ⟨⟨t339,t340,t341⟩,A6,H⟩:=H
 try dsimp only at H
 simp only [Option.some.injEq,Prod.mk.injEq] at H
 obtain ⟨rfl,rfl,rfl,rfl,rfl,rfl,rfl⟩:=H
 go_enter Try.func5,Try.ntmps5
 try go_wp2_with (first|((with_reducible refine gate_dst (N:=3) rfl ?_);refine bxE (cs:=#[.int .i64 0,.int .i64 0,.int .i64 0]) (t:=25) ?_;intro gb316 hg w7 hbox hb;have n0_:=lB hb;have n1_:=Aside0.mk hbox;have n2_:=sA hg;have n3_:=sA hg;clear HB;have HB:=n0_;have BK316:=n1_;have GW316:=n2_;have GE316:=n3_;clear n0_ n1_ n2_ n3_;clear hb hbox hg)|((with_reducible refine gate_dst (N:=4) rfl ?_);refine bxE (cs:=#[.int .i64 0,.int .i64 0]) (t:=27) ?_;intro gb317 hg w8 hbox hb;have n0_:=kB BK316 hb;have n1_:=lB hb;have n2_:=Aside0.mk hbox;have n3_:=sA hg;have n4_:=sA hg;have n5_:=nA hg BK316;have n6_:=nB hg BK316;clear BK316;clear HB;have BK316:=n0_;have HB:=n1_;have BK317:=n2_;have GW317:=n3_;have GE317:=n4_;have NB316_317:=n5_;have NB317_316:=n6_;clear n0_ n1_ n2_ n3_ n4_ n5_ n6_;clear hb hbox hg)|((with_reducible refine gate_callee (f:=22) rfl ?_);refine gL (some 10) rfl Try.func22 #[.slice A0 l0.length c0] ?_;(with_reducible refine (spec_l01From.calls k _ _ l0 t318 t319 t320 w _ ?side1 ?side2 ?side3 A2.out).mono ?_);(case side1=>exact blI);(case side2=>exact HR0.out);(case side3=>exact HC0.out);rintro e w9 ⟨g321,rfl,hi,hb,hb2⟩;refine ⟨_,rfl,?_⟩;have n0_:=kB BK316 hb2;have n1_:=kB BK317 hb2;have n2_:=Aside0.mk hb;have n3_:=Aside0.mk hi;have n4_:=Aside0.mk (IsS74.ne_blk hi (blk_below (bkA BK316) hb2) (by decide));have n5_:=Aside0.mk (Ne.symm (IsS74.ne_blk hi (blk_below (bkA BK316) hb2) (by decide)));have n6_:=Aside0.mk (IsS74.ne_blk hi (blk_below (bkA BK317) hb2) (by decide));have n7_:=Aside0.mk (Ne.symm (IsS74.ne_blk hi (blk_below (bkA BK317) hb2) (by decide)));clear BK316;clear BK317;clear HB;have BK316:=n0_;have BK317:=n1_;have HB:=n2_;have HI321:=n3_;have NB321_316:=n4_;have NB316_321:=n5_;have NB321_317:=n6_;have NB317_321:=n7_;clear n0_ n1_ n2_ n3_ n4_ n5_ n6_ n7_;clear hi hb hb2)|((with_reducible refine gd 13 rfl ?_);refine gC (some 13) rfl Try.func23 (spec_l01Spoil.calls (w:=_) (g:=g321) (w0:=w) (hI:=iA HI321) (hB:=blI) (h:=A3.out)) ?_;rintro w10 ⟨hi,hb,hk⟩;have n0_:=kbk hk BK316 NB316_321;have n1_:=kbk hk BK317 NB317_321;have n2_:=Aside0.mk hb;have n3_:=Aside0.mk hi;clear BK316;clear BK317;clear HB;clear HI321;have BK316:=n0_;have BK317:=n1_;have HB:=n2_;have HI321:=n3_;clear n0_ n1_ n2_ n3_;clear hi hb hk)|((with_reducible refine gate_dst (N:=8) rfl ?_);refine bxE (cs:=#[.int .i64 0,.int .i64 0,.int .i64 0]) (t:=25) ?_;intro gb328 hg w11 hbox hb;have n0_:=kB BK316 hb;have n1_:=kB BK317 hb;have n2_:=Aside0.mk (IsS74.below (iA HI321) hb);have n3_:=lI hb;have n4_:=Aside0.mk hbox;have n5_:=sI hg;have n6_:=sI hg;have n7_:=nA hg BK316;have n8_:=nB hg BK316;have n9_:=nA hg BK317;have n10_:=nB hg BK317;have n11_:=inA hg (IsS74.lt (iA HI321));have n12_:=inB hg (IsS74.lt (iA HI321));clear BK316;clear BK317;clear HI321;clear HB;have BK316:=n0_;have BK317:=n1_;have HI321:=n2_;have HB:=n3_;have BK328:=n4_;have GW328:=n5_;have GE328:=n6_;have NB316_328:=n7_;have NB328_316:=n8_;have NB317_328:=n9_;have NB328_317:=n10_;have NB321_328:=n11_;have NB328_321:=n12_;clear n0_ n1_ n2_ n3_ n4_ n5_ n6_ n7_ n8_ n9_ n10_ n11_ n12_;clear hb hbox hg;have hnb12:=NB328_316.out;have hnc12:=NB316_328.out;have hnb13:=NB328_317.out;have hnc13:=NB317_328.out;have hnb14:=NB328_321.out;have hnc14:=NB321_328.out;obtain ⟨hcz15_0,hcz15_1,hcz15_2,hfz15_0,hfz15_1,hfz15_2⟩:=cz3 BK328))
 have n0_:Aside0 ((((w11.setCell ⟨gb328,0,none⟩ (.int .i64 t323)).setCell ⟨gb328,1,none⟩ (.int .i64 t324)).setCell ⟨gb328,2,none⟩ (.int .i64 t325)).heap[gb316]?=some (.cells #[.int .i64 0,.int .i64 0,.int .i64 0] 25 (0,0))):=⟨bkF BK316⟩
 have n1_:Aside0 ((((w11.setCell ⟨gb328,0,none⟩ (.int .i64 t323)).setCell ⟨gb328,1,none⟩ (.int .i64 t324)).setCell ⟨gb328,2,none⟩ (.int .i64 t325)).heap[gb317]?=some (.cells #[.int .i64 0,.int .i64 0] 27 (0,0))):=⟨bkF BK317⟩
 have n2_:Aside0 ((((w11.setCell ⟨gb328,0,none⟩ (.int .i64 t323)).setCell ⟨gb328,1,none⟩ (.int .i64 t324)).setCell ⟨gb328,2,none⟩ (.int .i64 t325)).heap[gb328]?=some (.cells #[.int .i64 t323,.int .i64 t324,.int .i64 t325] 25 (0,0))):=⟨bpA BK328⟩
 have n3_:Aside0 (IsS74 w (((w11.setCell ⟨gb328,0,none⟩ (.int .i64 t323)).setCell ⟨gb328,1,none⟩ (.int .i64 t324)).setCell ⟨gb328,2,none⟩ (.int .i64 t325)) g321 t318 t326 t327):=⟨iA HI321⟩
 have n4_:Aside0 (Below w.heap.size w (((w11.setCell ⟨gb328,0,none⟩ (.int .i64 t323)).setCell ⟨gb328,1,none⟩ (.int .i64 t324)).setCell ⟨gb328,2,none⟩ (.int .i64 t325))):=⟨blI⟩
 (try clear BK316)
 (try clear BK317)
 (try clear BK328)
 (try clear HI321)
 (try clear HB)
 generalize (((w11.setCell ⟨gb328,0,none⟩ (.int .i64 t323)).setCell ⟨gb328,1,none⟩ (.int .i64 t324)).setCell ⟨gb328,2,none⟩ (.int .i64 t325))=w16 at n0_ n1_ n2_ n3_ n4_ ⊢
 have BK316:=n0_
 have BK317:=n1_
 have BK328:=n2_
 have HI321:=n3_
 have HB:=n4_
 clear n0_ n1_ n2_ n3_ n4_
 have n0_:=Aside0.mk (blk_drew BK316.out)
 have n1_:=Aside0.mk (blk_drew BK317.out)
 have n2_:=Aside0.mk (blk_drew BK328.out)
 have n3_:=Aside0.mk (IsS74.drew HI321.out)
 have n4_:=Aside0.mk (below_drew1 HB.out)
 clear BK316
 clear BK317
 clear BK328
 clear HI321
 clear HB
 have BK316:=n0_
 have BK317:=n1_
 have BK328:=n2_
 have HI321:=n3_
 have HB:=n4_
 clear n0_ n1_ n2_ n3_ n4_
 refine start_ (n:=15) (S:=fun w'=>w'.cell? ⟨gb328,0,none⟩=some (.int .i64 t323)∧w'.cell? ⟨gb328,1,none⟩=some (.int .i64 t324)∧w'.cell? ⟨gb328,2,none⟩=some (.int .i64 t325)) (ds:=[]) #[Z,Z,Z,Z,Z,Z,Z,Z,Z,Z,Z,Z,Z,Z,Z] (by kernel_rfl) rfl rfl ⟨cA BK328 0,cA BK328 1,cA BK328 2⟩ (fun hHeld=>?_);refine with_tabW spec_DrawRayOf.tab3 spec_DrawRayOf.bits3 (fun HT_ HW_=>?_)
 generalize w16.drew=w17 at BK316 BK317 BK328 HI321 HB hHeld ⊢
 refine puA (i:=0) (N:=some 16) #[Y,Z,Z,Z,Z,Z,Z,Z,Z,Z,Z,Z,Z,Z,Z] rfl rfl HT_ ?_
 refine puA (i:=2) (N:=some 18) #[Y,Z,Y,Z,Z,Z,Z,Z,Z,Z,Z,Z,Z,Z,Z] rfl rfl HT_ ?_
 refine puA (i:=3) (N:=some 19) #[Y,Z,Y,Y,Z,Z,Z,Z,Z,Z,Z,Z,Z,Z,Z] rfl rfl HT_ ?_
 refine puA (i:=6) (N:=some 22) #[Y,Z,Y,Y,Z,Z,Y,Z,Z,Z,Z,Z,Z,Z,Z] rfl rfl HT_ ?_
 refine puA (i:=7) (N:=some 23) #[Y,Z,Y,Y,Z,Z,Y,Y,Z,Z,Z,Z,Z,Z,Z] rfl rfl HT_ ?_
 refine taA (i:=1) (N:=some 17) #[Y,Y,Y,Y,Z,Z,Y,Y,Z,Z,Z,Z,Z,Z,Z] rfl rfl HT_ HW_ hHeld ?_
 refine taA (i:=4) (N:=some 20) #[Y,Y,Y,Y,Y,Z,Y,Y,Z,Z,Z,Z,Z,Z,Z] rfl rfl HT_ HW_ hHeld ?_
 refine one_ (i:=5) (N:=some 21) #[Y,Y,Y,Y,Y,Y,Y,Y,Z,Z,Z,Z,Z,Z,Z] rfl rfl (one_of HT_.out (by kernel_rfl)) (by decide) (fun K hK=>?_)
 refine goC Try.func24 (spec_l05End.calls (w:=_) (g:=g321) (w0:=w) (hI:=iA HI321) (hB:=blI) (h:=A4.out)) ?_
 rintro w18 ⟨hi,hb,hk⟩
 replace BK316:=kbk hk BK316 NB316_321
 replace BK317:=kbk hk BK317 NB317_321
 replace BK328:=kbk hk BK328 NB328_321
 replace HB:=Aside0.mk hb
 replace HI321:=Aside0.mk hi
 (try clear hb)
 (try clear hb2)
 (try clear hk)
 (try clear hi)
 refine hK.out _ _ ⟨cA BK328 0,cA BK328 1,cA BK328 2⟩ (fun hHeld=>?_)
 clear hK K
 refine nmA ?_
 refine one_ (i:=8) (N:=some 24) #[Y,Y,Y,Y,Y,Y,Y,Y,Y,Z,Z,Z,Z,Z,Z] rfl rfl (one_of HT_.out (by kernel_rfl)) (by decide) (fun K hK=>?_)
 refine goC Try.func26 (spec_l01Near.calls (w:=_) (g:=g321) (w0:=w) (hI:=iA HI321) (hB:=blI) (h:=A5.out)) ?_
 rintro w19 ⟨hi,hb,hk⟩
 replace BK316:=kbk hk BK316 NB316_321
 replace BK317:=kbk hk BK317 NB317_321
 replace BK328:=kbk hk BK328 NB328_321
 replace HB:=Aside0.mk hb
 replace HI321:=Aside0.mk hi
 (try clear hb)
 (try clear hb2)
 (try clear hk)
 (try clear hi)
 refine hK.out _ _ ⟨cA BK328 0,cA BK328 1,cA BK328 2⟩ (fun hHeld=>?_)
 clear hK K
 refine nmA ?_
 refine one_ (i:=9) (N:=some 25) #[Y,Y,Y,Y,Y,Y,Y,Y,Y,Y,Z,Z,Z,Z,Z] rfl rfl (one_of HT_.out (by kernel_rfl)) (by decide) (fun K hK=>?_)
 refine Kd.R_lit_step (Kd.int .i64) _ 2 ?hg (N:=25) ?hd (xs:=([0,1,2,3,t333]:List Int)) (inner:=[.int .i64 0,.int .i64 1,.int .i64 2,.int .i64 3,.int .i64 t333]) (ok:=fun _=>True) (okp:=fun _=>True) ?hr ?hp (fun _ hk=>hk) trivial (Below.refl _ _) (Nat.le_refl _) (by simp) ?_;(case hd=>rfl);(case hg=>rfl);(case hr=>first|(go_simp;done)|(go_simp;rfl));(case hp=>exact (Reps.one (show Kd.M (Kd.int .i64) _ _ _ 0 [.int .i64 0] from rfl) (Reps.one (show Kd.M (Kd.int .i64) _ _ _ 1 [.int .i64 1] from rfl) (Reps.one (show Kd.M (Kd.int .i64) _ _ _ 2 [.int .i64 2] from rfl) (Reps.one (show Kd.M (Kd.int .i64) _ _ _ 3 [.int .i64 3] from rfl) (Reps.one (show Kd.M (Kd.int .i64) _ _ _ t333 [.int .i64 t333] from rfl) (Reps.none _ _)))))))
 intro v337 w20 ho21 hb hg_ hnew_
 clear hg_ hnew_
 (first|rw [← Ny336.out] at ho21|(simp only [Int.reduceToNat] at ho21;rw [← Ny336.out] at ho21))
 have n0_:=Aside0.mk (Kd.R_lower ho21 (below_size blI))
 have n1_:=kB BK316 hb
 have n2_:=kB BK317 hb
 have n3_:=Aside0.mk (IsS74.below (iA HI321) hb)
 have n4_:=kB BK328 hb
 have n5_:=lI hb
 clear BK316
 clear BK317
 clear HI321
 clear BK328
 clear HB
 have HO338:=n0_
 have BK316:=n1_
 have BK317:=n2_
 have HI321:=n3_
 have BK328:=n4_
 have HB:=n5_
 clear n0_ n1_ n2_ n3_ n4_ n5_
 clear hb ho21
 obtain ⟨Ao22,co22,eo22⟩:=Kd.R_slice HO338.out
 (first|subst eo22|(injection eo22 with f1_ f2_ f3_;have f4_:=f1_.symm;have f5_:=f3_.symm;clear f1_ f2_ f3_;subst f4_;subst f5_))
 refine hK.out _ _ ⟨cA BK328 0,cA BK328 1,cA BK328 2⟩ (fun hHeld=>?_)
 clear hK K
 refine nmA ?_
 refine one_ (i:=10) (N:=some 26) #[Y,Y,Y,Y,Y,Y,Y,Y,Y,Y,Y,Z,Z,Z,Z] rfl rfl (one_of HT_.out (by kernel_rfl)) (by decide) (fun K hK=>?_)
 refine goC Try.func25 (spec_l01Pick.calls (w:=_) (g:=g321) (w0:=w) (hI:=iA HI321) (hB:=blI) (hr1:=cR (Kd.R_reads' HO338.out).2.2) (hc1:=(Kd.R_reads' HO338.out).2.1) (hf1:=far_slice (IsS74.own_ne HI321.out HO338.out (by decide))) (h:=A6.out)) ?_
 rintro w23 ⟨hi,hb,hk⟩
 replace BK316:=kbk hk BK316 NB316_321
 replace BK317:=kbk hk BK317 NB317_321
 replace BK328:=kbk hk BK328 NB328_321
 replace HO338:=Aside0.mk (Kd.R_mono (Kd.R_keep (IsS74.apart (show IsS74 w _ g321 t318 t334 t335 from iA HI321) (rA HO338) (by decide)) hk (fun _ h=>h.2)) (fun _ h=>h.1))
 replace HB:=Aside0.mk hb
 replace HI321:=Aside0.mk hi
 (try clear hb)
 (try clear hb2)
 (try clear hk)
 (try clear hi)
 refine hK.out _ _ ⟨cA BK328 0,cA BK328 1,cA BK328 2⟩ (fun hHeld=>?_)
 clear hK K
 refine nmA ?_
 refine puA (i:=11) (N:=some 2) #[Y,Y,Y,Y,Y,Y,Y,Y,Y,Y,Y,Y,Z,Z,Z] rfl rfl HT_ ?_
 refine one_ (i:=12) (N:=none) #[Y,Y,Y,Y,Y,Y,Y,Y,Y,Y,Y,Y,Y,Z,Z] rfl rfl (one_of HT_.out (by kernel_rfl)) (by decide) (fun K hK=>?_)
 have hs24:w23.cell? ⟨gb316,0,none⟩=some (.int .i64 0):=cA BK316 0
 have hfs24:=blk_frozen BK316.out 0
 have hns24_1:=NB317_316.out
 have hns24_2:=NB328_316.out
 have hms24_1:=NB316_317.out
 have hms24_2:=NB316_328.out
 have hs25:w23.cell? ⟨gb316,1,none⟩=some (.int .i64 0):=cA BK316 1
 have hfs25:=blk_frozen BK316.out 1
 have hns25_1:=NB317_316.out
 have hns25_2:=NB328_316.out
 have hms25_1:=NB316_317.out
 have hms25_2:=NB316_328.out
 have hs26:w23.cell? ⟨gb316,2,none⟩=some (.int .i64 0):=cA BK316 2
 have hfs26:=blk_frozen BK316.out 2
 have hns26_1:=NB317_316.out
 have hns26_2:=NB328_316.out
 have hms26_1:=NB316_317.out
 have hms26_2:=NB316_328.out
 refine skip_ (w1:=?_) (by rfl) rfl ?_ ?_
 rotate_left
 ·
  go_simp
  rfl
 refine hK.out _ _ ⟨cfA hHeld.1,cfA hHeld.2.1,cfA hHeld.2.2⟩ (fun hHeld=>?_)
 clear hK K
 refine one_ (i:=13) (N:=none) #[Y,Y,Y,Y,Y,Y,Y,Y,Y,Y,Y,Y,Y,Y,Z] rfl rfl (one_of HT_.out (by kernel_rfl)) (by decide) (fun K hK=>?_)
 have hs27:w23.cell? ⟨gb317,0,none⟩=some (.int .i64 0):=cA BK317 0
 have hfs27:=blk_frozen BK317.out 0
 have hns27_0:=NB316_317.out
 have hns27_2:=NB328_317.out
 have hms27_0:=NB317_316.out
 have hms27_2:=NB317_328.out
 have hs28:w23.cell? ⟨gb317,1,none⟩=some (.int .i64 0):=cA BK317 1
 have hfs28:=blk_frozen BK317.out 1
 have hns28_0:=NB316_317.out
 have hns28_2:=NB328_317.out
 have hms28_0:=NB317_316.out
 have hms28_2:=NB317_328.out
 refine skip_ (w1:=?_) (by rfl) rfl ?_ ?_
 rotate_left
 ·
  go_simp
  rfl
 refine hK.out _ _ ⟨cfA hHeld.1,cfA hHeld.2.1,cfA hHeld.2.2⟩ (fun hHeld=>?_)
 clear hK K
 refine puA (i:=14) (N:=some 5) #[Y,Y,Y,Y,Y,Y,Y,Y,Y,Y,Y,Y,Y,Y,Y] rfl rfl HT_ ?_
 refine done_ (done_of HT_.out (by kernel_rfl)) ?_
 try go_wp2
 refine bodyPost_ret (results_list (rs:=[.tmp 2,.cell 3 25,.cell 4 27,.tmp 5]) rfl (by simp) (.tmp (.cell gb316 25 #[.int .i64 t323,.int .i64 t324,.int .i64 t325] (0,0) _ rfl (bpA BK316) Try.underlying25 rfl (by kernel_rfl) (.cell gb317 27 #[.int .i64 t329,.int .i64 t330] (0,0) _ rfl (bpA BK317) Try.underlying27 rfl (by kernel_rfl) (.tmp .nil))))) rfl ?_
 exact rf0 blI
end Go.Proofs.Ytabcckoeilegnaa.PAll
