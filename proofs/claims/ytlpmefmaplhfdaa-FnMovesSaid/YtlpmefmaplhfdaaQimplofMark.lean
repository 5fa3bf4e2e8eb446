-- turned out of the kit's print
import Derived.Test.YtlpmefmaplhfdaaQx
import Derived.Test.YtlpmefmaplhfdaaQbitsLeadingZeros64
namespace Go.Proofs.Ytlpmefmaplhfdaa.PAll
open Go.RowKit Go.Proofs.YtlpmefmaplhfdaaW.PrintWords Go.Proofs.YtlpmefmaplhfdaaW.PrintLast Go.Proofs.YtlpmefmaplhfdaaW.PrintMore
attribute [local go_sem] Go.Proofs.Ytlpmefmaplhfdaa.Aux.setCell_drewN Go.Proofs.Ytlpmefmaplhfdaa.Aux.isSome_setCell max2_int min2_int max_two min_two max_three min_three max_four min_four
set_option linter.unusedVariables false
set_option linter.unusedSimpArgs false
def spec_l04Is.f (a0_0 a0_1 a0_2 a0_3:Int):Option (Bool):=some (decide ((-1000≤a0_0∧a0_0≤1000)∧(-1000≤a0_1∧a0_1≤1000)∧(-1000≤a0_2∧a0_2≤1000)∧(-1000≤a0_3∧a0_3≤1000)∧wrap64 (wrap64 (a0_0*a0_3) - wrap64 (a0_1*a0_2))≠0))
set_option maxHeartbeats 8000000 in
set_option maxRecDepth 100000 in
theorem spec_l04Is.calls (a0_0 a0_1 a0_2 a0_3:Int) (r:Bool) (w:World) (h:spec_l04Is.f a0_0 a0_1 a0_2 a0_3=some r) :
  Calls Try.prog 53 #[.agg #[.int .i64 a0_0,.int .i64 a0_1,.int .i64 a0_2,.int .i64 a0_3]] w fun e w'=>e=.returned (.bool r)∧Below w.heap.size w w':=by
 have hr:r=decide ((-1000≤a0_0∧a0_0≤1000)∧(-1000≤a0_1∧a0_1≤1000)∧(-1000≤a0_2∧a0_2≤1000)∧(-1000≤a0_3∧a0_3≤1000)∧wrap64 (wrap64 (a0_0*a0_3) - wrap64 (a0_1*a0_2))≠0):=(Option.some.inj h).symm
 clear h
 have HR:=Aside0.mk hr
 clear hr
 go_enter Try.func53,Try.ntmps53
 go_wp2
 repeat any_goals (first|(rw [rounds_succ];go_wp2)|(refine wp_loop_rounds 3 ?_;rw [rounds_succ];go_wp2))
 all_goals go_returns
 all_goals refine ⟨bret ?_,by go_grown⟩
 all_goals rw [HR.out]
 all_goals clear HR
 all_goals try simp only [Bool.not_eq_true',Bool.not_eq_false',decide_eq_false_iff_not,decide_eq_true_eq] at *
 all_goals first
  | (symm;refine decide_eq_false ?_;omega)
  | (rw [Bool.eq_iff_iff];simp only [decide_eq_true_eq,bne_iff_ne];exact ⟨fun z=>⟨by omega,by omega,by omega,by omega,z⟩,fun z=>z.2.2.2.2⟩)
def spec_l01Prime.f (a0:Int):Option (Bool):=if a0=2 then (some true) else (if a0=3 then (some true) else (if a0=5 then (some true) else (some (a0 == 7))))
set_option maxHeartbeats 8000000 in
set_option maxRecDepth 100000 in
theorem spec_l01Prime.calls (a0:Int) (r:Bool) (w:World) (h:spec_l01Prime.f a0=some r) :
  Calls Try.prog 106 #[.int .i64 a0] w fun e w'=>e=.returned (.bool r)∧Drawn0 w w':=by
 have H:=h
 unfold spec_l01Prime.f at H
 clear h
 by_cases c2:a0=2
 ·
  rw [if_pos c2] at H
  have c2b0:(a0 == 2)=true:=beq_iff_eq.mpr c2
  have c2b1:(a0 != 2)=false:=bne_eq_false_iff_eq.mpr c2
  clear c2
  obtain rfl:=Option.some.inj H
  go_enter Try.func106,Try.ntmps106
  go_wp2
  go_ret
  exact ⟨by first|rfl|(simp;done)|(simp [*];done),by repeat (first|exact Drawn0.refl _|apply Drawn0.step)⟩
 ·
  rw [if_neg c2] at H
  have c2b0:(a0 == 2)=false:=beq_eq_false_iff_ne.mpr c2
  have c2b1:(a0 != 2)=true:=bne_iff_ne.mpr c2
  by_cases c3:a0=3
  ·
   rw [if_pos c3] at H
   have c3b0:(a0 == 3)=true:=beq_iff_eq.mpr c3
   have c3b1:(a0 != 3)=false:=bne_eq_false_iff_eq.mpr c3
   clear c3
   obtain rfl:=Option.some.inj H
   go_enter Try.func106,Try.ntmps106
   go_wp2
   go_ret
   exact ⟨by first|rfl|(simp;done)|(simp [*];done),by repeat (first|exact Drawn0.refl _|apply Drawn0.step)⟩
  ·
   rw [if_neg c3] at H
   have c3b0:(a0 == 3)=false:=beq_eq_false_iff_ne.mpr c3
   have c3b1:(a0 != 3)=true:=bne_iff_ne.mpr c3
   by_cases c4:a0=5
   ·
    rw [if_pos c4] at H
    have c4b0:(a0 == 5)=true:=beq_iff_eq.mpr c4
    have c4b1:(a0 != 5)=false:=bne_eq_false_iff_eq.mpr c4
    clear c4
    obtain rfl:=Option.some.inj H
    go_enter Try.func106,Try.ntmps106
    go_wp2
    go_ret
    exact ⟨by first|rfl|(simp;done)|(simp [*];done),by repeat (first|exact Drawn0.refl _|apply Drawn0.step)⟩
   ·
    rw [if_neg c4] at H
    have c4b0:(a0 == 5)=false:=beq_eq_false_iff_ne.mpr c4
    have c4b1:(a0 != 5)=true:=bne_iff_ne.mpr c4
    obtain rfl:=Option.some.inj H
    go_enter Try.func106,Try.ntmps106
    go_wp2
    go_ret
    exact ⟨by first|rfl|(simp;done)|(simp [*];done),by repeat (first|exact Drawn0.refl _|apply Drawn0.step)⟩
def impl_gcd.l0:Nat→Int→Int→Option (Int)
 | 0,_,_=>none
 | k+1,x0,x1=>if x1=0 then (some (mx x0 (wrap64 (-x0)))) else (impl_gcd.l0 k x1 (Int.tmod x0 x1))
def impl_gcd.f (k:Nat) (a0 a1:Int):Option (Int):=impl_gcd.l0 k a0 a1
theorem impl_gcd.mono_l:∀ k,(∀ y0 y1,LeO (impl_gcd.l0 k y0 y1) (impl_gcd.l0 (k+1) y0 y1))
 | 0=>fun _ _ r h=>by simp [impl_gcd.l0] at h
 | k+1=>by
  have ih0:=impl_gcd.mono_l k
  ·
   intro y0 y1
   unfold impl_gcd.l0
   repeat' first
   | with_reducible first|exact ih0 ..|exact LeO.refl _|exact LeO.none _|refine LeO.ite ?_ ?_|refine LeO.bind ?_ fun _=>?_
theorem impl_gcd.mono:∀ a0 a1 k,LeO (impl_gcd.f k a0 a1) (impl_gcd.f (k+1) a0 a1):=by
 intro a0 a1 k
 have ih0:=impl_gcd.mono_l k
 unfold impl_gcd.f
 repeat' first
   | with_reducible first|exact ih0 ..|exact LeO.refl _|exact LeO.none _|refine LeO.ite ?_ ?_|refine LeO.bind ?_ fun _=>?_
set_option maxHeartbeats 8000000 in
set_option maxRecDepth 100000 in
theorem impl_gcd.calls (k:Nat) (a0 a1 r:Int) (w:World) (h:impl_gcd.f k a0 a1=some r) :
  Calls Try.prog 99 #[.int .i64 a0,.int .i64 a1] w fun e w'=>e=.returned (.int .i64 r)∧Below w.heap.size w w':=by
 have HB:=Aside0.mk (Below.refl w.heap.size w)
 have H:=h
 unfold impl_gcd.f at H
 clear h
 have H':=Aside0.mk H
 clear H
 go_enter Try.func99,Try.ntmps99
 go_wp2
 repeat (go_quiet (fail);try go_wp2)
 go_loopg [0,1] k (fun kq v0 v1 w'=>∃ (x0_1:Int) (x1_1:Int),v0=.int .i64 x0_1∧v1=.int .i64 x1_1∧Aside0 (impl_gcd.l0 kq x0_1 x1_1=some r)∧Aside0 (kq≤k)∧Aside0 (Below w.heap.size w w'))
 case atStart=>exact ⟨(a0),(a1),hB,hB,H',⟨Nat.le_refl _⟩,⟨blA⟩⟩
 case round=>
  clear H'
  obtain ⟨x0_1,x1_1,rfl,rfl,HA,HK1,HB⟩:=hrel
  cases gk with
  | zero=>exact absurd HA.out (by simp [impl_gcd.l0])
  | succ k1=>
   have H:=HA.out
   clear HA
   simp only [impl_gcd.l0] at H
   by_cases c3:x1_1=0
   ·
    rw [if_pos c3] at H
    have c3b0:(x1_1 == 0)=true:=beq_iff_eq.mpr c3
    have c3b1:(x1_1 != 0)=false:=bne_eq_false_iff_eq.mpr c3
    clear c3
    obtain ⟨ji4,hji4⟩:∃ j_:Int,(mx x0_1 (wrap64 (-x0_1)))=j_:=⟨_,rfl⟩
    replace H:(some ji4)=some r:=by first|(rw [hji4] at H;exact H)|(simp only [hji4] at H ⊢;exact H)
    have hji4_:(if x0_1<(wrap64 (-x0_1)) then (wrap64 (-x0_1)) else x0_1)=ji4:=hji4
    obtain rfl:=Option.some.inj H
    go_wp2
    repeat (go_quiet (fail);try go_wp2)
    go_ret
    exact ⟨by first|rfl|(simp [errW_none,errW_some] <;> rfl)|(simp only [← hji4];first|rfl|(simp [errW_none,errW_some] <;> rfl))|(simp [*,errW_none,errW_some] <;> rfl),blA⟩
   ·
    rw [if_neg c3] at H
    have c3b0:(x1_1 == 0)=false:=beq_eq_false_iff_ne.mpr c3
    have c3b1:(x1_1 != 0)=true:=bne_iff_ne.mpr c3
    have H':=Aside0.mk H
    clear H
    go_wp2
    repeat (go_quiet (fail);try go_wp2)
    go_roundg k1
    case measure=>have:=HK1.out;omega
    case rel=>exact ⟨(x1_1),(Int.tmod x0_1 x1_1),hB,hB,H',⟨by have:=HK1.out;omega⟩,⟨blA⟩⟩
def spec_l01Pick.f (s0_0:List Int) (s0_1 s0_2:Int) (l1:List Int):Option (Int × Int × Int):=(spec_l01Next.f s0_0 s0_1 s0_2 (l1.length:Int)).bind fun bt104=>(if 0≤bt104.1 then (if bt104.1<(l1.length:Int) then (some (rd l1 bt104.1,bt104.2.1,bt104.2.2)) else (none)) else (none))
set_option maxHeartbeats 8000000 in
set_option maxRecDepth 100000 in
theorem spec_l01Pick.calls (g:Nat) (s0_0:List Int) (s0_1 s0_2:Int) (A1:Option Addr) (c1:Nat) (l1:List Int) (r1 r2 r3:Int) (w0 w:World) (hI:IsS116 w0 w g s0_0 s0_1 s0_2) (hB:Below w0.heap.size w0 w) (hr1:Kd.C (Kd.int .i64) w A1 l1.length l1) (hc1:l1.length≤c1) (hf1:∀ ad,A1=some ad→0<l1.length→ad.block≠g) (h:spec_l01Pick.f s0_0 s0_1 s0_2 l1=some (r1,r2,r3)) :
  Calls Try.prog 81 #[.pointer (some ⟨g,0,none⟩),.slice A1 l1.length c1] w fun e w'=>e=.returned (.int .i64 r1)∧IsS116 w0 w' g s0_0 r2 r3∧Below w0.heap.size w0 w'∧KeepBut w w' g none:=by
 have HR1:=Aside0.mk hr1
 have HC1:=Aside0.mk hc1
 clear hr1 hc1
 have HI0:=Aside0.mk hI
 have HK:=Aside0.mk (KeepBut.refl w g none)
 have HL:=Aside0.mk hB.size
 clear hI
 have HW0:=Aside0.mk hB.size
 have HB:=Aside0.mk hB
 clear hB
 have H:=h
 unfold spec_l01Pick.f at H
 clear h
 replace H:=bS H
 obtain ⟨⟨t104,t105,t106⟩,A3,H⟩:=H
 try dsimp only at H
 by_cases c4:0≤t104
 rotate_left
 ·
  rw [if_neg c4] at H
  exact absurd H (by simp)
 rw [if_pos c4] at H
 have c4b0:=decide_eq_true c4
 clear c4
 by_cases c5:t104<(l1.length:Int)
 rotate_left
 ·
  rw [if_neg c5] at H
  exact absurd H (by simp)
 rw [if_pos c5] at H
 have c5b0:=decide_eq_true c5
 clear c5
 simp only [Option.some.injEq,Prod.mk.injEq] at H
 obtain ⟨rfl,rfl,rfl⟩:=H
 go_enter Try.func81,Try.ntmps81
 go_wp2_with (first|((with_reducible refine gd 9 rfl ?_);refine gC (some 9) rfl Try.func82 (spec_l01Next.calls (w:=_) (g:=g) (w0:=w0) (hI:=iA HI0) (hB:=blI) (h:=A3.out)) ?_;rintro w6 ⟨hi,hb,hk⟩;replace HK:=kkA HK hk;replace HB:=Aside0.mk hb;replace HI0:=Aside0.mk hi;clear hi hb hk;have p107:0≤(t104:Int):=dA;have q107:t104<(l1.length:Int):=dA;obtain ⟨ad107,e107,hx107_0⟩:=Kd.at_int HR1.out t104 p107 q107;cases e107;replace hx107_0:=keep_cell HK.out hx107_0 (by first|(rw [add_block];exact hf1 _ rfl (by omega))|exact hf1 _ rfl (by omega)|exact hf1 ad107 rfl (by omega));replace p107:=eq_true p107;replace q107:=eq_true q107))
 go_ret
 exact ⟨eW,iA HI0,blI,kpA⟩
def spec_l01Of.f (k:Nat) (a0 a1 a2 a3:Int):Option (Int × Int × Int × Bool):=(spec_l01In.f a3 (-6) 6).bind fun t196=>(if t196=true then (if a1=0 then (some (a3,0,0,true)) else ((spec_l01Val.f k a0 a1).bind fun t198=>((spec_l01Val.f k a0 a2).bind fun t199=>(if a3≤(wrap64 (t198 - t199)) then (some (a3,0,0,true)) else (if (mx (wrap64 (t199 - t198)) 0)>6 then (some (0,0,0,false)) else ((spec_l01Power.f k a0 (wrap64 (a3+(mx (wrap64 (t199 - t198)) 0)))).bind fun t200=>((spec_l01Power.f k a0 t198).bind fun t201=>(if t201=0 then (none) else ((spec_l01Power.f k a0 t199).bind fun t202=>(if t202=0 then (none) else ((spec_l01InvMod.f k (wrap64 (Int.tdiv a2 t202)) t200).bind fun t203=>((spec_l01MulMod.f (wrap64 (Int.tdiv a1 t201)) t203 t200).bind fun t204=>((spec_l01Power.f k a0 (mx (wrap64 (t198 - t199)) 0)).bind fun t205=>((spec_l01MulMod.f t204 t205 t200).bind fun t206=>(some (a3,t206,mx (wrap64 (t199 - t198)) 0,true)))))))))))))))) else (some (0,0,0,false)))
theorem spec_l01Of.mono:∀ a0 a1 a2 a3 k,LeO (spec_l01Of.f k a0 a1 a2 a3) (spec_l01Of.f (k+1) a0 a1 a2 a3):=by
 intro a0 a1 a2 a3 k
 unfold spec_l01Of.f
 repeat' first
   | with_reducible first|exact spec_l01InvMod.mono ..|exact spec_l01Power.mono ..|exact spec_l01Val.mono ..|exact LeO.refl _|exact LeO.none _|refine LeO.ite ?_ ?_|refine LeO.bind ?_ fun _=>?_
set_option maxHeartbeats 8000000 in
set_option maxRecDepth 100000 in
theorem spec_l01Of.calls (k:Nat) (a0 a1 a2 a3 r1 r2 r3:Int) (r4:Bool) (w:World) (h:spec_l01Of.f k a0 a1 a2 a3=some (r1,r2,r3,r4)) :
  Calls Try.prog 97 #[.int .i64 a0,.int .i64 a1,.int .i64 a2,.int .i64 a3] w fun e w'=>e=.returned (.tuple #[.agg #[.int .i64 r1,.int .i64 r2,.int .i64 r3],.bool r4])∧Below w.heap.size w w':=by
 have hu28:=Try.underlying28
 have HB:=Aside0.mk (Below.refl w.heap.size w)
 have H:=h
 unfold spec_l01Of.f at H
 clear h
 replace H:=bS H
 obtain ⟨t196,A5,H⟩:=H
 try dsimp only at H
 by_cases c6:t196=true
 ·
  subst c6
  rw [if_pos rfl] at H
  try dsimp only at H
  by_cases c7:a1=0
  ·
   rw [if_pos c7] at H
   have c7b0:(a1 == 0)=true:=beq_iff_eq.mpr c7
   have c7b1:(a1 != 0)=false:=bne_eq_false_iff_eq.mpr c7
   clear c7
   simp only [Option.some.injEq,Prod.mk.injEq] at H
   obtain ⟨rfl,rfl,rfl,rfl⟩:=H
   go_enter Try.func97,Try.ntmps97
   go_wp2_with (first|((with_reducible refine gate_dst (N:=8) rfl ?_);refine bxE (cs:=#[.int .i64 0,.int .i64 0,.int .i64 0]) (t:=28) ?_;intro gb195 hg w8 hbox hb;have BK195:=Aside0.mk hbox;have GW195:=sA hg;have GE195:=sA hg;replace HB:=lB hb;clear hb hbox hg)|((with_reducible refine gd 15 rfl ?_);refine gC (some 15) rfl Try.func85 (spec_l01In.calls (w:=_) (h:=A5.out)) ?_;rintro _ ⟨nd,rfl⟩;(try (rw [drewN_self w8];generalize hq_:World.drewN w8 _=w8;replace BK195:=Aside0.mk (by rw [← hq_];exact (bkA BK195));replace HB:=Aside0.mk (by rw [← hq_];exact blA);clear hq_)))|((with_reducible refine gate_dst (N:=10) rfl ?_);refine bxE (cs:=#[.int .i64 0,.int .i64 0,.int .i64 0]) (t:=28) ?_;intro gb197 hg w9 hbox hb;have BK197:=Aside0.mk hbox;have GW197:=sA hg;have GE197:=sA hg;have NB195_197:=nA hg BK195;have NB197_195:=nB hg BK195;replace BK195:=kB BK195 hb;replace HB:=lB hb;clear hb hbox hg;have hnb10:=NB197_195.out;have hnc10:=NB195_197.out;obtain ⟨hcz11_0,hcz11_1,hcz11_2,hfz11_0,hfz11_1,hfz11_2⟩:=cz3 BK197;obtain ⟨hcz12_0,hcz12_1,hcz12_2,hfz12_0,hfz12_1,hfz12_2⟩:=cz3 BK195))
   refine bodyPost_ret (results_ct rfl _ _ gb195 28 #[.int .i64 a3,.int .i64 0,.int .i64 0] (0,0) _ rfl (bpA BK195) Try.underlying28 rfl (by kernel_rfl)) rfl ?_
   exact finA blA
  ·
   rw [if_neg c7] at H
   have c7b0:(a1 == 0)=false:=beq_eq_false_iff_ne.mpr c7
   have c7b1:(a1 != 0)=true:=bne_iff_ne.mpr c7
   replace H:=bS H
   obtain ⟨t198,A13,H⟩:=H
   try dsimp only at H
   replace H:=bS H
   obtain ⟨t199,A14,H⟩:=H
   try dsimp only at H
   by_cases c15:a3≤(wrap64 (t198 - t199))
   ·
    rw [if_pos c15] at H
    have c15b0:=decide_eq_true c15
    clear c15
    simp only [Option.some.injEq,Prod.mk.injEq] at H
    obtain ⟨rfl,rfl,rfl,rfl⟩:=H
    go_enter Try.func97,Try.ntmps97
    go_wp2_with (first|((with_reducible refine gate_dst (N:=8) rfl ?_);refine bxE (cs:=#[.int .i64 0,.int .i64 0,.int .i64 0]) (t:=28) ?_;intro gb195 hg w16 hbox hb;have BK195:=Aside0.mk hbox;have GW195:=sA hg;have GE195:=sA hg;replace HB:=lB hb;clear hb hbox hg)|((with_reducible refine gd 15 rfl ?_);refine gC (some 15) rfl Try.func85 (spec_l01In.calls (w:=_) (h:=A5.out)) ?_;rintro _ ⟨nd,rfl⟩;(try (rw [drewN_self w16];generalize hq_:World.drewN w16 _=w16;replace BK195:=Aside0.mk (by rw [← hq_];exact (bkA BK195));replace HB:=Aside0.mk (by rw [← hq_];exact blA);clear hq_)))|((with_reducible refine gate_dst (N:=10) rfl ?_);refine bxE (cs:=#[.int .i64 0,.int .i64 0,.int .i64 0]) (t:=28) ?_;intro gb197 hg w17 hbox hb;have BK197:=Aside0.mk hbox;have GW197:=sA hg;have GE197:=sA hg;have NB195_197:=nA hg BK195;have NB197_195:=nB hg BK195;replace BK195:=kB BK195 hb;replace HB:=lB hb;clear hb hbox hg;have hnb18:=NB197_195.out;have hnc18:=NB195_197.out;obtain ⟨hcz19_0,hcz19_1,hcz19_2,hfz19_0,hfz19_1,hfz19_2⟩:=cz3 BK197)|((with_reducible refine gd 25 rfl ?_);refine gC (some 25) rfl Try.func95 (spec_l01Val.calls (w:=_) (h:=A13.out)) ?_;rintro _ ⟨nd,rfl⟩)|((with_reducible refine gd 28 rfl ?_);refine gC (some 28) rfl Try.func95 (spec_l01Val.calls (w:=_) (h:=A14.out)) ?_;rintro _ ⟨nd,rfl⟩;obtain ⟨hcz20_0,hcz20_1,hcz20_2,hfz20_0,hfz20_1,hfz20_2⟩:=cz3 BK195))
    refine bodyPost_ret (results_ct rfl _ _ gb195 28 #[.int .i64 a3,.int .i64 0,.int .i64 0] (0,0) _ rfl (bpA BK195) Try.underlying28 rfl (by kernel_rfl)) rfl ?_
    exact finA blA
   ·
    rw [if_neg c15] at H
    have c15b0:=decide_eq_false c15
    clear c15
    obtain ⟨ji21,hji21⟩:∃ j_:Int,(mx (wrap64 (t199 - t198)) 0)=j_:=⟨_,rfl⟩
    replace H:(if (ji21)>6 then (some (0,0,0,false)) else ((spec_l01Power.f k a0 (wrap64 (a3+(ji21)))).bind fun t200=>((spec_l01Power.f k a0 t198).bind fun t201=>(if t201=0 then (none) else ((spec_l01Power.f k a0 t199).bind fun t202=>(if t202=0 then (none) else ((spec_l01InvMod.f k (wrap64 (Int.tdiv a2 t202)) t200).bind fun t203=>((spec_l01MulMod.f (wrap64 (Int.tdiv a1 t201)) t203 t200).bind fun t204=>((spec_l01Power.f k a0 (mx (wrap64 (t198 - t199)) 0)).bind fun t205=>((spec_l01MulMod.f t204 t205 t200).bind fun t206=>(some (a3,t206,ji21,true))))))))))))=some (r1,r2,r3,r4):=by first|(rw [hji21] at H;exact H)|(simp only [hji21] at H ⊢;exact H)
    (try rw [hji21] at A5)
    (try rw [hji21] at A13)
    (try rw [hji21] at A14)
    (try (have hji21l:0≤ji21:=by (rw [← hji21];unfold mx;(repeat' split) <;> omega)))
    (try (have hji21m:0≤ji21:=by omega))
    have hji21_:(if (wrap64 (t199 - t198))<0 then 0 else (wrap64 (t199 - t198)))=ji21:=hji21
    by_cases c22:(ji21)>6
    focus
     rw [if_pos c22] at H
     have c22b0:decide (6<(ji21))=true:=decide_eq_true c22
     clear c22
     simp only [Option.some.injEq,Prod.mk.injEq] at H
     obtain ⟨rfl,rfl,rfl,rfl⟩:=H
    rotate_left
    focus
     rw [if_neg c22] at H
     have c22b0:decide (6<(ji21))=false:=decide_eq_false c22
     clear c22
     replace H:=bS H
     obtain ⟨t200,A28,H⟩:=H
     try dsimp only at H
     replace H:=bS H
     obtain ⟨t201,A29,H⟩:=H
     try dsimp only at H
     by_cases c30:t201=0
     ·
      rw [if_pos c30] at H
      exact absurd H (by simp)
     rw [if_neg c30] at H
     have c30b0:(t201 == 0)=false:=beq_eq_false_iff_ne.mpr c30
     have c30b1:(t201 != 0)=true:=bne_iff_ne.mpr c30
     replace H:=bS H
     obtain ⟨t202,A31,H⟩:=H
     try dsimp only at H
     by_cases c32:t202=0
     ·
      rw [if_pos c32] at H
      exact absurd H (by simp)
     rw [if_neg c32] at H
     have c32b0:(t202 == 0)=false:=beq_eq_false_iff_ne.mpr c32
     have c32b1:(t202 != 0)=true:=bne_iff_ne.mpr c32
     replace H:=bS H
     obtain ⟨t203,A33,H⟩:=H
     try dsimp only at H
     replace H:=bS H
     obtain ⟨t204,A34,H⟩:=H
     try dsimp only at H
     obtain ⟨ji35,hji35⟩:∃ j_:Int,(mx (wrap64 (t198 - t199)) 0)=j_:=⟨_,rfl⟩
     replace H:((spec_l01Power.f k a0 (ji35)).bind fun t205=>((spec_l01MulMod.f t204 t205 t200).bind fun t206=>(some (a3,t206,ji21,true))))=some (r1,r2,r3,r4):=by first|(rw [hji35] at H;exact H)|(simp only [hji35] at H ⊢;exact H)
     (try rw [hji35] at A5)
     (try rw [hji35] at A13)
     (try rw [hji35] at A14)
     (try rw [hji35] at A28)
     (try rw [hji35] at A29)
     (try rw [hji35] at A31)
     (try rw [hji35] at A33)
     (try rw [hji35] at A34)
     (try (have hji35l:0≤ji35:=by (rw [← hji35];unfold mx;(repeat' split) <;> omega)))
     (try (have hji35m:0≤ji35:=by omega))
     have hji35_:(if (wrap64 (t198 - t199))<0 then 0 else (wrap64 (t198 - t199)))=ji35:=hji35
     replace H:=bS H
     obtain ⟨t205,A36,H⟩:=H
     try dsimp only at H
     replace H:=bS H
     obtain ⟨t206,A37,H⟩:=H
     try dsimp only at H
     simp only [Option.some.injEq,Prod.mk.injEq] at H
     obtain ⟨rfl,rfl,rfl,rfl⟩:=H
    rotate_left
    all_goals
     go_enter Try.func97,Try.ntmps97
     go_wp2_with (first|((with_reducible refine gate_dst (N:=8) rfl ?_);refine bxE (cs:=#[.int .i64 0,.int .i64 0,.int .i64 0]) (t:=28) ?_;intro gb195 hg w23 hbox hb;have BK195:=Aside0.mk hbox;have GW195:=sA hg;have GE195:=sA hg;replace HB:=lB hb;clear hb hbox hg)|((with_reducible refine gd 15 rfl ?_);refine gC (some 15) rfl Try.func85 (spec_l01In.calls (w:=_) (h:=A5.out)) ?_;rintro _ ⟨nd,rfl⟩;(try (rw [drewN_self w23];generalize hq_:World.drewN w23 _=w23;replace BK195:=Aside0.mk (by rw [← hq_];exact (bkA BK195));replace HB:=Aside0.mk (by rw [← hq_];exact blA);clear hq_)))|((with_reducible refine gate_dst (N:=10) rfl ?_);refine bxE (cs:=#[.int .i64 0,.int .i64 0,.int .i64 0]) (t:=28) ?_;intro gb197 hg w24 hbox hb;have BK197:=Aside0.mk hbox;have GW197:=sA hg;have GE197:=sA hg;have NB195_197:=nA hg BK195;have NB197_195:=nB hg BK195;replace BK195:=kB BK195 hb;replace HB:=lB hb;clear hb hbox hg;have hnb25:=NB197_195.out;have hnc25:=NB195_197.out;obtain ⟨hcz26_0,hcz26_1,hcz26_2,hfz26_0,hfz26_1,hfz26_2⟩:=cz3 BK197)|((with_reducible refine gd 25 rfl ?_);refine gC (some 25) rfl Try.func95 (spec_l01Val.calls (w:=_) (h:=A13.out)) ?_;rintro _ ⟨nd,rfl⟩)|((with_reducible refine gd 28 rfl ?_);refine gC (some 28) rfl Try.func95 (spec_l01Val.calls (w:=_) (h:=A14.out)) ?_;rintro _ ⟨nd,rfl⟩;obtain ⟨hcz27_0,hcz27_1,hcz27_2,hfz27_0,hfz27_1,hfz27_2⟩:=cz3 BK195)|((with_reducible refine gate_callee (f:=94) rfl ?_);refine goesL_ (some 49) rfl rfl Try.func94 (by kernel_rfl) rfl #[.int .i64 a0,.int .i64 (wrap64 (a3+(ji21)))] rfl (by (try simp only [List.map_toArray,List.map_cons,List.map_nil]);first|done|(simp only [hji21];rfl)|rfl|(simp only [List.length_drop,List.length_take];rfl)) ?_;(with_reducible refine (spec_l01Power.calls k a0 (wrap64 (a3+(ji21))) t200 _ A28.out).mono ?_);rintro e w' ⟨rfl,⟨nd,rfl⟩⟩;refine ⟨_,rfl,?_⟩)|((with_reducible refine gd 53 rfl ?_);refine gC (some 53) rfl Try.func94 (spec_l01Power.calls (w:=_) (h:=A29.out)) ?_;rintro _ ⟨nd,rfl⟩)|((with_reducible refine gd 58 rfl ?_);refine gC (some 58) rfl Try.func94 (spec_l01Power.calls (w:=_) (h:=A31.out)) ?_;rintro _ ⟨nd,rfl⟩)|((with_reducible refine gd 63 rfl ?_);refine gC (some 63) rfl Try.func126 (spec_l01InvMod.calls (w:=_) (h:=A33.out)) ?_;rintro _ ⟨nd,rfl⟩)|((with_reducible refine gd 65 rfl ?_);refine gC (some 65) rfl Try.func125 (spec_l01MulMod.calls (w:=_) (h:=A34.out)) ?_;rintro _ ⟨nd,rfl⟩)|((with_reducible refine gate_callee (f:=94) rfl ?_);refine goesL_ (some 71) rfl rfl Try.func94 (by kernel_rfl) rfl #[.int .i64 a0,.int .i64 ji35] rfl (by (try simp only [List.map_toArray,List.map_cons,List.map_nil]);first|done|(simp only [hji35];rfl)|rfl|(simp only [List.length_drop,List.length_take];rfl)) ?_;(with_reducible refine (spec_l01Power.calls k a0 ji35 t205 _ A36.out).mono ?_);rintro e w' ⟨rfl,⟨nd,rfl⟩⟩;refine ⟨_,rfl,?_⟩)|((with_reducible refine gd 73 rfl ?_);refine gC (some 73) rfl Try.func125 (spec_l01MulMod.calls (w:=_) (h:=A37.out)) ?_;rintro _ ⟨nd,rfl⟩;obtain ⟨hcz42_0,hcz42_1,hcz42_2,hfz42_0,hfz42_1,hfz42_2⟩:=cz3 BK195))
    ·
     refine bodyPost_ret (results_ct rfl _ _ gb195 28 #[.int .i64 0,.int .i64 0,.int .i64 0] (0,0) _ rfl (bpA BK195) Try.underlying28 rfl (by kernel_rfl)) rfl ?_
     exact ⟨by first|rfl|(simp [errW_none,errW_some] <;> rfl)|(simp only [← hji21];first|rfl|(simp [errW_none,errW_some] <;> rfl))|(simp [*,errW_none,errW_some] <;> rfl),blA⟩
    ·
     refine bodyPost_ret (results_ct rfl _ _ gb195 28 #[.int .i64 a3,.int .i64 t206,.int .i64 ji21] (0,0) _ rfl (bpA BK195) Try.underlying28 rfl (by kernel_rfl)) rfl ?_
     exact ⟨by first|rfl|(simp [errW_none,errW_some] <;> rfl)|(simp only [← hji21,← hji35];first|rfl|(simp [errW_none,errW_some] <;> rfl))|(simp [*,errW_none,errW_some] <;> rfl),blA⟩
 ·
  replace c6:=Bool.eq_false_iff.mpr c6
  subst c6
  rw [if_neg (show ¬ (false=true) by decide)] at H
  try dsimp only at H
  simp only [Option.some.injEq,Prod.mk.injEq] at H
  obtain ⟨rfl,rfl,rfl,rfl⟩:=H
  go_enter Try.func97,Try.ntmps97
  go_wp2_with (first|((with_reducible refine gate_dst (N:=8) rfl ?_);refine bxE (cs:=#[.int .i64 0,.int .i64 0,.int .i64 0]) (t:=28) ?_;intro gb195 hg w43 hbox hb;have BK195:=Aside0.mk hbox;have GW195:=sA hg;have GE195:=sA hg;replace HB:=lB hb;clear hb hbox hg)|((with_reducible refine gd 15 rfl ?_);refine gC (some 15) rfl Try.func85 (spec_l01In.calls (w:=_) (h:=A5.out)) ?_;rintro _ ⟨nd,rfl⟩;(try (rw [drewN_self w43];generalize hq_:World.drewN w43 _=w43;replace BK195:=Aside0.mk (by rw [← hq_];exact (bkA BK195));replace HB:=Aside0.mk (by rw [← hq_];exact blA);clear hq_));obtain ⟨hcz44_0,hcz44_1,hcz44_2,hfz44_0,hfz44_1,hfz44_2⟩:=cz3 BK195))
  refine bodyPost_ret (results_ct rfl _ _ gb195 28 #[.int .i64 0,.int .i64 0,.int .i64 0] (0,0) _ rfl (bpA BK195) Try.underlying28 rfl (by kernel_rfl)) rfl ?_
  exact finA blA
def impl_IsBall.j0:Nat→Int→Bool→Int→Int→Int→Option (Bool)
 | 0,_,_,_,_,_=>none
 | k+1,x0,x24,x310000,x310001,x310002=>if x24=true then (some false) else (if (wrap64 (x310000+x310002))≤0 then (if x310001=0 then (some (x310002 == 0)) else (some false)) else (if x310001≥0 then ((impl_power.f k x0 (wrap64 (x310000+x310002))).bind fun t312=>(if x310001<t312 then (if x310002=0 then (some true) else (if x0=0 then (none) else (some ((Int.tmod x310001 x0) != 0)))) else (some false))) else (some false)))
def impl_IsBall.f (k:Nat) (a0 a1_0 a1_1 a1_2:Int):Option (Bool):=(impl_isPrime.f a0).bind fun t310=>(if t310=true then ((impl_isLevel.f a1_0).bind fun t311=>(if t311=true then (if a1_2<0 then (impl_IsBall.j0 k a0 true a1_0 a1_1 a1_2) else (impl_IsBall.j0 k a0 (decide (a1_2>6)) a1_0 a1_1 a1_2)) else (impl_IsBall.j0 k a0 true a1_0 a1_1 a1_2))) else (impl_IsBall.j0 k a0 true a1_0 a1_1 a1_2))
theorem impl_IsBall.mono_l:∀ k,(∀ y0 y1 y2 y3 y4,LeO (impl_IsBall.j0 k y0 y1 y2 y3 y4) (impl_IsBall.j0 (k+1) y0 y1 y2 y3 y4))
 | 0=>fun _ _ _ _ _ r h=>by simp [impl_IsBall.j0] at h
 | k+1=>by
  have ih0:=impl_IsBall.mono_l k
  ·
   intro y0 y1 y2 y3 y4
   unfold impl_IsBall.j0
   repeat' first
   | with_reducible first|exact ih0 ..|exact impl_power.mono ..|exact LeO.refl _|exact LeO.none _|refine LeO.ite ?_ ?_|refine LeO.bind ?_ fun _=>?_
theorem impl_IsBall.mono:∀ a0 a1 a2 a3 k,LeO (impl_IsBall.f k a0 a1 a2 a3) (impl_IsBall.f (k+1) a0 a1 a2 a3):=by
 intro a0 a1 a2 a3 k
 have ih0:=impl_IsBall.mono_l k
 unfold impl_IsBall.f
 repeat' first
   | with_reducible first|exact ih0 ..|exact impl_power.mono ..|exact LeO.refl _|exact LeO.none _|refine LeO.ite ?_ ?_|refine LeO.bind ?_ fun _=>?_
set_option maxHeartbeats 8000000 in
set_option maxRecDepth 100000 in
theorem impl_IsBall.calls (k:Nat) (a0 a1_0 a1_1 a1_2:Int) (r:Bool) (w:World) (h:impl_IsBall.f k a0 a1_0 a1_1 a1_2=some r) :
  Calls Try.prog 14 #[.int .i64 a0,.agg #[.int .i64 a1_0,.int .i64 a1_1,.int .i64 a1_2]] w fun e w'=>e=.returned (.bool r)∧Below w.heap.size w w':=by
 have hu28:=Try.underlying28
 have HB:=Aside0.mk (Below.refl w.heap.size w)
 have H:=h
 unfold impl_IsBall.f at H
 clear h
 have HC3:=Aside0.mk H
 clear H
 go_enter Try.func14,Try.ntmps14
 go_upto_region 1 with (first|((with_reducible refine gate_dst (N:=3) rfl ?_);refine bxE (cs:=#[.int .i64 a1_0,.int .i64 a1_1,.int .i64 a1_2]) (t:=28) ?_;intro gb309 hg w4 hbox hb;have BK309:=Aside0.mk hbox;have GW309:=sA hg;have GE309:=sA hg;replace HB:=lB hb;clear hb hbox hg))
 repeat (go_quiet (first|((with_reducible refine gate_dst (N:=3) rfl ?_);refine bxE (cs:=#[.int .i64 a1_0,.int .i64 a1_1,.int .i64 a1_2]) (t:=28) ?_;intro gb309 hg w4 hbox hb;have BK309:=Aside0.mk hbox;have GW309:=sA hg;have GE309:=sA hg;replace HB:=lB hb;clear hb hbox hg));go_upto_region 1 with (first|((with_reducible refine gate_dst (N:=3) rfl ?_);refine bxE (cs:=#[.int .i64 a1_0,.int .i64 a1_1,.int .i64 a1_2]) (t:=28) ?_;intro gb309 hg w4 hbox hb;have BK309:=Aside0.mk hbox;have GW309:=sA hg;have GE309:=sA hg;replace HB:=lB hb;clear hb hbox hg)))
 (try simp only [Act.put,List.setIfInBounds_toArray,List.set_cons_zero,List.set_cons_succ])
 go_cut [24] (fun v24 wc=>∃ (kq:Nat) (x24_2:Bool),v24=.bool x24_2∧Aside0 (impl_IsBall.j0 kq a0 x24_2 a1_0 a1_1 a1_2=some r)∧Aside0 (kq≤k)∧Aside0 (wc.heap[gb309]?=some (.cells #[.int .i64 a1_0,.int .i64 a1_1,.int .i64 a1_2] 28 (0,0)))∧Aside0 (Below w.heap.size w wc))
 case first=>
  have H:=HC3.out
  clear HC3
  replace H:=bS H
  obtain ⟨t310,A5,H⟩:=H
  try dsimp only at H
  by_cases c6:t310=true
  ·
   subst c6
   rw [if_pos rfl] at H
   try dsimp only at H
   replace H:=bS H
   obtain ⟨t311,A7,H⟩:=H
   try dsimp only at H
   by_cases c8:t311=true
   ·
    subst c8
    rw [if_pos rfl] at H
    try dsimp only at H
    by_cases c9:a1_2<0
    ·
     rw [if_pos c9] at H
     have c9b0:=decide_eq_true c9
     clear c9
     (first|rw [c9b0]|(simp only [i64_w,i32_w];rw [c9b0])|skip)
     have H':=Aside0.mk H
     clear H
     go_wp2_with (first|(go_at_call 57;(with_reducible refine (impl_isPrime.calls a0 true _ A5.out).mono ?_);rintro e w' ⟨rfl,⟨nd,rfl⟩⟩;(try exact dd);obtain ⟨hcz10_0,hcz10_1,hcz10_2,hfz10_0,hfz10_1,hfz10_2⟩:=cz3 BK309)|(go_at_call 58;(with_reducible refine (impl_isLevel.calls a1_0 true _ A7.out).mono ?_);rintro e w' ⟨rfl,⟨nd,rfl⟩⟩;(try exact dd)))
     repeat (go_quiet (first|(go_at_call 57;(with_reducible refine (impl_isPrime.calls a0 true _ A5.out).mono ?_);rintro e w' ⟨rfl,⟨nd,rfl⟩⟩;(try exact dd);obtain ⟨hcz10_0,hcz10_1,hcz10_2,hfz10_0,hfz10_1,hfz10_2⟩:=cz3 BK309)|(go_at_call 58;(with_reducible refine (impl_isLevel.calls a1_0 true _ A7.out).mono ?_);rintro e w' ⟨rfl,⟨nd,rfl⟩⟩;(try exact dd)));try go_wp2_with (first|(go_at_call 57;(with_reducible refine (impl_isPrime.calls a0 true _ A5.out).mono ?_);rintro e w' ⟨rfl,⟨nd,rfl⟩⟩;(try exact dd);obtain ⟨hcz10_0,hcz10_1,hcz10_2,hfz10_0,hfz10_1,hfz10_2⟩:=cz3 BK309)|(go_at_call 58;(with_reducible refine (impl_isLevel.calls a1_0 true _ A7.out).mono ?_);rintro e w' ⟨rfl,⟨nd,rfl⟩⟩;(try exact dd))))
     go_meet
     case rel=>exact ⟨_,(true),hB,H',⟨by first|omega|exact Nat.le_refl _⟩,⟨bkA BK309⟩,⟨blA⟩⟩
    ·
     rw [if_neg c9] at H
     have c9b0:=decide_eq_false c9
     clear c9
     (first|rw [c9b0]|(simp only [i64_w,i32_w];rw [c9b0])|skip)
     have H':=Aside0.mk H
     clear H
     go_wp2_with (first|(go_at_call 57;(with_reducible refine (impl_isPrime.calls a0 true _ A5.out).mono ?_);rintro e w' ⟨rfl,⟨nd,rfl⟩⟩;(try exact dd);obtain ⟨hcz11_0,hcz11_1,hcz11_2,hfz11_0,hfz11_1,hfz11_2⟩:=cz3 BK309)|(go_at_call 58;(with_reducible refine (impl_isLevel.calls a1_0 true _ A7.out).mono ?_);rintro e w' ⟨rfl,⟨nd,rfl⟩⟩;(try exact dd)))
     repeat (go_quiet (first|(go_at_call 57;(with_reducible refine (impl_isPrime.calls a0 true _ A5.out).mono ?_);rintro e w' ⟨rfl,⟨nd,rfl⟩⟩;(try exact dd);obtain ⟨hcz11_0,hcz11_1,hcz11_2,hfz11_0,hfz11_1,hfz11_2⟩:=cz3 BK309)|(go_at_call 58;(with_reducible refine (impl_isLevel.calls a1_0 true _ A7.out).mono ?_);rintro e w' ⟨rfl,⟨nd,rfl⟩⟩;(try exact dd)));try go_wp2_with (first|(go_at_call 57;(with_reducible refine (impl_isPrime.calls a0 true _ A5.out).mono ?_);rintro e w' ⟨rfl,⟨nd,rfl⟩⟩;(try exact dd);obtain ⟨hcz11_0,hcz11_1,hcz11_2,hfz11_0,hfz11_1,hfz11_2⟩:=cz3 BK309)|(go_at_call 58;(with_reducible refine (impl_isLevel.calls a1_0 true _ A7.out).mono ?_);rintro e w' ⟨rfl,⟨nd,rfl⟩⟩;(try exact dd))))
     go_meet
     case rel=>exact ⟨_,(decide (a1_2>6)),hB,H',⟨by first|omega|exact Nat.le_refl _⟩,⟨bkA BK309⟩,⟨blA⟩⟩
   ·
    replace c8:=Bool.eq_false_iff.mpr c8
    subst c8
    rw [if_neg (show ¬ (false=true) by decide)] at H
    try dsimp only at H
    have H':=Aside0.mk H
    clear H
    go_wp2_with (first|(go_at_call 57;(with_reducible refine (impl_isPrime.calls a0 true _ A5.out).mono ?_);rintro e w' ⟨rfl,⟨nd,rfl⟩⟩;(try exact dd);obtain ⟨hcz12_0,hcz12_1,hcz12_2,hfz12_0,hfz12_1,hfz12_2⟩:=cz3 BK309)|(go_at_call 58;(with_reducible refine (impl_isLevel.calls a1_0 false _ A7.out).mono ?_);rintro e w' ⟨rfl,⟨nd,rfl⟩⟩;(try exact dd)))
    repeat (go_quiet (first|(go_at_call 57;(with_reducible refine (impl_isPrime.calls a0 true _ A5.out).mono ?_);rintro e w' ⟨rfl,⟨nd,rfl⟩⟩;(try exact dd);obtain ⟨hcz12_0,hcz12_1,hcz12_2,hfz12_0,hfz12_1,hfz12_2⟩:=cz3 BK309)|(go_at_call 58;(with_reducible refine (impl_isLevel.calls a1_0 false _ A7.out).mono ?_);rintro e w' ⟨rfl,⟨nd,rfl⟩⟩;(try exact dd)));try go_wp2_with (first|(go_at_call 57;(with_reducible refine (impl_isPrime.calls a0 true _ A5.out).mono ?_);rintro e w' ⟨rfl,⟨nd,rfl⟩⟩;(try exact dd);obtain ⟨hcz12_0,hcz12_1,hcz12_2,hfz12_0,hfz12_1,hfz12_2⟩:=cz3 BK309)|(go_at_call 58;(with_reducible refine (impl_isLevel.calls a1_0 false _ A7.out).mono ?_);rintro e w' ⟨rfl,⟨nd,rfl⟩⟩;(try exact dd))))
    go_meet
    case rel=>exact ⟨_,(true),hB,H',⟨by first|omega|exact Nat.le_refl _⟩,⟨bkA BK309⟩,⟨blA⟩⟩
  ·
   replace c6:=Bool.eq_false_iff.mpr c6
   subst c6
   rw [if_neg (show ¬ (false=true) by decide)] at H
   try dsimp only at H
   have H':=Aside0.mk H
   clear H
   go_wp2_with (first|(go_at_call 57;(with_reducible refine (impl_isPrime.calls a0 false _ A5.out).mono ?_);rintro e w' ⟨rfl,⟨nd,rfl⟩⟩;(try exact dd)))
   repeat (go_quiet (first|(go_at_call 57;(with_reducible refine (impl_isPrime.calls a0 false _ A5.out).mono ?_);rintro e w' ⟨rfl,⟨nd,rfl⟩⟩;(try exact dd)));try go_wp2_with (first|(go_at_call 57;(with_reducible refine (impl_isPrime.calls a0 false _ A5.out).mono ?_);rintro e w' ⟨rfl,⟨nd,rfl⟩⟩;(try exact dd))))
   go_meet
   case rel=>exact ⟨_,(true),hB,H',⟨by first|omega|exact Nat.le_refl _⟩,⟨bkA BK309⟩,⟨blA⟩⟩
 case rest=>
  clear HC3
  try clear c6
  try clear c8
  try clear c9
  try clear c9b0
  try clear hcz10_0
  try clear hcz10_1
  try clear hcz10_2
  try clear hcz11_0
  try clear hcz11_1
  try clear hcz11_2
  try clear hcz12_0
  try clear hcz12_1
  try clear hcz12_2
  try clear hfz10_0
  try clear hfz10_1
  try clear hfz10_2
  try clear hfz11_0
  try clear hfz11_1
  try clear hfz11_2
  try clear hfz12_0
  try clear hfz12_1
  try clear hfz12_2
  obtain ⟨kq,x24_2,rfl,HA,HJ2,BK309,HB⟩:=hcut
  cases kq with
  | zero=>exact absurd HA.out (by simp [impl_IsBall.j0])
  | succ kj2=>
   have H:=HA.out
   clear HA
   simp only [impl_IsBall.j0] at H
   by_cases c13:x24_2=true
   ·
    subst c13
    rw [if_pos rfl] at H
    try dsimp only at H
    obtain rfl:=Option.some.inj H
    go_wp2
    repeat (go_quiet (fail);try go_wp2)
    go_ret
    exact finA blA
   ·
    replace c13:=Bool.eq_false_iff.mpr c13
    subst c13
    rw [if_neg (show ¬ (false=true) by decide)] at H
    try dsimp only at H
    by_cases c14:(wrap64 (a1_0+a1_2))≤0
    ·
     rw [if_pos c14] at H
     have c14b0:=decide_eq_true c14
     clear c14
     by_cases c15:a1_1=0
     ·
      rw [if_pos c15] at H
      have c15b0:(a1_1 == 0)=true:=beq_iff_eq.mpr c15
      have c15b1:(a1_1 != 0)=false:=bne_eq_false_iff_eq.mpr c15
      clear c15
      obtain rfl:=Option.some.inj H
      obtain ⟨hcz16_0,hcz16_1,hcz16_2,hfz16_0,hfz16_1,hfz16_2⟩:=cz3 BK309
      go_wp2
      repeat (go_quiet (fail);try go_wp2)
      go_ret
      exact finA blA
     ·
      rw [if_neg c15] at H
      have c15b0:(a1_1 == 0)=false:=beq_eq_false_iff_ne.mpr c15
      have c15b1:(a1_1 != 0)=true:=bne_iff_ne.mpr c15
      obtain rfl:=Option.some.inj H
      obtain ⟨hcz17_0,hcz17_1,hcz17_2,hfz17_0,hfz17_1,hfz17_2⟩:=cz3 BK309
      go_wp2
      repeat (go_quiet (fail);try go_wp2)
      go_ret
      exact finA blA
    ·
     rw [if_neg c14] at H
     have c14b0:=decide_eq_false c14
     clear c14
     by_cases c18:a1_1≥0
     ·
      rw [if_pos c18] at H
      have c18b0:decide (0≤a1_1)=true:=decide_eq_true c18
      clear c18
      replace H:=bS H
      obtain ⟨t312,A19,H⟩:=H
      try dsimp only at H
      by_cases c20:a1_1<t312
      ·
       rw [if_pos c20] at H
       have c20b0:=decide_eq_true c20
       clear c20
       by_cases c21:a1_2=0
       focus
        rw [if_pos c21] at H
        have c21b0:(a1_2 == 0)=true:=beq_iff_eq.mpr c21
        have c21b1:(a1_2 != 0)=false:=bne_eq_false_iff_eq.mpr c21
        clear c21
        obtain rfl:=Option.some.inj H
        obtain ⟨hcz22_0,hcz22_1,hcz22_2,hfz22_0,hfz22_1,hfz22_2⟩:=cz3 BK309
       rotate_left
       focus
        rw [if_neg c21] at H
        have c21b0:(a1_2 == 0)=false:=beq_eq_false_iff_ne.mpr c21
        have c21b1:(a1_2 != 0)=true:=bne_iff_ne.mpr c21
        by_cases c23:a0=0
        ·
         rw [if_pos c23] at H
         exact absurd H (by simp)
        rw [if_neg c23] at H
        have c23b0:(a0 == 0)=false:=beq_eq_false_iff_ne.mpr c23
        have c23b1:(a0 != 0)=true:=bne_iff_ne.mpr c23
        obtain rfl:=Option.some.inj H
        obtain ⟨hcz24_0,hcz24_1,hcz24_2,hfz24_0,hfz24_1,hfz24_2⟩:=cz3 BK309
       rotate_left
       all_goals
        go_wp2_with (first|(go_at_call 59;(with_reducible refine (impl_power.calls kj2 a0 (wrap64 (a1_0+a1_2)) t312 _ A19.out).mono ?_);rintro e w' ⟨rfl,⟨nd,rfl⟩⟩;(try exact dd)))
        repeat (go_quiet (first|(go_at_call 59;(with_reducible refine (impl_power.calls kj2 a0 (wrap64 (a1_0+a1_2)) t312 _ A19.out).mono ?_);rintro e w' ⟨rfl,⟨nd,rfl⟩⟩;(try exact dd)));try go_wp2_with (first|(go_at_call 59;(with_reducible refine (impl_power.calls kj2 a0 (wrap64 (a1_0+a1_2)) t312 _ A19.out).mono ?_);rintro e w' ⟨rfl,⟨nd,rfl⟩⟩;(try exact dd))))
       ·
        go_ret
        exact finA blA
       ·
        go_ret
        exact finA blA
      ·
       rw [if_neg c20] at H
       have c20b0:=decide_eq_false c20
       clear c20
       obtain rfl:=Option.some.inj H
       obtain ⟨hcz25_0,hcz25_1,hcz25_2,hfz25_0,hfz25_1,hfz25_2⟩:=cz3 BK309
       go_wp2_with (first|(go_at_call 59;(with_reducible refine (impl_power.calls kj2 a0 (wrap64 (a1_0+a1_2)) t312 _ A19.out).mono ?_);rintro e w' ⟨rfl,⟨nd,rfl⟩⟩;(try exact dd)))
       repeat (go_quiet (first|(go_at_call 59;(with_reducible refine (impl_power.calls kj2 a0 (wrap64 (a1_0+a1_2)) t312 _ A19.out).mono ?_);rintro e w' ⟨rfl,⟨nd,rfl⟩⟩;(try exact dd)));try go_wp2_with (first|(go_at_call 59;(with_reducible refine (impl_power.calls kj2 a0 (wrap64 (a1_0+a1_2)) t312 _ A19.out).mono ?_);rintro e w' ⟨rfl,⟨nd,rfl⟩⟩;(try exact dd))))
       go_ret
       exact finA blA
     ·
      rw [if_neg c18] at H
      have c18b0:decide (0≤a1_1)=false:=decide_eq_false c18
      clear c18
      obtain rfl:=Option.some.inj H
      obtain ⟨hcz26_0,hcz26_1,hcz26_2,hfz26_0,hfz26_1,hfz26_2⟩:=cz3 BK309
      go_wp2
      repeat (go_quiet (fail);try go_wp2)
      go_ret
      exact finA blA
def impl_IsMatrix.f (k:Nat) (a0_0 a0_1 a0_2 a0_3:Int):Option (Bool):=(impl_within.f k 1000 (([a0_0,a0_1,a0_2,a0_3]:List Int))).bind fun t319=>(if t319=true then ((impl_determinant.f a0_0 a0_1 a0_2 a0_3).bind fun t320=>(some (t320 != 0))) else (some false))
theorem impl_IsMatrix.mono:∀ a0 a1 a2 a3 k,LeO (impl_IsMatrix.f k a0 a1 a2 a3) (impl_IsMatrix.f (k+1) a0 a1 a2 a3):=by
 intro a0 a1 a2 a3 k
 unfold impl_IsMatrix.f
 repeat' first
   | with_reducible first|exact impl_within.mono ..|exact LeO.refl _|exact LeO.none _|refine LeO.ite ?_ ?_|refine LeO.bind ?_ fun _=>?_
set_option maxHeartbeats 8000000 in
set_option maxRecDepth 100000 in
theorem impl_IsMatrix.calls (k:Nat) (a0_0 a0_1 a0_2 a0_3:Int) (r:Bool) (w:World) (h:impl_IsMatrix.f k a0_0 a0_1 a0_2 a0_3=some r) :
  Calls Try.prog 42 #[.agg #[.int .i64 a0_0,.int .i64 a0_1,.int .i64 a0_2,.int .i64 a0_3]] w fun e w'=>e=.returned (.bool r)∧Below w.heap.size w w':=by
 have hu26:=Try.underlying26
 have HB:=Aside0.mk (Below.refl w.heap.size w)
 have H:=h
 unfold impl_IsMatrix.f at H
 clear h
 obtain ⟨y316,hy316⟩:∃ y_:List Int,y_=(([a0_0,a0_1,a0_2,a0_3]:List Int)):=⟨_,rfl⟩
 replace H:((impl_within.f k 1000 y316).bind fun t319=>(if t319=true then ((impl_determinant.f a0_0 a0_1 a0_2 a0_3).bind fun t320=>(some (t320 != 0))) else (some false)))=some r:=rH hy316 H
 have Ny316:=Aside0.mk hy316
 clear hy316
 replace H:=bS H
 obtain ⟨t319,A2,H⟩:=H
 try dsimp only at H
 by_cases c3:t319=true
 ·
  subst c3
  rw [if_pos rfl] at H
  try dsimp only at H
  replace H:=bS H
  obtain ⟨t320,A4,H⟩:=H
  try dsimp only at H
  obtain rfl:=Option.some.inj H
  go_enter Try.func42,Try.ntmps42
  go_wp2_with (first|((with_reducible refine gate_dst (N:=1) rfl ?_);refine bxE (cs:=#[.int .i64 a0_0,.int .i64 a0_1,.int .i64 a0_2,.int .i64 a0_3]) (t:=26) ?_;intro gb315 hg w5 hbox hb;have BK315:=Aside0.mk hbox;have GW315:=sA hg;have GE315:=sA hg;replace HB:=lB hb;clear hb hbox hg;obtain ⟨hcz6_0,hcz6_1,hcz6_2,hcz6_3,hfz6_0,hfz6_1,hfz6_2,hfz6_3⟩:=cz4 BK315)|((with_reducible refine gate_dst (N:=15) rfl ?_);refine Kd.R_lit (Kd.int .i64) _ 2 ?hg (N:=15) ?hd (xs:=([a0_0,a0_1,a0_2,a0_3]:List Int)) (inner:=[.int .i64 a0_0,.int .i64 a0_1,.int .i64 a0_2,.int .i64 a0_3]) (ok:=fun _=>True) (okp:=fun _=>True) ?hr ?hp (fun _ hk=>hk) trivial (Below.refl _ _) (Nat.le_refl _) (by simp) ?_;(case hd=>rfl);(case hg=>rfl);(case hr=>first|(go_simp;done)|(go_simp;rfl));(case hp=>exact (Reps.one (show Kd.M (Kd.int .i64) _ _ _ a0_0 [.int .i64 a0_0] from rfl) (Reps.one (show Kd.M (Kd.int .i64) _ _ _ a0_1 [.int .i64 a0_1] from rfl) (Reps.one (show Kd.M (Kd.int .i64) _ _ _ a0_2 [.int .i64 a0_2] from rfl) (Reps.one (show Kd.M (Kd.int .i64) _ _ _ a0_3 [.int .i64 a0_3] from rfl) (Reps.none _ _))))));intro v317 w7 ho8 hb hg_ hnew_;clear hg_ hnew_;(first|rw [← Ny316.out] at ho8|(simp only [Int.reduceToNat] at ho8;rw [← Ny316.out] at ho8));have HO318:=Aside0.mk (Kd.R_lower ho8 (below_size blA));replace BK315:=kB BK315 hb;replace HB:=lB hb;clear hb ho8;obtain ⟨Ao9,co9,eo9⟩:=Kd.R_slice HO318.out;subst eo9)|((with_reducible refine gd 16 rfl ?_);refine gC (some 16) rfl Try.func88 (impl_within.calls (w:=_) (hr1:=cR (Kd.R_reads' HO318.out).2.2) (hc1:=(Kd.R_reads' HO318.out).2.1) (h:=A2.out)) ?_;rintro _ ⟨nd,rfl⟩;obtain ⟨hcz10_0,hcz10_1,hcz10_2,hcz10_3,hfz10_0,hfz10_1,hfz10_2,hfz10_3⟩:=cz4 BK315)|(go_at_call 89;(with_reducible refine (impl_determinant.calls a0_0 a0_1 a0_2 a0_3 t320 _ A4.out).mono ?_);rintro e w11 ⟨rfl,hb⟩;replace HO318:=Aside0.mk (Kd.R_below (rA HO318) hb);replace BK315:=kB BK315 hb;replace HB:=lB hb;clear hb))
  go_ret
  exact finA blA
 ·
  replace c3:=Bool.eq_false_iff.mpr c3
  subst c3
  rw [if_neg (show ¬ (false=true) by decide)] at H
  try dsimp only at H
  obtain rfl:=Option.some.inj H
  go_enter Try.func42,Try.ntmps42
  go_wp2_with (first|((with_reducible refine gate_dst (N:=1) rfl ?_);refine bxE (cs:=#[.int .i64 a0_0,.int .i64 a0_1,.int .i64 a0_2,.int .i64 a0_3]) (t:=26) ?_;intro gb315 hg w12 hbox hb;have BK315:=Aside0.mk hbox;have GW315:=sA hg;have GE315:=sA hg;replace HB:=lB hb;clear hb hbox hg;obtain ⟨hcz13_0,hcz13_1,hcz13_2,hcz13_3,hfz13_0,hfz13_1,hfz13_2,hfz13_3⟩:=cz4 BK315)|((with_reducible refine gate_dst (N:=15) rfl ?_);refine Kd.R_lit (Kd.int .i64) _ 2 ?hg (N:=15) ?hd (xs:=([a0_0,a0_1,a0_2,a0_3]:List Int)) (inner:=[.int .i64 a0_0,.int .i64 a0_1,.int .i64 a0_2,.int .i64 a0_3]) (ok:=fun _=>True) (okp:=fun _=>True) ?hr ?hp (fun _ hk=>hk) trivial (Below.refl _ _) (Nat.le_refl _) (by simp) ?_;(case hd=>rfl);(case hg=>rfl);(case hr=>first|(go_simp;done)|(go_simp;rfl));(case hp=>exact (Reps.one (show Kd.M (Kd.int .i64) _ _ _ a0_0 [.int .i64 a0_0] from rfl) (Reps.one (show Kd.M (Kd.int .i64) _ _ _ a0_1 [.int .i64 a0_1] from rfl) (Reps.one (show Kd.M (Kd.int .i64) _ _ _ a0_2 [.int .i64 a0_2] from rfl) (Reps.one (show Kd.M (Kd.int .i64) _ _ _ a0_3 [.int .i64 a0_3] from rfl) (Reps.none _ _))))));intro v317 w14 ho15 hb hg_ hnew_;clear hg_ hnew_;(first|rw [← Ny316.out] at ho15|(simp only [Int.reduceToNat] at ho15;rw [← Ny316.out] at ho15));have HO318:=Aside0.mk (Kd.R_lower ho15 (below_size blA));replace BK315:=kB BK315 hb;replace HB:=lB hb;clear hb ho15;obtain ⟨Ao16,co16,eo16⟩:=Kd.R_slice HO318.out;subst eo16)|((with_reducible refine gd 16 rfl ?_);refine gC (some 16) rfl Try.func88 (impl_within.calls (w:=_) (hr1:=cR (Kd.R_reads' HO318.out).2.2) (hc1:=(Kd.R_reads' HO318.out).2.1) (h:=A2.out)) ?_;rintro _ ⟨nd,rfl⟩))
  go_ret
  exact finA blA
def impl_mark.f (k:Nat) (a0 a1_0 a1_1 a1_2:Int):Option (Int):=(impl_power.f k a0 (wrap64 (6 - a1_2))).bind fun t324=>(some (wrap64 (a1_1*t324)))
theorem impl_mark.mono:∀ a0 a1 a2 a3 k,LeO (impl_mark.f k a0 a1 a2 a3) (impl_mark.f (k+1) a0 a1 a2 a3):=by
 intro a0 a1 a2 a3 k
 unfold impl_mark.f
 repeat' first
   | with_reducible first|exact impl_power.mono ..|exact LeO.refl _|exact LeO.none _|refine LeO.ite ?_ ?_|refine LeO.bind ?_ fun _=>?_
set_option maxHeartbeats 8000000 in
set_option maxRecDepth 100000 in
theorem impl_mark.calls (k:Nat) (a0 a1_0 a1_1 a1_2 r:Int) (w:World) (h:impl_mark.f k a0 a1_0 a1_1 a1_2=some r) :
  Calls Try.prog 90 #[.int .i64 a0,.agg #[.int .i64 a1_0,.int .i64 a1_1,.int .i64 a1_2]] w fun e w'=>e=.returned (.int .i64 r)∧Below w.heap.size w w':=by
 have hu28:=Try.underlying28
 have HB:=Aside0.mk (Below.refl w.heap.size w)
 have H:=h
 unfold impl_mark.f at H
 clear h
 replace H:=bS H
 obtain ⟨t324,A3,H⟩:=H
 try dsimp only at H
 obtain rfl:=Option.some.inj H
 go_enter Try.func90,Try.ntmps90
 go_wp2_with (first|((with_reducible refine gate_dst (N:=3) rfl ?_);refine bxE (cs:=#[.int .i64 a1_0,.int .i64 a1_1,.int .i64 a1_2]) (t:=28) ?_;intro gb323 hg w4 hbox hb;have BK323:=Aside0.mk hbox;have GW323:=sA hg;have GE323:=sA hg;replace HB:=lB hb;clear hb hbox hg;obtain ⟨hcz5_0,hcz5_1,hcz5_2,hfz5_0,hfz5_1,hfz5_2⟩:=cz3 BK323)|(go_at_call 59;(with_reducible refine (impl_power.calls k a0 (wrap64 (6 - a1_2)) t324 _ A3.out).mono ?_);rintro e w' ⟨rfl,⟨nd,rfl⟩⟩;(try exact dd)))
 repeat (go_quiet (first|((with_reducible refine gate_dst (N:=3) rfl ?_);refine bxE (cs:=#[.int .i64 a1_0,.int .i64 a1_1,.int .i64 a1_2]) (t:=28) ?_;intro gb323 hg w4 hbox hb;have BK323:=Aside0.mk hbox;have GW323:=sA hg;have GE323:=sA hg;replace HB:=lB hb;clear hb hbox hg;obtain ⟨hcz5_0,hcz5_1,hcz5_2,hfz5_0,hfz5_1,hfz5_2⟩:=cz3 BK323)|(go_at_call 59;(with_reducible refine (impl_power.calls k a0 (wrap64 (6 - a1_2)) t324 _ A3.out).mono ?_);rintro e w' ⟨rfl,⟨nd,rfl⟩⟩;(try exact dd)));try go_wp2_with (first|((with_reducible refine gate_dst (N:=3) rfl ?_);refine bxE (cs:=#[.int .i64 a1_0,.int .i64 a1_1,.int .i64 a1_2]) (t:=28) ?_;intro gb323 hg w4 hbox hb;have BK323:=Aside0.mk hbox;have GW323:=sA hg;have GE323:=sA hg;replace HB:=lB hb;clear hb hbox hg;obtain ⟨hcz5_0,hcz5_1,hcz5_2,hfz5_0,hfz5_1,hfz5_2⟩:=cz3 BK323)|(go_at_call 59;(with_reducible refine (impl_power.calls k a0 (wrap64 (6 - a1_2)) t324 _ A3.out).mono ?_);rintro e w' ⟨rfl,⟨nd,rfl⟩⟩;(try exact dd))))
 go_ret
 exact finA blA
def impl_ofMark.f (k:Nat) (a0 a1 a2:Int):Option (Int × Int × Int × Bool):=(impl_isLevel.f a1).bind fun t326=>(if t326=true then ((impl_power.f k a0 (wrap64 (a1+6))).bind fun t327=>((impl_mod.f a2 t327).bind fun t328=>((impl_valuation.f k a0 t328).bind fun t329=>((impl_power.f k a0 (wrap64 (6 - (mx (wrap64 (6 - t329)) 0)))).bind fun t330=>(if t330=0 then (none) else (some (a1,wrap64 (Int.tdiv t328 t330),mx (wrap64 (6 - t329)) 0,true))))))) else (some (0,0,0,false)))
theorem impl_ofMark.mono:∀ a0 a1 a2 k,LeO (impl_ofMark.f k a0 a1 a2) (impl_ofMark.f (k+1) a0 a1 a2):=by
 intro a0 a1 a2 k
 unfold impl_ofMark.f
 repeat' first
   | with_reducible first|exact impl_power.mono ..|exact impl_valuation.mono ..|exact LeO.refl _|exact LeO.none _|refine LeO.ite ?_ ?_|refine LeO.bind ?_ fun _=>?_
set_option maxHeartbeats 8000000 in
set_option maxRecDepth 100000 in
theorem impl_ofMark.calls (k:Nat) (a0 a1 a2 r1 r2 r3:Int) (r4:Bool) (w:World) (h:impl_ofMark.f k a0 a1 a2=some (r1,r2,r3,r4)) :
  Calls Try.prog 103 #[.int .i64 a0,.int .i64 a1,.int .i64 a2] w fun e w'=>e=.returned (.tuple #[.agg #[.int .i64 r1,.int .i64 r2,.int .i64 r3],.bool r4])∧Below w.heap.size w w':=by
 have hu28:=Try.underlying28
 have HB:=Aside0.mk (Below.refl w.heap.size w)
 have H:=h
 unfold impl_ofMark.f at H
 clear h
 replace H:=bS H
 obtain ⟨t326,A4,H⟩:=H
 try dsimp only at H
 by_cases c5:t326=true
 focus
  subst c5
  rw [if_pos rfl] at H
  try dsimp only at H
  replace H:=bS H
  obtain ⟨t327,A6,H⟩:=H
  try dsimp only at H
  replace H:=bS H
  obtain ⟨t328,A7,H⟩:=H
  try dsimp only at H
  replace H:=bS H
  obtain ⟨t329,A8,H⟩:=H
  try dsimp only at H
  obtain ⟨ji9,hji9⟩:∃ j_:Int,(mx (wrap64 (6 - t329)) 0)=j_:=⟨_,rfl⟩
  replace H:((impl_power.f k a0 (wrap64 (6 - (ji9)))).bind fun t330=>(if t330=0 then (none) else (some (a1,wrap64 (Int.tdiv t328 t330),ji9,true))))=some (r1,r2,r3,r4):=by first|(rw [hji9] at H;exact H)|(simp only [hji9] at H ⊢;exact H)
  (try rw [hji9] at A4)
  (try rw [hji9] at A6)
  (try rw [hji9] at A7)
  (try rw [hji9] at A8)
  (try (have hji9l:0≤ji9:=by (rw [← hji9];unfold mx;(repeat' split) <;> omega)))
  (try (have hji9m:0≤ji9:=by omega))
  have hji9_:(if (wrap64 (6 - t329))<0 then 0 else (wrap64 (6 - t329)))=ji9:=hji9
  replace H:=bS H
  obtain ⟨t330,A10,H⟩:=H
  try dsimp only at H
  by_cases c11:t330=0
  ·
   rw [if_pos c11] at H
   exact absurd H (by simp)
  rw [if_neg c11] at H
  have c11b0:(t330 == 0)=false:=beq_eq_false_iff_ne.mpr c11
  have c11b1:(t330 != 0)=true:=bne_iff_ne.mpr c11
  simp only [Option.some.injEq,Prod.mk.injEq] at H
  obtain ⟨rfl,rfl,rfl,rfl⟩:=H
 rotate_left
 focus
  replace c5:=Bool.eq_false_iff.mpr c5
  subst c5
  rw [if_neg (show ¬ (false=true) by decide)] at H
  try dsimp only at H
  simp only [Option.some.injEq,Prod.mk.injEq] at H
  obtain ⟨rfl,rfl,rfl,rfl⟩:=H
 rotate_left
 all_goals
  go_enter Try.func103,Try.ntmps103
  go_wp2_with (first|((with_reducible refine gate_dst (N:=6) rfl ?_);refine bxE (cs:=#[.int .i64 0,.int .i64 0,.int .i64 0]) (t:=28) ?_;intro gb325 hg w12 hbox hb;have BK325:=Aside0.mk hbox;have GW325:=sA hg;have GE325:=sA hg;replace HB:=lB hb;clear hb hbox hg)|((with_reducible refine gd 10 rfl ?_);refine gC (some 10) rfl Try.func58 (impl_isLevel.calls (w:=_) (h:=A4.out)) ?_;rintro _ ⟨nd,rfl⟩;(try (rw [drewN_self w12];generalize hq_:World.drewN w12 _=w12;replace BK325:=Aside0.mk (by rw [← hq_];exact (bkA BK325));replace HB:=Aside0.mk (by rw [← hq_];exact blA);clear hq_));obtain ⟨hcz15_0,hcz15_1,hcz15_2,hfz15_0,hfz15_1,hfz15_2⟩:=cz3 BK325)|((with_reducible refine gd 17 rfl ?_);refine gC (some 17) rfl Try.func59 (impl_power.calls (w:=_) (h:=A6.out)) ?_;rintro _ ⟨nd,rfl⟩;(try (rw [drewN_self w12];generalize hq_:World.drewN w12 _=w12;replace BK325:=Aside0.mk (by rw [← hq_];exact (bkA BK325));replace HB:=Aside0.mk (by rw [← hq_];exact blA);clear hq_)))|((with_reducible refine gd 18 rfl ?_);refine gC (some 18) rfl Try.func127 (impl_mod.calls (w:=_) (h:=A7.out)) ?_;rintro _ ⟨nd,rfl⟩;(try (rw [drewN_self w12];generalize hq_:World.drewN w12 _=w12;replace BK325:=Aside0.mk (by rw [← hq_];exact (bkA BK325));replace HB:=Aside0.mk (by rw [← hq_];exact blA);clear hq_)))|((with_reducible refine gd 21 rfl ?_);refine gC (some 21) rfl Try.func91 (impl_valuation.calls (w:=_) (h:=A8.out)) ?_;rintro _ ⟨nd,rfl⟩;(try (rw [drewN_self w12];generalize hq_:World.drewN w12 _=w12;replace BK325:=Aside0.mk (by rw [← hq_];exact (bkA BK325));replace HB:=Aside0.mk (by rw [← hq_];exact blA);clear hq_)))|((with_reducible refine gate_callee (f:=59) rfl ?_);refine goesL_ (some 29) rfl rfl Try.func59 (by kernel_rfl) rfl #[.int .i64 a0,.int .i64 (wrap64 (6 - (ji9)))] rfl (by (try simp only [List.map_toArray,List.map_cons,List.map_nil]);first|done|(simp only [hji9];rfl)|rfl|(simp only [List.length_drop,List.length_take];rfl)) ?_;(with_reducible refine (impl_power.calls k a0 (wrap64 (6 - (ji9))) t330 _ A10.out).mono ?_);rintro e w' ⟨rfl,⟨nd,rfl⟩⟩;refine ⟨_,rfl,?_⟩;(try (rw [drewN_self w12];generalize hq_:World.drewN w12 _=w12;replace BK325:=Aside0.mk (by rw [← hq_];exact (bkA BK325));replace HB:=Aside0.mk (by rw [← hq_];exact blA);clear hq_));obtain ⟨hcz13_0,hcz13_1,hcz13_2,hfz13_0,hfz13_1,hfz13_2⟩:=cz3 BK325))
 ·
  refine bodyPost_ret (results_ct rfl _ _ gb325 28 #[.int .i64 a1,.int .i64 (wrap64 (Int.tdiv t328 t330)),.int .i64 ji9] (0,0) _ rfl (bpA BK325) Try.underlying28 rfl (by kernel_rfl)) rfl ?_
  exact ⟨by first|rfl|(simp [errW_none,errW_some] <;> rfl)|(simp only [← hji9];first|rfl|(simp [errW_none,errW_some] <;> rfl))|(simp [*,errW_none,errW_some] <;> rfl),blA⟩
 ·
  refine bodyPost_ret (results_ct rfl _ _ gb325 28 #[.int .i64 0,.int .i64 0,.int .i64 0] (0,0) _ rfl (bpA BK325) Try.underlying28 rfl (by kernel_rfl)) rfl ?_
  exact finA blA
end Go.Proofs.Ytlpmefmaplhfdaa.PAll
