-- turned out of the kit's print
import Derived.Test.YtabcckoeilegnaaQx
import Derived.Test.YtabcckoeilegnaaQimplmod
namespace Go.Proofs.Ytabcckoeilegnaa.PAll
open Go.RowKit Go.Proofs.YtabcckoeilegnaaW.PrintWords Go.Proofs.YtabcckoeilegnaaW.PrintLast Go.Proofs.YtabcckoeilegnaaW.PrintMore
attribute [local go_sem] Go.Proofs.Ytabcckoeilegnaa.Aux.setCell_drewN Go.Proofs.Ytabcckoeilegnaa.Aux.isSome_setCell max2_int min2_int max_two min_two max_three min_three max_four min_four
set_option linter.unusedVariables false
set_option linter.unusedSimpArgs false
def bits_Mul64.f (a0 a1:Int):Option (Int × Int):=if 0≤a0∧a0<18446744073709551616∧0≤a1∧a1<18446744073709551616 then some (a0*a1 / 18446744073709551616,a0*a1 % 18446744073709551616) else none
theorem bits_Mul64.calls (a0 a1 r1 r2:Int) (w:World) (h:bits_Mul64.f a0 a1=some (r1,r2)) :
  Calls Try.prog 85 #[.int .u64 a0,.int .u64 a1] w fun e w'=>e=.returned (.tuple #[.int .u64 r1,.int .u64 r2])∧Drawn0 w w':=by
 unfold bits_Mul64.f at h
 by_cases c:0≤a0∧a0<18446744073709551616∧0≤a1∧a1<18446744073709551616
 ·
  rw [if_pos c] at h
  obtain ⟨h0,h1,h2,h3⟩:=c
  obtain ⟨x,rfl⟩:=Int.eq_ofNat_of_zero_le h0
  obtain ⟨y,rfl⟩:=Int.eq_ofNat_of_zero_le h2
  simp only [Option.some.injEq,Prod.mk.injEq] at h
  obtain ⟨rfl,rfl⟩:=h
  refine (Try.bits_Mul64 x y (by omega) (by omega) w).mono fun e w' ⟨he,hw⟩=>⟨he.trans ?_,hw ▸ Drawn0.refl _⟩
  simp
 ·
  rw [if_neg c] at h;cases h
def bits_LeadingZeros64.f (a0:Int):Option (Int):=if 0≤a0∧a0≤18446744073709551615 then some (64 - (Lib.bitLen a0.toNat:Int)) else none
theorem bits_LeadingZeros64.calls (a0 r:Int) (w:World) (h:bits_LeadingZeros64.f a0=some r) :
  Calls Try.prog 89 #[.int .u64 a0] w fun e w'=>e=.returned (.int .i64 r)∧Drawn0 w w':=by
 unfold bits_LeadingZeros64.f at h
 by_cases c:0≤a0∧a0≤18446744073709551615
 ·
  rw [if_pos c] at h
  obtain rfl:=Option.some.inj h
  exact (Try.bits_LeadingZeros64 a0 w c.1 c.2).mono fun e w' ⟨he,hw⟩=>⟨he,hw ▸ Drawn0.refl _⟩
 ·
  rw [if_neg c] at h;cases h
def spec_l05Cross.f (a0_0 a0_1 a1_0 a1_1:Int):Option (Int):=some (wrap64 ((wrap64 (a0_0*a1_1)) - (wrap64 (a1_0*a0_1))))
set_option maxHeartbeats 8000000 in
set_option maxRecDepth 100000 in
theorem spec_l05Cross.calls (a0_0 a0_1 a1_0 a1_1 r:Int) (w:World) (h:spec_l05Cross.f a0_0 a0_1 a1_0 a1_1=some r) :
  Calls Try.prog 88 #[.agg #[.int .i64 a0_0,.int .i64 a0_1],.agg #[.int .i64 a1_0,.int .i64 a1_1]] w fun e w'=>e=.returned (.int .i64 r)∧Below w.heap.size w w':=by
 have hu27:=Try.underlying27
 have HB:=Aside0.mk (Below.refl w.heap.size w)
 have H:=h
 unfold spec_l05Cross.f at H
 clear h
 obtain rfl:=Option.some.inj H
 go_enter Try.func88,Try.ntmps88
 go_wp2_with (first|((with_reducible refine gate_dst (N:=2) rfl ?_);refine bxE (cs:=#[.int .i64 a0_0,.int .i64 a0_1]) (t:=27) ?_;intro gb619 hg w3 hbox hb;have BK619:=Aside0.mk hbox;have GW619:=sA hg;have GE619:=sA hg;replace HB:=lB hb;clear hb hbox hg)|((with_reducible refine gate_dst (N:=3) rfl ?_);refine bxE (cs:=#[.int .i64 a1_0,.int .i64 a1_1]) (t:=27) ?_;intro gb620 hg w4 hbox hb;have BK620:=Aside0.mk hbox;have GW620:=sA hg;have GE620:=sA hg;have NB619_620:=nA hg BK619;have NB620_619:=nB hg BK619;replace BK619:=kB BK619 hb;replace HB:=lB hb;clear hb hbox hg;have hnb5:=NB619_620.out;have hnc5:=NB620_619.out;obtain ⟨hcz6_0,hcz6_1,hfz6_0,hfz6_1⟩:=cz2 BK619;obtain ⟨hcz7_0,hcz7_1,hfz7_0,hfz7_1⟩:=cz2 BK620))
 go_ret
 exact finA blA
def impl_fitted.f (a0_0 a0_1 a0_2:Int) (a1:Bool):Option (Int × Int × Int × Int):=if a1=true then (some (a0_0,a0_1,a0_2,0)) else (some (0,0,0,3))
set_option maxHeartbeats 8000000 in
set_option maxRecDepth 100000 in
theorem impl_fitted.calls (a0_0 a0_1 a0_2:Int) (a1:Bool) (r1 r2 r3 r4:Int) (w:World) (h:impl_fitted.f a0_0 a0_1 a0_2 a1=some (r1,r2,r3,r4)) :
  Calls Try.prog 40 #[.agg #[.int .i64 a0_0,.int .i64 a0_1,.int .i64 a0_2],.bool a1] w fun e w'=>e=.returned (.tuple #[.agg #[.int .i64 r1,.int .i64 r2,.int .i64 r3],.int .i64 r4])∧Below w.heap.size w w':=by
 have hu25:=Try.underlying25
 have HB:=Aside0.mk (Below.refl w.heap.size w)
 have H:=h
 unfold impl_fitted.f at H
 clear h
 by_cases c3:a1=true
 ·
  subst c3
  rw [if_pos rfl] at H
  try dsimp only at H
  simp only [Option.some.injEq,Prod.mk.injEq] at H
  obtain ⟨rfl,rfl,rfl,rfl⟩:=H
  go_enter Try.func40,Try.ntmps40
  go_wp2_with (first|((with_reducible refine gate_dst (N:=2) rfl ?_);refine bxE (cs:=#[.int .i64 a0_0,.int .i64 a0_1,.int .i64 a0_2]) (t:=25) ?_;intro gb671 hg w4 hbox hb;have BK671:=Aside0.mk hbox;have GW671:=sA hg;have GE671:=sA hg;replace HB:=lB hb;clear hb hbox hg)|((with_reducible refine gate_dst (N:=4) rfl ?_);refine bxE (cs:=#[.int .i64 0,.int .i64 0,.int .i64 0]) (t:=25) ?_;intro gb672 hg w5 hbox hb;have BK672:=Aside0.mk hbox;have GW672:=sA hg;have GE672:=sA hg;have NB671_672:=nA hg BK671;have NB672_671:=nB hg BK671;replace BK671:=kB BK671 hb;replace HB:=lB hb;clear hb hbox hg;have hnb6:=NB671_672.out;have hnc6:=NB672_671.out;obtain ⟨hcz7_0,hcz7_1,hcz7_2,hfz7_0,hfz7_1,hfz7_2⟩:=cz3 BK671;obtain ⟨hcz8_0,hcz8_1,hcz8_2,hfz8_0,hfz8_1,hfz8_2⟩:=cz3 BK672))
  refine bodyPost_ret (results_ct rfl _ _ gb672 25 #[.int .i64 a0_0,.int .i64 a0_1,.int .i64 a0_2] (0,0) _ rfl (bpA BK672) Try.underlying25 rfl (by kernel_rfl)) rfl ?_
  exact finA blA
 ·
  replace c3:=Bool.eq_false_iff.mpr c3
  subst c3
  rw [if_neg (show ¬ (false=true) by decide)] at H
  try dsimp only at H
  simp only [Option.some.injEq,Prod.mk.injEq] at H
  obtain ⟨rfl,rfl,rfl,rfl⟩:=H
  go_enter Try.func40,Try.ntmps40
  go_wp2_with (first|((with_reducible refine gate_dst (N:=2) rfl ?_);refine bxE (cs:=#[.int .i64 a0_0,.int .i64 a0_1,.int .i64 a0_2]) (t:=25) ?_;intro gb671 hg w9 hbox hb;have BK671:=Aside0.mk hbox;have GW671:=sA hg;have GE671:=sA hg;replace HB:=lB hb;clear hb hbox hg)|((with_reducible refine gate_dst (N:=4) rfl ?_);refine bxE (cs:=#[.int .i64 0,.int .i64 0,.int .i64 0]) (t:=25) ?_;intro gb672 hg w10 hbox hb;have BK672:=Aside0.mk hbox;have GW672:=sA hg;have GE672:=sA hg;have NB671_672:=nA hg BK671;have NB672_671:=nB hg BK671;replace BK671:=kB BK671 hb;replace HB:=lB hb;clear hb hbox hg;have hnb11:=NB672_671.out;have hnc11:=NB671_672.out;obtain ⟨hcz12_0,hcz12_1,hcz12_2,hfz12_0,hfz12_1,hfz12_2⟩:=cz3 BK672))
  refine bodyPost_ret (results_ct rfl _ _ gb672 25 #[.int .i64 0,.int .i64 0,.int .i64 0] (0,0) _ rfl (bpA BK672) Try.underlying25 rfl (by kernel_rfl)) rfl ?_
  exact finA blA
def spec_l01Pick.f (s0_0:List Int) (s0_1 s0_2:Int) (l1:List Int):Option (Int × Int × Int):=(spec_l01Next.f s0_0 s0_1 s0_2 (l1.length:Int)).bind fun bt104=>(if 0≤bt104.1 then (if bt104.1<(l1.length:Int) then (some (rd l1 bt104.1,bt104.2.1,bt104.2.2)) else (none)) else (none))
set_option maxHeartbeats 8000000 in
set_option maxRecDepth 100000 in
theorem spec_l01Pick.calls (g:Nat) (s0_0:List Int) (s0_1 s0_2:Int) (A1:Option Addr) (c1:Nat) (l1:List Int) (r1 r2 r3:Int) (w0 w:World) (hI:IsS74 w0 w g s0_0 s0_1 s0_2) (hB:Below w0.heap.size w0 w) (hr1:Kd.C (Kd.int .i64) w A1 l1.length l1) (hc1:l1.length≤c1) (hf1:∀ ad,A1=some ad→0<l1.length→ad.block≠g) (h:spec_l01Pick.f s0_0 s0_1 s0_2 l1=some (r1,r2,r3)) :
  Calls Try.prog 25 #[.pointer (some ⟨g,0,none⟩),.slice A1 l1.length c1] w fun e w'=>e=.returned (.int .i64 r1)∧IsS74 w0 w' g s0_0 r2 r3∧Below w0.heap.size w0 w'∧KeepBut w w' g none:=by
 have HR1:=Aside0.mk hr1
 have HC1:=Aside0.mk hc1
 clear hr1 hc1
 have HI0:=Aside0.mk hI
 have HK:=Aside0.mk (KeepBut.refl w g none)
 have HL:=Aside0.mk hB.size
 clear hI
 have HW0:=Aside0.mk hB.size
 have HB:=Aside0.mk hB
 clear hB
 have H:=h
 unfold spec_l01Pick.f at H
 clear h
 replace H:=bS H
 obtain ⟨⟨t104,t105,t106⟩,A3,H⟩:=H
 try dsimp only at H
 by_cases c4:0≤t104
 rotate_left
 ·
  rw [if_neg c4] at H
  exact absurd H (by simp)
 rw [if_pos c4] at H
 have c4b0:=decide_eq_true c4
 clear c4
 by_cases c5:t104<(l1.length:Int)
 rotate_left
 ·
  rw [if_neg c5] at H
  exact absurd H (by simp)
 rw [if_pos c5] at H
 have c5b0:=decide_eq_true c5
 clear c5
 simp only [Option.some.injEq,Prod.mk.injEq] at H
 obtain ⟨rfl,rfl,rfl⟩:=H
 go_enter Try.func25,Try.ntmps25
 go_wp2_with (first|((with_reducible refine gd 9 rfl ?_);refine gC (some 9) rfl Try.func50 (spec_l01Next.calls (w:=_) (g:=g) (w0:=w0) (hI:=iA HI0) (hB:=blI) (h:=A3.out)) ?_;rintro w6 ⟨hi,hb,hk⟩;replace HK:=kkA HK hk;replace HB:=Aside0.mk hb;replace HI0:=Aside0.mk hi;clear hi hb hk;have p107:0≤(t104:Int):=dA;have q107:t104<(l1.length:Int):=dA;obtain ⟨ad107,e107,hx107_0⟩:=Kd.at_int HR1.out t104 p107 q107;cases e107;replace hx107_0:=keep_cell HK.out hx107_0 (by first|(rw [add_block];exact hf1 _ rfl (by omega))|exact hf1 _ rfl (by omega)|exact hf1 ad107 rfl (by omega));replace p107:=eq_true p107;replace q107:=eq_true q107))
 go_ret
 exact ⟨eW,iA HI0,blI,kpA⟩
def spec_l01Of.f (k:Nat) (a0 a1 a2 a3:Int):Option (Int × Int × Int × Bool):=(spec_l01In.f a3 (-6) 6).bind fun t138=>(if t138=true then (if a1=0 then (some (a3,0,0,true)) else ((spec_l01Val.f k a0 a1).bind fun t140=>((spec_l01Val.f k a0 a2).bind fun t141=>(if a3≤(wrap64 (t140 - t141)) then (some (a3,0,0,true)) else (if (mx (wrap64 (t141 - t140)) 0)>6 then (some (0,0,0,false)) else ((spec_l01Power.f k a0 (wrap64 (a3+(mx (wrap64 (t141 - t140)) 0)))).bind fun t142=>((spec_l01Power.f k a0 t140).bind fun t143=>(if t143=0 then (none) else ((spec_l01Power.f k a0 t141).bind fun t144=>(if t144=0 then (none) else ((spec_l01InvMod.f k (wrap64 (Int.tdiv a2 t144)) t142).bind fun t145=>((spec_l01MulMod.f (wrap64 (Int.tdiv a1 t143)) t145 t142).bind fun t146=>((spec_l01Power.f k a0 (mx (wrap64 (t140 - t141)) 0)).bind fun t147=>((spec_l01MulMod.f t146 t147 t142).bind fun t148=>(some (a3,t148,mx (wrap64 (t141 - t140)) 0,true)))))))))))))))) else (some (0,0,0,false)))
theorem spec_l01Of.mono:∀ a0 a1 a2 a3 k,LeO (spec_l01Of.f k a0 a1 a2 a3) (spec_l01Of.f (k+1) a0 a1 a2 a3):=by
 intro a0 a1 a2 a3 k
 unfold spec_l01Of.f
 repeat' first
   | with_reducible first|exact spec_l01InvMod.mono ..|exact spec_l01Power.mono ..|exact spec_l01Val.mono ..|exact LeO.refl _|exact LeO.none _|refine LeO.ite ?_ ?_|refine LeO.bind ?_ fun _=>?_
set_option maxHeartbeats 8000000 in
set_option maxRecDepth 100000 in
theorem spec_l01Of.calls (k:Nat) (a0 a1 a2 a3 r1 r2 r3:Int) (r4:Bool) (w:World) (h:spec_l01Of.f k a0 a1 a2 a3=some (r1,r2,r3,r4)) :
  Calls Try.prog 45 #[.int .i64 a0,.int .i64 a1,.int .i64 a2,.int .i64 a3] w fun e w'=>e=.returned (.tuple #[.agg #[.int .i64 r1,.int .i64 r2,.int .i64 r3],.bool r4])∧Below w.heap.size w w':=by
 have hu25:=Try.underlying25
 have HB:=Aside0.mk (Below.refl w.heap.size w)
 have H:=h
 unfold spec_l01Of.f at H
 clear h
 replace H:=bS H
 obtain ⟨t138,A5,H⟩:=H
 try dsimp only at H
 by_cases c6:t138=true
 ·
  subst c6
  rw [if_pos rfl] at H
  try dsimp only at H
  by_cases c7:a1=0
  ·
   rw [if_pos c7] at H
   have c7b0:(a1 == 0)=true:=beq_iff_eq.mpr c7
   have c7b1:(a1 != 0)=false:=bne_eq_false_iff_eq.mpr c7
   clear c7
   simp only [Option.some.injEq,Prod.mk.injEq] at H
   obtain ⟨rfl,rfl,rfl,rfl⟩:=H
   go_enter Try.func45,Try.ntmps45
   go_wp2_with (first|((with_reducible refine gate_dst (N:=8) rfl ?_);refine bxE (cs:=#[.int .i64 0,.int .i64 0,.int .i64 0]) (t:=25) ?_;intro gb137 hg w8 hbox hb;have BK137:=Aside0.mk hbox;have GW137:=sA hg;have GE137:=sA hg;replace HB:=lB hb;clear hb hbox hg)|((with_reducible refine gd 15 rfl ?_);refine gC (some 15) rfl Try.func32 (spec_l01In.calls (w:=_) (h:=A5.out)) ?_;rintro _ ⟨nd,rfl⟩;(try (rw [drewN_self w8];generalize hq_:World.drewN w8 _=w8;replace BK137:=Aside0.mk (by rw [← hq_];exact (bkA BK137));replace HB:=Aside0.mk (by rw [← hq_];exact blA);clear hq_)))|((with_reducible refine gate_dst (N:=10) rfl ?_);refine bxE (cs:=#[.int .i64 0,.int .i64 0,.int .i64 0]) (t:=25) ?_;intro gb139 hg w9 hbox hb;have BK139:=Aside0.mk hbox;have GW139:=sA hg;have GE139:=sA hg;have NB137_139:=nA hg BK137;have NB139_137:=nB hg BK137;replace BK137:=kB BK137 hb;replace HB:=lB hb;clear hb hbox hg;have hnb10:=NB139_137.out;have hnc10:=NB137_139.out;obtain ⟨hcz11_0,hcz11_1,hcz11_2,hfz11_0,hfz11_1,hfz11_2⟩:=cz3 BK139;obtain ⟨hcz12_0,hcz12_1,hcz12_2,hfz12_0,hfz12_1,hfz12_2⟩:=cz3 BK137))
   refine bodyPost_ret (results_ct rfl _ _ gb137 25 #[.int .i64 a3,.int .i64 0,.int .i64 0] (0,0) _ rfl (bpA BK137) Try.underlying25 rfl (by kernel_rfl)) rfl ?_
   exact finA blA
  ·
   rw [if_neg c7] at H
   have c7b0:(a1 == 0)=false:=beq_eq_false_iff_ne.mpr c7
   have c7b1:(a1 != 0)=true:=bne_iff_ne.mpr c7
   replace H:=bS H
   obtain ⟨t140,A13,H⟩:=H
   try dsimp only at H
   replace H:=bS H
   obtain ⟨t141,A14,H⟩:=H
   try dsimp only at H
   by_cases c15:a3≤(wrap64 (t140 - t141))
   ·
    rw [if_pos c15] at H
    have c15b0:=decide_eq_true c15
    clear c15
    simp only [Option.some.injEq,Prod.mk.injEq] at H
    obtain ⟨rfl,rfl,rfl,rfl⟩:=H
    go_enter Try.func45,Try.ntmps45
    go_wp2_with (first|((with_reducible refine gate_dst (N:=8) rfl ?_);refine bxE (cs:=#[.int .i64 0,.int .i64 0,.int .i64 0]) (t:=25) ?_;intro gb137 hg w16 hbox hb;have BK137:=Aside0.mk hbox;have GW137:=sA hg;have GE137:=sA hg;replace HB:=lB hb;clear hb hbox hg)|((with_reducible refine gd 15 rfl ?_);refine gC (some 15) rfl Try.func32 (spec_l01In.calls (w:=_) (h:=A5.out)) ?_;rintro _ ⟨nd,rfl⟩;(try (rw [drewN_self w16];generalize hq_:World.drewN w16 _=w16;replace BK137:=Aside0.mk (by rw [← hq_];exact (bkA BK137));replace HB:=Aside0.mk (by rw [← hq_];exact blA);clear hq_)))|((with_reducible refine gate_dst (N:=10) rfl ?_);refine bxE (cs:=#[.int .i64 0,.int .i64 0,.int .i64 0]) (t:=25) ?_;intro gb139 hg w17 hbox hb;have BK139:=Aside0.mk hbox;have GW139:=sA hg;have GE139:=sA hg;have NB137_139:=nA hg BK137;have NB139_137:=nB hg BK137;replace BK137:=kB BK137 hb;replace HB:=lB hb;clear hb hbox hg;have hnb18:=NB139_137.out;have hnc18:=NB137_139.out;obtain ⟨hcz19_0,hcz19_1,hcz19_2,hfz19_0,hfz19_1,hfz19_2⟩:=cz3 BK139)|((with_reducible refine gd 25 rfl ?_);refine gC (some 25) rfl Try.func79 (spec_l01Val.calls (w:=_) (h:=A13.out)) ?_;rintro _ ⟨nd,rfl⟩)|((with_reducible refine gd 28 rfl ?_);refine gC (some 28) rfl Try.func79 (spec_l01Val.calls (w:=_) (h:=A14.out)) ?_;rintro _ ⟨nd,rfl⟩;obtain ⟨hcz20_0,hcz20_1,hcz20_2,hfz20_0,hfz20_1,hfz20_2⟩:=cz3 BK137))
    refine bodyPost_ret (results_ct rfl _ _ gb137 25 #[.int .i64 a3,.int .i64 0,.int .i64 0] (0,0) _ rfl (bpA BK137) Try.underlying25 rfl (by kernel_rfl)) rfl ?_
    exact finA blA
   ·
    rw [if_neg c15] at H
    have c15b0:=decide_eq_false c15
    clear c15
    obtain ⟨ji21,hji21⟩:∃ j_:Int,(mx (wrap64 (t141 - t140)) 0)=j_:=⟨_,rfl⟩
    replace H:(if (ji21)>6 then (some (0,0,0,false)) else ((spec_l01Power.f k a0 (wrap64 (a3+(ji21)))).bind fun t142=>((spec_l01Power.f k a0 t140).bind fun t143=>(if t143=0 then (none) else ((spec_l01Power.f k a0 t141).bind fun t144=>(if t144=0 then (none) else ((spec_l01InvMod.f k (wrap64 (Int.tdiv a2 t144)) t142).bind fun t145=>((spec_l01MulMod.f (wrap64 (Int.tdiv a1 t143)) t145 t142).bind fun t146=>((spec_l01Power.f k a0 (mx (wrap64 (t140 - t141)) 0)).bind fun t147=>((spec_l01MulMod.f t146 t147 t142).bind fun t148=>(some (a3,t148,ji21,true))))))))))))=some (r1,r2,r3,r4):=by first|(rw [hji21] at H;exact H)|(simp only [hji21] at H ⊢;exact H)
    (try rw [hji21] at A5)
    (try rw [hji21] at A13)
    (try rw [hji21] at A14)
    (try (have hji21l:0≤ji21:=by (rw [← hji21];unfold mx;(repeat' split) <;> omega)))
    (try (have hji21m:0≤ji21:=by omega))
    have hji21_:(if (wrap64 (t141 - t140))<0 then 0 else (wrap64 (t141 - t140)))=ji21:=hji21
    by_cases c22:(ji21)>6
    focus
     rw [if_pos c22] at H
     have c22b0:decide (6<(ji21))=true:=decide_eq_true c22
     clear c22
     simp only [Option.some.injEq,Prod.mk.injEq] at H
     obtain ⟨rfl,rfl,rfl,rfl⟩:=H
    rotate_left
    focus
     rw [if_neg c22] at H
     have c22b0:decide (6<(ji21))=false:=decide_eq_false c22
     clear c22
     replace H:=bS H
     obtain ⟨t142,A28,H⟩:=H
     try dsimp only at H
     replace H:=bS H
     obtain ⟨t143,A29,H⟩:=H
     try dsimp only at H
     by_cases c30:t143=0
     ·
      rw [if_pos c30] at H
      exact absurd H (by simp)
     rw [if_neg c30] at H
     have c30b0:(t143 == 0)=false:=beq_eq_false_iff_ne.mpr c30
     have c30b1:(t143 != 0)=true:=bne_iff_ne.mpr c30
     replace H:=bS H
     obtain ⟨t144,A31,H⟩:=H
     try dsimp only at H
     by_cases c32:t144=0
     ·
      rw [if_pos c32] at H
      exact absurd H (by simp)
     rw [if_neg c32] at H
     have c32b0:(t144 == 0)=false:=beq_eq_false_iff_ne.mpr c32
     have c32b1:(t144 != 0)=true:=bne_iff_ne.mpr c32
     replace H:=bS H
     obtain ⟨t145,A33,H⟩:=H
     try dsimp only at H
     replace H:=bS H
     obtain ⟨t146,A34,H⟩:=H
     try dsimp only at H
     obtain ⟨ji35,hji35⟩:∃ j_:Int,(mx (wrap64 (t140 - t141)) 0)=j_:=⟨_,rfl⟩
     replace H:((spec_l01Power.f k a0 (ji35)).bind fun t147=>((spec_l01MulMod.f t146 t147 t142).bind fun t148=>(some (a3,t148,ji21,true))))=some (r1,r2,r3,r4):=by first|(rw [hji35] at H;exact H)|(simp only [hji35] at H ⊢;exact H)
     (try rw [hji35] at A5)
     (try rw [hji35] at A13)
     (try rw [hji35] at A14)
     (try rw [hji35] at A28)
     (try rw [hji35] at A29)
     (try rw [hji35] at A31)
     (try rw [hji35] at A33)
     (try rw [hji35] at A34)
     (try (have hji35l:0≤ji35:=by (rw [← hji35];unfold mx;(repeat' split) <;> omega)))
     (try (have hji35m:0≤ji35:=by omega))
     have hji35_:(if (wrap64 (t140 - t141))<0 then 0 else (wrap64 (t140 - t141)))=ji35:=hji35
     replace H:=bS H
     obtain ⟨t147,A36,H⟩:=H
     try dsimp only at H
     replace H:=bS H
     obtain ⟨t148,A37,H⟩:=H
     try dsimp only at H
     simp only [Option.some.injEq,Prod.mk.injEq] at H
     obtain ⟨rfl,rfl,rfl,rfl⟩:=H
    rotate_left
    all_goals
     go_enter Try.func45,Try.ntmps45
     go_wp2_with (first|((with_reducible refine gate_dst (N:=8) rfl ?_);refine bxE (cs:=#[.int .i64 0,.int .i64 0,.int .i64 0]) (t:=25) ?_;intro gb137 hg w23 hbox hb;have BK137:=Aside0.mk hbox;have GW137:=sA hg;have GE137:=sA hg;replace HB:=lB hb;clear hb hbox hg)|((with_reducible refine gd 15 rfl ?_);refine gC (some 15) rfl Try.func32 (spec_l01In.calls (w:=_) (h:=A5.out)) ?_;rintro _ ⟨nd,rfl⟩;(try (rw [drewN_self w23];generalize hq_:World.drewN w23 _=w23;replace BK137:=Aside0.mk (by rw [← hq_];exact (bkA BK137));replace HB:=Aside0.mk (by rw [← hq_];exact blA);clear hq_)))|((with_reducible refine gate_dst (N:=10) rfl ?_);refine bxE (cs:=#[.int .i64 0,.int .i64 0,.int .i64 0]) (t:=25) ?_;intro gb139 hg w24 hbox hb;have BK139:=Aside0.mk hbox;have GW139:=sA hg;have GE139:=sA hg;have NB137_139:=nA hg BK137;have NB139_137:=nB hg BK137;replace BK137:=kB BK137 hb;replace HB:=lB hb;clear hb hbox hg;have hnb25:=NB139_137.out;have hnc25:=NB137_139.out;obtain ⟨hcz26_0,hcz26_1,hcz26_2,hfz26_0,hfz26_1,hfz26_2⟩:=cz3 BK139)|((with_reducible refine gd 25 rfl ?_);refine gC (some 25) rfl Try.func79 (spec_l01Val.calls (w:=_) (h:=A13.out)) ?_;rintro _ ⟨nd,rfl⟩)|((with_reducible refine gd 28 rfl ?_);refine gC (some 28) rfl Try.func79 (spec_l01Val.calls (w:=_) (h:=A14.out)) ?_;rintro _ ⟨nd,rfl⟩;obtain ⟨hcz27_0,hcz27_1,hcz27_2,hfz27_0,hfz27_1,hfz27_2⟩:=cz3 BK137)|((with_reducible refine gate_callee (f:=53) rfl ?_);refine goesL_ (some 49) rfl rfl Try.func53 (by kernel_rfl) rfl #[.int .i64 a0,.int .i64 (wrap64 (a3+(ji21)))] rfl (by (try simp only [List.map_toArray,List.map_cons,List.map_nil]);first|done|(simp only [hji21];rfl)|rfl|(simp only [List.length_drop,List.length_take];rfl)) ?_;(with_reducible refine (spec_l01Power.calls k a0 (wrap64 (a3+(ji21))) t142 _ A28.out).mono ?_);rintro e w' ⟨rfl,⟨nd,rfl⟩⟩;refine ⟨_,rfl,?_⟩)|((with_reducible refine gd 53 rfl ?_);refine gC (some 53) rfl Try.func53 (spec_l01Power.calls (w:=_) (h:=A29.out)) ?_;rintro _ ⟨nd,rfl⟩)|((with_reducible refine gd 58 rfl ?_);refine gC (some 58) rfl Try.func53 (spec_l01Power.calls (w:=_) (h:=A31.out)) ?_;rintro _ ⟨nd,rfl⟩)|((with_reducible refine gd 63 rfl ?_);refine gC (some 63) rfl Try.func81 (spec_l01InvMod.calls (w:=_) (h:=A33.out)) ?_;rintro _ ⟨nd,rfl⟩)|((with_reducible refine gd 65 rfl ?_);refine gC (some 65) rfl Try.func80 (spec_l01MulMod.calls (w:=_) (h:=A34.out)) ?_;rintro _ ⟨nd,rfl⟩)|((with_reducible refine gate_callee (f:=53) rfl ?_);refine goesL_ (some 71) rfl rfl Try.func53 (by kernel_rfl) rfl #[.int .i64 a0,.int .i64 ji35] rfl (by (try simp only [List.map_toArray,List.map_cons,List.map_nil]);first|done|(simp only [hji35];rfl)|rfl|(simp only [List.length_drop,List.length_take];rfl)) ?_;(with_reducible refine (spec_l01Power.calls k a0 ji35 t147 _ A36.out).mono ?_);rintro e w' ⟨rfl,⟨nd,rfl⟩⟩;refine ⟨_,rfl,?_⟩)|((with_reducible refine gd 73 rfl ?_);refine gC (some 73) rfl Try.func80 (spec_l01MulMod.calls (w:=_) (h:=A37.out)) ?_;rintro _ ⟨nd,rfl⟩;obtain ⟨hcz42_0,hcz42_1,hcz42_2,hfz42_0,hfz42_1,hfz42_2⟩:=cz3 BK137))
    ·
     refine bodyPost_ret (results_ct rfl _ _ gb137 25 #[.int .i64 0,.int .i64 0,.int .i64 0] (0,0) _ rfl (bpA BK137) Try.underlying25 rfl (by kernel_rfl)) rfl ?_
     exact ⟨by first|rfl|(simp [errW_none,errW_some] <;> rfl)|(simp only [← hji21];first|rfl|(simp [errW_none,errW_some] <;> rfl))|(simp [*,errW_none,errW_some] <;> rfl),blA⟩
    ·
     refine bodyPost_ret (results_ct rfl _ _ gb137 25 #[.int .i64 a3,.int .i64 t148,.int .i64 ji21] (0,0) _ rfl (bpA BK137) Try.underlying25 rfl (by kernel_rfl)) rfl ?_
     exact ⟨by first|rfl|(simp [errW_none,errW_some] <;> rfl)|(simp only [← hji21,← hji35];first|rfl|(simp [errW_none,errW_some] <;> rfl))|(simp [*,errW_none,errW_some] <;> rfl),blA⟩
 ·
  replace c6:=Bool.eq_false_iff.mpr c6
  subst c6
  rw [if_neg (show ¬ (false=true) by decide)] at H
  try dsimp only at H
  simp only [Option.some.injEq,Prod.mk.injEq] at H
  obtain ⟨rfl,rfl,rfl,rfl⟩:=H
  go_enter Try.func45,Try.ntmps45
  go_wp2_with (first|((with_reducible refine gate_dst (N:=8) rfl ?_);refine bxE (cs:=#[.int .i64 0,.int .i64 0,.int .i64 0]) (t:=25) ?_;intro gb137 hg w43 hbox hb;have BK137:=Aside0.mk hbox;have GW137:=sA hg;have GE137:=sA hg;replace HB:=lB hb;clear hb hbox hg)|((with_reducible refine gd 15 rfl ?_);refine gC (some 15) rfl Try.func32 (spec_l01In.calls (w:=_) (h:=A5.out)) ?_;rintro _ ⟨nd,rfl⟩;(try (rw [drewN_self w43];generalize hq_:World.drewN w43 _=w43;replace BK137:=Aside0.mk (by rw [← hq_];exact (bkA BK137));replace HB:=Aside0.mk (by rw [← hq_];exact blA);clear hq_));obtain ⟨hcz44_0,hcz44_1,hcz44_2,hfz44_0,hfz44_1,hfz44_2⟩:=cz3 BK137))
  refine bodyPost_ret (results_ct rfl _ _ gb137 25 #[.int .i64 0,.int .i64 0,.int .i64 0] (0,0) _ rfl (bpA BK137) Try.underlying25 rfl (by kernel_rfl)) rfl ?_
  exact finA blA
def spec_l01Is.j0:Nat→Int→Bool→Int→Int→Int→Option (Bool)
 | 0,_,_,_,_,_=>none
 | k+1,x0,x20,x214000,x214001,x214002=>if x20=true then (some false) else (if (wrap64 (x214000+x214002))≤0 then (if x214001=0 then (some (x214002 == 0)) else (some false)) else ((spec_l01Power.f k x0 (wrap64 (x214000+x214002))).bind fun t217=>((spec_l01In.f x214001 0 (wrap64 (t217 - 1))).bind fun t218=>(if t218=true then (if x214002=0 then (some true) else (if x0=0 then (none) else (some ((Int.tmod x214001 x0) != 0)))) else (some false)))))
def spec_l01Is.f (k:Nat) (a0 a1_0 a1_1 a1_2:Int):Option (Bool):=(spec_l01Prime.f a0).bind fun t214=>(if t214=true then ((spec_l01In.f a1_0 (-6) 6).bind fun t215=>(if t215=true then ((spec_l01In.f a1_2 0 6).bind fun t216=>(spec_l01Is.j0 k a0 (!t216) a1_0 a1_1 a1_2)) else (spec_l01Is.j0 k a0 true a1_0 a1_1 a1_2))) else (spec_l01Is.j0 k a0 true a1_0 a1_1 a1_2))
theorem spec_l01Is.mono_l:∀ k,(∀ y0 y1 y2 y3 y4,LeO (spec_l01Is.j0 k y0 y1 y2 y3 y4) (spec_l01Is.j0 (k+1) y0 y1 y2 y3 y4))
 | 0=>fun _ _ _ _ _ r h=>by simp [spec_l01Is.j0] at h
 | k+1=>by
  have ih0:=spec_l01Is.mono_l k
  ·
   intro y0 y1 y2 y3 y4
   unfold spec_l01Is.j0
   repeat' first
   | with_reducible first|exact ih0 ..|exact spec_l01Power.mono ..|exact LeO.refl _|exact LeO.none _|refine LeO.ite ?_ ?_|refine LeO.bind ?_ fun _=>?_
theorem spec_l01Is.mono:∀ a0 a1 a2 a3 k,LeO (spec_l01Is.f k a0 a1 a2 a3) (spec_l01Is.f (k+1) a0 a1 a2 a3):=by
 intro a0 a1 a2 a3 k
 have ih0:=spec_l01Is.mono_l k
 unfold spec_l01Is.f
 repeat' first
   | with_reducible first|exact ih0 ..|exact spec_l01Power.mono ..|exact LeO.refl _|exact LeO.none _|refine LeO.ite ?_ ?_|refine LeO.bind ?_ fun _=>?_
set_option maxHeartbeats 8000000 in
set_option maxRecDepth 100000 in
theorem spec_l01Is.calls (k:Nat) (a0 a1_0 a1_1 a1_2:Int) (r:Bool) (w:World) (h:spec_l01Is.f k a0 a1_0 a1_1 a1_2=some r) :
  Calls Try.prog 51 #[.int .i64 a0,.agg #[.int .i64 a1_0,.int .i64 a1_1,.int .i64 a1_2]] w fun e w'=>e=.returned (.bool r)∧Below w.heap.size w w':=by
 have hu25:=Try.underlying25
 have HB:=Aside0.mk (Below.refl w.heap.size w)
 have H:=h
 unfold spec_l01Is.f at H
 clear h
 have HC3:=Aside0.mk H
 clear H
 go_enter Try.func51,Try.ntmps51
 go_upto_region 1 with (first|((with_reducible refine gate_dst (N:=3) rfl ?_);refine bxE (cs:=#[.int .i64 a1_0,.int .i64 a1_1,.int .i64 a1_2]) (t:=25) ?_;intro gb213 hg w4 hbox hb;have BK213:=Aside0.mk hbox;have GW213:=sA hg;have GE213:=sA hg;replace HB:=lB hb;clear hb hbox hg))
 repeat (go_quiet (first|((with_reducible refine gate_dst (N:=3) rfl ?_);refine bxE (cs:=#[.int .i64 a1_0,.int .i64 a1_1,.int .i64 a1_2]) (t:=25) ?_;intro gb213 hg w4 hbox hb;have BK213:=Aside0.mk hbox;have GW213:=sA hg;have GE213:=sA hg;replace HB:=lB hb;clear hb hbox hg));go_upto_region 1 with (first|((with_reducible refine gate_dst (N:=3) rfl ?_);refine bxE (cs:=#[.int .i64 a1_0,.int .i64 a1_1,.int .i64 a1_2]) (t:=25) ?_;intro gb213 hg w4 hbox hb;have BK213:=Aside0.mk hbox;have GW213:=sA hg;have GE213:=sA hg;replace HB:=lB hb;clear hb hbox hg)))
 (try simp only [Act.put,List.setIfInBounds_toArray,List.set_cons_zero,List.set_cons_succ])
 go_cut [20] (fun v20 wc=>∃ (kq:Nat) (x20_2:Bool),v20=.bool x20_2∧Aside0 (spec_l01Is.j0 kq a0 x20_2 a1_0 a1_1 a1_2=some r)∧Aside0 (kq≤k)∧Aside0 (wc.heap[gb213]?=some (.cells #[.int .i64 a1_0,.int .i64 a1_1,.int .i64 a1_2] 25 (0,0)))∧Aside0 (Below w.heap.size w wc))
 case first=>
  have H:=HC3.out
  clear HC3
  replace H:=bS H
  obtain ⟨t214,A5,H⟩:=H
  try dsimp only at H
  by_cases c6:t214=true
  ·
   subst c6
   rw [if_pos rfl] at H
   try dsimp only at H
   replace H:=bS H
   obtain ⟨t215,A7,H⟩:=H
   try dsimp only at H
   by_cases c8:t215=true
   ·
    subst c8
    rw [if_pos rfl] at H
    try dsimp only at H
    replace H:=bS H
    obtain ⟨t216,A9,H⟩:=H
    try dsimp only at H
    have H':=Aside0.mk H
    clear H
    go_wp2_with (first|(go_at_call 82;(with_reducible refine (spec_l01Prime.calls a0 true _ A5.out).mono ?_);rintro e w' ⟨rfl,⟨nd,rfl⟩⟩;(try exact dd);obtain ⟨hcz10_0,hcz10_1,hcz10_2,hfz10_0,hfz10_1,hfz10_2⟩:=cz3 BK213)|(go_at_call 32;(with_reducible refine (spec_l01In.calls a1_0 (-6) 6 true _ A7.out).mono ?_);rintro e w' ⟨rfl,⟨nd,rfl⟩⟩;(try exact dd))|(go_at_call 32;(with_reducible refine (spec_l01In.calls a1_2 0 6 t216 _ A9.out).mono ?_);rintro e w' ⟨rfl,⟨nd,rfl⟩⟩;(try exact dd)))
    repeat (go_quiet (first|(go_at_call 82;(with_reducible refine (spec_l01Prime.calls a0 true _ A5.out).mono ?_);rintro e w' ⟨rfl,⟨nd,rfl⟩⟩;(try exact dd);obtain ⟨hcz10_0,hcz10_1,hcz10_2,hfz10_0,hfz10_1,hfz10_2⟩:=cz3 BK213)|(go_at_call 32;(with_reducible refine (spec_l01In.calls a1_0 (-6) 6 true _ A7.out).mono ?_);rintro e w' ⟨rfl,⟨nd,rfl⟩⟩;(try exact dd))|(go_at_call 32;(with_reducible refine (spec_l01In.calls a1_2 0 6 t216 _ A9.out).mono ?_);rintro e w' ⟨rfl,⟨nd,rfl⟩⟩;(try exact dd)));try go_wp2_with (first|(go_at_call 82;(with_reducible refine (spec_l01Prime.calls a0 true _ A5.out).mono ?_);rintro e w' ⟨rfl,⟨nd,rfl⟩⟩;(try exact dd);obtain ⟨hcz10_0,hcz10_1,hcz10_2,hfz10_0,hfz10_1,hfz10_2⟩:=cz3 BK213)|(go_at_call 32;(with_reducible refine (spec_l01In.calls a1_0 (-6) 6 true _ A7.out).mono ?_);rintro e w' ⟨rfl,⟨nd,rfl⟩⟩;(try exact dd))|(go_at_call 32;(with_reducible refine (spec_l01In.calls a1_2 0 6 t216 _ A9.out).mono ?_);rintro e w' ⟨rfl,⟨nd,rfl⟩⟩;(try exact dd))))
    go_meet
    case rel=>exact ⟨_,(!t216),hB,H',⟨by first|omega|exact Nat.le_refl _⟩,⟨bkA BK213⟩,⟨blA⟩⟩
   ·
    replace c8:=Bool.eq_false_iff.mpr c8
    subst c8
    rw [if_neg (show ¬ (false=true) by decide)] at H
    try dsimp only at H
    have H':=Aside0.mk H
    clear H
    go_wp2_with (first|(go_at_call 82;(with_reducible refine (spec_l01Prime.calls a0 true _ A5.out).mono ?_);rintro e w' ⟨rfl,⟨nd,rfl⟩⟩;(try exact dd);obtain ⟨hcz11_0,hcz11_1,hcz11_2,hfz11_0,hfz11_1,hfz11_2⟩:=cz3 BK213)|(go_at_call 32;(with_reducible refine (spec_l01In.calls a1_0 (-6) 6 false _ A7.out).mono ?_);rintro e w' ⟨rfl,⟨nd,rfl⟩⟩;(try exact dd)))
    repeat (go_quiet (first|(go_at_call 82;(with_reducible refine (spec_l01Prime.calls a0 true _ A5.out).mono ?_);rintro e w' ⟨rfl,⟨nd,rfl⟩⟩;(try exact dd);obtain ⟨hcz11_0,hcz11_1,hcz11_2,hfz11_0,hfz11_1,hfz11_2⟩:=cz3 BK213)|(go_at_call 32;(with_reducible refine (spec_l01In.calls a1_0 (-6) 6 false _ A7.out).mono ?_);rintro e w' ⟨rfl,⟨nd,rfl⟩⟩;(try exact dd)));try go_wp2_with (first|(go_at_call 82;(with_reducible refine (spec_l01Prime.calls a0 true _ A5.out).mono ?_);rintro e w' ⟨rfl,⟨nd,rfl⟩⟩;(try exact dd);obtain ⟨hcz11_0,hcz11_1,hcz11_2,hfz11_0,hfz11_1,hfz11_2⟩:=cz3 BK213)|(go_at_call 32;(with_reducible refine (spec_l01In.calls a1_0 (-6) 6 false _ A7.out).mono ?_);rintro e w' ⟨rfl,⟨nd,rfl⟩⟩;(try exact dd))))
    go_meet
    case rel=>exact ⟨_,(true),hB,H',⟨by first|omega|exact Nat.le_refl _⟩,⟨bkA BK213⟩,⟨blA⟩⟩
  ·
   replace c6:=Bool.eq_false_iff.mpr c6
   subst c6
   rw [if_neg (show ¬ (false=true) by decide)] at H
   try dsimp only at H
   have H':=Aside0.mk H
   clear H
   go_wp2_with (first|(go_at_call 82;(with_reducible refine (spec_l01Prime.calls a0 false _ A5.out).mono ?_);rintro e w' ⟨rfl,⟨nd,rfl⟩⟩;(try exact dd)))
   repeat (go_quiet (first|(go_at_call 82;(with_reducible refine (spec_l01Prime.calls a0 false _ A5.out).mono ?_);rintro e w' ⟨rfl,⟨nd,rfl⟩⟩;(try exact dd)));try go_wp2_with (first|(go_at_call 82;(with_reducible refine (spec_l01Prime.calls a0 false _ A5.out).mono ?_);rintro e w' ⟨rfl,⟨nd,rfl⟩⟩;(try exact dd))))
   go_meet
   case rel=>exact ⟨_,(true),hB,H',⟨by first|omega|exact Nat.le_refl _⟩,⟨bkA BK213⟩,⟨blA⟩⟩
 case rest=>
  clear HC3
  try clear c6
  try clear c8
  try clear hcz10_0
  try clear hcz10_1
  try clear hcz10_2
  try clear hcz11_0
  try clear hcz11_1
  try clear hcz11_2
  try clear hfz10_0
  try clear hfz10_1
  try clear hfz10_2
  try clear hfz11_0
  try clear hfz11_1
  try clear hfz11_2
  obtain ⟨kq,x20_2,rfl,HA,HJ2,BK213,HB⟩:=hcut
  cases kq with
  | zero=>exact absurd HA.out (by simp [spec_l01Is.j0])
  | succ kj2=>
   have H:=HA.out
   clear HA
   simp only [spec_l01Is.j0] at H
   by_cases c12:x20_2=true
   ·
    subst c12
    rw [if_pos rfl] at H
    try dsimp only at H
    obtain rfl:=Option.some.inj H
    go_wp2
    repeat (go_quiet (fail);try go_wp2)
    go_ret
    exact finA blA
   ·
    replace c12:=Bool.eq_false_iff.mpr c12
    subst c12
    rw [if_neg (show ¬ (false=true) by decide)] at H
    try dsimp only at H
    by_cases c13:(wrap64 (a1_0+a1_2))≤0
    ·
     rw [if_pos c13] at H
     have c13b0:=decide_eq_true c13
     clear c13
     by_cases c14:a1_1=0
     ·
      rw [if_pos c14] at H
      have c14b0:(a1_1 == 0)=true:=beq_iff_eq.mpr c14
      have c14b1:(a1_1 != 0)=false:=bne_eq_false_iff_eq.mpr c14
      clear c14
      obtain rfl:=Option.some.inj H
      obtain ⟨hcz15_0,hcz15_1,hcz15_2,hfz15_0,hfz15_1,hfz15_2⟩:=cz3 BK213
      go_wp2
      repeat (go_quiet (fail);try go_wp2)
      go_ret
      exact finA blA
     ·
      rw [if_neg c14] at H
      have c14b0:(a1_1 == 0)=false:=beq_eq_false_iff_ne.mpr c14
      have c14b1:(a1_1 != 0)=true:=bne_iff_ne.mpr c14
      obtain rfl:=Option.some.inj H
      obtain ⟨hcz16_0,hcz16_1,hcz16_2,hfz16_0,hfz16_1,hfz16_2⟩:=cz3 BK213
      go_wp2
      repeat (go_quiet (fail);try go_wp2)
      go_ret
      exact finA blA
    ·
     rw [if_neg c13] at H
     have c13b0:=decide_eq_false c13
     clear c13
     replace H:=bS H
     obtain ⟨t217,A17,H⟩:=H
     try dsimp only at H
     replace H:=bS H
     obtain ⟨t218,A18,H⟩:=H
     try dsimp only at H
     by_cases c19:t218=true
     ·
      subst c19
      rw [if_pos rfl] at H
      try dsimp only at H
      by_cases c20:a1_2=0
      focus
       rw [if_pos c20] at H
       have c20b0:(a1_2 == 0)=true:=beq_iff_eq.mpr c20
       have c20b1:(a1_2 != 0)=false:=bne_eq_false_iff_eq.mpr c20
       clear c20
       obtain rfl:=Option.some.inj H
       obtain ⟨hcz21_0,hcz21_1,hcz21_2,hfz21_0,hfz21_1,hfz21_2⟩:=cz3 BK213
      rotate_left
      focus
       rw [if_neg c20] at H
       have c20b0:(a1_2 == 0)=false:=beq_eq_false_iff_ne.mpr c20
       have c20b1:(a1_2 != 0)=true:=bne_iff_ne.mpr c20
       by_cases c22:a0=0
       ·
        rw [if_pos c22] at H
        exact absurd H (by simp)
       rw [if_neg c22] at H
       have c22b0:(a0 == 0)=false:=beq_eq_false_iff_ne.mpr c22
       have c22b1:(a0 != 0)=true:=bne_iff_ne.mpr c22
       obtain rfl:=Option.some.inj H
       obtain ⟨hcz23_0,hcz23_1,hcz23_2,hfz23_0,hfz23_1,hfz23_2⟩:=cz3 BK213
      rotate_left
      all_goals
       go_wp2_with (first|(go_at_call 53;(with_reducible refine (spec_l01Power.calls kj2 a0 (wrap64 (a1_0+a1_2)) t217 _ A17.out).mono ?_);rintro e w' ⟨rfl,⟨nd,rfl⟩⟩;(try exact dd))|(go_at_call 32;(with_reducible refine (spec_l01In.calls a1_1 0 (wrap64 (t217 - 1)) true _ A18.out).mono ?_);rintro e w' ⟨rfl,⟨nd,rfl⟩⟩;(try exact dd)))
       repeat (go_quiet (first|(go_at_call 53;(with_reducible refine (spec_l01Power.calls kj2 a0 (wrap64 (a1_0+a1_2)) t217 _ A17.out).mono ?_);rintro e w' ⟨rfl,⟨nd,rfl⟩⟩;(try exact dd))|(go_at_call 32;(with_reducible refine (spec_l01In.calls a1_1 0 (wrap64 (t217 - 1)) true _ A18.out).mono ?_);rintro e w' ⟨rfl,⟨nd,rfl⟩⟩;(try exact dd)));try go_wp2_with (first|(go_at_call 53;(with_reducible refine (spec_l01Power.calls kj2 a0 (wrap64 (a1_0+a1_2)) t217 _ A17.out).mono ?_);rintro e w' ⟨rfl,⟨nd,rfl⟩⟩;(try exact dd))|(go_at_call 32;(with_reducible refine (spec_l01In.calls a1_1 0 (wrap64 (t217 - 1)) true _ A18.out).mono ?_);rintro e w' ⟨rfl,⟨nd,rfl⟩⟩;(try exact dd))))
      ·
       go_ret
       exact finA blA
      ·
       go_ret
       exact finA blA
     ·
      replace c19:=Bool.eq_false_iff.mpr c19
      subst c19
      rw [if_neg (show ¬ (false=true) by decide)] at H
      try dsimp only at H
      obtain rfl:=Option.some.inj H
      obtain ⟨hcz24_0,hcz24_1,hcz24_2,hfz24_0,hfz24_1,hfz24_2⟩:=cz3 BK213
      go_wp2_with (first|(go_at_call 53;(with_reducible refine (spec_l01Power.calls kj2 a0 (wrap64 (a1_0+a1_2)) t217 _ A17.out).mono ?_);rintro e w' ⟨rfl,⟨nd,rfl⟩⟩;(try exact dd))|(go_at_call 32;(with_reducible refine (spec_l01In.calls a1_1 0 (wrap64 (t217 - 1)) false _ A18.out).mono ?_);rintro e w' ⟨rfl,⟨nd,rfl⟩⟩;(try exact dd)))
      repeat (go_quiet (first|(go_at_call 53;(with_reducible refine (spec_l01Power.calls kj2 a0 (wrap64 (a1_0+a1_2)) t217 _ A17.out).mono ?_);rintro e w' ⟨rfl,⟨nd,rfl⟩⟩;(try exact dd))|(go_at_call 32;(with_reducible refine (spec_l01In.calls a1_1 0 (wrap64 (t217 - 1)) false _ A18.out).mono ?_);rintro e w' ⟨rfl,⟨nd,rfl⟩⟩;(try exact dd)));try go_wp2_with (first|(go_at_call 53;(with_reducible refine (spec_l01Power.calls kj2 a0 (wrap64 (a1_0+a1_2)) t217 _ A17.out).mono ?_);rintro e w' ⟨rfl,⟨nd,rfl⟩⟩;(try exact dd))|(go_at_call 32;(with_reducible refine (spec_l01In.calls a1_1 0 (wrap64 (t217 - 1)) false _ A18.out).mono ?_);rintro e w' ⟨rfl,⟨nd,rfl⟩⟩;(try exact dd))))
      go_ret
      exact finA blA
end Go.Proofs.Ytabcckoeilegnaa.PAll
