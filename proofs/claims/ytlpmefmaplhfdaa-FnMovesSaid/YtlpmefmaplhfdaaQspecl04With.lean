-- turned out of the kit's print
import Derived.Test.YtlpmefmaplhfdaaQx
import Derived.Test.YtlpmefmaplhfdaaQbitsLeadingZeros64
import Derived.Test.YtlpmefmaplhfdaaQimplofMark
import Derived.Test.YtlpmefmaplhfdaaQspecl01Code
import Derived.Test.YtlpmefmaplhfdaaQspecl01DrawPrime
import Derived.Test.YtlpmefmaplhfdaaQspecl01Is
import Derived.Test.YtlpmefmaplhfdaaQspecl01Spoil
namespace Go.Proofs.Ytlpmefmaplhfdaa.PAll
open Go.RowKit Go.Proofs.YtlpmefmaplhfdaaW.PrintWords Go.Proofs.YtlpmefmaplhfdaaW.PrintLast Go.Proofs.YtlpmefmaplhfdaaW.PrintMore
attribute [local go_sem] Go.Proofs.Ytlpmefmaplhfdaa.Aux.setCell_drewN Go.Proofs.Ytlpmefmaplhfdaa.Aux.isSome_setCell max2_int min2_int max_two min_two max_three min_three max_four min_four
set_option linter.unusedVariables false
set_option linter.unusedSimpArgs false
theorem cfB {A B:Prop} (h0:B) (h:B→A:=by intro h_;repeat (first|(with_reducible exact h_)|refine (cell_far (Aside0.out (by assumption)) _).trans ?_)):A:=h h0
def impl_ballAt.j0:Nat→Int→Int→Int→Int→Int→Bool→Option (Int × Int × Int × Bool)
 | 0,_,_,_,_,_,_=>none
 | k+1,x0,x1,x2,x3,x10,x24=>if x24=true then (some (x3,0,0,true)) else (if x10<(-6) then (some (0,0,0,false)) else ((impl_power.f k x0 (wrap64 (x3+6))).bind fun t346=>((impl_unit.f k x0 x1).bind fun t347=>((impl_unit.f k x0 x2).bind fun t348=>((impl_inverse.f k t348 t346).bind fun t349=>((impl_times.f k t347 t349 t346).bind fun t350=>((impl_power.f k x0 (wrap64 (x10+6))).bind fun t351=>((impl_times.f k t350 t351 t346).bind fun t352=>((impl_ofMark.f k x0 x3 t352).bind fun bt353=>(some (bt353.1,bt353.2.1,bt353.2.2.1,bt353.2.2.2)))))))))))
def impl_ballAt.f (k:Nat) (a0 a1 a2 a3:Int):Option (Int × Int × Int × Bool):=(impl_isLevel.f a3).bind fun t343=>(if t343=true then ((impl_valuation.f k a0 a1).bind fun t344=>((impl_valuation.f k a0 a2).bind fun t345=>(if a1=0 then (impl_ballAt.j0 k a0 a1 a2 a3 (wrap64 (t344 - t345)) true) else (impl_ballAt.j0 k a0 a1 a2 a3 (wrap64 (t344 - t345)) (decide ((wrap64 (t344 - t345))≥a3)))))) else (some (0,0,0,false)))
theorem impl_ballAt.mono_l:∀ k,(∀ y0 y1 y2 y3 y4 y5,LeO (impl_ballAt.j0 k y0 y1 y2 y3 y4 y5) (impl_ballAt.j0 (k+1) y0 y1 y2 y3 y4 y5))
 | 0=>fun _ _ _ _ _ _ r h=>by simp [impl_ballAt.j0] at h
 | k+1=>by
  have ih0:=impl_ballAt.mono_l k
  ·
   intro y0 y1 y2 y3 y4 y5
   unfold impl_ballAt.j0
   repeat' first
   | with_reducible first|exact ih0 ..|exact impl_inverse.mono ..|exact impl_ofMark.mono ..|exact impl_power.mono ..|exact impl_times.mono ..|exact impl_unit.mono ..|exact impl_valuation.mono ..|exact LeO.refl _|exact LeO.none _|refine LeO.ite ?_ ?_|refine LeO.bind ?_ fun _=>?_
theorem impl_ballAt.mono:∀ a0 a1 a2 a3 k,LeO (impl_ballAt.f k a0 a1 a2 a3) (impl_ballAt.f (k+1) a0 a1 a2 a3):=by
 intro a0 a1 a2 a3 k
 have ih0:=impl_ballAt.mono_l k
 unfold impl_ballAt.f
 repeat' first
   | with_reducible first|exact ih0 ..|exact impl_inverse.mono ..|exact impl_ofMark.mono ..|exact impl_power.mono ..|exact impl_times.mono ..|exact impl_unit.mono ..|exact impl_valuation.mono ..|exact LeO.refl _|exact LeO.none _|refine LeO.ite ?_ ?_|refine LeO.bind ?_ fun _=>?_
set_option maxHeartbeats 8000000 in
set_option maxRecDepth 100000 in
theorem impl_ballAt.calls (k:Nat) (a0 a1 a2 a3 r1 r2 r3:Int) (r4:Bool) (w:World) (h:impl_ballAt.f k a0 a1 a2 a3=some (r1,r2,r3,r4)) :
  Calls Try.prog 92 #[.int .i64 a0,.int .i64 a1,.int .i64 a2,.int .i64 a3] w fun e w'=>e=.returned (.tuple #[.agg #[.int .i64 r1,.int .i64 r2,.int .i64 r3],.bool r4])∧Below w.heap.size w w':=by
 have hu28:=Try.underlying28
 have HB:=Aside0.mk (Below.refl w.heap.size w)
 have H:=h
 unfold impl_ballAt.f at H
 clear h
 replace H:=bS H
 obtain ⟨t343,A5,H⟩:=H
 try dsimp only at H
 by_cases c6:t343=true
 ·
  subst c6
  rw [if_pos rfl] at H
  try dsimp only at H
  replace H:=bS H
  obtain ⟨t344,A7,H⟩:=H
  try dsimp only at H
  replace H:=bS H
  obtain ⟨t345,A8,H⟩:=H
  try dsimp only at H
  have HC9:=Aside0.mk H
  clear H
  go_enter Try.func92,Try.ntmps92
  go_upto_region 4 with (first|((with_reducible refine gate_dst (N:=8) rfl ?_);refine bxE (cs:=#[.int .i64 0,.int .i64 0,.int .i64 0]) (t:=28) ?_;intro gb342 hg w10 hbox hb;have BK342:=Aside0.mk hbox;have GW342:=sA hg;have GE342:=sA hg;replace HB:=lB hb;clear hb hbox hg)|((with_reducible refine gd 14 rfl ?_);refine gC (some 14) rfl Try.func58 (impl_isLevel.calls (w:=_) (h:=A5.out)) ?_;rintro _ ⟨nd,rfl⟩)|((with_reducible refine gd 19 rfl ?_);refine gC (some 19) rfl Try.func91 (impl_valuation.calls (w:=_) (h:=A7.out)) ?_;rintro _ ⟨nd,rfl⟩)|((with_reducible refine gd 22 rfl ?_);refine gC (some 22) rfl Try.func91 (impl_valuation.calls (w:=_) (h:=A8.out)) ?_;rintro _ ⟨nd,rfl⟩))
  (try simp only [Act.put,List.setIfInBounds_toArray,List.set_cons_zero,List.set_cons_succ])
  go_cut [24] (fun v24 wc=>∃ (kq:Nat) (x24_8:Bool),v24=.bool x24_8∧Aside0 (impl_ballAt.j0 kq a0 a1 a2 a3 (wrap64 (t344 - t345)) x24_8=some (r1,r2,r3,r4))∧Aside0 (kq≤k)∧Aside0 (wc.heap[gb342]?=some (.cells #[.int .i64 0,.int .i64 0,.int .i64 0] 28 (0,0)))∧Aside0 (Below w.heap.size w wc))
  case first=>
   have H:=HC9.out
   clear HC9
   by_cases c11:a1=0
   ·
    rw [if_pos c11] at H
    have c11b0:(a1 == 0)=true:=beq_iff_eq.mpr c11
    have c11b1:(a1 != 0)=false:=bne_eq_false_iff_eq.mpr c11
    clear c11
    (first|rw [c11b0]|(simp only [i64_w,i32_w];rw [c11b0])|skip)
    have H':=Aside0.mk H
    clear H
    go_wp2
    go_meet
    case rel=>exact ⟨_,(true),hB,H',⟨by first|omega|exact Nat.le_refl _⟩,⟨bkA BK342⟩,⟨blA⟩⟩
   ·
    rw [if_neg c11] at H
    have c11b0:(a1 == 0)=false:=beq_eq_false_iff_ne.mpr c11
    have c11b1:(a1 != 0)=true:=bne_iff_ne.mpr c11
    (first|rw [c11b0]|(simp only [i64_w,i32_w];rw [c11b0])|skip)
    have H':=Aside0.mk H
    clear H
    go_wp2
    go_meet
    case rel=>exact ⟨_,(decide ((wrap64 (t344 - t345))≥a3)),hB,H',⟨by first|omega|exact Nat.le_refl _⟩,⟨bkA BK342⟩,⟨blA⟩⟩
  case rest=>
   clear HC9
   try clear c6
   try clear c11
   try clear c11b0
   try clear c11b1
   obtain ⟨kq,x24_8,rfl,HA,HJ8,BK342,HB⟩:=hcut
   cases kq with
   | zero=>exact absurd HA.out (by simp [impl_ballAt.j0])
   | succ kj8=>
    have H:=HA.out
    clear HA
    simp only [impl_ballAt.j0] at H
    by_cases c12:x24_8=true
    ·
     subst c12
     rw [if_pos rfl] at H
     try dsimp only at H
     simp only [Option.some.injEq,Prod.mk.injEq] at H
     obtain ⟨rfl,rfl,rfl,rfl⟩:=H
     obtain ⟨hcz13_0,hcz13_1,hcz13_2,hfz13_0,hfz13_1,hfz13_2⟩:=cz3 BK342
     go_wp2
     refine bodyPost_ret (results_ct rfl _ _ gb342 28 #[.int .i64 a3,.int .i64 0,.int .i64 0] (0,0) _ rfl (bpA BK342) Try.underlying28 rfl (by kernel_rfl)) rfl ?_
     exact finA blA
    ·
     replace c12:=Bool.eq_false_iff.mpr c12
     subst c12
     rw [if_neg (show ¬ (false=true) by decide)] at H
     try dsimp only at H
     by_cases c14:(wrap64 (t344 - t345))<(-6)
     ·
      rw [if_pos c14] at H
      have c14b0:=decide_eq_true c14
      clear c14
      simp only [Option.some.injEq,Prod.mk.injEq] at H
      obtain ⟨rfl,rfl,rfl,rfl⟩:=H
      obtain ⟨hcz15_0,hcz15_1,hcz15_2,hfz15_0,hfz15_1,hfz15_2⟩:=cz3 BK342
      go_wp2
      refine bodyPost_ret (results_ct rfl _ _ gb342 28 #[.int .i64 0,.int .i64 0,.int .i64 0] (0,0) _ rfl (bpA BK342) Try.underlying28 rfl (by kernel_rfl)) rfl ?_
      exact finA blA
     ·
      rw [if_neg c14] at H
      have c14b0:=decide_eq_false c14
      clear c14
      replace H:=bS H
      obtain ⟨t346,A16,H⟩:=H
      try dsimp only at H
      replace H:=bS H
      obtain ⟨t347,A17,H⟩:=H
      try dsimp only at H
      replace H:=bS H
      obtain ⟨t348,A18,H⟩:=H
      try dsimp only at H
      replace H:=bS H
      obtain ⟨t349,A19,H⟩:=H
      try dsimp only at H
      replace H:=bS H
      obtain ⟨t350,A20,H⟩:=H
      try dsimp only at H
      replace H:=bS H
      obtain ⟨t351,A21,H⟩:=H
      try dsimp only at H
      replace H:=bS H
      obtain ⟨t352,A22,H⟩:=H
      try dsimp only at H
      replace H:=bS H
      obtain ⟨⟨t353,t354,t355,t356⟩,A23,H⟩:=H
      try dsimp only at H
      simp only [Option.some.injEq,Prod.mk.injEq] at H
      obtain ⟨rfl,rfl,rfl,rfl⟩:=H
      go_wp2_with (first|((with_reducible refine gd 41 rfl ?_);refine gC (some 41) rfl Try.func59 (impl_power.calls (w:=_) (h:=A16.out)) ?_;rintro _ ⟨nd,rfl⟩;(try (rw [drewN_self wc];generalize hq_:World.drewN wc _=wc;replace BK342:=Aside0.mk (by rw [← hq_];exact (bkA BK342));replace HB:=Aside0.mk (by rw [← hq_];exact blA);clear hq_)))|((with_reducible refine gd 44 rfl ?_);refine gC (some 44) rfl Try.func122 (impl_unit.calls (w:=_) (h:=A17.out)) ?_;rintro _ ⟨nd,rfl⟩;(try (rw [drewN_self wc];generalize hq_:World.drewN wc _=wc;replace BK342:=Aside0.mk (by rw [← hq_];exact (bkA BK342));replace HB:=Aside0.mk (by rw [← hq_];exact blA);clear hq_)))|((with_reducible refine gd 47 rfl ?_);refine gC (some 47) rfl Try.func122 (impl_unit.calls (w:=_) (h:=A18.out)) ?_;rintro _ ⟨nd,rfl⟩;(try (rw [drewN_self wc];generalize hq_:World.drewN wc _=wc;replace BK342:=Aside0.mk (by rw [← hq_];exact (bkA BK342));replace HB:=Aside0.mk (by rw [← hq_];exact blA);clear hq_)))|((with_reducible refine gd 49 rfl ?_);refine gC (some 49) rfl Try.func123 (impl_inverse.calls (w:=_) (h:=A19.out)) ?_;rintro _ ⟨nd,rfl⟩;(try (rw [drewN_self wc];generalize hq_:World.drewN wc _=wc;replace BK342:=Aside0.mk (by rw [← hq_];exact (bkA BK342));replace HB:=Aside0.mk (by rw [← hq_];exact blA);clear hq_)))|((with_reducible refine gd 51 rfl ?_);refine gC (some 51) rfl Try.func121 (impl_times.calls (w:=_) (h:=A20.out)) ?_;rintro _ ⟨nd,rfl⟩;(try (rw [drewN_self wc];generalize hq_:World.drewN wc _=wc;replace BK342:=Aside0.mk (by rw [← hq_];exact (bkA BK342));replace HB:=Aside0.mk (by rw [← hq_];exact blA);clear hq_)))|((with_reducible refine gd 58 rfl ?_);refine gC (some 58) rfl Try.func59 (impl_power.calls (w:=_) (h:=A21.out)) ?_;rintro _ ⟨nd,rfl⟩;(try (rw [drewN_self wc];generalize hq_:World.drewN wc _=wc;replace BK342:=Aside0.mk (by rw [← hq_];exact (bkA BK342));replace HB:=Aside0.mk (by rw [← hq_];exact blA);clear hq_)))|((with_reducible refine gd 60 rfl ?_);refine gC (some 60) rfl Try.func121 (impl_times.calls (w:=_) (h:=A22.out)) ?_;rintro _ ⟨nd,rfl⟩;(try (rw [drewN_self wc];generalize hq_:World.drewN wc _=wc;replace BK342:=Aside0.mk (by rw [← hq_];exact (bkA BK342));replace HB:=Aside0.mk (by rw [← hq_];exact blA);clear hq_)))|((with_reducible refine gd 61 rfl ?_);refine gC (some 61) rfl Try.func103 (impl_ofMark.calls (w:=_) (h:=A23.out)) ?_;intro w24 hb;replace BK342:=kB BK342 hb;replace HB:=lB hb;clear hb;obtain ⟨hcz25_0,hcz25_1,hcz25_2,hfz25_0,hfz25_1,hfz25_2⟩:=cz3 BK342))
      refine bodyPost_ret (results_ct rfl _ _ gb342 28 #[.int .i64 t353,.int .i64 t354,.int .i64 t355] (0,0) _ rfl (bpA BK342) Try.underlying28 rfl (by kernel_rfl)) rfl ?_
      exact finA blA
 ·
  replace c6:=Bool.eq_false_iff.mpr c6
  subst c6
  rw [if_neg (show ¬ (false=true) by decide)] at H
  try dsimp only at H
  simp only [Option.some.injEq,Prod.mk.injEq] at H
  obtain ⟨rfl,rfl,rfl,rfl⟩:=H
  go_enter Try.func92,Try.ntmps92
  go_wp2_with (first|((with_reducible refine gate_dst (N:=8) rfl ?_);refine bxE (cs:=#[.int .i64 0,.int .i64 0,.int .i64 0]) (t:=28) ?_;intro gb342 hg w26 hbox hb;have BK342:=Aside0.mk hbox;have GW342:=sA hg;have GE342:=sA hg;replace HB:=lB hb;clear hb hbox hg)|((with_reducible refine gd 14 rfl ?_);refine gC (some 14) rfl Try.func58 (impl_isLevel.calls (w:=_) (h:=A5.out)) ?_;rintro _ ⟨nd,rfl⟩;(try (rw [drewN_self w26];generalize hq_:World.drewN w26 _=w26;replace BK342:=Aside0.mk (by rw [← hq_];exact (bkA BK342));replace HB:=Aside0.mk (by rw [← hq_];exact blA);clear hq_));obtain ⟨hcz27_0,hcz27_1,hcz27_2,hfz27_0,hfz27_1,hfz27_2⟩:=cz3 BK342))
  refine bodyPost_ret (results_ct rfl _ _ gb342 28 #[.int .i64 0,.int .i64 0,.int .i64 0] (0,0) _ rfl (bpA BK342) Try.underlying28 rfl (by kernel_rfl)) rfl ?_
  exact finA blA
def spec_l04Code.f (k:Nat) (a0 a1_0 a1_1 a1_2 a1_3:Int) (l2:List (S28)):Option (Int):=(spec_l01Code.f k a0 l2).bind fun t397=>(if t397=0 then ((spec_l04Is.f a1_0 a1_1 a1_2 a1_3).bind fun t398=>(if t398=true then (some 0) else (some 1))) else (some 1))
theorem spec_l04Code.mono:∀ a0 a1 a2 a3 a4 a5 k,LeO (spec_l04Code.f k a0 a1 a2 a3 a4 a5) (spec_l04Code.f (k+1) a0 a1 a2 a3 a4 a5):=by
 intro a0 a1 a2 a3 a4 a5 k
 unfold spec_l04Code.f
 repeat' first
   | with_reducible first|exact spec_l01Code.mono ..|exact LeO.refl _|exact LeO.none _|refine LeO.ite ?_ ?_|refine LeO.bind ?_ fun _=>?_
set_option maxHeartbeats 8000000 in
set_option maxRecDepth 100000 in
theorem spec_l04Code.calls (k:Nat) (a0 a1_0 a1_1 a1_2 a1_3:Int) (A2:Option Addr) (c2:Nat) (l2:List (S28)) (r:Int) (w:World) (hr2:Kd.C k28 w A2 l2.length l2) (hc2:l2.length≤c2) (h:spec_l04Code.f k a0 a1_0 a1_1 a1_2 a1_3 l2=some r) :
  Calls Try.prog 45 #[.int .i64 a0,.agg #[.int .i64 a1_0,.int .i64 a1_1,.int .i64 a1_2,.int .i64 a1_3],.slice A2 l2.length c2] w fun e w'=>e=.returned (.int .i64 r)∧Below w.heap.size w w':=by
 have hu26:=Try.underlying26
 have HR2:=Aside0.mk hr2
 have HC2:=Aside0.mk hc2
 clear hr2 hc2
 have HB:=Aside0.mk (Below.refl w.heap.size w)
 have H:=h
 unfold spec_l04Code.f at H
 clear h
 replace H:=bS H
 obtain ⟨t397,A4,H⟩:=H
 try dsimp only at H
 by_cases c5:t397=0
 ·
  rw [if_pos c5] at H
  have c5b0:(t397 == 0)=true:=beq_iff_eq.mpr c5
  have c5b1:(t397 != 0)=false:=bne_eq_false_iff_eq.mpr c5
  clear c5
  replace H:=bS H
  obtain ⟨t398,A6,H⟩:=H
  try dsimp only at H
  by_cases c7:t398=true
  ·
   subst c7
   rw [if_pos rfl] at H
   try dsimp only at H
   obtain rfl:=Option.some.inj H
   go_enter Try.func45,Try.ntmps45
   go_wp2_with (first|((with_reducible refine gate_dst (N:=4) rfl ?_);refine bxE (cs:=#[.int .i64 a1_0,.int .i64 a1_1,.int .i64 a1_2,.int .i64 a1_3]) (t:=26) ?_;intro gb396 hg w8 hbox hb;have BK396:=Aside0.mk hbox;have GW396:=sA hg;have GE396:=sA hg;replace HB:=lB hb;clear hb hbox hg)|((with_reducible refine gd 9 rfl ?_);refine gC (some 9) rfl Try.func93 (spec_l01Code.calls (w:=_) (hr1:=cR (Kd.C_below HR2.out HB.out)) (hc1:=HC2.out) (h:=A4.out)) ?_;intro w9 hb;replace BK396:=kB BK396 hb;replace HB:=lB hb;clear hb;obtain ⟨hcz10_0,hcz10_1,hcz10_2,hcz10_3,hfz10_0,hfz10_1,hfz10_2,hfz10_3⟩:=cz4 BK396)|(go_at_call 53;(with_reducible refine (spec_l04Is.calls a1_0 a1_1 a1_2 a1_3 true _ A6.out).mono ?_);rintro e w11 ⟨rfl,hb⟩;replace BK396:=kB BK396 hb;replace HB:=lB hb;clear hb))
   go_ret
   exact finA blA
  ·
   replace c7:=Bool.eq_false_iff.mpr c7
   subst c7
   rw [if_neg (show ¬ (false=true) by decide)] at H
   try dsimp only at H
   obtain rfl:=Option.some.inj H
   go_enter Try.func45,Try.ntmps45
   go_wp2_with (first|((with_reducible refine gate_dst (N:=4) rfl ?_);refine bxE (cs:=#[.int .i64 a1_0,.int .i64 a1_1,.int .i64 a1_2,.int .i64 a1_3]) (t:=26) ?_;intro gb396 hg w12 hbox hb;have BK396:=Aside0.mk hbox;have GW396:=sA hg;have GE396:=sA hg;replace HB:=lB hb;clear hb hbox hg)|((with_reducible refine gd 9 rfl ?_);refine gC (some 9) rfl Try.func93 (spec_l01Code.calls (w:=_) (hr1:=cR (Kd.C_below HR2.out HB.out)) (hc1:=HC2.out) (h:=A4.out)) ?_;intro w13 hb;replace BK396:=kB BK396 hb;replace HB:=lB hb;clear hb;obtain ⟨hcz14_0,hcz14_1,hcz14_2,hcz14_3,hfz14_0,hfz14_1,hfz14_2,hfz14_3⟩:=cz4 BK396)|(go_at_call 53;(with_reducible refine (spec_l04Is.calls a1_0 a1_1 a1_2 a1_3 false _ A6.out).mono ?_);rintro e w15 ⟨rfl,hb⟩;replace BK396:=kB BK396 hb;replace HB:=lB hb;clear hb))
   go_ret
   exact finA blA
 ·
  rw [if_neg c5] at H
  have c5b0:(t397 == 0)=false:=beq_eq_false_iff_ne.mpr c5
  have c5b1:(t397 != 0)=true:=bne_iff_ne.mpr c5
  obtain rfl:=Option.some.inj H
  go_enter Try.func45,Try.ntmps45
  go_wp2_with (first|((with_reducible refine gate_dst (N:=4) rfl ?_);refine bxE (cs:=#[.int .i64 a1_0,.int .i64 a1_1,.int .i64 a1_2,.int .i64 a1_3]) (t:=26) ?_;intro gb396 hg w16 hbox hb;have BK396:=Aside0.mk hbox;have GW396:=sA hg;have GE396:=sA hg;replace HB:=lB hb;clear hb hbox hg)|((with_reducible refine gd 9 rfl ?_);refine gC (some 9) rfl Try.func93 (spec_l01Code.calls (w:=_) (hr1:=cR (Kd.C_below HR2.out HB.out)) (hc1:=HC2.out) (h:=A4.out)) ?_;intro w17 hb;replace BK396:=kB BK396 hb;replace HB:=lB hb;clear hb))
  go_ret
  exact finA blA
def impl_reduce.f (k:Nat) (a0_0 a0_1 a0_2 a0_3:Int):Option (Int × Int × Int × Int):=(impl_reduced.f k a0_0 a0_1 a0_2 a0_3).bind fun bt555=>(some (bt555.1,bt555.2.1,bt555.2.2.1,bt555.2.2.2.1))
theorem impl_reduce.mono:∀ a0 a1 a2 a3 k,LeO (impl_reduce.f k a0 a1 a2 a3) (impl_reduce.f (k+1) a0 a1 a2 a3):=by
 intro a0 a1 a2 a3 k
 unfold impl_reduce.f
 repeat' first
   | with_reducible first|exact impl_reduced.mono ..|exact LeO.refl _|exact LeO.none _|refine LeO.ite ?_ ?_|refine LeO.bind ?_ fun _=>?_
set_option maxHeartbeats 8000000 in
set_option maxRecDepth 100000 in
theorem impl_reduce.calls (k:Nat) (a0_0 a0_1 a0_2 a0_3 r1 r2 r3 r4:Int) (w:World) (h:impl_reduce.f k a0_0 a0_1 a0_2 a0_3=some (r1,r2,r3,r4)) :
  Calls Try.prog 102 #[.agg #[.int .i64 a0_0,.int .i64 a0_1,.int .i64 a0_2,.int .i64 a0_3]] w fun e w'=>e=.returned (.agg #[.int .i64 r1,.int .i64 r2,.int .i64 r3,.int .i64 r4])∧Below w.heap.size w w':=by
 have hu26:=Try.underlying26
 have HB:=Aside0.mk (Below.refl w.heap.size w)
 have H:=h
 unfold impl_reduce.f at H
 clear h
 replace H:=bS H
 obtain ⟨⟨t555,t556,t557,t558,t559⟩,A2,H⟩:=H
 try dsimp only at H
 simp only [Option.some.injEq,Prod.mk.injEq] at H
 obtain ⟨rfl,rfl,rfl,rfl⟩:=H
 go_enter Try.func102,Try.ntmps102
 go_wp2_with (first|((with_reducible refine gate_dst (N:=1) rfl ?_);refine bxE (cs:=#[.int .i64 a0_0,.int .i64 a0_1,.int .i64 a0_2,.int .i64 a0_3]) (t:=26) ?_;intro gb553 hg w3 hbox hb;have BK553:=Aside0.mk hbox;have GW553:=sA hg;have GE553:=sA hg;replace HB:=lB hb;clear hb hbox hg)|((with_reducible refine gate_dst (N:=2) rfl ?_);refine bxE (cs:=#[.int .i64 0,.int .i64 0,.int .i64 0,.int .i64 0]) (t:=26) ?_;intro gb554 hg w4 hbox hb;have BK554:=Aside0.mk hbox;have GW554:=sA hg;have GE554:=sA hg;have NB553_554:=nA hg BK553;have NB554_553:=nB hg BK553;replace BK553:=kB BK553 hb;replace HB:=lB hb;clear hb hbox hg;have hnb5:=NB553_554.out;have hnc5:=NB554_553.out;obtain ⟨hcz6_0,hcz6_1,hcz6_2,hcz6_3,hfz6_0,hfz6_1,hfz6_2,hfz6_3⟩:=cz4 BK553)|((with_reducible refine gd 7 rfl ?_);refine gC (some 7) rfl Try.func105 (impl_reduced.calls (w:=_) (h:=A2.out)) ?_;intro w7 hb;replace BK553:=kB BK553 hb;replace BK554:=kB BK554 hb;replace HB:=lB hb;clear hb)|((with_reducible refine gate_dst (N:=3) rfl ?_);refine bxE (cs:=#[.int .i64 0,.int .i64 0,.int .i64 0,.int .i64 0]) (t:=26) ?_;intro gb560 hg w8 hbox hb;have BK560:=Aside0.mk hbox;have GW560:=sA hg;have GE560:=sA hg;have NB553_560:=nA hg BK553;have NB560_553:=nB hg BK553;have NB554_560:=nA hg BK554;have NB560_554:=nB hg BK554;replace BK553:=kB BK553 hb;replace BK554:=kB BK554 hb;replace HB:=lB hb;clear hb hbox hg;have hnb9:=NB560_553.out;have hnc9:=NB553_560.out;have hnb10:=NB560_554.out;have hnc10:=NB554_560.out;obtain ⟨hcz11_0,hcz11_1,hcz11_2,hcz11_3,hfz11_0,hfz11_1,hfz11_2,hfz11_3⟩:=cz4 BK560;obtain ⟨hcz12_0,hcz12_1,hcz12_2,hcz12_3,hfz12_0,hfz12_1,hfz12_2,hfz12_3⟩:=cz4 BK554))
 refine bodyPost_ret (results_cell_row rfl _ _ gb554 26 #[.int .i64 t555,.int .i64 t556,.int .i64 t557,.int .i64 t558] (0,0) _ rfl (bpA BK554) Try.underlying26 rfl (by kernel_rfl)) rfl ?_
 exact finA blA
def impl_distance.f (k:Nat) (a0 a1_0 a1_1 a1_2 a2_0 a2_1 a2_2:Int):Option (Int):=(impl_joinLevel.f k a0 a1_0 a1_1 a1_2 a2_0 a2_1 a2_2).bind fun t603=>(some (wrap64 ((wrap64 (a1_0+a2_0)) - (wrap64 (2*t603)))))
theorem impl_distance.mono:∀ a0 a1 a2 a3 a4 a5 a6 k,LeO (impl_distance.f k a0 a1 a2 a3 a4 a5 a6) (impl_distance.f (k+1) a0 a1 a2 a3 a4 a5 a6):=by
 intro a0 a1 a2 a3 a4 a5 a6 k
 unfold impl_distance.f
 repeat' first
   | with_reducible first|exact impl_joinLevel.mono ..|exact LeO.refl _|exact LeO.none _|refine LeO.ite ?_ ?_|refine LeO.bind ?_ fun _=>?_
def impl_distance.T1:Bool × List (List Nat × List Nat):=(true,[([],[]),([0],[0]),([],[]),([2],[2]),([1,3],[1,3]),([],[]),([],[]),([],[]),([5,6,7],[5,6,7]),([8],[8]),([4,9],[4,9]),([10,8,0,1,2,3,4,5,6,7,8,9,10],[10])])
def impl_distance.B1:List Nat:=[0,1,0,4,15,0,0,0,224,480,1023,2047]
theorem impl_distance.tab1:rtab .any (opsOf Try.f62 1)=impl_distance.T1:=by kernel_rfl
theorem impl_distance.bits1:waitsOk impl_distance.T1.2 impl_distance.B1=true:=by kernel_rfl
set_option maxHeartbeats 8000000 in
set_option maxRecDepth 100000 in
theorem impl_distance.calls (k:Nat) (a0 a1_0 a1_1 a1_2 a2_0 a2_1 a2_2 r:Int) (w:World) (h:impl_distance.f k a0 a1_0 a1_1 a1_2 a2_0 a2_1 a2_2=some r) :
  Calls Try.prog 62 #[.int .i64 a0,.agg #[.int .i64 a1_0,.int .i64 a1_1,.int .i64 a1_2],.agg #[.int .i64 a2_0,.int .i64 a2_1,.int .i64 a2_2]] w fun e w'=>e=.returned (.int .i64 r)∧Below w.heap.size w w':=by
 have hu28:=Try.underlying28
 have HB:=Aside0.mk (Below.refl w.heap.size w)
 have H:=h
 unfold impl_distance.f at H
 clear h
 replace H:=bS H
 obtain ⟨t603,A4,H⟩:=H
 try dsimp only at H
 obtain rfl:=Option.some.inj H
 go_enter Try.func62,Try.ntmps62
 try go_wp2_with (first|((with_reducible refine gate_dst (N:=4) rfl ?_);refine bxE (cs:=#[.int .i64 a1_0,.int .i64 a1_1,.int .i64 a1_2]) (t:=28) ?_;intro gb601 hg w5 hbox hb;have n0_:=lB hb;have n1_:=Aside0.mk hbox;have n2_:=sA hg;have n3_:=sA hg;clear HB;have HB:=n0_;have BK601:=n1_;have GW601:=n2_;have GE601:=n3_;clear n0_ n1_ n2_ n3_;clear hb hbox hg)|((with_reducible refine gate_dst (N:=5) rfl ?_);refine bxE (cs:=#[.int .i64 a2_0,.int .i64 a2_1,.int .i64 a2_2]) (t:=28) ?_;intro gb602 hg w6 hbox hb;have n0_:=kB BK601 hb;have n1_:=lB hb;have n2_:=Aside0.mk hbox;have n3_:=sA hg;have n4_:=sA hg;have n5_:=nA hg BK601;have n6_:=nB hg BK601;clear BK601;clear HB;have BK601:=n0_;have HB:=n1_;have BK602:=n2_;have GW602:=n3_;have GE602:=n4_;have NB601_602:=n5_;have NB602_601:=n6_;clear n0_ n1_ n2_ n3_ n4_ n5_ n6_;clear hb hbox hg))
 have n0_:=Aside0.mk (blk_drew BK601.out)
 have n1_:=Aside0.mk (blk_drew BK602.out)
 have n2_:=Aside0.mk (below_drew1 HB.out)
 clear BK601
 clear BK602
 clear HB
 have BK601:=n0_
 have BK602:=n1_
 have HB:=n2_
 clear n0_ n1_ n2_
 refine start_ (n:=12) (S:=fun w'=>w'.cell? ⟨gb601,0,none⟩=some (.int .i64 a1_0)∧w'.cell? ⟨gb601,1,none⟩=some (.int .i64 a1_1)∧w'.cell? ⟨gb601,2,none⟩=some (.int .i64 a1_2)∧w'.cell? ⟨gb602,0,none⟩=some (.int .i64 a2_0)∧w'.cell? ⟨gb602,1,none⟩=some (.int .i64 a2_1)∧w'.cell? ⟨gb602,2,none⟩=some (.int .i64 a2_2)) (ds:=[]) #[Z,Z,Z,Z,Z,Z,Z,Z,Z,Z,Z,Z] (by kernel_rfl) rfl rfl ⟨cA BK601 0,cA BK601 1,cA BK601 2,cA BK602 0,cA BK602 1,cA BK602 2⟩ (fun hHeld=>?_);refine with_tabW impl_distance.tab1 impl_distance.bits1 (fun HT_ HW_=>?_)
 generalize w6.drew=w7 at BK601 BK602 HB hHeld ⊢
 refine puA (i:=0) (N:=some 7) #[Y,Z,Z,Z,Z,Z,Z,Z,Z,Z,Z,Z] rfl rfl HT_ ?_
 refine puA (i:=2) (N:=some 9) #[Y,Z,Y,Z,Z,Z,Z,Z,Z,Z,Z,Z] rfl rfl HT_ ?_
 refine puA (i:=5) (N:=some 12) #[Y,Z,Y,Z,Z,Y,Z,Z,Z,Z,Z,Z] rfl rfl HT_ ?_
 refine taA (i:=1) (N:=some 8) #[Y,Y,Y,Z,Z,Y,Z,Z,Z,Z,Z,Z] rfl rfl HT_ HW_ hHeld ?_
 refine taA (i:=3) (N:=some 10) #[Y,Y,Y,Y,Z,Y,Z,Z,Z,Z,Z,Z] rfl rfl HT_ HW_ hHeld ?_
 refine puA (i:=4) (N:=some 11) #[Y,Y,Y,Y,Y,Y,Z,Z,Z,Z,Z,Z] rfl rfl HT_ ?_
 refine taA (i:=6) (N:=some 13) #[Y,Y,Y,Y,Y,Y,Y,Z,Z,Z,Z,Z] rfl rfl HT_ HW_ hHeld ?_
 refine taA (i:=7) (N:=some 14) #[Y,Y,Y,Y,Y,Y,Y,Y,Z,Z,Z,Z] rfl rfl HT_ HW_ hHeld ?_
 refine one_ (i:=8) (N:=some 15) #[Y,Y,Y,Y,Y,Y,Y,Y,Y,Z,Z,Z] rfl rfl (one_of HT_.out (by kernel_rfl)) (by decide) (fun K hK=>?_)
 refine goC Try.func104 (impl_joinLevel.calls (w:=_) (h:=A4.out)) ?_
 intro w8 hb
 replace BK601:=kB BK601 hb
 replace BK602:=kB BK602 hb
 replace HB:=lB hb
 (try clear hb)
 (try clear hb2)
 (try clear hk)
 (try clear hi)
 refine hK.out _ _ ⟨cA BK601 0,cA BK601 1,cA BK601 2,cA BK602 0,cA BK602 1,cA BK602 2⟩ (fun hHeld=>?_)
 clear hK K
 refine nmA ?_
 refine puA (i:=9) (N:=some 16) #[Y,Y,Y,Y,Y,Y,Y,Y,Y,Y,Z,Z] rfl rfl HT_ ?_
 refine puA (i:=10) (N:=some 17) #[Y,Y,Y,Y,Y,Y,Y,Y,Y,Y,Y,Z] rfl rfl HT_ ?_
 refine puA (i:=11) (N:=some 6) #[Y,Y,Y,Y,Y,Y,Y,Y,Y,Y,Y,Y] rfl rfl HT_ ?_
 refine done_ (done_of HT_.out (by kernel_rfl)) ?_
 try go_wp2
 go_ret
 exact finA blA
def spec_l04With.f (k:Nat) (l0:List Int):Option (Int × Int × Int × Int × Int × Int × Int × Int):=(spec_l01From.f k l0).bind fun bt273=>((spec_l01Spoil.f k bt273.1 bt273.2.1 bt273.2.2).bind fun bt277=>((spec_l01Next.f bt273.1 bt277.2.2.2.2.1 bt277.2.2.2.2.2 3).bind fun bt284=>(if bt284.1=0 then ((spec_l04Draw.f k bt273.1 bt284.2.1 bt284.2.2).bind fun bt287=>(some (bt277.1,bt287.1,bt287.2.1,bt287.2.2.1,bt287.2.2.2.1,0,0,0))) else ((spec_l04Draw.f k bt273.1 bt284.2.1 bt284.2.2).bind fun bt293=>(some (bt277.1,bt293.1,bt293.2.1,bt293.2.2.1,bt293.2.2.2.1,bt277.2.1,bt277.2.2.1,bt277.2.2.2.1))))))
theorem spec_l04With.mono:∀ a0 k,LeO (spec_l04With.f k a0) (spec_l04With.f (k+1) a0):=by
 intro a0 k
 unfold spec_l04With.f
 repeat' first
   | with_reducible first|exact spec_l01From.mono ..|exact spec_l01Spoil.mono ..|exact spec_l04Draw.mono ..|exact LeO.refl _|exact LeO.none _|refine LeO.ite ?_ ?_|refine LeO.bind ?_ fun _=>?_
set_option maxHeartbeats 8000000 in
set_option maxRecDepth 100000 in
theorem spec_l04With.calls (k:Nat) (A0:Option Addr) (c0:Nat) (l0:List Int) (r1 r2 r3 r4 r5 r6 r7 r8:Int) (w:World) (hr0:Kd.C (Kd.int .u8) w A0 l0.length l0) (hc0:l0.length≤c0) (h:spec_l04With.f k l0=some (r1,r2,r3,r4,r5,r6,r7,r8)) :
  Calls Try.prog 41 #[.slice A0 l0.length c0] w fun e w'=>e=.returned (.tuple #[.int .i64 r1,.agg #[.int .i64 r2,.int .i64 r3,.int .i64 r4,.int .i64 r5],.agg #[.int .i64 r6,.int .i64 r7,.int .i64 r8]])∧Below w.heap.size w w':=by
 have hu26:=Try.underlying26
 have hu28:=Try.underlying28
 have HR0:=Aside0.mk hr0
 have HC0:=Aside0.mk hc0
 clear hr0 hc0
 have HB:=Aside0.mk (Below.refl w.heap.size w)
 have H:=h
 unfold spec_l04With.f at H
 clear h
 replace H:=bS H
 obtain ⟨⟨t273,t274,t275⟩,A2,H⟩:=H
 try dsimp only at H
 replace H:=bS H
 obtain ⟨⟨t277,t278,t279,t280,t281,t282⟩,A3,H⟩:=H
 try dsimp only at H
 replace H:=bS H
 obtain ⟨⟨t284,t285,t286⟩,A4,H⟩:=H
 try dsimp only at H
 by_cases c5:t284=0
 ·
  rw [if_pos c5] at H
  have c5b0:(t284 == 0)=true:=beq_iff_eq.mpr c5
  have c5b1:(t284 != 0)=false:=bne_eq_false_iff_eq.mpr c5
  clear c5
  replace H:=bS H
  obtain ⟨⟨t287,t288,t289,t290,t291,t292⟩,A6,H⟩:=H
  try dsimp only at H
  simp only [Option.some.injEq,Prod.mk.injEq] at H
  obtain ⟨rfl,rfl,rfl,rfl,rfl,rfl,rfl,rfl⟩:=H
  go_enter Try.func41,Try.ntmps41
  try go_wp2_with (first|((with_reducible refine gate_dst (N:=3) rfl ?_);refine bxE (cs:=#[.int .i64 0,.int .i64 0,.int .i64 0,.int .i64 0]) (t:=26) ?_;intro gb271 hg w7 hbox hb;have n0_:=lB hb;have n1_:=Aside0.mk hbox;have n2_:=sA hg;have n3_:=sA hg;clear HB;have HB:=n0_;have BK271:=n1_;have GW271:=n2_;have GE271:=n3_;clear n0_ n1_ n2_ n3_;clear hb hbox hg)|((with_reducible refine gate_dst (N:=4) rfl ?_);refine bxE (cs:=#[.int .i64 0,.int .i64 0,.int .i64 0]) (t:=28) ?_;intro gb272 hg w8 hbox hb;have n0_:=kB BK271 hb;have n1_:=lB hb;have n2_:=Aside0.mk hbox;have n3_:=sA hg;have n4_:=sA hg;have n5_:=nA hg BK271;have n6_:=nB hg BK271;clear BK271;clear HB;have BK271:=n0_;have HB:=n1_;have BK272:=n2_;have GW272:=n3_;have GE272:=n4_;have NB271_272:=n5_;have NB272_271:=n6_;clear n0_ n1_ n2_ n3_ n4_ n5_ n6_;clear hb hbox hg)|((with_reducible refine gate_callee (f:=47) rfl ?_);refine gL (some 9) rfl Try.func47 #[.slice A0 l0.length c0] ?_;(with_reducible refine (spec_l01From.calls k _ _ l0 t273 t274 t275 w _ ?side1 ?side2 ?side3 A2.out).mono ?_);(case side1=>exact blI);(case side2=>exact HR0.out);(case side3=>exact HC0.out);rintro e w9 ⟨g276,rfl,hi,hb,hb2⟩;refine ⟨_,rfl,?_⟩;have n0_:=kB BK271 hb2;have n1_:=kB BK272 hb2;have n2_:=Aside0.mk hb;have n3_:=Aside0.mk hi;have n4_:=Aside0.mk (IsS116.ne_blk hi (blk_below (bkA BK271) hb2) (by decide));have n5_:=Aside0.mk (Ne.symm (IsS116.ne_blk hi (blk_below (bkA BK271) hb2) (by decide)));have n6_:=Aside0.mk (IsS116.ne_blk hi (blk_below (bkA BK272) hb2) (by decide));have n7_:=Aside0.mk (Ne.symm (IsS116.ne_blk hi (blk_below (bkA BK272) hb2) (by decide)));clear BK271;clear BK272;clear HB;have BK271:=n0_;have BK272:=n1_;have HB:=n2_;have HI276:=n3_;have NB276_271:=n4_;have NB271_276:=n5_;have NB276_272:=n6_;have NB272_276:=n7_;clear n0_ n1_ n2_ n3_ n4_ n5_ n6_ n7_;clear hi hb hb2)|((with_reducible refine gd 12 rfl ?_);refine gC (some 12) rfl Try.func87 (spec_l01Spoil.calls (w:=_) (g:=g276) (w0:=w) (hI:=iA HI276) (hB:=blI) (h:=A3.out)) ?_;rintro w10 ⟨hi,hb,hk⟩;have n0_:=kbk hk BK271 NB271_276;have n1_:=kbk hk BK272 NB272_276;have n2_:=Aside0.mk hb;have n3_:=Aside0.mk hi;clear BK271;clear BK272;clear HB;clear HI276;have BK271:=n0_;have BK272:=n1_;have HB:=n2_;have HI276:=n3_;clear n0_ n1_ n2_ n3_;clear hi hb hk)|((with_reducible refine gate_dst (N:=7) rfl ?_);refine bxE (cs:=#[.int .i64 0,.int .i64 0,.int .i64 0]) (t:=28) ?_;intro gb283 hg w11 hbox hb;have n0_:=kB BK271 hb;have n1_:=kB BK272 hb;have n2_:=Aside0.mk (IsS116.below (iA HI276) hb);have n3_:=lI hb;have n4_:=Aside0.mk hbox;have n5_:=sI hg;have n6_:=sI hg;have n7_:=nA hg BK271;have n8_:=nB hg BK271;have n9_:=nA hg BK272;have n10_:=nB hg BK272;have n11_:=inA hg (IsS116.lt (iA HI276));have n12_:=inB hg (IsS116.lt (iA HI276));clear BK271;clear BK272;clear HI276;clear HB;have BK271:=n0_;have BK272:=n1_;have HI276:=n2_;have HB:=n3_;have BK283:=n4_;have GW283:=n5_;have GE283:=n6_;have NB271_283:=n7_;have NB283_271:=n8_;have NB272_283:=n9_;have NB283_272:=n10_;have NB276_283:=n11_;have NB283_276:=n12_;clear n0_ n1_ n2_ n3_ n4_ n5_ n6_ n7_ n8_ n9_ n10_ n11_ n12_;clear hb hbox hg;have hnb12:=NB283_271.out;have hnc12:=NB271_283.out;have hnb13:=NB283_272.out;have hnc13:=NB272_283.out;have hnb14:=NB283_276.out;have hnc14:=NB276_283.out;obtain ⟨hcz15_0,hcz15_1,hcz15_2,hfz15_0,hfz15_1,hfz15_2⟩:=cz3 BK283)|((with_reducible refine gd 16 rfl ?_);refine gC (some 16) rfl Try.func82 (spec_l01Next.calls (w:=_) (g:=g276) (w0:=w) (hI:=iA HI276) (hB:=blI) (h:=A4.out)) ?_;rintro w16 ⟨hi,hb,hk⟩;have n0_:=Aside0.mk (KeepBut.blk hk (g':=gb271) (o:=.cells #[.int .i64 0,.int .i64 0,.int .i64 0,.int .i64 0] 26 (0,0)) (bkF BK271) NB271_276.out (by simp));have n1_:=Aside0.mk (KeepBut.blk hk (g':=gb272) (o:=.cells #[.int .i64 0,.int .i64 0,.int .i64 0] 28 (0,0)) (bkF BK272) NB272_276.out (by simp));have n2_:=Aside0.mk (KeepBut.blk hk (g':=gb283) (o:=.cells #[.int .i64 t278,.int .i64 t279,.int .i64 t280] 28 (0,0)) (bpA BK283) NB283_276.out (by simp));have n3_:=Aside0.mk hb;have n4_:=Aside0.mk hi;clear BK271;clear BK272;clear BK283;clear HB;clear HI276;have BK271:=n0_;have BK272:=n1_;have BK283:=n2_;have HB:=n3_;have HI276:=n4_;clear n0_ n1_ n2_ n3_ n4_;clear hi hb hk;obtain ⟨hcz17_0,hcz17_1,hcz17_2,hfz17_0,hfz17_1,hfz17_2⟩:=cz3 BK283))
  have n0_:Aside0 ((((w16.setCell ⟨gb283,0,none⟩ (.int .i64 0)).setCell ⟨gb283,1,none⟩ (.int .i64 0)).setCell ⟨gb283,2,none⟩ (.int .i64 0)).heap[gb271]?=some (.cells #[.int .i64 0,.int .i64 0,.int .i64 0,.int .i64 0] 26 (0,0))):=⟨bkF BK271⟩
  have n1_:Aside0 ((((w16.setCell ⟨gb283,0,none⟩ (.int .i64 0)).setCell ⟨gb283,1,none⟩ (.int .i64 0)).setCell ⟨gb283,2,none⟩ (.int .i64 0)).heap[gb272]?=some (.cells #[.int .i64 0,.int .i64 0,.int .i64 0] 28 (0,0))):=⟨bkF BK272⟩
  have n2_:Aside0 ((((w16.setCell ⟨gb283,0,none⟩ (.int .i64 0)).setCell ⟨gb283,1,none⟩ (.int .i64 0)).setCell ⟨gb283,2,none⟩ (.int .i64 0)).heap[gb283]?=some (.cells #[.int .i64 0,.int .i64 0,.int .i64 0] 28 (0,0))):=⟨bpA BK283⟩
  have n3_:Aside0 (IsS116 w (((w16.setCell ⟨gb283,0,none⟩ (.int .i64 0)).setCell ⟨gb283,1,none⟩ (.int .i64 0)).setCell ⟨gb283,2,none⟩ (.int .i64 0)) g276 t273 t285 t286):=⟨iA HI276⟩
  have n4_:Aside0 (Below w.heap.size w (((w16.setCell ⟨gb283,0,none⟩ (.int .i64 0)).setCell ⟨gb283,1,none⟩ (.int .i64 0)).setCell ⟨gb283,2,none⟩ (.int .i64 0))):=⟨blI⟩
  (try clear BK271)
  (try clear BK272)
  (try clear BK283)
  (try clear HI276)
  (try clear HB)
  generalize (((w16.setCell ⟨gb283,0,none⟩ (.int .i64 0)).setCell ⟨gb283,1,none⟩ (.int .i64 0)).setCell ⟨gb283,2,none⟩ (.int .i64 0))=w18 at n0_ n1_ n2_ n3_ n4_ ⊢
  have BK271:=n0_
  have BK272:=n1_
  have BK283:=n2_
  have HI276:=n3_
  have HB:=n4_
  clear n0_ n1_ n2_ n3_ n4_
  have n0_:=Aside0.mk (blk_drew BK271.out)
  have n1_:=Aside0.mk (blk_drew BK272.out)
  have n2_:=Aside0.mk (blk_drew BK283.out)
  have n3_:=Aside0.mk (IsS116.drew HI276.out)
  have n4_:=Aside0.mk (below_drew1 HB.out)
  clear BK271
  clear BK272
  clear BK283
  clear HI276
  clear HB
  have BK271:=n0_
  have BK272:=n1_
  have BK283:=n2_
  have HI276:=n3_
  have HB:=n4_
  clear n0_ n1_ n2_ n3_ n4_
  refine start_ (n:=7) (S:=fun w'=>w'.cell? ⟨gb283,0,none⟩=some (.int .i64 0)∧w'.cell? ⟨gb283,1,none⟩=some (.int .i64 0)∧w'.cell? ⟨gb283,2,none⟩=some (.int .i64 0)) (ds:=[]) #[Z,Z,Z,Z,Z,Z,Z] (by kernel_rfl) rfl rfl ⟨cA BK283 0,cA BK283 1,cA BK283 2⟩ (fun hHeld=>?_)
  generalize w18.drew=w19 at BK271 BK272 BK283 HI276 HB hHeld ⊢
  refine pure_ (i:=0) (N:=some 19) (v:=?_) (a':=?_) #[Y,Z,Z,Z,Z,Z,Z] rfl rfl (by kernel_rfl) (fun _ _ _ h=>h) (Or.inl ⟨by rfl,?_⟩) ?_ ?_
  rotate_left
  ·
   intro w'
   go_simp
   with_reducible rfl
  rotate_left
  ·
   simp only [pA]
   rfl
  refine pure_ (i:=1) (N:=some 20) (v:=?_) (a':=?_) #[Y,Y,Z,Z,Z,Z,Z] rfl rfl (by kernel_rfl) (fun _ _ _ h=>h) (Or.inl ⟨by rfl,?_⟩) ?_ ?_
  rotate_left
  ·
   intro w'
   go_simp
   with_reducible rfl
  rotate_left
  ·
   simp only [pA]
   rfl
  refine take_ (i:=3) (N:=some 22) (v:=?_) (a':=?_) #[Y,Y,Z,Y,Z,Z,Z] rfl rfl (by kernel_rfl) (fun _ _ _ h=>h) (Or.inl ⟨by rfl,?_⟩) hHeld ?_ ?_
  rotate_left
  ·
   rintro w' ⟨s0,s1,s2⟩
   go_simp
   with_reducible rfl
  rotate_left
  ·
   simp only [pA]
   rfl
  refine one_ (i:=2) (N:=some 21) #[Y,Y,Y,Y,Z,Z,Z] rfl rfl (by kernel_rfl) (by decide) (fun K hK=>?_)
  refine goC Try.func48 (spec_l04Draw.calls (w:=_) (g:=g276) (w0:=w) (hI:=iA HI276) (hB:=blI) (h:=A6.out)) ?_
  rintro w20 ⟨hi,hb,hk⟩
  replace BK271:=kbk hk BK271 NB271_276
  replace BK272:=kbk hk BK272 NB272_276
  replace BK283:=kbk hk BK283 NB283_276
  replace HB:=Aside0.mk hb
  replace HI276:=Aside0.mk hi
  (try clear hb)
  (try clear hb2)
  (try clear hk)
  (try clear hi)
  refine hK.out _ _ ⟨cA BK283 0,cA BK283 1,cA BK283 2⟩ (fun hHeld=>?_)
  clear hK K
  refine nmA ?_
  refine pure_ (i:=4) (N:=some 2) (v:=?_) (a':=?_) #[Y,Y,Y,Y,Y,Z,Z] rfl rfl (by kernel_rfl) (fun _ _ _ h=>h) (Or.inl ⟨by rfl,?_⟩) ?_ ?_
  rotate_left
  ·
   intro w'
   go_simp
   with_reducible rfl
  rotate_left
  ·
   simp only [pA]
   rfl
  refine one_ (i:=5) (N:=none) #[Y,Y,Y,Y,Y,Y,Z] rfl rfl (by kernel_rfl) (by decide) (fun K hK=>?_)
  have hs21:w20.cell? ⟨gb271,0,none⟩=some (.int .i64 0):=cA BK271 0
  have hfs21:=blk_frozen BK271.out 0
  have hns21_1:=NB272_271.out
  have hns21_2:=NB283_271.out
  have hms21_1:=NB271_272.out
  have hms21_2:=NB271_283.out
  have hs22:w20.cell? ⟨gb271,1,none⟩=some (.int .i64 0):=cA BK271 1
  have hfs22:=blk_frozen BK271.out 1
  have hns22_1:=NB272_271.out
  have hns22_2:=NB283_271.out
  have hms22_1:=NB271_272.out
  have hms22_2:=NB271_283.out
  have hs23:w20.cell? ⟨gb271,2,none⟩=some (.int .i64 0):=cA BK271 2
  have hfs23:=blk_frozen BK271.out 2
  have hns23_1:=NB272_271.out
  have hns23_2:=NB283_271.out
  have hms23_1:=NB271_272.out
  have hms23_2:=NB271_283.out
  have hs24:w20.cell? ⟨gb271,3,none⟩=some (.int .i64 0):=cA BK271 3
  have hfs24:=blk_frozen BK271.out 3
  have hns24_1:=NB272_271.out
  have hns24_2:=NB283_271.out
  have hms24_1:=NB271_272.out
  have hms24_2:=NB271_283.out
  refine skip_ (w1:=?_) (by rfl) rfl ?_ ?_
  rotate_left
  ·
   go_simp
   rfl
  refine hK.out _ _ ⟨cfB hHeld.1,cfB hHeld.2.1,cfB hHeld.2.2⟩ (fun hHeld=>?_)
  clear hK K
  refine one_ (i:=6) (N:=none) #[Y,Y,Y,Y,Y,Y,Y] rfl rfl (by kernel_rfl) (by decide) (fun K hK=>?_)
  have hs25:w20.cell? ⟨gb272,0,none⟩=some (.int .i64 0):=cA BK272 0
  have hfs25:=blk_frozen BK272.out 0
  have hns25_0:=NB271_272.out
  have hns25_2:=NB283_272.out
  have hms25_0:=NB272_271.out
  have hms25_2:=NB272_283.out
  have hs26:w20.cell? ⟨gb272,1,none⟩=some (.int .i64 0):=cA BK272 1
  have hfs26:=blk_frozen BK272.out 1
  have hns26_0:=NB271_272.out
  have hns26_2:=NB283_272.out
  have hms26_0:=NB272_271.out
  have hms26_2:=NB272_283.out
  have hs27:w20.cell? ⟨gb272,2,none⟩=some (.int .i64 0):=cA BK272 2
  have hfs27:=blk_frozen BK272.out 2
  have hns27_0:=NB271_272.out
  have hns27_2:=NB283_272.out
  have hms27_0:=NB272_271.out
  have hms27_2:=NB272_283.out
  refine skip_ (w1:=?_) (by rfl) rfl ?_ ?_
  rotate_left
  ·
   go_simp
   rfl
  refine hK.out _ _ ⟨cfB hHeld.1,cfB hHeld.2.1,cfB hHeld.2.2⟩ (fun hHeld=>?_)
  clear hK K
  refine done_ (by kernel_rfl) ?_
  try go_wp2
  refine bodyPost_ret (results_list (rs:=[.tmp 2,.cell 3 26,.cell 4 28]) rfl (by simp) (.tmp (.cell gb271 26 #[.int .i64 t287,.int .i64 t288,.int .i64 t289,.int .i64 t290] (0,0) _ rfl (bpA BK271) Try.underlying26 rfl (by kernel_rfl) (.cell gb272 28 #[.int .i64 0,.int .i64 0,.int .i64 0] (0,0) _ rfl (bpA BK272) Try.underlying28 rfl (by kernel_rfl) .nil)))) rfl ?_
  exact rf0 blI
 ·
  rw [if_neg c5] at H
  have c5b0:(t284 == 0)=false:=beq_eq_false_iff_ne.mpr c5
  have c5b1:(t284 != 0)=true:=bne_iff_ne.mpr c5
  replace H:=bS H
  obtain ⟨⟨t293,t294,t295,t296,t297,t298⟩,A28,H⟩:=H
  try dsimp only at H
  simp only [Option.some.injEq,Prod.mk.injEq] at H
  obtain ⟨rfl,rfl,rfl,rfl,rfl,rfl,rfl,rfl⟩:=H
  go_enter Try.func41,Try.ntmps41
  try go_wp2_with (first|((with_reducible refine gate_dst (N:=3) rfl ?_);refine bxE (cs:=#[.int .i64 0,.int .i64 0,.int .i64 0,.int .i64 0]) (t:=26) ?_;intro gb271 hg w29 hbox hb;have n0_:=lB hb;have n1_:=Aside0.mk hbox;have n2_:=sA hg;have n3_:=sA hg;clear HB;have HB:=n0_;have BK271:=n1_;have GW271:=n2_;have GE271:=n3_;clear n0_ n1_ n2_ n3_;clear hb hbox hg)|((with_reducible refine gate_dst (N:=4) rfl ?_);refine bxE (cs:=#[.int .i64 0,.int .i64 0,.int .i64 0]) (t:=28) ?_;intro gb272 hg w30 hbox hb;have n0_:=kB BK271 hb;have n1_:=lB hb;have n2_:=Aside0.mk hbox;have n3_:=sA hg;have n4_:=sA hg;have n5_:=nA hg BK271;have n6_:=nB hg BK271;clear BK271;clear HB;have BK271:=n0_;have HB:=n1_;have BK272:=n2_;have GW272:=n3_;have GE272:=n4_;have NB271_272:=n5_;have NB272_271:=n6_;clear n0_ n1_ n2_ n3_ n4_ n5_ n6_;clear hb hbox hg)|((with_reducible refine gate_callee (f:=47) rfl ?_);refine gL (some 9) rfl Try.func47 #[.slice A0 l0.length c0] ?_;(with_reducible refine (spec_l01From.calls k _ _ l0 t273 t274 t275 w _ ?side1 ?side2 ?side3 A2.out).mono ?_);(case side1=>exact blI);(case side2=>exact HR0.out);(case side3=>exact HC0.out);rintro e w31 ⟨g276,rfl,hi,hb,hb2⟩;refine ⟨_,rfl,?_⟩;have n0_:=kB BK271 hb2;have n1_:=kB BK272 hb2;have n2_:=Aside0.mk hb;have n3_:=Aside0.mk hi;have n4_:=Aside0.mk (IsS116.ne_blk hi (blk_below (bkA BK271) hb2) (by decide));have n5_:=Aside0.mk (Ne.symm (IsS116.ne_blk hi (blk_below (bkA BK271) hb2) (by decide)));have n6_:=Aside0.mk (IsS116.ne_blk hi (blk_below (bkA BK272) hb2) (by decide));have n7_:=Aside0.mk (Ne.symm (IsS116.ne_blk hi (blk_below (bkA BK272) hb2) (by decide)));clear BK271;clear BK272;clear HB;have BK271:=n0_;have BK272:=n1_;have HB:=n2_;have HI276:=n3_;have NB276_271:=n4_;have NB271_276:=n5_;have NB276_272:=n6_;have NB272_276:=n7_;clear n0_ n1_ n2_ n3_ n4_ n5_ n6_ n7_;clear hi hb hb2)|((with_reducible refine gd 12 rfl ?_);refine gC (some 12) rfl Try.func87 (spec_l01Spoil.calls (w:=_) (g:=g276) (w0:=w) (hI:=iA HI276) (hB:=blI) (h:=A3.out)) ?_;rintro w32 ⟨hi,hb,hk⟩;have n0_:=kbk hk BK271 NB271_276;have n1_:=kbk hk BK272 NB272_276;have n2_:=Aside0.mk hb;have n3_:=Aside0.mk hi;clear BK271;clear BK272;clear HB;clear HI276;have BK271:=n0_;have BK272:=n1_;have HB:=n2_;have HI276:=n3_;clear n0_ n1_ n2_ n3_;clear hi hb hk)|((with_reducible refine gate_dst (N:=7) rfl ?_);refine bxE (cs:=#[.int .i64 0,.int .i64 0,.int .i64 0]) (t:=28) ?_;intro gb283 hg w33 hbox hb;have n0_:=kB BK271 hb;have n1_:=kB BK272 hb;have n2_:=Aside0.mk (IsS116.below (iA HI276) hb);have n3_:=lI hb;have n4_:=Aside0.mk hbox;have n5_:=sI hg;have n6_:=sI hg;have n7_:=nA hg BK271;have n8_:=nB hg BK271;have n9_:=nA hg BK272;have n10_:=nB hg BK272;have n11_:=inA hg (IsS116.lt (iA HI276));have n12_:=inB hg (IsS116.lt (iA HI276));clear BK271;clear BK272;clear HI276;clear HB;have BK271:=n0_;have BK272:=n1_;have HI276:=n2_;have HB:=n3_;have BK283:=n4_;have GW283:=n5_;have GE283:=n6_;have NB271_283:=n7_;have NB283_271:=n8_;have NB272_283:=n9_;have NB283_272:=n10_;have NB276_283:=n11_;have NB283_276:=n12_;clear n0_ n1_ n2_ n3_ n4_ n5_ n6_ n7_ n8_ n9_ n10_ n11_ n12_;clear hb hbox hg;have hnb34:=NB283_271.out;have hnc34:=NB271_283.out;have hnb35:=NB283_272.out;have hnc35:=NB272_283.out;have hnb36:=NB283_276.out;have hnc36:=NB276_283.out;obtain ⟨hcz37_0,hcz37_1,hcz37_2,hfz37_0,hfz37_1,hfz37_2⟩:=cz3 BK283)|((with_reducible refine gd 16 rfl ?_);refine gC (some 16) rfl Try.func82 (spec_l01Next.calls (w:=_) (g:=g276) (w0:=w) (hI:=iA HI276) (hB:=blI) (h:=A4.out)) ?_;rintro w38 ⟨hi,hb,hk⟩;have n0_:=Aside0.mk (KeepBut.blk hk (g':=gb271) (o:=.cells #[.int .i64 0,.int .i64 0,.int .i64 0,.int .i64 0] 26 (0,0)) (bkF BK271) NB271_276.out (by simp));have n1_:=Aside0.mk (KeepBut.blk hk (g':=gb272) (o:=.cells #[.int .i64 0,.int .i64 0,.int .i64 0] 28 (0,0)) (bkF BK272) NB272_276.out (by simp));have n2_:=Aside0.mk (KeepBut.blk hk (g':=gb283) (o:=.cells #[.int .i64 t278,.int .i64 t279,.int .i64 t280] 28 (0,0)) (bpA BK283) NB283_276.out (by simp));have n3_:=Aside0.mk hb;have n4_:=Aside0.mk hi;clear BK271;clear BK272;clear BK283;clear HB;clear HI276;have BK271:=n0_;have BK272:=n1_;have BK283:=n2_;have HB:=n3_;have HI276:=n4_;clear n0_ n1_ n2_ n3_ n4_;clear hi hb hk))
  have n0_:=Aside0.mk (blk_drew BK271.out)
  have n1_:=Aside0.mk (blk_drew BK272.out)
  have n2_:=Aside0.mk (blk_drew BK283.out)
  have n3_:=Aside0.mk (IsS116.drew HI276.out)
  have n4_:=Aside0.mk (below_drew1 HB.out)
  clear BK271
  clear BK272
  clear BK283
  clear HI276
  clear HB
  have BK271:=n0_
  have BK272:=n1_
  have BK283:=n2_
  have HI276:=n3_
  have HB:=n4_
  clear n0_ n1_ n2_ n3_ n4_
  refine start_ (n:=7) (S:=fun w'=>w'.cell? ⟨gb283,0,none⟩=some (.int .i64 t278)∧w'.cell? ⟨gb283,1,none⟩=some (.int .i64 t279)∧w'.cell? ⟨gb283,2,none⟩=some (.int .i64 t280)) (ds:=[]) #[Z,Z,Z,Z,Z,Z,Z] (by kernel_rfl) rfl rfl ⟨cA BK283 0,cA BK283 1,cA BK283 2⟩ (fun hHeld=>?_)
  generalize w38.drew=w39 at BK271 BK272 BK283 HI276 HB hHeld ⊢
  refine pure_ (i:=0) (N:=some 19) (v:=?_) (a':=?_) #[Y,Z,Z,Z,Z,Z,Z] rfl rfl (by kernel_rfl) (fun _ _ _ h=>h) (Or.inl ⟨by rfl,?_⟩) ?_ ?_
  rotate_left
  ·
   intro w'
   go_simp
   with_reducible rfl
  rotate_left
  ·
   simp only [pA]
   rfl
  refine pure_ (i:=1) (N:=some 20) (v:=?_) (a':=?_) #[Y,Y,Z,Z,Z,Z,Z] rfl rfl (by kernel_rfl) (fun _ _ _ h=>h) (Or.inl ⟨by rfl,?_⟩) ?_ ?_
  rotate_left
  ·
   intro w'
   go_simp
   with_reducible rfl
  rotate_left
  ·
   simp only [pA]
   rfl
  refine take_ (i:=3) (N:=some 22) (v:=?_) (a':=?_) #[Y,Y,Z,Y,Z,Z,Z] rfl rfl (by kernel_rfl) (fun _ _ _ h=>h) (Or.inl ⟨by rfl,?_⟩) hHeld ?_ ?_
  rotate_left
  ·
   rintro w' ⟨s0,s1,s2⟩
   go_simp
   with_reducible rfl
  rotate_left
  ·
   simp only [pA]
   rfl
  refine one_ (i:=2) (N:=some 21) #[Y,Y,Y,Y,Z,Z,Z] rfl rfl (by kernel_rfl) (by decide) (fun K hK=>?_)
  refine goC Try.func48 (spec_l04Draw.calls (w:=_) (g:=g276) (w0:=w) (hI:=iA HI276) (hB:=blI) (h:=A28.out)) ?_
  rintro w40 ⟨hi,hb,hk⟩
  replace BK271:=kbk hk BK271 NB271_276
  replace BK272:=kbk hk BK272 NB272_276
  replace BK283:=kbk hk BK283 NB283_276
  replace HB:=Aside0.mk hb
  replace HI276:=Aside0.mk hi
  (try clear hb)
  (try clear hb2)
  (try clear hk)
  (try clear hi)
  refine hK.out _ _ ⟨cA BK283 0,cA BK283 1,cA BK283 2⟩ (fun hHeld=>?_)
  clear hK K
  refine nmA ?_
  refine pure_ (i:=4) (N:=some 2) (v:=?_) (a':=?_) #[Y,Y,Y,Y,Y,Z,Z] rfl rfl (by kernel_rfl) (fun _ _ _ h=>h) (Or.inl ⟨by rfl,?_⟩) ?_ ?_
  rotate_left
  ·
   intro w'
   go_simp
   with_reducible rfl
  rotate_left
  ·
   simp only [pA]
   rfl
  refine one_ (i:=5) (N:=none) #[Y,Y,Y,Y,Y,Y,Z] rfl rfl (by kernel_rfl) (by decide) (fun K hK=>?_)
  have hs41:w40.cell? ⟨gb271,0,none⟩=some (.int .i64 0):=cA BK271 0
  have hfs41:=blk_frozen BK271.out 0
  have hns41_1:=NB272_271.out
  have hns41_2:=NB283_271.out
  have hms41_1:=NB271_272.out
  have hms41_2:=NB271_283.out
  have hs42:w40.cell? ⟨gb271,1,none⟩=some (.int .i64 0):=cA BK271 1
  have hfs42:=blk_frozen BK271.out 1
  have hns42_1:=NB272_271.out
  have hns42_2:=NB283_271.out
  have hms42_1:=NB271_272.out
  have hms42_2:=NB271_283.out
  have hs43:w40.cell? ⟨gb271,2,none⟩=some (.int .i64 0):=cA BK271 2
  have hfs43:=blk_frozen BK271.out 2
  have hns43_1:=NB272_271.out
  have hns43_2:=NB283_271.out
  have hms43_1:=NB271_272.out
  have hms43_2:=NB271_283.out
  have hs44:w40.cell? ⟨gb271,3,none⟩=some (.int .i64 0):=cA BK271 3
  have hfs44:=blk_frozen BK271.out 3
  have hns44_1:=NB272_271.out
  have hns44_2:=NB283_271.out
  have hms44_1:=NB271_272.out
  have hms44_2:=NB271_283.out
  refine skip_ (w1:=?_) (by rfl) rfl ?_ ?_
  rotate_left
  ·
   go_simp
   rfl
  refine hK.out _ _ ⟨cfB hHeld.1,cfB hHeld.2.1,cfB hHeld.2.2⟩ (fun hHeld=>?_)
  clear hK K
  refine one_ (i:=6) (N:=none) #[Y,Y,Y,Y,Y,Y,Y] rfl rfl (by kernel_rfl) (by decide) (fun K hK=>?_)
  have hs45:w40.cell? ⟨gb272,0,none⟩=some (.int .i64 0):=cA BK272 0
  have hfs45:=blk_frozen BK272.out 0
  have hns45_0:=NB271_272.out
  have hns45_2:=NB283_272.out
  have hms45_0:=NB272_271.out
  have hms45_2:=NB272_283.out
  have hs46:w40.cell? ⟨gb272,1,none⟩=some (.int .i64 0):=cA BK272 1
  have hfs46:=blk_frozen BK272.out 1
  have hns46_0:=NB271_272.out
  have hns46_2:=NB283_272.out
  have hms46_0:=NB272_271.out
  have hms46_2:=NB272_283.out
  have hs47:w40.cell? ⟨gb272,2,none⟩=some (.int .i64 0):=cA BK272 2
  have hfs47:=blk_frozen BK272.out 2
  have hns47_0:=NB271_272.out
  have hns47_2:=NB283_272.out
  have hms47_0:=NB272_271.out
  have hms47_2:=NB272_283.out
  refine skip_ (w1:=?_) (by rfl) rfl ?_ ?_
  rotate_left
  ·
   go_simp
   rfl
  refine hK.out _ _ ⟨cfB hHeld.1,cfB hHeld.2.1,cfB hHeld.2.2⟩ (fun hHeld=>?_)
  clear hK K
  refine done_ (by kernel_rfl) ?_
  try go_wp2
  refine bodyPost_ret (results_list (rs:=[.tmp 2,.cell 3 26,.cell 4 28]) rfl (by simp) (.tmp (.cell gb271 26 #[.int .i64 t293,.int .i64 t294,.int .i64 t295,.int .i64 t296] (0,0) _ rfl (bpA BK271) Try.underlying26 rfl (by kernel_rfl) (.cell gb272 28 #[.int .i64 t278,.int .i64 t279,.int .i64 t280] (0,0) _ rfl (bpA BK272) Try.underlying28 rfl (by kernel_rfl) .nil)))) rfl ?_
  exact rf0 blI
end Go.Proofs.Ytlpmefmaplhfdaa.PAll
