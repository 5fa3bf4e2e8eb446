-- turned out of the kit's print
import Derived.Test.YtpihnmmoahplgaaQx
import Derived.Test.YtpihnmmoahplgaaQimpltimes
import Derived.Test.YtpihnmmoahplgaaQspecl01End
namespace Go.Proofs.Ytpihnmmoahplgaa.PAll
open Go.RowKit Go.Proofs.YtpihnmmoahplgaaW.PrintWords Go.Proofs.YtpihnmmoahplgaaW.PrintLast Go.Proofs.YtpihnmmoahplgaaW.PrintMore
attribute [local go_sem] Go.Proofs.Ytpihnmmoahplgaa.Aux.setCell_drewN Go.Proofs.Ytpihnmmoahplgaa.Aux.isSome_setCell Go.Proofs.Ytpihnmmoahplgaa.Aux.max_eight max2_int min2_int max_two min_two max_three min_three max_four min_four
set_option linter.unusedVariables false
set_option linter.unusedSimpArgs false
def impl_ballAt.j0:Nat→Int→Int→Int→Int→Int→Bool→Option (Int × Int × Int × Bool)
 | 0,_,_,_,_,_,_=>none
 | k+1,x0,x1,x2,x3,x10,x24=>if x24=true then (some (x3,0,0,true)) else (if x10<(-6) then (some (0,0,0,false)) else ((impl_power.f k x0 (wrap64 (x3+6))).bind fun t195=>((impl_unit.f k x0 x1).bind fun t196=>((impl_unit.f k x0 x2).bind fun t197=>((impl_inverse.f k t197 t195).bind fun t198=>((impl_times.f k t196 t198 t195).bind fun t199=>((impl_power.f k x0 (wrap64 (x10+6))).bind fun t200=>((impl_times.f k t199 t200 t195).bind fun t201=>((impl_ofMark.f k x0 x3 t201).bind fun bt202=>(some (bt202.1,bt202.2.1,bt202.2.2.1,bt202.2.2.2)))))))))))
def impl_ballAt.f (k:Nat) (a0 a1 a2 a3:Int):Option (Int × Int × Int × Bool):=(impl_isLevel.f a3).bind fun t192=>(if t192=true then ((impl_valuation.f k a0 a1).bind fun t193=>((impl_valuation.f k a0 a2).bind fun t194=>(if a1=0 then (impl_ballAt.j0 k a0 a1 a2 a3 (wrap64 (t193 - t194)) true) else (impl_ballAt.j0 k a0 a1 a2 a3 (wrap64 (t193 - t194)) (decide ((wrap64 (t193 - t194))≥a3)))))) else (some (0,0,0,false)))
theorem impl_ballAt.mono_l:∀ k,(∀ y0 y1 y2 y3 y4 y5,LeO (impl_ballAt.j0 k y0 y1 y2 y3 y4 y5) (impl_ballAt.j0 (k+1) y0 y1 y2 y3 y4 y5))
 | 0=>fun _ _ _ _ _ _ r h=>by simp [impl_ballAt.j0] at h
 | k+1=>by
  have ih0:=impl_ballAt.mono_l k
  ·
   intro y0 y1 y2 y3 y4 y5
   unfold impl_ballAt.j0
   repeat' first
   | with_reducible first|exact ih0 ..|exact impl_inverse.mono ..|exact impl_ofMark.mono ..|exact impl_power.mono ..|exact impl_times.mono ..|exact impl_unit.mono ..|exact impl_valuation.mono ..|exact LeO.refl _|exact LeO.none _|refine LeO.ite ?_ ?_|refine LeO.bind ?_ fun _=>?_
theorem impl_ballAt.mono:∀ a0 a1 a2 a3 k,LeO (impl_ballAt.f k a0 a1 a2 a3) (impl_ballAt.f (k+1) a0 a1 a2 a3):=by
 intro a0 a1 a2 a3 k
 have ih0:=impl_ballAt.mono_l k
 unfold impl_ballAt.f
 repeat' first
   | with_reducible first|exact ih0 ..|exact impl_inverse.mono ..|exact impl_ofMark.mono ..|exact impl_power.mono ..|exact impl_times.mono ..|exact impl_unit.mono ..|exact impl_valuation.mono ..|exact LeO.refl _|exact LeO.none _|refine LeO.ite ?_ ?_|refine LeO.bind ?_ fun _=>?_
set_option maxHeartbeats 8000000 in
set_option maxRecDepth 100000 in
theorem impl_ballAt.calls (k:Nat) (a0 a1 a2 a3 r1 r2 r3:Int) (r4:Bool) (w:World) (h:impl_ballAt.f k a0 a1 a2 a3=some (r1,r2,r3,r4)) :
  Calls Try.prog 38 #[.int .i64 a0,.int .i64 a1,.int .i64 a2,.int .i64 a3] w fun e w'=>e=.returned (.tuple #[.agg #[.int .i64 r1,.int .i64 r2,.int .i64 r3],.bool r4])∧Below w.heap.size w w':=by
 have hu25:=Try.underlying25
 have HB:=Aside0.mk (Below.refl w.heap.size w)
 have H:=h
 unfold impl_ballAt.f at H
 clear h
 replace H:=bS H
 obtain ⟨t192,A5,H⟩:=H
 try dsimp only at H
 by_cases c6:t192=true
 ·
  subst c6
  rw [if_pos rfl] at H
  try dsimp only at H
  replace H:=bS H
  obtain ⟨t193,A7,H⟩:=H
  try dsimp only at H
  replace H:=bS H
  obtain ⟨t194,A8,H⟩:=H
  try dsimp only at H
  have HC9:=Aside0.mk H
  clear H
  go_enter Try.func38,Try.ntmps38
  go_upto_region 4 with (first|((with_reducible refine gate_dst (N:=8) rfl ?_);refine bxE (cs:=#[.int .i64 0,.int .i64 0,.int .i64 0]) (t:=25) ?_;intro gb191 hg w10 hbox hb;have BK191:=Aside0.mk hbox;have GW191:=sA hg;have GE191:=sA hg;replace HB:=lB hb;clear hb hbox hg)|((with_reducible refine gd 14 rfl ?_);refine gC (some 14) rfl Try.func75 (impl_isLevel.calls (w:=_) (h:=A5.out)) ?_;rintro _ ⟨nd,rfl⟩)|((with_reducible refine gd 19 rfl ?_);refine gC (some 19) rfl Try.func54 (impl_valuation.calls (w:=_) (h:=A7.out)) ?_;rintro _ ⟨nd,rfl⟩)|((with_reducible refine gd 22 rfl ?_);refine gC (some 22) rfl Try.func54 (impl_valuation.calls (w:=_) (h:=A8.out)) ?_;rintro _ ⟨nd,rfl⟩))
  (try simp only [Act.put,List.setIfInBounds_toArray,List.set_cons_zero,List.set_cons_succ])
  go_cut [24] (fun v24 wc=>∃ (kq:Nat) (x24_8:Bool),v24=.bool x24_8∧Aside0 (impl_ballAt.j0 kq a0 a1 a2 a3 (wrap64 (t193 - t194)) x24_8=some (r1,r2,r3,r4))∧Aside0 (kq≤k)∧Aside0 (wc.heap[gb191]?=some (.cells #[.int .i64 0,.int .i64 0,.int .i64 0] 25 (0,0)))∧Aside0 (Below w.heap.size w wc))
  case first=>
   have H:=HC9.out
   clear HC9
   by_cases c11:a1=0
   ·
    rw [if_pos c11] at H
    have c11b0:(a1 == 0)=true:=beq_iff_eq.mpr c11
    have c11b1:(a1 != 0)=false:=bne_eq_false_iff_eq.mpr c11
    clear c11
    (first|rw [c11b0]|(simp only [i64_w,i32_w];rw [c11b0])|skip)
    have H':=Aside0.mk H
    clear H
    go_wp2
    go_meet
    case rel=>exact ⟨_,(true),hB,H',⟨by first|omega|exact Nat.le_refl _⟩,⟨bkA BK191⟩,⟨blA⟩⟩
   ·
    rw [if_neg c11] at H
    have c11b0:(a1 == 0)=false:=beq_eq_false_iff_ne.mpr c11
    have c11b1:(a1 != 0)=true:=bne_iff_ne.mpr c11
    (first|rw [c11b0]|(simp only [i64_w,i32_w];rw [c11b0])|skip)
    have H':=Aside0.mk H
    clear H
    go_wp2
    go_meet
    case rel=>exact ⟨_,(decide ((wrap64 (t193 - t194))≥a3)),hB,H',⟨by first|omega|exact Nat.le_refl _⟩,⟨bkA BK191⟩,⟨blA⟩⟩
  case rest=>
   clear HC9
   try clear c6
   try clear c11
   try clear c11b0
   try clear c11b1
   obtain ⟨kq,x24_8,rfl,HA,HJ8,BK191,HB⟩:=hcut
   cases kq with
   | zero=>exact absurd HA.out (by simp [impl_ballAt.j0])
   | succ kj8=>
    have H:=HA.out
    clear HA
    simp only [impl_ballAt.j0] at H
    by_cases c12:x24_8=true
    ·
     subst c12
     rw [if_pos rfl] at H
     try dsimp only at H
     simp only [Option.some.injEq,Prod.mk.injEq] at H
     obtain ⟨rfl,rfl,rfl,rfl⟩:=H
     obtain ⟨hcz13_0,hcz13_1,hcz13_2,hfz13_0,hfz13_1,hfz13_2⟩:=cz3 BK191
     go_wp2
     refine bodyPost_ret (results_ct rfl _ _ gb191 25 #[.int .i64 a3,.int .i64 0,.int .i64 0] (0,0) _ rfl (bpA BK191) Try.underlying25 rfl (by kernel_rfl)) rfl ?_
     exact finA blA
    ·
     replace c12:=Bool.eq_false_iff.mpr c12
     subst c12
     rw [if_neg (show ¬ (false=true) by decide)] at H
     try dsimp only at H
     by_cases c14:(wrap64 (t193 - t194))<(-6)
     ·
      rw [if_pos c14] at H
      have c14b0:=decide_eq_true c14
      clear c14
      simp only [Option.some.injEq,Prod.mk.injEq] at H
      obtain ⟨rfl,rfl,rfl,rfl⟩:=H
      obtain ⟨hcz15_0,hcz15_1,hcz15_2,hfz15_0,hfz15_1,hfz15_2⟩:=cz3 BK191
      go_wp2
      refine bodyPost_ret (results_ct rfl _ _ gb191 25 #[.int .i64 0,.int .i64 0,.int .i64 0] (0,0) _ rfl (bpA BK191) Try.underlying25 rfl (by kernel_rfl)) rfl ?_
      exact finA blA
     ·
      rw [if_neg c14] at H
      have c14b0:=decide_eq_false c14
      clear c14
      replace H:=bS H
      obtain ⟨t195,A16,H⟩:=H
      try dsimp only at H
      replace H:=bS H
      obtain ⟨t196,A17,H⟩:=H
      try dsimp only at H
      replace H:=bS H
      obtain ⟨t197,A18,H⟩:=H
      try dsimp only at H
      replace H:=bS H
      obtain ⟨t198,A19,H⟩:=H
      try dsimp only at H
      replace H:=bS H
      obtain ⟨t199,A20,H⟩:=H
      try dsimp only at H
      replace H:=bS H
      obtain ⟨t200,A21,H⟩:=H
      try dsimp only at H
      replace H:=bS H
      obtain ⟨t201,A22,H⟩:=H
      try dsimp only at H
      replace H:=bS H
      obtain ⟨⟨t202,t203,t204,t205⟩,A23,H⟩:=H
      try dsimp only at H
      simp only [Option.some.injEq,Prod.mk.injEq] at H
      obtain ⟨rfl,rfl,rfl,rfl⟩:=H
      go_wp2_with (first|((with_reducible refine gd 41 rfl ?_);refine gC (some 41) rfl Try.func76 (impl_power.calls (w:=_) (h:=A16.out)) ?_;rintro _ ⟨nd,rfl⟩;(try (rw [drewN_self wc];generalize hq_:World.drewN wc _=wc;replace BK191:=Aside0.mk (by rw [← hq_];exact (bkA BK191));replace HB:=Aside0.mk (by rw [← hq_];exact blA);clear hq_)))|((with_reducible refine gd 44 rfl ?_);refine gC (some 44) rfl Try.func78 (impl_unit.calls (w:=_) (h:=A17.out)) ?_;rintro _ ⟨nd,rfl⟩;(try (rw [drewN_self wc];generalize hq_:World.drewN wc _=wc;replace BK191:=Aside0.mk (by rw [← hq_];exact (bkA BK191));replace HB:=Aside0.mk (by rw [← hq_];exact blA);clear hq_)))|((with_reducible refine gd 47 rfl ?_);refine gC (some 47) rfl Try.func78 (impl_unit.calls (w:=_) (h:=A18.out)) ?_;rintro _ ⟨nd,rfl⟩;(try (rw [drewN_self wc];generalize hq_:World.drewN wc _=wc;replace BK191:=Aside0.mk (by rw [← hq_];exact (bkA BK191));replace HB:=Aside0.mk (by rw [← hq_];exact blA);clear hq_)))|((with_reducible refine gd 49 rfl ?_);refine gC (some 49) rfl Try.func79 (impl_inverse.calls (w:=_) (h:=A19.out)) ?_;rintro _ ⟨nd,rfl⟩;(try (rw [drewN_self wc];generalize hq_:World.drewN wc _=wc;replace BK191:=Aside0.mk (by rw [← hq_];exact (bkA BK191));replace HB:=Aside0.mk (by rw [← hq_];exact blA);clear hq_)))|((with_reducible refine gd 51 rfl ?_);refine gC (some 51) rfl Try.func77 (impl_times.calls (w:=_) (h:=A20.out)) ?_;rintro _ ⟨nd,rfl⟩;(try (rw [drewN_self wc];generalize hq_:World.drewN wc _=wc;replace BK191:=Aside0.mk (by rw [← hq_];exact (bkA BK191));replace HB:=Aside0.mk (by rw [← hq_];exact blA);clear hq_)))|((with_reducible refine gd 58 rfl ?_);refine gC (some 58) rfl Try.func76 (impl_power.calls (w:=_) (h:=A21.out)) ?_;rintro _ ⟨nd,rfl⟩;(try (rw [drewN_self wc];generalize hq_:World.drewN wc _=wc;replace BK191:=Aside0.mk (by rw [← hq_];exact (bkA BK191));replace HB:=Aside0.mk (by rw [← hq_];exact blA);clear hq_)))|((with_reducible refine gd 60 rfl ?_);refine gC (some 60) rfl Try.func77 (impl_times.calls (w:=_) (h:=A22.out)) ?_;rintro _ ⟨nd,rfl⟩;(try (rw [drewN_self wc];generalize hq_:World.drewN wc _=wc;replace BK191:=Aside0.mk (by rw [← hq_];exact (bkA BK191));replace HB:=Aside0.mk (by rw [← hq_];exact blA);clear hq_)))|((with_reducible refine gd 61 rfl ?_);refine gC (some 61) rfl Try.func80 (impl_ofMark.calls (w:=_) (h:=A23.out)) ?_;intro w24 hb;replace BK191:=kB BK191 hb;replace HB:=lB hb;clear hb;obtain ⟨hcz25_0,hcz25_1,hcz25_2,hfz25_0,hfz25_1,hfz25_2⟩:=cz3 BK191))
      refine bodyPost_ret (results_ct rfl _ _ gb191 25 #[.int .i64 t202,.int .i64 t203,.int .i64 t204] (0,0) _ rfl (bpA BK191) Try.underlying25 rfl (by kernel_rfl)) rfl ?_
      exact finA blA
 ·
  replace c6:=Bool.eq_false_iff.mpr c6
  subst c6
  rw [if_neg (show ¬ (false=true) by decide)] at H
  try dsimp only at H
  simp only [Option.some.injEq,Prod.mk.injEq] at H
  obtain ⟨rfl,rfl,rfl,rfl⟩:=H
  go_enter Try.func38,Try.ntmps38
  go_wp2_with (first|((with_reducible refine gate_dst (N:=8) rfl ?_);refine bxE (cs:=#[.int .i64 0,.int .i64 0,.int .i64 0]) (t:=25) ?_;intro gb191 hg w26 hbox hb;have BK191:=Aside0.mk hbox;have GW191:=sA hg;have GE191:=sA hg;replace HB:=lB hb;clear hb hbox hg)|((with_reducible refine gd 14 rfl ?_);refine gC (some 14) rfl Try.func75 (impl_isLevel.calls (w:=_) (h:=A5.out)) ?_;rintro _ ⟨nd,rfl⟩;(try (rw [drewN_self w26];generalize hq_:World.drewN w26 _=w26;replace BK191:=Aside0.mk (by rw [← hq_];exact (bkA BK191));replace HB:=Aside0.mk (by rw [← hq_];exact blA);clear hq_));obtain ⟨hcz27_0,hcz27_1,hcz27_2,hfz27_0,hfz27_1,hfz27_2⟩:=cz3 BK191))
  refine bodyPost_ret (results_ct rfl _ _ gb191 25 #[.int .i64 0,.int .i64 0,.int .i64 0] (0,0) _ rfl (bpA BK191) Try.underlying25 rfl (by kernel_rfl)) rfl ?_
  exact finA blA
end Go.Proofs.Ytpihnmmoahplgaa.PAll
