-- turned out of the kit's print
import Derived.Test.YtboneolhoajaoaaQx
import Derived.Test.YtboneolhoajaoaaQLeqBall
namespace Go.Proofs.Ytboneolhoajaoaa.PAll
open Go.RowKit Go.Proofs.YtboneolhoajaoaaW.PrintWords Go.Proofs.YtboneolhoajaoaaW.PrintLast Go.Proofs.YtboneolhoajaoaaW.PrintMore
attribute [local go_sem] Go.Proofs.Ytboneolhoajaoaa.Aux.setCell_drewN Go.Proofs.Ytboneolhoajaoaa.Aux.isSome_setCell max2_int min2_int max_two min_two max_three min_three max_four min_four
set_option linter.unusedVariables false
set_option linter.unusedSimpArgs false
def impl_unit.f (k:Nat) (a0 a1:Int):Option (Int):=(impl_valuation.f k a0 a1).bind fun t108=>((impl_power.f k a0 t108).bind fun t109=>(if t109=0 then (none) else (some (wrap64 (Int.tdiv a1 t109)))))
theorem impl_unit.mono:∀ a0 a1 k,LeO (impl_unit.f k a0 a1) (impl_unit.f (k+1) a0 a1):=by
 intro a0 a1 k
 unfold impl_unit.f
 repeat' first
   | with_reducible first|exact impl_power.mono ..|exact impl_valuation.mono ..|exact LeO.refl _|exact LeO.none _|refine LeO.ite ?_ ?_|refine LeO.bind ?_ fun _=>?_
set_option maxHeartbeats 8000000 in
set_option maxRecDepth 100000 in
theorem impl_unit.calls (k:Nat) (a0 a1 r:Int) (w:World) (h:impl_unit.f k a0 a1=some r) :
  Calls Try.prog 31 #[.int .i64 a0,.int .i64 a1] w fun e w'=>e=.returned (.int .i64 r)∧Drawn0 w w':=by
 have H:=h
 unfold impl_unit.f at H
 clear h
 replace H:=bS H
 obtain ⟨t108,A3,H⟩:=H
 try dsimp only at H
 replace H:=bS H
 obtain ⟨t109,A4,H⟩:=H
 try dsimp only at H
 by_cases c5:t109=0
 ·
  rw [if_pos c5] at H
  exact absurd H (by simp)
 rw [if_neg c5] at H
 have c5b0:(t109 == 0)=false:=beq_eq_false_iff_ne.mpr c5
 have c5b1:(t109 != 0)=true:=bne_iff_ne.mpr c5
 obtain rfl:=Option.some.inj H
 go_enter Try.func31,Try.ntmps31
 go_wp2_with (first|((with_reducible refine gd 9 rfl ?_);refine gC (some 9) rfl Try.func28 (impl_valuation.calls (w:=_) (h:=A3.out)) ?_;rintro _ ⟨nd,rfl⟩)|((with_reducible refine gd 10 rfl ?_);refine gC (some 10) rfl Try.func29 (impl_power.calls (w:=_) (h:=A4.out)) ?_;rintro _ ⟨nd,rfl⟩))
 go_ret
 exact ⟨by first|rfl|(simp;done)|(simp [*];done),by repeat (first|exact Drawn0.refl _|apply Drawn0.step)⟩
def impl_inverse.l0:Nat→Int→Int→Int→Int→Int→Option (Int)
 | 0,_,_,_,_,_=>none
 | k+1,x1,x5,x6,x7,x8=>if x6=0 then ((impl_mod.f x7 x1).bind fun t111=>(some t111)) else (impl_inverse.l0 k x1 x6 (wrap64 (x5 - (wrap64 ((wrap64 (Int.tdiv x5 x6))*x6)))) x8 (wrap64 (x7 - (wrap64 ((wrap64 (Int.tdiv x5 x6))*x8)))))
def impl_inverse.f (k:Nat) (a0 a1:Int):Option (Int):=(impl_mod.f a0 a1).bind fun t110=>(impl_inverse.l0 k a1 t110 a1 1 0)
theorem impl_inverse.mono_l:∀ k,(∀ y0 y1 y2 y3 y4,LeO (impl_inverse.l0 k y0 y1 y2 y3 y4) (impl_inverse.l0 (k+1) y0 y1 y2 y3 y4))
 | 0=>fun _ _ _ _ _ r h=>by simp [impl_inverse.l0] at h
 | k+1=>by
  have ih0:=impl_inverse.mono_l k
  ·
   intro y0 y1 y2 y3 y4
   unfold impl_inverse.l0
   repeat' first
   | with_reducible first|exact ih0 ..|exact LeO.refl _|exact LeO.none _|refine LeO.ite ?_ ?_|refine LeO.bind ?_ fun _=>?_
theorem impl_inverse.mono:∀ a0 a1 k,LeO (impl_inverse.f k a0 a1) (impl_inverse.f (k+1) a0 a1):=by
 intro a0 a1 k
 have ih0:=impl_inverse.mono_l k
 unfold impl_inverse.f
 repeat' first
   | with_reducible first|exact ih0 ..|exact LeO.refl _|exact LeO.none _|refine LeO.ite ?_ ?_|refine LeO.bind ?_ fun _=>?_
set_option maxHeartbeats 8000000 in
set_option maxRecDepth 100000 in
theorem impl_inverse.calls (k:Nat) (a0 a1 r:Int) (w:World) (h:impl_inverse.f k a0 a1=some r) :
  Calls Try.prog 32 #[.int .i64 a0,.int .i64 a1] w fun e w'=>e=.returned (.int .i64 r)∧Drawn0 w w':=by
 have H:=h
 unfold impl_inverse.f at H
 clear h
 replace H:=bS H
 obtain ⟨t110,A3,H⟩:=H
 try dsimp only at H
 have H':=Aside0.mk H
 clear H
 go_enter Try.func32,Try.ntmps32
 go_wp2_with (first|((with_reducible refine gd 12 rfl ?_);refine gC (some 12) rfl Try.func44 (impl_mod.calls (w:=_) (h:=A3.out)) ?_;rintro _ ⟨nd,rfl⟩))
 go_loopg [5,6,7,8] k (fun kq v5 v6 v7 v8 w'=>∃ (x5_1:Int) (x6_1:Int) (x7_1:Int) (x8_1:Int),v5=.int .i64 x5_1∧v6=.int .i64 x6_1∧v7=.int .i64 x7_1∧v8=.int .i64 x8_1∧Aside0 (impl_inverse.l0 kq a1 x5_1 x6_1 x7_1 x8_1=some r)∧Aside0 (kq≤k)∧Drawn0 w w')
 case atStart=>exact ⟨(t110),(a1),(1),(0),hB,hB,hB,hB,H',⟨Nat.le_refl _⟩,by repeat (first|exact Drawn0.refl _|apply Drawn0.step)⟩
 case round=>
  clear H'
  obtain ⟨x5_1,x6_1,x7_1,x8_1,rfl,rfl,rfl,rfl,HA,HK1,⟨m1,rfl⟩⟩:=hrel
  cases gk with
  | zero=>exact absurd HA.out (by simp [impl_inverse.l0])
  | succ k1=>
   have H:=HA.out
   clear HA
   simp only [impl_inverse.l0] at H
   by_cases c4:x6_1=0
   ·
    rw [if_pos c4] at H
    have c4b0:(x6_1 == 0)=true:=beq_iff_eq.mpr c4
    have c4b1:(x6_1 != 0)=false:=bne_eq_false_iff_eq.mpr c4
    clear c4
    replace H:=bS H
    obtain ⟨t111,A5,H⟩:=H
    try dsimp only at H
    obtain rfl:=Option.some.inj H
    go_wp2_with (first|((with_reducible refine gd 33 rfl ?_);refine gC (some 33) rfl Try.func44 (impl_mod.calls (w:=_) (h:=A5.out)) ?_;rintro _ ⟨nd,rfl⟩))
    go_ret
    exact ⟨by first|rfl|(simp;done)|(simp [*];done),by repeat (first|exact Drawn0.refl _|apply Drawn0.step)⟩
   ·
    rw [if_neg c4] at H
    have c4b0:(x6_1 == 0)=false:=beq_eq_false_iff_ne.mpr c4
    have c4b1:(x6_1 != 0)=true:=bne_iff_ne.mpr c4
    have H':=Aside0.mk H
    clear H
    go_wp2
    go_roundg k1
    case measure=>have:=HK1.out;omega
    case rel=>exact ⟨(x6_1),(wrap64 (x5_1 - (wrap64 ((wrap64 (Int.tdiv x5_1 x6_1))*x6_1)))),(x8_1),(wrap64 (x7_1 - (wrap64 ((wrap64 (Int.tdiv x5_1 x6_1))*x8_1)))),hB,hB,hB,hB,H',⟨by have:=HK1.out;omega⟩,by repeat (first|exact Drawn0.refl _|apply Drawn0.step)⟩
def impl_ofMark.f (k:Nat) (a0 a1 a2:Int):Option (Int × Int × Int × Bool):=(impl_isLevel.f a1).bind fun t113=>(if t113=true then ((impl_power.f k a0 (wrap64 (a1+6))).bind fun t114=>((impl_mod.f a2 t114).bind fun t115=>((impl_valuation.f k a0 t115).bind fun t116=>((impl_power.f k a0 (wrap64 (6 - (mx (wrap64 (6 - t116)) 0)))).bind fun t117=>(if t117=0 then (none) else (some (a1,wrap64 (Int.tdiv t115 t117),mx (wrap64 (6 - t116)) 0,true))))))) else (some (0,0,0,false)))
theorem impl_ofMark.mono:∀ a0 a1 a2 k,LeO (impl_ofMark.f k a0 a1 a2) (impl_ofMark.f (k+1) a0 a1 a2):=by
 intro a0 a1 a2 k
 unfold impl_ofMark.f
 repeat' first
   | with_reducible first|exact impl_power.mono ..|exact impl_valuation.mono ..|exact LeO.refl _|exact LeO.none _|refine LeO.ite ?_ ?_|refine LeO.bind ?_ fun _=>?_
set_option maxHeartbeats 8000000 in
set_option maxRecDepth 100000 in
theorem impl_ofMark.calls (k:Nat) (a0 a1 a2 r1 r2 r3:Int) (r4:Bool) (w:World) (h:impl_ofMark.f k a0 a1 a2=some (r1,r2,r3,r4)) :
  Calls Try.prog 33 #[.int .i64 a0,.int .i64 a1,.int .i64 a2] w fun e w'=>e=.returned (.tuple #[.agg #[.int .i64 r1,.int .i64 r2,.int .i64 r3],.bool r4])∧Below w.heap.size w w':=by
 have hu38:=Try.underlying38
 have HB:=Aside0.mk (Below.refl w.heap.size w)
 have H:=h
 unfold impl_ofMark.f at H
 clear h
 replace H:=bS H
 obtain ⟨t113,A4,H⟩:=H
 try dsimp only at H
 by_cases c5:t113=true
 focus
  subst c5
  rw [if_pos rfl] at H
  try dsimp only at H
  replace H:=bS H
  obtain ⟨t114,A6,H⟩:=H
  try dsimp only at H
  replace H:=bS H
  obtain ⟨t115,A7,H⟩:=H
  try dsimp only at H
  replace H:=bS H
  obtain ⟨t116,A8,H⟩:=H
  try dsimp only at H
  obtain ⟨ji9,hji9⟩:∃ j_:Int,(mx (wrap64 (6 - t116)) 0)=j_:=⟨_,rfl⟩
  replace H:((impl_power.f k a0 (wrap64 (6 - (ji9)))).bind fun t117=>(if t117=0 then (none) else (some (a1,wrap64 (Int.tdiv t115 t117),ji9,true))))=some (r1,r2,r3,r4):=by first|(rw [hji9] at H;exact H)|(simp only [hji9] at H ⊢;exact H)
  (try rw [hji9] at A4)
  (try rw [hji9] at A6)
  (try rw [hji9] at A7)
  (try rw [hji9] at A8)
  (try (have hji9l:0≤ji9:=by (rw [← hji9];unfold mx;(repeat' split) <;> omega)))
  (try (have hji9m:0≤ji9:=by omega))
  have hji9_:(if (wrap64 (6 - t116))<0 then 0 else (wrap64 (6 - t116)))=ji9:=hji9
  replace H:=bS H
  obtain ⟨t117,A10,H⟩:=H
  try dsimp only at H
  by_cases c11:t117=0
  ·
   rw [if_pos c11] at H
   exact absurd H (by simp)
  rw [if_neg c11] at H
  have c11b0:(t117 == 0)=false:=beq_eq_false_iff_ne.mpr c11
  have c11b1:(t117 != 0)=true:=bne_iff_ne.mpr c11
  simp only [Option.some.injEq,Prod.mk.injEq] at H
  obtain ⟨rfl,rfl,rfl,rfl⟩:=H
 rotate_left
 focus
  replace c5:=Bool.eq_false_iff.mpr c5
  subst c5
  rw [if_neg (show ¬ (false=true) by decide)] at H
  try dsimp only at H
  simp only [Option.some.injEq,Prod.mk.injEq] at H
  obtain ⟨rfl,rfl,rfl,rfl⟩:=H
 rotate_left
 all_goals
  go_enter Try.func33,Try.ntmps33
  go_wp2_with (first|((with_reducible refine gate_dst (N:=6) rfl ?_);refine bxE (cs:=#[.int .i64 0,.int .i64 0,.int .i64 0]) (t:=38) ?_;intro gb112 hg w12 hbox hb;have BK112:=Aside0.mk hbox;have GW112:=sA hg;have GE112:=sA hg;replace HB:=lB hb;clear hb hbox hg)|((with_reducible refine gd 10 rfl ?_);refine gC (some 10) rfl Try.func27 (impl_isLevel.calls (w:=_) (h:=A4.out)) ?_;rintro _ ⟨nd,rfl⟩;(try (rw [drewN_self w12];generalize hq_:World.drewN w12 _=w12;replace BK112:=Aside0.mk (by rw [← hq_];exact (bkA BK112));replace HB:=Aside0.mk (by rw [← hq_];exact blA);clear hq_));obtain ⟨hcz15_0,hcz15_1,hcz15_2,hfz15_0,hfz15_1,hfz15_2⟩:=cz3 BK112)|((with_reducible refine gd 17 rfl ?_);refine gC (some 17) rfl Try.func29 (impl_power.calls (w:=_) (h:=A6.out)) ?_;rintro _ ⟨nd,rfl⟩;(try (rw [drewN_self w12];generalize hq_:World.drewN w12 _=w12;replace BK112:=Aside0.mk (by rw [← hq_];exact (bkA BK112));replace HB:=Aside0.mk (by rw [← hq_];exact blA);clear hq_)))|((with_reducible refine gd 18 rfl ?_);refine gC (some 18) rfl Try.func44 (impl_mod.calls (w:=_) (h:=A7.out)) ?_;rintro _ ⟨nd,rfl⟩;(try (rw [drewN_self w12];generalize hq_:World.drewN w12 _=w12;replace BK112:=Aside0.mk (by rw [← hq_];exact (bkA BK112));replace HB:=Aside0.mk (by rw [← hq_];exact blA);clear hq_)))|((with_reducible refine gd 21 rfl ?_);refine gC (some 21) rfl Try.func28 (impl_valuation.calls (w:=_) (h:=A8.out)) ?_;rintro _ ⟨nd,rfl⟩;(try (rw [drewN_self w12];generalize hq_:World.drewN w12 _=w12;replace BK112:=Aside0.mk (by rw [← hq_];exact (bkA BK112));replace HB:=Aside0.mk (by rw [← hq_];exact blA);clear hq_)))|((with_reducible refine gate_callee (f:=29) rfl ?_);refine goesL_ (some 29) rfl rfl Try.func29 (by kernel_rfl) rfl #[.int .i64 a0,.int .i64 (wrap64 (6 - (ji9)))] rfl (by (try simp only [List.map_toArray,List.map_cons,List.map_nil]);first|done|(simp only [hji9];rfl)|rfl|(simp only [List.length_drop,List.length_take];rfl)) ?_;(with_reducible refine (impl_power.calls k a0 (wrap64 (6 - (ji9))) t117 _ A10.out).mono ?_);rintro e w' ⟨rfl,⟨nd,rfl⟩⟩;refine ⟨_,rfl,?_⟩;(try (rw [drewN_self w12];generalize hq_:World.drewN w12 _=w12;replace BK112:=Aside0.mk (by rw [← hq_];exact (bkA BK112));replace HB:=Aside0.mk (by rw [← hq_];exact blA);clear hq_));obtain ⟨hcz13_0,hcz13_1,hcz13_2,hfz13_0,hfz13_1,hfz13_2⟩:=cz3 BK112))
 ·
  refine bodyPost_ret (results_ct rfl _ _ gb112 38 #[.int .i64 a1,.int .i64 (wrap64 (Int.tdiv t115 t117)),.int .i64 ji9] (0,0) _ rfl (bpA BK112) Try.underlying38 rfl (by kernel_rfl)) rfl ?_
  exact ⟨by first|rfl|(simp [errW_none,errW_some] <;> rfl)|(simp only [← hji9];first|rfl|(simp [errW_none,errW_some] <;> rfl))|(simp [*,errW_none,errW_some] <;> rfl),blA⟩
 ·
  refine bodyPost_ret (results_ct rfl _ _ gb112 38 #[.int .i64 0,.int .i64 0,.int .i64 0] (0,0) _ rfl (bpA BK112) Try.underlying38 rfl (by kernel_rfl)) rfl ?_
  exact finA blA
def spec_l01Is.j0:Nat→Int→Bool→Int→Int→Int→Option (Bool)
 | 0,_,_,_,_,_=>none
 | k+1,x0,x20,x134000,x134001,x134002=>if x20=true then (some false) else (if (wrap64 (x134000+x134002))≤0 then (if x134001=0 then (some (x134002 == 0)) else (some false)) else ((spec_l01Power.f k x0 (wrap64 (x134000+x134002))).bind fun t137=>((spec_l01In.f x134001 0 (wrap64 (t137 - 1))).bind fun t138=>(if t138=true then (if x134002=0 then (some true) else (if x0=0 then (none) else (some ((Int.tmod x134001 x0) != 0)))) else (some false)))))
def spec_l01Is.f (k:Nat) (a0 a1_0 a1_1 a1_2:Int):Option (Bool):=(spec_l01Prime.f a0).bind fun t134=>(if t134=true then ((spec_l01In.f a1_0 (-6) 6).bind fun t135=>(if t135=true then ((spec_l01In.f a1_2 0 6).bind fun t136=>(spec_l01Is.j0 k a0 (!t136) a1_0 a1_1 a1_2)) else (spec_l01Is.j0 k a0 true a1_0 a1_1 a1_2))) else (spec_l01Is.j0 k a0 true a1_0 a1_1 a1_2))
theorem spec_l01Is.mono_l:∀ k,(∀ y0 y1 y2 y3 y4,LeO (spec_l01Is.j0 k y0 y1 y2 y3 y4) (spec_l01Is.j0 (k+1) y0 y1 y2 y3 y4))
 | 0=>fun _ _ _ _ _ r h=>by simp [spec_l01Is.j0] at h
 | k+1=>by
  have ih0:=spec_l01Is.mono_l k
  ·
   intro y0 y1 y2 y3 y4
   unfold spec_l01Is.j0
   repeat' first
   | with_reducible first|exact ih0 ..|exact spec_l01Power.mono ..|exact LeO.refl _|exact LeO.none _|refine LeO.ite ?_ ?_|refine LeO.bind ?_ fun _=>?_
theorem spec_l01Is.mono:∀ a0 a1 a2 a3 k,LeO (spec_l01Is.f k a0 a1 a2 a3) (spec_l01Is.f (k+1) a0 a1 a2 a3):=by
 intro a0 a1 a2 a3 k
 have ih0:=spec_l01Is.mono_l k
 unfold spec_l01Is.f
 repeat' first
   | with_reducible first|exact ih0 ..|exact spec_l01Power.mono ..|exact LeO.refl _|exact LeO.none _|refine LeO.ite ?_ ?_|refine LeO.bind ?_ fun _=>?_
set_option maxHeartbeats 8000000 in
set_option maxRecDepth 100000 in
theorem spec_l01Is.calls (k:Nat) (a0 a1_0 a1_1 a1_2:Int) (r:Bool) (w:World) (h:spec_l01Is.f k a0 a1_0 a1_1 a1_2=some r) :
  Calls Try.prog 36 #[.int .i64 a0,.agg #[.int .i64 a1_0,.int .i64 a1_1,.int .i64 a1_2]] w fun e w'=>e=.returned (.bool r)∧Below w.heap.size w w':=by
 have hu38:=Try.underlying38
 have HB:=Aside0.mk (Below.refl w.heap.size w)
 have H:=h
 unfold spec_l01Is.f at H
 clear h
 have HC3:=Aside0.mk H
 clear H
 go_enter Try.func36,Try.ntmps36
 go_upto_region 1 with (first|((with_reducible refine gate_dst (N:=3) rfl ?_);refine bxE (cs:=#[.int .i64 a1_0,.int .i64 a1_1,.int .i64 a1_2]) (t:=38) ?_;intro gb133 hg w4 hbox hb;have BK133:=Aside0.mk hbox;have GW133:=sA hg;have GE133:=sA hg;replace HB:=lB hb;clear hb hbox hg))
 repeat (go_quiet (first|((with_reducible refine gate_dst (N:=3) rfl ?_);refine bxE (cs:=#[.int .i64 a1_0,.int .i64 a1_1,.int .i64 a1_2]) (t:=38) ?_;intro gb133 hg w4 hbox hb;have BK133:=Aside0.mk hbox;have GW133:=sA hg;have GE133:=sA hg;replace HB:=lB hb;clear hb hbox hg));go_upto_region 1 with (first|((with_reducible refine gate_dst (N:=3) rfl ?_);refine bxE (cs:=#[.int .i64 a1_0,.int .i64 a1_1,.int .i64 a1_2]) (t:=38) ?_;intro gb133 hg w4 hbox hb;have BK133:=Aside0.mk hbox;have GW133:=sA hg;have GE133:=sA hg;replace HB:=lB hb;clear hb hbox hg)))
 (try simp only [Act.put,List.setIfInBounds_toArray,List.set_cons_zero,List.set_cons_succ])
 go_cut [20] (fun v20 wc=>∃ (kq:Nat) (x20_2:Bool),v20=.bool x20_2∧Aside0 (spec_l01Is.j0 kq a0 x20_2 a1_0 a1_1 a1_2=some r)∧Aside0 (kq≤k)∧Aside0 (wc.heap[gb133]?=some (.cells #[.int .i64 a1_0,.int .i64 a1_1,.int .i64 a1_2] 38 (0,0)))∧Aside0 (Below w.heap.size w wc))
 case first=>
  have H:=HC3.out
  clear HC3
  replace H:=bS H
  obtain ⟨t134,A5,H⟩:=H
  try dsimp only at H
  by_cases c6:t134=true
  ·
   subst c6
   rw [if_pos rfl] at H
   try dsimp only at H
   replace H:=bS H
   obtain ⟨t135,A7,H⟩:=H
   try dsimp only at H
   by_cases c8:t135=true
   ·
    subst c8
    rw [if_pos rfl] at H
    try dsimp only at H
    replace H:=bS H
    obtain ⟨t136,A9,H⟩:=H
    try dsimp only at H
    have H':=Aside0.mk H
    clear H
    go_wp2_with (first|(go_at_call 35;(with_reducible refine (spec_l01Prime.calls a0 true _ A5.out).mono ?_);rintro e w' ⟨rfl,⟨nd,rfl⟩⟩;(try exact dd);obtain ⟨hcz10_0,hcz10_1,hcz10_2,hfz10_0,hfz10_1,hfz10_2⟩:=cz3 BK133)|(go_at_call 11;(with_reducible refine (spec_l01In.calls a1_0 (-6) 6 true _ A7.out).mono ?_);rintro e w' ⟨rfl,⟨nd,rfl⟩⟩;(try exact dd))|(go_at_call 11;(with_reducible refine (spec_l01In.calls a1_2 0 6 t136 _ A9.out).mono ?_);rintro e w' ⟨rfl,⟨nd,rfl⟩⟩;(try exact dd)))
    repeat (go_quiet (first|(go_at_call 35;(with_reducible refine (spec_l01Prime.calls a0 true _ A5.out).mono ?_);rintro e w' ⟨rfl,⟨nd,rfl⟩⟩;(try exact dd);obtain ⟨hcz10_0,hcz10_1,hcz10_2,hfz10_0,hfz10_1,hfz10_2⟩:=cz3 BK133)|(go_at_call 11;(with_reducible refine (spec_l01In.calls a1_0 (-6) 6 true _ A7.out).mono ?_);rintro e w' ⟨rfl,⟨nd,rfl⟩⟩;(try exact dd))|(go_at_call 11;(with_reducible refine (spec_l01In.calls a1_2 0 6 t136 _ A9.out).mono ?_);rintro e w' ⟨rfl,⟨nd,rfl⟩⟩;(try exact dd)));try go_wp2_with (first|(go_at_call 35;(with_reducible refine (spec_l01Prime.calls a0 true _ A5.out).mono ?_);rintro e w' ⟨rfl,⟨nd,rfl⟩⟩;(try exact dd);obtain ⟨hcz10_0,hcz10_1,hcz10_2,hfz10_0,hfz10_1,hfz10_2⟩:=cz3 BK133)|(go_at_call 11;(with_reducible refine (spec_l01In.calls a1_0 (-6) 6 true _ A7.out).mono ?_);rintro e w' ⟨rfl,⟨nd,rfl⟩⟩;(try exact dd))|(go_at_call 11;(with_reducible refine (spec_l01In.calls a1_2 0 6 t136 _ A9.out).mono ?_);rintro e w' ⟨rfl,⟨nd,rfl⟩⟩;(try exact dd))))
    go_meet
    case rel=>exact ⟨_,(!t136),hB,H',⟨by first|omega|exact Nat.le_refl _⟩,⟨bkA BK133⟩,⟨blA⟩⟩
   ·
    replace c8:=Bool.eq_false_iff.mpr c8
    subst c8
    rw [if_neg (show ¬ (false=true) by decide)] at H
    try dsimp only at H
    have H':=Aside0.mk H
    clear H
    go_wp2_with (first|(go_at_call 35;(with_reducible refine (spec_l01Prime.calls a0 true _ A5.out).mono ?_);rintro e w' ⟨rfl,⟨nd,rfl⟩⟩;(try exact dd);obtain ⟨hcz11_0,hcz11_1,hcz11_2,hfz11_0,hfz11_1,hfz11_2⟩:=cz3 BK133)|(go_at_call 11;(with_reducible refine (spec_l01In.calls a1_0 (-6) 6 false _ A7.out).mono ?_);rintro e w' ⟨rfl,⟨nd,rfl⟩⟩;(try exact dd)))
    repeat (go_quiet (first|(go_at_call 35;(with_reducible refine (spec_l01Prime.calls a0 true _ A5.out).mono ?_);rintro e w' ⟨rfl,⟨nd,rfl⟩⟩;(try exact dd);obtain ⟨hcz11_0,hcz11_1,hcz11_2,hfz11_0,hfz11_1,hfz11_2⟩:=cz3 BK133)|(go_at_call 11;(with_reducible refine (spec_l01In.calls a1_0 (-6) 6 false _ A7.out).mono ?_);rintro e w' ⟨rfl,⟨nd,rfl⟩⟩;(try exact dd)));try go_wp2_with (first|(go_at_call 35;(with_reducible refine (spec_l01Prime.calls a0 true _ A5.out).mono ?_);rintro e w' ⟨rfl,⟨nd,rfl⟩⟩;(try exact dd);obtain ⟨hcz11_0,hcz11_1,hcz11_2,hfz11_0,hfz11_1,hfz11_2⟩:=cz3 BK133)|(go_at_call 11;(with_reducible refine (spec_l01In.calls a1_0 (-6) 6 false _ A7.out).mono ?_);rintro e w' ⟨rfl,⟨nd,rfl⟩⟩;(try exact dd))))
    go_meet
    case rel=>exact ⟨_,(true),hB,H',⟨by first|omega|exact Nat.le_refl _⟩,⟨bkA BK133⟩,⟨blA⟩⟩
  ·
   replace c6:=Bool.eq_false_iff.mpr c6
   subst c6
   rw [if_neg (show ¬ (false=true) by decide)] at H
   try dsimp only at H
   have H':=Aside0.mk H
   clear H
   go_wp2_with (first|(go_at_call 35;(with_reducible refine (spec_l01Prime.calls a0 false _ A5.out).mono ?_);rintro e w' ⟨rfl,⟨nd,rfl⟩⟩;(try exact dd)))
   repeat (go_quiet (first|(go_at_call 35;(with_reducible refine (spec_l01Prime.calls a0 false _ A5.out).mono ?_);rintro e w' ⟨rfl,⟨nd,rfl⟩⟩;(try exact dd)));try go_wp2_with (first|(go_at_call 35;(with_reducible refine (spec_l01Prime.calls a0 false _ A5.out).mono ?_);rintro e w' ⟨rfl,⟨nd,rfl⟩⟩;(try exact dd))))
   go_meet
   case rel=>exact ⟨_,(true),hB,H',⟨by first|omega|exact Nat.le_refl _⟩,⟨bkA BK133⟩,⟨blA⟩⟩
 case rest=>
  clear HC3
  try clear c6
  try clear c8
  try clear hcz10_0
  try clear hcz10_1
  try clear hcz10_2
  try clear hcz11_0
  try clear hcz11_1
  try clear hcz11_2
  try clear hfz10_0
  try clear hfz10_1
  try clear hfz10_2
  try clear hfz11_0
  try clear hfz11_1
  try clear hfz11_2
  obtain ⟨kq,x20_2,rfl,HA,HJ2,BK133,HB⟩:=hcut
  cases kq with
  | zero=>exact absurd HA.out (by simp [spec_l01Is.j0])
  | succ kj2=>
   have H:=HA.out
   clear HA
   simp only [spec_l01Is.j0] at H
   by_cases c12:x20_2=true
   ·
    subst c12
    rw [if_pos rfl] at H
    try dsimp only at H
    obtain rfl:=Option.some.inj H
    go_wp2
    repeat (go_quiet (fail);try go_wp2)
    go_ret
    exact finA blA
   ·
    replace c12:=Bool.eq_false_iff.mpr c12
    subst c12
    rw [if_neg (show ¬ (false=true) by decide)] at H
    try dsimp only at H
    by_cases c13:(wrap64 (a1_0+a1_2))≤0
    ·
     rw [if_pos c13] at H
     have c13b0:=decide_eq_true c13
     clear c13
     by_cases c14:a1_1=0
     ·
      rw [if_pos c14] at H
      have c14b0:(a1_1 == 0)=true:=beq_iff_eq.mpr c14
      have c14b1:(a1_1 != 0)=false:=bne_eq_false_iff_eq.mpr c14
      clear c14
      obtain rfl:=Option.some.inj H
      obtain ⟨hcz15_0,hcz15_1,hcz15_2,hfz15_0,hfz15_1,hfz15_2⟩:=cz3 BK133
      go_wp2
      repeat (go_quiet (fail);try go_wp2)
      go_ret
      exact finA blA
     ·
      rw [if_neg c14] at H
      have c14b0:(a1_1 == 0)=false:=beq_eq_false_iff_ne.mpr c14
      have c14b1:(a1_1 != 0)=true:=bne_iff_ne.mpr c14
      obtain rfl:=Option.some.inj H
      obtain ⟨hcz16_0,hcz16_1,hcz16_2,hfz16_0,hfz16_1,hfz16_2⟩:=cz3 BK133
      go_wp2
      repeat (go_quiet (fail);try go_wp2)
      go_ret
      exact finA blA
    ·
     rw [if_neg c13] at H
     have c13b0:=decide_eq_false c13
     clear c13
     replace H:=bS H
     obtain ⟨t137,A17,H⟩:=H
     try dsimp only at H
     replace H:=bS H
     obtain ⟨t138,A18,H⟩:=H
     try dsimp only at H
     by_cases c19:t138=true
     ·
      subst c19
      rw [if_pos rfl] at H
      try dsimp only at H
      by_cases c20:a1_2=0
      focus
       rw [if_pos c20] at H
       have c20b0:(a1_2 == 0)=true:=beq_iff_eq.mpr c20
       have c20b1:(a1_2 != 0)=false:=bne_eq_false_iff_eq.mpr c20
       clear c20
       obtain rfl:=Option.some.inj H
       obtain ⟨hcz21_0,hcz21_1,hcz21_2,hfz21_0,hfz21_1,hfz21_2⟩:=cz3 BK133
      rotate_left
      focus
       rw [if_neg c20] at H
       have c20b0:(a1_2 == 0)=false:=beq_eq_false_iff_ne.mpr c20
       have c20b1:(a1_2 != 0)=true:=bne_iff_ne.mpr c20
       by_cases c22:a0=0
       ·
        rw [if_pos c22] at H
        exact absurd H (by simp)
       rw [if_neg c22] at H
       have c22b0:(a0 == 0)=false:=beq_eq_false_iff_ne.mpr c22
       have c22b1:(a0 != 0)=true:=bne_iff_ne.mpr c22
       obtain rfl:=Option.some.inj H
       obtain ⟨hcz23_0,hcz23_1,hcz23_2,hfz23_0,hfz23_1,hfz23_2⟩:=cz3 BK133
      rotate_left
      all_goals
       go_wp2_with (first|(go_at_call 38;(with_reducible refine (spec_l01Power.calls kj2 a0 (wrap64 (a1_0+a1_2)) t137 _ A17.out).mono ?_);rintro e w' ⟨rfl,⟨nd,rfl⟩⟩;(try exact dd))|(go_at_call 11;(with_reducible refine (spec_l01In.calls a1_1 0 (wrap64 (t137 - 1)) true _ A18.out).mono ?_);rintro e w' ⟨rfl,⟨nd,rfl⟩⟩;(try exact dd)))
       repeat (go_quiet (first|(go_at_call 38;(with_reducible refine (spec_l01Power.calls kj2 a0 (wrap64 (a1_0+a1_2)) t137 _ A17.out).mono ?_);rintro e w' ⟨rfl,⟨nd,rfl⟩⟩;(try exact dd))|(go_at_call 11;(with_reducible refine (spec_l01In.calls a1_1 0 (wrap64 (t137 - 1)) true _ A18.out).mono ?_);rintro e w' ⟨rfl,⟨nd,rfl⟩⟩;(try exact dd)));try go_wp2_with (first|(go_at_call 38;(with_reducible refine (spec_l01Power.calls kj2 a0 (wrap64 (a1_0+a1_2)) t137 _ A17.out).mono ?_);rintro e w' ⟨rfl,⟨nd,rfl⟩⟩;(try exact dd))|(go_at_call 11;(with_reducible refine (spec_l01In.calls a1_1 0 (wrap64 (t137 - 1)) true _ A18.out).mono ?_);rintro e w' ⟨rfl,⟨nd,rfl⟩⟩;(try exact dd))))
      ·
       go_ret
       exact finA blA
      ·
       go_ret
       exact finA blA
     ·
      replace c19:=Bool.eq_false_iff.mpr c19
      subst c19
      rw [if_neg (show ¬ (false=true) by decide)] at H
      try dsimp only at H
      obtain rfl:=Option.some.inj H
      obtain ⟨hcz24_0,hcz24_1,hcz24_2,hfz24_0,hfz24_1,hfz24_2⟩:=cz3 BK133
      go_wp2_with (first|(go_at_call 38;(with_reducible refine (spec_l01Power.calls kj2 a0 (wrap64 (a1_0+a1_2)) t137 _ A17.out).mono ?_);rintro e w' ⟨rfl,⟨nd,rfl⟩⟩;(try exact dd))|(go_at_call 11;(with_reducible refine (spec_l01In.calls a1_1 0 (wrap64 (t137 - 1)) false _ A18.out).mono ?_);rintro e w' ⟨rfl,⟨nd,rfl⟩⟩;(try exact dd)))
      repeat (go_quiet (first|(go_at_call 38;(with_reducible refine (spec_l01Power.calls kj2 a0 (wrap64 (a1_0+a1_2)) t137 _ A17.out).mono ?_);rintro e w' ⟨rfl,⟨nd,rfl⟩⟩;(try exact dd))|(go_at_call 11;(with_reducible refine (spec_l01In.calls a1_1 0 (wrap64 (t137 - 1)) false _ A18.out).mono ?_);rintro e w' ⟨rfl,⟨nd,rfl⟩⟩;(try exact dd)));try go_wp2_with (first|(go_at_call 38;(with_reducible refine (spec_l01Power.calls kj2 a0 (wrap64 (a1_0+a1_2)) t137 _ A17.out).mono ?_);rintro e w' ⟨rfl,⟨nd,rfl⟩⟩;(try exact dd))|(go_at_call 11;(with_reducible refine (spec_l01In.calls a1_1 0 (wrap64 (t137 - 1)) false _ A18.out).mono ?_);rintro e w' ⟨rfl,⟨nd,rfl⟩⟩;(try exact dd))))
      go_ret
      exact finA blA
def spec_l01Of.f (k:Nat) (a0 a1 a2 a3:Int):Option (Int × Int × Int × Bool):=(spec_l01In.f a3 (-6) 6).bind fun t153=>(if t153=true then (if a1=0 then (some (a3,0,0,true)) else ((spec_l01Val.f k a0 a1).bind fun t155=>((spec_l01Val.f k a0 a2).bind fun t156=>(if a3≤(wrap64 (t155 - t156)) then (some (a3,0,0,true)) else (if (mx (wrap64 (t156 - t155)) 0)>6 then (some (0,0,0,false)) else ((spec_l01Power.f k a0 (wrap64 (a3+(mx (wrap64 (t156 - t155)) 0)))).bind fun t157=>((spec_l01Power.f k a0 t155).bind fun t158=>(if t158=0 then (none) else ((spec_l01Power.f k a0 t156).bind fun t159=>(if t159=0 then (none) else ((spec_l01InvMod.f k (wrap64 (Int.tdiv a2 t159)) t157).bind fun t160=>((spec_l01MulMod.f (wrap64 (Int.tdiv a1 t158)) t160 t157).bind fun t161=>((spec_l01Power.f k a0 (mx (wrap64 (t155 - t156)) 0)).bind fun t162=>((spec_l01MulMod.f t161 t162 t157).bind fun t163=>(some (a3,t163,mx (wrap64 (t156 - t155)) 0,true)))))))))))))))) else (some (0,0,0,false)))
theorem spec_l01Of.mono:∀ a0 a1 a2 a3 k,LeO (spec_l01Of.f k a0 a1 a2 a3) (spec_l01Of.f (k+1) a0 a1 a2 a3):=by
 intro a0 a1 a2 a3 k
 unfold spec_l01Of.f
 repeat' first
   | with_reducible first|exact spec_l01InvMod.mono ..|exact spec_l01Power.mono ..|exact spec_l01Val.mono ..|exact LeO.refl _|exact LeO.none _|refine LeO.ite ?_ ?_|refine LeO.bind ?_ fun _=>?_
set_option maxHeartbeats 8000000 in
set_option maxRecDepth 100000 in
theorem spec_l01Of.calls (k:Nat) (a0 a1 a2 a3 r1 r2 r3:Int) (r4:Bool) (w:World) (h:spec_l01Of.f k a0 a1 a2 a3=some (r1,r2,r3,r4)) :
  Calls Try.prog 23 #[.int .i64 a0,.int .i64 a1,.int .i64 a2,.int .i64 a3] w fun e w'=>e=.returned (.tuple #[.agg #[.int .i64 r1,.int .i64 r2,.int .i64 r3],.bool r4])∧Below w.heap.size w w':=by
 have hu38:=Try.underlying38
 have HB:=Aside0.mk (Below.refl w.heap.size w)
 have H:=h
 unfold spec_l01Of.f at H
 clear h
 replace H:=bS H
 obtain ⟨t153,A5,H⟩:=H
 try dsimp only at H
 by_cases c6:t153=true
 ·
  subst c6
  rw [if_pos rfl] at H
  try dsimp only at H
  by_cases c7:a1=0
  ·
   rw [if_pos c7] at H
   have c7b0:(a1 == 0)=true:=beq_iff_eq.mpr c7
   have c7b1:(a1 != 0)=false:=bne_eq_false_iff_eq.mpr c7
   clear c7
   simp only [Option.some.injEq,Prod.mk.injEq] at H
   obtain ⟨rfl,rfl,rfl,rfl⟩:=H
   go_enter Try.func23,Try.ntmps23
   go_wp2_with (first|((with_reducible refine gate_dst (N:=8) rfl ?_);refine bxE (cs:=#[.int .i64 0,.int .i64 0,.int .i64 0]) (t:=38) ?_;intro gb152 hg w8 hbox hb;have BK152:=Aside0.mk hbox;have GW152:=sA hg;have GE152:=sA hg;replace HB:=lB hb;clear hb hbox hg)|((with_reducible refine gd 15 rfl ?_);refine gC (some 15) rfl Try.func11 (spec_l01In.calls (w:=_) (h:=A5.out)) ?_;rintro _ ⟨nd,rfl⟩;(try (rw [drewN_self w8];generalize hq_:World.drewN w8 _=w8;replace BK152:=Aside0.mk (by rw [← hq_];exact (bkA BK152));replace HB:=Aside0.mk (by rw [← hq_];exact blA);clear hq_)))|((with_reducible refine gate_dst (N:=10) rfl ?_);refine bxE (cs:=#[.int .i64 0,.int .i64 0,.int .i64 0]) (t:=38) ?_;intro gb154 hg w9 hbox hb;have BK154:=Aside0.mk hbox;have GW154:=sA hg;have GE154:=sA hg;have NB152_154:=nA hg BK152;have NB154_152:=nB hg BK152;replace BK152:=kB BK152 hb;replace HB:=lB hb;clear hb hbox hg;have hnb10:=NB154_152.out;have hnc10:=NB152_154.out;obtain ⟨hcz11_0,hcz11_1,hcz11_2,hfz11_0,hfz11_1,hfz11_2⟩:=cz3 BK154;obtain ⟨hcz12_0,hcz12_1,hcz12_2,hfz12_0,hfz12_1,hfz12_2⟩:=cz3 BK152))
   refine bodyPost_ret (results_ct rfl _ _ gb152 38 #[.int .i64 a3,.int .i64 0,.int .i64 0] (0,0) _ rfl (bpA BK152) Try.underlying38 rfl (by kernel_rfl)) rfl ?_
   exact finA blA
  ·
   rw [if_neg c7] at H
   have c7b0:(a1 == 0)=false:=beq_eq_false_iff_ne.mpr c7
   have c7b1:(a1 != 0)=true:=bne_iff_ne.mpr c7
   replace H:=bS H
   obtain ⟨t155,A13,H⟩:=H
   try dsimp only at H
   replace H:=bS H
   obtain ⟨t156,A14,H⟩:=H
   try dsimp only at H
   by_cases c15:a3≤(wrap64 (t155 - t156))
   ·
    rw [if_pos c15] at H
    have c15b0:=decide_eq_true c15
    clear c15
    simp only [Option.some.injEq,Prod.mk.injEq] at H
    obtain ⟨rfl,rfl,rfl,rfl⟩:=H
    go_enter Try.func23,Try.ntmps23
    go_wp2_with (first|((with_reducible refine gate_dst (N:=8) rfl ?_);refine bxE (cs:=#[.int .i64 0,.int .i64 0,.int .i64 0]) (t:=38) ?_;intro gb152 hg w16 hbox hb;have BK152:=Aside0.mk hbox;have GW152:=sA hg;have GE152:=sA hg;replace HB:=lB hb;clear hb hbox hg)|((with_reducible refine gd 15 rfl ?_);refine gC (some 15) rfl Try.func11 (spec_l01In.calls (w:=_) (h:=A5.out)) ?_;rintro _ ⟨nd,rfl⟩;(try (rw [drewN_self w16];generalize hq_:World.drewN w16 _=w16;replace BK152:=Aside0.mk (by rw [← hq_];exact (bkA BK152));replace HB:=Aside0.mk (by rw [← hq_];exact blA);clear hq_)))|((with_reducible refine gate_dst (N:=10) rfl ?_);refine bxE (cs:=#[.int .i64 0,.int .i64 0,.int .i64 0]) (t:=38) ?_;intro gb154 hg w17 hbox hb;have BK154:=Aside0.mk hbox;have GW154:=sA hg;have GE154:=sA hg;have NB152_154:=nA hg BK152;have NB154_152:=nB hg BK152;replace BK152:=kB BK152 hb;replace HB:=lB hb;clear hb hbox hg;have hnb18:=NB154_152.out;have hnc18:=NB152_154.out;obtain ⟨hcz19_0,hcz19_1,hcz19_2,hfz19_0,hfz19_1,hfz19_2⟩:=cz3 BK154)|((with_reducible refine gd 25 rfl ?_);refine gC (some 25) rfl Try.func24 (spec_l01Val.calls (w:=_) (h:=A13.out)) ?_;rintro _ ⟨nd,rfl⟩)|((with_reducible refine gd 28 rfl ?_);refine gC (some 28) rfl Try.func24 (spec_l01Val.calls (w:=_) (h:=A14.out)) ?_;rintro _ ⟨nd,rfl⟩;obtain ⟨hcz20_0,hcz20_1,hcz20_2,hfz20_0,hfz20_1,hfz20_2⟩:=cz3 BK152))
    refine bodyPost_ret (results_ct rfl _ _ gb152 38 #[.int .i64 a3,.int .i64 0,.int .i64 0] (0,0) _ rfl (bpA BK152) Try.underlying38 rfl (by kernel_rfl)) rfl ?_
    exact finA blA
   ·
    rw [if_neg c15] at H
    have c15b0:=decide_eq_false c15
    clear c15
    obtain ⟨ji21,hji21⟩:∃ j_:Int,(mx (wrap64 (t156 - t155)) 0)=j_:=⟨_,rfl⟩
    replace H:(if (ji21)>6 then (some (0,0,0,false)) else ((spec_l01Power.f k a0 (wrap64 (a3+(ji21)))).bind fun t157=>((spec_l01Power.f k a0 t155).bind fun t158=>(if t158=0 then (none) else ((spec_l01Power.f k a0 t156).bind fun t159=>(if t159=0 then (none) else ((spec_l01InvMod.f k (wrap64 (Int.tdiv a2 t159)) t157).bind fun t160=>((spec_l01MulMod.f (wrap64 (Int.tdiv a1 t158)) t160 t157).bind fun t161=>((spec_l01Power.f k a0 (mx (wrap64 (t155 - t156)) 0)).bind fun t162=>((spec_l01MulMod.f t161 t162 t157).bind fun t163=>(some (a3,t163,ji21,true))))))))))))=some (r1,r2,r3,r4):=by first|(rw [hji21] at H;exact H)|(simp only [hji21] at H ⊢;exact H)
    (try rw [hji21] at A5)
    (try rw [hji21] at A13)
    (try rw [hji21] at A14)
    (try (have hji21l:0≤ji21:=by (rw [← hji21];unfold mx;(repeat' split) <;> omega)))
    (try (have hji21m:0≤ji21:=by omega))
    have hji21_:(if (wrap64 (t156 - t155))<0 then 0 else (wrap64 (t156 - t155)))=ji21:=hji21
    by_cases c22:(ji21)>6
    focus
     rw [if_pos c22] at H
     have c22b0:decide (6<(ji21))=true:=decide_eq_true c22
     clear c22
     simp only [Option.some.injEq,Prod.mk.injEq] at H
     obtain ⟨rfl,rfl,rfl,rfl⟩:=H
    rotate_left
    focus
     rw [if_neg c22] at H
     have c22b0:decide (6<(ji21))=false:=decide_eq_false c22
     clear c22
     replace H:=bS H
     obtain ⟨t157,A28,H⟩:=H
     try dsimp only at H
     replace H:=bS H
     obtain ⟨t158,A29,H⟩:=H
     try dsimp only at H
     by_cases c30:t158=0
     ·
      rw [if_pos c30] at H
      exact absurd H (by simp)
     rw [if_neg c30] at H
     have c30b0:(t158 == 0)=false:=beq_eq_false_iff_ne.mpr c30
     have c30b1:(t158 != 0)=true:=bne_iff_ne.mpr c30
     replace H:=bS H
     obtain ⟨t159,A31,H⟩:=H
     try dsimp only at H
     by_cases c32:t159=0
     ·
      rw [if_pos c32] at H
      exact absurd H (by simp)
     rw [if_neg c32] at H
     have c32b0:(t159 == 0)=false:=beq_eq_false_iff_ne.mpr c32
     have c32b1:(t159 != 0)=true:=bne_iff_ne.mpr c32
     replace H:=bS H
     obtain ⟨t160,A33,H⟩:=H
     try dsimp only at H
     replace H:=bS H
     obtain ⟨t161,A34,H⟩:=H
     try dsimp only at H
     obtain ⟨ji35,hji35⟩:∃ j_:Int,(mx (wrap64 (t155 - t156)) 0)=j_:=⟨_,rfl⟩
     replace H:((spec_l01Power.f k a0 (ji35)).bind fun t162=>((spec_l01MulMod.f t161 t162 t157).bind fun t163=>(some (a3,t163,ji21,true))))=some (r1,r2,r3,r4):=by first|(rw [hji35] at H;exact H)|(simp only [hji35] at H ⊢;exact H)
     (try rw [hji35] at A5)
     (try rw [hji35] at A13)
     (try rw [hji35] at A14)
     (try rw [hji35] at A28)
     (try rw [hji35] at A29)
     (try rw [hji35] at A31)
     (try rw [hji35] at A33)
     (try rw [hji35] at A34)
     (try (have hji35l:0≤ji35:=by (rw [← hji35];unfold mx;(repeat' split) <;> omega)))
     (try (have hji35m:0≤ji35:=by omega))
     have hji35_:(if (wrap64 (t155 - t156))<0 then 0 else (wrap64 (t155 - t156)))=ji35:=hji35
     replace H:=bS H
     obtain ⟨t162,A36,H⟩:=H
     try dsimp only at H
     replace H:=bS H
     obtain ⟨t163,A37,H⟩:=H
     try dsimp only at H
     simp only [Option.some.injEq,Prod.mk.injEq] at H
     obtain ⟨rfl,rfl,rfl,rfl⟩:=H
    rotate_left
    all_goals
     go_enter Try.func23,Try.ntmps23
     go_wp2_with (first|((with_reducible refine gate_dst (N:=8) rfl ?_);refine bxE (cs:=#[.int .i64 0,.int .i64 0,.int .i64 0]) (t:=38) ?_;intro gb152 hg w23 hbox hb;have BK152:=Aside0.mk hbox;have GW152:=sA hg;have GE152:=sA hg;replace HB:=lB hb;clear hb hbox hg)|((with_reducible refine gd 15 rfl ?_);refine gC (some 15) rfl Try.func11 (spec_l01In.calls (w:=_) (h:=A5.out)) ?_;rintro _ ⟨nd,rfl⟩;(try (rw [drewN_self w23];generalize hq_:World.drewN w23 _=w23;replace BK152:=Aside0.mk (by rw [← hq_];exact (bkA BK152));replace HB:=Aside0.mk (by rw [← hq_];exact blA);clear hq_)))|((with_reducible refine gate_dst (N:=10) rfl ?_);refine bxE (cs:=#[.int .i64 0,.int .i64 0,.int .i64 0]) (t:=38) ?_;intro gb154 hg w24 hbox hb;have BK154:=Aside0.mk hbox;have GW154:=sA hg;have GE154:=sA hg;have NB152_154:=nA hg BK152;have NB154_152:=nB hg BK152;replace BK152:=kB BK152 hb;replace HB:=lB hb;clear hb hbox hg;have hnb25:=NB154_152.out;have hnc25:=NB152_154.out;obtain ⟨hcz26_0,hcz26_1,hcz26_2,hfz26_0,hfz26_1,hfz26_2⟩:=cz3 BK154)|((with_reducible refine gd 25 rfl ?_);refine gC (some 25) rfl Try.func24 (spec_l01Val.calls (w:=_) (h:=A13.out)) ?_;rintro _ ⟨nd,rfl⟩)|((with_reducible refine gd 28 rfl ?_);refine gC (some 28) rfl Try.func24 (spec_l01Val.calls (w:=_) (h:=A14.out)) ?_;rintro _ ⟨nd,rfl⟩;obtain ⟨hcz27_0,hcz27_1,hcz27_2,hfz27_0,hfz27_1,hfz27_2⟩:=cz3 BK152)|((with_reducible refine gate_callee (f:=38) rfl ?_);refine goesL_ (some 49) rfl rfl Try.func38 (by kernel_rfl) rfl #[.int .i64 a0,.int .i64 (wrap64 (a3+(ji21)))] rfl (by (try simp only [List.map_toArray,List.map_cons,List.map_nil]);first|done|(simp only [hji21];rfl)|rfl|(simp only [List.length_drop,List.length_take];rfl)) ?_;(with_reducible refine (spec_l01Power.calls k a0 (wrap64 (a3+(ji21))) t157 _ A28.out).mono ?_);rintro e w' ⟨rfl,⟨nd,rfl⟩⟩;refine ⟨_,rfl,?_⟩)|((with_reducible refine gd 53 rfl ?_);refine gC (some 53) rfl Try.func38 (spec_l01Power.calls (w:=_) (h:=A29.out)) ?_;rintro _ ⟨nd,rfl⟩)|((with_reducible refine gd 58 rfl ?_);refine gC (some 58) rfl Try.func38 (spec_l01Power.calls (w:=_) (h:=A31.out)) ?_;rintro _ ⟨nd,rfl⟩)|((with_reducible refine gd 63 rfl ?_);refine gC (some 63) rfl Try.func40 (spec_l01InvMod.calls (w:=_) (h:=A33.out)) ?_;rintro _ ⟨nd,rfl⟩)|((with_reducible refine gd 65 rfl ?_);refine gC (some 65) rfl Try.func39 (spec_l01MulMod.calls (w:=_) (h:=A34.out)) ?_;rintro _ ⟨nd,rfl⟩)|((with_reducible refine gate_callee (f:=38) rfl ?_);refine goesL_ (some 71) rfl rfl Try.func38 (by kernel_rfl) rfl #[.int .i64 a0,.int .i64 ji35] rfl (by (try simp only [List.map_toArray,List.map_cons,List.map_nil]);first|done|(simp only [hji35];rfl)|rfl|(simp only [List.length_drop,List.length_take];rfl)) ?_;(with_reducible refine (spec_l01Power.calls k a0 ji35 t162 _ A36.out).mono ?_);rintro e w' ⟨rfl,⟨nd,rfl⟩⟩;refine ⟨_,rfl,?_⟩)|((with_reducible refine gd 73 rfl ?_);refine gC (some 73) rfl Try.func39 (spec_l01MulMod.calls (w:=_) (h:=A37.out)) ?_;rintro _ ⟨nd,rfl⟩;obtain ⟨hcz42_0,hcz42_1,hcz42_2,hfz42_0,hfz42_1,hfz42_2⟩:=cz3 BK152))
    ·
     refine bodyPost_ret (results_ct rfl _ _ gb152 38 #[.int .i64 0,.int .i64 0,.int .i64 0] (0,0) _ rfl (bpA BK152) Try.underlying38 rfl (by kernel_rfl)) rfl ?_
     exact ⟨by first|rfl|(simp [errW_none,errW_some] <;> rfl)|(simp only [← hji21];first|rfl|(simp [errW_none,errW_some] <;> rfl))|(simp [*,errW_none,errW_some] <;> rfl),blA⟩
    ·
     refine bodyPost_ret (results_ct rfl _ _ gb152 38 #[.int .i64 a3,.int .i64 t163,.int .i64 ji21] (0,0) _ rfl (bpA BK152) Try.underlying38 rfl (by kernel_rfl)) rfl ?_
     exact ⟨by first|rfl|(simp [errW_none,errW_some] <;> rfl)|(simp only [← hji21,← hji35];first|rfl|(simp [errW_none,errW_some] <;> rfl))|(simp [*,errW_none,errW_some] <;> rfl),blA⟩
 ·
  replace c6:=Bool.eq_false_iff.mpr c6
  subst c6
  rw [if_neg (show ¬ (false=true) by decide)] at H
  try dsimp only at H
  simp only [Option.some.injEq,Prod.mk.injEq] at H
  obtain ⟨rfl,rfl,rfl,rfl⟩:=H
  go_enter Try.func23,Try.ntmps23
  go_wp2_with (first|((with_reducible refine gate_dst (N:=8) rfl ?_);refine bxE (cs:=#[.int .i64 0,.int .i64 0,.int .i64 0]) (t:=38) ?_;intro gb152 hg w43 hbox hb;have BK152:=Aside0.mk hbox;have GW152:=sA hg;have GE152:=sA hg;replace HB:=lB hb;clear hb hbox hg)|((with_reducible refine gd 15 rfl ?_);refine gC (some 15) rfl Try.func11 (spec_l01In.calls (w:=_) (h:=A5.out)) ?_;rintro _ ⟨nd,rfl⟩;(try (rw [drewN_self w43];generalize hq_:World.drewN w43 _=w43;replace BK152:=Aside0.mk (by rw [← hq_];exact (bkA BK152));replace HB:=Aside0.mk (by rw [← hq_];exact blA);clear hq_));obtain ⟨hcz44_0,hcz44_1,hcz44_2,hfz44_0,hfz44_1,hfz44_2⟩:=cz3 BK152))
  refine bodyPost_ret (results_ct rfl _ _ gb152 38 #[.int .i64 0,.int .i64 0,.int .i64 0] (0,0) _ rfl (bpA BK152) Try.underlying38 rfl (by kernel_rfl)) rfl ?_
  exact finA blA
def spec_l05Gap.f (k:Nat) (a0 a1_0 a1_1 a2_0 a2_1:Int):Option (Int):=(spec_l05Cross.f a1_0 a1_1 a2_0 a2_1).bind fun t180=>((spec_l01Val.f k a0 t180).bind fun t181=>((spec_l01Val.f k a0 a1_1).bind fun t182=>((spec_l01Val.f k a0 a2_1).bind fun t183=>(some (wrap64 ((wrap64 (t181 - t182)) - t183))))))
theorem spec_l05Gap.mono:∀ a0 a1 a2 a3 a4 k,LeO (spec_l05Gap.f k a0 a1 a2 a3 a4) (spec_l05Gap.f (k+1) a0 a1 a2 a3 a4):=by
 intro a0 a1 a2 a3 a4 k
 unfold spec_l05Gap.f
 repeat' first
   | with_reducible first|exact spec_l01Val.mono ..|exact LeO.refl _|exact LeO.none _|refine LeO.ite ?_ ?_|refine LeO.bind ?_ fun _=>?_
def spec_l05Gap.T1:Bool × List (List Nat × List Nat):=(true,[([],[]),([],[]),([],[]),([1,2],[1,2]),([0,3,3],[0,3]),([],[]),([],[]),([6],[6]),([5,7,4],[5,7]),([4,8],[4,8]),([],[]),([],[]),([11],[11]),([10,12,8],[10,12]),([9,13],[9,13]),([14,13,0,1,2,3,4,5,6,7,8,9,10,11,12,13,14],[14])])
def spec_l05Gap.B1:List Nat:=[0,0,0,6,15,0,0,64,255,511,0,0,2048,7679,16383,32767]
theorem spec_l05Gap.tab1:rtab .any (opsOf Try.f13 1)=spec_l05Gap.T1:=by kernel_rfl
theorem spec_l05Gap.bits1:waitsOk spec_l05Gap.T1.2 spec_l05Gap.B1=true:=by kernel_rfl
set_option maxHeartbeats 8000000 in
set_option maxRecDepth 100000 in
theorem spec_l05Gap.calls (k:Nat) (a0 a1_0 a1_1 a2_0 a2_1 r:Int) (w:World) (h:spec_l05Gap.f k a0 a1_0 a1_1 a2_0 a2_1=some r) :
  Calls Try.prog 13 #[.int .i64 a0,.agg #[.int .i64 a1_0,.int .i64 a1_1],.agg #[.int .i64 a2_0,.int .i64 a2_1]] w fun e w'=>e=.returned (.int .i64 r)∧Below w.heap.size w w':=by
 have hu27:=Try.underlying27
 have HB:=Aside0.mk (Below.refl w.heap.size w)
 have H:=h
 unfold spec_l05Gap.f at H
 clear h
 replace H:=bS H
 obtain ⟨t180,A4,H⟩:=H
 try dsimp only at H
 replace H:=bS H
 obtain ⟨t181,A5,H⟩:=H
 try dsimp only at H
 replace H:=bS H
 obtain ⟨t182,A6,H⟩:=H
 try dsimp only at H
 replace H:=bS H
 obtain ⟨t183,A7,H⟩:=H
 try dsimp only at H
 obtain rfl:=Option.some.inj H
 go_enter Try.func13,Try.ntmps13
 try go_wp2_with (first|((with_reducible refine gate_dst (N:=4) rfl ?_);refine bxE (cs:=#[.int .i64 a1_0,.int .i64 a1_1]) (t:=27) ?_;intro gb178 hg w8 hbox hb;have n0_:=lB hb;have n1_:=Aside0.mk hbox;have n2_:=sA hg;have n3_:=sA hg;clear HB;have HB:=n0_;have BK178:=n1_;have GW178:=n2_;have GE178:=n3_;clear n0_ n1_ n2_ n3_;clear hb hbox hg)|((with_reducible refine gate_dst (N:=5) rfl ?_);refine bxE (cs:=#[.int .i64 a2_0,.int .i64 a2_1]) (t:=27) ?_;intro gb179 hg w9 hbox hb;have n0_:=kB BK178 hb;have n1_:=lB hb;have n2_:=Aside0.mk hbox;have n3_:=sA hg;have n4_:=sA hg;have n5_:=nA hg BK178;have n6_:=nB hg BK178;clear BK178;clear HB;have BK178:=n0_;have HB:=n1_;have BK179:=n2_;have GW179:=n3_;have GE179:=n4_;have NB178_179:=n5_;have NB179_178:=n6_;clear n0_ n1_ n2_ n3_ n4_ n5_ n6_;clear hb hbox hg))
 have n0_:=Aside0.mk (blk_drew BK178.out)
 have n1_:=Aside0.mk (blk_drew BK179.out)
 have n2_:=Aside0.mk (below_drew1 HB.out)
 clear BK178
 clear BK179
 clear HB
 have BK178:=n0_
 have BK179:=n1_
 have HB:=n2_
 clear n0_ n1_ n2_
 refine start_ (n:=16) (S:=fun w'=>w'.cell? ⟨gb178,0,none⟩=some (.int .i64 a1_0)∧w'.cell? ⟨gb178,1,none⟩=some (.int .i64 a1_1)∧w'.cell? ⟨gb179,0,none⟩=some (.int .i64 a2_0)∧w'.cell? ⟨gb179,1,none⟩=some (.int .i64 a2_1)) (ds:=[]) #[Z,Z,Z,Z,Z,Z,Z,Z,Z,Z,Z,Z,Z,Z,Z,Z] (by kernel_rfl) rfl rfl ⟨cA BK178 0,cA BK178 1,cA BK179 0,cA BK179 1⟩ (fun hHeld=>?_);refine with_tabW spec_l05Gap.tab1 spec_l05Gap.bits1 (fun HT_ HW_=>?_)
 generalize w9.drew=w10 at BK178 BK179 HB hHeld ⊢
 refine puA (i:=0) (N:=some 7) #[Y,Z,Z,Z,Z,Z,Z,Z,Z,Z,Z,Z,Z,Z,Z,Z] rfl rfl HT_ ?_
 refine puA (i:=5) (N:=some 12) #[Y,Z,Z,Z,Z,Y,Z,Z,Z,Z,Z,Z,Z,Z,Z,Z] rfl rfl HT_ ?_
 refine puA (i:=6) (N:=some 13) #[Y,Z,Z,Z,Z,Y,Y,Z,Z,Z,Z,Z,Z,Z,Z,Z] rfl rfl HT_ ?_
 refine puA (i:=10) (N:=some 17) #[Y,Z,Z,Z,Z,Y,Y,Z,Z,Z,Y,Z,Z,Z,Z,Z] rfl rfl HT_ ?_
 refine puA (i:=11) (N:=some 18) #[Y,Z,Z,Z,Z,Y,Y,Z,Z,Z,Y,Y,Z,Z,Z,Z] rfl rfl HT_ ?_
 refine taA (i:=1) (N:=some 8) #[Y,Y,Z,Z,Z,Y,Y,Z,Z,Z,Y,Y,Z,Z,Z,Z] rfl rfl HT_ HW_ hHeld ?_
 refine taA (i:=2) (N:=some 9) #[Y,Y,Y,Z,Z,Y,Y,Z,Z,Z,Y,Y,Z,Z,Z,Z] rfl rfl HT_ HW_ hHeld ?_
 refine taA (i:=7) (N:=some 14) #[Y,Y,Y,Z,Z,Y,Y,Y,Z,Z,Y,Y,Z,Z,Z,Z] rfl rfl HT_ HW_ hHeld ?_
 refine taA (i:=12) (N:=some 19) #[Y,Y,Y,Z,Z,Y,Y,Y,Z,Z,Y,Y,Y,Z,Z,Z] rfl rfl HT_ HW_ hHeld ?_
 refine one_ (i:=3) (N:=some 10) #[Y,Y,Y,Y,Z,Y,Y,Y,Z,Z,Y,Y,Y,Z,Z,Z] rfl rfl (one_of HT_.out (by kernel_rfl)) (by decide) (fun K hK=>?_)
 refine goC Try.func25 (spec_l05Cross.calls (w:=_) (h:=A4.out)) ?_
 intro w11 hb
 replace BK178:=kB BK178 hb
 replace BK179:=kB BK179 hb
 replace HB:=lB hb
 (try clear hb)
 (try clear hb2)
 (try clear hk)
 (try clear hi)
 refine hK.out _ _ ⟨cA BK178 0,cA BK178 1,cA BK179 0,cA BK179 1⟩ (fun hHeld=>?_)
 clear hK K
 refine nmA ?_
 refine one_ (i:=4) (N:=some 11) #[Y,Y,Y,Y,Y,Y,Y,Y,Z,Z,Y,Y,Y,Z,Z,Z] rfl rfl (one_of HT_.out (by kernel_rfl)) (by decide) (fun K hK=>?_)
 refine goC Try.func24 (spec_l01Val.calls (w:=_) (h:=A5.out)) ?_
 rintro _ ⟨nd,rfl⟩
 refine hK.out _ _ ⟨cA BK178 0,cA BK178 1,cA BK179 0,cA BK179 1⟩ (fun hHeld=>?_)
 clear hK K
 refine nmA ?_
 refine one_ (i:=8) (N:=some 15) #[Y,Y,Y,Y,Y,Y,Y,Y,Y,Z,Y,Y,Y,Z,Z,Z] rfl rfl (one_of HT_.out (by kernel_rfl)) (by decide) (fun K hK=>?_)
 refine goC Try.func24 (spec_l01Val.calls (w:=_) (h:=A6.out)) ?_
 rintro _ ⟨nd,rfl⟩
 refine hK.out _ _ ⟨cA BK178 0,cA BK178 1,cA BK179 0,cA BK179 1⟩ (fun hHeld=>?_)
 clear hK K
 refine nmA ?_
 refine puA (i:=9) (N:=some 16) #[Y,Y,Y,Y,Y,Y,Y,Y,Y,Y,Y,Y,Y,Z,Z,Z] rfl rfl HT_ ?_
 refine one_ (i:=13) (N:=some 20) #[Y,Y,Y,Y,Y,Y,Y,Y,Y,Y,Y,Y,Y,Y,Z,Z] rfl rfl (one_of HT_.out (by kernel_rfl)) (by decide) (fun K hK=>?_)
 refine goC Try.func24 (spec_l01Val.calls (w:=_) (h:=A7.out)) ?_
 rintro _ ⟨nd,rfl⟩
 refine hK.out _ _ ⟨cA BK178 0,cA BK178 1,cA BK179 0,cA BK179 1⟩ (fun hHeld=>?_)
 clear hK K
 refine nmA ?_
 refine puA (i:=14) (N:=some 21) #[Y,Y,Y,Y,Y,Y,Y,Y,Y,Y,Y,Y,Y,Y,Y,Z] rfl rfl HT_ ?_
 refine puA (i:=15) (N:=some 6) #[Y,Y,Y,Y,Y,Y,Y,Y,Y,Y,Y,Y,Y,Y,Y,Y] rfl rfl HT_ ?_
 refine done_ (done_of HT_.out (by kernel_rfl)) ?_
 try go_wp2
 go_ret
 exact finA blA
def impl_IsEnd.f (k:Nat) (a0_0 a0_1:Int):Option (Bool):=if a0_1=0 then (some (a0_0 == 1)) else ((impl_within.f k 1000000 (([a0_0,a0_1]:List Int))).bind fun t220=>(if t220=true then (if a0_1>0 then ((impl_gcd.f k a0_0 a0_1).bind fun t221=>(some (t221 == 1))) else (some false)) else (some false)))
theorem impl_IsEnd.mono:∀ a0 a1 k,LeO (impl_IsEnd.f k a0 a1) (impl_IsEnd.f (k+1) a0 a1):=by
 intro a0 a1 k
 unfold impl_IsEnd.f
 repeat' first
   | with_reducible first|exact impl_gcd.mono ..|exact impl_within.mono ..|exact LeO.refl _|exact LeO.none _|refine LeO.ite ?_ ?_|refine LeO.bind ?_ fun _=>?_
set_option maxHeartbeats 8000000 in
set_option maxRecDepth 100000 in
theorem impl_IsEnd.calls (k:Nat) (a0_0 a0_1:Int) (r:Bool) (w:World) (h:impl_IsEnd.f k a0_0 a0_1=some r) :
  Calls Try.prog 26 #[.agg #[.int .i64 a0_0,.int .i64 a0_1]] w fun e w'=>e=.returned (.bool r)∧Below w.heap.size w w':=by
 have hu27:=Try.underlying27
 have HB:=Aside0.mk (Below.refl w.heap.size w)
 have H:=h
 unfold impl_IsEnd.f at H
 clear h
 by_cases c2:a0_1=0
 ·
  rw [if_pos c2] at H
  have c2b0:(a0_1 == 0)=true:=beq_iff_eq.mpr c2
  have c2b1:(a0_1 != 0)=false:=bne_eq_false_iff_eq.mpr c2
  clear c2
  obtain rfl:=Option.some.inj H
  go_enter Try.func26,Try.ntmps26
  go_wp2_with (first|((with_reducible refine gate_dst (N:=1) rfl ?_);refine bxE (cs:=#[.int .i64 a0_0,.int .i64 a0_1]) (t:=27) ?_;intro gb216 hg w3 hbox hb;have BK216:=Aside0.mk hbox;have GW216:=sA hg;have GE216:=sA hg;replace HB:=lB hb;clear hb hbox hg;obtain ⟨hcz4_0,hcz4_1,hfz4_0,hfz4_1⟩:=cz2 BK216))
  go_ret
  exact finA blA
 ·
  rw [if_neg c2] at H
  have c2b0:(a0_1 == 0)=false:=beq_eq_false_iff_ne.mpr c2
  have c2b1:(a0_1 != 0)=true:=bne_iff_ne.mpr c2
  obtain ⟨y217,hy217⟩:∃ y_:List Int,y_=(([a0_0,a0_1]:List Int)):=⟨_,rfl⟩
  replace H:((impl_within.f k 1000000 y217).bind fun t220=>(if t220=true then (if a0_1>0 then ((impl_gcd.f k a0_0 a0_1).bind fun t221=>(some (t221 == 1))) else (some false)) else (some false)))=some r:=rH hy217 H
  have Ny217:=Aside0.mk hy217
  clear hy217
  replace H:=bS H
  obtain ⟨t220,A5,H⟩:=H
  try dsimp only at H
  by_cases c6:t220=true
  ·
   subst c6
   rw [if_pos rfl] at H
   try dsimp only at H
   by_cases c7:a0_1>0
   ·
    rw [if_pos c7] at H
    have c7b0:decide (0<a0_1)=true:=decide_eq_true c7
    clear c7
    replace H:=bS H
    obtain ⟨t221,A8,H⟩:=H
    try dsimp only at H
    obtain rfl:=Option.some.inj H
    go_enter Try.func26,Try.ntmps26
    go_wp2_with (first|((with_reducible refine gate_dst (N:=1) rfl ?_);refine bxE (cs:=#[.int .i64 a0_0,.int .i64 a0_1]) (t:=27) ?_;intro gb216 hg w9 hbox hb;have BK216:=Aside0.mk hbox;have GW216:=sA hg;have GE216:=sA hg;replace HB:=lB hb;clear hb hbox hg;obtain ⟨hcz10_0,hcz10_1,hfz10_0,hfz10_1⟩:=cz2 BK216)|((with_reducible refine gate_dst (N:=13) rfl ?_);refine Kd.R_lit (Kd.int .i64) _ 2 ?hg (N:=13) ?hd (xs:=([a0_0,a0_1]:List Int)) (inner:=[.int .i64 a0_0,.int .i64 a0_1]) (ok:=fun _=>True) (okp:=fun _=>True) ?hr ?hp (fun _ hk=>hk) trivial (Below.refl _ _) (Nat.le_refl _) (by simp) ?_;(case hd=>rfl);(case hg=>rfl);(case hr=>first|(go_simp;done)|(go_simp;rfl));(case hp=>exact (Reps.one (show Kd.M (Kd.int .i64) _ _ _ a0_0 [.int .i64 a0_0] from rfl) (Reps.one (show Kd.M (Kd.int .i64) _ _ _ a0_1 [.int .i64 a0_1] from rfl) (Reps.none _ _))));intro v218 w11 ho12 hb hg_ hnew_;clear hg_ hnew_;(first|rw [← Ny217.out] at ho12|(simp only [Int.reduceToNat] at ho12;rw [← Ny217.out] at ho12));have HO219:=Aside0.mk (Kd.R_lower ho12 (below_size blA));replace BK216:=kB BK216 hb;replace HB:=lB hb;clear hb ho12;obtain ⟨Ao13,co13,eo13⟩:=Kd.R_slice HO219.out;subst eo13)|((with_reducible refine gd 14 rfl ?_);refine gC (some 14) rfl Try.func41 (impl_within.calls (w:=_) (hr1:=cR (Kd.R_reads' HO219.out).2.2) (hc1:=(Kd.R_reads' HO219.out).2.1) (h:=A5.out)) ?_;rintro _ ⟨nd,rfl⟩;obtain ⟨hcz14_0,hcz14_1,hfz14_0,hfz14_1⟩:=cz2 BK216)|(go_at_call 42;(with_reducible refine (impl_gcd.calls k a0_0 a0_1 t221 _ A8.out).mono ?_);rintro e w15 ⟨rfl,hb⟩;replace HO219:=Aside0.mk (Kd.R_below (rA HO219) hb);replace BK216:=kB BK216 hb;replace HB:=lB hb;clear hb))
    go_ret
    exact finA blA
   ·
    rw [if_neg c7] at H
    have c7b0:decide (0<a0_1)=false:=decide_eq_false c7
    clear c7
    obtain rfl:=Option.some.inj H
    go_enter Try.func26,Try.ntmps26
    go_wp2_with (first|((with_reducible refine gate_dst (N:=1) rfl ?_);refine bxE (cs:=#[.int .i64 a0_0,.int .i64 a0_1]) (t:=27) ?_;intro gb216 hg w16 hbox hb;have BK216:=Aside0.mk hbox;have GW216:=sA hg;have GE216:=sA hg;replace HB:=lB hb;clear hb hbox hg;obtain ⟨hcz17_0,hcz17_1,hfz17_0,hfz17_1⟩:=cz2 BK216)|((with_reducible refine gate_dst (N:=13) rfl ?_);refine Kd.R_lit (Kd.int .i64) _ 2 ?hg (N:=13) ?hd (xs:=([a0_0,a0_1]:List Int)) (inner:=[.int .i64 a0_0,.int .i64 a0_1]) (ok:=fun _=>True) (okp:=fun _=>True) ?hr ?hp (fun _ hk=>hk) trivial (Below.refl _ _) (Nat.le_refl _) (by simp) ?_;(case hd=>rfl);(case hg=>rfl);(case hr=>first|(go_simp;done)|(go_simp;rfl));(case hp=>exact (Reps.one (show Kd.M (Kd.int .i64) _ _ _ a0_0 [.int .i64 a0_0] from rfl) (Reps.one (show Kd.M (Kd.int .i64) _ _ _ a0_1 [.int .i64 a0_1] from rfl) (Reps.none _ _))));intro v218 w18 ho19 hb hg_ hnew_;clear hg_ hnew_;(first|rw [← Ny217.out] at ho19|(simp only [Int.reduceToNat] at ho19;rw [← Ny217.out] at ho19));have HO219:=Aside0.mk (Kd.R_lower ho19 (below_size blA));replace BK216:=kB BK216 hb;replace HB:=lB hb;clear hb ho19;obtain ⟨Ao20,co20,eo20⟩:=Kd.R_slice HO219.out;subst eo20)|((with_reducible refine gd 14 rfl ?_);refine gC (some 14) rfl Try.func41 (impl_within.calls (w:=_) (hr1:=cR (Kd.R_reads' HO219.out).2.2) (hc1:=(Kd.R_reads' HO219.out).2.1) (h:=A5.out)) ?_;rintro _ ⟨nd,rfl⟩;obtain ⟨hcz21_0,hcz21_1,hfz21_0,hfz21_1⟩:=cz2 BK216))
    go_ret
    exact finA blA
  ·
   replace c6:=Bool.eq_false_iff.mpr c6
   subst c6
   rw [if_neg (show ¬ (false=true) by decide)] at H
   try dsimp only at H
   obtain rfl:=Option.some.inj H
   go_enter Try.func26,Try.ntmps26
   go_wp2_with (first|((with_reducible refine gate_dst (N:=1) rfl ?_);refine bxE (cs:=#[.int .i64 a0_0,.int .i64 a0_1]) (t:=27) ?_;intro gb216 hg w22 hbox hb;have BK216:=Aside0.mk hbox;have GW216:=sA hg;have GE216:=sA hg;replace HB:=lB hb;clear hb hbox hg;obtain ⟨hcz23_0,hcz23_1,hfz23_0,hfz23_1⟩:=cz2 BK216)|((with_reducible refine gate_dst (N:=13) rfl ?_);refine Kd.R_lit (Kd.int .i64) _ 2 ?hg (N:=13) ?hd (xs:=([a0_0,a0_1]:List Int)) (inner:=[.int .i64 a0_0,.int .i64 a0_1]) (ok:=fun _=>True) (okp:=fun _=>True) ?hr ?hp (fun _ hk=>hk) trivial (Below.refl _ _) (Nat.le_refl _) (by simp) ?_;(case hd=>rfl);(case hg=>rfl);(case hr=>first|(go_simp;done)|(go_simp;rfl));(case hp=>exact (Reps.one (show Kd.M (Kd.int .i64) _ _ _ a0_0 [.int .i64 a0_0] from rfl) (Reps.one (show Kd.M (Kd.int .i64) _ _ _ a0_1 [.int .i64 a0_1] from rfl) (Reps.none _ _))));intro v218 w24 ho25 hb hg_ hnew_;clear hg_ hnew_;(first|rw [← Ny217.out] at ho25|(simp only [Int.reduceToNat] at ho25;rw [← Ny217.out] at ho25));have HO219:=Aside0.mk (Kd.R_lower ho25 (below_size blA));replace BK216:=kB BK216 hb;replace HB:=lB hb;clear hb ho25;obtain ⟨Ao26,co26,eo26⟩:=Kd.R_slice HO219.out;subst eo26)|((with_reducible refine gd 14 rfl ?_);refine gC (some 14) rfl Try.func41 (impl_within.calls (w:=_) (hr1:=cR (Kd.R_reads' HO219.out).2.2) (hc1:=(Kd.R_reads' HO219.out).2.1) (h:=A5.out)) ?_;rintro _ ⟨nd,rfl⟩))
   go_ret
   exact finA blA
end Go.Proofs.Ytboneolhoajaoaa.PAll
