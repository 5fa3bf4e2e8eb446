-- turned out of the kit's print
import Derived.Test.YtlpmefmaplhfdaaQx
import Derived.Test.YtlpmefmaplhfdaaQbitsLeadingZeros64
import Derived.Test.YtlpmefmaplhfdaaQimplareMatrices
import Derived.Test.YtlpmefmaplhfdaaQimplofMark
import Derived.Test.YtlpmefmaplhfdaaQspecl01DrawPrime
import Derived.Test.YtlpmefmaplhfdaaQspecl01End
import Derived.Test.YtlpmefmaplhfdaaQspecl01Spoil
namespace Go.Proofs.Ytlpmefmaplhfdaa.PAll
open Go.RowKit Go.Proofs.YtlpmefmaplhfdaaW.PrintWords Go.Proofs.YtlpmefmaplhfdaaW.PrintLast Go.Proofs.YtlpmefmaplhfdaaW.PrintMore
attribute [local go_sem] Go.Proofs.Ytlpmefmaplhfdaa.Aux.setCell_drewN Go.Proofs.Ytlpmefmaplhfdaa.Aux.isSome_setCell max2_int min2_int max_two min_two max_three min_three max_four min_four
set_option linter.unusedVariables false
set_option linter.unusedSimpArgs false
def spec_DrawMoveEnd.f (k:Nat) (l0:List Int):Option (Int × Int × Int × Int × Int × Int):=(spec_l01From.f k l0).bind fun bt489=>((spec_l04Draw.f k bt489.1 bt489.2.1 bt489.2.2).bind fun bt493=>((spec_l01DrawEnd.f k bt489.1 bt493.2.2.2.2.1 bt493.2.2.2.2.2).bind fun bt499=>(some (bt493.1,bt493.2.1,bt493.2.2.1,bt493.2.2.2.1,bt499.1,bt499.2.1))))
theorem spec_DrawMoveEnd.mono:∀ a0 k,LeO (spec_DrawMoveEnd.f k a0) (spec_DrawMoveEnd.f (k+1) a0):=by
 intro a0 k
 unfold spec_DrawMoveEnd.f
 repeat' first
   | with_reducible first|exact spec_l01DrawEnd.mono ..|exact spec_l01From.mono ..|exact spec_l04Draw.mono ..|exact LeO.refl _|exact LeO.none _|refine LeO.ite ?_ ?_|refine LeO.bind ?_ fun _=>?_
set_option maxHeartbeats 8000000 in
set_option maxRecDepth 100000 in
theorem spec_DrawMoveEnd.calls (k:Nat) (A0:Option Addr) (c0:Nat) (l0:List Int) (r1 r2 r3 r4 r5 r6:Int) (w:World) (hr0:Kd.C (Kd.int .u8) w A0 l0.length l0) (hc0:l0.length≤c0) (h:spec_DrawMoveEnd.f k l0=some (r1,r2,r3,r4,r5,r6)) :
  Calls Try.prog 10 #[.slice A0 l0.length c0] w fun e w'=>e=.returned (.tuple #[.agg #[.int .i64 r1,.int .i64 r2,.int .i64 r3,.int .i64 r4],.agg #[.int .i64 r5,.int .i64 r6]])∧Below w.heap.size w w':=by
 have hu26:=Try.underlying26
 have hu34:=Try.underlying34
 have HR0:=Aside0.mk hr0
 have HC0:=Aside0.mk hc0
 clear hr0 hc0
 have HB:=Aside0.mk (Below.refl w.heap.size w)
 have H:=h
 unfold spec_DrawMoveEnd.f at H
 clear h
 replace H:=bS H
 obtain ⟨⟨t489,t490,t491⟩,A2,H⟩:=H
 try dsimp only at H
 replace H:=bS H
 obtain ⟨⟨t493,t494,t495,t496,t497,t498⟩,A3,H⟩:=H
 try dsimp only at H
 replace H:=bS H
 obtain ⟨⟨t499,t500,t501,t502⟩,A4,H⟩:=H
 try dsimp only at H
 simp only [Option.some.injEq,Prod.mk.injEq] at H
 obtain ⟨rfl,rfl,rfl,rfl,rfl,rfl⟩:=H
 go_enter Try.func10,Try.ntmps10
 go_wp2_with (first|((with_reducible refine gate_dst (N:=2) rfl ?_);refine bxE (cs:=#[.int .i64 0,.int .i64 0,.int .i64 0,.int .i64 0]) (t:=26) ?_;intro gb487 hg w5 hbox hb;have BK487:=Aside0.mk hbox;have GW487:=sA hg;have GE487:=sA hg;replace HB:=lB hb;clear hb hbox hg)|((with_reducible refine gate_dst (N:=3) rfl ?_);refine bxE (cs:=#[.int .i64 0,.int .i64 0]) (t:=34) ?_;intro gb488 hg w6 hbox hb;have BK488:=Aside0.mk hbox;have GW488:=sA hg;have GE488:=sA hg;have NB487_488:=nA hg BK487;have NB488_487:=nB hg BK487;replace BK487:=kB BK487 hb;replace HB:=lB hb;clear hb hbox hg)|((with_reducible refine gate_callee (f:=47) rfl ?_);refine gL (some 6) rfl Try.func47 #[.slice A0 l0.length c0] ?_;(with_reducible refine (spec_l01From.calls k _ _ l0 t489 t490 t491 w _ ?side1 ?side2 ?side3 A2.out).mono ?_);(case side1=>exact blI);(case side2=>exact HR0.out);(case side3=>exact HC0.out);rintro e w7 ⟨g492,rfl,hi,hb,hb2⟩;refine ⟨_,rfl,?_⟩;have HI492:=Aside0.mk hi;have NB492_487:=Aside0.mk (IsS116.ne_blk hi (blk_below (bkA BK487) hb2) (by decide));have NB487_492:=Aside0.mk (Ne.symm (IsS116.ne_blk hi (blk_below (bkA BK487) hb2) (by decide)));have NB492_488:=Aside0.mk (IsS116.ne_blk hi (blk_below (bkA BK488) hb2) (by decide));have NB488_492:=Aside0.mk (Ne.symm (IsS116.ne_blk hi (blk_below (bkA BK488) hb2) (by decide)));replace BK487:=kB BK487 hb2;replace BK488:=kB BK488 hb2;replace HB:=Aside0.mk hb;clear hi hb hb2)|((with_reducible refine gd 8 rfl ?_);refine gC (some 8) rfl Try.func48 (spec_l04Draw.calls (w:=_) (g:=g492) (w0:=w) (hI:=iA HI492) (hB:=blI) (h:=A3.out)) ?_;rintro w8 ⟨hi,hb,hk⟩;replace BK487:=kbk hk BK487 NB487_492;replace BK488:=kbk hk BK488 NB488_492;replace HB:=Aside0.mk hb;replace HI492:=Aside0.mk hi;clear hi hb hk)|((with_reducible refine gd 10 rfl ?_);refine gC (some 10) rfl Try.func49 (spec_l01DrawEnd.calls (w:=_) (g:=g492) (w0:=w) (hI:=iA HI492) (hB:=blI) (h:=A4.out)) ?_;rintro w9 ⟨hi,hb,hk⟩;replace BK487:=kbk hk BK487 NB487_492;replace BK488:=kbk hk BK488 NB488_492;replace HB:=Aside0.mk hb;replace HI492:=Aside0.mk hi;clear hi hb hk;have hnb10:=NB487_488.out;have hnc10:=NB488_487.out;have hnb11:=NB487_492.out;have hnc11:=NB492_487.out;obtain ⟨hcz12_0,hcz12_1,hcz12_2,hcz12_3,hfz12_0,hfz12_1,hfz12_2,hfz12_3⟩:=cz4 BK487;have hnb13:=NB488_492.out;have hnc13:=NB492_488.out;obtain ⟨hcz14_0,hcz14_1,hfz14_0,hfz14_1⟩:=cz2 BK488))
 refine bodyPost_ret (results_cc rfl _ _ gb487 gb488 26 34 #[.int .i64 t493,.int .i64 t494,.int .i64 t495,.int .i64 t496] #[.int .i64 t499,.int .i64 t500] (0,0) (0,0) _ _ rfl (bpA BK487) Try.underlying26 rfl (by kernel_rfl) rfl (bpA BK488) Try.underlying34 rfl (by kernel_rfl)) rfl ?_
 exact rf0 blI
def impl_moveEnd.f (k:Nat) (a0_0 a0_1 a0_2 a0_3 a1_0 a1_1:Int):Option (Int × Int × Bool):=(impl_endAt.f k (wrap64 ((wrap64 (a0_0*a1_0))+(wrap64 (a0_1*a1_1)))) (wrap64 ((wrap64 (a0_2*a1_0))+(wrap64 (a0_3*a1_1))))).bind fun bt520=>(some (bt520.1,bt520.2.1,bt520.2.2))
theorem impl_moveEnd.mono:∀ a0 a1 a2 a3 a4 a5 k,LeO (impl_moveEnd.f k a0 a1 a2 a3 a4 a5) (impl_moveEnd.f (k+1) a0 a1 a2 a3 a4 a5):=by
 intro a0 a1 a2 a3 a4 a5 k
 unfold impl_moveEnd.f
 repeat' first
   | with_reducible first|exact impl_endAt.mono ..|exact LeO.refl _|exact LeO.none _|refine LeO.ite ?_ ?_|refine LeO.bind ?_ fun _=>?_
set_option maxHeartbeats 8000000 in
set_option maxRecDepth 100000 in
theorem impl_moveEnd.calls (k:Nat) (a0_0 a0_1 a0_2 a0_3 a1_0 a1_1 r1 r2:Int) (r3:Bool) (w:World) (h:impl_moveEnd.f k a0_0 a0_1 a0_2 a0_3 a1_0 a1_1=some (r1,r2,r3)) :
  Calls Try.prog 52 #[.agg #[.int .i64 a0_0,.int .i64 a0_1,.int .i64 a0_2,.int .i64 a0_3],.agg #[.int .i64 a1_0,.int .i64 a1_1]] w fun e w'=>e=.returned (.tuple #[.agg #[.int .i64 r1,.int .i64 r2],.bool r3])∧Below w.heap.size w w':=by
 have hu26:=Try.underlying26
 have hu34:=Try.underlying34
 have HB:=Aside0.mk (Below.refl w.heap.size w)
 have H:=h
 unfold impl_moveEnd.f at H
 clear h
 replace H:=bS H
 obtain ⟨⟨t520,t521,t522⟩,A3,H⟩:=H
 try dsimp only at H
 simp only [Option.some.injEq,Prod.mk.injEq] at H
 obtain ⟨rfl,rfl,rfl⟩:=H
 go_enter Try.func52,Try.ntmps52
 go_wp2_with (first|((with_reducible refine gate_dst (N:=2) rfl ?_);refine bxE (cs:=#[.int .i64 a0_0,.int .i64 a0_1,.int .i64 a0_2,.int .i64 a0_3]) (t:=26) ?_;intro gb517 hg w4 hbox hb;have BK517:=Aside0.mk hbox;have GW517:=sA hg;have GE517:=sA hg;replace HB:=lB hb;clear hb hbox hg)|((with_reducible refine gate_dst (N:=3) rfl ?_);refine bxE (cs:=#[.int .i64 a1_0,.int .i64 a1_1]) (t:=34) ?_;intro gb518 hg w5 hbox hb;have BK518:=Aside0.mk hbox;have GW518:=sA hg;have GE518:=sA hg;have NB517_518:=nA hg BK517;have NB518_517:=nB hg BK517;replace BK517:=kB BK517 hb;replace HB:=lB hb;clear hb hbox hg)|((with_reducible refine gate_dst (N:=4) rfl ?_);refine bxE (cs:=#[.int .i64 0,.int .i64 0]) (t:=34) ?_;intro gb519 hg w6 hbox hb;have BK519:=Aside0.mk hbox;have GW519:=sA hg;have GE519:=sA hg;have NB517_519:=nA hg BK517;have NB519_517:=nB hg BK517;have NB518_519:=nA hg BK518;have NB519_518:=nB hg BK518;replace BK517:=kB BK517 hb;replace BK518:=kB BK518 hb;replace HB:=lB hb;clear hb hbox hg;have hnb7:=NB517_518.out;have hnc7:=NB518_517.out;have hnb8:=NB517_519.out;have hnc8:=NB519_517.out;obtain ⟨hcz9_0,hcz9_1,hcz9_2,hcz9_3,hfz9_0,hfz9_1,hfz9_2,hfz9_3⟩:=cz4 BK517;have hnb10:=NB518_519.out;have hnc10:=NB519_518.out;obtain ⟨hcz11_0,hcz11_1,hfz11_0,hfz11_1⟩:=cz2 BK518)|((with_reducible refine gd 32 rfl ?_);refine gC (some 32) rfl Try.func100 (impl_endAt.calls (w:=_) (h:=A3.out)) ?_;intro w12 hb;replace BK517:=kB BK517 hb;replace BK518:=kB BK518 hb;replace BK519:=kB BK519 hb;replace HB:=lB hb;clear hb;obtain ⟨hcz13_0,hcz13_1,hfz13_0,hfz13_1⟩:=cz2 BK519))
 refine bodyPost_ret (results_ct rfl _ _ gb519 34 #[.int .i64 t520,.int .i64 t521] (0,0) _ rfl (bpA BK519) Try.underlying34 rfl (by kernel_rfl)) rfl ?_
 exact finA blA
def spec_MoveEnd.j0:Nat→Bool→Int→Int→Int→Int→Int→Int→Option (Int × Int × Int)
 | 0,_,_,_,_,_,_,_=>none
 | k+1,x15,x545000,x545001,x545002,x545003,x546000,x546001=>if x15=true then (some (0,0,1)) else ((spec_l04End.f k x545000 x545001 x545002 x545003 x546000 x546001).bind fun bt549=>(if bt549.2.2=true then (some (bt549.1,bt549.2.1,0)) else (some (0,0,3))))
def spec_MoveEnd.f (k:Nat) (a0_0 a0_1 a0_2 a0_3 a1_0 a1_1:Int):Option (Int × Int × Int):=(spec_l04Is.f a0_0 a0_1 a0_2 a0_3).bind fun t547=>(if t547=true then ((spec_l01End.f k a1_0 a1_1).bind fun t548=>(spec_MoveEnd.j0 k (!t548) a0_0 a0_1 a0_2 a0_3 a1_0 a1_1)) else (spec_MoveEnd.j0 k true a0_0 a0_1 a0_2 a0_3 a1_0 a1_1))
theorem spec_MoveEnd.mono_l:∀ k,(∀ y0 y1 y2 y3 y4 y5 y6,LeO (spec_MoveEnd.j0 k y0 y1 y2 y3 y4 y5 y6) (spec_MoveEnd.j0 (k+1) y0 y1 y2 y3 y4 y5 y6))
 | 0=>fun _ _ _ _ _ _ _ r h=>by simp [spec_MoveEnd.j0] at h
 | k+1=>by
  have ih0:=spec_MoveEnd.mono_l k
  ·
   intro y0 y1 y2 y3 y4 y5 y6
   unfold spec_MoveEnd.j0
   repeat' first
   | with_reducible first|exact ih0 ..|exact spec_l01End.mono ..|exact spec_l04End.mono ..|exact LeO.refl _|exact LeO.none _|refine LeO.ite ?_ ?_|refine LeO.bind ?_ fun _=>?_
theorem spec_MoveEnd.mono:∀ a0 a1 a2 a3 a4 a5 k,LeO (spec_MoveEnd.f k a0 a1 a2 a3 a4 a5) (spec_MoveEnd.f (k+1) a0 a1 a2 a3 a4 a5):=by
 intro a0 a1 a2 a3 a4 a5 k
 have ih0:=spec_MoveEnd.mono_l k
 unfold spec_MoveEnd.f
 repeat' first
   | with_reducible first|exact ih0 ..|exact spec_l01End.mono ..|exact spec_l04End.mono ..|exact LeO.refl _|exact LeO.none _|refine LeO.ite ?_ ?_|refine LeO.bind ?_ fun _=>?_
set_option maxHeartbeats 8000000 in
set_option maxRecDepth 100000 in
theorem spec_MoveEnd.calls (k:Nat) (a0_0 a0_1 a0_2 a0_3 a1_0 a1_1 r1 r2 r3:Int) (w:World) (h:spec_MoveEnd.f k a0_0 a0_1 a0_2 a0_3 a1_0 a1_1=some (r1,r2,r3)) :
  Calls Try.prog 12 #[.agg #[.int .i64 a0_0,.int .i64 a0_1,.int .i64 a0_2,.int .i64 a0_3],.agg #[.int .i64 a1_0,.int .i64 a1_1]] w fun e w'=>e=.returned (.tuple #[.agg #[.int .i64 r1,.int .i64 r2],.int .i64 r3])∧Below w.heap.size w w':=by
 have hu26:=Try.underlying26
 have hu34:=Try.underlying34
 have HB:=Aside0.mk (Below.refl w.heap.size w)
 have H:=h
 unfold spec_MoveEnd.f at H
 clear h
 have HC3:=Aside0.mk H
 clear H
 go_enter Try.func12,Try.ntmps12
 go_upto_region 1 with (first|((with_reducible refine gate_dst (N:=2) rfl ?_);refine bxE (cs:=#[.int .i64 a0_0,.int .i64 a0_1,.int .i64 a0_2,.int .i64 a0_3]) (t:=26) ?_;intro gb544 hg w4 hbox hb;have BK544:=Aside0.mk hbox;have GW544:=sA hg;have GE544:=sA hg;replace HB:=lB hb;clear hb hbox hg)|((with_reducible refine gate_dst (N:=3) rfl ?_);refine bxE (cs:=#[.int .i64 a1_0,.int .i64 a1_1]) (t:=34) ?_;intro gb545 hg w5 hbox hb;have BK545:=Aside0.mk hbox;have GW545:=sA hg;have GE545:=sA hg;have NB544_545:=nA hg BK544;have NB545_544:=nB hg BK544;replace BK544:=kB BK544 hb;replace HB:=lB hb;clear hb hbox hg)|((with_reducible refine gate_dst (N:=4) rfl ?_);refine bxE (cs:=#[.int .i64 0,.int .i64 0]) (t:=34) ?_;intro gb546 hg w6 hbox hb;have BK546:=Aside0.mk hbox;have GW546:=sA hg;have GE546:=sA hg;have NB544_546:=nA hg BK544;have NB546_544:=nB hg BK544;have NB545_546:=nA hg BK545;have NB546_545:=nB hg BK545;replace BK544:=kB BK544 hb;replace BK545:=kB BK545 hb;replace HB:=lB hb;clear hb hbox hg))
 (try simp only [Act.put,List.setIfInBounds_toArray,List.set_cons_zero,List.set_cons_succ])
 go_cut [15] (fun v15 wc=>∃ (kq:Nat) (x15_2:Bool),v15=.bool x15_2∧Aside0 (spec_MoveEnd.j0 kq x15_2 a0_0 a0_1 a0_2 a0_3 a1_0 a1_1=some (r1,r2,r3))∧Aside0 (kq≤k)∧Aside0 (wc.heap[gb544]?=some (.cells #[.int .i64 a0_0,.int .i64 a0_1,.int .i64 a0_2,.int .i64 a0_3] 26 (0,0)))∧Aside0 (wc.heap[gb545]?=some (.cells #[.int .i64 a1_0,.int .i64 a1_1] 34 (0,0)))∧Aside0 (wc.heap[gb546]?=some (.cells #[.int .i64 0,.int .i64 0] 34 (0,0)))∧Aside0 (Below w.heap.size w wc))
 case first=>
  have H:=HC3.out
  clear HC3
  replace H:=bS H
  obtain ⟨t547,A7,H⟩:=H
  try dsimp only at H
  by_cases c8:t547=true
  ·
   subst c8
   rw [if_pos rfl] at H
   try dsimp only at H
   replace H:=bS H
   obtain ⟨t548,A9,H⟩:=H
   try dsimp only at H
   have H':=Aside0.mk H
   clear H
   have hnb10:=NB544_545.out
   have hnc10:=NB545_544.out
   have hnb11:=NB544_546.out
   have hnc11:=NB546_544.out
   obtain ⟨hcz12_0,hcz12_1,hcz12_2,hcz12_3,hfz12_0,hfz12_1,hfz12_2,hfz12_3⟩:=cz4 BK544
   go_wp2_with (first|((with_reducible refine gd 9 rfl ?_);refine gC (some 9) rfl Try.func53 (spec_l04Is.calls (w:=_) (h:=A7.out)) ?_;intro w13 hb;replace BK544:=kB BK544 hb;replace BK545:=kB BK545 hb;replace BK546:=kB BK546 hb;replace HB:=lB hb;clear hb;have hnb14:=NB545_546.out;have hnc14:=NB546_545.out;obtain ⟨hcz15_0,hcz15_1,hfz15_0,hfz15_1⟩:=cz2 BK545)|(go_at_call 54;(with_reducible refine (spec_l01End.calls k a1_0 a1_1 t548 _ A9.out).mono ?_);rintro e w16 ⟨rfl,hb⟩;replace BK544:=kB BK544 hb;replace BK545:=kB BK545 hb;replace BK546:=kB BK546 hb;replace HB:=lB hb;clear hb))
   go_meet
   case rel=>exact ⟨_,(!t548),hB,H',⟨by first|omega|exact Nat.le_refl _⟩,⟨bkA BK544⟩,⟨bkA BK545⟩,⟨bkA BK546⟩,⟨blA⟩⟩
  ·
   replace c8:=Bool.eq_false_iff.mpr c8
   subst c8
   rw [if_neg (show ¬ (false=true) by decide)] at H
   try dsimp only at H
   have H':=Aside0.mk H
   clear H
   have hnb17:=NB544_545.out
   have hnc17:=NB545_544.out
   have hnb18:=NB544_546.out
   have hnc18:=NB546_544.out
   obtain ⟨hcz19_0,hcz19_1,hcz19_2,hcz19_3,hfz19_0,hfz19_1,hfz19_2,hfz19_3⟩:=cz4 BK544
   go_wp2_with (first|((with_reducible refine gd 9 rfl ?_);refine gC (some 9) rfl Try.func53 (spec_l04Is.calls (w:=_) (h:=A7.out)) ?_;intro w20 hb;replace BK544:=kB BK544 hb;replace BK545:=kB BK545 hb;replace BK546:=kB BK546 hb;replace HB:=lB hb;clear hb))
   go_meet
   case rel=>exact ⟨_,(true),hB,H',⟨by first|omega|exact Nat.le_refl _⟩,⟨bkA BK544⟩,⟨bkA BK545⟩,⟨bkA BK546⟩,⟨blA⟩⟩
 case rest=>
  clear HC3
  try clear c8
  try clear hcz12_0
  try clear hcz12_1
  try clear hcz12_2
  try clear hcz12_3
  try clear hcz15_0
  try clear hcz15_1
  try clear hcz19_0
  try clear hcz19_1
  try clear hcz19_2
  try clear hcz19_3
  try clear hfz12_0
  try clear hfz12_1
  try clear hfz12_2
  try clear hfz12_3
  try clear hfz15_0
  try clear hfz15_1
  try clear hfz19_0
  try clear hfz19_1
  try clear hfz19_2
  try clear hfz19_3
  obtain ⟨kq,x15_2,rfl,HA,HJ2,BK544,BK545,BK546,HB⟩:=hcut
  cases kq with
  | zero=>exact absurd HA.out (by simp [spec_MoveEnd.j0])
  | succ kj2=>
   have H:=HA.out
   clear HA
   simp only [spec_MoveEnd.j0] at H
   by_cases c21:x15_2=true
   ·
    subst c21
    rw [if_pos rfl] at H
    try dsimp only at H
    simp only [Option.some.injEq,Prod.mk.injEq] at H
    obtain ⟨rfl,rfl,rfl⟩:=H
    have hnb22:=NB546_544.out
    have hnc22:=NB544_546.out
    have hnb23:=NB546_545.out
    have hnc23:=NB545_546.out
    obtain ⟨hcz24_0,hcz24_1,hfz24_0,hfz24_1⟩:=cz2 BK546
    go_wp2
    refine bodyPost_ret (results_ct rfl _ _ gb546 34 #[.int .i64 0,.int .i64 0] (0,0) _ rfl (bpA BK546) Try.underlying34 rfl (by kernel_rfl)) rfl ?_
    exact finA blA
   ·
    replace c21:=Bool.eq_false_iff.mpr c21
    subst c21
    rw [if_neg (show ¬ (false=true) by decide)] at H
    try dsimp only at H
    replace H:=bS H
    obtain ⟨⟨t549,t550,t551⟩,A25,H⟩:=H
    try dsimp only at H
    by_cases c26:t551=true
    focus
     subst c26
     rw [if_pos rfl] at H
     try dsimp only at H
     simp only [Option.some.injEq,Prod.mk.injEq] at H
     obtain ⟨rfl,rfl,rfl⟩:=H
     have hnb27:=NB544_545.out
     have hnc27:=NB545_544.out
     have hnb28:=NB544_546.out
     have hnc28:=NB546_544.out
     obtain ⟨hcz29_0,hcz29_1,hcz29_2,hcz29_3,hfz29_0,hfz29_1,hfz29_2,hfz29_3⟩:=cz4 BK544
     have hnb30:=NB545_546.out
     have hnc30:=NB546_545.out
     obtain ⟨hcz31_0,hcz31_1,hfz31_0,hfz31_1⟩:=cz2 BK545
    rotate_left
    focus
     replace c26:=Bool.eq_false_iff.mpr c26
     subst c26
     rw [if_neg (show ¬ (false=true) by decide)] at H
     try dsimp only at H
     simp only [Option.some.injEq,Prod.mk.injEq] at H
     obtain ⟨rfl,rfl,rfl⟩:=H
     have hnb39:=NB544_545.out
     have hnc39:=NB545_544.out
     have hnb40:=NB544_546.out
     have hnc40:=NB546_544.out
     obtain ⟨hcz41_0,hcz41_1,hcz41_2,hcz41_3,hfz41_0,hfz41_1,hfz41_2,hfz41_3⟩:=cz4 BK544
     have hnb42:=NB545_546.out
     have hnc42:=NB546_545.out
     obtain ⟨hcz43_0,hcz43_1,hfz43_0,hfz43_1⟩:=cz2 BK545
    rotate_left
    all_goals
     go_wp2_with (first|((with_reducible refine gd 20 rfl ?_);refine gC (some 20) rfl Try.func55 (spec_l04End.calls (w:=_) (h:=A25.out)) ?_;intro w32 hb;replace BK544:=kB BK544 hb;replace BK545:=kB BK545 hb;replace BK546:=kB BK546 hb;replace HB:=lB hb;clear hb)|((with_reducible refine gate_dst (N:=6) rfl ?_);refine bxE (cs:=#[.int .i64 0,.int .i64 0]) (t:=34) ?_;intro gb552 hg w33 hbox hb;have BK552:=Aside0.mk hbox;have GW552:=sA hg;have GE552:=sA hg;have NB544_552:=nA hg BK544;have NB552_544:=nB hg BK544;have NB545_552:=nA hg BK545;have NB552_545:=nB hg BK545;have NB546_552:=nA hg BK546;have NB552_546:=nB hg BK546;replace BK544:=kB BK544 hb;replace BK545:=kB BK545 hb;replace BK546:=kB BK546 hb;replace HB:=lB hb;clear hb hbox hg;have hnb34:=NB552_544.out;have hnc34:=NB544_552.out;have hnb35:=NB552_545.out;have hnc35:=NB545_552.out;have hnb36:=NB552_546.out;have hnc36:=NB546_552.out;obtain ⟨hcz37_0,hcz37_1,hfz37_0,hfz37_1⟩:=cz2 BK552;obtain ⟨hcz38_0,hcz38_1,hfz38_0,hfz38_1⟩:=cz2 BK546))
    ·
     refine bodyPost_ret (results_ct rfl _ _ gb546 34 #[.int .i64 t549,.int .i64 t550] (0,0) _ rfl (bpA BK546) Try.underlying34 rfl (by kernel_rfl)) rfl ?_
     exact finA blA
    ·
     refine bodyPost_ret (results_ct rfl _ _ gb546 34 #[.int .i64 0,.int .i64 0] (0,0) _ rfl (bpA BK546) Try.underlying34 rfl (by kernel_rfl)) rfl ?_
     exact finA blA
def impl_ParentOf.f (k:Nat) (a0 a1_0 a1_1 a1_2:Int):Option (Int × Int × Int × Int):=(impl_IsBall.f k a0 a1_0 a1_1 a1_2).bind fun t583=>(if t583=true then ((impl_parent.f k a0 a1_0 a1_1 a1_2).bind fun bt584=>((impl_fitted.f bt584.1 bt584.2.1 bt584.2.2.1 bt584.2.2.2).bind fun bt588=>(some (bt588.1,bt588.2.1,bt588.2.2.1,bt588.2.2.2)))) else (some (0,0,0,1)))
theorem impl_ParentOf.mono:∀ a0 a1 a2 a3 k,LeO (impl_ParentOf.f k a0 a1 a2 a3) (impl_ParentOf.f (k+1) a0 a1 a2 a3):=by
 intro a0 a1 a2 a3 k
 unfold impl_ParentOf.f
 repeat' first
   | with_reducible first|exact impl_IsBall.mono ..|exact impl_parent.mono ..|exact LeO.refl _|exact LeO.none _|refine LeO.ite ?_ ?_|refine LeO.bind ?_ fun _=>?_
set_option maxHeartbeats 8000000 in
set_option maxRecDepth 100000 in
theorem impl_ParentOf.calls (k:Nat) (a0 a1_0 a1_1 a1_2 r1 r2 r3 r4:Int) (w:World) (h:impl_ParentOf.f k a0 a1_0 a1_1 a1_2=some (r1,r2,r3,r4)) :
  Calls Try.prog 15 #[.int .i64 a0,.agg #[.int .i64 a1_0,.int .i64 a1_1,.int .i64 a1_2]] w fun e w'=>e=.returned (.tuple #[.agg #[.int .i64 r1,.int .i64 r2,.int .i64 r3],.int .i64 r4])∧Below w.heap.size w w':=by
 have hu28:=Try.underlying28
 have HB:=Aside0.mk (Below.refl w.heap.size w)
 have H:=h
 unfold impl_ParentOf.f at H
 clear h
 replace H:=bS H
 obtain ⟨t583,A3,H⟩:=H
 try dsimp only at H
 by_cases c4:t583=true
 ·
  subst c4
  rw [if_pos rfl] at H
  try dsimp only at H
  replace H:=bS H
  obtain ⟨⟨t584,t585,t586,t587⟩,A5,H⟩:=H
  try dsimp only at H
  replace H:=bS H
  obtain ⟨⟨t588,t589,t590,t591⟩,A6,H⟩:=H
  try dsimp only at H
  simp only [Option.some.injEq,Prod.mk.injEq] at H
  obtain ⟨rfl,rfl,rfl,rfl⟩:=H
  go_enter Try.func15,Try.ntmps15
  go_wp2_with (first|((with_reducible refine gate_dst (N:=3) rfl ?_);refine bxE (cs:=#[.int .i64 a1_0,.int .i64 a1_1,.int .i64 a1_2]) (t:=28) ?_;intro gb581 hg w7 hbox hb;have BK581:=Aside0.mk hbox;have GW581:=sA hg;have GE581:=sA hg;replace HB:=lB hb;clear hb hbox hg)|((with_reducible refine gate_dst (N:=4) rfl ?_);refine bxE (cs:=#[.int .i64 0,.int .i64 0,.int .i64 0]) (t:=28) ?_;intro gb582 hg w8 hbox hb;have BK582:=Aside0.mk hbox;have GW582:=sA hg;have GE582:=sA hg;have NB581_582:=nA hg BK581;have NB582_581:=nB hg BK581;replace BK581:=kB BK581 hb;replace HB:=lB hb;clear hb hbox hg;have hnb9:=NB581_582.out;have hnc9:=NB582_581.out;obtain ⟨hcz10_0,hcz10_1,hcz10_2,hfz10_0,hfz10_1,hfz10_2⟩:=cz3 BK581)|((with_reducible refine gd 8 rfl ?_);refine gC (some 8) rfl Try.func14 (impl_IsBall.calls (w:=_) (h:=A3.out)) ?_;intro w11 hb;replace BK581:=kB BK581 hb;replace BK582:=kB BK582 hb;replace HB:=lB hb;clear hb;obtain ⟨hcz12_0,hcz12_1,hcz12_2,hfz12_0,hfz12_1,hfz12_2⟩:=cz3 BK581)|((with_reducible refine gd 13 rfl ?_);refine gC (some 13) rfl Try.func60 (impl_parent.calls (w:=_) (h:=A5.out)) ?_;intro w13 hb;replace BK581:=kB BK581 hb;replace BK582:=kB BK582 hb;replace HB:=lB hb;clear hb)|((with_reducible refine gd 16 rfl ?_);refine gC (some 16) rfl Try.func43 (impl_fitted.calls (w:=_) (h:=A6.out)) ?_;intro w14 hb;replace BK581:=kB BK581 hb;replace BK582:=kB BK582 hb;replace HB:=lB hb;clear hb;obtain ⟨hcz15_0,hcz15_1,hcz15_2,hfz15_0,hfz15_1,hfz15_2⟩:=cz3 BK582))
  refine bodyPost_ret (results_ct rfl _ _ gb582 28 #[.int .i64 t588,.int .i64 t589,.int .i64 t590] (0,0) _ rfl (bpA BK582) Try.underlying28 rfl (by kernel_rfl)) rfl ?_
  exact finA blA
 ·
  replace c4:=Bool.eq_false_iff.mpr c4
  subst c4
  rw [if_neg (show ¬ (false=true) by decide)] at H
  try dsimp only at H
  simp only [Option.some.injEq,Prod.mk.injEq] at H
  obtain ⟨rfl,rfl,rfl,rfl⟩:=H
  go_enter Try.func15,Try.ntmps15
  go_wp2_with (first|((with_reducible refine gate_dst (N:=3) rfl ?_);refine bxE (cs:=#[.int .i64 a1_0,.int .i64 a1_1,.int .i64 a1_2]) (t:=28) ?_;intro gb581 hg w16 hbox hb;have BK581:=Aside0.mk hbox;have GW581:=sA hg;have GE581:=sA hg;replace HB:=lB hb;clear hb hbox hg)|((with_reducible refine gate_dst (N:=4) rfl ?_);refine bxE (cs:=#[.int .i64 0,.int .i64 0,.int .i64 0]) (t:=28) ?_;intro gb582 hg w17 hbox hb;have BK582:=Aside0.mk hbox;have GW582:=sA hg;have GE582:=sA hg;have NB581_582:=nA hg BK581;have NB582_581:=nB hg BK581;replace BK581:=kB BK581 hb;replace HB:=lB hb;clear hb hbox hg;have hnb18:=NB581_582.out;have hnc18:=NB582_581.out;obtain ⟨hcz19_0,hcz19_1,hcz19_2,hfz19_0,hfz19_1,hfz19_2⟩:=cz3 BK581)|((with_reducible refine gd 8 rfl ?_);refine gC (some 8) rfl Try.func14 (impl_IsBall.calls (w:=_) (h:=A3.out)) ?_;intro w20 hb;replace BK581:=kB BK581 hb;replace BK582:=kB BK582 hb;replace HB:=lB hb;clear hb;obtain ⟨hcz21_0,hcz21_1,hcz21_2,hfz21_0,hfz21_1,hfz21_2⟩:=cz3 BK582))
  refine bodyPost_ret (results_ct rfl _ _ gb582 28 #[.int .i64 0,.int .i64 0,.int .i64 0] (0,0) _ rfl (bpA BK582) Try.underlying28 rfl (by kernel_rfl)) rfl ?_
  exact finA blA
def impl_product.f (k:Nat) (a0_0 a0_1 a0_2 a0_3 a1_0 a1_1 a1_2 a1_3:Int):Option (Int × Int × Int × Int × Bool):=impl_reduced.f k (wrap64 (wrap64 (a0_0*a1_0)+wrap64 (a0_1*a1_2))) (wrap64 (wrap64 (a0_0*a1_1)+wrap64 (a0_1*a1_3))) (wrap64 (wrap64 (a0_2*a1_0)+wrap64 (a0_3*a1_2))) (wrap64 (wrap64 (a0_2*a1_1)+wrap64 (a0_3*a1_3)))
theorem impl_product.mono:∀ a0_0 a0_1 a0_2 a0_3 a1_0 a1_1 a1_2 a1_3 k,LeO (impl_product.f k a0_0 a0_1 a0_2 a0_3 a1_0 a1_1 a1_2 a1_3) (impl_product.f (k+1) a0_0 a0_1 a0_2 a0_3 a1_0 a1_1 a1_2 a1_3):=fun _ _ _ _ _ _ _ _ k=>impl_reduced.mono _ _ _ _ k
set_option maxHeartbeats 8000000 in
set_option maxRecDepth 100000 in
theorem impl_product.calls (k:Nat) (a0_0 a0_1 a0_2 a0_3 a1_0 a1_1 a1_2 a1_3 r1 r2 r3 r4:Int) (r5:Bool) (w:World) (h:impl_product.f k a0_0 a0_1 a0_2 a0_3 a1_0 a1_1 a1_2 a1_3=some (r1,r2,r3,r4,r5)) :
  Calls Try.prog 65 #[.agg #[.int .i64 a0_0,.int .i64 a0_1,.int .i64 a0_2,.int .i64 a0_3],.agg #[.int .i64 a1_0,.int .i64 a1_1,.int .i64 a1_2,.int .i64 a1_3]] w fun e w'=>e=.returned (.tuple #[.agg #[.int .i64 r1,.int .i64 r2,.int .i64 r3,.int .i64 r4],.bool r5])∧Below w.heap.size w w':=by
 unfold impl_product.f at h
 have H:=Aside0.mk h
 clear h
 have HB:=Aside0.mk (Below.refl w.heap.size w)
 go_enter Try.func65,Try.ntmps65
 go_wp2_with (first|((with_reducible refine gate_dst (N:=2) rfl ?_);refine bxE (cs:=#[.int .i64 a0_0,.int .i64 a0_1,.int .i64 a0_2,.int .i64 a0_3]) (t:=26) ?_;intro ga hg wa hbox hb;have BKa:=Aside0.mk hbox;have GEa:=sA hg;replace HB:=lB hb;clear hb hbox hg)|((with_reducible refine gate_dst (N:=3) rfl ?_);refine bxE (cs:=#[.int .i64 a1_0,.int .i64 a1_1,.int .i64 a1_2,.int .i64 a1_3]) (t:=26) ?_;intro gb hg wb hbox hb;have BKb:=Aside0.mk hbox;have GEb:=sA hg;replace BKa:=Aside0.mk (blk_below (bkA BKa) hb);replace HB:=lB hb;clear hb hbox hg)|((with_reducible refine gate_dst (N:=4) rfl ?_);refine bxE (cs:=#[.int .i64 0,.int .i64 0,.int .i64 0,.int .i64 0]) (t:=26) ?_;intro gr hg wr hbox hb;have BKr:=Aside0.mk hbox;have GEr:=sA hg;replace BKa:=Aside0.mk (blk_below (bkA BKa) hb);replace BKb:=Aside0.mk (blk_below (bkA BKb) hb);replace HB:=lB hb;clear hb hbox hg)|((with_reducible refine gate_dst (N:=6) rfl ?_);refine bxE (cs:=#[.int .i64 0,.int .i64 0,.int .i64 0,.int .i64 0]) (t:=26) ?_;intro go hg wo hbox hb;have BKo:=Aside0.mk hbox;have GEo:=sA hg;have NEa_o:=Aside0.mk (neA hg (bkA BKa));have NEb_o:=Aside0.mk (neA hg (bkA BKb));have NEr_o:=Aside0.mk (neA hg (bkA BKr));replace BKa:=Aside0.mk (blk_below (bkA BKa) hb);replace BKb:=Aside0.mk (blk_below (bkA BKb) hb);replace BKr:=Aside0.mk (blk_below (bkA BKr) hb);replace HB:=lB hb;clear hb hbox hg;have hco_0:wo.cell? ⟨go,0,none⟩=some (.int .i64 0):=(blk_cell BKo.out 0).trans rfl;have hfo_0:=blk_frozen BKo.out 0;have hco_1:wo.cell? ⟨go,1,none⟩=some (.int .i64 0):=(blk_cell BKo.out 1).trans rfl;have hfo_1:=blk_frozen BKo.out 1;have hco_2:wo.cell? ⟨go,2,none⟩=some (.int .i64 0):=(blk_cell BKo.out 2).trans rfl;have hfo_2:=blk_frozen BKo.out 2;have hco_3:wo.cell? ⟨go,3,none⟩=some (.int .i64 0):=(blk_cell BKo.out 3).trans rfl;have hfo_3:=blk_frozen BKo.out 3))
 refine name_world (fun w'=>w'.heap[ga]?=some (.cells #[.int .i64 a0_0,.int .i64 a0_1,.int .i64 a0_2,.int .i64 a0_3] 26 (0,0))∧w'.heap[gb]?=some (.cells #[.int .i64 a1_0,.int .i64 a1_1,.int .i64 a1_2,.int .i64 a1_3] 26 (0,0))∧w'.heap[gr]?=some (.cells #[.int .i64 0,.int .i64 0,.int .i64 0,.int .i64 0] 26 (0,0))∧w'.heap[go]?=some (.cells #[.int .i64 0,.int .i64 0,.int .i64 0,.int .i64 0] 26 (0,0))∧Below w.heap.size w w') ⟨by repeat (first|(with_reducible exact BKa.out)|(with_reducible first|refine blk_drewN ?_ _|refine blk_drew ?_|refine blk_alloc ?_ _)|refine blk_far ?_ NEa_o.out _),by repeat (first|(with_reducible exact BKb.out)|(with_reducible first|refine blk_drewN ?_ _|refine blk_drew ?_|refine blk_alloc ?_ _)|refine blk_far ?_ NEb_o.out _),by repeat (first|(with_reducible exact BKr.out)|(with_reducible first|refine blk_drewN ?_ _|refine blk_drew ?_|refine blk_alloc ?_ _)|refine blk_far ?_ NEr_o.out _),by refine dr ?_;refine blk_put (cs:=#[.int .i64 0,.int .i64 0,.int .i64 0,.int .i64 0]) ?_ 3 _ rfl;refine dr ?_;refine blk_put (cs:=#[.int .i64 0,.int .i64 0,.int .i64 0,.int .i64 0]) ?_ 2 _ rfl;refine dr ?_;refine blk_put (cs:=#[.int .i64 0,.int .i64 0,.int .i64 0,.int .i64 0]) ?_ 1 _ rfl;refine dr ?_;refine blk_put (cs:=#[.int .i64 0,.int .i64 0,.int .i64 0,.int .i64 0]) ?_ 0 _ rfl;(with_reducible repeat (first|refine blk_drewN ?_ _|refine blk_drew ?_|refine blk_alloc ?_ _));exact BKo.out,by repeat (first|(with_reducible exact HB.out)|(with_reducible first|apply pw_below_drewN|apply below_alloc|apply below_drew1)|refine below_set ?_ GEo.out)⟩ ?_
 clear BKa BKb BKr BKo HB
 clear hco_0 hfo_0 hco_1 hfo_1 hco_2 hfo_2 hco_3 hfo_3
 rintro wA ⟨ha,hb,hr,ho,hbel⟩
 have BKa:=Aside0.mk ha
 have BKb:=Aside0.mk hb
 have BKr:=Aside0.mk hr
 have BKo:=Aside0.mk ho
 have HB:=Aside0.mk hbel
 clear hbel ha hb hr ho
 have hca_0:wA.cell? ⟨ga,0,none⟩=some (.int .i64 a0_0):=(blk_cell BKa.out 0).trans rfl
 have hca_1:wA.cell? ⟨ga,1,none⟩=some (.int .i64 a0_1):=(blk_cell BKa.out 1).trans rfl
 have hca_2:wA.cell? ⟨ga,2,none⟩=some (.int .i64 a0_2):=(blk_cell BKa.out 2).trans rfl
 have hca_3:wA.cell? ⟨ga,3,none⟩=some (.int .i64 a0_3):=(blk_cell BKa.out 3).trans rfl
 have hcb_0:wA.cell? ⟨gb,0,none⟩=some (.int .i64 a1_0):=(blk_cell BKb.out 0).trans rfl
 have hcb_1:wA.cell? ⟨gb,1,none⟩=some (.int .i64 a1_1):=(blk_cell BKb.out 1).trans rfl
 have hcb_2:wA.cell? ⟨gb,2,none⟩=some (.int .i64 a1_2):=(blk_cell BKb.out 2).trans rfl
 have hcb_3:wA.cell? ⟨gb,3,none⟩=some (.int .i64 a1_3):=(blk_cell BKb.out 3).trans rfl
 have hcr_0:wA.cell? ⟨gr,0,none⟩=some (.int .i64 0):=(blk_cell BKr.out 0).trans rfl
 have hcr_1:wA.cell? ⟨gr,1,none⟩=some (.int .i64 0):=(blk_cell BKr.out 1).trans rfl
 have hcr_2:wA.cell? ⟨gr,2,none⟩=some (.int .i64 0):=(blk_cell BKr.out 2).trans rfl
 have hcr_3:wA.cell? ⟨gr,3,none⟩=some (.int .i64 0):=(blk_cell BKr.out 3).trans rfl
 have hco_0:wA.cell? ⟨go,0,none⟩=some (.int .i64 0):=(blk_cell BKo.out 0).trans rfl
 have hco_1:wA.cell? ⟨go,1,none⟩=some (.int .i64 0):=(blk_cell BKo.out 1).trans rfl
 have hco_2:wA.cell? ⟨go,2,none⟩=some (.int .i64 0):=(blk_cell BKo.out 2).trans rfl
 have hco_3:wA.cell? ⟨go,3,none⟩=some (.int .i64 0):=(blk_cell BKo.out 3).trans rfl
 have hf_:∀ i,wA.frozen? ⟨go,i,none⟩=false:=fun i=>blk_frozen BKo.out i
 refine wp_loop_rounds 3 ?_
 rw [rounds_succ];go_wp2
 refine wp_loop_rounds 3 ?_
 rw [rounds_succ];go_wp2
 refine wp_region_still_tail 23 (by kernel_rfl) (by kernel_rfl) ?_
 change wpStill _ _ wA.drew (fun a'=>wpList _ _ _ _ a' wA.drew) _ _
 simp only [List.take_succ_cons,List.take_zero,List.drop_succ_cons,List.drop_zero]
 repeat still_step
 refine wpStill_nil ?_
 go_wp2
 rw [rounds_succ];go_wp2
 refine name_world (fun w'=>w'.heap[ga]?=some (.cells #[.int .i64 a0_0,.int .i64 a0_1,.int .i64 a0_2,.int .i64 a0_3] 26 (0,0))∧w'.heap[gb]?=some (.cells #[.int .i64 a1_0,.int .i64 a1_1,.int .i64 a1_2,.int .i64 a1_3] 26 (0,0))∧w'.heap[gr]?=some (.cells #[.int .i64 0,.int .i64 0,.int .i64 0,.int .i64 0] 26 (0,0))∧w'.heap[go]?=some (.cells #[.int .i64 (wrap64 (wrap64 (a0_0*a1_0)+wrap64 (a0_1*a1_2))),.int .i64 0,.int .i64 0,.int .i64 0] 26 (0,0))∧Below w.heap.size w w') ⟨by repeat (first|(with_reducible exact BKa.out)|(with_reducible first|refine blk_drewN ?_ _|refine blk_drew ?_|refine blk_alloc ?_ _)|refine blk_far ?_ NEa_o.out _),by repeat (first|(with_reducible exact BKb.out)|(with_reducible first|refine blk_drewN ?_ _|refine blk_drew ?_|refine blk_alloc ?_ _)|refine blk_far ?_ NEb_o.out _),by repeat (first|(with_reducible exact BKr.out)|(with_reducible first|refine blk_drewN ?_ _|refine blk_drew ?_|refine blk_alloc ?_ _)|refine blk_far ?_ NEr_o.out _),by refine dr ?_;refine blk_put (cs:=#[.int .i64 0,.int .i64 0,.int .i64 0,.int .i64 0]) ?_ 0 _ rfl;(with_reducible repeat (first|refine blk_drewN ?_ _|refine blk_drew ?_|refine blk_alloc ?_ _));exact BKo.out,by repeat (first|(with_reducible exact HB.out)|(with_reducible first|apply pw_below_drewN|apply below_alloc|apply below_drew1)|refine below_set ?_ GEo.out)⟩ ?_
 clear BKa BKb BKr BKo HB
 clear hca_0 hca_1 hca_2 hca_3 hcb_0 hcb_1 hcb_2 hcb_3 hcr_0 hcr_1 hcr_2 hcr_3 hco_0 hco_1 hco_2 hco_3 hf_
 rintro wB ⟨ha,hb,hr,ho,hbel⟩
 have BKa:=Aside0.mk ha
 have BKb:=Aside0.mk hb
 have BKr:=Aside0.mk hr
 have BKo:=Aside0.mk ho
 have HB:=Aside0.mk hbel
 clear hbel ha hb hr ho
 have hca_0:wB.cell? ⟨ga,0,none⟩=some (.int .i64 a0_0):=(blk_cell BKa.out 0).trans rfl
 have hca_1:wB.cell? ⟨ga,1,none⟩=some (.int .i64 a0_1):=(blk_cell BKa.out 1).trans rfl
 have hca_2:wB.cell? ⟨ga,2,none⟩=some (.int .i64 a0_2):=(blk_cell BKa.out 2).trans rfl
 have hca_3:wB.cell? ⟨ga,3,none⟩=some (.int .i64 a0_3):=(blk_cell BKa.out 3).trans rfl
 have hcb_0:wB.cell? ⟨gb,0,none⟩=some (.int .i64 a1_0):=(blk_cell BKb.out 0).trans rfl
 have hcb_1:wB.cell? ⟨gb,1,none⟩=some (.int .i64 a1_1):=(blk_cell BKb.out 1).trans rfl
 have hcb_2:wB.cell? ⟨gb,2,none⟩=some (.int .i64 a1_2):=(blk_cell BKb.out 2).trans rfl
 have hcb_3:wB.cell? ⟨gb,3,none⟩=some (.int .i64 a1_3):=(blk_cell BKb.out 3).trans rfl
 have hcr_0:wB.cell? ⟨gr,0,none⟩=some (.int .i64 0):=(blk_cell BKr.out 0).trans rfl
 have hcr_1:wB.cell? ⟨gr,1,none⟩=some (.int .i64 0):=(blk_cell BKr.out 1).trans rfl
 have hcr_2:wB.cell? ⟨gr,2,none⟩=some (.int .i64 0):=(blk_cell BKr.out 2).trans rfl
 have hcr_3:wB.cell? ⟨gr,3,none⟩=some (.int .i64 0):=(blk_cell BKr.out 3).trans rfl
 have hco_0:wB.cell? ⟨go,0,none⟩=some (.int .i64 (wrap64 (wrap64 (a0_0*a1_0)+wrap64 (a0_1*a1_2)))):=(blk_cell BKo.out 0).trans rfl
 have hco_1:wB.cell? ⟨go,1,none⟩=some (.int .i64 0):=(blk_cell BKo.out 1).trans rfl
 have hco_2:wB.cell? ⟨go,2,none⟩=some (.int .i64 0):=(blk_cell BKo.out 2).trans rfl
 have hco_3:wB.cell? ⟨go,3,none⟩=some (.int .i64 0):=(blk_cell BKo.out 3).trans rfl
 have hf_:∀ i,wB.frozen? ⟨go,i,none⟩=false:=fun i=>blk_frozen BKo.out i
 refine wp_region_still_tail 23 (by kernel_rfl) (by kernel_rfl) ?_
 change wpStill _ _ wB.drew (fun a'=>wpList _ _ _ _ a' wB.drew) _ _
 simp only [List.take_succ_cons,List.take_zero,List.drop_succ_cons,List.drop_zero]
 repeat still_step
 refine wpStill_nil ?_
 go_wp2
 rw [rounds_succ];go_wp2
 rw [rounds_succ];go_wp2
 refine wp_loop_rounds 3 ?_
 rw [rounds_succ];go_wp2
 refine name_world (fun w'=>w'.heap[ga]?=some (.cells #[.int .i64 a0_0,.int .i64 a0_1,.int .i64 a0_2,.int .i64 a0_3] 26 (0,0))∧w'.heap[gb]?=some (.cells #[.int .i64 a1_0,.int .i64 a1_1,.int .i64 a1_2,.int .i64 a1_3] 26 (0,0))∧w'.heap[gr]?=some (.cells #[.int .i64 0,.int .i64 0,.int .i64 0,.int .i64 0] 26 (0,0))∧w'.heap[go]?=some (.cells #[.int .i64 (wrap64 (wrap64 (a0_0*a1_0)+wrap64 (a0_1*a1_2))),.int .i64 (wrap64 (wrap64 (a0_0*a1_1)+wrap64 (a0_1*a1_3))),.int .i64 0,.int .i64 0] 26 (0,0))∧Below w.heap.size w w') ⟨by repeat (first|(with_reducible exact BKa.out)|(with_reducible first|refine blk_drewN ?_ _|refine blk_drew ?_|refine blk_alloc ?_ _)|refine blk_far ?_ NEa_o.out _),by repeat (first|(with_reducible exact BKb.out)|(with_reducible first|refine blk_drewN ?_ _|refine blk_drew ?_|refine blk_alloc ?_ _)|refine blk_far ?_ NEb_o.out _),by repeat (first|(with_reducible exact BKr.out)|(with_reducible first|refine blk_drewN ?_ _|refine blk_drew ?_|refine blk_alloc ?_ _)|refine blk_far ?_ NEr_o.out _),by refine dr ?_;refine blk_put (cs:=#[.int .i64 (wrap64 (wrap64 (a0_0*a1_0)+wrap64 (a0_1*a1_2))),.int .i64 0,.int .i64 0,.int .i64 0]) ?_ 1 _ rfl;(with_reducible repeat (first|refine blk_drewN ?_ _|refine blk_drew ?_|refine blk_alloc ?_ _));exact BKo.out,by repeat (first|(with_reducible exact HB.out)|(with_reducible first|apply pw_below_drewN|apply below_alloc|apply below_drew1)|refine below_set ?_ GEo.out)⟩ ?_
 clear BKa BKb BKr BKo HB
 clear hca_0 hca_1 hca_2 hca_3 hcb_0 hcb_1 hcb_2 hcb_3 hcr_0 hcr_1 hcr_2 hcr_3 hco_0 hco_1 hco_2 hco_3 hf_
 rintro wC ⟨ha,hb,hr,ho,hbel⟩
 have BKa:=Aside0.mk ha
 have BKb:=Aside0.mk hb
 have BKr:=Aside0.mk hr
 have BKo:=Aside0.mk ho
 have HB:=Aside0.mk hbel
 clear hbel ha hb hr ho
 have hca_0:wC.cell? ⟨ga,0,none⟩=some (.int .i64 a0_0):=(blk_cell BKa.out 0).trans rfl
 have hca_1:wC.cell? ⟨ga,1,none⟩=some (.int .i64 a0_1):=(blk_cell BKa.out 1).trans rfl
 have hca_2:wC.cell? ⟨ga,2,none⟩=some (.int .i64 a0_2):=(blk_cell BKa.out 2).trans rfl
 have hca_3:wC.cell? ⟨ga,3,none⟩=some (.int .i64 a0_3):=(blk_cell BKa.out 3).trans rfl
 have hcb_0:wC.cell? ⟨gb,0,none⟩=some (.int .i64 a1_0):=(blk_cell BKb.out 0).trans rfl
 have hcb_1:wC.cell? ⟨gb,1,none⟩=some (.int .i64 a1_1):=(blk_cell BKb.out 1).trans rfl
 have hcb_2:wC.cell? ⟨gb,2,none⟩=some (.int .i64 a1_2):=(blk_cell BKb.out 2).trans rfl
 have hcb_3:wC.cell? ⟨gb,3,none⟩=some (.int .i64 a1_3):=(blk_cell BKb.out 3).trans rfl
 have hcr_0:wC.cell? ⟨gr,0,none⟩=some (.int .i64 0):=(blk_cell BKr.out 0).trans rfl
 have hcr_1:wC.cell? ⟨gr,1,none⟩=some (.int .i64 0):=(blk_cell BKr.out 1).trans rfl
 have hcr_2:wC.cell? ⟨gr,2,none⟩=some (.int .i64 0):=(blk_cell BKr.out 2).trans rfl
 have hcr_3:wC.cell? ⟨gr,3,none⟩=some (.int .i64 0):=(blk_cell BKr.out 3).trans rfl
 have hco_0:wC.cell? ⟨go,0,none⟩=some (.int .i64 (wrap64 (wrap64 (a0_0*a1_0)+wrap64 (a0_1*a1_2)))):=(blk_cell BKo.out 0).trans rfl
 have hco_1:wC.cell? ⟨go,1,none⟩=some (.int .i64 (wrap64 (wrap64 (a0_0*a1_1)+wrap64 (a0_1*a1_3)))):=(blk_cell BKo.out 1).trans rfl
 have hco_2:wC.cell? ⟨go,2,none⟩=some (.int .i64 0):=(blk_cell BKo.out 2).trans rfl
 have hco_3:wC.cell? ⟨go,3,none⟩=some (.int .i64 0):=(blk_cell BKo.out 3).trans rfl
 have hf_:∀ i,wC.frozen? ⟨go,i,none⟩=false:=fun i=>blk_frozen BKo.out i
 refine wp_region_still_tail 23 (by kernel_rfl) (by kernel_rfl) ?_
 change wpStill _ _ wC.drew (fun a'=>wpList _ _ _ _ a' wC.drew) _ _
 simp only [List.take_succ_cons,List.take_zero,List.drop_succ_cons,List.drop_zero]
 repeat still_step
 refine wpStill_nil ?_
 go_wp2
 rw [rounds_succ];go_wp2
 refine name_world (fun w'=>w'.heap[ga]?=some (.cells #[.int .i64 a0_0,.int .i64 a0_1,.int .i64 a0_2,.int .i64 a0_3] 26 (0,0))∧w'.heap[gb]?=some (.cells #[.int .i64 a1_0,.int .i64 a1_1,.int .i64 a1_2,.int .i64 a1_3] 26 (0,0))∧w'.heap[gr]?=some (.cells #[.int .i64 0,.int .i64 0,.int .i64 0,.int .i64 0] 26 (0,0))∧w'.heap[go]?=some (.cells #[.int .i64 (wrap64 (wrap64 (a0_0*a1_0)+wrap64 (a0_1*a1_2))),.int .i64 (wrap64 (wrap64 (a0_0*a1_1)+wrap64 (a0_1*a1_3))),.int .i64 (wrap64 (wrap64 (a0_2*a1_0)+wrap64 (a0_3*a1_2))),.int .i64 0] 26 (0,0))∧Below w.heap.size w w') ⟨by repeat (first|(with_reducible exact BKa.out)|(with_reducible first|refine blk_drewN ?_ _|refine blk_drew ?_|refine blk_alloc ?_ _)|refine blk_far ?_ NEa_o.out _),by repeat (first|(with_reducible exact BKb.out)|(with_reducible first|refine blk_drewN ?_ _|refine blk_drew ?_|refine blk_alloc ?_ _)|refine blk_far ?_ NEb_o.out _),by repeat (first|(with_reducible exact BKr.out)|(with_reducible first|refine blk_drewN ?_ _|refine blk_drew ?_|refine blk_alloc ?_ _)|refine blk_far ?_ NEr_o.out _),by refine dr ?_;refine blk_put (cs:=#[.int .i64 (wrap64 (wrap64 (a0_0*a1_0)+wrap64 (a0_1*a1_2))),.int .i64 (wrap64 (wrap64 (a0_0*a1_1)+wrap64 (a0_1*a1_3))),.int .i64 0,.int .i64 0]) ?_ 2 _ rfl;(with_reducible repeat (first|refine blk_drewN ?_ _|refine blk_drew ?_|refine blk_alloc ?_ _));exact BKo.out,by repeat (first|(with_reducible exact HB.out)|(with_reducible first|apply pw_below_drewN|apply below_alloc|apply below_drew1)|refine below_set ?_ GEo.out)⟩ ?_
 clear BKa BKb BKr BKo HB
 clear hca_0 hca_1 hca_2 hca_3 hcb_0 hcb_1 hcb_2 hcb_3 hcr_0 hcr_1 hcr_2 hcr_3 hco_0 hco_1 hco_2 hco_3 hf_
 rintro wD ⟨ha,hb,hr,ho,hbel⟩
 have BKa:=Aside0.mk ha
 have BKb:=Aside0.mk hb
 have BKr:=Aside0.mk hr
 have BKo:=Aside0.mk ho
 have HB:=Aside0.mk hbel
 clear hbel ha hb hr ho
 have hca_0:wD.cell? ⟨ga,0,none⟩=some (.int .i64 a0_0):=(blk_cell BKa.out 0).trans rfl
 have hca_1:wD.cell? ⟨ga,1,none⟩=some (.int .i64 a0_1):=(blk_cell BKa.out 1).trans rfl
 have hca_2:wD.cell? ⟨ga,2,none⟩=some (.int .i64 a0_2):=(blk_cell BKa.out 2).trans rfl
 have hca_3:wD.cell? ⟨ga,3,none⟩=some (.int .i64 a0_3):=(blk_cell BKa.out 3).trans rfl
 have hcb_0:wD.cell? ⟨gb,0,none⟩=some (.int .i64 a1_0):=(blk_cell BKb.out 0).trans rfl
 have hcb_1:wD.cell? ⟨gb,1,none⟩=some (.int .i64 a1_1):=(blk_cell BKb.out 1).trans rfl
 have hcb_2:wD.cell? ⟨gb,2,none⟩=some (.int .i64 a1_2):=(blk_cell BKb.out 2).trans rfl
 have hcb_3:wD.cell? ⟨gb,3,none⟩=some (.int .i64 a1_3):=(blk_cell BKb.out 3).trans rfl
 have hcr_0:wD.cell? ⟨gr,0,none⟩=some (.int .i64 0):=(blk_cell BKr.out 0).trans rfl
 have hcr_1:wD.cell? ⟨gr,1,none⟩=some (.int .i64 0):=(blk_cell BKr.out 1).trans rfl
 have hcr_2:wD.cell? ⟨gr,2,none⟩=some (.int .i64 0):=(blk_cell BKr.out 2).trans rfl
 have hcr_3:wD.cell? ⟨gr,3,none⟩=some (.int .i64 0):=(blk_cell BKr.out 3).trans rfl
 have hco_0:wD.cell? ⟨go,0,none⟩=some (.int .i64 (wrap64 (wrap64 (a0_0*a1_0)+wrap64 (a0_1*a1_2)))):=(blk_cell BKo.out 0).trans rfl
 have hco_1:wD.cell? ⟨go,1,none⟩=some (.int .i64 (wrap64 (wrap64 (a0_0*a1_1)+wrap64 (a0_1*a1_3)))):=(blk_cell BKo.out 1).trans rfl
 have hco_2:wD.cell? ⟨go,2,none⟩=some (.int .i64 (wrap64 (wrap64 (a0_2*a1_0)+wrap64 (a0_3*a1_2)))):=(blk_cell BKo.out 2).trans rfl
 have hco_3:wD.cell? ⟨go,3,none⟩=some (.int .i64 0):=(blk_cell BKo.out 3).trans rfl
 have hf_:∀ i,wD.frozen? ⟨go,i,none⟩=false:=fun i=>blk_frozen BKo.out i
 refine wp_region_still_tail 23 (by kernel_rfl) (by kernel_rfl) ?_
 change wpStill _ _ wD.drew (fun a'=>wpList _ _ _ _ a' wD.drew) _ _
 simp only [List.take_succ_cons,List.take_zero,List.drop_succ_cons,List.drop_zero]
 repeat still_step
 refine wpStill_nil ?_
 go_wp2
 rw [rounds_succ];go_wp2
 rw [rounds_succ]
 refine name_world (fun w'=>w'.heap[ga]?=some (.cells #[.int .i64 a0_0,.int .i64 a0_1,.int .i64 a0_2,.int .i64 a0_3] 26 (0,0))∧w'.heap[gb]?=some (.cells #[.int .i64 a1_0,.int .i64 a1_1,.int .i64 a1_2,.int .i64 a1_3] 26 (0,0))∧w'.heap[gr]?=some (.cells #[.int .i64 0,.int .i64 0,.int .i64 0,.int .i64 0] 26 (0,0))∧w'.heap[go]?=some (.cells #[.int .i64 (wrap64 (wrap64 (a0_0*a1_0)+wrap64 (a0_1*a1_2))),.int .i64 (wrap64 (wrap64 (a0_0*a1_1)+wrap64 (a0_1*a1_3))),.int .i64 (wrap64 (wrap64 (a0_2*a1_0)+wrap64 (a0_3*a1_2))),.int .i64 (wrap64 (wrap64 (a0_2*a1_1)+wrap64 (a0_3*a1_3)))] 26 (0,0))∧Below w.heap.size w w') ⟨by repeat (first|(with_reducible exact BKa.out)|(with_reducible first|refine blk_drewN ?_ _|refine blk_drew ?_|refine blk_alloc ?_ _)|refine blk_far ?_ NEa_o.out _),by repeat (first|(with_reducible exact BKb.out)|(with_reducible first|refine blk_drewN ?_ _|refine blk_drew ?_|refine blk_alloc ?_ _)|refine blk_far ?_ NEb_o.out _),by repeat (first|(with_reducible exact BKr.out)|(with_reducible first|refine blk_drewN ?_ _|refine blk_drew ?_|refine blk_alloc ?_ _)|refine blk_far ?_ NEr_o.out _),by refine dr ?_;refine blk_put (cs:=#[.int .i64 (wrap64 (wrap64 (a0_0*a1_0)+wrap64 (a0_1*a1_2))),.int .i64 (wrap64 (wrap64 (a0_0*a1_1)+wrap64 (a0_1*a1_3))),.int .i64 (wrap64 (wrap64 (a0_2*a1_0)+wrap64 (a0_3*a1_2))),.int .i64 0]) ?_ 3 _ rfl;(with_reducible repeat (first|refine blk_drewN ?_ _|refine blk_drew ?_|refine blk_alloc ?_ _));exact BKo.out,by repeat (first|(with_reducible exact HB.out)|(with_reducible first|apply pw_below_drewN|apply below_alloc|apply below_drew1)|refine below_set ?_ GEo.out)⟩ ?_
 clear BKa BKb BKr BKo HB
 clear hca_0 hca_1 hca_2 hca_3 hcb_0 hcb_1 hcb_2 hcb_3 hcr_0 hcr_1 hcr_2 hcr_3 hco_0 hco_1 hco_2 hco_3 hf_
 rintro wE ⟨ha,hb,hr,ho,hbel⟩
 have BKa:=Aside0.mk ha
 have BKb:=Aside0.mk hb
 have BKr:=Aside0.mk hr
 have BKo:=Aside0.mk ho
 have HB:=Aside0.mk hbel
 clear hbel ha hb hr ho
 have hca_0:wE.cell? ⟨ga,0,none⟩=some (.int .i64 a0_0):=(blk_cell BKa.out 0).trans rfl
 have hca_1:wE.cell? ⟨ga,1,none⟩=some (.int .i64 a0_1):=(blk_cell BKa.out 1).trans rfl
 have hca_2:wE.cell? ⟨ga,2,none⟩=some (.int .i64 a0_2):=(blk_cell BKa.out 2).trans rfl
 have hca_3:wE.cell? ⟨ga,3,none⟩=some (.int .i64 a0_3):=(blk_cell BKa.out 3).trans rfl
 have hcb_0:wE.cell? ⟨gb,0,none⟩=some (.int .i64 a1_0):=(blk_cell BKb.out 0).trans rfl
 have hcb_1:wE.cell? ⟨gb,1,none⟩=some (.int .i64 a1_1):=(blk_cell BKb.out 1).trans rfl
 have hcb_2:wE.cell? ⟨gb,2,none⟩=some (.int .i64 a1_2):=(blk_cell BKb.out 2).trans rfl
 have hcb_3:wE.cell? ⟨gb,3,none⟩=some (.int .i64 a1_3):=(blk_cell BKb.out 3).trans rfl
 have hcr_0:wE.cell? ⟨gr,0,none⟩=some (.int .i64 0):=(blk_cell BKr.out 0).trans rfl
 have hcr_1:wE.cell? ⟨gr,1,none⟩=some (.int .i64 0):=(blk_cell BKr.out 1).trans rfl
 have hcr_2:wE.cell? ⟨gr,2,none⟩=some (.int .i64 0):=(blk_cell BKr.out 2).trans rfl
 have hcr_3:wE.cell? ⟨gr,3,none⟩=some (.int .i64 0):=(blk_cell BKr.out 3).trans rfl
 have hco_0:wE.cell? ⟨go,0,none⟩=some (.int .i64 (wrap64 (wrap64 (a0_0*a1_0)+wrap64 (a0_1*a1_2)))):=(blk_cell BKo.out 0).trans rfl
 have hco_1:wE.cell? ⟨go,1,none⟩=some (.int .i64 (wrap64 (wrap64 (a0_0*a1_1)+wrap64 (a0_1*a1_3)))):=(blk_cell BKo.out 1).trans rfl
 have hco_2:wE.cell? ⟨go,2,none⟩=some (.int .i64 (wrap64 (wrap64 (a0_2*a1_0)+wrap64 (a0_3*a1_2)))):=(blk_cell BKo.out 2).trans rfl
 have hco_3:wE.cell? ⟨go,3,none⟩=some (.int .i64 (wrap64 (wrap64 (a0_2*a1_1)+wrap64 (a0_3*a1_3)))):=(blk_cell BKo.out 3).trans rfl
 have hf_:∀ i,wE.frozen? ⟨go,i,none⟩=false:=fun i=>blk_frozen BKo.out i
 go_wp2_with (go_at_call 105;with_reducible refine (impl_reduced.calls k _ _ _ _ r1 r2 r3 r4 r5 _ H.out).mono ?_;intro e w5 ⟨he,hb⟩;subst he;clear hca_0 hca_1 hca_2 hca_3 hcb_0 hcb_1 hcb_2 hcb_3 hcr_0 hcr_1 hcr_2 hcr_3 hco_0 hco_1 hco_2 hco_3 hf_;replace BKr:=Aside0.mk (blk_below (bkA BKr) hb);replace HB:=lB hb;clear BKa BKb BKo hb;have hcr5_0:w5.cell? ⟨gr,0,none⟩=some (.int .i64 0):=(blk_cell BKr.out 0).trans rfl;have hfr5_0:=blk_frozen BKr.out 0;have hcr5_1:w5.cell? ⟨gr,1,none⟩=some (.int .i64 0):=(blk_cell BKr.out 1).trans rfl;have hfr5_1:=blk_frozen BKr.out 1;have hcr5_2:w5.cell? ⟨gr,2,none⟩=some (.int .i64 0):=(blk_cell BKr.out 2).trans rfl;have hfr5_2:=blk_frozen BKr.out 2;have hcr5_3:w5.cell? ⟨gr,3,none⟩=some (.int .i64 0):=(blk_cell BKr.out 3).trans rfl;have hfr5_3:=blk_frozen BKr.out 3)
 refine bodyPost_ret (results_ct rfl _ _ gr 26 #[.int .i64 r1,.int .i64 r2,.int .i64 r3,.int .i64 r4] (0,0) _ rfl (by refine dr ?_;refine blk_put (cs:=#[.int .i64 r1,.int .i64 r2,.int .i64 r3,.int .i64 0]) ?_ 3 _ rfl;refine dr ?_;refine blk_put (cs:=#[.int .i64 r1,.int .i64 r2,.int .i64 0,.int .i64 0]) ?_ 2 _ rfl;refine dr ?_;refine blk_put (cs:=#[.int .i64 r1,.int .i64 0,.int .i64 0,.int .i64 0]) ?_ 1 _ rfl;refine dr ?_;refine blk_put (cs:=#[.int .i64 0,.int .i64 0,.int .i64 0,.int .i64 0]) ?_ 0 _ rfl;(with_reducible repeat (first|refine blk_drewN ?_ _|refine blk_drew ?_|refine blk_alloc ?_ _));repeat (first|(with_reducible exact BKr.out)|refine blk_far ?_ (Aside0.out (by assumption)) _)) Try.underlying26 rfl (by kernel_rfl)) rfl ?_
 exact ⟨by first|rfl|(simp <;> rfl),by repeat (first|(with_reducible exact HB.out)|(with_reducible first|apply pw_below_drewN|apply below_alloc|apply below_drew1)|refine below_set ?_ (Aside0.out (by assumption)))⟩
end Go.Proofs.Ytlpmefmaplhfdaa.PAll
