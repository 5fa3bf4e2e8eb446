-- turned out of the kit's print
import Derived.Test.YtlpmefmaplhfdaaQx
import Derived.Test.YtlpmefmaplhfdaaQbitsLeadingZeros64
import Derived.Test.YtlpmefmaplhfdaaQimplchild
import Derived.Test.YtlpmefmaplhfdaaQimplnearBalls
import Derived.Test.YtlpmefmaplhfdaaQspecl04Near
import Derived.Test.YtlpmefmaplhfdaaQspecl04With
namespace Go.Proofs.Ytlpmefmaplhfdaa.PAll
open Go.RowKit Go.Proofs.YtlpmefmaplhfdaaW.PrintWords Go.Proofs.YtlpmefmaplhfdaaW.PrintLast Go.Proofs.YtlpmefmaplhfdaaW.PrintMore
attribute [local go_sem] Go.Proofs.Ytlpmefmaplhfdaa.Aux.setCell_drewN Go.Proofs.Ytlpmefmaplhfdaa.Aux.isSome_setCell max2_int min2_int max_two min_two max_three min_three max_four min_four
set_option linter.unusedVariables false
set_option linter.unusedSimpArgs false
def impl_FixedBalls.f (k:Nat) (a0 a1_0 a1_1 a1_2 a1_3 a2_0 a2_1 a2_2 a3:Int):Option ((List (S28)) × Int):=(impl_nearCode.f k a0 a1_0 a1_1 a1_2 a1_3 a2_0 a2_1 a2_2 a3).bind fun t927=>(if t927=0 then ((impl_nearBalls.f k a0 a1_0 a1_1 a1_2 a1_3 a2_0 a2_1 a2_2 a3 0).bind fun bt928=>(some (bt928.1,bt928.2))) else (some (([]:List (S28)),t927)))
theorem impl_FixedBalls.mono:∀ a0 a1 a2 a3 a4 a5 a6 a7 a8 k,LeO (impl_FixedBalls.f k a0 a1 a2 a3 a4 a5 a6 a7 a8) (impl_FixedBalls.f (k+1) a0 a1 a2 a3 a4 a5 a6 a7 a8):=by
 intro a0 a1 a2 a3 a4 a5 a6 a7 a8 k
 unfold impl_FixedBalls.f
 repeat' first
   | with_reducible first|exact impl_nearBalls.mono ..|exact impl_nearCode.mono ..|exact LeO.refl _|exact LeO.none _|refine LeO.ite ?_ ?_|refine LeO.bind ?_ fun _=>?_
set_option maxHeartbeats 8000000 in
set_option maxRecDepth 100000 in
theorem impl_FixedBalls.calls (k:Nat) (a0 a1_0 a1_1 a1_2 a1_3 a2_0 a2_1 a2_2 a3:Int) (r1:List (S28)) (r2:Int) (w:World) (h:impl_FixedBalls.f k a0 a1_0 a1_1 a1_2 a1_3 a2_0 a2_1 a2_2 a3=some (r1,r2)) :
  Calls Try.prog 36 #[.int .i64 a0,.agg #[.int .i64 a1_0,.int .i64 a1_1,.int .i64 a1_2,.int .i64 a1_3],.agg #[.int .i64 a2_0,.int .i64 a2_1,.int .i64 a2_2],.int .i64 a3] w fun e w'=>∃ v0_:Value,e=.returned (.tuple #[v0_,.int .i64 r2])∧Kd.R k28 28 w' w.heap.size (fun _=>True) v0_ r1∧Below w.heap.size w w':=by
 have hu26:=Try.underlying26
 have hu28:=Try.underlying28
 have HB:=Aside0.mk (Below.refl w.heap.size w)
 have H:=h
 unfold impl_FixedBalls.f at H
 clear h
 replace H:=bS H
 obtain ⟨t927,A5,H⟩:=H
 try dsimp only at H
 by_cases c6:t927=0
 focus
  rw [if_pos c6] at H
  have c6b0:(t927 == 0)=true:=beq_iff_eq.mpr c6
  have c6b1:(t927 != 0)=false:=bne_eq_false_iff_eq.mpr c6
  clear c6
  replace H:=bS H
  obtain ⟨⟨t928,t931⟩,A7,H⟩:=H
  try dsimp only at H
  simp only [Option.some.injEq,Prod.mk.injEq] at H
  obtain ⟨rfl,rfl⟩:=H
 rotate_left
 focus
  rw [if_neg c6] at H
  have c6b0:(t927 == 0)=false:=beq_eq_false_iff_ne.mpr c6
  have c6b1:(t927 != 0)=true:=bne_iff_ne.mpr c6
  simp only [Option.some.injEq,Prod.mk.injEq] at H
  obtain ⟨rfl,rfl⟩:=H
 rotate_left
 all_goals
  go_enter Try.func36,Try.ntmps36
  go_wp2_with (first|((with_reducible refine gate_dst (N:=5) rfl ?_);refine bxE (cs:=#[.int .i64 a1_0,.int .i64 a1_1,.int .i64 a1_2,.int .i64 a1_3]) (t:=26) ?_;intro gb925 hg w8 hbox hb;have BK925:=Aside0.mk hbox;have GW925:=sA hg;have GE925:=sA hg;replace HB:=lB hb;clear hb hbox hg)|((with_reducible refine gate_dst (N:=6) rfl ?_);refine bxE (cs:=#[.int .i64 a2_0,.int .i64 a2_1,.int .i64 a2_2]) (t:=28) ?_;intro gb926 hg w9 hbox hb;have BK926:=Aside0.mk hbox;have GW926:=sA hg;have GE926:=sA hg;have NB925_926:=nA hg BK925;have NB926_925:=nB hg BK925;replace BK925:=kB BK925 hb;replace HB:=lB hb;clear hb hbox hg;have hnb10:=NB925_926.out;have hnc10:=NB926_925.out;obtain ⟨hcz11_0,hcz11_1,hcz11_2,hcz11_3,hfz11_0,hfz11_1,hfz11_2,hfz11_3⟩:=cz4 BK925;obtain ⟨hcz12_0,hcz12_1,hcz12_2,hfz12_0,hfz12_1,hfz12_2⟩:=cz3 BK926)|((with_reducible refine gd 15 rfl ?_);refine gC (some 15) rfl Try.func83 (impl_nearCode.calls (w:=_) (h:=A5.out)) ?_;intro w13 hb;replace BK925:=kB BK925 hb;replace BK926:=kB BK926 hb;replace HB:=lB hb;clear hb;obtain ⟨hcz14_0,hcz14_1,hcz14_2,hcz14_3,hfz14_0,hfz14_1,hfz14_2,hfz14_3⟩:=cz4 BK925;obtain ⟨hcz15_0,hcz15_1,hcz15_2,hfz15_0,hfz15_1,hfz15_2⟩:=cz3 BK926)|((with_reducible refine gate_callee (f:=84) rfl ?_);refine gL (some 23) rfl Try.func84 #[.int .i64 a0,.agg #[.int .i64 a1_0,.int .i64 a1_1,.int .i64 a1_2,.int .i64 a1_3],.agg #[.int .i64 a2_0,.int .i64 a2_1,.int .i64 a2_2],.int .i64 a3,.int .i64 0] ?_;(with_reducible refine (impl_nearBalls.calls k a0 a1_0 a1_1 a1_2 a1_3 a2_0 a2_1 a2_2 a3 0 t928 t931 _ A7.out).mono ?_);rintro e w16 ⟨v929,rfl,ho0,hb⟩;refine ⟨_,rfl,?_⟩;have HO930:=Aside0.mk (Kd.R_lower (Kd.R_newB ho0 (bkA BK926)) (below_size blA));replace BK925:=kB BK925 hb;replace BK926:=kB BK926 hb;replace HB:=lB hb;clear ho0 hb))
 ·
  go_ret2
  exact ⟨_,eW,by (with_reducible repeat (first|apply Kd.R_alloc|apply Kd.R_drewN|apply Kd.R_drew));exact Kd.R_mono HO930.out (fun _ hk=>trivial),blA⟩
 ·
  go_ret2
  exact ⟨_,eW,nlA,blA⟩
mutual
def spec_AxisBalls.j0:Nat→Int→Int→Int→Bool→Int→Int→Int→Int→Int→Int→Int→Option ((List (S28)) × Int)
 | 0,_,_,_,_,_,_,_,_,_,_,_=>none
 | k+1,x0,x3,x10,x26,x1055000,x1055001,x1055002,x1055003,x1056000,x1056001,x1056002=>if x26=true then (spec_AxisBalls.j1 k x0 x3 2 x1055000 x1055001 x1055002 x1055003 x1056000 x1056001 x1056002) else (spec_AxisBalls.j1 k x0 x3 x10 x1055000 x1055001 x1055002 x1055003 x1056000 x1056001 x1056002)
def spec_AxisBalls.j1:Nat→Int→Int→Int→Int→Int→Int→Int→Int→Int→Int→Option ((List (S28)) × Int)
 | 0,_,_,_,_,_,_,_,_,_,_=>none
 | k+1,x0,x3,x10,x1055000,x1055001,x1055002,x1055003,x1056000,x1056001,x1056002=>if x10=0 then ((spec_l04Kind.f k x0 x1055000 x1055001 x1055002 x1055003).bind fun bt1061=>(if bt1061.1=2 then ((spec_l04Near.f k x0 x1055000 x1055001 x1055002 x1055003 x1056000 x1056001 x1056002 x3 bt1061.2).bind fun bt1063=>(some (bt1063.1,bt1063.2))) else (some (([]:List (S28)),5)))) else (some (([]:List (S28)),x10))
end
def spec_AxisBalls.f (k:Nat) (a0 a1_0 a1_1 a1_2 a1_3 a2_0 a2_1 a2_2 a3:Int):Option ((List (S28)) × Int):=(spec_l04Code.f k a0 a1_0 a1_1 a1_2 a1_3 (([(⟨a2_0,a2_1,a2_2⟩:S28)]:List (S28)))).bind fun t1059=>(if t1059=0 then ((spec_l01In.f a3 0 3).bind fun t1060=>(spec_AxisBalls.j0 k a0 a3 t1059 (!t1060) a1_0 a1_1 a1_2 a1_3 a2_0 a2_1 a2_2)) else (spec_AxisBalls.j0 k a0 a3 t1059 false a1_0 a1_1 a1_2 a1_3 a2_0 a2_1 a2_2))
theorem spec_AxisBalls.mono_l:∀ k,(∀ y0 y1 y2 y3 y4 y5 y6 y7 y8 y9 y10,LeO (spec_AxisBalls.j0 k y0 y1 y2 y3 y4 y5 y6 y7 y8 y9 y10) (spec_AxisBalls.j0 (k+1) y0 y1 y2 y3 y4 y5 y6 y7 y8 y9 y10))∧(∀ y0 y1 y2 y3 y4 y5 y6 y7 y8 y9,LeO (spec_AxisBalls.j1 k y0 y1 y2 y3 y4 y5 y6 y7 y8 y9) (spec_AxisBalls.j1 (k+1) y0 y1 y2 y3 y4 y5 y6 y7 y8 y9))
 | 0=>by refine ⟨?_,?_⟩ <;> (intros;intro r h;simp [spec_AxisBalls.j0,spec_AxisBalls.j1] at h)
 | k+1=>by
  obtain ⟨ih0,ih1⟩:=spec_AxisBalls.mono_l k
  refine ⟨?_,?_⟩ <;> (intros;first|unfold spec_AxisBalls.j0|unfold spec_AxisBalls.j1)
  all_goals repeat' first
  | with_reducible first|exact ih0 ..|exact ih1 ..|exact spec_l04Code.mono ..|exact spec_l04Kind.mono ..|exact spec_l04Near.mono ..|exact LeO.refl _|exact LeO.none _|refine LeO.ite ?_ ?_|refine LeO.bind ?_ fun _=>?_
theorem spec_AxisBalls.mono:∀ a0 a1 a2 a3 a4 a5 a6 a7 a8 k,LeO (spec_AxisBalls.f k a0 a1 a2 a3 a4 a5 a6 a7 a8) (spec_AxisBalls.f (k+1) a0 a1 a2 a3 a4 a5 a6 a7 a8):=by
 intro a0 a1 a2 a3 a4 a5 a6 a7 a8 k
 obtain ⟨ih0,ih1⟩:=spec_AxisBalls.mono_l k
 unfold spec_AxisBalls.f
 repeat' first
   | with_reducible first|exact ih0 ..|exact ih1 ..|exact spec_l04Code.mono ..|exact spec_l04Kind.mono ..|exact spec_l04Near.mono ..|exact LeO.refl _|exact LeO.none _|refine LeO.ite ?_ ?_|refine LeO.bind ?_ fun _=>?_
set_option maxHeartbeats 8000000 in
set_option maxRecDepth 100000 in
theorem spec_AxisBalls.calls (k:Nat) (a0 a1_0 a1_1 a1_2 a1_3 a2_0 a2_1 a2_2 a3:Int) (r1:List (S28)) (r2:Int) (w:World) (h:spec_AxisBalls.f k a0 a1_0 a1_1 a1_2 a1_3 a2_0 a2_1 a2_2 a3=some (r1,r2)) :
  Calls Try.prog 40 #[.int .i64 a0,.agg #[.int .i64 a1_0,.int .i64 a1_1,.int .i64 a1_2,.int .i64 a1_3],.agg #[.int .i64 a2_0,.int .i64 a2_1,.int .i64 a2_2],.int .i64 a3] w fun e w'=>∃ v0_:Value,e=.returned (.tuple #[v0_,.int .i64 r2])∧Kd.R k28 28 w' w.heap.size (fun _=>True) v0_ r1∧Below w.heap.size w w':=by
 have hu26:=Try.underlying26
 have hu28:=Try.underlying28
 have HB:=Aside0.mk (Below.refl w.heap.size w)
 have H:=h
 unfold spec_AxisBalls.f at H
 clear h
 obtain ⟨y1056,hy1056⟩:∃ y_:List (S28),y_=(([(⟨a2_0,a2_1,a2_2⟩:S28)]:List (S28))):=⟨_,rfl⟩
 replace H:((spec_l04Code.f k a0 a1_0 a1_1 a1_2 a1_3 y1056).bind fun t1059=>(if t1059=0 then ((spec_l01In.f a3 0 3).bind fun t1060=>(spec_AxisBalls.j0 k a0 a3 t1059 (!t1060) a1_0 a1_1 a1_2 a1_3 a2_0 a2_1 a2_2)) else (spec_AxisBalls.j0 k a0 a3 t1059 false a1_0 a1_1 a1_2 a1_3 a2_0 a2_1 a2_2)))=some (r1,r2):=rH hy1056 H
 have Ny1056:=Aside0.mk hy1056
 clear hy1056
 replace H:=bS H
 obtain ⟨t1059,A5,H⟩:=H
 try dsimp only at H
 have HC6:=Aside0.mk H
 clear H
 go_enter Try.func40,Try.ntmps40
 go_upto_region 2 with (first|((with_reducible refine gate_dst (N:=5) rfl ?_);refine bxE (cs:=#[.int .i64 a1_0,.int .i64 a1_1,.int .i64 a1_2,.int .i64 a1_3]) (t:=26) ?_;intro gb1054 hg w7 hbox hb;have BK1054:=Aside0.mk hbox;have GW1054:=sA hg;have GE1054:=sA hg;replace HB:=lB hb;clear hb hbox hg)|((with_reducible refine gate_dst (N:=6) rfl ?_);refine bxE (cs:=#[.int .i64 a2_0,.int .i64 a2_1,.int .i64 a2_2]) (t:=28) ?_;intro gb1055 hg w8 hbox hb;have BK1055:=Aside0.mk hbox;have GW1055:=sA hg;have GE1055:=sA hg;have NB1054_1055:=nA hg BK1054;have NB1055_1054:=nB hg BK1054;replace BK1054:=kB BK1054 hb;replace HB:=lB hb;clear hb hbox hg;have hnb9:=NB1054_1055.out;have hnc9:=NB1055_1054.out;obtain ⟨hcz10_0,hcz10_1,hcz10_2,hcz10_3,hfz10_0,hfz10_1,hfz10_2,hfz10_3⟩:=cz4 BK1054;obtain ⟨hcz11_0,hcz11_1,hcz11_2,hfz11_0,hfz11_1,hfz11_2⟩:=cz3 BK1055)|((with_reducible refine gate_dst (N:=18) rfl ?_);refine Kd.R_lit k28 _ 28 ?hg (N:=18) ?hd (xs:=([(⟨a2_0,a2_1,a2_2⟩:S28)]:List (S28))) (inner:=[.int .i64 a2_0,.int .i64 a2_1,.int .i64 a2_2]) (ok:=fun _=>True) (okp:=fun _=>True) ?hr ?hp (fun _ hk=>hk) trivial (Below.refl _ _) (Nat.le_refl _) (by simp) ?_;(case hd=>rfl);(case hg=>rfl);(case hr=>first|(go_simp;done)|(go_simp;rfl));(case hp=>exact (Reps.c3 (show Kd.M k28 _ _ _ (⟨a2_0,a2_1,a2_2⟩:S28) [.int .i64 a2_0,.int .i64 a2_1,.int .i64 a2_2] from (k28_mkM _ _ _ (⟨a2_0,a2_1,a2_2⟩:S28) )) (Reps.none _ _)));intro v1057 w12 ho13 hb hg_ hnew_;clear hg_ hnew_;(first|rw [← Ny1056.out] at ho13|(simp only [Int.reduceToNat] at ho13;rw [← Ny1056.out] at ho13));have HO1058:=Aside0.mk (Kd.R_lower (Kd.R_newB ho13 (bkA BK1055)) (below_size blA));replace BK1054:=kB BK1054 hb;replace BK1055:=kB BK1055 hb;replace HB:=lB hb;clear hb ho13;obtain ⟨Ao14,co14,eo14⟩:=Kd.R_slice HO1058.out;subst eo14)|((with_reducible refine gd 19 rfl ?_);refine gC (some 19) rfl Try.func45 (spec_l04Code.calls (w:=_) (hr2:=cR (Kd.R_reads' HO1058.out).2.2) (hc2:=(Kd.R_reads' HO1058.out).2.1) (h:=A5.out)) ?_;intro w15 hb;replace HO1058:=Aside0.mk (Kd.R_below (rA HO1058) hb);replace BK1054:=kB BK1054 hb;replace BK1055:=kB BK1055 hb;replace HB:=lB hb;clear hb))
 (try simp only [Act.put,List.setIfInBounds_toArray,List.set_cons_zero,List.set_cons_succ])
 go_cut [26] (fun v26 wc=>∃ (kq:Nat) (x26_5:Bool),v26=.bool x26_5∧Aside0 (spec_AxisBalls.j0 kq a0 a3 t1059 x26_5 a1_0 a1_1 a1_2 a1_3 a2_0 a2_1 a2_2=some (r1,r2))∧Aside0 (kq≤k)∧Aside0 (wc.heap[gb1054]?=some (.cells #[.int .i64 a1_0,.int .i64 a1_1,.int .i64 a1_2,.int .i64 a1_3] 26 (0,0)))∧Aside0 (wc.heap[gb1055]?=some (.cells #[.int .i64 a2_0,.int .i64 a2_1,.int .i64 a2_2] 28 (0,0)))∧Aside0 (Below w.heap.size w wc))
 case first=>
  have H:=HC6.out
  clear HC6
  by_cases c16:t1059=0
  ·
   rw [if_pos c16] at H
   have c16b0:(t1059 == 0)=true:=beq_iff_eq.mpr c16
   have c16b1:(t1059 != 0)=false:=bne_eq_false_iff_eq.mpr c16
   clear c16
   (first|rw [c16b0]|(simp only [i64_w,i32_w];rw [c16b0])|skip)
   replace H:=bS H
   obtain ⟨t1060,A17,H⟩:=H
   try dsimp only at H
   have H':=Aside0.mk H
   clear H
   go_wp2_with (first|(go_at_call 85;(with_reducible refine (spec_l01In.calls a3 0 3 t1060 _ A17.out).mono ?_);rintro e w' ⟨rfl,⟨nd,rfl⟩⟩))
   go_meet
   case rel=>exact ⟨_,(!t1060),hB,H',⟨by first|omega|exact Nat.le_refl _⟩,⟨bkA BK1054⟩,⟨bkA BK1055⟩,⟨blA⟩⟩
  ·
   rw [if_neg c16] at H
   have c16b0:(t1059 == 0)=false:=beq_eq_false_iff_ne.mpr c16
   have c16b1:(t1059 != 0)=true:=bne_iff_ne.mpr c16
   (first|rw [c16b0]|(simp only [i64_w,i32_w];rw [c16b0])|skip)
   have H':=Aside0.mk H
   clear H
   go_wp2
   go_meet
   case rel=>exact ⟨_,(false),hB,H',⟨by first|omega|exact Nat.le_refl _⟩,⟨bkA BK1054⟩,⟨bkA BK1055⟩,⟨blA⟩⟩
 case rest=>
  clear HC6
  try clear c3
  try clear c16
  try clear c16b0
  try clear c16b1
  try clear hcz10_0
  try clear hcz10_1
  try clear hcz10_2
  try clear hcz10_3
  try clear hcz11_0
  try clear hcz11_1
  try clear hcz11_2
  try clear hfz10_0
  try clear hfz10_1
  try clear hfz10_2
  try clear hfz10_3
  try clear hfz11_0
  try clear hfz11_1
  try clear hfz11_2
  obtain ⟨kq,x26_5,rfl,HA,HJ5,BK1054,BK1055,HB⟩:=hcut
  cases kq with
  | zero=>exact absurd HA.out (by simp [spec_AxisBalls.j0])
  | succ kj5=>
   have H:=HA.out
   clear HA
   simp only [spec_AxisBalls.j0] at H
   have HC18:=Aside0.mk H
   clear H
   go_upto_if 26 with (fail)
   go_cut [10] (fun v10 wc=>∃ (kq:Nat) (x10_17:Int),v10=.int .i64 x10_17∧Aside0 (spec_AxisBalls.j1 kq a0 a3 x10_17 a1_0 a1_1 a1_2 a1_3 a2_0 a2_1 a2_2=some (r1,r2))∧Aside0 (kq≤kj5)∧Aside0 (wc.heap[gb1054]?=some (.cells #[.int .i64 a1_0,.int .i64 a1_1,.int .i64 a1_2,.int .i64 a1_3] 26 (0,0)))∧Aside0 (wc.heap[gb1055]?=some (.cells #[.int .i64 a2_0,.int .i64 a2_1,.int .i64 a2_2] 28 (0,0)))∧Aside0 (Below w.heap.size w wc))
   case first=>
    have H:=HC18.out
    clear HC18
    by_cases c19:x26_5=true
    ·
     subst c19
     rw [if_pos rfl] at H
     try dsimp only at H
     have H':=Aside0.mk H
     clear H
     go_wp2
     go_meet
     case rel=>exact ⟨_,(2),hB,H',⟨by have:=HJ5.out;first|omega|exact Nat.le_refl _⟩,⟨bkA BK1054⟩,⟨bkA BK1055⟩,⟨blA⟩⟩
    ·
     replace c19:=Bool.eq_false_iff.mpr c19
     subst c19
     rw [if_neg (show ¬ (false=true) by decide)] at H
     try dsimp only at H
     have H':=Aside0.mk H
     clear H
     go_wp2
     go_meet
     case rel=>exact ⟨_,(t1059),hB,H',⟨by have:=HJ5.out;first|omega|exact Nat.le_refl _⟩,⟨bkA BK1054⟩,⟨bkA BK1055⟩,⟨blA⟩⟩
   case rest=>
    clear HC18
    try clear c3
    try clear c16
    try clear c16b0
    try clear c16b1
    try clear c19
    try clear hcz10_0
    try clear hcz10_1
    try clear hcz10_2
    try clear hcz10_3
    try clear hcz11_0
    try clear hcz11_1
    try clear hcz11_2
    try clear hfz10_0
    try clear hfz10_1
    try clear hfz10_2
    try clear hfz10_3
    try clear hfz11_0
    try clear hfz11_1
    try clear hfz11_2
    obtain ⟨kq,x10_17,rfl,HA,HJ17,BK1054,BK1055,HB⟩:=hcut
    cases kq with
    | zero=>exact absurd HA.out (by simp [spec_AxisBalls.j1])
    | succ kj17=>
     have H:=HA.out
     clear HA
     simp only [spec_AxisBalls.j1] at H
     by_cases c20:x10_17=0
     ·
      rw [if_pos c20] at H
      have c20b0:(x10_17 == 0)=true:=beq_iff_eq.mpr c20
      have c20b1:(x10_17 != 0)=false:=bne_eq_false_iff_eq.mpr c20
      clear c20
      replace H:=bS H
      obtain ⟨⟨t1061,t1062⟩,A21,H⟩:=H
      try dsimp only at H
      by_cases c22:t1061=2
      focus
       rw [if_pos c22] at H
       have c22b0:(t1061 == 2)=true:=beq_iff_eq.mpr c22
       have c22b1:(t1061 != 2)=false:=bne_eq_false_iff_eq.mpr c22
       clear c22
       replace H:=bS H
       obtain ⟨⟨t1063,t1066⟩,A23,H⟩:=H
       try dsimp only at H
       simp only [Option.some.injEq,Prod.mk.injEq] at H
       obtain ⟨rfl,rfl⟩:=H
       have hnb24:=NB1054_1055.out
       have hnc24:=NB1055_1054.out
       obtain ⟨hcz25_0,hcz25_1,hcz25_2,hcz25_3,hfz25_0,hfz25_1,hfz25_2,hfz25_3⟩:=cz4 BK1054
      rotate_left
      focus
       rw [if_neg c22] at H
       have c22b0:(t1061 == 2)=false:=beq_eq_false_iff_ne.mpr c22
       have c22b1:(t1061 != 2)=true:=bne_iff_ne.mpr c22
       simp only [Option.some.injEq,Prod.mk.injEq] at H
       obtain ⟨rfl,rfl⟩:=H
       have hnb30:=NB1054_1055.out
       have hnc30:=NB1055_1054.out
       obtain ⟨hcz31_0,hcz31_1,hcz31_2,hcz31_3,hfz31_0,hfz31_1,hfz31_2,hfz31_3⟩:=cz4 BK1054
      rotate_left
      all_goals
       go_wp2_with (first|((with_reducible refine gd 33 rfl ?_);refine gC (some 33) rfl Try.func80 (spec_l04Kind.calls (w:=_) (h:=A21.out)) ?_;intro w26 hb;replace BK1054:=kB BK1054 hb;replace BK1055:=kB BK1055 hb;replace HB:=lB hb;clear hb;obtain ⟨hcz27_0,hcz27_1,hcz27_2,hcz27_3,hfz27_0,hfz27_1,hfz27_2,hfz27_3⟩:=cz4 BK1054;obtain ⟨hcz28_0,hcz28_1,hcz28_2,hfz28_0,hfz28_1,hfz28_2⟩:=cz3 BK1055)|((with_reducible refine gate_callee (f:=86) rfl ?_);refine gL (some 44) rfl Try.func86 #[.int .i64 a0,.agg #[.int .i64 a1_0,.int .i64 a1_1,.int .i64 a1_2,.int .i64 a1_3],.agg #[.int .i64 a2_0,.int .i64 a2_1,.int .i64 a2_2],.int .i64 a3,.int .i64 t1062] ?_;(with_reducible refine (spec_l04Near.calls kj17 a0 a1_0 a1_1 a1_2 a1_3 a2_0 a2_1 a2_2 a3 t1062 t1063 t1066 _ A23.out).mono ?_);rintro e w29 ⟨v1064,rfl,ho0,hb⟩;refine ⟨_,rfl,?_⟩;have HO1065:=Aside0.mk (Kd.R_lower (Kd.R_newB ho0 (bkA BK1055)) (below_size blA));replace BK1054:=kB BK1054 hb;replace BK1055:=kB BK1055 hb;replace HB:=lB hb;clear ho0 hb))
      ·
       go_ret2
       exact ⟨_,eW,by (with_reducible repeat (first|apply Kd.R_alloc|apply Kd.R_drewN|apply Kd.R_drew));exact Kd.R_mono HO1065.out (fun _ hk=>trivial),blA⟩
      ·
       go_ret2
       exact ⟨_,eW,nlA,blA⟩
     ·
      rw [if_neg c20] at H
      have c20b0:(x10_17 == 0)=false:=beq_eq_false_iff_ne.mpr c20
      have c20b1:(x10_17 != 0)=true:=bne_iff_ne.mpr c20
      simp only [Option.some.injEq,Prod.mk.injEq] at H
      obtain ⟨rfl,rfl⟩:=H
      go_wp2
      go_ret2
      exact ⟨_,eW,nlA,blA⟩
end Go.Proofs.Ytlpmefmaplhfdaa.PAll
