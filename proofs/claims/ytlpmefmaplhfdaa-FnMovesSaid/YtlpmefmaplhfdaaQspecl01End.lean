-- turned out of the kit's print
import Derived.Test.YtlpmefmaplhfdaaQx
import Derived.Test.YtlpmefmaplhfdaaQbitsLeadingZeros64
import Derived.Test.YtlpmefmaplhfdaaQimplofMark
namespace Go.Proofs.Ytlpmefmaplhfdaa.PAll
open Go.RowKit Go.Proofs.YtlpmefmaplhfdaaW.PrintWords Go.Proofs.YtlpmefmaplhfdaaW.PrintLast Go.Proofs.YtlpmefmaplhfdaaW.PrintMore
attribute [local go_sem] Go.Proofs.Ytlpmefmaplhfdaa.Aux.setCell_drewN Go.Proofs.Ytlpmefmaplhfdaa.Aux.isSome_setCell max2_int min2_int max_two min_two max_three min_three max_four min_four
set_option linter.unusedVariables false
set_option linter.unusedSimpArgs false
def spec_l01Gcd.l0:Nat→Int→Int→Option (Int)
 | 0,_,_=>none
 | k+1,x0,x1=>if x1=0 then (some (mx x0 (wrap64 (-x0)))) else (spec_l01Gcd.l0 k x1 (Int.tmod x0 x1))
def spec_l01Gcd.f (k:Nat) (a0 a1:Int):Option (Int):=spec_l01Gcd.l0 k a0 a1
theorem spec_l01Gcd.mono_l:∀ k,(∀ y0 y1,LeO (spec_l01Gcd.l0 k y0 y1) (spec_l01Gcd.l0 (k+1) y0 y1))
 | 0=>fun _ _ r h=>by simp [spec_l01Gcd.l0] at h
 | k+1=>by
  have ih0:=spec_l01Gcd.mono_l k
  ·
   intro y0 y1
   unfold spec_l01Gcd.l0
   repeat' first
   | with_reducible first|exact ih0 ..|exact LeO.refl _|exact LeO.none _|refine LeO.ite ?_ ?_|refine LeO.bind ?_ fun _=>?_
theorem spec_l01Gcd.mono:∀ a0 a1 k,LeO (spec_l01Gcd.f k a0 a1) (spec_l01Gcd.f (k+1) a0 a1):=by
 intro a0 a1 k
 have ih0:=spec_l01Gcd.mono_l k
 unfold spec_l01Gcd.f
 repeat' first
   | with_reducible first|exact ih0 ..|exact LeO.refl _|exact LeO.none _|refine LeO.ite ?_ ?_|refine LeO.bind ?_ fun _=>?_
set_option maxHeartbeats 8000000 in
set_option maxRecDepth 100000 in
theorem spec_l01Gcd.calls (k:Nat) (a0 a1 r:Int) (w:World) (h:spec_l01Gcd.f k a0 a1=some r) :
  Calls Try.prog 101 #[.int .i64 a0,.int .i64 a1] w fun e w'=>e=.returned (.int .i64 r)∧Below w.heap.size w w':=by
 have HB:=Aside0.mk (Below.refl w.heap.size w)
 have H:=h
 unfold spec_l01Gcd.f at H
 clear h
 have H':=Aside0.mk H
 clear H
 go_enter Try.func101,Try.ntmps101
 go_wp2
 go_loopg [0,1] k (fun kq v0 v1 w'=>∃ (x0_1:Int) (x1_1:Int),v0=.int .i64 x0_1∧v1=.int .i64 x1_1∧Aside0 (spec_l01Gcd.l0 kq x0_1 x1_1=some r)∧Aside0 (kq≤k)∧Aside0 (Below w.heap.size w w'))
 case atStart=>exact ⟨(a0),(a1),hB,hB,H',⟨Nat.le_refl _⟩,⟨blA⟩⟩
 case round=>
  clear H'
  obtain ⟨x0_1,x1_1,rfl,rfl,HA,HK1,HB⟩:=hrel
  cases gk with
  | zero=>exact absurd HA.out (by simp [spec_l01Gcd.l0])
  | succ k1=>
   have H:=HA.out
   clear HA
   simp only [spec_l01Gcd.l0] at H
   by_cases c3:x1_1=0
   ·
    rw [if_pos c3] at H
    have c3b0:(x1_1 == 0)=true:=beq_iff_eq.mpr c3
    have c3b1:(x1_1 != 0)=false:=bne_eq_false_iff_eq.mpr c3
    clear c3
    obtain ⟨ji4,hji4⟩:∃ j_:Int,(mx x0_1 (wrap64 (-x0_1)))=j_:=⟨_,rfl⟩
    replace H:(some ji4)=some r:=by first|(rw [hji4] at H;exact H)|(simp only [hji4] at H ⊢;exact H)
    have hji4_:(if x0_1<(wrap64 (-x0_1)) then (wrap64 (-x0_1)) else x0_1)=ji4:=hji4
    obtain rfl:=Option.some.inj H
    go_wp2
    go_ret
    exact ⟨by first|rfl|(simp [errW_none,errW_some] <;> rfl)|(simp only [← hji4];first|rfl|(simp [errW_none,errW_some] <;> rfl))|(simp [*,errW_none,errW_some] <;> rfl),blA⟩
   ·
    rw [if_neg c3] at H
    have c3b0:(x1_1 == 0)=false:=beq_eq_false_iff_ne.mpr c3
    have c3b1:(x1_1 != 0)=true:=bne_iff_ne.mpr c3
    have H':=Aside0.mk H
    clear H
    go_wp2
    go_roundg k1
    case measure=>have:=HK1.out;omega
    case rel=>exact ⟨(x1_1),(Int.tmod x0_1 x1_1),hB,hB,H',⟨by have:=HK1.out;omega⟩,⟨blA⟩⟩
def impl_fittedEnd.f (a0_0 a0_1:Int) (a1:Bool):Option (Int × Int × Int):=if a1=true then (some (a0_0,a0_1,0)) else (some (0,0,3))
set_option maxHeartbeats 8000000 in
set_option maxRecDepth 100000 in
theorem impl_fittedEnd.calls (a0_0 a0_1:Int) (a1:Bool) (r1 r2 r3:Int) (w:World) (h:impl_fittedEnd.f a0_0 a0_1 a1=some (r1,r2,r3)) :
  Calls Try.prog 51 #[.agg #[.int .i64 a0_0,.int .i64 a0_1],.bool a1] w fun e w'=>e=.returned (.tuple #[.agg #[.int .i64 r1,.int .i64 r2],.int .i64 r3])∧Below w.heap.size w w':=by
 have hu34:=Try.underlying34
 have HB:=Aside0.mk (Below.refl w.heap.size w)
 have H:=h
 unfold impl_fittedEnd.f at H
 clear h
 by_cases c3:a1=true
 ·
  subst c3
  rw [if_pos rfl] at H
  try dsimp only at H
  simp only [Option.some.injEq,Prod.mk.injEq] at H
  obtain ⟨rfl,rfl,rfl⟩:=H
  go_enter Try.func51,Try.ntmps51
  go_wp2_with (first|((with_reducible refine gate_dst (N:=2) rfl ?_);refine bxE (cs:=#[.int .i64 a0_0,.int .i64 a0_1]) (t:=34) ?_;intro gb509 hg w4 hbox hb;have BK509:=Aside0.mk hbox;have GW509:=sA hg;have GE509:=sA hg;replace HB:=lB hb;clear hb hbox hg)|((with_reducible refine gate_dst (N:=4) rfl ?_);refine bxE (cs:=#[.int .i64 0,.int .i64 0]) (t:=34) ?_;intro gb510 hg w5 hbox hb;have BK510:=Aside0.mk hbox;have GW510:=sA hg;have GE510:=sA hg;have NB509_510:=nA hg BK509;have NB510_509:=nB hg BK509;replace BK509:=kB BK509 hb;replace HB:=lB hb;clear hb hbox hg;have hnb6:=NB509_510.out;have hnc6:=NB510_509.out;obtain ⟨hcz7_0,hcz7_1,hfz7_0,hfz7_1⟩:=cz2 BK509;obtain ⟨hcz8_0,hcz8_1,hfz8_0,hfz8_1⟩:=cz2 BK510))
  refine bodyPost_ret (results_ct rfl _ _ gb510 34 #[.int .i64 a0_0,.int .i64 a0_1] (0,0) _ rfl (bpA BK510) Try.underlying34 rfl (by kernel_rfl)) rfl ?_
  exact finA blA
 ·
  replace c3:=Bool.eq_false_iff.mpr c3
  subst c3
  rw [if_neg (show ¬ (false=true) by decide)] at H
  try dsimp only at H
  simp only [Option.some.injEq,Prod.mk.injEq] at H
  obtain ⟨rfl,rfl,rfl⟩:=H
  go_enter Try.func51,Try.ntmps51
  go_wp2_with (first|((with_reducible refine gate_dst (N:=2) rfl ?_);refine bxE (cs:=#[.int .i64 a0_0,.int .i64 a0_1]) (t:=34) ?_;intro gb509 hg w9 hbox hb;have BK509:=Aside0.mk hbox;have GW509:=sA hg;have GE509:=sA hg;replace HB:=lB hb;clear hb hbox hg)|((with_reducible refine gate_dst (N:=4) rfl ?_);refine bxE (cs:=#[.int .i64 0,.int .i64 0]) (t:=34) ?_;intro gb510 hg w10 hbox hb;have BK510:=Aside0.mk hbox;have GW510:=sA hg;have GE510:=sA hg;have NB509_510:=nA hg BK509;have NB510_509:=nB hg BK509;replace BK509:=kB BK509 hb;replace HB:=lB hb;clear hb hbox hg;have hnb11:=NB510_509.out;have hnc11:=NB509_510.out;obtain ⟨hcz12_0,hcz12_1,hfz12_0,hfz12_1⟩:=cz2 BK510))
  refine bodyPost_ret (results_ct rfl _ _ gb510 34 #[.int .i64 0,.int .i64 0] (0,0) _ rfl (bpA BK510) Try.underlying34 rfl (by kernel_rfl)) rfl ?_
  exact finA blA
def impl_fittedMatrix.f (a0_0 a0_1 a0_2 a0_3:Int) (a1:Bool):Option (Int × Int × Int × Int × Int):=if a1=true then (some (a0_0,a0_1,a0_2,a0_3,0)) else (some (0,0,0,0,3))
set_option maxHeartbeats 8000000 in
set_option maxRecDepth 100000 in
theorem impl_fittedMatrix.calls (a0_0 a0_1 a0_2 a0_3:Int) (a1:Bool) (r1 r2 r3 r4 r5:Int) (w:World) (h:impl_fittedMatrix.f a0_0 a0_1 a0_2 a0_3 a1=some (r1,r2,r3,r4,r5)) :
  Calls Try.prog 64 #[.agg #[.int .i64 a0_0,.int .i64 a0_1,.int .i64 a0_2,.int .i64 a0_3],.bool a1] w fun e w'=>e=.returned (.tuple #[.agg #[.int .i64 r1,.int .i64 r2,.int .i64 r3,.int .i64 r4],.int .i64 r5])∧Below w.heap.size w w':=by
 have hu26:=Try.underlying26
 have HB:=Aside0.mk (Below.refl w.heap.size w)
 have H:=h
 unfold impl_fittedMatrix.f at H
 clear h
 by_cases c3:a1=true
 ·
  subst c3
  rw [if_pos rfl] at H
  try dsimp only at H
  simp only [Option.some.injEq,Prod.mk.injEq] at H
  obtain ⟨rfl,rfl,rfl,rfl,rfl⟩:=H
  go_enter Try.func64,Try.ntmps64
  go_wp2_with (first|((with_reducible refine gate_dst (N:=2) rfl ?_);refine bxE (cs:=#[.int .i64 a0_0,.int .i64 a0_1,.int .i64 a0_2,.int .i64 a0_3]) (t:=26) ?_;intro gb614 hg w4 hbox hb;have BK614:=Aside0.mk hbox;have GW614:=sA hg;have GE614:=sA hg;replace HB:=lB hb;clear hb hbox hg)|((with_reducible refine gate_dst (N:=4) rfl ?_);refine bxE (cs:=#[.int .i64 0,.int .i64 0,.int .i64 0,.int .i64 0]) (t:=26) ?_;intro gb615 hg w5 hbox hb;have BK615:=Aside0.mk hbox;have GW615:=sA hg;have GE615:=sA hg;have NB614_615:=nA hg BK614;have NB615_614:=nB hg BK614;replace BK614:=kB BK614 hb;replace HB:=lB hb;clear hb hbox hg;have hnb6:=NB614_615.out;have hnc6:=NB615_614.out;obtain ⟨hcz7_0,hcz7_1,hcz7_2,hcz7_3,hfz7_0,hfz7_1,hfz7_2,hfz7_3⟩:=cz4 BK614;obtain ⟨hcz8_0,hcz8_1,hcz8_2,hcz8_3,hfz8_0,hfz8_1,hfz8_2,hfz8_3⟩:=cz4 BK615))
  refine bodyPost_ret (results_ct rfl _ _ gb615 26 #[.int .i64 a0_0,.int .i64 a0_1,.int .i64 a0_2,.int .i64 a0_3] (0,0) _ rfl (bpA BK615) Try.underlying26 rfl (by kernel_rfl)) rfl ?_
  exact finA blA
 ·
  replace c3:=Bool.eq_false_iff.mpr c3
  subst c3
  rw [if_neg (show ¬ (false=true) by decide)] at H
  try dsimp only at H
  simp only [Option.some.injEq,Prod.mk.injEq] at H
  obtain ⟨rfl,rfl,rfl,rfl,rfl⟩:=H
  go_enter Try.func64,Try.ntmps64
  go_wp2_with (first|((with_reducible refine gate_dst (N:=2) rfl ?_);refine bxE (cs:=#[.int .i64 a0_0,.int .i64 a0_1,.int .i64 a0_2,.int .i64 a0_3]) (t:=26) ?_;intro gb614 hg w9 hbox hb;have BK614:=Aside0.mk hbox;have GW614:=sA hg;have GE614:=sA hg;replace HB:=lB hb;clear hb hbox hg)|((with_reducible refine gate_dst (N:=4) rfl ?_);refine bxE (cs:=#[.int .i64 0,.int .i64 0,.int .i64 0,.int .i64 0]) (t:=26) ?_;intro gb615 hg w10 hbox hb;have BK615:=Aside0.mk hbox;have GW615:=sA hg;have GE615:=sA hg;have NB614_615:=nA hg BK614;have NB615_614:=nB hg BK614;replace BK614:=kB BK614 hb;replace HB:=lB hb;clear hb hbox hg;have hnb11:=NB615_614.out;have hnc11:=NB614_615.out;obtain ⟨hcz12_0,hcz12_1,hcz12_2,hcz12_3,hfz12_0,hfz12_1,hfz12_2,hfz12_3⟩:=cz4 BK615))
  refine bodyPost_ret (results_ct rfl _ _ gb615 26 #[.int .i64 0,.int .i64 0,.int .i64 0,.int .i64 0] (0,0) _ rfl (bpA BK615) Try.underlying26 rfl (by kernel_rfl)) rfl ?_
  exact finA blA
def spec_l01EndOf.f (k:Nat) (a0 a1:Int):Option (Int × Int × Bool):=if a1=0 then (some (1,0,true)) else ((spec_l01Gcd.f k a0 a1).bind fun t429=>(if a1<0 then (if (wrap64 (-t429))=0 then (none) else (if (wrap64 (Int.tdiv a1 (wrap64 (-t429))))≤1000000 then (some (wrap64 (Int.tdiv a0 (wrap64 (-t429))),wrap64 (Int.tdiv a1 (wrap64 (-t429))),decide ((mx (wrap64 (Int.tdiv a0 (wrap64 (-t429)))) (wrap64 (-(wrap64 (Int.tdiv a0 (wrap64 (-t429)))))))≤1000000))) else (some (wrap64 (Int.tdiv a0 (wrap64 (-t429))),wrap64 (Int.tdiv a1 (wrap64 (-t429))),false)))) else (if t429=0 then (none) else (if (wrap64 (Int.tdiv a1 t429))≤1000000 then (some (wrap64 (Int.tdiv a0 t429),wrap64 (Int.tdiv a1 t429),decide ((mx (wrap64 (Int.tdiv a0 t429)) (wrap64 (-(wrap64 (Int.tdiv a0 t429)))))≤1000000))) else (some (wrap64 (Int.tdiv a0 t429),wrap64 (Int.tdiv a1 t429),false))))))
theorem spec_l01EndOf.mono:∀ a0 a1 k,LeO (spec_l01EndOf.f k a0 a1) (spec_l01EndOf.f (k+1) a0 a1):=by
 intro a0 a1 k
 unfold spec_l01EndOf.f
 repeat' first
   | with_reducible first|exact spec_l01Gcd.mono ..|exact LeO.refl _|exact LeO.none _|refine LeO.ite ?_ ?_|refine LeO.bind ?_ fun _=>?_
def spec_l01EndOf.T6:Bool × List (List Nat × List Nat):=(true,[([],[]),([],[]),([0,1],[0,1]),([],[]),([],[]),([3,4],[3,4]),([2,5],[2,5]),([],[]),([7,6,0,1,2,3,4,5,6,7],[6,7])])
def spec_l01EndOf.B6:List Nat:=[0,0,3,0,0,24,63,0,255]
theorem spec_l01EndOf.tab6:rtab .any (opsOf Try.f98 6)=spec_l01EndOf.T6:=by kernel_rfl
theorem spec_l01EndOf.bits6:waitsOk spec_l01EndOf.T6.2 spec_l01EndOf.B6=true:=by kernel_rfl
def spec_l01EndOf.T7:Bool × List (List Nat × List Nat):=(true,[([],[]),([],[]),([1],[1]),([2],[2]),([3],[3]),([4],[4]),([5,4],[4,5]),([4],[4]),([7,4],[4,7]),([8,4],[4,8]),([6,9,4],[4,6,9]),([10,4],[4,10]),([4,11],[4,11]),([0,4,0],[0]),([12,13,0,1,2,3,4,5,6,7,8,9,10,11,12,13],[12])])
def spec_l01EndOf.B7:List Nat:=[0,0,2,6,14,30,62,30,158,414,1022,2046,4094,31,16383]
theorem spec_l01EndOf.tab7:rtab .any (opsOf Try.f98 7)=spec_l01EndOf.T7:=by kernel_rfl
theorem spec_l01EndOf.bits7:waitsOk spec_l01EndOf.T7.2 spec_l01EndOf.B7=true:=by kernel_rfl
set_option maxHeartbeats 8000000 in
set_option maxRecDepth 100000 in
theorem spec_l01EndOf.calls (k:Nat) (a0 a1 r1 r2:Int) (r3:Bool) (w:World) (h:spec_l01EndOf.f k a0 a1=some (r1,r2,r3)) :
  Calls Try.prog 98 #[.int .i64 a0,.int .i64 a1] w fun e w'=>e=.returned (.tuple #[.agg #[.int .i64 r1,.int .i64 r2],.bool r3])∧Below w.heap.size w w':=by
 have hu34:=Try.underlying34
 have HB:=Aside0.mk (Below.refl w.heap.size w)
 have H:=h
 unfold spec_l01EndOf.f at H
 clear h
 by_cases c3:a1=0
 focus
  rw [if_pos c3] at H
  have c3b0:(a1 == 0)=true:=beq_iff_eq.mpr c3
  have c3b1:(a1 != 0)=false:=bne_eq_false_iff_eq.mpr c3
  clear c3
  simp only [Option.some.injEq,Prod.mk.injEq] at H
  obtain ⟨rfl,rfl,rfl⟩:=H
 rotate_left
 focus
  rw [if_neg c3] at H
  have c3b0:(a1 == 0)=false:=beq_eq_false_iff_ne.mpr c3
  have c3b1:(a1 != 0)=true:=bne_iff_ne.mpr c3
  replace H:=bS H
  obtain ⟨t429,A6,H⟩:=H
  try dsimp only at H
  by_cases c7:a1<0
  focus
   rw [if_pos c7] at H
   have c7b0:=decide_eq_true c7
   clear c7
   by_cases c8:(wrap64 (-t429))=0
   ·
    rw [if_pos c8] at H
    exact absurd H (by simp)
   rw [if_neg c8] at H
   have c8b0:((wrap64 (-t429)) == 0)=false:=beq_eq_false_iff_ne.mpr c8
   have c8b1:((wrap64 (-t429)) != 0)=true:=bne_iff_ne.mpr c8
   by_cases c9:(wrap64 (Int.tdiv a1 (wrap64 (-t429))))≤1000000
   focus
    rw [if_pos c9] at H
    have c9b0:=decide_eq_true c9
    clear c9
    obtain ⟨ji10,hji10⟩:∃ j_:Int,(mx (wrap64 (Int.tdiv a0 (wrap64 (-t429)))) (wrap64 (-(wrap64 (Int.tdiv a0 (wrap64 (-t429)))))))=j_:=⟨_,rfl⟩
    replace H:(some (wrap64 (Int.tdiv a0 (wrap64 (-t429))),wrap64 (Int.tdiv a1 (wrap64 (-t429))),decide ((ji10)≤1000000)))=some (r1,r2,r3):=by first|(rw [hji10] at H;exact H)|(simp only [hji10] at H ⊢;exact H)
    (try rw [hji10] at A6)
    have hji10_:(if (wrap64 (Int.tdiv a0 (wrap64 (-t429))))<(wrap64 (-(wrap64 (Int.tdiv a0 (wrap64 (-t429)))))) then (wrap64 (-(wrap64 (Int.tdiv a0 (wrap64 (-t429)))))) else (wrap64 (Int.tdiv a0 (wrap64 (-t429)))))=ji10:=hji10
    simp only [Option.some.injEq,Prod.mk.injEq] at H
    obtain ⟨rfl,rfl,rfl⟩:=H
   rotate_left
   focus
    rw [if_neg c9] at H
    have c9b0:=decide_eq_false c9
    clear c9
    simp only [Option.some.injEq,Prod.mk.injEq] at H
    obtain ⟨rfl,rfl,rfl⟩:=H
   rotate_left
  rotate_left 2
  focus
   rw [if_neg c7] at H
   have c7b0:=decide_eq_false c7
   clear c7
   by_cases c31:t429=0
   ·
    rw [if_pos c31] at H
    exact absurd H (by simp)
   rw [if_neg c31] at H
   have c31b0:(t429 == 0)=false:=beq_eq_false_iff_ne.mpr c31
   have c31b1:(t429 != 0)=true:=bne_iff_ne.mpr c31
   by_cases c32:(wrap64 (Int.tdiv a1 t429))≤1000000
   focus
    rw [if_pos c32] at H
    have c32b0:=decide_eq_true c32
    clear c32
    obtain ⟨ji33,hji33⟩:∃ j_:Int,(mx (wrap64 (Int.tdiv a0 t429)) (wrap64 (-(wrap64 (Int.tdiv a0 t429)))))=j_:=⟨_,rfl⟩
    replace H:(some (wrap64 (Int.tdiv a0 t429),wrap64 (Int.tdiv a1 t429),decide ((ji33)≤1000000)))=some (r1,r2,r3):=by first|(rw [hji33] at H;exact H)|(simp only [hji33] at H ⊢;exact H)
    (try rw [hji33] at A6)
    have hji33_:(if (wrap64 (Int.tdiv a0 t429))<(wrap64 (-(wrap64 (Int.tdiv a0 t429)))) then (wrap64 (-(wrap64 (Int.tdiv a0 t429)))) else (wrap64 (Int.tdiv a0 t429)))=ji33:=hji33
    simp only [Option.some.injEq,Prod.mk.injEq] at H
    obtain ⟨rfl,rfl,rfl⟩:=H
   rotate_left
   focus
    rw [if_neg c32] at H
    have c32b0:=decide_eq_false c32
    clear c32
    simp only [Option.some.injEq,Prod.mk.injEq] at H
    obtain ⟨rfl,rfl,rfl⟩:=H
   rotate_left
  rotate_left 2
 rotate_left 4
 all_goals
  go_enter Try.func98,Try.ntmps98
 ·
  go_wp2_with (first|((with_reducible refine gate_dst (N:=4) rfl ?_);(try (refine gate_guard (by rfl) ?_;dsimp only));refine bxE (cs:=#[.int .i64 0,.int .i64 0]) (t:=34) ?_;intro gb428 hg w4 hbox hb;have n0_:=lB hb;have n1_:=Aside0.mk hbox;have n2_:=sA hg;have n3_:=sA hg;clear HB;have HB:=n0_;have BK428:=n1_;have GW428:=n2_;have GE428:=n3_;clear n0_ n1_ n2_ n3_;clear hb hbox hg;obtain ⟨hcz5_0,hcz5_1,hfz5_0,hfz5_1⟩:=cz2 BK428))
  refine bodyPost_ret (results_ct rfl _ _ gb428 34 #[.int .i64 1,.int .i64 0] (0,0) _ rfl (bpA BK428) Try.underlying34 rfl (by kernel_rfl)) rfl ?_
  exact finA blA
 rotate_left 4
 all_goals
  try go_wp2_with (first|((with_reducible refine gate_dst (N:=4) rfl ?_);(try (refine gate_guard (by rfl) ?_;dsimp only));refine bxE (cs:=#[.int .i64 0,.int .i64 0]) (t:=34) ?_;intro gb428 hg w11 hbox hb;have n0_:=lB hb;have n1_:=Aside0.mk hbox;have n2_:=sA hg;have n3_:=sA hg;clear HB;have HB:=n0_;have BK428:=n1_;have GW428:=n2_;have GE428:=n3_;clear n0_ n1_ n2_ n3_;clear hb hbox hg)|((with_reducible refine gd 13 rfl ?_);refine gC (some 13) rfl Try.func101 (spec_l01Gcd.calls (w:=_) (h:=A6.out)) ?_;intro w12 hb;have n0_:=kB BK428 hb;have n1_:=lB hb;clear BK428;clear HB;have BK428:=n0_;have HB:=n1_;clear n0_ n1_;clear hb))
  have n0_:=Aside0.mk (blk_drew BK428.out)
  have n1_:=Aside0.mk (below_drew1 HB.out)
  clear BK428
  clear HB
  have BK428:=n0_
  have HB:=n1_
  clear n0_ n1_
  refine start_ (n:=9) (S:=fun w'=>True) (ds:=[]) #[Z,Z,Z,Z,Z,Z,Z,Z,Z] (by kernel_rfl) rfl rfl trivial (fun hHeld=>?_);refine with_tabW spec_l01EndOf.tab6 spec_l01EndOf.bits6 (fun HT_ HW_=>?_)
  generalize w12.drew=w13 at BK428 HB hHeld ⊢
  refine puA (i:=0) (N:=some 18) #[Y,Z,Z,Z,Z,Z,Z,Z,Z] rfl rfl HT_ ?_
  refine puA (i:=1) (N:=some 19) #[Y,Y,Z,Z,Z,Z,Z,Z,Z] rfl rfl HT_ ?_
  refine puA (i:=2) (N:=some 20) #[Y,Y,Y,Z,Z,Z,Z,Z,Z] rfl rfl HT_ ?_
  refine puA (i:=3) (N:=some 21) #[Y,Y,Y,Y,Z,Z,Z,Z,Z] rfl rfl HT_ ?_
  refine puA (i:=4) (N:=some 22) #[Y,Y,Y,Y,Y,Z,Z,Z,Z] rfl rfl HT_ ?_
  refine puA (i:=5) (N:=some 23) #[Y,Y,Y,Y,Y,Y,Z,Z,Z] rfl rfl HT_ ?_
  refine puA (i:=6) (N:=some 24) #[Y,Y,Y,Y,Y,Y,Y,Z,Z] rfl rfl HT_ ?_
  refine one_ (i:=7) (N:=some 7) #[Y,Y,Y,Y,Y,Y,Y,Y,Z] rfl rfl (one_of HT_.out (by kernel_rfl)) (by decide) (fun K hK=>?_)
  refine box_step ?hg (N:=7) ?hd (cs:=#[.int .i64 0,.int .i64 0]) (t:=34) ?hr ?_;(case hd=>rfl);(case hg=>rfl);(case hr=>first|(go_simp;done)|(go_simp;rfl))
  intro gb430 hg w14 hbox hb
  have BK430:=Aside0.mk hbox
  have GW430:=sA hg
  have GE430:=sA hg
  have NB428_430:=nA hg BK428
  have NB430_428:=nB hg BK428
  replace BK428:=kB BK428 hb
  replace HB:=lB hb
  clear hb hbox hg
  refine hK.out _ _ trivial (fun hHeld=>?_)
  clear hK K
  refine nmA ?_
  refine one_ (i:=8) (N:=none) #[Y,Y,Y,Y,Y,Y,Y,Y,Y] rfl rfl (one_of HT_.out (by kernel_rfl)) (by decide) (fun K hK=>?_)
  have hs15:w14.cell? ⟨gb430,0,none⟩=some (.int .i64 0):=cA BK430 0
  have hfs15:=blk_frozen BK430.out 0
  have hns15_0:=NB428_430.out
  have hms15_0:=NB430_428.out
  have hs16:w14.cell? ⟨gb430,1,none⟩=some (.int .i64 0):=cA BK430 1
  have hfs16:=blk_frozen BK430.out 1
  have hns16_0:=NB428_430.out
  have hms16_0:=NB430_428.out
  refine skip_ (w1:=?_) (by rfl) rfl ?_ ?_
  rotate_left
  ·
   go_simp
   rfl
  refine hK.out _ _ trivial (fun hHeld=>?_)
  clear hK K
  refine done_ (done_of HT_.out (by kernel_rfl)) ?_
 rotate_left 2
 ·
  try go_wp2
  have n0_:Aside0 (((w14.setCell ⟨gb430,0,none⟩ (.int .i64 (wrap64 (Int.tdiv a0 t429)))).setCell ⟨gb430,1,none⟩ (.int .i64 (wrap64 (Int.tdiv a1 t429)))).heap[gb428]?=some (.cells #[.int .i64 0,.int .i64 0] 34 (0,0))):=⟨bkF BK428⟩
  have n1_:Aside0 (((w14.setCell ⟨gb430,0,none⟩ (.int .i64 (wrap64 (Int.tdiv a0 t429)))).setCell ⟨gb430,1,none⟩ (.int .i64 (wrap64 (Int.tdiv a1 t429)))).heap[gb430]?=some (.cells #[.int .i64 (wrap64 (Int.tdiv a0 t429)),.int .i64 (wrap64 (Int.tdiv a1 t429))] 34 (0,0))):=⟨bpA BK430⟩
  have n2_:Aside0 (Below w.heap.size w ((w14.setCell ⟨gb430,0,none⟩ (.int .i64 (wrap64 (Int.tdiv a0 t429)))).setCell ⟨gb430,1,none⟩ (.int .i64 (wrap64 (Int.tdiv a1 t429))))):=⟨blA⟩
  (try clear BK428)
  (try clear BK430)
  (try clear HB)
  generalize ((w14.setCell ⟨gb430,0,none⟩ (.int .i64 (wrap64 (Int.tdiv a0 t429)))).setCell ⟨gb430,1,none⟩ (.int .i64 (wrap64 (Int.tdiv a1 t429))))=w40 at n0_ n1_ n2_ ⊢
  have BK428:=n0_
  have BK430:=n1_
  have HB:=n2_
  clear n0_ n1_ n2_
  have n0_:=Aside0.mk (blk_drew BK428.out)
  have n1_:=Aside0.mk (blk_drew BK430.out)
  have n2_:=Aside0.mk (below_drew1 HB.out)
  clear BK428
  clear BK430
  clear HB
  have BK428:=n0_
  have BK430:=n1_
  have HB:=n2_
  clear n0_ n1_ n2_
  refine start_ (n:=15) (S:=fun w'=>w'.cell? ⟨gb430,0,none⟩=some (.int .i64 (wrap64 (Int.tdiv a0 t429)))∧w'.cell? ⟨gb430,1,none⟩=some (.int .i64 (wrap64 (Int.tdiv a1 t429)))) (ds:=[]) #[Z,Z,Z,Z,Z,Z,Z,Z,Z,Z,Z,Z,Z,Z,Z] (by kernel_rfl) rfl rfl ⟨cA BK430 0,cA BK430 1⟩ (fun hHeld=>?_);refine with_tabW spec_l01EndOf.tab7 spec_l01EndOf.bits7 (fun HT_ HW_=>?_)
  generalize w40.drew=w41 at BK428 BK430 HB hHeld ⊢
  refine puA (i:=1) (N:=some 26) #[Z,Y,Z,Z,Z,Z,Z,Z,Z,Z,Z,Z,Z,Z,Z] rfl rfl HT_ ?_
  refine taA (i:=0) (N:=some 25) #[Y,Y,Z,Z,Z,Z,Z,Z,Z,Z,Z,Z,Z,Z,Z] rfl rfl HT_ HW_ hHeld ?_
  refine taA (i:=2) (N:=some 27) #[Y,Y,Y,Z,Z,Z,Z,Z,Z,Z,Z,Z,Z,Z,Z] rfl rfl HT_ HW_ hHeld ?_
  refine puA (i:=3) (N:=some 28) #[Y,Y,Y,Y,Z,Z,Z,Z,Z,Z,Z,Z,Z,Z,Z] rfl rfl HT_ ?_
  refine puA (i:=4) (N:=some 29) #[Y,Y,Y,Y,Y,Z,Z,Z,Z,Z,Z,Z,Z,Z,Z] rfl rfl HT_ ?_
  refine puA (i:=5) (N:=some 30) #[Y,Y,Y,Y,Y,Y,Z,Z,Z,Z,Z,Z,Z,Z,Z] rfl rfl HT_ ?_
  refine puA (i:=7) (N:=some 32) #[Y,Y,Y,Y,Y,Y,Z,Y,Z,Z,Z,Z,Z,Z,Z] rfl rfl HT_ ?_
  refine taA (i:=6) (N:=some 31) #[Y,Y,Y,Y,Y,Y,Y,Y,Z,Z,Z,Z,Z,Z,Z] rfl rfl HT_ HW_ hHeld ?_
  refine taA (i:=8) (N:=some 33) #[Y,Y,Y,Y,Y,Y,Y,Y,Y,Z,Z,Z,Z,Z,Z] rfl rfl HT_ HW_ hHeld ?_
  refine puA (i:=9) (N:=some 34) #[Y,Y,Y,Y,Y,Y,Y,Y,Y,Y,Z,Z,Z,Z,Z] rfl rfl HT_ ?_
  refine puA (i:=10) (N:=some 35) #[Y,Y,Y,Y,Y,Y,Y,Y,Y,Y,Y,Z,Z,Z,Z] rfl rfl HT_ ?_
  refine puA (i:=11) (N:=some 36) #[Y,Y,Y,Y,Y,Y,Y,Y,Y,Y,Y,Y,Z,Z,Z] rfl rfl HT_ ?_
  refine puA (i:=12) (N:=some 37) #[Y,Y,Y,Y,Y,Y,Y,Y,Y,Y,Y,Y,Y,Z,Z] rfl rfl HT_ ?_
  refine one_ (i:=13) (N:=none) #[Y,Y,Y,Y,Y,Y,Y,Y,Y,Y,Y,Y,Y,Y,Z] rfl rfl (one_of HT_.out (by kernel_rfl)) (by decide) (fun K hK=>?_)
  have hs42:w41.cell? ⟨gb428,0,none⟩=some (.int .i64 0):=cA BK428 0
  have hfs42:=blk_frozen BK428.out 0
  have hns42_1:=NB430_428.out
  have hms42_1:=NB428_430.out
  have hs43:w41.cell? ⟨gb428,1,none⟩=some (.int .i64 0):=cA BK428 1
  have hfs43:=blk_frozen BK428.out 1
  have hns43_1:=NB430_428.out
  have hms43_1:=NB428_430.out
  refine skip_ (w1:=?_) (by rfl) rfl ?_ ?_
  rotate_left
  ·
   go_simp
   rfl
  refine hK.out _ _ ⟨cfA hHeld.1,cfA hHeld.2⟩ (fun hHeld=>?_)
  clear hK K
  refine puA (i:=14) (N:=some 5) #[Y,Y,Y,Y,Y,Y,Y,Y,Y,Y,Y,Y,Y,Y,Y] rfl rfl HT_ ?_
  refine done_ (done_of HT_.out (by kernel_rfl)) ?_
  try go_wp2
  refine bodyPost_ret (results_ct rfl _ _ gb428 34 #[.int .i64 (wrap64 (Int.tdiv a0 t429)),.int .i64 (wrap64 (Int.tdiv a1 t429))] (0,0) _ rfl (bpA BK428) Try.underlying34 rfl (by kernel_rfl)) rfl ?_
  exact ⟨by first|rfl|(simp [errW_none,errW_some] <;> rfl)|(simp only [← hji33];first|rfl|(simp [errW_none,errW_some] <;> rfl))|(simp [*,errW_none,errW_some] <;> rfl),blA⟩
 ·
  try go_wp2
  have n0_:Aside0 (((w14.setCell ⟨gb430,0,none⟩ (.int .i64 (wrap64 (Int.tdiv a0 t429)))).setCell ⟨gb430,1,none⟩ (.int .i64 (wrap64 (Int.tdiv a1 t429)))).heap[gb428]?=some (.cells #[.int .i64 0,.int .i64 0] 34 (0,0))):=⟨bkF BK428⟩
  have n1_:Aside0 (((w14.setCell ⟨gb430,0,none⟩ (.int .i64 (wrap64 (Int.tdiv a0 t429)))).setCell ⟨gb430,1,none⟩ (.int .i64 (wrap64 (Int.tdiv a1 t429)))).heap[gb430]?=some (.cells #[.int .i64 (wrap64 (Int.tdiv a0 t429)),.int .i64 (wrap64 (Int.tdiv a1 t429))] 34 (0,0))):=⟨bpA BK430⟩
  have n2_:Aside0 (Below w.heap.size w ((w14.setCell ⟨gb430,0,none⟩ (.int .i64 (wrap64 (Int.tdiv a0 t429)))).setCell ⟨gb430,1,none⟩ (.int .i64 (wrap64 (Int.tdiv a1 t429))))):=⟨blA⟩
  (try clear BK428)
  (try clear BK430)
  (try clear HB)
  generalize ((w14.setCell ⟨gb430,0,none⟩ (.int .i64 (wrap64 (Int.tdiv a0 t429)))).setCell ⟨gb430,1,none⟩ (.int .i64 (wrap64 (Int.tdiv a1 t429))))=w40 at n0_ n1_ n2_ ⊢
  have BK428:=n0_
  have BK430:=n1_
  have HB:=n2_
  clear n0_ n1_ n2_
  have n0_:=Aside0.mk (blk_drew BK428.out)
  have n1_:=Aside0.mk (blk_drew BK430.out)
  have n2_:=Aside0.mk (below_drew1 HB.out)
  clear BK428
  clear BK430
  clear HB
  have BK428:=n0_
  have BK430:=n1_
  have HB:=n2_
  clear n0_ n1_ n2_
  refine start_ (n:=15) (S:=fun w'=>w'.cell? ⟨gb430,0,none⟩=some (.int .i64 (wrap64 (Int.tdiv a0 t429)))∧w'.cell? ⟨gb430,1,none⟩=some (.int .i64 (wrap64 (Int.tdiv a1 t429)))) (ds:=[]) #[Z,Z,Z,Z,Z,Z,Z,Z,Z,Z,Z,Z,Z,Z,Z] (by kernel_rfl) rfl rfl ⟨cA BK430 0,cA BK430 1⟩ (fun hHeld=>?_);refine with_tabW spec_l01EndOf.tab7 spec_l01EndOf.bits7 (fun HT_ HW_=>?_)
  generalize w40.drew=w51 at BK428 BK430 HB hHeld ⊢
  refine puA (i:=1) (N:=some 26) #[Z,Y,Z,Z,Z,Z,Z,Z,Z,Z,Z,Z,Z,Z,Z] rfl rfl HT_ ?_
  refine taA (i:=0) (N:=some 25) #[Y,Y,Z,Z,Z,Z,Z,Z,Z,Z,Z,Z,Z,Z,Z] rfl rfl HT_ HW_ hHeld ?_
  refine taA (i:=2) (N:=some 27) #[Y,Y,Y,Z,Z,Z,Z,Z,Z,Z,Z,Z,Z,Z,Z] rfl rfl HT_ HW_ hHeld ?_
  refine puA (i:=3) (N:=some 28) #[Y,Y,Y,Y,Z,Z,Z,Z,Z,Z,Z,Z,Z,Z,Z] rfl rfl HT_ ?_
  refine puA (i:=4) (N:=some 29) #[Y,Y,Y,Y,Y,Z,Z,Z,Z,Z,Z,Z,Z,Z,Z] rfl rfl HT_ ?_
  refine puU (i:=5) (N:=some 30) #[Y,Y,Y,Y,Y,Y,Z,Z,Z,Z,Z,Z,Z,Z,Z] rfl rfl HT_ ?_
  refine puU (i:=6) (N:=some 31) #[Y,Y,Y,Y,Y,Y,Y,Z,Z,Z,Z,Z,Z,Z,Z] rfl rfl HT_ ?_
  refine puU (i:=7) (N:=some 32) #[Y,Y,Y,Y,Y,Y,Y,Y,Z,Z,Z,Z,Z,Z,Z] rfl rfl HT_ ?_
  refine puU (i:=8) (N:=some 33) #[Y,Y,Y,Y,Y,Y,Y,Y,Y,Z,Z,Z,Z,Z,Z] rfl rfl HT_ ?_
  refine puU (i:=9) (N:=some 34) #[Y,Y,Y,Y,Y,Y,Y,Y,Y,Y,Z,Z,Z,Z,Z] rfl rfl HT_ ?_
  refine puU (i:=10) (N:=some 35) #[Y,Y,Y,Y,Y,Y,Y,Y,Y,Y,Y,Z,Z,Z,Z] rfl rfl HT_ ?_
  refine puU (i:=11) (N:=some 36) #[Y,Y,Y,Y,Y,Y,Y,Y,Y,Y,Y,Y,Z,Z,Z] rfl rfl HT_ ?_
  refine puA (i:=12) (N:=some 37) #[Y,Y,Y,Y,Y,Y,Y,Y,Y,Y,Y,Y,Y,Z,Z] rfl rfl HT_ ?_
  refine one_ (i:=13) (N:=none) #[Y,Y,Y,Y,Y,Y,Y,Y,Y,Y,Y,Y,Y,Y,Z] rfl rfl (one_of HT_.out (by kernel_rfl)) (by decide) (fun K hK=>?_)
  have hs52:w51.cell? ⟨gb428,0,none⟩=some (.int .i64 0):=cA BK428 0
  have hfs52:=blk_frozen BK428.out 0
  have hns52_1:=NB430_428.out
  have hms52_1:=NB428_430.out
  have hs53:w51.cell? ⟨gb428,1,none⟩=some (.int .i64 0):=cA BK428 1
  have hfs53:=blk_frozen BK428.out 1
  have hns53_1:=NB430_428.out
  have hms53_1:=NB428_430.out
  refine skip_ (w1:=?_) (by rfl) rfl ?_ ?_
  rotate_left
  ·
   go_simp
   rfl
  refine hK.out _ _ ⟨cfA hHeld.1,cfA hHeld.2⟩ (fun hHeld=>?_)
  clear hK K
  refine puA (i:=14) (N:=some 5) #[Y,Y,Y,Y,Y,Y,Y,Y,Y,Y,Y,Y,Y,Y,Y] rfl rfl HT_ ?_
  refine done_ (done_of HT_.out (by kernel_rfl)) ?_
  try go_wp2
  refine bodyPost_ret (results_ct rfl _ _ gb428 34 #[.int .i64 (wrap64 (Int.tdiv a0 t429)),.int .i64 (wrap64 (Int.tdiv a1 t429))] (0,0) _ rfl (bpA BK428) Try.underlying34 rfl (by kernel_rfl)) rfl ?_
  exact finA blA
 all_goals
  try go_wp2
  have n0_:Aside0 (((w14.setCell ⟨gb430,0,none⟩ (.int .i64 (wrap64 (Int.tdiv a0 (wrap64 (-t429)))))).setCell ⟨gb430,1,none⟩ (.int .i64 (wrap64 (Int.tdiv a1 (wrap64 (-t429)))))).heap[gb428]?=some (.cells #[.int .i64 0,.int .i64 0] 34 (0,0))):=⟨bkF BK428⟩
  have n1_:Aside0 (((w14.setCell ⟨gb430,0,none⟩ (.int .i64 (wrap64 (Int.tdiv a0 (wrap64 (-t429)))))).setCell ⟨gb430,1,none⟩ (.int .i64 (wrap64 (Int.tdiv a1 (wrap64 (-t429)))))).heap[gb430]?=some (.cells #[.int .i64 (wrap64 (Int.tdiv a0 (wrap64 (-t429)))),.int .i64 (wrap64 (Int.tdiv a1 (wrap64 (-t429))))] 34 (0,0))):=⟨bpA BK430⟩
  have n2_:Aside0 (Below w.heap.size w ((w14.setCell ⟨gb430,0,none⟩ (.int .i64 (wrap64 (Int.tdiv a0 (wrap64 (-t429)))))).setCell ⟨gb430,1,none⟩ (.int .i64 (wrap64 (Int.tdiv a1 (wrap64 (-t429))))))):=⟨blA⟩
  (try clear BK428)
  (try clear BK430)
  (try clear HB)
  generalize ((w14.setCell ⟨gb430,0,none⟩ (.int .i64 (wrap64 (Int.tdiv a0 (wrap64 (-t429)))))).setCell ⟨gb430,1,none⟩ (.int .i64 (wrap64 (Int.tdiv a1 (wrap64 (-t429))))))=w17 at n0_ n1_ n2_ ⊢
  have BK428:=n0_
  have BK430:=n1_
  have HB:=n2_
  clear n0_ n1_ n2_
  have n0_:=Aside0.mk (blk_drew BK428.out)
  have n1_:=Aside0.mk (blk_drew BK430.out)
  have n2_:=Aside0.mk (below_drew1 HB.out)
  clear BK428
  clear BK430
  clear HB
  have BK428:=n0_
  have BK430:=n1_
  have HB:=n2_
  clear n0_ n1_ n2_
 ·
  refine start_ (n:=15) (S:=fun w'=>w'.cell? ⟨gb430,0,none⟩=some (.int .i64 (wrap64 (Int.tdiv a0 (wrap64 (-t429)))))∧w'.cell? ⟨gb430,1,none⟩=some (.int .i64 (wrap64 (Int.tdiv a1 (wrap64 (-t429)))))) (ds:=[]) #[Z,Z,Z,Z,Z,Z,Z,Z,Z,Z,Z,Z,Z,Z,Z] (by kernel_rfl) rfl rfl ⟨cA BK430 0,cA BK430 1⟩ (fun hHeld=>?_);refine with_tabW spec_l01EndOf.tab7 spec_l01EndOf.bits7 (fun HT_ HW_=>?_)
  generalize w17.drew=w18 at BK428 BK430 HB hHeld ⊢
  refine puA (i:=1) (N:=some 26) #[Z,Y,Z,Z,Z,Z,Z,Z,Z,Z,Z,Z,Z,Z,Z] rfl rfl HT_ ?_
  refine taA (i:=0) (N:=some 25) #[Y,Y,Z,Z,Z,Z,Z,Z,Z,Z,Z,Z,Z,Z,Z] rfl rfl HT_ HW_ hHeld ?_
  refine taA (i:=2) (N:=some 27) #[Y,Y,Y,Z,Z,Z,Z,Z,Z,Z,Z,Z,Z,Z,Z] rfl rfl HT_ HW_ hHeld ?_
  refine puA (i:=3) (N:=some 28) #[Y,Y,Y,Y,Z,Z,Z,Z,Z,Z,Z,Z,Z,Z,Z] rfl rfl HT_ ?_
  refine puA (i:=4) (N:=some 29) #[Y,Y,Y,Y,Y,Z,Z,Z,Z,Z,Z,Z,Z,Z,Z] rfl rfl HT_ ?_
  refine puA (i:=5) (N:=some 30) #[Y,Y,Y,Y,Y,Y,Z,Z,Z,Z,Z,Z,Z,Z,Z] rfl rfl HT_ ?_
  refine puA (i:=7) (N:=some 32) #[Y,Y,Y,Y,Y,Y,Z,Y,Z,Z,Z,Z,Z,Z,Z] rfl rfl HT_ ?_
  refine taA (i:=6) (N:=some 31) #[Y,Y,Y,Y,Y,Y,Y,Y,Z,Z,Z,Z,Z,Z,Z] rfl rfl HT_ HW_ hHeld ?_
  refine taA (i:=8) (N:=some 33) #[Y,Y,Y,Y,Y,Y,Y,Y,Y,Z,Z,Z,Z,Z,Z] rfl rfl HT_ HW_ hHeld ?_
  refine puA (i:=9) (N:=some 34) #[Y,Y,Y,Y,Y,Y,Y,Y,Y,Y,Z,Z,Z,Z,Z] rfl rfl HT_ ?_
  refine puA (i:=10) (N:=some 35) #[Y,Y,Y,Y,Y,Y,Y,Y,Y,Y,Y,Z,Z,Z,Z] rfl rfl HT_ ?_
  refine puA (i:=11) (N:=some 36) #[Y,Y,Y,Y,Y,Y,Y,Y,Y,Y,Y,Y,Z,Z,Z] rfl rfl HT_ ?_
  refine puA (i:=12) (N:=some 37) #[Y,Y,Y,Y,Y,Y,Y,Y,Y,Y,Y,Y,Y,Z,Z] rfl rfl HT_ ?_
  refine one_ (i:=13) (N:=none) #[Y,Y,Y,Y,Y,Y,Y,Y,Y,Y,Y,Y,Y,Y,Z] rfl rfl (one_of HT_.out (by kernel_rfl)) (by decide) (fun K hK=>?_)
  have hs19:w18.cell? ⟨gb428,0,none⟩=some (.int .i64 0):=cA BK428 0
  have hfs19:=blk_frozen BK428.out 0
  have hns19_1:=NB430_428.out
  have hms19_1:=NB428_430.out
  have hs20:w18.cell? ⟨gb428,1,none⟩=some (.int .i64 0):=cA BK428 1
  have hfs20:=blk_frozen BK428.out 1
  have hns20_1:=NB430_428.out
  have hms20_1:=NB428_430.out
  refine skip_ (w1:=?_) (by rfl) rfl ?_ ?_
  rotate_left
  ·
   go_simp
   rfl
  refine hK.out _ _ ⟨cfA hHeld.1,cfA hHeld.2⟩ (fun hHeld=>?_)
  clear hK K
  refine puA (i:=14) (N:=some 5) #[Y,Y,Y,Y,Y,Y,Y,Y,Y,Y,Y,Y,Y,Y,Y] rfl rfl HT_ ?_
  refine done_ (done_of HT_.out (by kernel_rfl)) ?_
  try go_wp2
  refine bodyPost_ret (results_ct rfl _ _ gb428 34 #[.int .i64 (wrap64 (Int.tdiv a0 (wrap64 (-t429)))),.int .i64 (wrap64 (Int.tdiv a1 (wrap64 (-t429))))] (0,0) _ rfl (bpA BK428) Try.underlying34 rfl (by kernel_rfl)) rfl ?_
  exact ⟨by first|rfl|(simp [errW_none,errW_some] <;> rfl)|(simp only [← hji10];first|rfl|(simp [errW_none,errW_some] <;> rfl))|(simp [*,errW_none,errW_some] <;> rfl),blA⟩
 ·
  refine start_ (n:=15) (S:=fun w'=>w'.cell? ⟨gb430,0,none⟩=some (.int .i64 (wrap64 (Int.tdiv a0 (wrap64 (-t429)))))∧w'.cell? ⟨gb430,1,none⟩=some (.int .i64 (wrap64 (Int.tdiv a1 (wrap64 (-t429)))))) (ds:=[]) #[Z,Z,Z,Z,Z,Z,Z,Z,Z,Z,Z,Z,Z,Z,Z] (by kernel_rfl) rfl rfl ⟨cA BK430 0,cA BK430 1⟩ (fun hHeld=>?_);refine with_tabW spec_l01EndOf.tab7 spec_l01EndOf.bits7 (fun HT_ HW_=>?_)
  generalize w17.drew=w28 at BK428 BK430 HB hHeld ⊢
  refine puA (i:=1) (N:=some 26) #[Z,Y,Z,Z,Z,Z,Z,Z,Z,Z,Z,Z,Z,Z,Z] rfl rfl HT_ ?_
  refine taA (i:=0) (N:=some 25) #[Y,Y,Z,Z,Z,Z,Z,Z,Z,Z,Z,Z,Z,Z,Z] rfl rfl HT_ HW_ hHeld ?_
  refine taA (i:=2) (N:=some 27) #[Y,Y,Y,Z,Z,Z,Z,Z,Z,Z,Z,Z,Z,Z,Z] rfl rfl HT_ HW_ hHeld ?_
  refine puA (i:=3) (N:=some 28) #[Y,Y,Y,Y,Z,Z,Z,Z,Z,Z,Z,Z,Z,Z,Z] rfl rfl HT_ ?_
  refine puA (i:=4) (N:=some 29) #[Y,Y,Y,Y,Y,Z,Z,Z,Z,Z,Z,Z,Z,Z,Z] rfl rfl HT_ ?_
  refine puU (i:=5) (N:=some 30) #[Y,Y,Y,Y,Y,Y,Z,Z,Z,Z,Z,Z,Z,Z,Z] rfl rfl HT_ ?_
  refine puU (i:=6) (N:=some 31) #[Y,Y,Y,Y,Y,Y,Y,Z,Z,Z,Z,Z,Z,Z,Z] rfl rfl HT_ ?_
  refine puU (i:=7) (N:=some 32) #[Y,Y,Y,Y,Y,Y,Y,Y,Z,Z,Z,Z,Z,Z,Z] rfl rfl HT_ ?_
  refine puU (i:=8) (N:=some 33) #[Y,Y,Y,Y,Y,Y,Y,Y,Y,Z,Z,Z,Z,Z,Z] rfl rfl HT_ ?_
  refine puU (i:=9) (N:=some 34) #[Y,Y,Y,Y,Y,Y,Y,Y,Y,Y,Z,Z,Z,Z,Z] rfl rfl HT_ ?_
  refine puU (i:=10) (N:=some 35) #[Y,Y,Y,Y,Y,Y,Y,Y,Y,Y,Y,Z,Z,Z,Z] rfl rfl HT_ ?_
  refine puU (i:=11) (N:=some 36) #[Y,Y,Y,Y,Y,Y,Y,Y,Y,Y,Y,Y,Z,Z,Z] rfl rfl HT_ ?_
  refine puA (i:=12) (N:=some 37) #[Y,Y,Y,Y,Y,Y,Y,Y,Y,Y,Y,Y,Y,Z,Z] rfl rfl HT_ ?_
  refine one_ (i:=13) (N:=none) #[Y,Y,Y,Y,Y,Y,Y,Y,Y,Y,Y,Y,Y,Y,Z] rfl rfl (one_of HT_.out (by kernel_rfl)) (by decide) (fun K hK=>?_)
  have hs29:w28.cell? ⟨gb428,0,none⟩=some (.int .i64 0):=cA BK428 0
  have hfs29:=blk_frozen BK428.out 0
  have hns29_1:=NB430_428.out
  have hms29_1:=NB428_430.out
  have hs30:w28.cell? ⟨gb428,1,none⟩=some (.int .i64 0):=cA BK428 1
  have hfs30:=blk_frozen BK428.out 1
  have hns30_1:=NB430_428.out
  have hms30_1:=NB428_430.out
  refine skip_ (w1:=?_) (by rfl) rfl ?_ ?_
  rotate_left
  ·
   go_simp
   rfl
  refine hK.out _ _ ⟨cfA hHeld.1,cfA hHeld.2⟩ (fun hHeld=>?_)
  clear hK K
  refine puA (i:=14) (N:=some 5) #[Y,Y,Y,Y,Y,Y,Y,Y,Y,Y,Y,Y,Y,Y,Y] rfl rfl HT_ ?_
  refine done_ (done_of HT_.out (by kernel_rfl)) ?_
  try go_wp2
  refine bodyPost_ret (results_ct rfl _ _ gb428 34 #[.int .i64 (wrap64 (Int.tdiv a0 (wrap64 (-t429)))),.int .i64 (wrap64 (Int.tdiv a1 (wrap64 (-t429))))] (0,0) _ rfl (bpA BK428) Try.underlying34 rfl (by kernel_rfl)) rfl ?_
  exact finA blA
def impl_IsEnd.f (k:Nat) (a0_0 a0_1:Int):Option (Bool):=if a0_1=0 then (some (a0_0 == 1)) else ((impl_within.f k 1000000 (([a0_0,a0_1]:List Int))).bind fun t507=>(if t507=true then (if a0_1>0 then ((impl_gcd.f k a0_0 a0_1).bind fun t508=>(some (t508 == 1))) else (some false)) else (some false)))
theorem impl_IsEnd.mono:∀ a0 a1 k,LeO (impl_IsEnd.f k a0 a1) (impl_IsEnd.f (k+1) a0 a1):=by
 intro a0 a1 k
 unfold impl_IsEnd.f
 repeat' first
   | with_reducible first|exact impl_gcd.mono ..|exact impl_within.mono ..|exact LeO.refl _|exact LeO.none _|refine LeO.ite ?_ ?_|refine LeO.bind ?_ fun _=>?_
set_option maxHeartbeats 8000000 in
set_option maxRecDepth 100000 in
theorem impl_IsEnd.calls (k:Nat) (a0_0 a0_1:Int) (r:Bool) (w:World) (h:impl_IsEnd.f k a0_0 a0_1=some r) :
  Calls Try.prog 50 #[.agg #[.int .i64 a0_0,.int .i64 a0_1]] w fun e w'=>e=.returned (.bool r)∧Below w.heap.size w w':=by
 have hu34:=Try.underlying34
 have HB:=Aside0.mk (Below.refl w.heap.size w)
 have H:=h
 unfold impl_IsEnd.f at H
 clear h
 by_cases c2:a0_1=0
 ·
  rw [if_pos c2] at H
  have c2b0:(a0_1 == 0)=true:=beq_iff_eq.mpr c2
  have c2b1:(a0_1 != 0)=false:=bne_eq_false_iff_eq.mpr c2
  clear c2
  obtain rfl:=Option.some.inj H
  go_enter Try.func50,Try.ntmps50
  go_wp2_with (first|((with_reducible refine gate_dst (N:=1) rfl ?_);refine bxE (cs:=#[.int .i64 a0_0,.int .i64 a0_1]) (t:=34) ?_;intro gb503 hg w3 hbox hb;have BK503:=Aside0.mk hbox;have GW503:=sA hg;have GE503:=sA hg;replace HB:=lB hb;clear hb hbox hg;obtain ⟨hcz4_0,hcz4_1,hfz4_0,hfz4_1⟩:=cz2 BK503))
  go_ret
  exact finA blA
 ·
  rw [if_neg c2] at H
  have c2b0:(a0_1 == 0)=false:=beq_eq_false_iff_ne.mpr c2
  have c2b1:(a0_1 != 0)=true:=bne_iff_ne.mpr c2
  obtain ⟨y504,hy504⟩:∃ y_:List Int,y_=(([a0_0,a0_1]:List Int)):=⟨_,rfl⟩
  replace H:((impl_within.f k 1000000 y504).bind fun t507=>(if t507=true then (if a0_1>0 then ((impl_gcd.f k a0_0 a0_1).bind fun t508=>(some (t508 == 1))) else (some false)) else (some false)))=some r:=rH hy504 H
  have Ny504:=Aside0.mk hy504
  clear hy504
  replace H:=bS H
  obtain ⟨t507,A5,H⟩:=H
  try dsimp only at H
  by_cases c6:t507=true
  ·
   subst c6
   rw [if_pos rfl] at H
   try dsimp only at H
   by_cases c7:a0_1>0
   ·
    rw [if_pos c7] at H
    have c7b0:decide (0<a0_1)=true:=decide_eq_true c7
    clear c7
    replace H:=bS H
    obtain ⟨t508,A8,H⟩:=H
    try dsimp only at H
    obtain rfl:=Option.some.inj H
    go_enter Try.func50,Try.ntmps50
    go_wp2_with (first|((with_reducible refine gate_dst (N:=1) rfl ?_);refine bxE (cs:=#[.int .i64 a0_0,.int .i64 a0_1]) (t:=34) ?_;intro gb503 hg w9 hbox hb;have BK503:=Aside0.mk hbox;have GW503:=sA hg;have GE503:=sA hg;replace HB:=lB hb;clear hb hbox hg;obtain ⟨hcz10_0,hcz10_1,hfz10_0,hfz10_1⟩:=cz2 BK503)|((with_reducible refine gate_dst (N:=13) rfl ?_);refine Kd.R_lit (Kd.int .i64) _ 2 ?hg (N:=13) ?hd (xs:=([a0_0,a0_1]:List Int)) (inner:=[.int .i64 a0_0,.int .i64 a0_1]) (ok:=fun _=>True) (okp:=fun _=>True) ?hr ?hp (fun _ hk=>hk) trivial (Below.refl _ _) (Nat.le_refl _) (by simp) ?_;(case hd=>rfl);(case hg=>rfl);(case hr=>first|(go_simp;done)|(go_simp;rfl));(case hp=>exact (Reps.one (show Kd.M (Kd.int .i64) _ _ _ a0_0 [.int .i64 a0_0] from rfl) (Reps.one (show Kd.M (Kd.int .i64) _ _ _ a0_1 [.int .i64 a0_1] from rfl) (Reps.none _ _))));intro v505 w11 ho12 hb hg_ hnew_;clear hg_ hnew_;(first|rw [← Ny504.out] at ho12|(simp only [Int.reduceToNat] at ho12;rw [← Ny504.out] at ho12));have HO506:=Aside0.mk (Kd.R_lower ho12 (below_size blA));replace BK503:=kB BK503 hb;replace HB:=lB hb;clear hb ho12;obtain ⟨Ao13,co13,eo13⟩:=Kd.R_slice HO506.out;subst eo13)|((with_reducible refine gd 14 rfl ?_);refine gC (some 14) rfl Try.func88 (impl_within.calls (w:=_) (hr1:=cR (Kd.R_reads' HO506.out).2.2) (hc1:=(Kd.R_reads' HO506.out).2.1) (h:=A5.out)) ?_;rintro _ ⟨nd,rfl⟩;obtain ⟨hcz14_0,hcz14_1,hfz14_0,hfz14_1⟩:=cz2 BK503)|(go_at_call 99;(with_reducible refine (impl_gcd.calls k a0_0 a0_1 t508 _ A8.out).mono ?_);rintro e w15 ⟨rfl,hb⟩;replace HO506:=Aside0.mk (Kd.R_below (rA HO506) hb);replace BK503:=kB BK503 hb;replace HB:=lB hb;clear hb))
    go_ret
    exact finA blA
   ·
    rw [if_neg c7] at H
    have c7b0:decide (0<a0_1)=false:=decide_eq_false c7
    clear c7
    obtain rfl:=Option.some.inj H
    go_enter Try.func50,Try.ntmps50
    go_wp2_with (first|((with_reducible refine gate_dst (N:=1) rfl ?_);refine bxE (cs:=#[.int .i64 a0_0,.int .i64 a0_1]) (t:=34) ?_;intro gb503 hg w16 hbox hb;have BK503:=Aside0.mk hbox;have GW503:=sA hg;have GE503:=sA hg;replace HB:=lB hb;clear hb hbox hg;obtain ⟨hcz17_0,hcz17_1,hfz17_0,hfz17_1⟩:=cz2 BK503)|((with_reducible refine gate_dst (N:=13) rfl ?_);refine Kd.R_lit (Kd.int .i64) _ 2 ?hg (N:=13) ?hd (xs:=([a0_0,a0_1]:List Int)) (inner:=[.int .i64 a0_0,.int .i64 a0_1]) (ok:=fun _=>True) (okp:=fun _=>True) ?hr ?hp (fun _ hk=>hk) trivial (Below.refl _ _) (Nat.le_refl _) (by simp) ?_;(case hd=>rfl);(case hg=>rfl);(case hr=>first|(go_simp;done)|(go_simp;rfl));(case hp=>exact (Reps.one (show Kd.M (Kd.int .i64) _ _ _ a0_0 [.int .i64 a0_0] from rfl) (Reps.one (show Kd.M (Kd.int .i64) _ _ _ a0_1 [.int .i64 a0_1] from rfl) (Reps.none _ _))));intro v505 w18 ho19 hb hg_ hnew_;clear hg_ hnew_;(first|rw [← Ny504.out] at ho19|(simp only [Int.reduceToNat] at ho19;rw [← Ny504.out] at ho19));have HO506:=Aside0.mk (Kd.R_lower ho19 (below_size blA));replace BK503:=kB BK503 hb;replace HB:=lB hb;clear hb ho19;obtain ⟨Ao20,co20,eo20⟩:=Kd.R_slice HO506.out;subst eo20)|((with_reducible refine gd 14 rfl ?_);refine gC (some 14) rfl Try.func88 (impl_within.calls (w:=_) (hr1:=cR (Kd.R_reads' HO506.out).2.2) (hc1:=(Kd.R_reads' HO506.out).2.1) (h:=A5.out)) ?_;rintro _ ⟨nd,rfl⟩;obtain ⟨hcz21_0,hcz21_1,hfz21_0,hfz21_1⟩:=cz2 BK503))
    go_ret
    exact finA blA
  ·
   replace c6:=Bool.eq_false_iff.mpr c6
   subst c6
   rw [if_neg (show ¬ (false=true) by decide)] at H
   try dsimp only at H
   obtain rfl:=Option.some.inj H
   go_enter Try.func50,Try.ntmps50
   go_wp2_with (first|((with_reducible refine gate_dst (N:=1) rfl ?_);refine bxE (cs:=#[.int .i64 a0_0,.int .i64 a0_1]) (t:=34) ?_;intro gb503 hg w22 hbox hb;have BK503:=Aside0.mk hbox;have GW503:=sA hg;have GE503:=sA hg;replace HB:=lB hb;clear hb hbox hg;obtain ⟨hcz23_0,hcz23_1,hfz23_0,hfz23_1⟩:=cz2 BK503)|((with_reducible refine gate_dst (N:=13) rfl ?_);refine Kd.R_lit (Kd.int .i64) _ 2 ?hg (N:=13) ?hd (xs:=([a0_0,a0_1]:List Int)) (inner:=[.int .i64 a0_0,.int .i64 a0_1]) (ok:=fun _=>True) (okp:=fun _=>True) ?hr ?hp (fun _ hk=>hk) trivial (Below.refl _ _) (Nat.le_refl _) (by simp) ?_;(case hd=>rfl);(case hg=>rfl);(case hr=>first|(go_simp;done)|(go_simp;rfl));(case hp=>exact (Reps.one (show Kd.M (Kd.int .i64) _ _ _ a0_0 [.int .i64 a0_0] from rfl) (Reps.one (show Kd.M (Kd.int .i64) _ _ _ a0_1 [.int .i64 a0_1] from rfl) (Reps.none _ _))));intro v505 w24 ho25 hb hg_ hnew_;clear hg_ hnew_;(first|rw [← Ny504.out] at ho25|(simp only [Int.reduceToNat] at ho25;rw [← Ny504.out] at ho25));have HO506:=Aside0.mk (Kd.R_lower ho25 (below_size blA));replace BK503:=kB BK503 hb;replace HB:=lB hb;clear hb ho25;obtain ⟨Ao26,co26,eo26⟩:=Kd.R_slice HO506.out;subst eo26)|((with_reducible refine gd 14 rfl ?_);refine gC (some 14) rfl Try.func88 (impl_within.calls (w:=_) (hr1:=cR (Kd.R_reads' HO506.out).2.2) (hc1:=(Kd.R_reads' HO506.out).2.1) (h:=A5.out)) ?_;rintro _ ⟨nd,rfl⟩))
   go_ret
   exact finA blA
def spec_l01End.f (k:Nat) (a0_0 a0_1:Int):Option (Bool):=if a0_1=0 then (some (a0_0 == 1)) else ((spec_l01In.f a0_1 1 1000000).bind fun t535=>(if t535=true then ((spec_l01In.f a0_0 (-1000000) 1000000).bind fun t536=>(if t536=true then ((spec_l01Gcd.f k a0_0 a0_1).bind fun t537=>(some (t537 == 1))) else (some false))) else (some false)))
theorem spec_l01End.mono:∀ a0 a1 k,LeO (spec_l01End.f k a0 a1) (spec_l01End.f (k+1) a0 a1):=by
 intro a0 a1 k
 unfold spec_l01End.f
 repeat' first
   | with_reducible first|exact spec_l01Gcd.mono ..|exact LeO.refl _|exact LeO.none _|refine LeO.ite ?_ ?_|refine LeO.bind ?_ fun _=>?_
set_option maxHeartbeats 8000000 in
set_option maxRecDepth 100000 in
theorem spec_l01End.calls (k:Nat) (a0_0 a0_1:Int) (r:Bool) (w:World) (h:spec_l01End.f k a0_0 a0_1=some r) :
  Calls Try.prog 54 #[.agg #[.int .i64 a0_0,.int .i64 a0_1]] w fun e w'=>e=.returned (.bool r)∧Below w.heap.size w w':=by
 have hu34:=Try.underlying34
 have HB:=Aside0.mk (Below.refl w.heap.size w)
 have H:=h
 unfold spec_l01End.f at H
 clear h
 by_cases c2:a0_1=0
 ·
  rw [if_pos c2] at H
  have c2b0:(a0_1 == 0)=true:=beq_iff_eq.mpr c2
  have c2b1:(a0_1 != 0)=false:=bne_eq_false_iff_eq.mpr c2
  clear c2
  obtain rfl:=Option.some.inj H
  go_enter Try.func54,Try.ntmps54
  go_wp2_with (first|((with_reducible refine gate_dst (N:=1) rfl ?_);refine bxE (cs:=#[.int .i64 a0_0,.int .i64 a0_1]) (t:=34) ?_;intro gb534 hg w3 hbox hb;have BK534:=Aside0.mk hbox;have GW534:=sA hg;have GE534:=sA hg;replace HB:=lB hb;clear hb hbox hg;obtain ⟨hcz4_0,hcz4_1,hfz4_0,hfz4_1⟩:=cz2 BK534))
  go_ret
  exact finA blA
 ·
  rw [if_neg c2] at H
  have c2b0:(a0_1 == 0)=false:=beq_eq_false_iff_ne.mpr c2
  have c2b1:(a0_1 != 0)=true:=bne_iff_ne.mpr c2
  replace H:=bS H
  obtain ⟨t535,A5,H⟩:=H
  try dsimp only at H
  by_cases c6:t535=true
  ·
   subst c6
   rw [if_pos rfl] at H
   try dsimp only at H
   replace H:=bS H
   obtain ⟨t536,A7,H⟩:=H
   try dsimp only at H
   by_cases c8:t536=true
   ·
    subst c8
    rw [if_pos rfl] at H
    try dsimp only at H
    replace H:=bS H
    obtain ⟨t537,A9,H⟩:=H
    try dsimp only at H
    obtain rfl:=Option.some.inj H
    go_enter Try.func54,Try.ntmps54
    go_wp2_with (first|((with_reducible refine gate_dst (N:=1) rfl ?_);refine bxE (cs:=#[.int .i64 a0_0,.int .i64 a0_1]) (t:=34) ?_;intro gb534 hg w10 hbox hb;have BK534:=Aside0.mk hbox;have GW534:=sA hg;have GE534:=sA hg;replace HB:=lB hb;clear hb hbox hg;obtain ⟨hcz11_0,hcz11_1,hfz11_0,hfz11_1⟩:=cz2 BK534)|((with_reducible refine gd 11 rfl ?_);refine gC (some 11) rfl Try.func85 (spec_l01In.calls (w:=_) (h:=A5.out)) ?_;rintro _ ⟨nd,rfl⟩)|(go_at_call 85;(with_reducible refine (spec_l01In.calls a0_0 (-1000000) 1000000 true _ A7.out).mono ?_);rintro e w' ⟨rfl,⟨nd,rfl⟩⟩)|(go_at_call 101;(with_reducible refine (spec_l01Gcd.calls k a0_0 a0_1 t537 _ A9.out).mono ?_);rintro e w12 ⟨rfl,hb⟩;replace BK534:=kB BK534 hb;replace HB:=lB hb;clear hb))
    go_ret
    exact finA blA
   ·
    replace c8:=Bool.eq_false_iff.mpr c8
    subst c8
    rw [if_neg (show ¬ (false=true) by decide)] at H
    try dsimp only at H
    obtain rfl:=Option.some.inj H
    go_enter Try.func54,Try.ntmps54
    go_wp2_with (first|((with_reducible refine gate_dst (N:=1) rfl ?_);refine bxE (cs:=#[.int .i64 a0_0,.int .i64 a0_1]) (t:=34) ?_;intro gb534 hg w13 hbox hb;have BK534:=Aside0.mk hbox;have GW534:=sA hg;have GE534:=sA hg;replace HB:=lB hb;clear hb hbox hg;obtain ⟨hcz14_0,hcz14_1,hfz14_0,hfz14_1⟩:=cz2 BK534)|((with_reducible refine gd 11 rfl ?_);refine gC (some 11) rfl Try.func85 (spec_l01In.calls (w:=_) (h:=A5.out)) ?_;rintro _ ⟨nd,rfl⟩)|(go_at_call 85;(with_reducible refine (spec_l01In.calls a0_0 (-1000000) 1000000 false _ A7.out).mono ?_);rintro e w' ⟨rfl,⟨nd,rfl⟩⟩))
    go_ret
    exact finA blA
  ·
   replace c6:=Bool.eq_false_iff.mpr c6
   subst c6
   rw [if_neg (show ¬ (false=true) by decide)] at H
   try dsimp only at H
   obtain rfl:=Option.some.inj H
   go_enter Try.func54,Try.ntmps54
   go_wp2_with (first|((with_reducible refine gate_dst (N:=1) rfl ?_);refine bxE (cs:=#[.int .i64 a0_0,.int .i64 a0_1]) (t:=34) ?_;intro gb534 hg w15 hbox hb;have BK534:=Aside0.mk hbox;have GW534:=sA hg;have GE534:=sA hg;replace HB:=lB hb;clear hb hbox hg;obtain ⟨hcz16_0,hcz16_1,hfz16_0,hfz16_1⟩:=cz2 BK534)|((with_reducible refine gd 11 rfl ?_);refine gC (some 11) rfl Try.func85 (spec_l01In.calls (w:=_) (h:=A5.out)) ?_;rintro _ ⟨nd,rfl⟩))
   go_ret
   exact finA blA
end Go.Proofs.Ytlpmefmaplhfdaa.PAll
