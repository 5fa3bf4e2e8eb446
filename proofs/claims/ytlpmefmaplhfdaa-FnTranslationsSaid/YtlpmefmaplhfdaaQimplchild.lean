-- turned out of the kit's print
import Derived.Test.YtlpmefmaplhfdaaQx
import Derived.Test.YtlpmefmaplhfdaaQbitsLeadingZeros64
import Derived.Test.YtlpmefmaplhfdaaQimplofMark
namespace Go.Proofs.Ytlpmefmaplhfdaa.PAll
open Go.RowKit Go.Proofs.YtlpmefmaplhfdaaW.PrintWords Go.Proofs.YtlpmefmaplhfdaaW.PrintLast Go.Proofs.YtlpmefmaplhfdaaW.PrintMore
attribute [local go_sem] Go.Proofs.Ytlpmefmaplhfdaa.Aux.setCell_drewN Go.Proofs.Ytlpmefmaplhfdaa.Aux.isSome_setCell max2_int min2_int max_two min_two max_three min_three max_four min_four
set_option linter.unusedVariables false
set_option linter.unusedSimpArgs false
def spec_l02Valuation.f (k:Nat) (a0 a1_0 a1_1 a1_2 a2_0 a2_1 a2_2:Int):Option (Int × Bool):=(spec_l01Power.f k a0 (wrap64 ((mx a1_2 a2_2) - a1_2))).bind fun t756=>((spec_l01Power.f k a0 (wrap64 ((mx a1_2 a2_2) - a2_2))).bind fun t757=>(if (wrap64 ((wrap64 (a1_1*t756)) - (wrap64 (a2_1*t757))))=0 then (some (0,false)) else ((spec_l01Val.f k a0 (wrap64 ((wrap64 (a1_1*t756)) - (wrap64 (a2_1*t757))))).bind fun t758=>(some (wrap64 (t758 - (mx a1_2 a2_2)),true)))))
theorem spec_l02Valuation.mono:∀ a0 a1 a2 a3 a4 a5 a6 k,LeO (spec_l02Valuation.f k a0 a1 a2 a3 a4 a5 a6) (spec_l02Valuation.f (k+1) a0 a1 a2 a3 a4 a5 a6):=by
 intro a0 a1 a2 a3 a4 a5 a6 k
 unfold spec_l02Valuation.f
 repeat' first
   | with_reducible first|exact spec_l01Power.mono ..|exact spec_l01Val.mono ..|exact LeO.refl _|exact LeO.none _|refine LeO.ite ?_ ?_|refine LeO.bind ?_ fun _=>?_
set_option maxHeartbeats 8000000 in
set_option maxRecDepth 100000 in
theorem spec_l02Valuation.calls (k:Nat) (a0 a1_0 a1_1 a1_2 a2_0 a2_1 a2_2 r1:Int) (r2:Bool) (w:World) (h:spec_l02Valuation.f k a0 a1_0 a1_1 a1_2 a2_0 a2_1 a2_2=some (r1,r2)) :
  Calls Try.prog 131 #[.int .i64 a0,.agg #[.int .i64 a1_0,.int .i64 a1_1,.int .i64 a1_2],.agg #[.int .i64 a2_0,.int .i64 a2_1,.int .i64 a2_2]] w fun e w'=>e=.returned (.tuple #[.int .i64 r1,.bool r2])∧Below w.heap.size w w':=by
 have hu28:=Try.underlying28
 have HB:=Aside0.mk (Below.refl w.heap.size w)
 have H:=h
 unfold spec_l02Valuation.f at H
 clear h
 obtain ⟨ji4,hji4⟩:∃ j_:Int,(mx a1_2 a2_2)=j_:=⟨_,rfl⟩
 replace H:((spec_l01Power.f k a0 (wrap64 ((ji4) - a1_2))).bind fun t756=>((spec_l01Power.f k a0 (wrap64 ((ji4) - a2_2))).bind fun t757=>(if (wrap64 ((wrap64 (a1_1*t756)) - (wrap64 (a2_1*t757))))=0 then (some (0,false)) else ((spec_l01Val.f k a0 (wrap64 ((wrap64 (a1_1*t756)) - (wrap64 (a2_1*t757))))).bind fun t758=>(some (wrap64 (t758 - (ji4)),true))))))=some (r1,r2):=by first|(rw [hji4] at H;exact H)|(simp only [hji4] at H ⊢;exact H)
 have hji4_:(if a1_2<a2_2 then a2_2 else a1_2)=ji4:=hji4
 replace H:=bS H
 obtain ⟨t756,A5,H⟩:=H
 try dsimp only at H
 replace H:=bS H
 obtain ⟨t757,A6,H⟩:=H
 try dsimp only at H
 by_cases c7:(wrap64 ((wrap64 (a1_1*t756)) - (wrap64 (a2_1*t757))))=0
 ·
  rw [if_pos c7] at H
  have c7b0:((wrap64 ((wrap64 (a1_1*t756)) - (wrap64 (a2_1*t757)))) == 0)=true:=beq_iff_eq.mpr c7
  have c7b1:((wrap64 ((wrap64 (a1_1*t756)) - (wrap64 (a2_1*t757)))) != 0)=false:=bne_eq_false_iff_eq.mpr c7
  clear c7
  simp only [Option.some.injEq,Prod.mk.injEq] at H
  obtain ⟨rfl,rfl⟩:=H
  go_enter Try.func131,Try.ntmps131
  go_wp2_with (first|((with_reducible refine gate_dst (N:=4) rfl ?_);refine bxE (cs:=#[.int .i64 a1_0,.int .i64 a1_1,.int .i64 a1_2]) (t:=28) ?_;intro gb754 hg w8 hbox hb;have BK754:=Aside0.mk hbox;have GW754:=sA hg;have GE754:=sA hg;replace HB:=lB hb;clear hb hbox hg)|((with_reducible refine gate_dst (N:=5) rfl ?_);refine bxE (cs:=#[.int .i64 a2_0,.int .i64 a2_1,.int .i64 a2_2]) (t:=28) ?_;intro gb755 hg w9 hbox hb;have BK755:=Aside0.mk hbox;have GW755:=sA hg;have GE755:=sA hg;have NB754_755:=nA hg BK754;have NB755_754:=nB hg BK754;replace BK754:=kB BK754 hb;replace HB:=lB hb;clear hb hbox hg;have hnb10:=NB754_755.out;have hnc10:=NB755_754.out;obtain ⟨hcz11_0,hcz11_1,hcz11_2,hfz11_0,hfz11_1,hfz11_2⟩:=cz3 BK754;obtain ⟨hcz12_0,hcz12_1,hcz12_2,hfz12_0,hfz12_1,hfz12_2⟩:=cz3 BK755)|(go_at_call 94;(with_reducible refine (spec_l01Power.calls k a0 (wrap64 ((ji4) - a1_2)) t756 _ A5.out).mono ?_);rintro e w' ⟨rfl,⟨nd,rfl⟩⟩;(try exact dd))|(go_at_call 94;(with_reducible refine (spec_l01Power.calls k a0 (wrap64 ((ji4) - a2_2)) t757 _ A6.out).mono ?_);rintro e w' ⟨rfl,⟨nd,rfl⟩⟩;(try exact dd)))
  repeat (go_quiet (first|((with_reducible refine gate_dst (N:=4) rfl ?_);refine bxE (cs:=#[.int .i64 a1_0,.int .i64 a1_1,.int .i64 a1_2]) (t:=28) ?_;intro gb754 hg w8 hbox hb;have BK754:=Aside0.mk hbox;have GW754:=sA hg;have GE754:=sA hg;replace HB:=lB hb;clear hb hbox hg)|((with_reducible refine gate_dst (N:=5) rfl ?_);refine bxE (cs:=#[.int .i64 a2_0,.int .i64 a2_1,.int .i64 a2_2]) (t:=28) ?_;intro gb755 hg w9 hbox hb;have BK755:=Aside0.mk hbox;have GW755:=sA hg;have GE755:=sA hg;have NB754_755:=nA hg BK754;have NB755_754:=nB hg BK754;replace BK754:=kB BK754 hb;replace HB:=lB hb;clear hb hbox hg;have hnb10:=NB754_755.out;have hnc10:=NB755_754.out;obtain ⟨hcz11_0,hcz11_1,hcz11_2,hfz11_0,hfz11_1,hfz11_2⟩:=cz3 BK754;obtain ⟨hcz12_0,hcz12_1,hcz12_2,hfz12_0,hfz12_1,hfz12_2⟩:=cz3 BK755)|(go_at_call 94;(with_reducible refine (spec_l01Power.calls k a0 (wrap64 ((ji4) - a1_2)) t756 _ A5.out).mono ?_);rintro e w' ⟨rfl,⟨nd,rfl⟩⟩;(try exact dd))|(go_at_call 94;(with_reducible refine (spec_l01Power.calls k a0 (wrap64 ((ji4) - a2_2)) t757 _ A6.out).mono ?_);rintro e w' ⟨rfl,⟨nd,rfl⟩⟩;(try exact dd)));try go_wp2_with (first|((with_reducible refine gate_dst (N:=4) rfl ?_);refine bxE (cs:=#[.int .i64 a1_0,.int .i64 a1_1,.int .i64 a1_2]) (t:=28) ?_;intro gb754 hg w8 hbox hb;have BK754:=Aside0.mk hbox;have GW754:=sA hg;have GE754:=sA hg;replace HB:=lB hb;clear hb hbox hg)|((with_reducible refine gate_dst (N:=5) rfl ?_);refine bxE (cs:=#[.int .i64 a2_0,.int .i64 a2_1,.int .i64 a2_2]) (t:=28) ?_;intro gb755 hg w9 hbox hb;have BK755:=Aside0.mk hbox;have GW755:=sA hg;have GE755:=sA hg;have NB754_755:=nA hg BK754;have NB755_754:=nB hg BK754;replace BK754:=kB BK754 hb;replace HB:=lB hb;clear hb hbox hg;have hnb10:=NB754_755.out;have hnc10:=NB755_754.out;obtain ⟨hcz11_0,hcz11_1,hcz11_2,hfz11_0,hfz11_1,hfz11_2⟩:=cz3 BK754;obtain ⟨hcz12_0,hcz12_1,hcz12_2,hfz12_0,hfz12_1,hfz12_2⟩:=cz3 BK755)|(go_at_call 94;(with_reducible refine (spec_l01Power.calls k a0 (wrap64 ((ji4) - a1_2)) t756 _ A5.out).mono ?_);rintro e w' ⟨rfl,⟨nd,rfl⟩⟩;(try exact dd))|(go_at_call 94;(with_reducible refine (spec_l01Power.calls k a0 (wrap64 ((ji4) - a2_2)) t757 _ A6.out).mono ?_);rintro e w' ⟨rfl,⟨nd,rfl⟩⟩;(try exact dd))))
  go_ret2
  exact ⟨by first|rfl|(simp [errW_none,errW_some] <;> rfl)|(simp only [← hji4];first|rfl|(simp [errW_none,errW_some] <;> rfl))|(simp [*,errW_none,errW_some] <;> rfl),blA⟩
 ·
  rw [if_neg c7] at H
  have c7b0:((wrap64 ((wrap64 (a1_1*t756)) - (wrap64 (a2_1*t757)))) == 0)=false:=beq_eq_false_iff_ne.mpr c7
  have c7b1:((wrap64 ((wrap64 (a1_1*t756)) - (wrap64 (a2_1*t757)))) != 0)=true:=bne_iff_ne.mpr c7
  replace H:=bS H
  obtain ⟨t758,A13,H⟩:=H
  try dsimp only at H
  simp only [Option.some.injEq,Prod.mk.injEq] at H
  obtain ⟨rfl,rfl⟩:=H
  go_enter Try.func131,Try.ntmps131
  go_wp2_with (first|((with_reducible refine gate_dst (N:=4) rfl ?_);refine bxE (cs:=#[.int .i64 a1_0,.int .i64 a1_1,.int .i64 a1_2]) (t:=28) ?_;intro gb754 hg w14 hbox hb;have BK754:=Aside0.mk hbox;have GW754:=sA hg;have GE754:=sA hg;replace HB:=lB hb;clear hb hbox hg)|((with_reducible refine gate_dst (N:=5) rfl ?_);refine bxE (cs:=#[.int .i64 a2_0,.int .i64 a2_1,.int .i64 a2_2]) (t:=28) ?_;intro gb755 hg w15 hbox hb;have BK755:=Aside0.mk hbox;have GW755:=sA hg;have GE755:=sA hg;have NB754_755:=nA hg BK754;have NB755_754:=nB hg BK754;replace BK754:=kB BK754 hb;replace HB:=lB hb;clear hb hbox hg;have hnb16:=NB754_755.out;have hnc16:=NB755_754.out;obtain ⟨hcz17_0,hcz17_1,hcz17_2,hfz17_0,hfz17_1,hfz17_2⟩:=cz3 BK754;obtain ⟨hcz18_0,hcz18_1,hcz18_2,hfz18_0,hfz18_1,hfz18_2⟩:=cz3 BK755)|(go_at_call 94;(with_reducible refine (spec_l01Power.calls k a0 (wrap64 ((ji4) - a1_2)) t756 _ A5.out).mono ?_);rintro e w' ⟨rfl,⟨nd,rfl⟩⟩;(try exact dd))|(go_at_call 94;(with_reducible refine (spec_l01Power.calls k a0 (wrap64 ((ji4) - a2_2)) t757 _ A6.out).mono ?_);rintro e w' ⟨rfl,⟨nd,rfl⟩⟩;(try exact dd))|(go_at_call 95;(with_reducible refine (spec_l01Val.calls k a0 (wrap64 ((wrap64 (a1_1*t756)) - (wrap64 (a2_1*t757)))) t758 _ A13.out).mono ?_);rintro e w' ⟨rfl,⟨nd,rfl⟩⟩;(try exact dd)))
  repeat (go_quiet (first|((with_reducible refine gate_dst (N:=4) rfl ?_);refine bxE (cs:=#[.int .i64 a1_0,.int .i64 a1_1,.int .i64 a1_2]) (t:=28) ?_;intro gb754 hg w14 hbox hb;have BK754:=Aside0.mk hbox;have GW754:=sA hg;have GE754:=sA hg;replace HB:=lB hb;clear hb hbox hg)|((with_reducible refine gate_dst (N:=5) rfl ?_);refine bxE (cs:=#[.int .i64 a2_0,.int .i64 a2_1,.int .i64 a2_2]) (t:=28) ?_;intro gb755 hg w15 hbox hb;have BK755:=Aside0.mk hbox;have GW755:=sA hg;have GE755:=sA hg;have NB754_755:=nA hg BK754;have NB755_754:=nB hg BK754;replace BK754:=kB BK754 hb;replace HB:=lB hb;clear hb hbox hg;have hnb16:=NB754_755.out;have hnc16:=NB755_754.out;obtain ⟨hcz17_0,hcz17_1,hcz17_2,hfz17_0,hfz17_1,hfz17_2⟩:=cz3 BK754;obtain ⟨hcz18_0,hcz18_1,hcz18_2,hfz18_0,hfz18_1,hfz18_2⟩:=cz3 BK755)|(go_at_call 94;(with_reducible refine (spec_l01Power.calls k a0 (wrap64 ((ji4) - a1_2)) t756 _ A5.out).mono ?_);rintro e w' ⟨rfl,⟨nd,rfl⟩⟩;(try exact dd))|(go_at_call 94;(with_reducible refine (spec_l01Power.calls k a0 (wrap64 ((ji4) - a2_2)) t757 _ A6.out).mono ?_);rintro e w' ⟨rfl,⟨nd,rfl⟩⟩;(try exact dd))|(go_at_call 95;(with_reducible refine (spec_l01Val.calls k a0 (wrap64 ((wrap64 (a1_1*t756)) - (wrap64 (a2_1*t757)))) t758 _ A13.out).mono ?_);rintro e w' ⟨rfl,⟨nd,rfl⟩⟩;(try exact dd)));try go_wp2_with (first|((with_reducible refine gate_dst (N:=4) rfl ?_);refine bxE (cs:=#[.int .i64 a1_0,.int .i64 a1_1,.int .i64 a1_2]) (t:=28) ?_;intro gb754 hg w14 hbox hb;have BK754:=Aside0.mk hbox;have GW754:=sA hg;have GE754:=sA hg;replace HB:=lB hb;clear hb hbox hg)|((with_reducible refine gate_dst (N:=5) rfl ?_);refine bxE (cs:=#[.int .i64 a2_0,.int .i64 a2_1,.int .i64 a2_2]) (t:=28) ?_;intro gb755 hg w15 hbox hb;have BK755:=Aside0.mk hbox;have GW755:=sA hg;have GE755:=sA hg;have NB754_755:=nA hg BK754;have NB755_754:=nB hg BK754;replace BK754:=kB BK754 hb;replace HB:=lB hb;clear hb hbox hg;have hnb16:=NB754_755.out;have hnc16:=NB755_754.out;obtain ⟨hcz17_0,hcz17_1,hcz17_2,hfz17_0,hfz17_1,hfz17_2⟩:=cz3 BK754;obtain ⟨hcz18_0,hcz18_1,hcz18_2,hfz18_0,hfz18_1,hfz18_2⟩:=cz3 BK755)|(go_at_call 94;(with_reducible refine (spec_l01Power.calls k a0 (wrap64 ((ji4) - a1_2)) t756 _ A5.out).mono ?_);rintro e w' ⟨rfl,⟨nd,rfl⟩⟩;(try exact dd))|(go_at_call 94;(with_reducible refine (spec_l01Power.calls k a0 (wrap64 ((ji4) - a2_2)) t757 _ A6.out).mono ?_);rintro e w' ⟨rfl,⟨nd,rfl⟩⟩;(try exact dd))|(go_at_call 95;(with_reducible refine (spec_l01Val.calls k a0 (wrap64 ((wrap64 (a1_1*t756)) - (wrap64 (a2_1*t757)))) t758 _ A13.out).mono ?_);rintro e w' ⟨rfl,⟨nd,rfl⟩⟩;(try exact dd))))
  go_ret2
  exact ⟨by first|rfl|(simp [errW_none,errW_some] <;> rfl)|(simp only [← hji4];first|rfl|(simp [errW_none,errW_some] <;> rfl))|(simp [*,errW_none,errW_some] <;> rfl),blA⟩
def impl_lengthOf.f (k:Nat) (a0 a1_0 a1_1 a1_2 a1_3:Int):Option (Int × Int):=(impl_determinant.f a1_0 a1_1 a1_2 a1_3).bind fun t790=>((impl_valuation.f k a0 t790).bind fun t791=>((impl_valuation.f k a0 (wrap64 (a1_0+a1_3))).bind fun t792=>(if (wrap64 (2*t792))<t791 then (some (wrap64 (t791 - (wrap64 (2*t792))),2)) else (if (Int.tmod t791 2)=0 then (some (0,0)) else (some (0,1))))))
theorem impl_lengthOf.mono:∀ a0 a1 a2 a3 a4 k,LeO (impl_lengthOf.f k a0 a1 a2 a3 a4) (impl_lengthOf.f (k+1) a0 a1 a2 a3 a4):=by
 intro a0 a1 a2 a3 a4 k
 unfold impl_lengthOf.f
 repeat' first
   | with_reducible first|exact impl_valuation.mono ..|exact LeO.refl _|exact LeO.none _|refine LeO.ite ?_ ?_|refine LeO.bind ?_ fun _=>?_
def impl_lengthOf.T1:Bool × List (List Nat × List Nat):=(true,[([],[]),([],[]),([1],[1]),([0,2,2],[0,2]),([],[]),([],[]),([5],[5]),([6],[6]),([],[]),([8],[8]),([9],[9]),([7,10],[7,10]),([4,11,3],[4,11]),([3,12,0,1,2,3],[3]),([12,13,0,1,2,3,4,5,6,7,8,9,10,11,12,13],[12])])
def impl_lengthOf.B1:List Nat:=[0,0,2,7,0,0,32,96,0,256,768,2016,4095,8191,16383]
theorem impl_lengthOf.tab1:rtab .any (opsOf Try.f79 1)=impl_lengthOf.T1:=by kernel_rfl
theorem impl_lengthOf.bits1:waitsOk impl_lengthOf.T1.2 impl_lengthOf.B1=true:=by kernel_rfl
set_option maxHeartbeats 8000000 in
set_option maxRecDepth 100000 in
theorem impl_lengthOf.calls (k:Nat) (a0 a1_0 a1_1 a1_2 a1_3 r1 r2:Int) (w:World) (h:impl_lengthOf.f k a0 a1_0 a1_1 a1_2 a1_3=some (r1,r2)) :
  Calls Try.prog 79 #[.int .i64 a0,.agg #[.int .i64 a1_0,.int .i64 a1_1,.int .i64 a1_2,.int .i64 a1_3]] w fun e w'=>e=.returned (.tuple #[.int .i64 r1,.int .i64 r2])∧Below w.heap.size w w':=by
 have hu26:=Try.underlying26
 have HB:=Aside0.mk (Below.refl w.heap.size w)
 have H:=h
 unfold impl_lengthOf.f at H
 clear h
 replace H:=bS H
 obtain ⟨t790,A3,H⟩:=H
 try dsimp only at H
 replace H:=bS H
 obtain ⟨t791,A4,H⟩:=H
 try dsimp only at H
 replace H:=bS H
 obtain ⟨t792,A5,H⟩:=H
 try dsimp only at H
 by_cases c6:(wrap64 (2*t792))<t791
 focus
  rw [if_pos c6] at H
  have c6b0:=decide_eq_true c6
  clear c6
  simp only [Option.some.injEq,Prod.mk.injEq] at H
  obtain ⟨rfl,rfl⟩:=H
 rotate_left
 focus
  rw [if_neg c6] at H
  have c6b0:=decide_eq_false c6
  clear c6
  by_cases c10:(Int.tmod t791 2)=0
  focus
   rw [if_pos c10] at H
   have c10b0:((Int.tmod t791 2) == 0)=true:=beq_iff_eq.mpr c10
   have c10b1:((Int.tmod t791 2) != 0)=false:=bne_eq_false_iff_eq.mpr c10
   clear c10
   simp only [Option.some.injEq,Prod.mk.injEq] at H
   obtain ⟨rfl,rfl⟩:=H
  rotate_left
  focus
   rw [if_neg c10] at H
   have c10b0:((Int.tmod t791 2) == 0)=false:=beq_eq_false_iff_ne.mpr c10
   have c10b1:((Int.tmod t791 2) != 0)=true:=bne_iff_ne.mpr c10
   simp only [Option.some.injEq,Prod.mk.injEq] at H
   obtain ⟨rfl,rfl⟩:=H
  rotate_left
 rotate_left 2
 all_goals
  go_enter Try.func79,Try.ntmps79
  try go_wp2_with (first|((with_reducible refine gate_dst (N:=3) rfl ?_);refine bxE (cs:=#[.int .i64 a1_0,.int .i64 a1_1,.int .i64 a1_2,.int .i64 a1_3]) (t:=26) ?_;intro gb789 hg w7 hbox hb;have n0_:=lB hb;have n1_:=Aside0.mk hbox;have n2_:=sA hg;have n3_:=sA hg;clear HB;have HB:=n0_;have BK789:=n1_;have GW789:=n2_;have GE789:=n3_;clear n0_ n1_ n2_ n3_;clear hb hbox hg))
  have n0_:=Aside0.mk (blk_drew BK789.out)
  have n1_:=Aside0.mk (below_drew1 HB.out)
  clear BK789
  clear HB
  have BK789:=n0_
  have HB:=n1_
  clear n0_ n1_
  refine start_ (n:=15) (S:=fun w'=>w'.cell? ⟨gb789,0,none⟩=some (.int .i64 a1_0)∧w'.cell? ⟨gb789,1,none⟩=some (.int .i64 a1_1)∧w'.cell? ⟨gb789,2,none⟩=some (.int .i64 a1_2)∧w'.cell? ⟨gb789,3,none⟩=some (.int .i64 a1_3)) (ds:=[]) #[Z,Z,Z,Z,Z,Z,Z,Z,Z,Z,Z,Z,Z,Z,Z] (by kernel_rfl) rfl rfl ⟨cA BK789 0,cA BK789 1,cA BK789 2,cA BK789 3⟩ (fun hHeld=>?_);refine with_tabW impl_lengthOf.tab1 impl_lengthOf.bits1 (fun HT_ HW_=>?_)
  generalize w7.drew=w8 at BK789 HB hHeld ⊢
  refine puA (i:=0) (N:=some 8) #[Y,Z,Z,Z,Z,Z,Z,Z,Z,Z,Z,Z,Z,Z,Z] rfl rfl HT_ ?_
  refine puA (i:=4) (N:=some 12) #[Y,Z,Z,Z,Y,Z,Z,Z,Z,Z,Z,Z,Z,Z,Z] rfl rfl HT_ ?_
  refine puA (i:=5) (N:=some 13) #[Y,Z,Z,Z,Y,Y,Z,Z,Z,Z,Z,Z,Z,Z,Z] rfl rfl HT_ ?_
  refine puA (i:=6) (N:=some 14) #[Y,Z,Z,Z,Y,Y,Y,Z,Z,Z,Z,Z,Z,Z,Z] rfl rfl HT_ ?_
  refine puA (i:=8) (N:=some 16) #[Y,Z,Z,Z,Y,Y,Y,Z,Y,Z,Z,Z,Z,Z,Z] rfl rfl HT_ ?_
  refine puA (i:=9) (N:=some 17) #[Y,Z,Z,Z,Y,Y,Y,Z,Y,Y,Z,Z,Z,Z,Z] rfl rfl HT_ ?_
  refine taA (i:=1) (N:=some 9) #[Y,Y,Z,Z,Y,Y,Y,Z,Y,Y,Z,Z,Z,Z,Z] rfl rfl HT_ HW_ hHeld ?_
  refine taA (i:=7) (N:=some 15) #[Y,Y,Z,Z,Y,Y,Y,Y,Y,Y,Z,Z,Z,Z,Z] rfl rfl HT_ HW_ hHeld ?_
  refine taA (i:=10) (N:=some 18) #[Y,Y,Z,Z,Y,Y,Y,Y,Y,Y,Y,Z,Z,Z,Z] rfl rfl HT_ HW_ hHeld ?_
  refine puA (i:=11) (N:=some 19) #[Y,Y,Z,Z,Y,Y,Y,Y,Y,Y,Y,Y,Z,Z,Z] rfl rfl HT_ ?_
  refine one_ (i:=2) (N:=some 10) #[Y,Y,Y,Z,Y,Y,Y,Y,Y,Y,Y,Y,Z,Z,Z] rfl rfl (one_of HT_.out (by kernel_rfl)) (by decide) (fun K hK=>?_)
  refine goC Try.func89 (impl_determinant.calls (w:=_) (h:=A3.out)) ?_
  intro w9 hb
  replace BK789:=kB BK789 hb
  replace HB:=lB hb
  (try clear hb)
  (try clear hb2)
  (try clear hk)
  (try clear hi)
  refine hK.out _ _ ⟨cA BK789 0,cA BK789 1,cA BK789 2,cA BK789 3⟩ (fun hHeld=>?_)
  clear hK K
  refine nmA ?_
  refine one_ (i:=3) (N:=some 11) #[Y,Y,Y,Y,Y,Y,Y,Y,Y,Y,Y,Y,Z,Z,Z] rfl rfl (one_of HT_.out (by kernel_rfl)) (by decide) (fun K hK=>?_)
  refine goC Try.func91 (impl_valuation.calls (w:=_) (h:=A4.out)) ?_
  rintro _ ⟨nd,rfl⟩
  refine hK.out _ _ ⟨cA BK789 0,cA BK789 1,cA BK789 2,cA BK789 3⟩ (fun hHeld=>?_)
  clear hK K
  refine nmA ?_
  refine one_ (i:=12) (N:=some 20) #[Y,Y,Y,Y,Y,Y,Y,Y,Y,Y,Y,Y,Y,Z,Z] rfl rfl (one_of HT_.out (by kernel_rfl)) (by decide) (fun K hK=>?_)
  refine goC Try.func91 (impl_valuation.calls (w:=_) (h:=A5.out)) ?_
  rintro _ ⟨nd,rfl⟩
  refine hK.out _ _ ⟨cA BK789 0,cA BK789 1,cA BK789 2,cA BK789 3⟩ (fun hHeld=>?_)
  clear hK K
  refine nmA ?_
  refine puA (i:=13) (N:=some 6) #[Y,Y,Y,Y,Y,Y,Y,Y,Y,Y,Y,Y,Y,Y,Z] rfl rfl HT_ ?_
  refine puA (i:=14) (N:=some 7) #[Y,Y,Y,Y,Y,Y,Y,Y,Y,Y,Y,Y,Y,Y,Y] rfl rfl HT_ ?_
  refine done_ (done_of HT_.out (by kernel_rfl)) ?_
 ·
  try go_wp2
  go_ret2
  exact finA blA
 rotate_left 2
 all_goals
  try go_wp2
 ·
  go_ret2
  exact finA blA
 ·
  go_ret2
  exact finA blA
def spec_l04Kind.f (k:Nat) (a0 a1_0 a1_1 a1_2 a1_3:Int):Option (Int × Int):=(spec_l04Det.f a1_0 a1_1 a1_2 a1_3).bind fun t799=>((spec_l01Val.f k a0 t799).bind fun t800=>(if (wrap64 (a1_0+a1_3))=0 then (some (Int.tmod t800 2,0)) else ((spec_l01Val.f k a0 (wrap64 (a1_0+a1_3))).bind fun t801=>(if (wrap64 (2*t801))<t800 then ((spec_l01Val.f k a0 (wrap64 (a1_0+a1_3))).bind fun t802=>(some (2,wrap64 (t800 - (wrap64 (2*t802)))))) else (some (Int.tmod t800 2,0))))))
theorem spec_l04Kind.mono:∀ a0 a1 a2 a3 a4 k,LeO (spec_l04Kind.f k a0 a1 a2 a3 a4) (spec_l04Kind.f (k+1) a0 a1 a2 a3 a4):=by
 intro a0 a1 a2 a3 a4 k
 unfold spec_l04Kind.f
 repeat' first
   | with_reducible first|exact spec_l01Val.mono ..|exact LeO.refl _|exact LeO.none _|refine LeO.ite ?_ ?_|refine LeO.bind ?_ fun _=>?_
def spec_l04Kind.T1:Bool × List (List Nat × List Nat):=(true,[([],[]),([],[]),([1],[1]),([0,2,2],[0,2]),([],[]),([4],[4]),([5],[5]),([],[]),([7],[7]),([8],[8]),([6,9],[6,9]),([3,3,0,1,2,3],[3]),([10,11,0,1,2,3,4,5,6,7,8,9,10,11],[10])])
def spec_l04Kind.B1:List Nat:=[0,0,2,7,0,16,48,0,128,384,1008,15,4095]
theorem spec_l04Kind.tab1:rtab .any (opsOf Try.f80 1)=spec_l04Kind.T1:=by kernel_rfl
theorem spec_l04Kind.bits1:waitsOk spec_l04Kind.T1.2 spec_l04Kind.B1=true:=by kernel_rfl
set_option maxHeartbeats 8000000 in
set_option maxRecDepth 100000 in
theorem spec_l04Kind.calls (k:Nat) (a0 a1_0 a1_1 a1_2 a1_3 r1 r2:Int) (w:World) (h:spec_l04Kind.f k a0 a1_0 a1_1 a1_2 a1_3=some (r1,r2)) :
  Calls Try.prog 80 #[.int .i64 a0,.agg #[.int .i64 a1_0,.int .i64 a1_1,.int .i64 a1_2,.int .i64 a1_3]] w fun e w'=>e=.returned (.tuple #[.int .i64 r1,.int .i64 r2])∧Below w.heap.size w w':=by
 have hu26:=Try.underlying26
 have HB:=Aside0.mk (Below.refl w.heap.size w)
 have H:=h
 unfold spec_l04Kind.f at H
 clear h
 replace H:=bS H
 obtain ⟨t799,A3,H⟩:=H
 try dsimp only at H
 replace H:=bS H
 obtain ⟨t800,A4,H⟩:=H
 try dsimp only at H
 by_cases c5:(wrap64 (a1_0+a1_3))=0
 focus
  rw [if_pos c5] at H
  have c5b0:((wrap64 (a1_0+a1_3)) == 0)=true:=beq_iff_eq.mpr c5
  have c5b1:((wrap64 (a1_0+a1_3)) != 0)=false:=bne_eq_false_iff_eq.mpr c5
  clear c5
  simp only [Option.some.injEq,Prod.mk.injEq] at H
  obtain ⟨rfl,rfl⟩:=H
 rotate_left
 focus
  rw [if_neg c5] at H
  have c5b0:((wrap64 (a1_0+a1_3)) == 0)=false:=beq_eq_false_iff_ne.mpr c5
  have c5b1:((wrap64 (a1_0+a1_3)) != 0)=true:=bne_iff_ne.mpr c5
  replace H:=bS H
  obtain ⟨t801,A9,H⟩:=H
  try dsimp only at H
  by_cases c10:(wrap64 (2*t801))<t800
  focus
   rw [if_pos c10] at H
   have c10b0:=decide_eq_true c10
   clear c10
   replace H:=bS H
   obtain ⟨t802,A11,H⟩:=H
   try dsimp only at H
   simp only [Option.some.injEq,Prod.mk.injEq] at H
   obtain ⟨rfl,rfl⟩:=H
  rotate_left
  focus
   rw [if_neg c10] at H
   have c10b0:=decide_eq_false c10
   clear c10
   simp only [Option.some.injEq,Prod.mk.injEq] at H
   obtain ⟨rfl,rfl⟩:=H
  rotate_left
 rotate_left 2
 all_goals
  go_enter Try.func80,Try.ntmps80
  try go_wp2_with (first|((with_reducible refine gate_dst (N:=3) rfl ?_);refine bxE (cs:=#[.int .i64 a1_0,.int .i64 a1_1,.int .i64 a1_2,.int .i64 a1_3]) (t:=26) ?_;intro gb798 hg w6 hbox hb;have n0_:=lB hb;have n1_:=Aside0.mk hbox;have n2_:=sA hg;have n3_:=sA hg;clear HB;have HB:=n0_;have BK798:=n1_;have GW798:=n2_;have GE798:=n3_;clear n0_ n1_ n2_ n3_;clear hb hbox hg))
  have n0_:=Aside0.mk (blk_drew BK798.out)
  have n1_:=Aside0.mk (below_drew1 HB.out)
  clear BK798
  clear HB
  have BK798:=n0_
  have HB:=n1_
  clear n0_ n1_
  refine start_ (n:=13) (S:=fun w'=>w'.cell? ⟨gb798,0,none⟩=some (.int .i64 a1_0)∧w'.cell? ⟨gb798,1,none⟩=some (.int .i64 a1_1)∧w'.cell? ⟨gb798,2,none⟩=some (.int .i64 a1_2)∧w'.cell? ⟨gb798,3,none⟩=some (.int .i64 a1_3)) (ds:=[]) #[Z,Z,Z,Z,Z,Z,Z,Z,Z,Z,Z,Z,Z] (by kernel_rfl) rfl rfl ⟨cA BK798 0,cA BK798 1,cA BK798 2,cA BK798 3⟩ (fun hHeld=>?_);refine with_tabW spec_l04Kind.tab1 spec_l04Kind.bits1 (fun HT_ HW_=>?_)
  generalize w6.drew=w7 at BK798 HB hHeld ⊢
  refine puA (i:=0) (N:=some 8) #[Y,Z,Z,Z,Z,Z,Z,Z,Z,Z,Z,Z,Z] rfl rfl HT_ ?_
  refine puA (i:=4) (N:=some 12) #[Y,Z,Z,Z,Y,Z,Z,Z,Z,Z,Z,Z,Z] rfl rfl HT_ ?_
  refine puA (i:=5) (N:=some 13) #[Y,Z,Z,Z,Y,Y,Z,Z,Z,Z,Z,Z,Z] rfl rfl HT_ ?_
  refine puA (i:=7) (N:=some 15) #[Y,Z,Z,Z,Y,Y,Z,Y,Z,Z,Z,Z,Z] rfl rfl HT_ ?_
  refine puA (i:=8) (N:=some 16) #[Y,Z,Z,Z,Y,Y,Z,Y,Y,Z,Z,Z,Z] rfl rfl HT_ ?_
  refine taA (i:=1) (N:=some 9) #[Y,Y,Z,Z,Y,Y,Z,Y,Y,Z,Z,Z,Z] rfl rfl HT_ HW_ hHeld ?_
  refine taA (i:=6) (N:=some 14) #[Y,Y,Z,Z,Y,Y,Y,Y,Y,Z,Z,Z,Z] rfl rfl HT_ HW_ hHeld ?_
  refine taA (i:=9) (N:=some 17) #[Y,Y,Z,Z,Y,Y,Y,Y,Y,Y,Z,Z,Z] rfl rfl HT_ HW_ hHeld ?_
  refine puA (i:=10) (N:=some 18) #[Y,Y,Z,Z,Y,Y,Y,Y,Y,Y,Y,Z,Z] rfl rfl HT_ ?_
  refine one_ (i:=2) (N:=some 10) #[Y,Y,Y,Z,Y,Y,Y,Y,Y,Y,Y,Z,Z] rfl rfl (one_of HT_.out (by kernel_rfl)) (by decide) (fun K hK=>?_)
  refine goC Try.func96 (spec_l04Det.calls (w:=_) (h:=A3.out)) ?_
  intro w8 hb
  replace BK798:=kB BK798 hb
  replace HB:=lB hb
  (try clear hb)
  (try clear hb2)
  (try clear hk)
  (try clear hi)
  refine hK.out _ _ ⟨cA BK798 0,cA BK798 1,cA BK798 2,cA BK798 3⟩ (fun hHeld=>?_)
  clear hK K
  refine nmA ?_
  refine one_ (i:=3) (N:=some 11) #[Y,Y,Y,Y,Y,Y,Y,Y,Y,Y,Y,Z,Z] rfl rfl (one_of HT_.out (by kernel_rfl)) (by decide) (fun K hK=>?_)
  refine goC Try.func95 (spec_l01Val.calls (w:=_) (h:=A4.out)) ?_
  rintro _ ⟨nd,rfl⟩
  refine hK.out _ _ ⟨cA BK798 0,cA BK798 1,cA BK798 2,cA BK798 3⟩ (fun hHeld=>?_)
  clear hK K
  refine nmA ?_
  refine puA (i:=11) (N:=some 6) #[Y,Y,Y,Y,Y,Y,Y,Y,Y,Y,Y,Y,Z] rfl rfl HT_ ?_
  refine puA (i:=12) (N:=some 7) #[Y,Y,Y,Y,Y,Y,Y,Y,Y,Y,Y,Y,Y] rfl rfl HT_ ?_
  refine done_ (done_of HT_.out (by kernel_rfl)) ?_
 ·
  try go_wp2
  go_ret2
  exact finA blA
 rotate_left 2
 all_goals
  try go_wp2_with (first|(go_at_call 95;(with_reducible refine (spec_l01Val.calls k a0 (wrap64 (a1_0+a1_3)) t801 _ A9.out).mono ?_);rintro e w' ⟨rfl,⟨nd,rfl⟩⟩)|((with_reducible refine gd 32 rfl ?_);refine gC (some 32) rfl Try.func95 (spec_l01Val.calls (w:=_) (h:=A11.out)) ?_;rintro _ ⟨nd,rfl⟩))
 ·
  go_ret2
  exact finA blA
 ·
  go_ret2
  exact finA blA
def spec_l02Join.f (k:Nat) (a0 a1_0 a1_1 a1_2 a2_0 a2_1 a2_2:Int):Option (Int):=(spec_l02Valuation.f k a0 a1_0 a1_1 a1_2 a2_0 a2_1 a2_2).bind fun bt761=>(if bt761.2=true then (some (mn (mn a1_0 a2_0) bt761.1)) else (some (mn a1_0 a2_0)))
theorem spec_l02Join.mono:∀ a0 a1 a2 a3 a4 a5 a6 k,LeO (spec_l02Join.f k a0 a1 a2 a3 a4 a5 a6) (spec_l02Join.f (k+1) a0 a1 a2 a3 a4 a5 a6):=by
 intro a0 a1 a2 a3 a4 a5 a6 k
 unfold spec_l02Join.f
 repeat' first
   | with_reducible first|exact spec_l02Valuation.mono ..|exact LeO.refl _|exact LeO.none _|refine LeO.ite ?_ ?_|refine LeO.bind ?_ fun _=>?_
set_option maxHeartbeats 8000000 in
set_option maxRecDepth 100000 in
theorem spec_l02Join.calls (k:Nat) (a0 a1_0 a1_1 a1_2 a2_0 a2_1 a2_2 r:Int) (w:World) (h:spec_l02Join.f k a0 a1_0 a1_1 a1_2 a2_0 a2_1 a2_2=some r) :
  Calls Try.prog 117 #[.int .i64 a0,.agg #[.int .i64 a1_0,.int .i64 a1_1,.int .i64 a1_2],.agg #[.int .i64 a2_0,.int .i64 a2_1,.int .i64 a2_2]] w fun e w'=>e=.returned (.int .i64 r)∧Below w.heap.size w w':=by
 have hu28:=Try.underlying28
 have HB:=Aside0.mk (Below.refl w.heap.size w)
 have H:=h
 unfold spec_l02Join.f at H
 clear h
 obtain ⟨ji4,hji4⟩:∃ j_:Int,(mn a1_0 a2_0)=j_:=⟨_,rfl⟩
 replace H:((spec_l02Valuation.f k a0 a1_0 a1_1 a1_2 a2_0 a2_1 a2_2).bind fun bt761=>(if bt761.2=true then (some (mn (ji4) bt761.1)) else (some ji4)))=some r:=by first|(rw [hji4] at H;exact H)|(simp only [hji4] at H ⊢;exact H)
 have hji4_:(if a2_0<a1_0 then a2_0 else a1_0)=ji4:=hji4
 replace H:=bS H
 obtain ⟨⟨t761,t762⟩,A5,H⟩:=H
 try dsimp only at H
 by_cases c6:t762=true
 focus
  subst c6
  rw [if_pos rfl] at H
  try dsimp only at H
  obtain ⟨ji7,hji7⟩:∃ j_:Int,(mn (ji4) t761)=j_:=⟨_,rfl⟩
  replace H:(some ji7)=some r:=by first|(rw [hji7] at H;exact H)|(simp only [hji7] at H ⊢;exact H)
  (try rw [hji7] at A5)
  have hji7_:(if t761<(ji4) then t761 else (ji4))=ji7:=hji7
  obtain rfl:=Option.some.inj H
 rotate_left
 focus
  replace c6:=Bool.eq_false_iff.mpr c6
  subst c6
  rw [if_neg (show ¬ (false=true) by decide)] at H
  try dsimp only at H
  obtain rfl:=Option.some.inj H
 rotate_left
 all_goals
  go_enter Try.func117,Try.ntmps117
  go_wp2_with (first|((with_reducible refine gate_dst (N:=4) rfl ?_);refine bxE (cs:=#[.int .i64 a1_0,.int .i64 a1_1,.int .i64 a1_2]) (t:=28) ?_;intro gb759 hg w8 hbox hb;have BK759:=Aside0.mk hbox;have GW759:=sA hg;have GE759:=sA hg;replace HB:=lB hb;clear hb hbox hg)|((with_reducible refine gate_dst (N:=5) rfl ?_);refine bxE (cs:=#[.int .i64 a2_0,.int .i64 a2_1,.int .i64 a2_2]) (t:=28) ?_;intro gb760 hg w9 hbox hb;have BK760:=Aside0.mk hbox;have GW760:=sA hg;have GE760:=sA hg;have NB759_760:=nA hg BK759;have NB760_759:=nB hg BK759;replace BK759:=kB BK759 hb;replace HB:=lB hb;clear hb hbox hg;have hnb10:=NB759_760.out;have hnc10:=NB760_759.out;obtain ⟨hcz11_0,hcz11_1,hcz11_2,hfz11_0,hfz11_1,hfz11_2⟩:=cz3 BK759;obtain ⟨hcz12_0,hcz12_1,hcz12_2,hfz12_0,hfz12_1,hfz12_2⟩:=cz3 BK760)|((with_reducible refine gd 19 rfl ?_);refine gC (some 19) rfl Try.func131 (spec_l02Valuation.calls (w:=_) (h:=A5.out)) ?_;intro w13 hb;replace BK759:=kB BK759 hb;replace BK760:=kB BK760 hb;replace HB:=lB hb;clear hb))
 ·
  go_ret
  exact ⟨by first|rfl|(simp [errW_none,errW_some] <;> rfl)|(simp only [← hji4,← hji7];first|rfl|(simp [errW_none,errW_some] <;> rfl))|(simp [*,errW_none,errW_some] <;> rfl),blA⟩
 ·
  go_ret
  exact ⟨by first|rfl|(simp [errW_none,errW_some] <;> rfl)|(simp only [← hji4];first|rfl|(simp [errW_none,errW_some] <;> rfl))|(simp [*,errW_none,errW_some] <;> rfl),blA⟩
def impl_LengthOf.f (k:Nat) (a0 a1_0 a1_1 a1_2 a1_3:Int):Option (Int × Int):=(impl_isPrime.f a0).bind fun t794=>(if t794=true then ((impl_IsMatrix.f k a1_0 a1_1 a1_2 a1_3).bind fun t795=>(if t795=true then ((impl_lengthOf.f k a0 a1_0 a1_1 a1_2 a1_3).bind fun bt796=>(some (bt796.1,0))) else (some (0,1)))) else (some (0,1)))
theorem impl_LengthOf.mono:∀ a0 a1 a2 a3 a4 k,LeO (impl_LengthOf.f k a0 a1 a2 a3 a4) (impl_LengthOf.f (k+1) a0 a1 a2 a3 a4):=by
 intro a0 a1 a2 a3 a4 k
 unfold impl_LengthOf.f
 repeat' first
   | with_reducible first|exact impl_IsMatrix.mono ..|exact impl_lengthOf.mono ..|exact LeO.refl _|exact LeO.none _|refine LeO.ite ?_ ?_|refine LeO.bind ?_ fun _=>?_
set_option maxHeartbeats 8000000 in
set_option maxRecDepth 100000 in
theorem impl_LengthOf.calls (k:Nat) (a0 a1_0 a1_1 a1_2 a1_3 r1 r2:Int) (w:World) (h:impl_LengthOf.f k a0 a1_0 a1_1 a1_2 a1_3=some (r1,r2)) :
  Calls Try.prog 31 #[.int .i64 a0,.agg #[.int .i64 a1_0,.int .i64 a1_1,.int .i64 a1_2,.int .i64 a1_3]] w fun e w'=>e=.returned (.tuple #[.int .i64 r1,.int .i64 r2])∧Below w.heap.size w w':=by
 have hu26:=Try.underlying26
 have HB:=Aside0.mk (Below.refl w.heap.size w)
 have H:=h
 unfold impl_LengthOf.f at H
 clear h
 replace H:=bS H
 obtain ⟨t794,A3,H⟩:=H
 try dsimp only at H
 by_cases c4:t794=true
 ·
  subst c4
  rw [if_pos rfl] at H
  try dsimp only at H
  replace H:=bS H
  obtain ⟨t795,A5,H⟩:=H
  try dsimp only at H
  by_cases c6:t795=true
  ·
   subst c6
   rw [if_pos rfl] at H
   try dsimp only at H
   replace H:=bS H
   obtain ⟨⟨t796,t797⟩,A7,H⟩:=H
   try dsimp only at H
   simp only [Option.some.injEq,Prod.mk.injEq] at H
   obtain ⟨rfl,rfl⟩:=H
   go_enter Try.func31,Try.ntmps31
   go_wp2_with (first|((with_reducible refine gate_dst (N:=3) rfl ?_);refine bxE (cs:=#[.int .i64 a1_0,.int .i64 a1_1,.int .i64 a1_2,.int .i64 a1_3]) (t:=26) ?_;intro gb793 hg w8 hbox hb;have BK793:=Aside0.mk hbox;have GW793:=sA hg;have GE793:=sA hg;replace HB:=lB hb;clear hb hbox hg)|((with_reducible refine gd 9 rfl ?_);refine gC (some 9) rfl Try.func57 (impl_isPrime.calls (w:=_) (h:=A3.out)) ?_;rintro _ ⟨nd,rfl⟩;obtain ⟨hcz9_0,hcz9_1,hcz9_2,hcz9_3,hfz9_0,hfz9_1,hfz9_2,hfz9_3⟩:=cz4 BK793)|(go_at_call 42;(with_reducible refine (impl_IsMatrix.calls k a1_0 a1_1 a1_2 a1_3 true _ A5.out).mono ?_);rintro e w10 ⟨rfl,hb⟩;replace BK793:=kB BK793 hb;replace HB:=lB hb;clear hb;obtain ⟨hcz11_0,hcz11_1,hcz11_2,hcz11_3,hfz11_0,hfz11_1,hfz11_2,hfz11_3⟩:=cz4 BK793)|((with_reducible refine gd 19 rfl ?_);refine gC (some 19) rfl Try.func79 (impl_lengthOf.calls (w:=_) (h:=A7.out)) ?_;intro w12 hb;replace BK793:=kB BK793 hb;replace HB:=lB hb;clear hb))
   go_ret2
   exact finA blA
  ·
   replace c6:=Bool.eq_false_iff.mpr c6
   subst c6
   rw [if_neg (show ¬ (false=true) by decide)] at H
   try dsimp only at H
   simp only [Option.some.injEq,Prod.mk.injEq] at H
   obtain ⟨rfl,rfl⟩:=H
   go_enter Try.func31,Try.ntmps31
   go_wp2_with (first|((with_reducible refine gate_dst (N:=3) rfl ?_);refine bxE (cs:=#[.int .i64 a1_0,.int .i64 a1_1,.int .i64 a1_2,.int .i64 a1_3]) (t:=26) ?_;intro gb793 hg w13 hbox hb;have BK793:=Aside0.mk hbox;have GW793:=sA hg;have GE793:=sA hg;replace HB:=lB hb;clear hb hbox hg)|((with_reducible refine gd 9 rfl ?_);refine gC (some 9) rfl Try.func57 (impl_isPrime.calls (w:=_) (h:=A3.out)) ?_;rintro _ ⟨nd,rfl⟩;obtain ⟨hcz14_0,hcz14_1,hcz14_2,hcz14_3,hfz14_0,hfz14_1,hfz14_2,hfz14_3⟩:=cz4 BK793)|(go_at_call 42;(with_reducible refine (impl_IsMatrix.calls k a1_0 a1_1 a1_2 a1_3 false _ A5.out).mono ?_);rintro e w15 ⟨rfl,hb⟩;replace BK793:=kB BK793 hb;replace HB:=lB hb;clear hb))
   go_ret2
   exact finA blA
 ·
  replace c4:=Bool.eq_false_iff.mpr c4
  subst c4
  rw [if_neg (show ¬ (false=true) by decide)] at H
  try dsimp only at H
  simp only [Option.some.injEq,Prod.mk.injEq] at H
  obtain ⟨rfl,rfl⟩:=H
  go_enter Try.func31,Try.ntmps31
  go_wp2_with (first|((with_reducible refine gate_dst (N:=3) rfl ?_);refine bxE (cs:=#[.int .i64 a1_0,.int .i64 a1_1,.int .i64 a1_2,.int .i64 a1_3]) (t:=26) ?_;intro gb793 hg w16 hbox hb;have BK793:=Aside0.mk hbox;have GW793:=sA hg;have GE793:=sA hg;replace HB:=lB hb;clear hb hbox hg)|((with_reducible refine gd 9 rfl ?_);refine gC (some 9) rfl Try.func57 (impl_isPrime.calls (w:=_) (h:=A3.out)) ?_;rintro _ ⟨nd,rfl⟩))
  go_ret2
  exact finA blA
def impl_KindOf.f (k:Nat) (a0 a1_0 a1_1 a1_2 a1_3:Int):Option (Int × Int):=(impl_isPrime.f a0).bind fun t808=>(if t808=true then ((impl_IsMatrix.f k a1_0 a1_1 a1_2 a1_3).bind fun t809=>(if t809=true then ((impl_lengthOf.f k a0 a1_0 a1_1 a1_2 a1_3).bind fun bt810=>(some (bt810.2,0))) else (some (0,1)))) else (some (0,1)))
theorem impl_KindOf.mono:∀ a0 a1 a2 a3 a4 k,LeO (impl_KindOf.f k a0 a1 a2 a3 a4) (impl_KindOf.f (k+1) a0 a1 a2 a3 a4):=by
 intro a0 a1 a2 a3 a4 k
 unfold impl_KindOf.f
 repeat' first
   | with_reducible first|exact impl_IsMatrix.mono ..|exact impl_lengthOf.mono ..|exact LeO.refl _|exact LeO.none _|refine LeO.ite ?_ ?_|refine LeO.bind ?_ fun _=>?_
set_option maxHeartbeats 8000000 in
set_option maxRecDepth 100000 in
theorem impl_KindOf.calls (k:Nat) (a0 a1_0 a1_1 a1_2 a1_3 r1 r2:Int) (w:World) (h:impl_KindOf.f k a0 a1_0 a1_1 a1_2 a1_3=some (r1,r2)) :
  Calls Try.prog 33 #[.int .i64 a0,.agg #[.int .i64 a1_0,.int .i64 a1_1,.int .i64 a1_2,.int .i64 a1_3]] w fun e w'=>e=.returned (.tuple #[.int .i64 r1,.int .i64 r2])∧Below w.heap.size w w':=by
 have hu26:=Try.underlying26
 have HB:=Aside0.mk (Below.refl w.heap.size w)
 have H:=h
 unfold impl_KindOf.f at H
 clear h
 replace H:=bS H
 obtain ⟨t808,A3,H⟩:=H
 try dsimp only at H
 by_cases c4:t808=true
 ·
  subst c4
  rw [if_pos rfl] at H
  try dsimp only at H
  replace H:=bS H
  obtain ⟨t809,A5,H⟩:=H
  try dsimp only at H
  by_cases c6:t809=true
  ·
   subst c6
   rw [if_pos rfl] at H
   try dsimp only at H
   replace H:=bS H
   obtain ⟨⟨t810,t811⟩,A7,H⟩:=H
   try dsimp only at H
   simp only [Option.some.injEq,Prod.mk.injEq] at H
   obtain ⟨rfl,rfl⟩:=H
   go_enter Try.func33,Try.ntmps33
   go_wp2_with (first|((with_reducible refine gate_dst (N:=3) rfl ?_);refine bxE (cs:=#[.int .i64 a1_0,.int .i64 a1_1,.int .i64 a1_2,.int .i64 a1_3]) (t:=26) ?_;intro gb807 hg w8 hbox hb;have BK807:=Aside0.mk hbox;have GW807:=sA hg;have GE807:=sA hg;replace HB:=lB hb;clear hb hbox hg)|((with_reducible refine gd 9 rfl ?_);refine gC (some 9) rfl Try.func57 (impl_isPrime.calls (w:=_) (h:=A3.out)) ?_;rintro _ ⟨nd,rfl⟩;obtain ⟨hcz9_0,hcz9_1,hcz9_2,hcz9_3,hfz9_0,hfz9_1,hfz9_2,hfz9_3⟩:=cz4 BK807)|(go_at_call 42;(with_reducible refine (impl_IsMatrix.calls k a1_0 a1_1 a1_2 a1_3 true _ A5.out).mono ?_);rintro e w10 ⟨rfl,hb⟩;replace BK807:=kB BK807 hb;replace HB:=lB hb;clear hb;obtain ⟨hcz11_0,hcz11_1,hcz11_2,hcz11_3,hfz11_0,hfz11_1,hfz11_2,hfz11_3⟩:=cz4 BK807)|((with_reducible refine gd 19 rfl ?_);refine gC (some 19) rfl Try.func79 (impl_lengthOf.calls (w:=_) (h:=A7.out)) ?_;intro w12 hb;replace BK807:=kB BK807 hb;replace HB:=lB hb;clear hb))
   go_ret2
   exact finA blA
  ·
   replace c6:=Bool.eq_false_iff.mpr c6
   subst c6
   rw [if_neg (show ¬ (false=true) by decide)] at H
   try dsimp only at H
   simp only [Option.some.injEq,Prod.mk.injEq] at H
   obtain ⟨rfl,rfl⟩:=H
   go_enter Try.func33,Try.ntmps33
   go_wp2_with (first|((with_reducible refine gate_dst (N:=3) rfl ?_);refine bxE (cs:=#[.int .i64 a1_0,.int .i64 a1_1,.int .i64 a1_2,.int .i64 a1_3]) (t:=26) ?_;intro gb807 hg w13 hbox hb;have BK807:=Aside0.mk hbox;have GW807:=sA hg;have GE807:=sA hg;replace HB:=lB hb;clear hb hbox hg)|((with_reducible refine gd 9 rfl ?_);refine gC (some 9) rfl Try.func57 (impl_isPrime.calls (w:=_) (h:=A3.out)) ?_;rintro _ ⟨nd,rfl⟩;obtain ⟨hcz14_0,hcz14_1,hcz14_2,hcz14_3,hfz14_0,hfz14_1,hfz14_2,hfz14_3⟩:=cz4 BK807)|(go_at_call 42;(with_reducible refine (impl_IsMatrix.calls k a1_0 a1_1 a1_2 a1_3 false _ A5.out).mono ?_);rintro e w15 ⟨rfl,hb⟩;replace BK807:=kB BK807 hb;replace HB:=lB hb;clear hb))
   go_ret2
   exact finA blA
 ·
  replace c4:=Bool.eq_false_iff.mpr c4
  subst c4
  rw [if_neg (show ¬ (false=true) by decide)] at H
  try dsimp only at H
  simp only [Option.some.injEq,Prod.mk.injEq] at H
  obtain ⟨rfl,rfl⟩:=H
  go_enter Try.func33,Try.ntmps33
  go_wp2_with (first|((with_reducible refine gate_dst (N:=3) rfl ?_);refine bxE (cs:=#[.int .i64 a1_0,.int .i64 a1_1,.int .i64 a1_2,.int .i64 a1_3]) (t:=26) ?_;intro gb807 hg w16 hbox hb;have BK807:=Aside0.mk hbox;have GW807:=sA hg;have GE807:=sA hg;replace HB:=lB hb;clear hb hbox hg)|((with_reducible refine gd 9 rfl ?_);refine gC (some 9) rfl Try.func57 (impl_isPrime.calls (w:=_) (h:=A3.out)) ?_;rintro _ ⟨nd,rfl⟩))
  go_ret2
  exact finA blA
def impl_nearCode.j0:Nat→Int→Bool→Option (Int)
 | 0,_,_=>none
 | k+1,x3,x9=>if x9=true then (some 1) else (if x3<0 then (some 2) else (if x3>3 then (some 2) else (some 0)))
def impl_nearCode.f (k:Nat) (a0 a1_0 a1_1 a1_2 a1_3 a2_0 a2_1 a2_2 a3:Int):Option (Int):=(impl_IsBall.f k a0 a2_0 a2_1 a2_2).bind fun t846=>(if t846=true then ((impl_IsMatrix.f k a1_0 a1_1 a1_2 a1_3).bind fun t847=>(impl_nearCode.j0 k a3 (!t847))) else (impl_nearCode.j0 k a3 true))
theorem impl_nearCode.mono_l:∀ k,(∀ y0 y1,LeO (impl_nearCode.j0 k y0 y1) (impl_nearCode.j0 (k+1) y0 y1))
 | 0=>fun _ _ r h=>by simp [impl_nearCode.j0] at h
 | k+1=>by
  have ih0:=impl_nearCode.mono_l k
  ·
   intro y0 y1
   unfold impl_nearCode.j0
   repeat' first
   | with_reducible first|exact ih0 ..|exact impl_IsBall.mono ..|exact impl_IsMatrix.mono ..|exact LeO.refl _|exact LeO.none _|refine LeO.ite ?_ ?_|refine LeO.bind ?_ fun _=>?_
theorem impl_nearCode.mono:∀ a0 a1 a2 a3 a4 a5 a6 a7 a8 k,LeO (impl_nearCode.f k a0 a1 a2 a3 a4 a5 a6 a7 a8) (impl_nearCode.f (k+1) a0 a1 a2 a3 a4 a5 a6 a7 a8):=by
 intro a0 a1 a2 a3 a4 a5 a6 a7 a8 k
 have ih0:=impl_nearCode.mono_l k
 unfold impl_nearCode.f
 repeat' first
   | with_reducible first|exact ih0 ..|exact impl_IsBall.mono ..|exact impl_IsMatrix.mono ..|exact LeO.refl _|exact LeO.none _|refine LeO.ite ?_ ?_|refine LeO.bind ?_ fun _=>?_
set_option maxHeartbeats 8000000 in
set_option maxRecDepth 100000 in
theorem impl_nearCode.calls (k:Nat) (a0 a1_0 a1_1 a1_2 a1_3 a2_0 a2_1 a2_2 a3 r:Int) (w:World) (h:impl_nearCode.f k a0 a1_0 a1_1 a1_2 a1_3 a2_0 a2_1 a2_2 a3=some r) :
  Calls Try.prog 83 #[.int .i64 a0,.agg #[.int .i64 a1_0,.int .i64 a1_1,.int .i64 a1_2,.int .i64 a1_3],.agg #[.int .i64 a2_0,.int .i64 a2_1,.int .i64 a2_2],.int .i64 a3] w fun e w'=>e=.returned (.int .i64 r)∧Below w.heap.size w w':=by
 have hu26:=Try.underlying26
 have hu28:=Try.underlying28
 have HB:=Aside0.mk (Below.refl w.heap.size w)
 have H:=h
 unfold impl_nearCode.f at H
 clear h
 have HC5:=Aside0.mk H
 clear H
 go_enter Try.func83,Try.ntmps83
 go_upto_region 1 with (first|((with_reducible refine gate_dst (N:=5) rfl ?_);refine bxE (cs:=#[.int .i64 a1_0,.int .i64 a1_1,.int .i64 a1_2,.int .i64 a1_3]) (t:=26) ?_;intro gb844 hg w6 hbox hb;have BK844:=Aside0.mk hbox;have GW844:=sA hg;have GE844:=sA hg;replace HB:=lB hb;clear hb hbox hg)|((with_reducible refine gate_dst (N:=6) rfl ?_);refine bxE (cs:=#[.int .i64 a2_0,.int .i64 a2_1,.int .i64 a2_2]) (t:=28) ?_;intro gb845 hg w7 hbox hb;have BK845:=Aside0.mk hbox;have GW845:=sA hg;have GE845:=sA hg;have NB844_845:=nA hg BK844;have NB845_844:=nB hg BK844;replace BK844:=kB BK844 hb;replace HB:=lB hb;clear hb hbox hg))
 (try simp only [Act.put,List.setIfInBounds_toArray,List.set_cons_zero,List.set_cons_succ])
 go_cut [9] (fun v9 wc=>∃ (kq:Nat) (x9_4:Bool),v9=.bool x9_4∧Aside0 (impl_nearCode.j0 kq a3 x9_4=some r)∧Aside0 (kq≤k)∧Aside0 (wc.heap[gb844]?=some (.cells #[.int .i64 a1_0,.int .i64 a1_1,.int .i64 a1_2,.int .i64 a1_3] 26 (0,0)))∧Aside0 (wc.heap[gb845]?=some (.cells #[.int .i64 a2_0,.int .i64 a2_1,.int .i64 a2_2] 28 (0,0)))∧Aside0 (Below w.heap.size w wc))
 case first=>
  have H:=HC5.out
  clear HC5
  replace H:=bS H
  obtain ⟨t846,A8,H⟩:=H
  try dsimp only at H
  by_cases c9:t846=true
  ·
   subst c9
   rw [if_pos rfl] at H
   try dsimp only at H
   replace H:=bS H
   obtain ⟨t847,A10,H⟩:=H
   try dsimp only at H
   have H':=Aside0.mk H
   clear H
   have hnb11:=NB845_844.out
   have hnc11:=NB844_845.out
   obtain ⟨hcz12_0,hcz12_1,hcz12_2,hfz12_0,hfz12_1,hfz12_2⟩:=cz3 BK845
   go_wp2_with (first|((with_reducible refine gd 12 rfl ?_);refine gC (some 12) rfl Try.func14 (impl_IsBall.calls (w:=_) (h:=A8.out)) ?_;intro w13 hb;replace BK844:=kB BK844 hb;replace BK845:=kB BK845 hb;replace HB:=lB hb;clear hb;obtain ⟨hcz14_0,hcz14_1,hcz14_2,hcz14_3,hfz14_0,hfz14_1,hfz14_2,hfz14_3⟩:=cz4 BK844)|(go_at_call 42;(with_reducible refine (impl_IsMatrix.calls k a1_0 a1_1 a1_2 a1_3 t847 _ A10.out).mono ?_);rintro e w15 ⟨rfl,hb⟩;replace BK844:=kB BK844 hb;replace BK845:=kB BK845 hb;replace HB:=lB hb;clear hb))
   go_meet
   case rel=>exact ⟨_,(!t847),hB,H',⟨by first|omega|exact Nat.le_refl _⟩,⟨bkA BK844⟩,⟨bkA BK845⟩,⟨blA⟩⟩
  ·
   replace c9:=Bool.eq_false_iff.mpr c9
   subst c9
   rw [if_neg (show ¬ (false=true) by decide)] at H
   try dsimp only at H
   have H':=Aside0.mk H
   clear H
   have hnb16:=NB845_844.out
   have hnc16:=NB844_845.out
   obtain ⟨hcz17_0,hcz17_1,hcz17_2,hfz17_0,hfz17_1,hfz17_2⟩:=cz3 BK845
   go_wp2_with (first|((with_reducible refine gd 12 rfl ?_);refine gC (some 12) rfl Try.func14 (impl_IsBall.calls (w:=_) (h:=A8.out)) ?_;intro w18 hb;replace BK844:=kB BK844 hb;replace BK845:=kB BK845 hb;replace HB:=lB hb;clear hb))
   go_meet
   case rel=>exact ⟨_,(true),hB,H',⟨by first|omega|exact Nat.le_refl _⟩,⟨bkA BK844⟩,⟨bkA BK845⟩,⟨blA⟩⟩
 case rest=>
  clear HC5
  try clear c9
  try clear hcz12_0
  try clear hcz12_1
  try clear hcz12_2
  try clear hcz14_0
  try clear hcz14_1
  try clear hcz14_2
  try clear hcz14_3
  try clear hcz17_0
  try clear hcz17_1
  try clear hcz17_2
  try clear hfz12_0
  try clear hfz12_1
  try clear hfz12_2
  try clear hfz14_0
  try clear hfz14_1
  try clear hfz14_2
  try clear hfz14_3
  try clear hfz17_0
  try clear hfz17_1
  try clear hfz17_2
  obtain ⟨kq,x9_4,rfl,HA,HJ4,BK844,BK845,HB⟩:=hcut
  cases kq with
  | zero=>exact absurd HA.out (by simp [impl_nearCode.j0])
  | succ kj4=>
   have H:=HA.out
   clear HA
   simp only [impl_nearCode.j0] at H
   by_cases c19:x9_4=true
   ·
    subst c19
    rw [if_pos rfl] at H
    try dsimp only at H
    obtain rfl:=Option.some.inj H
    go_wp2
    go_ret
    exact finA blA
   ·
    replace c19:=Bool.eq_false_iff.mpr c19
    subst c19
    rw [if_neg (show ¬ (false=true) by decide)] at H
    try dsimp only at H
    by_cases c20:a3<0
    ·
     rw [if_pos c20] at H
     have c20b0:=decide_eq_true c20
     clear c20
     obtain rfl:=Option.some.inj H
     go_wp2
     go_ret
     exact finA blA
    ·
     rw [if_neg c20] at H
     have c20b0:=decide_eq_false c20
     clear c20
     by_cases c21:a3>3
     ·
      rw [if_pos c21] at H
      have c21b0:decide (3<a3)=true:=decide_eq_true c21
      clear c21
      obtain rfl:=Option.some.inj H
      go_wp2
      go_ret
      exact finA blA
     ·
      rw [if_neg c21] at H
      have c21b0:decide (3<a3)=false:=decide_eq_false c21
      clear c21
      obtain rfl:=Option.some.inj H
      go_wp2
      go_ret
      exact finA blA
def impl_child.f (k:Nat) (a0 a1_0 a1_1 a1_2 a2:Int):Option (Int × Int × Int × Bool):=(impl_mark.f k a0 a1_0 a1_1 a1_2).bind fun t850=>((impl_power.f k a0 (wrap64 (a1_0+6))).bind fun t851=>((impl_ofMark.f k a0 (wrap64 (a1_0+1)) (wrap64 (t850+(wrap64 (a2*t851))))).bind fun bt852=>(some (bt852.1,bt852.2.1,bt852.2.2.1,bt852.2.2.2))))
theorem impl_child.mono:∀ a0 a1 a2 a3 a4 k,LeO (impl_child.f k a0 a1 a2 a3 a4) (impl_child.f (k+1) a0 a1 a2 a3 a4):=by
 intro a0 a1 a2 a3 a4 k
 unfold impl_child.f
 repeat' first
   | with_reducible first|exact impl_mark.mono ..|exact impl_ofMark.mono ..|exact impl_power.mono ..|exact LeO.refl _|exact LeO.none _|refine LeO.ite ?_ ?_|refine LeO.bind ?_ fun _=>?_
def impl_child.T1:Bool × List (List Nat × List Nat):=(true,[([],[]),([],[]),([1],[1]),([2],[2]),([],[]),([],[]),([4,5],[4,5]),([],[]),([],[]),([],[]),([9],[9]),([10],[10]),([8,11,6],[8,11]),([7,12],[7,12]),([6,13],[6,13]),([0,3,14,12],[0,3,14]),([15],[15]),([15],[15]),([16,15,0,1,2,3,4,5,6,7,8,9,10,11,12,13,14,15,16,17],[16]),([17,18,0,1,2,3,4,5,6,7,8,9,10,11,12,13,14,15,16,17,18],[17])])
def impl_child.B1:List Nat:=[0,0,2,6,0,0,48,0,0,0,512,1536,3952,8176,16368,32767,65535,65535,262143,524287]
theorem impl_child.tab1:rtab .any (opsOf Try.f139 1)=impl_child.T1:=by kernel_rfl
theorem impl_child.bits1:waitsOk impl_child.T1.2 impl_child.B1=true:=by kernel_rfl
set_option maxHeartbeats 8000000 in
set_option maxRecDepth 100000 in
theorem impl_child.calls (k:Nat) (a0 a1_0 a1_1 a1_2 a2 r1 r2 r3:Int) (r4:Bool) (w:World) (h:impl_child.f k a0 a1_0 a1_1 a1_2 a2=some (r1,r2,r3,r4)) :
  Calls Try.prog 139 #[.int .i64 a0,.agg #[.int .i64 a1_0,.int .i64 a1_1,.int .i64 a1_2],.int .i64 a2] w fun e w'=>e=.returned (.tuple #[.agg #[.int .i64 r1,.int .i64 r2,.int .i64 r3],.bool r4])∧Below w.heap.size w w':=by
 have hu28:=Try.underlying28
 have HB:=Aside0.mk (Below.refl w.heap.size w)
 have H:=h
 unfold impl_child.f at H
 clear h
 replace H:=bS H
 obtain ⟨t850,A4,H⟩:=H
 try dsimp only at H
 replace H:=bS H
 obtain ⟨t851,A5,H⟩:=H
 try dsimp only at H
 replace H:=bS H
 obtain ⟨⟨t852,t853,t854,t855⟩,A6,H⟩:=H
 try dsimp only at H
 simp only [Option.some.injEq,Prod.mk.injEq] at H
 obtain ⟨rfl,rfl,rfl,rfl⟩:=H
 go_enter Try.func139,Try.ntmps139
 try go_wp2_with (first|((with_reducible refine gate_dst (N:=4) rfl ?_);refine bxE (cs:=#[.int .i64 a1_0,.int .i64 a1_1,.int .i64 a1_2]) (t:=28) ?_;intro gb848 hg w7 hbox hb;have n0_:=lB hb;have n1_:=Aside0.mk hbox;have n2_:=sA hg;have n3_:=sA hg;clear HB;have HB:=n0_;have BK848:=n1_;have GW848:=n2_;have GE848:=n3_;clear n0_ n1_ n2_ n3_;clear hb hbox hg)|((with_reducible refine gate_dst (N:=6) rfl ?_);refine bxE (cs:=#[.int .i64 0,.int .i64 0,.int .i64 0]) (t:=28) ?_;intro gb849 hg w8 hbox hb;have n0_:=kB BK848 hb;have n1_:=lB hb;have n2_:=Aside0.mk hbox;have n3_:=sA hg;have n4_:=sA hg;have n5_:=nA hg BK848;have n6_:=nB hg BK848;clear BK848;clear HB;have BK848:=n0_;have HB:=n1_;have BK849:=n2_;have GW849:=n3_;have GE849:=n4_;have NB848_849:=n5_;have NB849_848:=n6_;clear n0_ n1_ n2_ n3_ n4_ n5_ n6_;clear hb hbox hg))
 have n0_:=Aside0.mk (blk_drew BK848.out)
 have n1_:=Aside0.mk (blk_drew BK849.out)
 have n2_:=Aside0.mk (below_drew1 HB.out)
 clear BK848
 clear BK849
 clear HB
 have BK848:=n0_
 have BK849:=n1_
 have HB:=n2_
 clear n0_ n1_ n2_
 refine start_ (n:=20) (S:=fun w'=>w'.cell? ⟨gb848,0,none⟩=some (.int .i64 a1_0)∧w'.cell? ⟨gb848,1,none⟩=some (.int .i64 a1_1)∧w'.cell? ⟨gb848,2,none⟩=some (.int .i64 a1_2)) (ds:=[]) #[Z,Z,Z,Z,Z,Z,Z,Z,Z,Z,Z,Z,Z,Z,Z,Z,Z,Z,Z,Z] (by kernel_rfl) rfl rfl ⟨cA BK848 0,cA BK848 1,cA BK848 2⟩ (fun hHeld=>?_);refine with_tabW impl_child.tab1 impl_child.bits1 (fun HT_ HW_=>?_)
 generalize w8.drew=w9 at BK848 BK849 HB hHeld ⊢
 refine puA (i:=0) (N:=some 8) #[Y,Z,Z,Z,Z,Z,Z,Z,Z,Z,Z,Z,Z,Z,Z,Z,Z,Z,Z,Z] rfl rfl HT_ ?_
 refine puA (i:=1) (N:=some 9) #[Y,Y,Z,Z,Z,Z,Z,Z,Z,Z,Z,Z,Z,Z,Z,Z,Z,Z,Z,Z] rfl rfl HT_ ?_
 refine puA (i:=4) (N:=some 12) #[Y,Y,Z,Z,Y,Z,Z,Z,Z,Z,Z,Z,Z,Z,Z,Z,Z,Z,Z,Z] rfl rfl HT_ ?_
 refine puA (i:=7) (N:=some 15) #[Y,Y,Z,Z,Y,Z,Z,Y,Z,Z,Z,Z,Z,Z,Z,Z,Z,Z,Z,Z] rfl rfl HT_ ?_
 refine puA (i:=8) (N:=some 16) #[Y,Y,Z,Z,Y,Z,Z,Y,Y,Z,Z,Z,Z,Z,Z,Z,Z,Z,Z,Z] rfl rfl HT_ ?_
 refine puA (i:=9) (N:=some 17) #[Y,Y,Z,Z,Y,Z,Z,Y,Y,Y,Z,Z,Z,Z,Z,Z,Z,Z,Z,Z] rfl rfl HT_ ?_
 refine taA (i:=2) (N:=some 10) #[Y,Y,Y,Z,Y,Z,Z,Y,Y,Y,Z,Z,Z,Z,Z,Z,Z,Z,Z,Z] rfl rfl HT_ HW_ hHeld ?_
 refine puA (i:=3) (N:=some 11) #[Y,Y,Y,Y,Y,Z,Z,Y,Y,Y,Z,Z,Z,Z,Z,Z,Z,Z,Z,Z] rfl rfl HT_ ?_
 refine taA (i:=5) (N:=some 13) #[Y,Y,Y,Y,Y,Y,Z,Y,Y,Y,Z,Z,Z,Z,Z,Z,Z,Z,Z,Z] rfl rfl HT_ HW_ hHeld ?_
 refine taA (i:=10) (N:=some 18) #[Y,Y,Y,Y,Y,Y,Z,Y,Y,Y,Y,Z,Z,Z,Z,Z,Z,Z,Z,Z] rfl rfl HT_ HW_ hHeld ?_
 refine puA (i:=11) (N:=some 19) #[Y,Y,Y,Y,Y,Y,Z,Y,Y,Y,Y,Y,Z,Z,Z,Z,Z,Z,Z,Z] rfl rfl HT_ ?_
 refine one_ (i:=6) (N:=some 14) #[Y,Y,Y,Y,Y,Y,Y,Y,Y,Y,Y,Y,Z,Z,Z,Z,Z,Z,Z,Z] rfl rfl (one_of HT_.out (by kernel_rfl)) (by decide) (fun K hK=>?_)
 refine goC Try.func90 (impl_mark.calls (w:=_) (h:=A4.out)) ?_
 intro w10 hb
 replace BK848:=kB BK848 hb
 replace BK849:=kB BK849 hb
 replace HB:=lB hb
 (try clear hb)
 (try clear hb2)
 (try clear hk)
 (try clear hi)
 refine hK.out _ _ ⟨cA BK848 0,cA BK848 1,cA BK848 2⟩ (fun hHeld=>?_)
 clear hK K
 refine nmA ?_
 refine one_ (i:=12) (N:=some 20) #[Y,Y,Y,Y,Y,Y,Y,Y,Y,Y,Y,Y,Y,Z,Z,Z,Z,Z,Z,Z] rfl rfl (one_of HT_.out (by kernel_rfl)) (by decide) (fun K hK=>?_)
 refine goC Try.func59 (impl_power.calls (w:=_) (h:=A5.out)) ?_
 rintro _ ⟨nd,rfl⟩
 refine hK.out _ _ ⟨cA BK848 0,cA BK848 1,cA BK848 2⟩ (fun hHeld=>?_)
 clear hK K
 refine nmA ?_
 refine puA (i:=13) (N:=some 21) #[Y,Y,Y,Y,Y,Y,Y,Y,Y,Y,Y,Y,Y,Y,Z,Z,Z,Z,Z,Z] rfl rfl HT_ ?_
 refine puA (i:=14) (N:=some 22) #[Y,Y,Y,Y,Y,Y,Y,Y,Y,Y,Y,Y,Y,Y,Y,Z,Z,Z,Z,Z] rfl rfl HT_ ?_
 refine one_ (i:=15) (N:=some 23) #[Y,Y,Y,Y,Y,Y,Y,Y,Y,Y,Y,Y,Y,Y,Y,Y,Z,Z,Z,Z] rfl rfl (one_of HT_.out (by kernel_rfl)) (by decide) (fun K hK=>?_)
 refine goC Try.func103 (impl_ofMark.calls (w:=_) (h:=A6.out)) ?_
 intro w11 hb
 replace BK848:=kB BK848 hb
 replace BK849:=kB BK849 hb
 replace HB:=lB hb
 (try clear hb)
 (try clear hb2)
 (try clear hk)
 (try clear hi)
 refine hK.out _ _ ⟨cA BK848 0,cA BK848 1,cA BK848 2⟩ (fun hHeld=>?_)
 clear hK K
 refine nmA ?_
 refine puA (i:=16) (N:=some 24) #[Y,Y,Y,Y,Y,Y,Y,Y,Y,Y,Y,Y,Y,Y,Y,Y,Y,Z,Z,Z] rfl rfl HT_ ?_
 refine puA (i:=17) (N:=some 25) #[Y,Y,Y,Y,Y,Y,Y,Y,Y,Y,Y,Y,Y,Y,Y,Y,Y,Y,Z,Z] rfl rfl HT_ ?_
 refine one_ (i:=18) (N:=none) #[Y,Y,Y,Y,Y,Y,Y,Y,Y,Y,Y,Y,Y,Y,Y,Y,Y,Y,Y,Z] rfl rfl (one_of HT_.out (by kernel_rfl)) (by decide) (fun K hK=>?_)
 have hs12:w11.cell? ⟨gb849,0,none⟩=some (.int .i64 0):=cA BK849 0
 have hfs12:=blk_frozen BK849.out 0
 have hns12_0:=NB848_849.out
 have hms12_0:=NB849_848.out
 have hs13:w11.cell? ⟨gb849,1,none⟩=some (.int .i64 0):=cA BK849 1
 have hfs13:=blk_frozen BK849.out 1
 have hns13_0:=NB848_849.out
 have hms13_0:=NB849_848.out
 have hs14:w11.cell? ⟨gb849,2,none⟩=some (.int .i64 0):=cA BK849 2
 have hfs14:=blk_frozen BK849.out 2
 have hns14_0:=NB848_849.out
 have hms14_0:=NB849_848.out
 refine skip_ (w1:=?_) (by rfl) rfl ?_ ?_
 rotate_left
 ·
  go_simp
  rfl
 refine hK.out _ _ ⟨cfA hHeld.1,cfA hHeld.2.1,cfA hHeld.2.2⟩ (fun hHeld=>?_)
 clear hK K
 refine puA (i:=19) (N:=some 7) #[Y,Y,Y,Y,Y,Y,Y,Y,Y,Y,Y,Y,Y,Y,Y,Y,Y,Y,Y,Y] rfl rfl HT_ ?_
 refine done_ (done_of HT_.out (by kernel_rfl)) ?_
 try go_wp2
 refine bodyPost_ret (results_ct rfl _ _ gb849 28 #[.int .i64 t852,.int .i64 t853,.int .i64 t854] (0,0) _ rfl (bpA BK849) Try.underlying28 rfl (by kernel_rfl)) rfl ?_
 exact finA blA
end Go.Proofs.Ytlpmefmaplhfdaa.PAll
