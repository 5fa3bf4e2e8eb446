-- turned out of the kit's print
import Derived.Test.YtabcckoeilegnaaQx
import Derived.Test.YtabcckoeilegnaaQimplmod
namespace Go.Proofs.Ytabcckoeilegnaa.PAll
open Go.RowKit Go.Proofs.YtabcckoeilegnaaW.PrintWords Go.Proofs.YtabcckoeilegnaaW.PrintLast Go.Proofs.YtabcckoeilegnaaW.PrintMore
attribute [local go_sem] Go.Proofs.Ytabcckoeilegnaa.Aux.setCell_drewN Go.Proofs.Ytabcckoeilegnaa.Aux.isSome_setCell max2_int min2_int max_two min_two max_three min_three max_four min_four
set_option linter.unusedVariables false
set_option linter.unusedSimpArgs false
def spec_l02Meet.f (k:Nat) (a0 a1_0 a1_1 a1_2 a2_0 a2_1:Int):Option (Int):=(spec_l01Power.f k a0 a1_2).bind fun t446=>(if (wrap64 ((wrap64 (a2_0*t446)) - (wrap64 (a1_1*a2_1))))=0 then (some a1_0) else ((spec_l01Val.f k a0 (wrap64 ((wrap64 (a2_0*t446)) - (wrap64 (a1_1*a2_1))))).bind fun t447=>((spec_l01Val.f k a0 a2_1).bind fun t448=>(some (mn a1_0 (wrap64 ((wrap64 (t447 - t448)) - a1_2)))))))
theorem spec_l02Meet.mono:∀ a0 a1 a2 a3 a4 a5 k,LeO (spec_l02Meet.f k a0 a1 a2 a3 a4 a5) (spec_l02Meet.f (k+1) a0 a1 a2 a3 a4 a5):=by
 intro a0 a1 a2 a3 a4 a5 k
 unfold spec_l02Meet.f
 repeat' first
   | with_reducible first|exact spec_l01Power.mono ..|exact spec_l01Val.mono ..|exact LeO.refl _|exact LeO.none _|refine LeO.ite ?_ ?_|refine LeO.bind ?_ fun _=>?_
set_option maxHeartbeats 8000000 in
set_option maxRecDepth 100000 in
theorem spec_l02Meet.calls (k:Nat) (a0 a1_0 a1_1 a1_2 a2_0 a2_1 r:Int) (w:World) (h:spec_l02Meet.f k a0 a1_0 a1_1 a1_2 a2_0 a2_1=some r) :
  Calls Try.prog 76 #[.int .i64 a0,.agg #[.int .i64 a1_0,.int .i64 a1_1,.int .i64 a1_2],.agg #[.int .i64 a2_0,.int .i64 a2_1]] w fun e w'=>e=.returned (.int .i64 r)∧Below w.heap.size w w':=by
 have hu25:=Try.underlying25
 have hu27:=Try.underlying27
 have HB:=Aside0.mk (Below.refl w.heap.size w)
 have H:=h
 unfold spec_l02Meet.f at H
 clear h
 replace H:=bS H
 obtain ⟨t446,A4,H⟩:=H
 try dsimp only at H
 by_cases c5:(wrap64 ((wrap64 (a2_0*t446)) - (wrap64 (a1_1*a2_1))))=0
 ·
  rw [if_pos c5] at H
  have c5b0:((wrap64 ((wrap64 (a2_0*t446)) - (wrap64 (a1_1*a2_1)))) == 0)=true:=beq_iff_eq.mpr c5
  have c5b1:((wrap64 ((wrap64 (a2_0*t446)) - (wrap64 (a1_1*a2_1)))) != 0)=false:=bne_eq_false_iff_eq.mpr c5
  clear c5
  obtain rfl:=Option.some.inj H
  go_enter Try.func76,Try.ntmps76
  go_wp2_with (first|((with_reducible refine gate_dst (N:=4) rfl ?_);refine bxE (cs:=#[.int .i64 a1_0,.int .i64 a1_1,.int .i64 a1_2]) (t:=25) ?_;intro gb444 hg w6 hbox hb;have BK444:=Aside0.mk hbox;have GW444:=sA hg;have GE444:=sA hg;replace HB:=lB hb;clear hb hbox hg)|((with_reducible refine gate_dst (N:=5) rfl ?_);refine bxE (cs:=#[.int .i64 a2_0,.int .i64 a2_1]) (t:=27) ?_;intro gb445 hg w7 hbox hb;have BK445:=Aside0.mk hbox;have GW445:=sA hg;have GE445:=sA hg;have NB444_445:=nA hg BK444;have NB445_444:=nB hg BK444;replace BK444:=kB BK444 hb;replace HB:=lB hb;clear hb hbox hg;have hnb8:=NB444_445.out;have hnc8:=NB445_444.out;obtain ⟨hcz9_0,hcz9_1,hcz9_2,hfz9_0,hfz9_1,hfz9_2⟩:=cz3 BK444)|(go_at_call 53;(with_reducible refine (spec_l01Power.calls k a0 a1_2 t446 _ A4.out).mono ?_);rintro e w' ⟨rfl,⟨nd,rfl⟩⟩;(try exact dd);obtain ⟨hcz10_0,hcz10_1,hfz10_0,hfz10_1⟩:=cz2 BK445))
  repeat (go_quiet (first|((with_reducible refine gate_dst (N:=4) rfl ?_);refine bxE (cs:=#[.int .i64 a1_0,.int .i64 a1_1,.int .i64 a1_2]) (t:=25) ?_;intro gb444 hg w6 hbox hb;have BK444:=Aside0.mk hbox;have GW444:=sA hg;have GE444:=sA hg;replace HB:=lB hb;clear hb hbox hg)|((with_reducible refine gate_dst (N:=5) rfl ?_);refine bxE (cs:=#[.int .i64 a2_0,.int .i64 a2_1]) (t:=27) ?_;intro gb445 hg w7 hbox hb;have BK445:=Aside0.mk hbox;have GW445:=sA hg;have GE445:=sA hg;have NB444_445:=nA hg BK444;have NB445_444:=nB hg BK444;replace BK444:=kB BK444 hb;replace HB:=lB hb;clear hb hbox hg;have hnb8:=NB444_445.out;have hnc8:=NB445_444.out;obtain ⟨hcz9_0,hcz9_1,hcz9_2,hfz9_0,hfz9_1,hfz9_2⟩:=cz3 BK444)|(go_at_call 53;(with_reducible refine (spec_l01Power.calls k a0 a1_2 t446 _ A4.out).mono ?_);rintro e w' ⟨rfl,⟨nd,rfl⟩⟩;(try exact dd);obtain ⟨hcz10_0,hcz10_1,hfz10_0,hfz10_1⟩:=cz2 BK445));try go_wp2_with (first|((with_reducible refine gate_dst (N:=4) rfl ?_);refine bxE (cs:=#[.int .i64 a1_0,.int .i64 a1_1,.int .i64 a1_2]) (t:=25) ?_;intro gb444 hg w6 hbox hb;have BK444:=Aside0.mk hbox;have GW444:=sA hg;have GE444:=sA hg;replace HB:=lB hb;clear hb hbox hg)|((with_reducible refine gate_dst (N:=5) rfl ?_);refine bxE (cs:=#[.int .i64 a2_0,.int .i64 a2_1]) (t:=27) ?_;intro gb445 hg w7 hbox hb;have BK445:=Aside0.mk hbox;have GW445:=sA hg;have GE445:=sA hg;have NB444_445:=nA hg BK444;have NB445_444:=nB hg BK444;replace BK444:=kB BK444 hb;replace HB:=lB hb;clear hb hbox hg;have hnb8:=NB444_445.out;have hnc8:=NB445_444.out;obtain ⟨hcz9_0,hcz9_1,hcz9_2,hfz9_0,hfz9_1,hfz9_2⟩:=cz3 BK444)|(go_at_call 53;(with_reducible refine (spec_l01Power.calls k a0 a1_2 t446 _ A4.out).mono ?_);rintro e w' ⟨rfl,⟨nd,rfl⟩⟩;(try exact dd);obtain ⟨hcz10_0,hcz10_1,hfz10_0,hfz10_1⟩:=cz2 BK445)))
  go_ret
  exact finA blA
 ·
  rw [if_neg c5] at H
  have c5b0:((wrap64 ((wrap64 (a2_0*t446)) - (wrap64 (a1_1*a2_1)))) == 0)=false:=beq_eq_false_iff_ne.mpr c5
  have c5b1:((wrap64 ((wrap64 (a2_0*t446)) - (wrap64 (a1_1*a2_1)))) != 0)=true:=bne_iff_ne.mpr c5
  replace H:=bS H
  obtain ⟨t447,A11,H⟩:=H
  try dsimp only at H
  replace H:=bS H
  obtain ⟨t448,A12,H⟩:=H
  try dsimp only at H
  obtain ⟨ji13,hji13⟩:∃ j_:Int,(mn a1_0 (wrap64 ((wrap64 (t447 - t448)) - a1_2)))=j_:=⟨_,rfl⟩
  replace H:(some ji13)=some r:=by first|(rw [hji13] at H;exact H)|(simp only [hji13] at H ⊢;exact H)
  (try rw [hji13] at A4)
  (try rw [hji13] at A11)
  (try rw [hji13] at A12)
  have hji13_:(if (wrap64 ((wrap64 (t447 - t448)) - a1_2))<a1_0 then (wrap64 ((wrap64 (t447 - t448)) - a1_2)) else a1_0)=ji13:=hji13
  obtain rfl:=Option.some.inj H
  go_enter Try.func76,Try.ntmps76
  go_wp2_with (first|((with_reducible refine gate_dst (N:=4) rfl ?_);refine bxE (cs:=#[.int .i64 a1_0,.int .i64 a1_1,.int .i64 a1_2]) (t:=25) ?_;intro gb444 hg w14 hbox hb;have BK444:=Aside0.mk hbox;have GW444:=sA hg;have GE444:=sA hg;replace HB:=lB hb;clear hb hbox hg)|((with_reducible refine gate_dst (N:=5) rfl ?_);refine bxE (cs:=#[.int .i64 a2_0,.int .i64 a2_1]) (t:=27) ?_;intro gb445 hg w15 hbox hb;have BK445:=Aside0.mk hbox;have GW445:=sA hg;have GE445:=sA hg;have NB444_445:=nA hg BK444;have NB445_444:=nB hg BK444;replace BK444:=kB BK444 hb;replace HB:=lB hb;clear hb hbox hg;have hnb16:=NB444_445.out;have hnc16:=NB445_444.out;obtain ⟨hcz17_0,hcz17_1,hcz17_2,hfz17_0,hfz17_1,hfz17_2⟩:=cz3 BK444)|(go_at_call 53;(with_reducible refine (spec_l01Power.calls k a0 a1_2 t446 _ A4.out).mono ?_);rintro e w' ⟨rfl,⟨nd,rfl⟩⟩;(try exact dd);obtain ⟨hcz18_0,hcz18_1,hfz18_0,hfz18_1⟩:=cz2 BK445)|(go_at_call 79;(with_reducible refine (spec_l01Val.calls k a0 (wrap64 ((wrap64 (a2_0*t446)) - (wrap64 (a1_1*a2_1)))) t447 _ A11.out).mono ?_);rintro e w' ⟨rfl,⟨nd,rfl⟩⟩;(try exact dd))|(go_at_call 79;(with_reducible refine (spec_l01Val.calls k a0 a2_1 t448 _ A12.out).mono ?_);rintro e w' ⟨rfl,⟨nd,rfl⟩⟩;(try exact dd)))
  repeat (go_quiet (first|((with_reducible refine gate_dst (N:=4) rfl ?_);refine bxE (cs:=#[.int .i64 a1_0,.int .i64 a1_1,.int .i64 a1_2]) (t:=25) ?_;intro gb444 hg w14 hbox hb;have BK444:=Aside0.mk hbox;have GW444:=sA hg;have GE444:=sA hg;replace HB:=lB hb;clear hb hbox hg)|((with_reducible refine gate_dst (N:=5) rfl ?_);refine bxE (cs:=#[.int .i64 a2_0,.int .i64 a2_1]) (t:=27) ?_;intro gb445 hg w15 hbox hb;have BK445:=Aside0.mk hbox;have GW445:=sA hg;have GE445:=sA hg;have NB444_445:=nA hg BK444;have NB445_444:=nB hg BK444;replace BK444:=kB BK444 hb;replace HB:=lB hb;clear hb hbox hg;have hnb16:=NB444_445.out;have hnc16:=NB445_444.out;obtain ⟨hcz17_0,hcz17_1,hcz17_2,hfz17_0,hfz17_1,hfz17_2⟩:=cz3 BK444)|(go_at_call 53;(with_reducible refine (spec_l01Power.calls k a0 a1_2 t446 _ A4.out).mono ?_);rintro e w' ⟨rfl,⟨nd,rfl⟩⟩;(try exact dd);obtain ⟨hcz18_0,hcz18_1,hfz18_0,hfz18_1⟩:=cz2 BK445)|(go_at_call 79;(with_reducible refine (spec_l01Val.calls k a0 (wrap64 ((wrap64 (a2_0*t446)) - (wrap64 (a1_1*a2_1)))) t447 _ A11.out).mono ?_);rintro e w' ⟨rfl,⟨nd,rfl⟩⟩;(try exact dd))|(go_at_call 79;(with_reducible refine (spec_l01Val.calls k a0 a2_1 t448 _ A12.out).mono ?_);rintro e w' ⟨rfl,⟨nd,rfl⟩⟩;(try exact dd)));try go_wp2_with (first|((with_reducible refine gate_dst (N:=4) rfl ?_);refine bxE (cs:=#[.int .i64 a1_0,.int .i64 a1_1,.int .i64 a1_2]) (t:=25) ?_;intro gb444 hg w14 hbox hb;have BK444:=Aside0.mk hbox;have GW444:=sA hg;have GE444:=sA hg;replace HB:=lB hb;clear hb hbox hg)|((with_reducible refine gate_dst (N:=5) rfl ?_);refine bxE (cs:=#[.int .i64 a2_0,.int .i64 a2_1]) (t:=27) ?_;intro gb445 hg w15 hbox hb;have BK445:=Aside0.mk hbox;have GW445:=sA hg;have GE445:=sA hg;have NB444_445:=nA hg BK444;have NB445_444:=nB hg BK444;replace BK444:=kB BK444 hb;replace HB:=lB hb;clear hb hbox hg;have hnb16:=NB444_445.out;have hnc16:=NB445_444.out;obtain ⟨hcz17_0,hcz17_1,hcz17_2,hfz17_0,hfz17_1,hfz17_2⟩:=cz3 BK444)|(go_at_call 53;(with_reducible refine (spec_l01Power.calls k a0 a1_2 t446 _ A4.out).mono ?_);rintro e w' ⟨rfl,⟨nd,rfl⟩⟩;(try exact dd);obtain ⟨hcz18_0,hcz18_1,hfz18_0,hfz18_1⟩:=cz2 BK445)|(go_at_call 79;(with_reducible refine (spec_l01Val.calls k a0 (wrap64 ((wrap64 (a2_0*t446)) - (wrap64 (a1_1*a2_1)))) t447 _ A11.out).mono ?_);rintro e w' ⟨rfl,⟨nd,rfl⟩⟩;(try exact dd))|(go_at_call 79;(with_reducible refine (spec_l01Val.calls k a0 a2_1 t448 _ A12.out).mono ?_);rintro e w' ⟨rfl,⟨nd,rfl⟩⟩;(try exact dd))))
  go_ret
  exact ⟨by first|rfl|(simp [errW_none,errW_some] <;> rfl)|(simp only [← hji13];first|rfl|(simp [errW_none,errW_some] <;> rfl))|(simp [*,errW_none,errW_some] <;> rfl),blA⟩
end Go.Proofs.Ytabcckoeilegnaa.PAll
