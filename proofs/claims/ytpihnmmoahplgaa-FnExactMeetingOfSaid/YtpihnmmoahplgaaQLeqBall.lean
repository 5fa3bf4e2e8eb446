-- turned out of the kit's print
import Derived.Test.YtpihnmmoahplgaaQx
namespace Go.Proofs.Ytpihnmmoahplgaa.PAll
open Go.RowKit Go.Proofs.YtpihnmmoahplgaaW.PrintWords Go.Proofs.YtpihnmmoahplgaaW.PrintLast Go.Proofs.YtpihnmmoahplgaaW.PrintMore
attribute [local go_sem] Go.Proofs.Ytpihnmmoahplgaa.Aux.setCell_drewN Go.Proofs.Ytpihnmmoahplgaa.Aux.isSome_setCell Go.Proofs.Ytpihnmmoahplgaa.Aux.max_eight max2_int min2_int max_two min_two max_three min_three max_four min_four
set_option linter.unusedVariables false
set_option linter.unusedSimpArgs false
def laws_toEnd.f (a0_0 a0_1:Int):Option (Int × Int):=some (a0_0,a0_1)
set_option maxHeartbeats 8000000 in
set_option maxRecDepth 100000 in
theorem laws_toEnd.calls (a0_0 a0_1 r1 r2:Int) (w:World) (h:laws_toEnd.f a0_0 a0_1=some (r1,r2)) :
  Calls Try.prog 6 #[.agg #[.int .i64 a0_0,.int .i64 a0_1]] w fun e w'=>e=.returned (.agg #[.int .i64 r1,.int .i64 r2])∧Below w.heap.size w w':=by
 have hu23:=Try.underlying23
 have hu28:=Try.underlying28
 have HB:=Aside0.mk (Below.refl w.heap.size w)
 have H:=h
 unfold laws_toEnd.f at H
 clear h
 simp only [Option.some.injEq,Prod.mk.injEq] at H
 obtain ⟨rfl,rfl⟩:=H
 go_enter Try.func6,Try.ntmps6
 go_wp2_with (first|((with_reducible refine gate_dst (N:=1) rfl ?_);refine bxE (cs:=#[.int .i64 a0_0,.int .i64 a0_1]) (t:=23) ?_;intro gb140 hg w2 hbox hb;have BK140:=Aside0.mk hbox;have GW140:=sA hg;have GE140:=sA hg;replace HB:=lB hb;clear hb hbox hg)|((with_reducible refine gate_dst (N:=2) rfl ?_);refine bxE (cs:=#[.int .i64 0,.int .i64 0]) (t:=28) ?_;intro gb141 hg w3 hbox hb;have BK141:=Aside0.mk hbox;have GW141:=sA hg;have GE141:=sA hg;have NB140_141:=nA hg BK140;have NB141_140:=nB hg BK140;replace BK140:=kB BK140 hb;replace HB:=lB hb;clear hb hbox hg)|((with_reducible refine gate_dst (N:=3) rfl ?_);refine bxE (cs:=#[.int .i64 0,.int .i64 0]) (t:=28) ?_;intro gb142 hg w4 hbox hb;have BK142:=Aside0.mk hbox;have GW142:=sA hg;have GE142:=sA hg;have NB140_142:=nA hg BK140;have NB142_140:=nB hg BK140;have NB141_142:=nA hg BK141;have NB142_141:=nB hg BK141;replace BK140:=kB BK140 hb;replace BK141:=kB BK141 hb;replace HB:=lB hb;clear hb hbox hg;have hnb5:=NB140_141.out;have hnc5:=NB141_140.out;have hnb6:=NB140_142.out;have hnc6:=NB142_140.out;obtain ⟨hcz7_0,hcz7_1,hfz7_0,hfz7_1⟩:=cz2 BK140;have hnb8:=NB142_141.out;have hnc8:=NB141_142.out;obtain ⟨hcz9_0,hcz9_1,hfz9_0,hfz9_1⟩:=cz2 BK142;obtain ⟨hcz10_0,hcz10_1,hfz10_0,hfz10_1⟩:=cz2 BK141))
 refine bodyPost_ret (results_cell_row rfl _ _ gb141 28 #[.int .i64 a0_0,.int .i64 a0_1] (0,0) _ rfl (bpA BK141) Try.underlying28 rfl (by kernel_rfl)) rfl ?_
 exact finA blA
def laws_eqBall.f (a0_0 a0_1 a0_2 a1_0 a1_1 a1_2:Int):Option (Bool):=if a0_0=a1_0 then (if a0_1=a1_1 then (if a0_2=a1_2 then (some true) else (some false)) else (some false)) else (some false)
set_option maxHeartbeats 8000000 in
set_option maxRecDepth 100000 in
theorem laws_eqBall.calls (a0_0 a0_1 a0_2 a1_0 a1_1 a1_2:Int) (r:Bool) (w:World) (h:laws_eqBall.f a0_0 a0_1 a0_2 a1_0 a1_1 a1_2=some r) :
  Calls Try.prog 8 #[.agg #[.int .i64 a0_0,.int .i64 a0_1,.int .i64 a0_2],.agg #[.int .i64 a1_0,.int .i64 a1_1,.int .i64 a1_2]] w fun e w'=>e=.returned (.bool r)∧Below w.heap.size w w':=by
 have hu25:=Try.underlying25
 have HB:=Aside0.mk (Below.refl w.heap.size w)
 have H:=h
 unfold laws_eqBall.f at H
 clear h
 by_cases c3:a0_0=a1_0
 ·
  rw [if_pos c3] at H
  have c3b0:(a0_0 == a1_0)=true:=beq_iff_eq.mpr c3
  have c3b1:(a0_0 != a1_0)=false:=bne_eq_false_iff_eq.mpr c3
  clear c3
  by_cases c4:a0_1=a1_1
  ·
   rw [if_pos c4] at H
   have c4b0:(a0_1 == a1_1)=true:=beq_iff_eq.mpr c4
   have c4b1:(a0_1 != a1_1)=false:=bne_eq_false_iff_eq.mpr c4
   clear c4
   by_cases c5:a0_2=a1_2
   focus
    rw [if_pos c5] at H
    have c5b0:(a0_2 == a1_2)=true:=beq_iff_eq.mpr c5
    have c5b1:(a0_2 != a1_2)=false:=bne_eq_false_iff_eq.mpr c5
    clear c5
    obtain rfl:=Option.some.inj H
   rotate_left
   focus
    rw [if_neg c5] at H
    have c5b0:(a0_2 == a1_2)=false:=beq_eq_false_iff_ne.mpr c5
    have c5b1:(a0_2 != a1_2)=true:=bne_iff_ne.mpr c5
    obtain rfl:=Option.some.inj H
   rotate_left
   all_goals
    go_enter Try.func8,Try.ntmps8
    go_wp2_with (first|((with_reducible refine gate_dst (N:=2) rfl ?_);refine bxE (cs:=#[.int .i64 a0_0,.int .i64 a0_1,.int .i64 a0_2]) (t:=25) ?_;intro gb206 hg w6 hbox hb;have BK206:=Aside0.mk hbox;have GW206:=sA hg;have GE206:=sA hg;replace HB:=lB hb;clear hb hbox hg)|((with_reducible refine gate_dst (N:=3) rfl ?_);refine bxE (cs:=#[.int .i64 a1_0,.int .i64 a1_1,.int .i64 a1_2]) (t:=25) ?_;intro gb207 hg w7 hbox hb;have BK207:=Aside0.mk hbox;have GW207:=sA hg;have GE207:=sA hg;have NB206_207:=nA hg BK206;have NB207_206:=nB hg BK206;replace BK206:=kB BK206 hb;replace HB:=lB hb;clear hb hbox hg;have hnb8:=NB206_207.out;have hnc8:=NB207_206.out;obtain ⟨hcz9_0,hcz9_1,hcz9_2,hfz9_0,hfz9_1,hfz9_2⟩:=cz3 BK206;obtain ⟨hcz10_0,hcz10_1,hcz10_2,hfz10_0,hfz10_1,hfz10_2⟩:=cz3 BK207))
   ·
    go_ret
    exact finA blA
   ·
    go_ret
    exact finA blA
  ·
   rw [if_neg c4] at H
   have c4b0:(a0_1 == a1_1)=false:=beq_eq_false_iff_ne.mpr c4
   have c4b1:(a0_1 != a1_1)=true:=bne_iff_ne.mpr c4
   obtain rfl:=Option.some.inj H
   go_enter Try.func8,Try.ntmps8
   go_wp2_with (first|((with_reducible refine gate_dst (N:=2) rfl ?_);refine bxE (cs:=#[.int .i64 a0_0,.int .i64 a0_1,.int .i64 a0_2]) (t:=25) ?_;intro gb206 hg w16 hbox hb;have BK206:=Aside0.mk hbox;have GW206:=sA hg;have GE206:=sA hg;replace HB:=lB hb;clear hb hbox hg)|((with_reducible refine gate_dst (N:=3) rfl ?_);refine bxE (cs:=#[.int .i64 a1_0,.int .i64 a1_1,.int .i64 a1_2]) (t:=25) ?_;intro gb207 hg w17 hbox hb;have BK207:=Aside0.mk hbox;have GW207:=sA hg;have GE207:=sA hg;have NB206_207:=nA hg BK206;have NB207_206:=nB hg BK206;replace BK206:=kB BK206 hb;replace HB:=lB hb;clear hb hbox hg;have hnb18:=NB206_207.out;have hnc18:=NB207_206.out;obtain ⟨hcz19_0,hcz19_1,hcz19_2,hfz19_0,hfz19_1,hfz19_2⟩:=cz3 BK206;obtain ⟨hcz20_0,hcz20_1,hcz20_2,hfz20_0,hfz20_1,hfz20_2⟩:=cz3 BK207))
   go_ret
   exact finA blA
 ·
  rw [if_neg c3] at H
  have c3b0:(a0_0 == a1_0)=false:=beq_eq_false_iff_ne.mpr c3
  have c3b1:(a0_0 != a1_0)=true:=bne_iff_ne.mpr c3
  obtain rfl:=Option.some.inj H
  go_enter Try.func8,Try.ntmps8
  go_wp2_with (first|((with_reducible refine gate_dst (N:=2) rfl ?_);refine bxE (cs:=#[.int .i64 a0_0,.int .i64 a0_1,.int .i64 a0_2]) (t:=25) ?_;intro gb206 hg w21 hbox hb;have BK206:=Aside0.mk hbox;have GW206:=sA hg;have GE206:=sA hg;replace HB:=lB hb;clear hb hbox hg)|((with_reducible refine gate_dst (N:=3) rfl ?_);refine bxE (cs:=#[.int .i64 a1_0,.int .i64 a1_1,.int .i64 a1_2]) (t:=25) ?_;intro gb207 hg w22 hbox hb;have BK207:=Aside0.mk hbox;have GW207:=sA hg;have GE207:=sA hg;have NB206_207:=nA hg BK206;have NB207_206:=nB hg BK206;replace BK206:=kB BK206 hb;replace HB:=lB hb;clear hb hbox hg;have hnb23:=NB206_207.out;have hnc23:=NB207_206.out;obtain ⟨hcz24_0,hcz24_1,hcz24_2,hfz24_0,hfz24_1,hfz24_2⟩:=cz3 BK206;obtain ⟨hcz25_0,hcz25_1,hcz25_2,hfz25_0,hfz25_1,hfz25_2⟩:=cz3 BK207))
  go_ret
  exact finA blA
end Go.Proofs.Ytpihnmmoahplgaa.PAll
