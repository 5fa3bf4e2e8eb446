-- turned out of the kit's print
import Derived.Test.YtpihnmmoahplgaaQx
import Derived.Test.YtpihnmmoahplgaaQLeqBall
import Derived.Test.YtpihnmmoahplgaaQimplMeetingOf
import Derived.Test.YtpihnmmoahplgaaQspecMeetingOf
namespace Go.Proofs.Ytpihnmmoahplgaa.PAll
open Go.RowKit Go.Proofs.YtpihnmmoahplgaaW.PrintWords Go.Proofs.YtpihnmmoahplgaaW.PrintLast Go.Proofs.YtpihnmmoahplgaaW.PrintMore
attribute [local go_sem] Go.Proofs.Ytpihnmmoahplgaa.Aux.setCell_drewN Go.Proofs.Ytpihnmmoahplgaa.Aux.isSome_setCell Go.Proofs.Ytpihnmmoahplgaa.Aux.max_eight max2_int min2_int max_two min_two max_three min_three max_four min_four
set_option linter.unusedVariables false
set_option linter.unusedSimpArgs false
def laws_FnExactMeetingOf.f (k:Nat) (a0 a1_0 a1_1 a2_0 a2_1 a3_0 a3_1:Int):Option (Bool):=(laws_toEnd.f a1_0 a1_1).bind fun bt211=>((laws_toEnd.f a2_0 a2_1).bind fun bt213=>((laws_toEnd.f a3_0 a3_1).bind fun bt215=>((spec_MeetingOf.f k a0 bt211.1 bt211.2 bt213.1 bt213.2 bt215.1 bt215.2).bind fun bt217=>((laws_toEnd.f a1_0 a1_1).bind fun bt222=>((laws_toEnd.f a2_0 a2_1).bind fun bt224=>((laws_toEnd.f a3_0 a3_1).bind fun bt226=>((impl_MeetingOf.f k a0 bt222.1 bt222.2 bt224.1 bt224.2 bt226.1 bt226.2).bind fun bt228=>((laws_eqBall.f bt228.1 bt228.2.1 bt228.2.2.1 bt217.1 bt217.2.1 bt217.2.2.1).bind fun t233=>(if t233=true then (if bt228.2.2.2=bt217.2.2.2 then (some true) else (none)) else (none))))))))))
theorem laws_FnExactMeetingOf.mono:∀ a0 a1 a2 a3 a4 a5 a6 k,LeO (laws_FnExactMeetingOf.f k a0 a1 a2 a3 a4 a5 a6) (laws_FnExactMeetingOf.f (k+1) a0 a1 a2 a3 a4 a5 a6):=by
 intro a0 a1 a2 a3 a4 a5 a6 k
 unfold laws_FnExactMeetingOf.f
 repeat' first
   | with_reducible first|exact impl_MeetingOf.mono ..|exact spec_MeetingOf.mono ..|exact LeO.refl _|exact LeO.none _|refine LeO.ite ?_ ?_|refine LeO.bind ?_ fun _=>?_
def laws_FnExactMeetingOf.T1:Bool × List (List Nat × List Nat):=(true,[([],[]),([],[]),([1],[1]),([],[]),([3,2],[3]),([],[]),([5,4],[5]),([0,2,4,6,6],[0,2,4,6]),([7],[7]),([8],[8]),([8],[8]),([],[]),([11,9,7,0,1,2,3,4,5,6,7,8,9,11],[9,11]),([10,12,0,1,2,3,4,5,6,7,8,9,10,11,12],[10])])
def laws_FnExactMeetingOf.B1:List Nat:=[0,0,2,0,14,0,62,127,255,511,511,0,3071,8191]
theorem laws_FnExactMeetingOf.tab1:rtab .any (opsOf Try.f3 1)=laws_FnExactMeetingOf.T1:=by kernel_rfl
theorem laws_FnExactMeetingOf.bits1:waitsOk laws_FnExactMeetingOf.T1.2 laws_FnExactMeetingOf.B1=true:=by kernel_rfl
def laws_FnExactMeetingOf.T2:Bool × List (List Nat × List Nat):=(true,[([],[]),([],[]),([1],[1]),([],[]),([3,2],[3]),([],[]),([5,4],[5]),([0,2,4,6,6],[0,2,4,6]),([7],[7]),([8],[8]),([8],[8]),([],[]),([11,9,7,0,1,2,3,4,5,6,7,8,9,11],[9,11]),([10,12,0,1,2,3,4,5,6,7,8,9,10,11,12],[10])])
def laws_FnExactMeetingOf.B2:List Nat:=[0,0,2,0,14,0,62,127,255,511,511,0,3071,8191]
theorem laws_FnExactMeetingOf.tab2:rtab .any (opsOf Try.f3 2)=laws_FnExactMeetingOf.T2:=by kernel_rfl
theorem laws_FnExactMeetingOf.bits2:waitsOk laws_FnExactMeetingOf.T2.2 laws_FnExactMeetingOf.B2=true:=by kernel_rfl
set_option maxHeartbeats 8000000 in
set_option maxRecDepth 100000 in
theorem laws_FnExactMeetingOf.calls (k:Nat) (a0 a1_0 a1_1 a2_0 a2_1 a3_0 a3_1:Int) (r:Bool) (w:World) (h:laws_FnExactMeetingOf.f k a0 a1_0 a1_1 a2_0 a2_1 a3_0 a3_1=some r) :
  Calls Try.prog 3 #[.int .i64 a0,.agg #[.int .i64 a1_0,.int .i64 a1_1],.agg #[.int .i64 a2_0,.int .i64 a2_1],.agg #[.int .i64 a3_0,.int .i64 a3_1]] w fun e w'=>e=.returned (.bool r)∧Below w.heap.size w w':=by
 have hu23:=Try.underlying23
 have hu25:=Try.underlying25
 have HB:=Aside0.mk (Below.refl w.heap.size w)
 have H:=h
 unfold laws_FnExactMeetingOf.f at H
 clear h
 replace H:=bS H
 obtain ⟨⟨t211,t212⟩,A5,H⟩:=H
 try dsimp only at H
 replace H:=bS H
 obtain ⟨⟨t213,t214⟩,A6,H⟩:=H
 try dsimp only at H
 replace H:=bS H
 obtain ⟨⟨t215,t216⟩,A7,H⟩:=H
 try dsimp only at H
 replace H:=bS H
 obtain ⟨⟨t217,t218,t219,t220⟩,A8,H⟩:=H
 try dsimp only at H
 replace H:=bS H
 obtain ⟨⟨t222,t223⟩,A9,H⟩:=H
 try dsimp only at H
 replace H:=bS H
 obtain ⟨⟨t224,t225⟩,A10,H⟩:=H
 try dsimp only at H
 replace H:=bS H
 obtain ⟨⟨t226,t227⟩,A11,H⟩:=H
 try dsimp only at H
 replace H:=bS H
 obtain ⟨⟨t228,t229,t230,t231⟩,A12,H⟩:=H
 try dsimp only at H
 replace H:=bS H
 obtain ⟨t233,A13,H⟩:=H
 try dsimp only at H
 by_cases c14:t233=true
 rotate_left
 ·
  replace c14:=Bool.eq_false_iff.mpr c14
  subst c14
  rw [if_neg (show ¬ (false=true) by decide)] at H
  try dsimp only at H
  exact absurd H (by simp)
 subst c14
 rw [if_pos rfl] at H
 try dsimp only at H
 by_cases c15:t231=t220
 rotate_left
 ·
  rw [if_neg c15] at H
  exact absurd H (by simp)
 rw [if_pos c15] at H
 have c15b0:(t231 == t220)=true:=beq_iff_eq.mpr c15
 have c15b1:(t231 != t220)=false:=bne_eq_false_iff_eq.mpr c15
 clear c15
 obtain rfl:=Option.some.inj H
 go_enter Try.func3,Try.ntmps3
 try go_wp2_with (first|((with_reducible refine gate_dst (N:=5) rfl ?_);refine bxE (cs:=#[.int .i64 a1_0,.int .i64 a1_1]) (t:=23) ?_;intro gb208 hg w16 hbox hb;have n0_:=lB hb;have n1_:=Aside0.mk hbox;have n2_:=sA hg;have n3_:=sA hg;clear HB;have HB:=n0_;have BK208:=n1_;have GW208:=n2_;have GE208:=n3_;clear n0_ n1_ n2_ n3_;clear hb hbox hg)|((with_reducible refine gate_dst (N:=6) rfl ?_);refine bxE (cs:=#[.int .i64 a2_0,.int .i64 a2_1]) (t:=23) ?_;intro gb209 hg w17 hbox hb;have n0_:=kB BK208 hb;have n1_:=lB hb;have n2_:=Aside0.mk hbox;have n3_:=sA hg;have n4_:=sA hg;have n5_:=nA hg BK208;have n6_:=nB hg BK208;clear BK208;clear HB;have BK208:=n0_;have HB:=n1_;have BK209:=n2_;have GW209:=n3_;have GE209:=n4_;have NB208_209:=n5_;have NB209_208:=n6_;clear n0_ n1_ n2_ n3_ n4_ n5_ n6_;clear hb hbox hg)|((with_reducible refine gate_dst (N:=7) rfl ?_);refine bxE (cs:=#[.int .i64 a3_0,.int .i64 a3_1]) (t:=23) ?_;intro gb210 hg w18 hbox hb;have n0_:=kB BK208 hb;have n1_:=kB BK209 hb;have n2_:=lB hb;have n3_:=Aside0.mk hbox;have n4_:=sA hg;have n5_:=sA hg;have n6_:=nA hg BK208;have n7_:=nB hg BK208;have n8_:=nA hg BK209;have n9_:=nB hg BK209;clear BK208;clear BK209;clear HB;have BK208:=n0_;have BK209:=n1_;have HB:=n2_;have BK210:=n3_;have GW210:=n4_;have GE210:=n5_;have NB208_210:=n6_;have NB210_208:=n7_;have NB209_210:=n8_;have NB210_209:=n9_;clear n0_ n1_ n2_ n3_ n4_ n5_ n6_ n7_ n8_ n9_;clear hb hbox hg))
 have n0_:=Aside0.mk (blk_drew BK208.out)
 have n1_:=Aside0.mk (blk_drew BK209.out)
 have n2_:=Aside0.mk (blk_drew BK210.out)
 have n3_:=Aside0.mk (below_drew1 HB.out)
 clear BK208
 clear BK209
 clear BK210
 clear HB
 have BK208:=n0_
 have BK209:=n1_
 have BK210:=n2_
 have HB:=n3_
 clear n0_ n1_ n2_ n3_
 refine start_ (n:=14) (S:=fun w'=>w'.cell? ⟨gb208,0,none⟩=some (.int .i64 a1_0)∧w'.cell? ⟨gb208,1,none⟩=some (.int .i64 a1_1)∧w'.cell? ⟨gb209,0,none⟩=some (.int .i64 a2_0)∧w'.cell? ⟨gb209,1,none⟩=some (.int .i64 a2_1)∧w'.cell? ⟨gb210,0,none⟩=some (.int .i64 a3_0)∧w'.cell? ⟨gb210,1,none⟩=some (.int .i64 a3_1)) (ds:=[]) #[Z,Z,Z,Z,Z,Z,Z,Z,Z,Z,Z,Z,Z,Z] (by kernel_rfl) rfl rfl ⟨cA BK208 0,cA BK208 1,cA BK209 0,cA BK209 1,cA BK210 0,cA BK210 1⟩ (fun hHeld=>?_);refine with_tabW laws_FnExactMeetingOf.tab1 laws_FnExactMeetingOf.bits1 (fun HT_ HW_=>?_)
 generalize w18.drew=w19 at BK208 BK209 BK210 HB hHeld ⊢
 refine puA (i:=0) (N:=some 14) #[Y,Z,Z,Z,Z,Z,Z,Z,Z,Z,Z,Z,Z,Z] rfl rfl HT_ ?_
 refine taA (i:=1) (N:=some 15) #[Y,Y,Z,Z,Z,Z,Z,Z,Z,Z,Z,Z,Z,Z] rfl rfl HT_ HW_ hHeld ?_
 refine taA (i:=3) (N:=some 17) #[Y,Y,Z,Y,Z,Z,Z,Z,Z,Z,Z,Z,Z,Z] rfl rfl HT_ HW_ hHeld ?_
 refine taA (i:=5) (N:=some 19) #[Y,Y,Z,Y,Z,Y,Z,Z,Z,Z,Z,Z,Z,Z] rfl rfl HT_ HW_ hHeld ?_
 refine join_ (σ:=Nat) 2 #[Y,Y,Y,Y,Y,Y,Y,Y,Y,Y,Y,Y,Z,Z] (fun s_=>[(16,.agg #[.int .i64 t211,.int .i64 t212]),(18,.agg #[.int .i64 t213,.int .i64 t214]),(20,.agg #[.int .i64 t215,.int .i64 t216]),(21,.tuple #[.agg #[.int .i64 t217,.int .i64 t218,.int .i64 t219],.int .i64 t220]),(9,.pointer (some ⟨s_,0,none⟩)),(13,.tuple #[.agg #[.int .i64 t217,.int .i64 t218,.int .i64 t219],.int .i64 t220]),(22,.agg #[.int .i64 t217,.int .i64 t218,.int .i64 t219]),(23,.int .i64 t220)]) (fun s_ w'=>(w'.cell? ⟨gb208,0,none⟩=some (.int .i64 a1_0)∧w'.cell? ⟨gb208,1,none⟩=some (.int .i64 a1_1)∧w'.cell? ⟨gb209,0,none⟩=some (.int .i64 a2_0)∧w'.cell? ⟨gb209,1,none⟩=some (.int .i64 a2_1)∧w'.cell? ⟨gb210,0,none⟩=some (.int .i64 a3_0)∧w'.cell? ⟨gb210,1,none⟩=some (.int .i64 a3_1))∧(w'.heap[gb208]?=some (.cells #[.int .i64 a1_0,.int .i64 a1_1] 23 (0,0)))∧(w'.heap[gb209]?=some (.cells #[.int .i64 a2_0,.int .i64 a2_1] 23 (0,0)))∧(w'.heap[gb210]?=some (.cells #[.int .i64 a3_0,.int .i64 a3_1] 23 (0,0)))∧(w'.heap[s_]?=some (.cells #[.int .i64 0,.int .i64 0,.int .i64 0] 25 (0,0)))∧(w.heap.size≤s_)∧(w.heap.size≤s_)∧(gb208≠s_)∧(s_≠gb208)∧(gb209≠s_)∧(s_≠gb209)∧(gb210≠s_)∧(s_≠gb210)∧(Below w.heap.size w w')) ?_ ?_
 rotate_left
 ·
  intro hJ2_4_6_7_11
  refine join_ (σ:=Unit) 3 #[Y,Y,Y,Y,Y,Y,Y,Y,Y,Y,Y,Z,Z,Z] (fun s_=>[(16,.agg #[.int .i64 t211,.int .i64 t212]),(18,.agg #[.int .i64 t213,.int .i64 t214]),(20,.agg #[.int .i64 t215,.int .i64 t216]),(21,.tuple #[.agg #[.int .i64 t217,.int .i64 t218,.int .i64 t219],.int .i64 t220]),(13,.tuple #[.agg #[.int .i64 t217,.int .i64 t218,.int .i64 t219],.int .i64 t220]),(22,.agg #[.int .i64 t217,.int .i64 t218,.int .i64 t219]),(23,.int .i64 t220)]) (fun s_ w'=>(w'.cell? ⟨gb208,0,none⟩=some (.int .i64 a1_0)∧w'.cell? ⟨gb208,1,none⟩=some (.int .i64 a1_1)∧w'.cell? ⟨gb209,0,none⟩=some (.int .i64 a2_0)∧w'.cell? ⟨gb209,1,none⟩=some (.int .i64 a2_1)∧w'.cell? ⟨gb210,0,none⟩=some (.int .i64 a3_0)∧w'.cell? ⟨gb210,1,none⟩=some (.int .i64 a3_1))∧(w'.heap[gb208]?=some (.cells #[.int .i64 a1_0,.int .i64 a1_1] 23 (0,0)))∧(w'.heap[gb209]?=some (.cells #[.int .i64 a2_0,.int .i64 a2_1] 23 (0,0)))∧(w'.heap[gb210]?=some (.cells #[.int .i64 a3_0,.int .i64 a3_1] 23 (0,0)))∧(Below w.heap.size w w')) ?_ ?_
  rotate_left
  ·
   intro hJ2_4_6_7
   refine join_ (σ:=Nat) 6 #[Y,Y,Y,Y,Y,Y,Y,Z,Z,Z,Z,Y,Z,Z] (fun s_=>[(16,.agg #[.int .i64 t211,.int .i64 t212]),(18,.agg #[.int .i64 t213,.int .i64 t214]),(20,.agg #[.int .i64 t215,.int .i64 t216]),(9,.pointer (some ⟨s_,0,none⟩))]) (fun s_ w'=>(w'.cell? ⟨gb208,0,none⟩=some (.int .i64 a1_0)∧w'.cell? ⟨gb208,1,none⟩=some (.int .i64 a1_1)∧w'.cell? ⟨gb209,0,none⟩=some (.int .i64 a2_0)∧w'.cell? ⟨gb209,1,none⟩=some (.int .i64 a2_1)∧w'.cell? ⟨gb210,0,none⟩=some (.int .i64 a3_0)∧w'.cell? ⟨gb210,1,none⟩=some (.int .i64 a3_1))∧(w'.heap[gb208]?=some (.cells #[.int .i64 a1_0,.int .i64 a1_1] 23 (0,0)))∧(w'.heap[gb209]?=some (.cells #[.int .i64 a2_0,.int .i64 a2_1] 23 (0,0)))∧(w'.heap[gb210]?=some (.cells #[.int .i64 a3_0,.int .i64 a3_1] 23 (0,0)))∧(w'.heap[s_]?=some (.cells #[.int .i64 0,.int .i64 0,.int .i64 0] 25 (0,0)))∧(w.heap.size≤s_)∧(w.heap.size≤s_)∧(gb208≠s_)∧(s_≠gb208)∧(gb209≠s_)∧(s_≠gb209)∧(gb210≠s_)∧(s_≠gb210)∧(Below w.heap.size w w')) ?_ ?_
   rotate_left
   ·
    intro hJ2_4_6_11
    refine join_ (σ:=Unit) 7 #[Y,Y,Y,Y,Y,Y,Y,Z,Z,Z,Z,Z,Z,Z] (fun s_=>[(16,.agg #[.int .i64 t211,.int .i64 t212]),(18,.agg #[.int .i64 t213,.int .i64 t214]),(20,.agg #[.int .i64 t215,.int .i64 t216])]) (fun s_ w'=>(w'.cell? ⟨gb208,0,none⟩=some (.int .i64 a1_0)∧w'.cell? ⟨gb208,1,none⟩=some (.int .i64 a1_1)∧w'.cell? ⟨gb209,0,none⟩=some (.int .i64 a2_0)∧w'.cell? ⟨gb209,1,none⟩=some (.int .i64 a2_1)∧w'.cell? ⟨gb210,0,none⟩=some (.int .i64 a3_0)∧w'.cell? ⟨gb210,1,none⟩=some (.int .i64 a3_1))∧(w'.heap[gb208]?=some (.cells #[.int .i64 a1_0,.int .i64 a1_1] 23 (0,0)))∧(w'.heap[gb209]?=some (.cells #[.int .i64 a2_0,.int .i64 a2_1] 23 (0,0)))∧(w'.heap[gb210]?=some (.cells #[.int .i64 a3_0,.int .i64 a3_1] 23 (0,0)))∧(Below w.heap.size w w')) ?_ ?_
    rotate_left
    ·
     intro hJ2_4_6
     refine join_ (σ:=Nat) 7 #[Y,Y,Y,Y,Y,Y,Z,Z,Z,Z,Z,Y,Z,Z] (fun s_=>[(16,.agg #[.int .i64 t211,.int .i64 t212]),(18,.agg #[.int .i64 t213,.int .i64 t214]),(9,.pointer (some ⟨s_,0,none⟩))]) (fun s_ w'=>(w'.cell? ⟨gb208,0,none⟩=some (.int .i64 a1_0)∧w'.cell? ⟨gb208,1,none⟩=some (.int .i64 a1_1)∧w'.cell? ⟨gb209,0,none⟩=some (.int .i64 a2_0)∧w'.cell? ⟨gb209,1,none⟩=some (.int .i64 a2_1)∧w'.cell? ⟨gb210,0,none⟩=some (.int .i64 a3_0)∧w'.cell? ⟨gb210,1,none⟩=some (.int .i64 a3_1))∧(w'.heap[gb208]?=some (.cells #[.int .i64 a1_0,.int .i64 a1_1] 23 (0,0)))∧(w'.heap[gb209]?=some (.cells #[.int .i64 a2_0,.int .i64 a2_1] 23 (0,0)))∧(w'.heap[gb210]?=some (.cells #[.int .i64 a3_0,.int .i64 a3_1] 23 (0,0)))∧(w'.heap[s_]?=some (.cells #[.int .i64 0,.int .i64 0,.int .i64 0] 25 (0,0)))∧(w.heap.size≤s_)∧(w.heap.size≤s_)∧(gb208≠s_)∧(s_≠gb208)∧(gb209≠s_)∧(s_≠gb209)∧(gb210≠s_)∧(s_≠gb210)∧(Below w.heap.size w w')) ?_ ?_
     rotate_left
     ·
      intro hJ2_4_11
      refine join_ (σ:=Unit) 8 #[Y,Y,Y,Y,Y,Y,Z,Z,Z,Z,Z,Z,Z,Z] (fun s_=>[(16,.agg #[.int .i64 t211,.int .i64 t212]),(18,.agg #[.int .i64 t213,.int .i64 t214])]) (fun s_ w'=>(w'.cell? ⟨gb208,0,none⟩=some (.int .i64 a1_0)∧w'.cell? ⟨gb208,1,none⟩=some (.int .i64 a1_1)∧w'.cell? ⟨gb209,0,none⟩=some (.int .i64 a2_0)∧w'.cell? ⟨gb209,1,none⟩=some (.int .i64 a2_1)∧w'.cell? ⟨gb210,0,none⟩=some (.int .i64 a3_0)∧w'.cell? ⟨gb210,1,none⟩=some (.int .i64 a3_1))∧(w'.heap[gb208]?=some (.cells #[.int .i64 a1_0,.int .i64 a1_1] 23 (0,0)))∧(w'.heap[gb209]?=some (.cells #[.int .i64 a2_0,.int .i64 a2_1] 23 (0,0)))∧(w'.heap[gb210]?=some (.cells #[.int .i64 a3_0,.int .i64 a3_1] 23 (0,0)))∧(Below w.heap.size w w')) ?_ ?_
      rotate_left
      ·
       intro hJ2_4
       refine join_ (σ:=Nat) 8 #[Y,Y,Y,Y,Z,Y,Z,Z,Z,Z,Z,Y,Z,Z] (fun s_=>[(16,.agg #[.int .i64 t211,.int .i64 t212]),(9,.pointer (some ⟨s_,0,none⟩))]) (fun s_ w'=>(w'.cell? ⟨gb208,0,none⟩=some (.int .i64 a1_0)∧w'.cell? ⟨gb208,1,none⟩=some (.int .i64 a1_1)∧w'.cell? ⟨gb209,0,none⟩=some (.int .i64 a2_0)∧w'.cell? ⟨gb209,1,none⟩=some (.int .i64 a2_1)∧w'.cell? ⟨gb210,0,none⟩=some (.int .i64 a3_0)∧w'.cell? ⟨gb210,1,none⟩=some (.int .i64 a3_1))∧(w'.heap[gb208]?=some (.cells #[.int .i64 a1_0,.int .i64 a1_1] 23 (0,0)))∧(w'.heap[gb209]?=some (.cells #[.int .i64 a2_0,.int .i64 a2_1] 23 (0,0)))∧(w'.heap[gb210]?=some (.cells #[.int .i64 a3_0,.int .i64 a3_1] 23 (0,0)))∧(w'.heap[s_]?=some (.cells #[.int .i64 0,.int .i64 0,.int .i64 0] 25 (0,0)))∧(w.heap.size≤s_)∧(w.heap.size≤s_)∧(gb208≠s_)∧(s_≠gb208)∧(gb209≠s_)∧(s_≠gb209)∧(gb210≠s_)∧(s_≠gb210)∧(Below w.heap.size w w')) ?_ ?_
       rotate_left
       ·
        intro hJ2_11
        refine join_ (σ:=Unit) 9 #[Y,Y,Y,Y,Z,Y,Z,Z,Z,Z,Z,Z,Z,Z] (fun s_=>[(16,.agg #[.int .i64 t211,.int .i64 t212])]) (fun s_ w'=>(w'.cell? ⟨gb208,0,none⟩=some (.int .i64 a1_0)∧w'.cell? ⟨gb208,1,none⟩=some (.int .i64 a1_1)∧w'.cell? ⟨gb209,0,none⟩=some (.int .i64 a2_0)∧w'.cell? ⟨gb209,1,none⟩=some (.int .i64 a2_1)∧w'.cell? ⟨gb210,0,none⟩=some (.int .i64 a3_0)∧w'.cell? ⟨gb210,1,none⟩=some (.int .i64 a3_1))∧(w'.heap[gb208]?=some (.cells #[.int .i64 a1_0,.int .i64 a1_1] 23 (0,0)))∧(w'.heap[gb209]?=some (.cells #[.int .i64 a2_0,.int .i64 a2_1] 23 (0,0)))∧(w'.heap[gb210]?=some (.cells #[.int .i64 a3_0,.int .i64 a3_1] 23 (0,0)))∧(Below w.heap.size w w')) ?_ ?_
        rotate_left
        ·
         intro hJ2
         refine join_ (σ:=Nat) 9 #[Y,Y,Z,Y,Z,Y,Z,Z,Z,Z,Z,Y,Z,Z] (fun s_=>[(9,.pointer (some ⟨s_,0,none⟩))]) (fun s_ w'=>(w'.cell? ⟨gb208,0,none⟩=some (.int .i64 a1_0)∧w'.cell? ⟨gb208,1,none⟩=some (.int .i64 a1_1)∧w'.cell? ⟨gb209,0,none⟩=some (.int .i64 a2_0)∧w'.cell? ⟨gb209,1,none⟩=some (.int .i64 a2_1)∧w'.cell? ⟨gb210,0,none⟩=some (.int .i64 a3_0)∧w'.cell? ⟨gb210,1,none⟩=some (.int .i64 a3_1))∧(w'.heap[gb208]?=some (.cells #[.int .i64 a1_0,.int .i64 a1_1] 23 (0,0)))∧(w'.heap[gb209]?=some (.cells #[.int .i64 a2_0,.int .i64 a2_1] 23 (0,0)))∧(w'.heap[gb210]?=some (.cells #[.int .i64 a3_0,.int .i64 a3_1] 23 (0,0)))∧(w'.heap[s_]?=some (.cells #[.int .i64 0,.int .i64 0,.int .i64 0] 25 (0,0)))∧(w.heap.size≤s_)∧(w.heap.size≤s_)∧(gb208≠s_)∧(s_≠gb208)∧(gb209≠s_)∧(s_≠gb209)∧(gb210≠s_)∧(s_≠gb210)∧(Below w.heap.size w w')) ?_ ?_
         rotate_left
         ·
          intro hJ11
          refine two_ (i:=2) (j:=11) (Ni:=some 16) (Nj:=some 9) #[Y,Y,Y,Y,Z,Y,Z,Z,Z,Z,Z,Z,Z,Z] #[Y,Y,Z,Y,Z,Y,Z,Z,Z,Z,Z,Y,Z,Z] rfl rfl rfl rfl (two_of HT_.out (by kernel_rfl)) (by decide) (by decide) (fun K hK=>?_) (fun K hK=>?_)
          ·
           skip
           refine goC Try.func6 (laws_toEnd.calls (w:=_) (h:=A5.out)) ?_
           intro w20 hb
           replace BK208:=kB BK208 hb
           replace BK209:=kB BK209 hb
           replace BK210:=kB BK210 hb
           replace HB:=lB hb
           (try clear hb)
           (try clear hb2)
           (try clear hk)
           (try clear hi)
           refine hK.out _ _ ⟨cA BK208 0,cA BK208 1,cA BK209 0,cA BK209 1,cA BK210 0,cA BK210 1⟩ (fun hHeld=>?_)
           clear hK K
           refine nmA ?_
           exact norm_ (by first|(simp only [putAll,Act.put,List.setIfInBounds_toArray,List.set_cons_zero,List.set_cons_succ];done)|(simp only [putAll,Act.put,List.setIfInBounds_toArray,List.set_cons_zero,List.set_cons_succ];rfl)) (hJ2 () _ ⟨hHeld,(bkA BK208),(bkA BK209),(bkA BK210),blA⟩)
          ·
           skip
           refine box_step ?hg (N:=9) ?hd (cs:=#[.int .i64 0,.int .i64 0,.int .i64 0]) (t:=25) ?hr ?_;(case hd=>rfl);(case hg=>rfl);(case hr=>first|(go_simp;done)|(go_simp;rfl))
           intro gb221 hg w20 hbox hb
           have BK221:=Aside0.mk hbox
           have GW221:=sA hg
           have GE221:=sA hg
           have NB208_221:=nA hg BK208
           have NB221_208:=nB hg BK208
           have NB209_221:=nA hg BK209
           have NB221_209:=nB hg BK209
           have NB210_221:=nA hg BK210
           have NB221_210:=nB hg BK210
           replace BK208:=kB BK208 hb
           replace BK209:=kB BK209 hb
           replace BK210:=kB BK210 hb
           replace HB:=lB hb
           clear hb hbox hg
           refine hK.out _ _ ⟨cA BK208 0,cA BK208 1,cA BK209 0,cA BK209 1,cA BK210 0,cA BK210 1⟩ (fun hHeld=>?_)
           clear hK K
           refine nmA ?_
           exact norm_ (by first|(simp only [putAll,Act.put,List.setIfInBounds_toArray,List.set_cons_zero,List.set_cons_succ];done)|(simp only [putAll,Act.put,List.setIfInBounds_toArray,List.set_cons_zero,List.set_cons_succ];rfl)) (hJ11 (gb221) _ ⟨hHeld,(bkA BK208),(bkA BK209),(bkA BK210),(bkA BK221),GW221.out,GE221.out,NB208_221.out,NB221_208.out,NB209_221.out,NB221_209.out,NB210_221.out,NB221_210.out,blA⟩)
         ·
          skip
          rintro gb221 w21 ⟨hS_,h0_,h1_,h2_,h3_,h4_,h5_,h6_,h7_,h8_,h9_,h10_,h11_,h12_⟩
          have BK221:=Aside0.mk h3_
          have GW221:=Aside0.mk h4_
          have GE221:=Aside0.mk h5_
          have NB208_221:=Aside0.mk h6_
          have NB221_208:=Aside0.mk h7_
          have NB209_221:=Aside0.mk h8_
          have NB221_209:=Aside0.mk h9_
          have NB210_221:=Aside0.mk h10_
          have NB221_210:=Aside0.mk h11_
          replace BK208:=Aside0.mk h0_
          replace BK209:=Aside0.mk h1_
          replace BK210:=Aside0.mk h2_
          replace HB:=Aside0.mk h12_
          clear h0_ h1_ h2_ h3_ h4_ h5_ h6_ h7_ h8_ h9_ h10_ h11_ h12_
          have hHeld:w21.cell? ⟨gb208,0,none⟩=some (.int .i64 a1_0)∧w21.cell? ⟨gb208,1,none⟩=some (.int .i64 a1_1)∧w21.cell? ⟨gb209,0,none⟩=some (.int .i64 a2_0)∧w21.cell? ⟨gb209,1,none⟩=some (.int .i64 a2_1)∧w21.cell? ⟨gb210,0,none⟩=some (.int .i64 a3_0)∧w21.cell? ⟨gb210,1,none⟩=some (.int .i64 a3_1):=hS_
          refine norm_ (a':=?_) ?_ ?_
          rotate_left
          ·
           simp only [putAll,Act.put,List.setIfInBounds_toArray,List.set_cons_zero,List.set_cons_succ]
           rfl
          refine one_ (i:=2) (N:=some 16) #[Y,Y,Y,Y,Z,Y,Z,Z,Z,Z,Z,Y,Z,Z] rfl rfl (one_of HT_.out (by kernel_rfl)) (by decide) (fun K hK=>?_)
          refine goC Try.func6 (laws_toEnd.calls (w:=_) (h:=A5.out)) ?_
          intro w22 hb
          replace BK208:=kB BK208 hb
          replace BK209:=kB BK209 hb
          replace BK210:=kB BK210 hb
          replace BK221:=kB BK221 hb
          replace HB:=lB hb
          (try clear hb)
          (try clear hb2)
          (try clear hk)
          (try clear hi)
          refine hK.out _ _ ⟨cA BK208 0,cA BK208 1,cA BK209 0,cA BK209 1,cA BK210 0,cA BK210 1⟩ (fun hHeld=>?_)
          clear hK K
          refine nmA ?_
          exact norm_ (by first|(simp only [putAll,Act.put,List.setIfInBounds_toArray,List.set_cons_zero,List.set_cons_succ];done)|(simp only [putAll,Act.put,List.setIfInBounds_toArray,List.set_cons_zero,List.set_cons_succ];rfl)) (hJ2_11 (gb221) _ ⟨hHeld,(bkA BK208),(bkA BK209),(bkA BK210),(bkA BK221),GW221.out,GE221.out,NB208_221.out,NB221_208.out,NB209_221.out,NB221_209.out,NB210_221.out,NB221_210.out,blA⟩)
        ·
         skip
         rintro _ w21 ⟨hS_,h0_,h1_,h2_,h3_⟩
         replace BK208:=Aside0.mk h0_
         replace BK209:=Aside0.mk h1_
         replace BK210:=Aside0.mk h2_
         replace HB:=Aside0.mk h3_
         clear h0_ h1_ h2_ h3_
         have hHeld:w21.cell? ⟨gb208,0,none⟩=some (.int .i64 a1_0)∧w21.cell? ⟨gb208,1,none⟩=some (.int .i64 a1_1)∧w21.cell? ⟨gb209,0,none⟩=some (.int .i64 a2_0)∧w21.cell? ⟨gb209,1,none⟩=some (.int .i64 a2_1)∧w21.cell? ⟨gb210,0,none⟩=some (.int .i64 a3_0)∧w21.cell? ⟨gb210,1,none⟩=some (.int .i64 a3_1):=hS_
         refine norm_ (a':=?_) ?_ ?_
         rotate_left
         ·
          simp only [putAll,Act.put,List.setIfInBounds_toArray,List.set_cons_zero,List.set_cons_succ]
          rfl
         refine two_ (i:=4) (j:=11) (Ni:=some 18) (Nj:=some 9) #[Y,Y,Y,Y,Y,Y,Z,Z,Z,Z,Z,Z,Z,Z] #[Y,Y,Y,Y,Z,Y,Z,Z,Z,Z,Z,Y,Z,Z] rfl rfl rfl rfl (two_of HT_.out (by kernel_rfl)) (by decide) (by decide) (fun K hK=>?_) (fun K hK=>?_)
         ·
          skip
          refine goC Try.func6 (laws_toEnd.calls (w:=_) (h:=A6.out)) ?_
          intro w22 hb
          replace BK208:=kB BK208 hb
          replace BK209:=kB BK209 hb
          replace BK210:=kB BK210 hb
          replace HB:=lB hb
          (try clear hb)
          (try clear hb2)
          (try clear hk)
          (try clear hi)
          refine hK.out _ _ ⟨cA BK208 0,cA BK208 1,cA BK209 0,cA BK209 1,cA BK210 0,cA BK210 1⟩ (fun hHeld=>?_)
          clear hK K
          refine nmA ?_
          exact norm_ (by first|(simp only [putAll,Act.put,List.setIfInBounds_toArray,List.set_cons_zero,List.set_cons_succ];done)|(simp only [putAll,Act.put,List.setIfInBounds_toArray,List.set_cons_zero,List.set_cons_succ];rfl)) (hJ2_4 () _ ⟨hHeld,(bkA BK208),(bkA BK209),(bkA BK210),blA⟩)
         ·
          skip
          refine box_step ?hg (N:=9) ?hd (cs:=#[.int .i64 0,.int .i64 0,.int .i64 0]) (t:=25) ?hr ?_;(case hd=>rfl);(case hg=>rfl);(case hr=>first|(go_simp;done)|(go_simp;rfl))
          intro gb221 hg w22 hbox hb
          have BK221:=Aside0.mk hbox
          have GW221:=sA hg
          have GE221:=sA hg
          have NB208_221:=nA hg BK208
          have NB221_208:=nB hg BK208
          have NB209_221:=nA hg BK209
          have NB221_209:=nB hg BK209
          have NB210_221:=nA hg BK210
          have NB221_210:=nB hg BK210
          replace BK208:=kB BK208 hb
          replace BK209:=kB BK209 hb
          replace BK210:=kB BK210 hb
          replace HB:=lB hb
          clear hb hbox hg
          refine hK.out _ _ ⟨cA BK208 0,cA BK208 1,cA BK209 0,cA BK209 1,cA BK210 0,cA BK210 1⟩ (fun hHeld=>?_)
          clear hK K
          refine nmA ?_
          exact norm_ (by first|(simp only [putAll,Act.put,List.setIfInBounds_toArray,List.set_cons_zero,List.set_cons_succ];done)|(simp only [putAll,Act.put,List.setIfInBounds_toArray,List.set_cons_zero,List.set_cons_succ];rfl)) (hJ2_11 (gb221) _ ⟨hHeld,(bkA BK208),(bkA BK209),(bkA BK210),(bkA BK221),GW221.out,GE221.out,NB208_221.out,NB221_208.out,NB209_221.out,NB221_209.out,NB210_221.out,NB221_210.out,blA⟩)
       ·
        skip
        rintro gb221 w22 ⟨hS_,h0_,h1_,h2_,h3_,h4_,h5_,h6_,h7_,h8_,h9_,h10_,h11_,h12_⟩
        have BK221:=Aside0.mk h3_
        have GW221:=Aside0.mk h4_
        have GE221:=Aside0.mk h5_
        have NB208_221:=Aside0.mk h6_
        have NB221_208:=Aside0.mk h7_
        have NB209_221:=Aside0.mk h8_
        have NB221_209:=Aside0.mk h9_
        have NB210_221:=Aside0.mk h10_
        have NB221_210:=Aside0.mk h11_
        replace BK208:=Aside0.mk h0_
        replace BK209:=Aside0.mk h1_
        replace BK210:=Aside0.mk h2_
        replace HB:=Aside0.mk h12_
        clear h0_ h1_ h2_ h3_ h4_ h5_ h6_ h7_ h8_ h9_ h10_ h11_ h12_
        have hHeld:w22.cell? ⟨gb208,0,none⟩=some (.int .i64 a1_0)∧w22.cell? ⟨gb208,1,none⟩=some (.int .i64 a1_1)∧w22.cell? ⟨gb209,0,none⟩=some (.int .i64 a2_0)∧w22.cell? ⟨gb209,1,none⟩=some (.int .i64 a2_1)∧w22.cell? ⟨gb210,0,none⟩=some (.int .i64 a3_0)∧w22.cell? ⟨gb210,1,none⟩=some (.int .i64 a3_1):=hS_
        refine norm_ (a':=?_) ?_ ?_
        rotate_left
        ·
         simp only [putAll,Act.put,List.setIfInBounds_toArray,List.set_cons_zero,List.set_cons_succ]
         rfl
        refine one_ (i:=4) (N:=some 18) #[Y,Y,Y,Y,Y,Y,Z,Z,Z,Z,Z,Y,Z,Z] rfl rfl (one_of HT_.out (by kernel_rfl)) (by decide) (fun K hK=>?_)
        refine goC Try.func6 (laws_toEnd.calls (w:=_) (h:=A6.out)) ?_
        intro w23 hb
        replace BK208:=kB BK208 hb
        replace BK209:=kB BK209 hb
        replace BK210:=kB BK210 hb
        replace BK221:=kB BK221 hb
        replace HB:=lB hb
        (try clear hb)
        (try clear hb2)
        (try clear hk)
        (try clear hi)
        refine hK.out _ _ ⟨cA BK208 0,cA BK208 1,cA BK209 0,cA BK209 1,cA BK210 0,cA BK210 1⟩ (fun hHeld=>?_)
        clear hK K
        refine nmA ?_
        exact norm_ (by first|(simp only [putAll,Act.put,List.setIfInBounds_toArray,List.set_cons_zero,List.set_cons_succ];done)|(simp only [putAll,Act.put,List.setIfInBounds_toArray,List.set_cons_zero,List.set_cons_succ];rfl)) (hJ2_4_11 (gb221) _ ⟨hHeld,(bkA BK208),(bkA BK209),(bkA BK210),(bkA BK221),GW221.out,GE221.out,NB208_221.out,NB221_208.out,NB209_221.out,NB221_209.out,NB210_221.out,NB221_210.out,blA⟩)
      ·
       skip
       rintro _ w22 ⟨hS_,h0_,h1_,h2_,h3_⟩
       replace BK208:=Aside0.mk h0_
       replace BK209:=Aside0.mk h1_
       replace BK210:=Aside0.mk h2_
       replace HB:=Aside0.mk h3_
       clear h0_ h1_ h2_ h3_
       have hHeld:w22.cell? ⟨gb208,0,none⟩=some (.int .i64 a1_0)∧w22.cell? ⟨gb208,1,none⟩=some (.int .i64 a1_1)∧w22.cell? ⟨gb209,0,none⟩=some (.int .i64 a2_0)∧w22.cell? ⟨gb209,1,none⟩=some (.int .i64 a2_1)∧w22.cell? ⟨gb210,0,none⟩=some (.int .i64 a3_0)∧w22.cell? ⟨gb210,1,none⟩=some (.int .i64 a3_1):=hS_
       refine norm_ (a':=?_) ?_ ?_
       rotate_left
       ·
        simp only [putAll,Act.put,List.setIfInBounds_toArray,List.set_cons_zero,List.set_cons_succ]
        rfl
       refine two_ (i:=6) (j:=11) (Ni:=some 20) (Nj:=some 9) #[Y,Y,Y,Y,Y,Y,Y,Z,Z,Z,Z,Z,Z,Z] #[Y,Y,Y,Y,Y,Y,Z,Z,Z,Z,Z,Y,Z,Z] rfl rfl rfl rfl (two_of HT_.out (by kernel_rfl)) (by decide) (by decide) (fun K hK=>?_) (fun K hK=>?_)
       ·
        skip
        refine goC Try.func6 (laws_toEnd.calls (w:=_) (h:=A7.out)) ?_
        intro w23 hb
        replace BK208:=kB BK208 hb
        replace BK209:=kB BK209 hb
        replace BK210:=kB BK210 hb
        replace HB:=lB hb
        (try clear hb)
        (try clear hb2)
        (try clear hk)
        (try clear hi)
        refine hK.out _ _ ⟨cA BK208 0,cA BK208 1,cA BK209 0,cA BK209 1,cA BK210 0,cA BK210 1⟩ (fun hHeld=>?_)
        clear hK K
        refine nmA ?_
        exact norm_ (by first|(simp only [putAll,Act.put,List.setIfInBounds_toArray,List.set_cons_zero,List.set_cons_succ];done)|(simp only [putAll,Act.put,List.setIfInBounds_toArray,List.set_cons_zero,List.set_cons_succ];rfl)) (hJ2_4_6 () _ ⟨hHeld,(bkA BK208),(bkA BK209),(bkA BK210),blA⟩)
       ·
        skip
        refine box_step ?hg (N:=9) ?hd (cs:=#[.int .i64 0,.int .i64 0,.int .i64 0]) (t:=25) ?hr ?_;(case hd=>rfl);(case hg=>rfl);(case hr=>first|(go_simp;done)|(go_simp;rfl))
        intro gb221 hg w23 hbox hb
        have BK221:=Aside0.mk hbox
        have GW221:=sA hg
        have GE221:=sA hg
        have NB208_221:=nA hg BK208
        have NB221_208:=nB hg BK208
        have NB209_221:=nA hg BK209
        have NB221_209:=nB hg BK209
        have NB210_221:=nA hg BK210
        have NB221_210:=nB hg BK210
        replace BK208:=kB BK208 hb
        replace BK209:=kB BK209 hb
        replace BK210:=kB BK210 hb
        replace HB:=lB hb
        clear hb hbox hg
        refine hK.out _ _ ⟨cA BK208 0,cA BK208 1,cA BK209 0,cA BK209 1,cA BK210 0,cA BK210 1⟩ (fun hHeld=>?_)
        clear hK K
        refine nmA ?_
        exact norm_ (by first|(simp only [putAll,Act.put,List.setIfInBounds_toArray,List.set_cons_zero,List.set_cons_succ];done)|(simp only [putAll,Act.put,List.setIfInBounds_toArray,List.set_cons_zero,List.set_cons_succ];rfl)) (hJ2_4_11 (gb221) _ ⟨hHeld,(bkA BK208),(bkA BK209),(bkA BK210),(bkA BK221),GW221.out,GE221.out,NB208_221.out,NB221_208.out,NB209_221.out,NB221_209.out,NB210_221.out,NB221_210.out,blA⟩)
     ·
      skip
      rintro gb221 w23 ⟨hS_,h0_,h1_,h2_,h3_,h4_,h5_,h6_,h7_,h8_,h9_,h10_,h11_,h12_⟩
      have BK221:=Aside0.mk h3_
      have GW221:=Aside0.mk h4_
      have GE221:=Aside0.mk h5_
      have NB208_221:=Aside0.mk h6_
      have NB221_208:=Aside0.mk h7_
      have NB209_221:=Aside0.mk h8_
      have NB221_209:=Aside0.mk h9_
      have NB210_221:=Aside0.mk h10_
      have NB221_210:=Aside0.mk h11_
      replace BK208:=Aside0.mk h0_
      replace BK209:=Aside0.mk h1_
      replace BK210:=Aside0.mk h2_
      replace HB:=Aside0.mk h12_
      clear h0_ h1_ h2_ h3_ h4_ h5_ h6_ h7_ h8_ h9_ h10_ h11_ h12_
      have hHeld:w23.cell? ⟨gb208,0,none⟩=some (.int .i64 a1_0)∧w23.cell? ⟨gb208,1,none⟩=some (.int .i64 a1_1)∧w23.cell? ⟨gb209,0,none⟩=some (.int .i64 a2_0)∧w23.cell? ⟨gb209,1,none⟩=some (.int .i64 a2_1)∧w23.cell? ⟨gb210,0,none⟩=some (.int .i64 a3_0)∧w23.cell? ⟨gb210,1,none⟩=some (.int .i64 a3_1):=hS_
      refine norm_ (a':=?_) ?_ ?_
      rotate_left
      ·
       simp only [putAll,Act.put,List.setIfInBounds_toArray,List.set_cons_zero,List.set_cons_succ]
       rfl
      refine one_ (i:=6) (N:=some 20) #[Y,Y,Y,Y,Y,Y,Y,Z,Z,Z,Z,Y,Z,Z] rfl rfl (one_of HT_.out (by kernel_rfl)) (by decide) (fun K hK=>?_)
      refine goC Try.func6 (laws_toEnd.calls (w:=_) (h:=A7.out)) ?_
      intro w24 hb
      replace BK208:=kB BK208 hb
      replace BK209:=kB BK209 hb
      replace BK210:=kB BK210 hb
      replace BK221:=kB BK221 hb
      replace HB:=lB hb
      (try clear hb)
      (try clear hb2)
      (try clear hk)
      (try clear hi)
      refine hK.out _ _ ⟨cA BK208 0,cA BK208 1,cA BK209 0,cA BK209 1,cA BK210 0,cA BK210 1⟩ (fun hHeld=>?_)
      clear hK K
      refine nmA ?_
      exact norm_ (by first|(simp only [putAll,Act.put,List.setIfInBounds_toArray,List.set_cons_zero,List.set_cons_succ];done)|(simp only [putAll,Act.put,List.setIfInBounds_toArray,List.set_cons_zero,List.set_cons_succ];rfl)) (hJ2_4_6_11 (gb221) _ ⟨hHeld,(bkA BK208),(bkA BK209),(bkA BK210),(bkA BK221),GW221.out,GE221.out,NB208_221.out,NB221_208.out,NB209_221.out,NB221_209.out,NB210_221.out,NB221_210.out,blA⟩)
    ·
     skip
     rintro _ w23 ⟨hS_,h0_,h1_,h2_,h3_⟩
     replace BK208:=Aside0.mk h0_
     replace BK209:=Aside0.mk h1_
     replace BK210:=Aside0.mk h2_
     replace HB:=Aside0.mk h3_
     clear h0_ h1_ h2_ h3_
     have hHeld:w23.cell? ⟨gb208,0,none⟩=some (.int .i64 a1_0)∧w23.cell? ⟨gb208,1,none⟩=some (.int .i64 a1_1)∧w23.cell? ⟨gb209,0,none⟩=some (.int .i64 a2_0)∧w23.cell? ⟨gb209,1,none⟩=some (.int .i64 a2_1)∧w23.cell? ⟨gb210,0,none⟩=some (.int .i64 a3_0)∧w23.cell? ⟨gb210,1,none⟩=some (.int .i64 a3_1):=hS_
     refine norm_ (a':=?_) ?_ ?_
     rotate_left
     ·
      simp only [putAll,Act.put,List.setIfInBounds_toArray,List.set_cons_zero,List.set_cons_succ]
      rfl
     refine two_ (i:=7) (j:=11) (Ni:=some 21) (Nj:=some 9) #[Y,Y,Y,Y,Y,Y,Y,Y,Z,Z,Z,Z,Z,Z] #[Y,Y,Y,Y,Y,Y,Y,Z,Z,Z,Z,Y,Z,Z] rfl rfl rfl rfl (two_of HT_.out (by kernel_rfl)) (by decide) (by decide) (fun K hK=>?_) (fun K hK=>?_)
     ·
      skip
      refine goC Try.func5 (spec_MeetingOf.calls (w:=_) (h:=A8.out)) ?_
      intro w24 hb
      replace BK208:=kB BK208 hb
      replace BK209:=kB BK209 hb
      replace BK210:=kB BK210 hb
      replace HB:=lB hb
      (try clear hb)
      (try clear hb2)
      (try clear hk)
      (try clear hi)
      refine hK.out _ _ ⟨cA BK208 0,cA BK208 1,cA BK209 0,cA BK209 1,cA BK210 0,cA BK210 1⟩ (fun hHeld=>?_)
      clear hK K
      refine nmA ?_
      refine puA (i:=8) (N:=some 13) #[Y,Y,Y,Y,Y,Y,Y,Y,Y,Z,Z,Z,Z,Z] rfl rfl HT_ ?_
      refine puA (i:=9) (N:=some 22) #[Y,Y,Y,Y,Y,Y,Y,Y,Y,Y,Z,Z,Z,Z] rfl rfl HT_ ?_
      refine puA (i:=10) (N:=some 23) #[Y,Y,Y,Y,Y,Y,Y,Y,Y,Y,Y,Z,Z,Z] rfl rfl HT_ ?_
      exact norm_ (by first|(simp only [putAll,Act.put,List.setIfInBounds_toArray,List.set_cons_zero,List.set_cons_succ];done)|(simp only [putAll,Act.put,List.setIfInBounds_toArray,List.set_cons_zero,List.set_cons_succ];rfl)) (hJ2_4_6_7 () _ ⟨hHeld,(bkA BK208),(bkA BK209),(bkA BK210),blA⟩)
     ·
      skip
      refine box_step ?hg (N:=9) ?hd (cs:=#[.int .i64 0,.int .i64 0,.int .i64 0]) (t:=25) ?hr ?_;(case hd=>rfl);(case hg=>rfl);(case hr=>first|(go_simp;done)|(go_simp;rfl))
      intro gb221 hg w24 hbox hb
      have BK221:=Aside0.mk hbox
      have GW221:=sA hg
      have GE221:=sA hg
      have NB208_221:=nA hg BK208
      have NB221_208:=nB hg BK208
      have NB209_221:=nA hg BK209
      have NB221_209:=nB hg BK209
      have NB210_221:=nA hg BK210
      have NB221_210:=nB hg BK210
      replace BK208:=kB BK208 hb
      replace BK209:=kB BK209 hb
      replace BK210:=kB BK210 hb
      replace HB:=lB hb
      clear hb hbox hg
      refine hK.out _ _ ⟨cA BK208 0,cA BK208 1,cA BK209 0,cA BK209 1,cA BK210 0,cA BK210 1⟩ (fun hHeld=>?_)
      clear hK K
      refine nmA ?_
      exact norm_ (by first|(simp only [putAll,Act.put,List.setIfInBounds_toArray,List.set_cons_zero,List.set_cons_succ];done)|(simp only [putAll,Act.put,List.setIfInBounds_toArray,List.set_cons_zero,List.set_cons_succ];rfl)) (hJ2_4_6_11 (gb221) _ ⟨hHeld,(bkA BK208),(bkA BK209),(bkA BK210),(bkA BK221),GW221.out,GE221.out,NB208_221.out,NB221_208.out,NB209_221.out,NB221_209.out,NB210_221.out,NB221_210.out,blA⟩)
   ·
    skip
    rintro gb221 w24 ⟨hS_,h0_,h1_,h2_,h3_,h4_,h5_,h6_,h7_,h8_,h9_,h10_,h11_,h12_⟩
    have BK221:=Aside0.mk h3_
    have GW221:=Aside0.mk h4_
    have GE221:=Aside0.mk h5_
    have NB208_221:=Aside0.mk h6_
    have NB221_208:=Aside0.mk h7_
    have NB209_221:=Aside0.mk h8_
    have NB221_209:=Aside0.mk h9_
    have NB210_221:=Aside0.mk h10_
    have NB221_210:=Aside0.mk h11_
    replace BK208:=Aside0.mk h0_
    replace BK209:=Aside0.mk h1_
    replace BK210:=Aside0.mk h2_
    replace HB:=Aside0.mk h12_
    clear h0_ h1_ h2_ h3_ h4_ h5_ h6_ h7_ h8_ h9_ h10_ h11_ h12_
    have hHeld:w24.cell? ⟨gb208,0,none⟩=some (.int .i64 a1_0)∧w24.cell? ⟨gb208,1,none⟩=some (.int .i64 a1_1)∧w24.cell? ⟨gb209,0,none⟩=some (.int .i64 a2_0)∧w24.cell? ⟨gb209,1,none⟩=some (.int .i64 a2_1)∧w24.cell? ⟨gb210,0,none⟩=some (.int .i64 a3_0)∧w24.cell? ⟨gb210,1,none⟩=some (.int .i64 a3_1):=hS_
    refine norm_ (a':=?_) ?_ ?_
    rotate_left
    ·
     simp only [putAll,Act.put,List.setIfInBounds_toArray,List.set_cons_zero,List.set_cons_succ]
     rfl
    refine one_ (i:=7) (N:=some 21) #[Y,Y,Y,Y,Y,Y,Y,Y,Z,Z,Z,Y,Z,Z] rfl rfl (one_of HT_.out (by kernel_rfl)) (by decide) (fun K hK=>?_)
    refine goC Try.func5 (spec_MeetingOf.calls (w:=_) (h:=A8.out)) ?_
    intro w25 hb
    replace BK208:=kB BK208 hb
    replace BK209:=kB BK209 hb
    replace BK210:=kB BK210 hb
    replace BK221:=kB BK221 hb
    replace HB:=lB hb
    (try clear hb)
    (try clear hb2)
    (try clear hk)
    (try clear hi)
    refine hK.out _ _ ⟨cA BK208 0,cA BK208 1,cA BK209 0,cA BK209 1,cA BK210 0,cA BK210 1⟩ (fun hHeld=>?_)
    clear hK K
    refine nmA ?_
    refine puA (i:=8) (N:=some 13) #[Y,Y,Y,Y,Y,Y,Y,Y,Y,Z,Z,Y,Z,Z] rfl rfl HT_ ?_
    refine puA (i:=9) (N:=some 22) #[Y,Y,Y,Y,Y,Y,Y,Y,Y,Y,Z,Y,Z,Z] rfl rfl HT_ ?_
    refine puA (i:=10) (N:=some 23) #[Y,Y,Y,Y,Y,Y,Y,Y,Y,Y,Y,Y,Z,Z] rfl rfl HT_ ?_
    exact norm_ (by first|(simp only [putAll,Act.put,List.setIfInBounds_toArray,List.set_cons_zero,List.set_cons_succ];done)|(simp only [putAll,Act.put,List.setIfInBounds_toArray,List.set_cons_zero,List.set_cons_succ];rfl)) (hJ2_4_6_7_11 (gb221) _ ⟨hHeld,(bkA BK208),(bkA BK209),(bkA BK210),(bkA BK221),GW221.out,GE221.out,NB208_221.out,NB221_208.out,NB209_221.out,NB221_209.out,NB210_221.out,NB221_210.out,blA⟩)
  ·
   skip
   rintro _ w24 ⟨hS_,h0_,h1_,h2_,h3_⟩
   replace BK208:=Aside0.mk h0_
   replace BK209:=Aside0.mk h1_
   replace BK210:=Aside0.mk h2_
   replace HB:=Aside0.mk h3_
   clear h0_ h1_ h2_ h3_
   have hHeld:w24.cell? ⟨gb208,0,none⟩=some (.int .i64 a1_0)∧w24.cell? ⟨gb208,1,none⟩=some (.int .i64 a1_1)∧w24.cell? ⟨gb209,0,none⟩=some (.int .i64 a2_0)∧w24.cell? ⟨gb209,1,none⟩=some (.int .i64 a2_1)∧w24.cell? ⟨gb210,0,none⟩=some (.int .i64 a3_0)∧w24.cell? ⟨gb210,1,none⟩=some (.int .i64 a3_1):=hS_
   refine norm_ (a':=?_) ?_ ?_
   rotate_left
   ·
    simp only [putAll,Act.put,List.setIfInBounds_toArray,List.set_cons_zero,List.set_cons_succ]
    rfl
   refine one_ (i:=11) (N:=some 9) #[Y,Y,Y,Y,Y,Y,Y,Y,Y,Y,Y,Y,Z,Z] rfl rfl (one_of HT_.out (by kernel_rfl)) (by decide) (fun K hK=>?_)
   refine box_step ?hg (N:=9) ?hd (cs:=#[.int .i64 0,.int .i64 0,.int .i64 0]) (t:=25) ?hr ?_;(case hd=>rfl);(case hg=>rfl);(case hr=>first|(go_simp;done)|(go_simp;rfl))
   intro gb221 hg w25 hbox hb
   have BK221:=Aside0.mk hbox
   have GW221:=sA hg
   have GE221:=sA hg
   have NB208_221:=nA hg BK208
   have NB221_208:=nB hg BK208
   have NB209_221:=nA hg BK209
   have NB221_209:=nB hg BK209
   have NB210_221:=nA hg BK210
   have NB221_210:=nB hg BK210
   replace BK208:=kB BK208 hb
   replace BK209:=kB BK209 hb
   replace BK210:=kB BK210 hb
   replace HB:=lB hb
   clear hb hbox hg
   refine hK.out _ _ ⟨cA BK208 0,cA BK208 1,cA BK209 0,cA BK209 1,cA BK210 0,cA BK210 1⟩ (fun hHeld=>?_)
   clear hK K
   refine nmA ?_
   exact norm_ (by first|(simp only [putAll,Act.put,List.setIfInBounds_toArray,List.set_cons_zero,List.set_cons_succ];done)|(simp only [putAll,Act.put,List.setIfInBounds_toArray,List.set_cons_zero,List.set_cons_succ];rfl)) (hJ2_4_6_7_11 (gb221) _ ⟨hHeld,(bkA BK208),(bkA BK209),(bkA BK210),(bkA BK221),GW221.out,GE221.out,NB208_221.out,NB221_208.out,NB209_221.out,NB221_209.out,NB210_221.out,NB221_210.out,blA⟩)
 rintro gb221 w25 ⟨hS_,h0_,h1_,h2_,h3_,h4_,h5_,h6_,h7_,h8_,h9_,h10_,h11_,h12_⟩
 have BK221:=Aside0.mk h3_
 have GW221:=Aside0.mk h4_
 have GE221:=Aside0.mk h5_
 have NB208_221:=Aside0.mk h6_
 have NB221_208:=Aside0.mk h7_
 have NB209_221:=Aside0.mk h8_
 have NB221_209:=Aside0.mk h9_
 have NB210_221:=Aside0.mk h10_
 have NB221_210:=Aside0.mk h11_
 replace BK208:=Aside0.mk h0_
 replace BK209:=Aside0.mk h1_
 replace BK210:=Aside0.mk h2_
 replace HB:=Aside0.mk h12_
 clear h0_ h1_ h2_ h3_ h4_ h5_ h6_ h7_ h8_ h9_ h10_ h11_ h12_
 have hHeld:w25.cell? ⟨gb208,0,none⟩=some (.int .i64 a1_0)∧w25.cell? ⟨gb208,1,none⟩=some (.int .i64 a1_1)∧w25.cell? ⟨gb209,0,none⟩=some (.int .i64 a2_0)∧w25.cell? ⟨gb209,1,none⟩=some (.int .i64 a2_1)∧w25.cell? ⟨gb210,0,none⟩=some (.int .i64 a3_0)∧w25.cell? ⟨gb210,1,none⟩=some (.int .i64 a3_1):=hS_
 refine norm_ (a':=?_) ?_ ?_
 rotate_left
 ·
  simp only [putAll,Act.put,List.setIfInBounds_toArray,List.set_cons_zero,List.set_cons_succ]
  rfl
 refine one_ (i:=12) (N:=none) #[Y,Y,Y,Y,Y,Y,Y,Y,Y,Y,Y,Y,Y,Z] rfl rfl (one_of HT_.out (by kernel_rfl)) (by decide) (fun K hK=>?_)
 have hs26:w25.cell? ⟨gb221,0,none⟩=some (.int .i64 0):=cA BK221 0
 have hfs26:=blk_frozen BK221.out 0
 have hns26_0:=NB208_221.out
 have hns26_1:=NB209_221.out
 have hns26_2:=NB210_221.out
 have hms26_0:=NB221_208.out
 have hms26_1:=NB221_209.out
 have hms26_2:=NB221_210.out
 have hs27:w25.cell? ⟨gb221,1,none⟩=some (.int .i64 0):=cA BK221 1
 have hfs27:=blk_frozen BK221.out 1
 have hns27_0:=NB208_221.out
 have hns27_1:=NB209_221.out
 have hns27_2:=NB210_221.out
 have hms27_0:=NB221_208.out
 have hms27_1:=NB221_209.out
 have hms27_2:=NB221_210.out
 have hs28:w25.cell? ⟨gb221,2,none⟩=some (.int .i64 0):=cA BK221 2
 have hfs28:=blk_frozen BK221.out 2
 have hns28_0:=NB208_221.out
 have hns28_1:=NB209_221.out
 have hns28_2:=NB210_221.out
 have hms28_0:=NB221_208.out
 have hms28_1:=NB221_209.out
 have hms28_2:=NB221_210.out
 refine skip_ (w1:=?_) (by rfl) rfl ?_ ?_
 rotate_left
 ·
  go_simp
  rfl
 refine hK.out _ _ ⟨cfA hHeld.1,cfA hHeld.2.1,cfA hHeld.2.2.1,cfA hHeld.2.2.2.1,cfA hHeld.2.2.2.2.1,cfA hHeld.2.2.2.2.2⟩ (fun hHeld=>?_)
 clear hK K
 refine puA (i:=13) (N:=some 10) #[Y,Y,Y,Y,Y,Y,Y,Y,Y,Y,Y,Y,Y,Y] rfl rfl HT_ ?_
 refine done_ (done_of HT_.out (by kernel_rfl)) ?_
 try go_wp2
 have n0_:Aside0 ((((w25.setCell ⟨gb221,0,none⟩ (.int .i64 t217)).setCell ⟨gb221,1,none⟩ (.int .i64 t218)).setCell ⟨gb221,2,none⟩ (.int .i64 t219)).heap[gb208]?=some (.cells #[.int .i64 a1_0,.int .i64 a1_1] 23 (0,0))):=⟨bkF BK208⟩
 have n1_:Aside0 ((((w25.setCell ⟨gb221,0,none⟩ (.int .i64 t217)).setCell ⟨gb221,1,none⟩ (.int .i64 t218)).setCell ⟨gb221,2,none⟩ (.int .i64 t219)).heap[gb209]?=some (.cells #[.int .i64 a2_0,.int .i64 a2_1] 23 (0,0))):=⟨bkF BK209⟩
 have n2_:Aside0 ((((w25.setCell ⟨gb221,0,none⟩ (.int .i64 t217)).setCell ⟨gb221,1,none⟩ (.int .i64 t218)).setCell ⟨gb221,2,none⟩ (.int .i64 t219)).heap[gb210]?=some (.cells #[.int .i64 a3_0,.int .i64 a3_1] 23 (0,0))):=⟨bkF BK210⟩
 have n3_:Aside0 ((((w25.setCell ⟨gb221,0,none⟩ (.int .i64 t217)).setCell ⟨gb221,1,none⟩ (.int .i64 t218)).setCell ⟨gb221,2,none⟩ (.int .i64 t219)).heap[gb221]?=some (.cells #[.int .i64 t217,.int .i64 t218,.int .i64 t219] 25 (0,0))):=⟨bpA BK221⟩
 have n4_:Aside0 (Below w.heap.size w (((w25.setCell ⟨gb221,0,none⟩ (.int .i64 t217)).setCell ⟨gb221,1,none⟩ (.int .i64 t218)).setCell ⟨gb221,2,none⟩ (.int .i64 t219))):=⟨blA⟩
 (try clear BK208)
 (try clear BK209)
 (try clear BK210)
 (try clear BK221)
 (try clear HB)
 generalize (((w25.setCell ⟨gb221,0,none⟩ (.int .i64 t217)).setCell ⟨gb221,1,none⟩ (.int .i64 t218)).setCell ⟨gb221,2,none⟩ (.int .i64 t219))=w29 at n0_ n1_ n2_ n3_ n4_ ⊢
 have BK208:=n0_
 have BK209:=n1_
 have BK210:=n2_
 have BK221:=n3_
 have HB:=n4_
 clear n0_ n1_ n2_ n3_ n4_
 have n0_:=Aside0.mk (blk_drew BK208.out)
 have n1_:=Aside0.mk (blk_drew BK209.out)
 have n2_:=Aside0.mk (blk_drew BK210.out)
 have n3_:=Aside0.mk (blk_drew BK221.out)
 have n4_:=Aside0.mk (below_drew1 HB.out)
 clear BK208
 clear BK209
 clear BK210
 clear BK221
 clear HB
 have BK208:=n0_
 have BK209:=n1_
 have BK210:=n2_
 have BK221:=n3_
 have HB:=n4_
 clear n0_ n1_ n2_ n3_ n4_
 refine start_ (n:=14) (S:=fun w'=>w'.cell? ⟨gb208,0,none⟩=some (.int .i64 a1_0)∧w'.cell? ⟨gb208,1,none⟩=some (.int .i64 a1_1)∧w'.cell? ⟨gb209,0,none⟩=some (.int .i64 a2_0)∧w'.cell? ⟨gb209,1,none⟩=some (.int .i64 a2_1)∧w'.cell? ⟨gb210,0,none⟩=some (.int .i64 a3_0)∧w'.cell? ⟨gb210,1,none⟩=some (.int .i64 a3_1)) (ds:=[]) #[Z,Z,Z,Z,Z,Z,Z,Z,Z,Z,Z,Z,Z,Z] (by kernel_rfl) rfl rfl ⟨cA BK208 0,cA BK208 1,cA BK209 0,cA BK209 1,cA BK210 0,cA BK210 1⟩ (fun hHeld=>?_);refine with_tabW laws_FnExactMeetingOf.tab2 laws_FnExactMeetingOf.bits2 (fun HT_ HW_=>?_)
 generalize w29.drew=w30 at BK208 BK209 BK210 BK221 HB hHeld ⊢
 refine puA (i:=0) (N:=some 25) #[Y,Z,Z,Z,Z,Z,Z,Z,Z,Z,Z,Z,Z,Z] rfl rfl HT_ ?_
 refine taA (i:=1) (N:=some 26) #[Y,Y,Z,Z,Z,Z,Z,Z,Z,Z,Z,Z,Z,Z] rfl rfl HT_ HW_ hHeld ?_
 refine taA (i:=3) (N:=some 28) #[Y,Y,Z,Y,Z,Z,Z,Z,Z,Z,Z,Z,Z,Z] rfl rfl HT_ HW_ hHeld ?_
 refine taA (i:=5) (N:=some 30) #[Y,Y,Z,Y,Z,Y,Z,Z,Z,Z,Z,Z,Z,Z] rfl rfl HT_ HW_ hHeld ?_
 refine join_ (σ:=Nat) 2 #[Y,Y,Y,Y,Y,Y,Y,Y,Y,Y,Y,Y,Z,Z] (fun s_=>[(27,.agg #[.int .i64 t222,.int .i64 t223]),(29,.agg #[.int .i64 t224,.int .i64 t225]),(31,.agg #[.int .i64 t226,.int .i64 t227]),(32,.tuple #[.agg #[.int .i64 t228,.int .i64 t229,.int .i64 t230],.int .i64 t231]),(11,.pointer (some ⟨s_,0,none⟩)),(24,.tuple #[.agg #[.int .i64 t228,.int .i64 t229,.int .i64 t230],.int .i64 t231]),(33,.agg #[.int .i64 t228,.int .i64 t229,.int .i64 t230]),(34,.int .i64 t231)]) (fun s_ w'=>(w'.cell? ⟨gb208,0,none⟩=some (.int .i64 a1_0)∧w'.cell? ⟨gb208,1,none⟩=some (.int .i64 a1_1)∧w'.cell? ⟨gb209,0,none⟩=some (.int .i64 a2_0)∧w'.cell? ⟨gb209,1,none⟩=some (.int .i64 a2_1)∧w'.cell? ⟨gb210,0,none⟩=some (.int .i64 a3_0)∧w'.cell? ⟨gb210,1,none⟩=some (.int .i64 a3_1))∧(w'.heap[gb208]?=some (.cells #[.int .i64 a1_0,.int .i64 a1_1] 23 (0,0)))∧(w'.heap[gb209]?=some (.cells #[.int .i64 a2_0,.int .i64 a2_1] 23 (0,0)))∧(w'.heap[gb210]?=some (.cells #[.int .i64 a3_0,.int .i64 a3_1] 23 (0,0)))∧(w'.heap[gb221]?=some (.cells #[.int .i64 t217,.int .i64 t218,.int .i64 t219] 25 (0,0)))∧(w'.heap[s_]?=some (.cells #[.int .i64 0,.int .i64 0,.int .i64 0] 25 (0,0)))∧(w.heap.size≤s_)∧(w.heap.size≤s_)∧(gb208≠s_)∧(s_≠gb208)∧(gb209≠s_)∧(s_≠gb209)∧(gb210≠s_)∧(s_≠gb210)∧(gb221≠s_)∧(s_≠gb221)∧(Below w.heap.size w w')) ?_ ?_
 rotate_left
 ·
  intro hJ2_4_6_7_11
  refine join_ (σ:=Unit) 3 #[Y,Y,Y,Y,Y,Y,Y,Y,Y,Y,Y,Z,Z,Z] (fun s_=>[(27,.agg #[.int .i64 t222,.int .i64 t223]),(29,.agg #[.int .i64 t224,.int .i64 t225]),(31,.agg #[.int .i64 t226,.int .i64 t227]),(32,.tuple #[.agg #[.int .i64 t228,.int .i64 t229,.int .i64 t230],.int .i64 t231]),(24,.tuple #[.agg #[.int .i64 t228,.int .i64 t229,.int .i64 t230],.int .i64 t231]),(33,.agg #[.int .i64 t228,.int .i64 t229,.int .i64 t230]),(34,.int .i64 t231)]) (fun s_ w'=>(w'.cell? ⟨gb208,0,none⟩=some (.int .i64 a1_0)∧w'.cell? ⟨gb208,1,none⟩=some (.int .i64 a1_1)∧w'.cell? ⟨gb209,0,none⟩=some (.int .i64 a2_0)∧w'.cell? ⟨gb209,1,none⟩=some (.int .i64 a2_1)∧w'.cell? ⟨gb210,0,none⟩=some (.int .i64 a3_0)∧w'.cell? ⟨gb210,1,none⟩=some (.int .i64 a3_1))∧(w'.heap[gb208]?=some (.cells #[.int .i64 a1_0,.int .i64 a1_1] 23 (0,0)))∧(w'.heap[gb209]?=some (.cells #[.int .i64 a2_0,.int .i64 a2_1] 23 (0,0)))∧(w'.heap[gb210]?=some (.cells #[.int .i64 a3_0,.int .i64 a3_1] 23 (0,0)))∧(w'.heap[gb221]?=some (.cells #[.int .i64 t217,.int .i64 t218,.int .i64 t219] 25 (0,0)))∧(Below w.heap.size w w')) ?_ ?_
  rotate_left
  ·
   intro hJ2_4_6_7
   refine join_ (σ:=Nat) 6 #[Y,Y,Y,Y,Y,Y,Y,Z,Z,Z,Z,Y,Z,Z] (fun s_=>[(27,.agg #[.int .i64 t222,.int .i64 t223]),(29,.agg #[.int .i64 t224,.int .i64 t225]),(31,.agg #[.int .i64 t226,.int .i64 t227]),(11,.pointer (some ⟨s_,0,none⟩))]) (fun s_ w'=>(w'.cell? ⟨gb208,0,none⟩=some (.int .i64 a1_0)∧w'.cell? ⟨gb208,1,none⟩=some (.int .i64 a1_1)∧w'.cell? ⟨gb209,0,none⟩=some (.int .i64 a2_0)∧w'.cell? ⟨gb209,1,none⟩=some (.int .i64 a2_1)∧w'.cell? ⟨gb210,0,none⟩=some (.int .i64 a3_0)∧w'.cell? ⟨gb210,1,none⟩=some (.int .i64 a3_1))∧(w'.heap[gb208]?=some (.cells #[.int .i64 a1_0,.int .i64 a1_1] 23 (0,0)))∧(w'.heap[gb209]?=some (.cells #[.int .i64 a2_0,.int .i64 a2_1] 23 (0,0)))∧(w'.heap[gb210]?=some (.cells #[.int .i64 a3_0,.int .i64 a3_1] 23 (0,0)))∧(w'.heap[gb221]?=some (.cells #[.int .i64 t217,.int .i64 t218,.int .i64 t219] 25 (0,0)))∧(w'.heap[s_]?=some (.cells #[.int .i64 0,.int .i64 0,.int .i64 0] 25 (0,0)))∧(w.heap.size≤s_)∧(w.heap.size≤s_)∧(gb208≠s_)∧(s_≠gb208)∧(gb209≠s_)∧(s_≠gb209)∧(gb210≠s_)∧(s_≠gb210)∧(gb221≠s_)∧(s_≠gb221)∧(Below w.heap.size w w')) ?_ ?_
   rotate_left
   ·
    intro hJ2_4_6_11
    refine join_ (σ:=Unit) 7 #[Y,Y,Y,Y,Y,Y,Y,Z,Z,Z,Z,Z,Z,Z] (fun s_=>[(27,.agg #[.int .i64 t222,.int .i64 t223]),(29,.agg #[.int .i64 t224,.int .i64 t225]),(31,.agg #[.int .i64 t226,.int .i64 t227])]) (fun s_ w'=>(w'.cell? ⟨gb208,0,none⟩=some (.int .i64 a1_0)∧w'.cell? ⟨gb208,1,none⟩=some (.int .i64 a1_1)∧w'.cell? ⟨gb209,0,none⟩=some (.int .i64 a2_0)∧w'.cell? ⟨gb209,1,none⟩=some (.int .i64 a2_1)∧w'.cell? ⟨gb210,0,none⟩=some (.int .i64 a3_0)∧w'.cell? ⟨gb210,1,none⟩=some (.int .i64 a3_1))∧(w'.heap[gb208]?=some (.cells #[.int .i64 a1_0,.int .i64 a1_1] 23 (0,0)))∧(w'.heap[gb209]?=some (.cells #[.int .i64 a2_0,.int .i64 a2_1] 23 (0,0)))∧(w'.heap[gb210]?=some (.cells #[.int .i64 a3_0,.int .i64 a3_1] 23 (0,0)))∧(w'.heap[gb221]?=some (.cells #[.int .i64 t217,.int .i64 t218,.int .i64 t219] 25 (0,0)))∧(Below w.heap.size w w')) ?_ ?_
    rotate_left
    ·
     intro hJ2_4_6
     refine join_ (σ:=Nat) 7 #[Y,Y,Y,Y,Y,Y,Z,Z,Z,Z,Z,Y,Z,Z] (fun s_=>[(27,.agg #[.int .i64 t222,.int .i64 t223]),(29,.agg #[.int .i64 t224,.int .i64 t225]),(11,.pointer (some ⟨s_,0,none⟩))]) (fun s_ w'=>(w'.cell? ⟨gb208,0,none⟩=some (.int .i64 a1_0)∧w'.cell? ⟨gb208,1,none⟩=some (.int .i64 a1_1)∧w'.cell? ⟨gb209,0,none⟩=some (.int .i64 a2_0)∧w'.cell? ⟨gb209,1,none⟩=some (.int .i64 a2_1)∧w'.cell? ⟨gb210,0,none⟩=some (.int .i64 a3_0)∧w'.cell? ⟨gb210,1,none⟩=some (.int .i64 a3_1))∧(w'.heap[gb208]?=some (.cells #[.int .i64 a1_0,.int .i64 a1_1] 23 (0,0)))∧(w'.heap[gb209]?=some (.cells #[.int .i64 a2_0,.int .i64 a2_1] 23 (0,0)))∧(w'.heap[gb210]?=some (.cells #[.int .i64 a3_0,.int .i64 a3_1] 23 (0,0)))∧(w'.heap[gb221]?=some (.cells #[.int .i64 t217,.int .i64 t218,.int .i64 t219] 25 (0,0)))∧(w'.heap[s_]?=some (.cells #[.int .i64 0,.int .i64 0,.int .i64 0] 25 (0,0)))∧(w.heap.size≤s_)∧(w.heap.size≤s_)∧(gb208≠s_)∧(s_≠gb208)∧(gb209≠s_)∧(s_≠gb209)∧(gb210≠s_)∧(s_≠gb210)∧(gb221≠s_)∧(s_≠gb221)∧(Below w.heap.size w w')) ?_ ?_
     rotate_left
     ·
      intro hJ2_4_11
      refine join_ (σ:=Unit) 8 #[Y,Y,Y,Y,Y,Y,Z,Z,Z,Z,Z,Z,Z,Z] (fun s_=>[(27,.agg #[.int .i64 t222,.int .i64 t223]),(29,.agg #[.int .i64 t224,.int .i64 t225])]) (fun s_ w'=>(w'.cell? ⟨gb208,0,none⟩=some (.int .i64 a1_0)∧w'.cell? ⟨gb208,1,none⟩=some (.int .i64 a1_1)∧w'.cell? ⟨gb209,0,none⟩=some (.int .i64 a2_0)∧w'.cell? ⟨gb209,1,none⟩=some (.int .i64 a2_1)∧w'.cell? ⟨gb210,0,none⟩=some (.int .i64 a3_0)∧w'.cell? ⟨gb210,1,none⟩=some (.int .i64 a3_1))∧(w'.heap[gb208]?=some (.cells #[.int .i64 a1_0,.int .i64 a1_1] 23 (0,0)))∧(w'.heap[gb209]?=some (.cells #[.int .i64 a2_0,.int .i64 a2_1] 23 (0,0)))∧(w'.heap[gb210]?=some (.cells #[.int .i64 a3_0,.int .i64 a3_1] 23 (0,0)))∧(w'.heap[gb221]?=some (.cells #[.int .i64 t217,.int .i64 t218,.int .i64 t219] 25 (0,0)))∧(Below w.heap.size w w')) ?_ ?_
      rotate_left
      ·
       intro hJ2_4
       refine join_ (σ:=Nat) 8 #[Y,Y,Y,Y,Z,Y,Z,Z,Z,Z,Z,Y,Z,Z] (fun s_=>[(27,.agg #[.int .i64 t222,.int .i64 t223]),(11,.pointer (some ⟨s_,0,none⟩))]) (fun s_ w'=>(w'.cell? ⟨gb208,0,none⟩=some (.int .i64 a1_0)∧w'.cell? ⟨gb208,1,none⟩=some (.int .i64 a1_1)∧w'.cell? ⟨gb209,0,none⟩=some (.int .i64 a2_0)∧w'.cell? ⟨gb209,1,none⟩=some (.int .i64 a2_1)∧w'.cell? ⟨gb210,0,none⟩=some (.int .i64 a3_0)∧w'.cell? ⟨gb210,1,none⟩=some (.int .i64 a3_1))∧(w'.heap[gb208]?=some (.cells #[.int .i64 a1_0,.int .i64 a1_1] 23 (0,0)))∧(w'.heap[gb209]?=some (.cells #[.int .i64 a2_0,.int .i64 a2_1] 23 (0,0)))∧(w'.heap[gb210]?=some (.cells #[.int .i64 a3_0,.int .i64 a3_1] 23 (0,0)))∧(w'.heap[gb221]?=some (.cells #[.int .i64 t217,.int .i64 t218,.int .i64 t219] 25 (0,0)))∧(w'.heap[s_]?=some (.cells #[.int .i64 0,.int .i64 0,.int .i64 0] 25 (0,0)))∧(w.heap.size≤s_)∧(w.heap.size≤s_)∧(gb208≠s_)∧(s_≠gb208)∧(gb209≠s_)∧(s_≠gb209)∧(gb210≠s_)∧(s_≠gb210)∧(gb221≠s_)∧(s_≠gb221)∧(Below w.heap.size w w')) ?_ ?_
       rotate_left
       ·
        intro hJ2_11
        refine join_ (σ:=Unit) 9 #[Y,Y,Y,Y,Z,Y,Z,Z,Z,Z,Z,Z,Z,Z] (fun s_=>[(27,.agg #[.int .i64 t222,.int .i64 t223])]) (fun s_ w'=>(w'.cell? ⟨gb208,0,none⟩=some (.int .i64 a1_0)∧w'.cell? ⟨gb208,1,none⟩=some (.int .i64 a1_1)∧w'.cell? ⟨gb209,0,none⟩=some (.int .i64 a2_0)∧w'.cell? ⟨gb209,1,none⟩=some (.int .i64 a2_1)∧w'.cell? ⟨gb210,0,none⟩=some (.int .i64 a3_0)∧w'.cell? ⟨gb210,1,none⟩=some (.int .i64 a3_1))∧(w'.heap[gb208]?=some (.cells #[.int .i64 a1_0,.int .i64 a1_1] 23 (0,0)))∧(w'.heap[gb209]?=some (.cells #[.int .i64 a2_0,.int .i64 a2_1] 23 (0,0)))∧(w'.heap[gb210]?=some (.cells #[.int .i64 a3_0,.int .i64 a3_1] 23 (0,0)))∧(w'.heap[gb221]?=some (.cells #[.int .i64 t217,.int .i64 t218,.int .i64 t219] 25 (0,0)))∧(Below w.heap.size w w')) ?_ ?_
        rotate_left
        ·
         intro hJ2
         refine join_ (σ:=Nat) 9 #[Y,Y,Z,Y,Z,Y,Z,Z,Z,Z,Z,Y,Z,Z] (fun s_=>[(11,.pointer (some ⟨s_,0,none⟩))]) (fun s_ w'=>(w'.cell? ⟨gb208,0,none⟩=some (.int .i64 a1_0)∧w'.cell? ⟨gb208,1,none⟩=some (.int .i64 a1_1)∧w'.cell? ⟨gb209,0,none⟩=some (.int .i64 a2_0)∧w'.cell? ⟨gb209,1,none⟩=some (.int .i64 a2_1)∧w'.cell? ⟨gb210,0,none⟩=some (.int .i64 a3_0)∧w'.cell? ⟨gb210,1,none⟩=some (.int .i64 a3_1))∧(w'.heap[gb208]?=some (.cells #[.int .i64 a1_0,.int .i64 a1_1] 23 (0,0)))∧(w'.heap[gb209]?=some (.cells #[.int .i64 a2_0,.int .i64 a2_1] 23 (0,0)))∧(w'.heap[gb210]?=some (.cells #[.int .i64 a3_0,.int .i64 a3_1] 23 (0,0)))∧(w'.heap[gb221]?=some (.cells #[.int .i64 t217,.int .i64 t218,.int .i64 t219] 25 (0,0)))∧(w'.heap[s_]?=some (.cells #[.int .i64 0,.int .i64 0,.int .i64 0] 25 (0,0)))∧(w.heap.size≤s_)∧(w.heap.size≤s_)∧(gb208≠s_)∧(s_≠gb208)∧(gb209≠s_)∧(s_≠gb209)∧(gb210≠s_)∧(s_≠gb210)∧(gb221≠s_)∧(s_≠gb221)∧(Below w.heap.size w w')) ?_ ?_
         rotate_left
         ·
          intro hJ11
          refine two_ (i:=2) (j:=11) (Ni:=some 27) (Nj:=some 11) #[Y,Y,Y,Y,Z,Y,Z,Z,Z,Z,Z,Z,Z,Z] #[Y,Y,Z,Y,Z,Y,Z,Z,Z,Z,Z,Y,Z,Z] rfl rfl rfl rfl (two_of HT_.out (by kernel_rfl)) (by decide) (by decide) (fun K hK=>?_) (fun K hK=>?_)
          ·
           skip
           refine goC Try.func6 (laws_toEnd.calls (w:=_) (h:=A9.out)) ?_
           intro w31 hb
           replace BK208:=kB BK208 hb
           replace BK209:=kB BK209 hb
           replace BK210:=kB BK210 hb
           replace BK221:=kB BK221 hb
           replace HB:=lB hb
           (try clear hb)
           (try clear hb2)
           (try clear hk)
           (try clear hi)
           refine hK.out _ _ ⟨cA BK208 0,cA BK208 1,cA BK209 0,cA BK209 1,cA BK210 0,cA BK210 1⟩ (fun hHeld=>?_)
           clear hK K
           refine nmA ?_
           exact norm_ (by first|(simp only [putAll,Act.put,List.setIfInBounds_toArray,List.set_cons_zero,List.set_cons_succ];done)|(simp only [putAll,Act.put,List.setIfInBounds_toArray,List.set_cons_zero,List.set_cons_succ];rfl)) (hJ2 () _ ⟨hHeld,(bkA BK208),(bkA BK209),(bkA BK210),(bkA BK221),blA⟩)
          ·
           skip
           refine box_step ?hg (N:=11) ?hd (cs:=#[.int .i64 0,.int .i64 0,.int .i64 0]) (t:=25) ?hr ?_;(case hd=>rfl);(case hg=>rfl);(case hr=>first|(go_simp;done)|(go_simp;rfl))
           intro gb232 hg w31 hbox hb
           have BK232:=Aside0.mk hbox
           have GW232:=sA hg
           have GE232:=sA hg
           have NB208_232:=nA hg BK208
           have NB232_208:=nB hg BK208
           have NB209_232:=nA hg BK209
           have NB232_209:=nB hg BK209
           have NB210_232:=nA hg BK210
           have NB232_210:=nB hg BK210
           have NB221_232:=nA hg BK221
           have NB232_221:=nB hg BK221
           replace BK208:=kB BK208 hb
           replace BK209:=kB BK209 hb
           replace BK210:=kB BK210 hb
           replace BK221:=kB BK221 hb
           replace HB:=lB hb
           clear hb hbox hg
           refine hK.out _ _ ⟨cA BK208 0,cA BK208 1,cA BK209 0,cA BK209 1,cA BK210 0,cA BK210 1⟩ (fun hHeld=>?_)
           clear hK K
           refine nmA ?_
           exact norm_ (by first|(simp only [putAll,Act.put,List.setIfInBounds_toArray,List.set_cons_zero,List.set_cons_succ];done)|(simp only [putAll,Act.put,List.setIfInBounds_toArray,List.set_cons_zero,List.set_cons_succ];rfl)) (hJ11 (gb232) _ ⟨hHeld,(bkA BK208),(bkA BK209),(bkA BK210),(bkA BK221),(bkA BK232),GW232.out,GE232.out,NB208_232.out,NB232_208.out,NB209_232.out,NB232_209.out,NB210_232.out,NB232_210.out,NB221_232.out,NB232_221.out,blA⟩)
         ·
          skip
          rintro gb232 w32 ⟨hS_,h0_,h1_,h2_,h3_,h4_,h5_,h6_,h7_,h8_,h9_,h10_,h11_,h12_,h13_,h14_,h15_⟩
          have BK232:=Aside0.mk h4_
          have GW232:=Aside0.mk h5_
          have GE232:=Aside0.mk h6_
          have NB208_232:=Aside0.mk h7_
          have NB232_208:=Aside0.mk h8_
          have NB209_232:=Aside0.mk h9_
          have NB232_209:=Aside0.mk h10_
          have NB210_232:=Aside0.mk h11_
          have NB232_210:=Aside0.mk h12_
          have NB221_232:=Aside0.mk h13_
          have NB232_221:=Aside0.mk h14_
          replace BK208:=Aside0.mk h0_
          replace BK209:=Aside0.mk h1_
          replace BK210:=Aside0.mk h2_
          replace BK221:=Aside0.mk h3_
          replace HB:=Aside0.mk h15_
          clear h0_ h1_ h2_ h3_ h4_ h5_ h6_ h7_ h8_ h9_ h10_ h11_ h12_ h13_ h14_ h15_
          have hHeld:w32.cell? ⟨gb208,0,none⟩=some (.int .i64 a1_0)∧w32.cell? ⟨gb208,1,none⟩=some (.int .i64 a1_1)∧w32.cell? ⟨gb209,0,none⟩=some (.int .i64 a2_0)∧w32.cell? ⟨gb209,1,none⟩=some (.int .i64 a2_1)∧w32.cell? ⟨gb210,0,none⟩=some (.int .i64 a3_0)∧w32.cell? ⟨gb210,1,none⟩=some (.int .i64 a3_1):=hS_
          refine norm_ (a':=?_) ?_ ?_
          rotate_left
          ·
           simp only [putAll,Act.put,List.setIfInBounds_toArray,List.set_cons_zero,List.set_cons_succ]
           rfl
          refine one_ (i:=2) (N:=some 27) #[Y,Y,Y,Y,Z,Y,Z,Z,Z,Z,Z,Y,Z,Z] rfl rfl (one_of HT_.out (by kernel_rfl)) (by decide) (fun K hK=>?_)
          refine goC Try.func6 (laws_toEnd.calls (w:=_) (h:=A9.out)) ?_
          intro w33 hb
          replace BK208:=kB BK208 hb
          replace BK209:=kB BK209 hb
          replace BK210:=kB BK210 hb
          replace BK221:=kB BK221 hb
          replace BK232:=kB BK232 hb
          replace HB:=lB hb
          (try clear hb)
          (try clear hb2)
          (try clear hk)
          (try clear hi)
          refine hK.out _ _ ⟨cA BK208 0,cA BK208 1,cA BK209 0,cA BK209 1,cA BK210 0,cA BK210 1⟩ (fun hHeld=>?_)
          clear hK K
          refine nmA ?_
          exact norm_ (by first|(simp only [putAll,Act.put,List.setIfInBounds_toArray,List.set_cons_zero,List.set_cons_succ];done)|(simp only [putAll,Act.put,List.setIfInBounds_toArray,List.set_cons_zero,List.set_cons_succ];rfl)) (hJ2_11 (gb232) _ ⟨hHeld,(bkA BK208),(bkA BK209),(bkA BK210),(bkA BK221),(bkA BK232),GW232.out,GE232.out,NB208_232.out,NB232_208.out,NB209_232.out,NB232_209.out,NB210_232.out,NB232_210.out,NB221_232.out,NB232_221.out,blA⟩)
        ·
         skip
         rintro _ w32 ⟨hS_,h0_,h1_,h2_,h3_,h4_⟩
         replace BK208:=Aside0.mk h0_
         replace BK209:=Aside0.mk h1_
         replace BK210:=Aside0.mk h2_
         replace BK221:=Aside0.mk h3_
         replace HB:=Aside0.mk h4_
         clear h0_ h1_ h2_ h3_ h4_
         have hHeld:w32.cell? ⟨gb208,0,none⟩=some (.int .i64 a1_0)∧w32.cell? ⟨gb208,1,none⟩=some (.int .i64 a1_1)∧w32.cell? ⟨gb209,0,none⟩=some (.int .i64 a2_0)∧w32.cell? ⟨gb209,1,none⟩=some (.int .i64 a2_1)∧w32.cell? ⟨gb210,0,none⟩=some (.int .i64 a3_0)∧w32.cell? ⟨gb210,1,none⟩=some (.int .i64 a3_1):=hS_
         refine norm_ (a':=?_) ?_ ?_
         rotate_left
         ·
          simp only [putAll,Act.put,List.setIfInBounds_toArray,List.set_cons_zero,List.set_cons_succ]
          rfl
         refine two_ (i:=4) (j:=11) (Ni:=some 29) (Nj:=some 11) #[Y,Y,Y,Y,Y,Y,Z,Z,Z,Z,Z,Z,Z,Z] #[Y,Y,Y,Y,Z,Y,Z,Z,Z,Z,Z,Y,Z,Z] rfl rfl rfl rfl (two_of HT_.out (by kernel_rfl)) (by decide) (by decide) (fun K hK=>?_) (fun K hK=>?_)
         ·
          skip
          refine goC Try.func6 (laws_toEnd.calls (w:=_) (h:=A10.out)) ?_
          intro w33 hb
          replace BK208:=kB BK208 hb
          replace BK209:=kB BK209 hb
          replace BK210:=kB BK210 hb
          replace BK221:=kB BK221 hb
          replace HB:=lB hb
          (try clear hb)
          (try clear hb2)
          (try clear hk)
          (try clear hi)
          refine hK.out _ _ ⟨cA BK208 0,cA BK208 1,cA BK209 0,cA BK209 1,cA BK210 0,cA BK210 1⟩ (fun hHeld=>?_)
          clear hK K
          refine nmA ?_
          exact norm_ (by first|(simp only [putAll,Act.put,List.setIfInBounds_toArray,List.set_cons_zero,List.set_cons_succ];done)|(simp only [putAll,Act.put,List.setIfInBounds_toArray,List.set_cons_zero,List.set_cons_succ];rfl)) (hJ2_4 () _ ⟨hHeld,(bkA BK208),(bkA BK209),(bkA BK210),(bkA BK221),blA⟩)
         ·
          skip
          refine box_step ?hg (N:=11) ?hd (cs:=#[.int .i64 0,.int .i64 0,.int .i64 0]) (t:=25) ?hr ?_;(case hd=>rfl);(case hg=>rfl);(case hr=>first|(go_simp;done)|(go_simp;rfl))
          intro gb232 hg w33 hbox hb
          have BK232:=Aside0.mk hbox
          have GW232:=sA hg
          have GE232:=sA hg
          have NB208_232:=nA hg BK208
          have NB232_208:=nB hg BK208
          have NB209_232:=nA hg BK209
          have NB232_209:=nB hg BK209
          have NB210_232:=nA hg BK210
          have NB232_210:=nB hg BK210
          have NB221_232:=nA hg BK221
          have NB232_221:=nB hg BK221
          replace BK208:=kB BK208 hb
          replace BK209:=kB BK209 hb
          replace BK210:=kB BK210 hb
          replace BK221:=kB BK221 hb
          replace HB:=lB hb
          clear hb hbox hg
          refine hK.out _ _ ⟨cA BK208 0,cA BK208 1,cA BK209 0,cA BK209 1,cA BK210 0,cA BK210 1⟩ (fun hHeld=>?_)
          clear hK K
          refine nmA ?_
          exact norm_ (by first|(simp only [putAll,Act.put,List.setIfInBounds_toArray,List.set_cons_zero,List.set_cons_succ];done)|(simp only [putAll,Act.put,List.setIfInBounds_toArray,List.set_cons_zero,List.set_cons_succ];rfl)) (hJ2_11 (gb232) _ ⟨hHeld,(bkA BK208),(bkA BK209),(bkA BK210),(bkA BK221),(bkA BK232),GW232.out,GE232.out,NB208_232.out,NB232_208.out,NB209_232.out,NB232_209.out,NB210_232.out,NB232_210.out,NB221_232.out,NB232_221.out,blA⟩)
       ·
        skip
        rintro gb232 w33 ⟨hS_,h0_,h1_,h2_,h3_,h4_,h5_,h6_,h7_,h8_,h9_,h10_,h11_,h12_,h13_,h14_,h15_⟩
        have BK232:=Aside0.mk h4_
        have GW232:=Aside0.mk h5_
        have GE232:=Aside0.mk h6_
        have NB208_232:=Aside0.mk h7_
        have NB232_208:=Aside0.mk h8_
        have NB209_232:=Aside0.mk h9_
        have NB232_209:=Aside0.mk h10_
        have NB210_232:=Aside0.mk h11_
        have NB232_210:=Aside0.mk h12_
        have NB221_232:=Aside0.mk h13_
        have NB232_221:=Aside0.mk h14_
        replace BK208:=Aside0.mk h0_
        replace BK209:=Aside0.mk h1_
        replace BK210:=Aside0.mk h2_
        replace BK221:=Aside0.mk h3_
        replace HB:=Aside0.mk h15_
        clear h0_ h1_ h2_ h3_ h4_ h5_ h6_ h7_ h8_ h9_ h10_ h11_ h12_ h13_ h14_ h15_
        have hHeld:w33.cell? ⟨gb208,0,none⟩=some (.int .i64 a1_0)∧w33.cell? ⟨gb208,1,none⟩=some (.int .i64 a1_1)∧w33.cell? ⟨gb209,0,none⟩=some (.int .i64 a2_0)∧w33.cell? ⟨gb209,1,none⟩=some (.int .i64 a2_1)∧w33.cell? ⟨gb210,0,none⟩=some (.int .i64 a3_0)∧w33.cell? ⟨gb210,1,none⟩=some (.int .i64 a3_1):=hS_
        refine norm_ (a':=?_) ?_ ?_
        rotate_left
        ·
         simp only [putAll,Act.put,List.setIfInBounds_toArray,List.set_cons_zero,List.set_cons_succ]
         rfl
        refine one_ (i:=4) (N:=some 29) #[Y,Y,Y,Y,Y,Y,Z,Z,Z,Z,Z,Y,Z,Z] rfl rfl (one_of HT_.out (by kernel_rfl)) (by decide) (fun K hK=>?_)
        refine goC Try.func6 (laws_toEnd.calls (w:=_) (h:=A10.out)) ?_
        intro w34 hb
        replace BK208:=kB BK208 hb
        replace BK209:=kB BK209 hb
        replace BK210:=kB BK210 hb
        replace BK221:=kB BK221 hb
        replace BK232:=kB BK232 hb
        replace HB:=lB hb
        (try clear hb)
        (try clear hb2)
        (try clear hk)
        (try clear hi)
        refine hK.out _ _ ⟨cA BK208 0,cA BK208 1,cA BK209 0,cA BK209 1,cA BK210 0,cA BK210 1⟩ (fun hHeld=>?_)
        clear hK K
        refine nmA ?_
        exact norm_ (by first|(simp only [putAll,Act.put,List.setIfInBounds_toArray,List.set_cons_zero,List.set_cons_succ];done)|(simp only [putAll,Act.put,List.setIfInBounds_toArray,List.set_cons_zero,List.set_cons_succ];rfl)) (hJ2_4_11 (gb232) _ ⟨hHeld,(bkA BK208),(bkA BK209),(bkA BK210),(bkA BK221),(bkA BK232),GW232.out,GE232.out,NB208_232.out,NB232_208.out,NB209_232.out,NB232_209.out,NB210_232.out,NB232_210.out,NB221_232.out,NB232_221.out,blA⟩)
      ·
       skip
       rintro _ w33 ⟨hS_,h0_,h1_,h2_,h3_,h4_⟩
       replace BK208:=Aside0.mk h0_
       replace BK209:=Aside0.mk h1_
       replace BK210:=Aside0.mk h2_
       replace BK221:=Aside0.mk h3_
       replace HB:=Aside0.mk h4_
       clear h0_ h1_ h2_ h3_ h4_
       have hHeld:w33.cell? ⟨gb208,0,none⟩=some (.int .i64 a1_0)∧w33.cell? ⟨gb208,1,none⟩=some (.int .i64 a1_1)∧w33.cell? ⟨gb209,0,none⟩=some (.int .i64 a2_0)∧w33.cell? ⟨gb209,1,none⟩=some (.int .i64 a2_1)∧w33.cell? ⟨gb210,0,none⟩=some (.int .i64 a3_0)∧w33.cell? ⟨gb210,1,none⟩=some (.int .i64 a3_1):=hS_
       refine norm_ (a':=?_) ?_ ?_
       rotate_left
       ·
        simp only [putAll,Act.put,List.setIfInBounds_toArray,List.set_cons_zero,List.set_cons_succ]
        rfl
       refine two_ (i:=6) (j:=11) (Ni:=some 31) (Nj:=some 11) #[Y,Y,Y,Y,Y,Y,Y,Z,Z,Z,Z,Z,Z,Z] #[Y,Y,Y,Y,Y,Y,Z,Z,Z,Z,Z,Y,Z,Z] rfl rfl rfl rfl (two_of HT_.out (by kernel_rfl)) (by decide) (by decide) (fun K hK=>?_) (fun K hK=>?_)
       ·
        skip
        refine goC Try.func6 (laws_toEnd.calls (w:=_) (h:=A11.out)) ?_
        intro w34 hb
        replace BK208:=kB BK208 hb
        replace BK209:=kB BK209 hb
        replace BK210:=kB BK210 hb
        replace BK221:=kB BK221 hb
        replace HB:=lB hb
        (try clear hb)
        (try clear hb2)
        (try clear hk)
        (try clear hi)
        refine hK.out _ _ ⟨cA BK208 0,cA BK208 1,cA BK209 0,cA BK209 1,cA BK210 0,cA BK210 1⟩ (fun hHeld=>?_)
        clear hK K
        refine nmA ?_
        exact norm_ (by first|(simp only [putAll,Act.put,List.setIfInBounds_toArray,List.set_cons_zero,List.set_cons_succ];done)|(simp only [putAll,Act.put,List.setIfInBounds_toArray,List.set_cons_zero,List.set_cons_succ];rfl)) (hJ2_4_6 () _ ⟨hHeld,(bkA BK208),(bkA BK209),(bkA BK210),(bkA BK221),blA⟩)
       ·
        skip
        refine box_step ?hg (N:=11) ?hd (cs:=#[.int .i64 0,.int .i64 0,.int .i64 0]) (t:=25) ?hr ?_;(case hd=>rfl);(case hg=>rfl);(case hr=>first|(go_simp;done)|(go_simp;rfl))
        intro gb232 hg w34 hbox hb
        have BK232:=Aside0.mk hbox
        have GW232:=sA hg
        have GE232:=sA hg
        have NB208_232:=nA hg BK208
        have NB232_208:=nB hg BK208
        have NB209_232:=nA hg BK209
        have NB232_209:=nB hg BK209
        have NB210_232:=nA hg BK210
        have NB232_210:=nB hg BK210
        have NB221_232:=nA hg BK221
        have NB232_221:=nB hg BK221
        replace BK208:=kB BK208 hb
        replace BK209:=kB BK209 hb
        replace BK210:=kB BK210 hb
        replace BK221:=kB BK221 hb
        replace HB:=lB hb
        clear hb hbox hg
        refine hK.out _ _ ⟨cA BK208 0,cA BK208 1,cA BK209 0,cA BK209 1,cA BK210 0,cA BK210 1⟩ (fun hHeld=>?_)
        clear hK K
        refine nmA ?_
        exact norm_ (by first|(simp only [putAll,Act.put,List.setIfInBounds_toArray,List.set_cons_zero,List.set_cons_succ];done)|(simp only [putAll,Act.put,List.setIfInBounds_toArray,List.set_cons_zero,List.set_cons_succ];rfl)) (hJ2_4_11 (gb232) _ ⟨hHeld,(bkA BK208),(bkA BK209),(bkA BK210),(bkA BK221),(bkA BK232),GW232.out,GE232.out,NB208_232.out,NB232_208.out,NB209_232.out,NB232_209.out,NB210_232.out,NB232_210.out,NB221_232.out,NB232_221.out,blA⟩)
     ·
      skip
      rintro gb232 w34 ⟨hS_,h0_,h1_,h2_,h3_,h4_,h5_,h6_,h7_,h8_,h9_,h10_,h11_,h12_,h13_,h14_,h15_⟩
      have BK232:=Aside0.mk h4_
      have GW232:=Aside0.mk h5_
      have GE232:=Aside0.mk h6_
      have NB208_232:=Aside0.mk h7_
      have NB232_208:=Aside0.mk h8_
      have NB209_232:=Aside0.mk h9_
      have NB232_209:=Aside0.mk h10_
      have NB210_232:=Aside0.mk h11_
      have NB232_210:=Aside0.mk h12_
      have NB221_232:=Aside0.mk h13_
      have NB232_221:=Aside0.mk h14_
      replace BK208:=Aside0.mk h0_
      replace BK209:=Aside0.mk h1_
      replace BK210:=Aside0.mk h2_
      replace BK221:=Aside0.mk h3_
      replace HB:=Aside0.mk h15_
      clear h0_ h1_ h2_ h3_ h4_ h5_ h6_ h7_ h8_ h9_ h10_ h11_ h12_ h13_ h14_ h15_
      have hHeld:w34.cell? ⟨gb208,0,none⟩=some (.int .i64 a1_0)∧w34.cell? ⟨gb208,1,none⟩=some (.int .i64 a1_1)∧w34.cell? ⟨gb209,0,none⟩=some (.int .i64 a2_0)∧w34.cell? ⟨gb209,1,none⟩=some (.int .i64 a2_1)∧w34.cell? ⟨gb210,0,none⟩=some (.int .i64 a3_0)∧w34.cell? ⟨gb210,1,none⟩=some (.int .i64 a3_1):=hS_
      refine norm_ (a':=?_) ?_ ?_
      rotate_left
      ·
       simp only [putAll,Act.put,List.setIfInBounds_toArray,List.set_cons_zero,List.set_cons_succ]
       rfl
      refine one_ (i:=6) (N:=some 31) #[Y,Y,Y,Y,Y,Y,Y,Z,Z,Z,Z,Y,Z,Z] rfl rfl (one_of HT_.out (by kernel_rfl)) (by decide) (fun K hK=>?_)
      refine goC Try.func6 (laws_toEnd.calls (w:=_) (h:=A11.out)) ?_
      intro w35 hb
      replace BK208:=kB BK208 hb
      replace BK209:=kB BK209 hb
      replace BK210:=kB BK210 hb
      replace BK221:=kB BK221 hb
      replace BK232:=kB BK232 hb
      replace HB:=lB hb
      (try clear hb)
      (try clear hb2)
      (try clear hk)
      (try clear hi)
      refine hK.out _ _ ⟨cA BK208 0,cA BK208 1,cA BK209 0,cA BK209 1,cA BK210 0,cA BK210 1⟩ (fun hHeld=>?_)
      clear hK K
      refine nmA ?_
      exact norm_ (by first|(simp only [putAll,Act.put,List.setIfInBounds_toArray,List.set_cons_zero,List.set_cons_succ];done)|(simp only [putAll,Act.put,List.setIfInBounds_toArray,List.set_cons_zero,List.set_cons_succ];rfl)) (hJ2_4_6_11 (gb232) _ ⟨hHeld,(bkA BK208),(bkA BK209),(bkA BK210),(bkA BK221),(bkA BK232),GW232.out,GE232.out,NB208_232.out,NB232_208.out,NB209_232.out,NB232_209.out,NB210_232.out,NB232_210.out,NB221_232.out,NB232_221.out,blA⟩)
    ·
     skip
     rintro _ w34 ⟨hS_,h0_,h1_,h2_,h3_,h4_⟩
     replace BK208:=Aside0.mk h0_
     replace BK209:=Aside0.mk h1_
     replace BK210:=Aside0.mk h2_
     replace BK221:=Aside0.mk h3_
     replace HB:=Aside0.mk h4_
     clear h0_ h1_ h2_ h3_ h4_
     have hHeld:w34.cell? ⟨gb208,0,none⟩=some (.int .i64 a1_0)∧w34.cell? ⟨gb208,1,none⟩=some (.int .i64 a1_1)∧w34.cell? ⟨gb209,0,none⟩=some (.int .i64 a2_0)∧w34.cell? ⟨gb209,1,none⟩=some (.int .i64 a2_1)∧w34.cell? ⟨gb210,0,none⟩=some (.int .i64 a3_0)∧w34.cell? ⟨gb210,1,none⟩=some (.int .i64 a3_1):=hS_
     refine norm_ (a':=?_) ?_ ?_
     rotate_left
     ·
      simp only [putAll,Act.put,List.setIfInBounds_toArray,List.set_cons_zero,List.set_cons_succ]
      rfl
     refine two_ (i:=7) (j:=11) (Ni:=some 32) (Nj:=some 11) #[Y,Y,Y,Y,Y,Y,Y,Y,Z,Z,Z,Z,Z,Z] #[Y,Y,Y,Y,Y,Y,Y,Z,Z,Z,Z,Y,Z,Z] rfl rfl rfl rfl (two_of HT_.out (by kernel_rfl)) (by decide) (by decide) (fun K hK=>?_) (fun K hK=>?_)
     ·
      skip
      refine goC Try.func7 (impl_MeetingOf.calls (w:=_) (h:=A12.out)) ?_
      intro w35 hb
      replace BK208:=kB BK208 hb
      replace BK209:=kB BK209 hb
      replace BK210:=kB BK210 hb
      replace BK221:=kB BK221 hb
      replace HB:=lB hb
      (try clear hb)
      (try clear hb2)
      (try clear hk)
      (try clear hi)
      refine hK.out _ _ ⟨cA BK208 0,cA BK208 1,cA BK209 0,cA BK209 1,cA BK210 0,cA BK210 1⟩ (fun hHeld=>?_)
      clear hK K
      refine nmA ?_
      refine puA (i:=8) (N:=some 24) #[Y,Y,Y,Y,Y,Y,Y,Y,Y,Z,Z,Z,Z,Z] rfl rfl HT_ ?_
      refine puA (i:=9) (N:=some 33) #[Y,Y,Y,Y,Y,Y,Y,Y,Y,Y,Z,Z,Z,Z] rfl rfl HT_ ?_
      refine puA (i:=10) (N:=some 34) #[Y,Y,Y,Y,Y,Y,Y,Y,Y,Y,Y,Z,Z,Z] rfl rfl HT_ ?_
      exact norm_ (by first|(simp only [putAll,Act.put,List.setIfInBounds_toArray,List.set_cons_zero,List.set_cons_succ];done)|(simp only [putAll,Act.put,List.setIfInBounds_toArray,List.set_cons_zero,List.set_cons_succ];rfl)) (hJ2_4_6_7 () _ ⟨hHeld,(bkA BK208),(bkA BK209),(bkA BK210),(bkA BK221),blA⟩)
     ·
      skip
      refine box_step ?hg (N:=11) ?hd (cs:=#[.int .i64 0,.int .i64 0,.int .i64 0]) (t:=25) ?hr ?_;(case hd=>rfl);(case hg=>rfl);(case hr=>first|(go_simp;done)|(go_simp;rfl))
      intro gb232 hg w35 hbox hb
      have BK232:=Aside0.mk hbox
      have GW232:=sA hg
      have GE232:=sA hg
      have NB208_232:=nA hg BK208
      have NB232_208:=nB hg BK208
      have NB209_232:=nA hg BK209
      have NB232_209:=nB hg BK209
      have NB210_232:=nA hg BK210
      have NB232_210:=nB hg BK210
      have NB221_232:=nA hg BK221
      have NB232_221:=nB hg BK221
      replace BK208:=kB BK208 hb
      replace BK209:=kB BK209 hb
      replace BK210:=kB BK210 hb
      replace BK221:=kB BK221 hb
      replace HB:=lB hb
      clear hb hbox hg
      refine hK.out _ _ ⟨cA BK208 0,cA BK208 1,cA BK209 0,cA BK209 1,cA BK210 0,cA BK210 1⟩ (fun hHeld=>?_)
      clear hK K
      refine nmA ?_
      exact norm_ (by first|(simp only [putAll,Act.put,List.setIfInBounds_toArray,List.set_cons_zero,List.set_cons_succ];done)|(simp only [putAll,Act.put,List.setIfInBounds_toArray,List.set_cons_zero,List.set_cons_succ];rfl)) (hJ2_4_6_11 (gb232) _ ⟨hHeld,(bkA BK208),(bkA BK209),(bkA BK210),(bkA BK221),(bkA BK232),GW232.out,GE232.out,NB208_232.out,NB232_208.out,NB209_232.out,NB232_209.out,NB210_232.out,NB232_210.out,NB221_232.out,NB232_221.out,blA⟩)
   ·
    skip
    rintro gb232 w35 ⟨hS_,h0_,h1_,h2_,h3_,h4_,h5_,h6_,h7_,h8_,h9_,h10_,h11_,h12_,h13_,h14_,h15_⟩
    have BK232:=Aside0.mk h4_
    have GW232:=Aside0.mk h5_
    have GE232:=Aside0.mk h6_
    have NB208_232:=Aside0.mk h7_
    have NB232_208:=Aside0.mk h8_
    have NB209_232:=Aside0.mk h9_
    have NB232_209:=Aside0.mk h10_
    have NB210_232:=Aside0.mk h11_
    have NB232_210:=Aside0.mk h12_
    have NB221_232:=Aside0.mk h13_
    have NB232_221:=Aside0.mk h14_
    replace BK208:=Aside0.mk h0_
    replace BK209:=Aside0.mk h1_
    replace BK210:=Aside0.mk h2_
    replace BK221:=Aside0.mk h3_
    replace HB:=Aside0.mk h15_
    clear h0_ h1_ h2_ h3_ h4_ h5_ h6_ h7_ h8_ h9_ h10_ h11_ h12_ h13_ h14_ h15_
    have hHeld:w35.cell? ⟨gb208,0,none⟩=some (.int .i64 a1_0)∧w35.cell? ⟨gb208,1,none⟩=some (.int .i64 a1_1)∧w35.cell? ⟨gb209,0,none⟩=some (.int .i64 a2_0)∧w35.cell? ⟨gb209,1,none⟩=some (.int .i64 a2_1)∧w35.cell? ⟨gb210,0,none⟩=some (.int .i64 a3_0)∧w35.cell? ⟨gb210,1,none⟩=some (.int .i64 a3_1):=hS_
    refine norm_ (a':=?_) ?_ ?_
    rotate_left
    ·
     simp only [putAll,Act.put,List.setIfInBounds_toArray,List.set_cons_zero,List.set_cons_succ]
     rfl
    refine one_ (i:=7) (N:=some 32) #[Y,Y,Y,Y,Y,Y,Y,Y,Z,Z,Z,Y,Z,Z] rfl rfl (one_of HT_.out (by kernel_rfl)) (by decide) (fun K hK=>?_)
    refine goC Try.func7 (impl_MeetingOf.calls (w:=_) (h:=A12.out)) ?_
    intro w36 hb
    replace BK208:=kB BK208 hb
    replace BK209:=kB BK209 hb
    replace BK210:=kB BK210 hb
    replace BK221:=kB BK221 hb
    replace BK232:=kB BK232 hb
    replace HB:=lB hb
    (try clear hb)
    (try clear hb2)
    (try clear hk)
    (try clear hi)
    refine hK.out _ _ ⟨cA BK208 0,cA BK208 1,cA BK209 0,cA BK209 1,cA BK210 0,cA BK210 1⟩ (fun hHeld=>?_)
    clear hK K
    refine nmA ?_
    refine puA (i:=8) (N:=some 24) #[Y,Y,Y,Y,Y,Y,Y,Y,Y,Z,Z,Y,Z,Z] rfl rfl HT_ ?_
    refine puA (i:=9) (N:=some 33) #[Y,Y,Y,Y,Y,Y,Y,Y,Y,Y,Z,Y,Z,Z] rfl rfl HT_ ?_
    refine puA (i:=10) (N:=some 34) #[Y,Y,Y,Y,Y,Y,Y,Y,Y,Y,Y,Y,Z,Z] rfl rfl HT_ ?_
    exact norm_ (by first|(simp only [putAll,Act.put,List.setIfInBounds_toArray,List.set_cons_zero,List.set_cons_succ];done)|(simp only [putAll,Act.put,List.setIfInBounds_toArray,List.set_cons_zero,List.set_cons_succ];rfl)) (hJ2_4_6_7_11 (gb232) _ ⟨hHeld,(bkA BK208),(bkA BK209),(bkA BK210),(bkA BK221),(bkA BK232),GW232.out,GE232.out,NB208_232.out,NB232_208.out,NB209_232.out,NB232_209.out,NB210_232.out,NB232_210.out,NB221_232.out,NB232_221.out,blA⟩)
  ·
   skip
   rintro _ w35 ⟨hS_,h0_,h1_,h2_,h3_,h4_⟩
   replace BK208:=Aside0.mk h0_
   replace BK209:=Aside0.mk h1_
   replace BK210:=Aside0.mk h2_
   replace BK221:=Aside0.mk h3_
   replace HB:=Aside0.mk h4_
   clear h0_ h1_ h2_ h3_ h4_
   have hHeld:w35.cell? ⟨gb208,0,none⟩=some (.int .i64 a1_0)∧w35.cell? ⟨gb208,1,none⟩=some (.int .i64 a1_1)∧w35.cell? ⟨gb209,0,none⟩=some (.int .i64 a2_0)∧w35.cell? ⟨gb209,1,none⟩=some (.int .i64 a2_1)∧w35.cell? ⟨gb210,0,none⟩=some (.int .i64 a3_0)∧w35.cell? ⟨gb210,1,none⟩=some (.int .i64 a3_1):=hS_
   refine norm_ (a':=?_) ?_ ?_
   rotate_left
   ·
    simp only [putAll,Act.put,List.setIfInBounds_toArray,List.set_cons_zero,List.set_cons_succ]
    rfl
   refine one_ (i:=11) (N:=some 11) #[Y,Y,Y,Y,Y,Y,Y,Y,Y,Y,Y,Y,Z,Z] rfl rfl (one_of HT_.out (by kernel_rfl)) (by decide) (fun K hK=>?_)
   refine box_step ?hg (N:=11) ?hd (cs:=#[.int .i64 0,.int .i64 0,.int .i64 0]) (t:=25) ?hr ?_;(case hd=>rfl);(case hg=>rfl);(case hr=>first|(go_simp;done)|(go_simp;rfl))
   intro gb232 hg w36 hbox hb
   have BK232:=Aside0.mk hbox
   have GW232:=sA hg
   have GE232:=sA hg
   have NB208_232:=nA hg BK208
   have NB232_208:=nB hg BK208
   have NB209_232:=nA hg BK209
   have NB232_209:=nB hg BK209
   have NB210_232:=nA hg BK210
   have NB232_210:=nB hg BK210
   have NB221_232:=nA hg BK221
   have NB232_221:=nB hg BK221
   replace BK208:=kB BK208 hb
   replace BK209:=kB BK209 hb
   replace BK210:=kB BK210 hb
   replace BK221:=kB BK221 hb
   replace HB:=lB hb
   clear hb hbox hg
   refine hK.out _ _ ⟨cA BK208 0,cA BK208 1,cA BK209 0,cA BK209 1,cA BK210 0,cA BK210 1⟩ (fun hHeld=>?_)
   clear hK K
   refine nmA ?_
   exact norm_ (by first|(simp only [putAll,Act.put,List.setIfInBounds_toArray,List.set_cons_zero,List.set_cons_succ];done)|(simp only [putAll,Act.put,List.setIfInBounds_toArray,List.set_cons_zero,List.set_cons_succ];rfl)) (hJ2_4_6_7_11 (gb232) _ ⟨hHeld,(bkA BK208),(bkA BK209),(bkA BK210),(bkA BK221),(bkA BK232),GW232.out,GE232.out,NB208_232.out,NB232_208.out,NB209_232.out,NB232_209.out,NB210_232.out,NB232_210.out,NB221_232.out,NB232_221.out,blA⟩)
 rintro gb232 w36 ⟨hS_,h0_,h1_,h2_,h3_,h4_,h5_,h6_,h7_,h8_,h9_,h10_,h11_,h12_,h13_,h14_,h15_⟩
 have BK232:=Aside0.mk h4_
 have GW232:=Aside0.mk h5_
 have GE232:=Aside0.mk h6_
 have NB208_232:=Aside0.mk h7_
 have NB232_208:=Aside0.mk h8_
 have NB209_232:=Aside0.mk h9_
 have NB232_209:=Aside0.mk h10_
 have NB210_232:=Aside0.mk h11_
 have NB232_210:=Aside0.mk h12_
 have NB221_232:=Aside0.mk h13_
 have NB232_221:=Aside0.mk h14_
 replace BK208:=Aside0.mk h0_
 replace BK209:=Aside0.mk h1_
 replace BK210:=Aside0.mk h2_
 replace BK221:=Aside0.mk h3_
 replace HB:=Aside0.mk h15_
 clear h0_ h1_ h2_ h3_ h4_ h5_ h6_ h7_ h8_ h9_ h10_ h11_ h12_ h13_ h14_ h15_
 have hHeld:w36.cell? ⟨gb208,0,none⟩=some (.int .i64 a1_0)∧w36.cell? ⟨gb208,1,none⟩=some (.int .i64 a1_1)∧w36.cell? ⟨gb209,0,none⟩=some (.int .i64 a2_0)∧w36.cell? ⟨gb209,1,none⟩=some (.int .i64 a2_1)∧w36.cell? ⟨gb210,0,none⟩=some (.int .i64 a3_0)∧w36.cell? ⟨gb210,1,none⟩=some (.int .i64 a3_1):=hS_
 refine norm_ (a':=?_) ?_ ?_
 rotate_left
 ·
  simp only [putAll,Act.put,List.setIfInBounds_toArray,List.set_cons_zero,List.set_cons_succ]
  rfl
 refine one_ (i:=12) (N:=none) #[Y,Y,Y,Y,Y,Y,Y,Y,Y,Y,Y,Y,Y,Z] rfl rfl (one_of HT_.out (by kernel_rfl)) (by decide) (fun K hK=>?_)
 have hs37:w36.cell? ⟨gb232,0,none⟩=some (.int .i64 0):=cA BK232 0
 have hfs37:=blk_frozen BK232.out 0
 have hns37_0:=NB208_232.out
 have hns37_1:=NB209_232.out
 have hns37_2:=NB210_232.out
 have hns37_3:=NB221_232.out
 have hms37_0:=NB232_208.out
 have hms37_1:=NB232_209.out
 have hms37_2:=NB232_210.out
 have hms37_3:=NB232_221.out
 have hs38:w36.cell? ⟨gb232,1,none⟩=some (.int .i64 0):=cA BK232 1
 have hfs38:=blk_frozen BK232.out 1
 have hns38_0:=NB208_232.out
 have hns38_1:=NB209_232.out
 have hns38_2:=NB210_232.out
 have hns38_3:=NB221_232.out
 have hms38_0:=NB232_208.out
 have hms38_1:=NB232_209.out
 have hms38_2:=NB232_210.out
 have hms38_3:=NB232_221.out
 have hs39:w36.cell? ⟨gb232,2,none⟩=some (.int .i64 0):=cA BK232 2
 have hfs39:=blk_frozen BK232.out 2
 have hns39_0:=NB208_232.out
 have hns39_1:=NB209_232.out
 have hns39_2:=NB210_232.out
 have hns39_3:=NB221_232.out
 have hms39_0:=NB232_208.out
 have hms39_1:=NB232_209.out
 have hms39_2:=NB232_210.out
 have hms39_3:=NB232_221.out
 refine skip_ (w1:=?_) (by rfl) rfl ?_ ?_
 rotate_left
 ·
  go_simp
  rfl
 refine hK.out _ _ ⟨cfA hHeld.1,cfA hHeld.2.1,cfA hHeld.2.2.1,cfA hHeld.2.2.2.1,cfA hHeld.2.2.2.2.1,cfA hHeld.2.2.2.2.2⟩ (fun hHeld=>?_)
 clear hK K
 refine puA (i:=13) (N:=some 12) #[Y,Y,Y,Y,Y,Y,Y,Y,Y,Y,Y,Y,Y,Y] rfl rfl HT_ ?_
 refine done_ (done_of HT_.out (by kernel_rfl)) ?_
 have hnb40:=NB232_208.out
 have hnc40:=NB208_232.out
 have hnb41:=NB232_209.out
 have hnc41:=NB209_232.out
 have hnb42:=NB232_210.out
 have hnc42:=NB210_232.out
 have hnb43:=NB232_221.out
 have hnc43:=NB221_232.out
 obtain ⟨hcz44_0,hcz44_1,hcz44_2,hfz44_0,hfz44_1,hfz44_2⟩:=cz3 BK232
 have hnb45:=NB221_208.out
 have hnc45:=NB208_221.out
 have hnb46:=NB221_209.out
 have hnc46:=NB209_221.out
 have hnb47:=NB221_210.out
 have hnc47:=NB210_221.out
 obtain ⟨hcz48_0,hcz48_1,hcz48_2,hfz48_0,hfz48_1,hfz48_2⟩:=cz3 BK221
 try go_wp2_with (first|((with_reducible refine gd 37 rfl ?_);refine gC (some 37) rfl Try.func8 (laws_eqBall.calls (w:=_) (h:=A13.out)) ?_;intro w49 hb;have n0_:=Aside0.mk (blk_below (g:=gb208) (o:=.cells #[.int .i64 a1_0,.int .i64 a1_1] 23 (0,0)) (bkF BK208) hb);have n1_:=Aside0.mk (blk_below (g:=gb209) (o:=.cells #[.int .i64 a2_0,.int .i64 a2_1] 23 (0,0)) (bkF BK209) hb);have n2_:=Aside0.mk (blk_below (g:=gb210) (o:=.cells #[.int .i64 a3_0,.int .i64 a3_1] 23 (0,0)) (bkF BK210) hb);have n3_:=Aside0.mk (blk_below (g:=gb221) (o:=.cells #[.int .i64 t217,.int .i64 t218,.int .i64 t219] 25 (0,0)) (bkF BK221) hb);have n4_:=Aside0.mk (blk_below (g:=gb232) (o:=.cells #[.int .i64 t228,.int .i64 t229,.int .i64 t230] 25 (0,0)) (bpA BK232) hb);have n5_:=lB hb;clear BK208;clear BK209;clear BK210;clear BK221;clear BK232;clear HB;have BK208:=n0_;have BK209:=n1_;have BK210:=n2_;have BK221:=n3_;have BK232:=n4_;have HB:=n5_;clear n0_ n1_ n2_ n3_ n4_ n5_;clear hb))
 go_ret
 exact finA blA
end Go.Proofs.Ytpihnmmoahplgaa.PAll
