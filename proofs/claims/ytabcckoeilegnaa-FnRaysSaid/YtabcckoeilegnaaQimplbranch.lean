-- turned out of the kit's print
import Derived.Test.YtabcckoeilegnaaQx
import Derived.Test.YtabcckoeilegnaaQimplheld
import Derived.Test.YtabcckoeilegnaaQimplinverse
import Derived.Test.YtabcckoeilegnaaQimplmark
import Derived.Test.YtabcckoeilegnaaQimplmod
import Derived.Test.YtabcckoeilegnaaQimpltimes
import Derived.Test.YtabcckoeilegnaaQimplunit
namespace Go.Proofs.Ytabcckoeilegnaa.PAll
open Go.RowKit Go.Proofs.YtabcckoeilegnaaW.PrintWords Go.Proofs.YtabcckoeilegnaaW.PrintLast Go.Proofs.YtabcckoeilegnaaW.PrintMore
attribute [local go_sem] Go.Proofs.Ytabcckoeilegnaa.Aux.setCell_drewN Go.Proofs.Ytabcckoeilegnaa.Aux.isSome_setCell max2_int min2_int max_two min_two max_three min_three max_four min_four
set_option linter.unusedVariables false
set_option linter.unusedSimpArgs false
def impl_branch.f (k:Nat) (a0 a1_0 a1_1 a1_2 a2_0 a2_1:Int):Option (Int):=(impl_held.f k a0 a1_0 a1_1 a1_2 a2_0 a2_1).bind fun t407=>(if t407=true then ((impl_power.f k a0 6).bind fun t408=>((impl_mark.f k a0 a1_0 a1_1 a1_2).bind fun t409=>((impl_valuation.f k a0 a2_1).bind fun t410=>((impl_power.f k a0 (wrap64 ((wrap64 (a1_0+6))+t410))).bind fun t411=>(if t411=0 then (none) else ((impl_unit.f k a0 a2_1).bind fun t412=>((impl_inverse.f k t412 a0).bind fun t413=>((impl_times.f k (wrap64 (Int.tdiv (wrap64 ((wrap64 (a2_0*t408)) - (wrap64 (t409*a2_1)))) t411)) t413 a0).bind fun t414=>(some (wrap64 (1+t414))))))))))) else (some 0))
theorem impl_branch.mono:∀ a0 a1 a2 a3 a4 a5 k,LeO (impl_branch.f k a0 a1 a2 a3 a4 a5) (impl_branch.f (k+1) a0 a1 a2 a3 a4 a5):=by
 intro a0 a1 a2 a3 a4 a5 k
 unfold impl_branch.f
 repeat' first
   | with_reducible first|exact impl_held.mono ..|exact impl_inverse.mono ..|exact impl_mark.mono ..|exact impl_power.mono ..|exact impl_times.mono ..|exact impl_unit.mono ..|exact impl_valuation.mono ..|exact LeO.refl _|exact LeO.none _|refine LeO.ite ?_ ?_|refine LeO.bind ?_ fun _=>?_
def impl_branch.T3:Bool × List (List Nat × List Nat):=(true,[([],[]),([0],[0]),([],[]),([2],[2]),([1,3],[1,3]),([],[]),([],[]),([5,6,3],[5,6]),([],[]),([8],[8]),([7,9],[7,9]),([4,10],[4,10]),([11,7,0,1,2,3,4,5,6,7,8,9,10,11],[11])])
def impl_branch.B3:List Nat:=[0,1,0,4,15,0,0,108,0,256,1004,2047,4095]
theorem impl_branch.tab3:rtab .any (opsOf Try.f30 3)=impl_branch.T3:=by kernel_rfl
theorem impl_branch.bits3:waitsOk impl_branch.T3.2 impl_branch.B3=true:=by kernel_rfl
def impl_branch.T4:Bool × List (List Nat × List Nat):=(true,[([],[]),([],[]),([],[]),([2],[2]),([3],[3]),([],[]),([],[]),([6],[6]),([5,7],[5,7]),([4,8],[4,8]),([1,9,8],[1,9]),([0,10],[0,10]),([11,10,0,1,2,3,4,5,6,7,8,9,10,11],[0,11])])
def impl_branch.B4:List Nat:=[0,0,0,4,12,0,0,64,224,508,1022,2047,4095]
theorem impl_branch.tab4:rtab .any (opsOf Try.f30 4)=impl_branch.T4:=by kernel_rfl
theorem impl_branch.bits4:waitsOk impl_branch.T4.2 impl_branch.B4=true:=by kernel_rfl
set_option maxHeartbeats 8000000 in
set_option maxRecDepth 100000 in
theorem impl_branch.calls (k:Nat) (a0 a1_0 a1_1 a1_2 a2_0 a2_1 r:Int) (w:World) (h:impl_branch.f k a0 a1_0 a1_1 a1_2 a2_0 a2_1=some r) :
  Calls Try.prog 30 #[.int .i64 a0,.agg #[.int .i64 a1_0,.int .i64 a1_1,.int .i64 a1_2],.agg #[.int .i64 a2_0,.int .i64 a2_1]] w fun e w'=>e=.returned (.int .i64 r)∧Below w.heap.size w w':=by
 have hu25:=Try.underlying25
 have hu27:=Try.underlying27
 have HB:=Aside0.mk (Below.refl w.heap.size w)
 have H:=h
 unfold impl_branch.f at H
 clear h
 replace H:=bS H
 obtain ⟨t407,A4,H⟩:=H
 try dsimp only at H
 by_cases c5:t407=true
 ·
  subst c5
  rw [if_pos rfl] at H
  try dsimp only at H
  replace H:=bS H
  obtain ⟨t408,A6,H⟩:=H
  try dsimp only at H
  replace H:=bS H
  obtain ⟨t409,A7,H⟩:=H
  try dsimp only at H
  replace H:=bS H
  obtain ⟨t410,A8,H⟩:=H
  try dsimp only at H
  replace H:=bS H
  obtain ⟨t411,A9,H⟩:=H
  try dsimp only at H
  by_cases c10:t411=0
  ·
   rw [if_pos c10] at H
   exact absurd H (by simp)
  rw [if_neg c10] at H
  have c10b0:(t411 == 0)=false:=beq_eq_false_iff_ne.mpr c10
  have c10b1:(t411 != 0)=true:=bne_iff_ne.mpr c10
  replace H:=bS H
  obtain ⟨t412,A11,H⟩:=H
  try dsimp only at H
  replace H:=bS H
  obtain ⟨t413,A12,H⟩:=H
  try dsimp only at H
  replace H:=bS H
  obtain ⟨t414,A13,H⟩:=H
  try dsimp only at H
  obtain rfl:=Option.some.inj H
  go_enter Try.func30,Try.ntmps30
  try go_wp2_with (first|((with_reducible refine gate_dst (N:=4) rfl ?_);refine bxE (cs:=#[.int .i64 a1_0,.int .i64 a1_1,.int .i64 a1_2]) (t:=25) ?_;intro gb405 hg w14 hbox hb;have n0_:=lB hb;have n1_:=Aside0.mk hbox;have n2_:=sA hg;have n3_:=sA hg;clear HB;have HB:=n0_;have BK405:=n1_;have GW405:=n2_;have GE405:=n3_;clear n0_ n1_ n2_ n3_;clear hb hbox hg)|((with_reducible refine gate_dst (N:=5) rfl ?_);refine bxE (cs:=#[.int .i64 a2_0,.int .i64 a2_1]) (t:=27) ?_;intro gb406 hg w15 hbox hb;have n0_:=kB BK405 hb;have n1_:=lB hb;have n2_:=Aside0.mk hbox;have n3_:=sA hg;have n4_:=sA hg;have n5_:=nA hg BK405;have n6_:=nB hg BK405;clear BK405;clear HB;have BK405:=n0_;have HB:=n1_;have BK406:=n2_;have GW406:=n3_;have GE406:=n4_;have NB405_406:=n5_;have NB406_405:=n6_;clear n0_ n1_ n2_ n3_ n4_ n5_ n6_;clear hb hbox hg;have hnb16:=NB405_406.out;have hnc16:=NB406_405.out;obtain ⟨hcz17_0,hcz17_1,hcz17_2,hfz17_0,hfz17_1,hfz17_2⟩:=cz3 BK405;obtain ⟨hcz18_0,hcz18_1,hfz18_0,hfz18_1⟩:=cz2 BK406)|((with_reducible refine gd 11 rfl ?_);refine gC (some 11) rfl Try.func62 (impl_held.calls (w:=_) (h:=A4.out)) ?_;intro w19 hb;have n0_:=kB BK405 hb;have n1_:=kB BK406 hb;have n2_:=lB hb;clear BK405;clear BK406;clear HB;have BK405:=n0_;have BK406:=n1_;have HB:=n2_;clear n0_ n1_ n2_;clear hb))
  have n0_:=Aside0.mk (blk_drew BK405.out)
  have n1_:=Aside0.mk (blk_drew BK406.out)
  have n2_:=Aside0.mk (below_drew1 HB.out)
  clear BK405
  clear BK406
  clear HB
  have BK405:=n0_
  have BK406:=n1_
  have HB:=n2_
  clear n0_ n1_ n2_
  refine start_ (n:=13) (S:=fun w'=>w'.cell? ⟨gb406,0,none⟩=some (.int .i64 a2_0)∧w'.cell? ⟨gb406,1,none⟩=some (.int .i64 a2_1)∧w'.cell? ⟨gb405,0,none⟩=some (.int .i64 a1_0)∧w'.cell? ⟨gb405,1,none⟩=some (.int .i64 a1_1)∧w'.cell? ⟨gb405,2,none⟩=some (.int .i64 a1_2)) (ds:=[]) #[Z,Z,Z,Z,Z,Z,Z,Z,Z,Z,Z,Z,Z] (by kernel_rfl) rfl rfl ⟨cA BK406 0,cA BK406 1,cA BK405 0,cA BK405 1,cA BK405 2⟩ (fun hHeld=>?_);refine with_tabW impl_branch.tab3 impl_branch.bits3 (fun HT_ HW_=>?_)
  generalize w19.drew=w20 at BK405 BK406 HB hHeld ⊢
  refine puA (i:=0) (N:=some 13) #[Y,Z,Z,Z,Z,Z,Z,Z,Z,Z,Z,Z,Z] rfl rfl HT_ ?_
  refine puA (i:=2) (N:=some 15) #[Y,Z,Y,Z,Z,Z,Z,Z,Z,Z,Z,Z,Z] rfl rfl HT_ ?_
  refine puA (i:=5) (N:=some 18) #[Y,Z,Y,Z,Z,Y,Z,Z,Z,Z,Z,Z,Z] rfl rfl HT_ ?_
  refine puA (i:=8) (N:=some 21) #[Y,Z,Y,Z,Z,Y,Z,Z,Y,Z,Z,Z,Z] rfl rfl HT_ ?_
  refine taA (i:=1) (N:=some 14) #[Y,Y,Y,Z,Z,Y,Z,Z,Y,Z,Z,Z,Z] rfl rfl HT_ HW_ hHeld ?_
  refine taA (i:=6) (N:=some 19) #[Y,Y,Y,Z,Z,Y,Y,Z,Y,Z,Z,Z,Z] rfl rfl HT_ HW_ hHeld ?_
  refine taA (i:=9) (N:=some 22) #[Y,Y,Y,Z,Z,Y,Y,Z,Y,Y,Z,Z,Z] rfl rfl HT_ HW_ hHeld ?_
  refine one_ (i:=3) (N:=some 16) #[Y,Y,Y,Y,Z,Y,Y,Z,Y,Y,Z,Z,Z] rfl rfl (one_of HT_.out (by kernel_rfl)) (by decide) (fun K hK=>?_)
  refine goC Try.func57 (impl_power.calls (w:=_) (h:=A6.out)) ?_
  rintro _ ⟨nd,rfl⟩
  refine hK.out _ _ ⟨cA BK406 0,cA BK406 1,cA BK405 0,cA BK405 1,cA BK405 2⟩ (fun hHeld=>?_)
  clear hK K
  refine nmA ?_
  refine puA (i:=4) (N:=some 17) #[Y,Y,Y,Y,Y,Y,Y,Z,Y,Y,Z,Z,Z] rfl rfl HT_ ?_
  refine one_ (i:=7) (N:=some 20) #[Y,Y,Y,Y,Y,Y,Y,Y,Y,Y,Z,Z,Z] rfl rfl (one_of HT_.out (by kernel_rfl)) (by decide) (fun K hK=>?_)
  refine goC Try.func43 (impl_mark.calls (w:=_) (h:=A7.out)) ?_
  intro w21 hb
  replace BK405:=kB BK405 hb
  replace BK406:=kB BK406 hb
  replace HB:=lB hb
  (try clear hb)
  (try clear hb2)
  (try clear hk)
  (try clear hi)
  refine hK.out _ _ ⟨cA BK406 0,cA BK406 1,cA BK405 0,cA BK405 1,cA BK405 2⟩ (fun hHeld=>?_)
  clear hK K
  refine nmA ?_
  refine puA (i:=10) (N:=some 23) #[Y,Y,Y,Y,Y,Y,Y,Y,Y,Y,Y,Z,Z] rfl rfl HT_ ?_
  refine puA (i:=11) (N:=some 24) #[Y,Y,Y,Y,Y,Y,Y,Y,Y,Y,Y,Y,Z] rfl rfl HT_ ?_
  refine puA (i:=12) (N:=some 7) #[Y,Y,Y,Y,Y,Y,Y,Y,Y,Y,Y,Y,Y] rfl rfl HT_ ?_
  refine done_ (done_of HT_.out (by kernel_rfl)) ?_
  try go_wp2
  have n0_:=Aside0.mk (blk_drew BK405.out)
  have n1_:=Aside0.mk (blk_drew BK406.out)
  have n2_:=Aside0.mk (below_drew1 HB.out)
  clear BK405
  clear BK406
  clear HB
  have BK405:=n0_
  have BK406:=n1_
  have HB:=n2_
  clear n0_ n1_ n2_
  refine start_ (n:=13) (S:=fun w'=>w'.cell? ⟨gb405,0,none⟩=some (.int .i64 a1_0)∧w'.cell? ⟨gb405,1,none⟩=some (.int .i64 a1_1)∧w'.cell? ⟨gb405,2,none⟩=some (.int .i64 a1_2)∧w'.cell? ⟨gb406,0,none⟩=some (.int .i64 a2_0)∧w'.cell? ⟨gb406,1,none⟩=some (.int .i64 a2_1)) (ds:=[]) #[Z,Z,Z,Z,Z,Z,Z,Z,Z,Z,Z,Z,Z] (by kernel_rfl) rfl rfl ⟨cA BK405 0,cA BK405 1,cA BK405 2,cA BK406 0,cA BK406 1⟩ (fun hHeld=>?_);refine with_tabW impl_branch.tab4 impl_branch.bits4 (fun HT_ HW_=>?_)
  generalize w21.drew=w22 at BK405 BK406 HB hHeld ⊢
  refine puA (i:=0) (N:=some 25) #[Y,Z,Z,Z,Z,Z,Z,Z,Z,Z,Z,Z,Z] rfl rfl HT_ ?_
  refine puA (i:=1) (N:=some 26) #[Y,Y,Z,Z,Z,Z,Z,Z,Z,Z,Z,Z,Z] rfl rfl HT_ ?_
  refine puA (i:=2) (N:=some 27) #[Y,Y,Y,Z,Z,Z,Z,Z,Z,Z,Z,Z,Z] rfl rfl HT_ ?_
  refine puA (i:=5) (N:=some 30) #[Y,Y,Y,Z,Z,Y,Z,Z,Z,Z,Z,Z,Z] rfl rfl HT_ ?_
  refine puA (i:=6) (N:=some 31) #[Y,Y,Y,Z,Z,Y,Y,Z,Z,Z,Z,Z,Z] rfl rfl HT_ ?_
  refine taA (i:=3) (N:=some 28) #[Y,Y,Y,Y,Z,Y,Y,Z,Z,Z,Z,Z,Z] rfl rfl HT_ HW_ hHeld ?_
  refine puA (i:=4) (N:=some 29) #[Y,Y,Y,Y,Y,Y,Y,Z,Z,Z,Z,Z,Z] rfl rfl HT_ ?_
  refine taA (i:=7) (N:=some 32) #[Y,Y,Y,Y,Y,Y,Y,Y,Z,Z,Z,Z,Z] rfl rfl HT_ HW_ hHeld ?_
  refine one_ (i:=8) (N:=some 33) #[Y,Y,Y,Y,Y,Y,Y,Y,Y,Z,Z,Z,Z] rfl rfl (one_of HT_.out (by kernel_rfl)) (by decide) (fun K hK=>?_)
  refine goC Try.func63 (impl_valuation.calls (w:=_) (h:=A8.out)) ?_
  rintro _ ⟨nd,rfl⟩
  refine hK.out _ _ ⟨cA BK405 0,cA BK405 1,cA BK405 2,cA BK406 0,cA BK406 1⟩ (fun hHeld=>?_)
  clear hK K
  refine nmA ?_
  refine puA (i:=9) (N:=some 34) #[Y,Y,Y,Y,Y,Y,Y,Y,Y,Y,Z,Z,Z] rfl rfl HT_ ?_
  refine one_ (i:=10) (N:=some 35) #[Y,Y,Y,Y,Y,Y,Y,Y,Y,Y,Y,Z,Z] rfl rfl (one_of HT_.out (by kernel_rfl)) (by decide) (fun K hK=>?_)
  refine goC Try.func57 (impl_power.calls (w:=_) (h:=A9.out)) ?_
  rintro _ ⟨nd,rfl⟩
  refine hK.out _ _ ⟨cA BK405 0,cA BK405 1,cA BK405 2,cA BK406 0,cA BK406 1⟩ (fun hHeld=>?_)
  clear hK K
  refine nmA ?_
  refine puA (i:=11) (N:=some 36) #[Y,Y,Y,Y,Y,Y,Y,Y,Y,Y,Y,Y,Z] rfl rfl HT_ ?_
  refine puA (i:=12) (N:=some 7) #[Y,Y,Y,Y,Y,Y,Y,Y,Y,Y,Y,Y,Y] rfl rfl HT_ ?_
  refine done_ (done_of HT_.out (by kernel_rfl)) ?_
  obtain ⟨hcz23_0,hcz23_1,hfz23_0,hfz23_1⟩:=cz2 BK406
  try go_wp2_with (first|((with_reducible refine gd 41 rfl ?_);refine gC (some 41) rfl Try.func66 (impl_unit.calls (w:=_) (h:=A11.out)) ?_;rintro _ ⟨nd,rfl⟩)|((with_reducible refine gd 43 rfl ?_);refine gC (some 43) rfl Try.func65 (impl_inverse.calls (w:=_) (h:=A12.out)) ?_;rintro _ ⟨nd,rfl⟩)|((with_reducible refine gate_callee (f:=64) rfl ?_);refine gL (some 45) rfl Try.func64 #[.int .i64 (wrap64 (Int.tdiv (wrap64 ((wrap64 (a2_0*t408)) - (wrap64 (t409*a2_1)))) t411)),.int .i64 t413,.int .i64 a0] ?_;(with_reducible refine (impl_times.calls k (wrap64 (Int.tdiv (wrap64 ((wrap64 (a2_0*t408)) - (wrap64 (t409*a2_1)))) t411)) t413 a0 t414 _ A13.out).mono ?_);rintro e w' ⟨rfl,⟨nd,rfl⟩⟩;refine ⟨_,rfl,?_⟩))
  go_ret
  exact finA blA
 ·
  replace c5:=Bool.eq_false_iff.mpr c5
  subst c5
  rw [if_neg (show ¬ (false=true) by decide)] at H
  try dsimp only at H
  obtain rfl:=Option.some.inj H
  go_enter Try.func30,Try.ntmps30
  go_wp2_with (first|((with_reducible refine gate_dst (N:=4) rfl ?_);refine bxE (cs:=#[.int .i64 a1_0,.int .i64 a1_1,.int .i64 a1_2]) (t:=25) ?_;intro gb405 hg w24 hbox hb;have n0_:=lB hb;have n1_:=Aside0.mk hbox;have n2_:=sA hg;have n3_:=sA hg;clear HB;have HB:=n0_;have BK405:=n1_;have GW405:=n2_;have GE405:=n3_;clear n0_ n1_ n2_ n3_;clear hb hbox hg)|((with_reducible refine gate_dst (N:=5) rfl ?_);refine bxE (cs:=#[.int .i64 a2_0,.int .i64 a2_1]) (t:=27) ?_;intro gb406 hg w25 hbox hb;have n0_:=kB BK405 hb;have n1_:=lB hb;have n2_:=Aside0.mk hbox;have n3_:=sA hg;have n4_:=sA hg;have n5_:=nA hg BK405;have n6_:=nB hg BK405;clear BK405;clear HB;have BK405:=n0_;have HB:=n1_;have BK406:=n2_;have GW406:=n3_;have GE406:=n4_;have NB405_406:=n5_;have NB406_405:=n6_;clear n0_ n1_ n2_ n3_ n4_ n5_ n6_;clear hb hbox hg;have hnb26:=NB405_406.out;have hnc26:=NB406_405.out;obtain ⟨hcz27_0,hcz27_1,hcz27_2,hfz27_0,hfz27_1,hfz27_2⟩:=cz3 BK405;obtain ⟨hcz28_0,hcz28_1,hfz28_0,hfz28_1⟩:=cz2 BK406)|((with_reducible refine gd 11 rfl ?_);refine gC (some 11) rfl Try.func62 (impl_held.calls (w:=_) (h:=A4.out)) ?_;intro w29 hb;have n0_:=kB BK405 hb;have n1_:=kB BK406 hb;have n2_:=lB hb;clear BK405;clear BK406;clear HB;have BK405:=n0_;have BK406:=n1_;have HB:=n2_;clear n0_ n1_ n2_;clear hb))
  go_ret
  exact finA blA
end Go.Proofs.Ytabcckoeilegnaa.PAll
