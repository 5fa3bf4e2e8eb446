-- turned out of the kit's print
import Derived.Test.YtabcckoeilegnaaQx
import Derived.Test.YtabcckoeilegnaaQimplmod
import Derived.Test.YtabcckoeilegnaaQspecl01Is
import Derived.Test.YtabcckoeilegnaaQspecl02Meet
namespace Go.Proofs.Ytabcckoeilegnaa.PAll
open Go.RowKit Go.Proofs.YtabcckoeilegnaaW.PrintWords Go.Proofs.YtabcckoeilegnaaW.PrintLast Go.Proofs.YtabcckoeilegnaaW.PrintMore
attribute [local go_sem] Go.Proofs.Ytabcckoeilegnaa.Aux.setCell_drewN Go.Proofs.Ytabcckoeilegnaa.Aux.isSome_setCell max2_int min2_int max_two min_two max_three min_three max_four min_four
set_option linter.unusedVariables false
set_option linter.unusedSimpArgs false
def spec_l05Branch.j0:Nat→Int→Bool→Int→Int→Int→Int→Int→Option (Int)
 | 0,_,_,_,_,_,_,_=>none
 | k+1,x0,x22,x450000,x450001,x450002,x451000,x451001=>if x22=true then (some 0) else ((spec_l01Power.f k x0 x450002).bind fun t452=>(if (wrap64 ((wrap64 (x451000*t452)) - (wrap64 (x450001*x451001))))=0 then (some 1) else ((spec_l01Val.f k x0 (wrap64 ((wrap64 (x451000*t452)) - (wrap64 (x450001*x451001))))).bind fun t453=>((spec_l01Val.f k x0 (wrap64 (x451001*t452))).bind fun t454=>(if (wrap64 (t453 - t454))>x450000 then (some 1) else ((spec_l01Val.f k x0 (wrap64 ((wrap64 (x451000*t452)) - (wrap64 (x450001*x451001))))).bind fun t455=>((spec_l01Power.f k x0 t455).bind fun t456=>(if t456=0 then (none) else ((spec_l01Val.f k x0 (wrap64 (x451001*t452))).bind fun t457=>((spec_l01Power.f k x0 t457).bind fun t458=>(if t458=0 then (none) else ((spec_l01InvMod.f k (wrap64 (Int.tdiv (wrap64 (x451001*t452)) t458)) x0).bind fun t459=>((spec_l01MulMod.f (wrap64 (Int.tdiv (wrap64 ((wrap64 (x451000*t452)) - (wrap64 (x450001*x451001)))) t456)) t459 x0).bind fun t460=>(some (wrap64 (1+t460))))))))))))))))
def spec_l05Branch.f (k:Nat) (a0 a1_0 a1_1 a1_2 a2_0 a2_1:Int):Option (Int):=if a2_1=0 then (spec_l05Branch.j0 k a0 true a1_0 a1_1 a1_2 a2_0 a2_1) else ((spec_l02Meet.f k a0 a1_0 a1_1 a1_2 a2_0 a2_1).bind fun t451=>(spec_l05Branch.j0 k a0 (decide (t451<a1_0)) a1_0 a1_1 a1_2 a2_0 a2_1))
theorem spec_l05Branch.mono_l:∀ k,(∀ y0 y1 y2 y3 y4 y5 y6,LeO (spec_l05Branch.j0 k y0 y1 y2 y3 y4 y5 y6) (spec_l05Branch.j0 (k+1) y0 y1 y2 y3 y4 y5 y6))
 | 0=>fun _ _ _ _ _ _ _ r h=>by simp [spec_l05Branch.j0] at h
 | k+1=>by
  have ih0:=spec_l05Branch.mono_l k
  ·
   intro y0 y1 y2 y3 y4 y5 y6
   unfold spec_l05Branch.j0
   repeat' first
   | with_reducible first|exact ih0 ..|exact spec_l01InvMod.mono ..|exact spec_l01Power.mono ..|exact spec_l01Val.mono ..|exact spec_l02Meet.mono ..|exact LeO.refl _|exact LeO.none _|refine LeO.ite ?_ ?_|refine LeO.bind ?_ fun _=>?_
theorem spec_l05Branch.mono:∀ a0 a1 a2 a3 a4 a5 k,LeO (spec_l05Branch.f k a0 a1 a2 a3 a4 a5) (spec_l05Branch.f (k+1) a0 a1 a2 a3 a4 a5):=by
 intro a0 a1 a2 a3 a4 a5 k
 have ih0:=spec_l05Branch.mono_l k
 unfold spec_l05Branch.f
 repeat' first
   | with_reducible first|exact ih0 ..|exact spec_l01InvMod.mono ..|exact spec_l01Power.mono ..|exact spec_l01Val.mono ..|exact spec_l02Meet.mono ..|exact LeO.refl _|exact LeO.none _|refine LeO.ite ?_ ?_|refine LeO.bind ?_ fun _=>?_
def spec_l05Branch.T1:Bool × List (List Nat × List Nat):=(true,[([],[]),([0],[0]),([1],[1]),([2],[2]),([3],[3]),([3],[3]),([3],[3]),([4,5,6,3,3],[3,4,5,6]),([3],[3]),([8,3],[3,8]),([7,9,3],[3,7,9]),([3,10],[3,10])])
def spec_l05Branch.B1:List Nat:=[0,1,3,7,15,15,15,127,15,271,1023,2047]
theorem spec_l05Branch.tab1:rtab .any (opsOf Try.f46 1)=spec_l05Branch.T1:=by kernel_rfl
theorem spec_l05Branch.bits1:waitsOk spec_l05Branch.T1.2 spec_l05Branch.B1=true:=by kernel_rfl
def spec_l05Branch.T4:Bool × List (List Nat × List Nat):=(true,[([],[]),([0],[0]),([],[]),([1,2],[1,2]),([],[]),([4],[4]),([],[]),([6],[6]),([5,7],[5,7]),([3,8],[3,8]),([],[]),([10],[10]),([],[]),([11,12],[11,12]),([9,0,1,2,3,4,5,6,7,8,9],[9]),([13,14,0,1,2,3,4,5,6,7,8,9,10,11,12,13,14],[13])])
def spec_l05Branch.B4:List Nat:=[0,1,0,7,0,16,0,64,240,511,0,1024,0,7168,1023,32767]
theorem spec_l05Branch.tab4:rtab .any (opsOf Try.f46 4)=spec_l05Branch.T4:=by kernel_rfl
theorem spec_l05Branch.bits4:waitsOk spec_l05Branch.T4.2 spec_l05Branch.B4=true:=by kernel_rfl
set_option maxHeartbeats 8000000 in
set_option maxRecDepth 100000 in
theorem spec_l05Branch.calls (k:Nat) (a0 a1_0 a1_1 a1_2 a2_0 a2_1 r:Int) (w:World) (h:spec_l05Branch.f k a0 a1_0 a1_1 a1_2 a2_0 a2_1=some r) :
  Calls Try.prog 46 #[.int .i64 a0,.agg #[.int .i64 a1_0,.int .i64 a1_1,.int .i64 a1_2],.agg #[.int .i64 a2_0,.int .i64 a2_1]] w fun e w'=>e=.returned (.int .i64 r)∧Below w.heap.size w w':=by
 have hu25:=Try.underlying25
 have hu27:=Try.underlying27
 have HB:=Aside0.mk (Below.refl w.heap.size w)
 have H:=h
 unfold spec_l05Branch.f at H
 clear h
 have HC4:=Aside0.mk H
 clear H
 go_enter Try.func46,Try.ntmps46
 go_upto_region 1 with (first|((with_reducible refine gate_dst (N:=4) rfl ?_);refine bxE (cs:=#[.int .i64 a1_0,.int .i64 a1_1,.int .i64 a1_2]) (t:=25) ?_;intro gb449 hg w5 hbox hb;have n0_:=lB hb;have n1_:=Aside0.mk hbox;have n2_:=sA hg;have n3_:=sA hg;clear HB;have HB:=n0_;have BK449:=n1_;have GW449:=n2_;have GE449:=n3_;clear n0_ n1_ n2_ n3_;clear hb hbox hg)|((with_reducible refine gate_dst (N:=5) rfl ?_);refine bxE (cs:=#[.int .i64 a2_0,.int .i64 a2_1]) (t:=27) ?_;intro gb450 hg w6 hbox hb;have n0_:=kB BK449 hb;have n1_:=lB hb;have n2_:=Aside0.mk hbox;have n3_:=sA hg;have n4_:=sA hg;have n5_:=nA hg BK449;have n6_:=nB hg BK449;clear BK449;clear HB;have BK449:=n0_;have HB:=n1_;have BK450:=n2_;have GW450:=n3_;have GE450:=n4_;have NB449_450:=n5_;have NB450_449:=n6_;clear n0_ n1_ n2_ n3_ n4_ n5_ n6_;clear hb hbox hg))
 (try simp only [Act.put,List.setIfInBounds_toArray,List.set_cons_zero,List.set_cons_succ])
 go_cut [22] (fun v22 wc=>∃ (kq:Nat) (x22_3:Bool),v22=.bool x22_3∧Aside0 (spec_l05Branch.j0 kq a0 x22_3 a1_0 a1_1 a1_2 a2_0 a2_1=some r)∧Aside0 (kq≤k)∧Aside0 (wc.heap[gb449]?=some (.cells #[.int .i64 a1_0,.int .i64 a1_1,.int .i64 a1_2] 25 (0,0)))∧Aside0 (wc.heap[gb450]?=some (.cells #[.int .i64 a2_0,.int .i64 a2_1] 27 (0,0)))∧Aside0 (Below w.heap.size w wc))
 case first=>
  have H:=HC4.out
  clear HC4
  by_cases c7:a2_1=0
  focus
   rw [if_pos c7] at H
   have c7b0:(a2_1 == 0)=true:=beq_iff_eq.mpr c7
   have c7b1:(a2_1 != 0)=false:=bne_eq_false_iff_eq.mpr c7
   clear c7
   (first|rw [c7b0]|(simp only [i64_w,i32_w];rw [c7b0])|skip)
   have H':=Aside0.mk H
   clear H
  rotate_left
  focus
   rw [if_neg c7] at H
   have c7b0:(a2_1 == 0)=false:=beq_eq_false_iff_ne.mpr c7
   have c7b1:(a2_1 != 0)=true:=bne_iff_ne.mpr c7
   (first|rw [c7b0]|(simp only [i64_w,i32_w];rw [c7b0])|skip)
   replace H:=bS H
   obtain ⟨t451,A9,H⟩:=H
   try dsimp only at H
   have H':=Aside0.mk H
   clear H
  rotate_left
  all_goals
   try go_wp2
   have n0_:=Aside0.mk (blk_drew BK449.out)
   have n1_:=Aside0.mk (blk_drew BK450.out)
   have n2_:=Aside0.mk (below_drew1 HB.out)
   clear BK449
   clear BK450
   clear HB
   have BK449:=n0_
   have BK450:=n1_
   have HB:=n2_
   clear n0_ n1_ n2_
  ·
   refine start_ (n:=12) (S:=fun w'=>w'.cell? ⟨gb450,0,none⟩=some (.int .i64 a2_0)∧w'.cell? ⟨gb450,1,none⟩=some (.int .i64 a2_1)) (ds:=[]) #[Z,Z,Z,Z,Z,Z,Z,Z,Z,Z,Z,Z] (by kernel_rfl) rfl rfl ⟨cA BK450 0,cA BK450 1⟩ (fun hHeld=>?_);refine with_tabW spec_l05Branch.tab1 spec_l05Branch.bits1 (fun HT_ HW_=>?_)
   generalize w6.drew=w8 at BK449 BK450 HB hHeld ⊢
   refine puA (i:=0) (N:=some 11) #[Y,Z,Z,Z,Z,Z,Z,Z,Z,Z,Z,Z] rfl rfl HT_ ?_
   refine taA (i:=1) (N:=some 12) #[Y,Y,Z,Z,Z,Z,Z,Z,Z,Z,Z,Z] rfl rfl HT_ HW_ hHeld ?_
   refine puA (i:=2) (N:=some 13) #[Y,Y,Y,Z,Z,Z,Z,Z,Z,Z,Z,Z] rfl rfl HT_ ?_
   refine puA (i:=3) (N:=some 14) #[Y,Y,Y,Y,Z,Z,Z,Z,Z,Z,Z,Z] rfl rfl HT_ ?_
   refine puU (i:=4) (N:=some 15) #[Y,Y,Y,Y,Y,Z,Z,Z,Z,Z,Z,Z] rfl rfl HT_ ?_
   refine puU (i:=5) (N:=some 16) #[Y,Y,Y,Y,Y,Y,Z,Z,Z,Z,Z,Z] rfl rfl HT_ ?_
   refine puU (i:=6) (N:=some 17) #[Y,Y,Y,Y,Y,Y,Y,Z,Z,Z,Z,Z] rfl rfl HT_ ?_
   refine puU (i:=7) (N:=some 18) #[Y,Y,Y,Y,Y,Y,Y,Y,Z,Z,Z,Z] rfl rfl HT_ ?_
   refine puU (i:=8) (N:=some 19) #[Y,Y,Y,Y,Y,Y,Y,Y,Y,Z,Z,Z] rfl rfl HT_ ?_
   refine puU (i:=9) (N:=some 20) #[Y,Y,Y,Y,Y,Y,Y,Y,Y,Y,Z,Z] rfl rfl HT_ ?_
   refine puU (i:=10) (N:=some 21) #[Y,Y,Y,Y,Y,Y,Y,Y,Y,Y,Y,Z] rfl rfl HT_ ?_
   refine puA (i:=11) (N:=some 22) #[Y,Y,Y,Y,Y,Y,Y,Y,Y,Y,Y,Y] rfl rfl HT_ ?_
   refine done_ (done_of HT_.out (by kernel_rfl)) ?_
   try go_wp2
   go_meet
   case rel=>exact ⟨_,(true),hB,H',⟨by first|omega|exact Nat.le_refl _⟩,⟨bkA BK449⟩,⟨bkA BK450⟩,⟨blA⟩⟩
  ·
   refine start_ (n:=12) (S:=fun w'=>w'.cell? ⟨gb450,0,none⟩=some (.int .i64 a2_0)∧w'.cell? ⟨gb450,1,none⟩=some (.int .i64 a2_1)∧w'.cell? ⟨gb449,0,none⟩=some (.int .i64 a1_0)∧w'.cell? ⟨gb449,1,none⟩=some (.int .i64 a1_1)∧w'.cell? ⟨gb449,2,none⟩=some (.int .i64 a1_2)) (ds:=[]) #[Z,Z,Z,Z,Z,Z,Z,Z,Z,Z,Z,Z] (by kernel_rfl) rfl rfl ⟨cA BK450 0,cA BK450 1,cA BK449 0,cA BK449 1,cA BK449 2⟩ (fun hHeld=>?_);refine with_tabW spec_l05Branch.tab1 spec_l05Branch.bits1 (fun HT_ HW_=>?_)
   generalize w6.drew=w10 at BK449 BK450 HB hHeld ⊢
   refine puA (i:=0) (N:=some 11) #[Y,Z,Z,Z,Z,Z,Z,Z,Z,Z,Z,Z] rfl rfl HT_ ?_
   refine taA (i:=1) (N:=some 12) #[Y,Y,Z,Z,Z,Z,Z,Z,Z,Z,Z,Z] rfl rfl HT_ HW_ hHeld ?_
   refine puA (i:=2) (N:=some 13) #[Y,Y,Y,Z,Z,Z,Z,Z,Z,Z,Z,Z] rfl rfl HT_ ?_
   refine puA (i:=3) (N:=some 14) #[Y,Y,Y,Y,Z,Z,Z,Z,Z,Z,Z,Z] rfl rfl HT_ ?_
   refine puA (i:=4) (N:=some 15) #[Y,Y,Y,Y,Y,Z,Z,Z,Z,Z,Z,Z] rfl rfl HT_ ?_
   refine puA (i:=8) (N:=some 19) #[Y,Y,Y,Y,Y,Z,Z,Z,Y,Z,Z,Z] rfl rfl HT_ ?_
   refine taA (i:=5) (N:=some 16) #[Y,Y,Y,Y,Y,Y,Z,Z,Y,Z,Z,Z] rfl rfl HT_ HW_ hHeld ?_
   refine taA (i:=6) (N:=some 17) #[Y,Y,Y,Y,Y,Y,Y,Z,Y,Z,Z,Z] rfl rfl HT_ HW_ hHeld ?_
   refine taA (i:=9) (N:=some 20) #[Y,Y,Y,Y,Y,Y,Y,Z,Y,Y,Z,Z] rfl rfl HT_ HW_ hHeld ?_
   refine one_ (i:=7) (N:=some 18) #[Y,Y,Y,Y,Y,Y,Y,Y,Y,Y,Z,Z] rfl rfl (one_of HT_.out (by kernel_rfl)) (by decide) (fun K hK=>?_)
   refine goC Try.func76 (spec_l02Meet.calls (w:=_) (h:=A9.out)) ?_
   intro w11 hb
   replace BK449:=kB BK449 hb
   replace BK450:=kB BK450 hb
   replace HB:=lB hb
   (try clear hb)
   (try clear hb2)
   (try clear hk)
   (try clear hi)
   refine hK.out _ _ ⟨cA BK450 0,cA BK450 1,cA BK449 0,cA BK449 1,cA BK449 2⟩ (fun hHeld=>?_)
   clear hK K
   refine nmA ?_
   refine puA (i:=10) (N:=some 21) #[Y,Y,Y,Y,Y,Y,Y,Y,Y,Y,Y,Z] rfl rfl HT_ ?_
   refine puA (i:=11) (N:=some 22) #[Y,Y,Y,Y,Y,Y,Y,Y,Y,Y,Y,Y] rfl rfl HT_ ?_
   refine done_ (done_of HT_.out (by kernel_rfl)) ?_
   try go_wp2
   go_meet
   case rel=>exact ⟨_,(decide (t451<a1_0)),hB,H',⟨by first|omega|exact Nat.le_refl _⟩,⟨bkA BK449⟩,⟨bkA BK450⟩,⟨blA⟩⟩
 case rest=>
  clear HC4
  try clear c7
  try clear c7b0
  try clear c7b1
  obtain ⟨kq,x22_3,rfl,HA,HJ3,BK449,BK450,HB⟩:=hcut
  cases kq with
  | zero=>exact absurd HA.out (by simp [spec_l05Branch.j0])
  | succ kj3=>
   have H:=HA.out
   clear HA
   simp only [spec_l05Branch.j0] at H
   by_cases c12:x22_3=true
   ·
    subst c12
    rw [if_pos rfl] at H
    try dsimp only at H
    obtain rfl:=Option.some.inj H
    go_wp2
    go_ret
    exact finA blA
   ·
    replace c12:=Bool.eq_false_iff.mpr c12
    subst c12
    rw [if_neg (show ¬ (false=true) by decide)] at H
    try dsimp only at H
    replace H:=bS H
    obtain ⟨t452,A13,H⟩:=H
    try dsimp only at H
    by_cases c14:(wrap64 ((wrap64 (a2_0*t452)) - (wrap64 (a1_1*a2_1))))=0
    focus
     rw [if_pos c14] at H
     have c14b0:((wrap64 ((wrap64 (a2_0*t452)) - (wrap64 (a1_1*a2_1)))) == 0)=true:=beq_iff_eq.mpr c14
     have c14b1:((wrap64 ((wrap64 (a2_0*t452)) - (wrap64 (a1_1*a2_1)))) != 0)=false:=bne_eq_false_iff_eq.mpr c14
     clear c14
     obtain rfl:=Option.some.inj H
     have hnb15:=NB449_450.out
     have hnc15:=NB450_449.out
     obtain ⟨hcz16_0,hcz16_1,hcz16_2,hfz16_0,hfz16_1,hfz16_2⟩:=cz3 BK449
    rotate_left
    focus
     rw [if_neg c14] at H
     have c14b0:((wrap64 ((wrap64 (a2_0*t452)) - (wrap64 (a1_1*a2_1)))) == 0)=false:=beq_eq_false_iff_ne.mpr c14
     have c14b1:((wrap64 ((wrap64 (a2_0*t452)) - (wrap64 (a1_1*a2_1)))) != 0)=true:=bne_iff_ne.mpr c14
     replace H:=bS H
     obtain ⟨t453,A18,H⟩:=H
     try dsimp only at H
     replace H:=bS H
     obtain ⟨t454,A19,H⟩:=H
     try dsimp only at H
     by_cases c20:(wrap64 (t453 - t454))>a1_0
     focus
      rw [if_pos c20] at H
      have c20b0:decide (a1_0<(wrap64 (t453 - t454)))=true:=decide_eq_true c20
      clear c20
      obtain rfl:=Option.some.inj H
      have hnb21:=NB449_450.out
      have hnc21:=NB450_449.out
      obtain ⟨hcz22_0,hcz22_1,hcz22_2,hfz22_0,hfz22_1,hfz22_2⟩:=cz3 BK449
     rotate_left
     focus
      rw [if_neg c20] at H
      have c20b0:decide (a1_0<(wrap64 (t453 - t454)))=false:=decide_eq_false c20
      clear c20
      replace H:=bS H
      obtain ⟨t455,A25,H⟩:=H
      try dsimp only at H
      replace H:=bS H
      obtain ⟨t456,A26,H⟩:=H
      try dsimp only at H
      by_cases c27:t456=0
      ·
       rw [if_pos c27] at H
       exact absurd H (by simp)
      rw [if_neg c27] at H
      have c27b0:(t456 == 0)=false:=beq_eq_false_iff_ne.mpr c27
      have c27b1:(t456 != 0)=true:=bne_iff_ne.mpr c27
      replace H:=bS H
      obtain ⟨t457,A28,H⟩:=H
      try dsimp only at H
      replace H:=bS H
      obtain ⟨t458,A29,H⟩:=H
      try dsimp only at H
      by_cases c30:t458=0
      ·
       rw [if_pos c30] at H
       exact absurd H (by simp)
      rw [if_neg c30] at H
      have c30b0:(t458 == 0)=false:=beq_eq_false_iff_ne.mpr c30
      have c30b1:(t458 != 0)=true:=bne_iff_ne.mpr c30
      replace H:=bS H
      obtain ⟨t459,A31,H⟩:=H
      try dsimp only at H
      replace H:=bS H
      obtain ⟨t460,A32,H⟩:=H
      try dsimp only at H
      obtain rfl:=Option.some.inj H
      have hnb33:=NB449_450.out
      have hnc33:=NB450_449.out
      obtain ⟨hcz34_0,hcz34_1,hcz34_2,hfz34_0,hfz34_1,hfz34_2⟩:=cz3 BK449
     rotate_left
    rotate_left 2
    all_goals
     try go_wp2_with (first|((with_reducible refine gd 26 rfl ?_);refine gC (some 26) rfl Try.func53 (spec_l01Power.calls (w:=_) (h:=A13.out)) ?_;rintro _ ⟨nd,rfl⟩))
     (try (rw [drewN_self wc];generalize hq_:World.drewN wc _=wc;have n0_:Aside0 (wc.heap[gb449]?=some (.cells #[.int .i64 a1_0,.int .i64 a1_1,.int .i64 a1_2] 25 (0,0))):=⟨by rw [← hq_];exact (bkA BK449)⟩;have n1_:Aside0 (wc.heap[gb450]?=some (.cells #[.int .i64 a2_0,.int .i64 a2_1] 27 (0,0))):=⟨by rw [← hq_];exact (bkA BK450)⟩;have n2_:Aside0 (Below w.heap.size w wc):=⟨by rw [← hq_];exact blA⟩;clear BK449 BK450 HB hq_;have BK449:=n0_;have BK450:=n1_;have HB:=n2_;clear n0_ n1_ n2_))
     have n0_:=Aside0.mk (blk_drew BK449.out)
     have n1_:=Aside0.mk (blk_drew BK450.out)
     have n2_:=Aside0.mk (below_drew1 HB.out)
     clear BK449
     clear BK450
     clear HB
     have BK449:=n0_
     have BK450:=n1_
     have HB:=n2_
     clear n0_ n1_ n2_
     refine start_ (n:=16) (S:=fun w'=>w'.cell? ⟨gb450,0,none⟩=some (.int .i64 a2_0)∧w'.cell? ⟨gb450,1,none⟩=some (.int .i64 a2_1)∧w'.cell? ⟨gb449,0,none⟩=some (.int .i64 a1_0)∧w'.cell? ⟨gb449,1,none⟩=some (.int .i64 a1_1)∧w'.cell? ⟨gb449,2,none⟩=some (.int .i64 a1_2)) (ds:=[]) #[Z,Z,Z,Z,Z,Z,Z,Z,Z,Z,Z,Z,Z,Z,Z,Z] (by kernel_rfl) rfl rfl ⟨cA BK450 0,cA BK450 1,cA BK449 0,cA BK449 1,cA BK449 2⟩ (fun hHeld=>?_);refine with_tabW spec_l05Branch.tab4 spec_l05Branch.bits4 (fun HT_ HW_=>?_)
     generalize wc.drew=w17 at BK449 BK450 HB hHeld ⊢
     refine puA (i:=0) (N:=some 27) #[Y,Z,Z,Z,Z,Z,Z,Z,Z,Z,Z,Z,Z,Z,Z,Z] rfl rfl HT_ ?_
     refine puA (i:=2) (N:=some 29) #[Y,Z,Y,Z,Z,Z,Z,Z,Z,Z,Z,Z,Z,Z,Z,Z] rfl rfl HT_ ?_
     refine puA (i:=4) (N:=some 31) #[Y,Z,Y,Z,Y,Z,Z,Z,Z,Z,Z,Z,Z,Z,Z,Z] rfl rfl HT_ ?_
     refine puA (i:=6) (N:=some 33) #[Y,Z,Y,Z,Y,Z,Y,Z,Z,Z,Z,Z,Z,Z,Z,Z] rfl rfl HT_ ?_
     refine puA (i:=10) (N:=some 37) #[Y,Z,Y,Z,Y,Z,Y,Z,Z,Z,Y,Z,Z,Z,Z,Z] rfl rfl HT_ ?_
     refine puA (i:=12) (N:=some 39) #[Y,Z,Y,Z,Y,Z,Y,Z,Z,Z,Y,Z,Y,Z,Z,Z] rfl rfl HT_ ?_
     refine taA (i:=1) (N:=some 28) #[Y,Y,Y,Z,Y,Z,Y,Z,Z,Z,Y,Z,Y,Z,Z,Z] rfl rfl HT_ HW_ hHeld ?_
     refine puA (i:=3) (N:=some 30) #[Y,Y,Y,Y,Y,Z,Y,Z,Z,Z,Y,Z,Y,Z,Z,Z] rfl rfl HT_ ?_
     refine taA (i:=5) (N:=some 32) #[Y,Y,Y,Y,Y,Y,Y,Z,Z,Z,Y,Z,Y,Z,Z,Z] rfl rfl HT_ HW_ hHeld ?_
     refine taA (i:=7) (N:=some 34) #[Y,Y,Y,Y,Y,Y,Y,Y,Z,Z,Y,Z,Y,Z,Z,Z] rfl rfl HT_ HW_ hHeld ?_
     refine puA (i:=8) (N:=some 35) #[Y,Y,Y,Y,Y,Y,Y,Y,Y,Z,Y,Z,Y,Z,Z,Z] rfl rfl HT_ ?_
     refine puA (i:=9) (N:=some 36) #[Y,Y,Y,Y,Y,Y,Y,Y,Y,Y,Y,Z,Y,Z,Z,Z] rfl rfl HT_ ?_
     refine puA (i:=14) (N:=some 8) #[Y,Y,Y,Y,Y,Y,Y,Y,Y,Y,Y,Z,Y,Z,Y,Z] rfl rfl HT_ ?_
     refine taA (i:=11) (N:=some 38) #[Y,Y,Y,Y,Y,Y,Y,Y,Y,Y,Y,Y,Y,Z,Y,Z] rfl rfl HT_ HW_ hHeld ?_
     refine puA (i:=13) (N:=some 40) #[Y,Y,Y,Y,Y,Y,Y,Y,Y,Y,Y,Y,Y,Y,Y,Z] rfl rfl HT_ ?_
     refine puA (i:=15) (N:=some 9) #[Y,Y,Y,Y,Y,Y,Y,Y,Y,Y,Y,Y,Y,Y,Y,Y] rfl rfl HT_ ?_
     refine done_ (done_of HT_.out (by kernel_rfl)) ?_
    ·
     try go_wp2
     go_ret
     exact finA blA
    rotate_left 2
    all_goals
     try go_wp2_with (first|((with_reducible refine gd 45 rfl ?_);refine gC (some 45) rfl Try.func79 (spec_l01Val.calls (w:=_) (h:=A18.out)) ?_;rintro _ ⟨nd,rfl⟩)|((with_reducible refine gd 48 rfl ?_);refine gC (some 48) rfl Try.func79 (spec_l01Val.calls (w:=_) (h:=A19.out)) ?_;rintro _ ⟨nd,rfl⟩;obtain ⟨hcz24_0,hcz24_1,hcz24_2,hfz24_0,hfz24_1,hfz24_2⟩:=cz3 BK449)|((with_reducible refine gd 58 rfl ?_);refine gC (some 58) rfl Try.func79 (spec_l01Val.calls (w:=_) (h:=A25.out)) ?_;rintro _ ⟨nd,rfl⟩)|((with_reducible refine gd 59 rfl ?_);refine gC (some 59) rfl Try.func53 (spec_l01Power.calls (w:=_) (h:=A26.out)) ?_;rintro _ ⟨nd,rfl⟩)|((with_reducible refine gd 65 rfl ?_);refine gC (some 65) rfl Try.func79 (spec_l01Val.calls (w:=_) (h:=A28.out)) ?_;rintro _ ⟨nd,rfl⟩)|((with_reducible refine gd 66 rfl ?_);refine gC (some 66) rfl Try.func53 (spec_l01Power.calls (w:=_) (h:=A29.out)) ?_;rintro _ ⟨nd,rfl⟩)|((with_reducible refine gd 71 rfl ?_);refine gC (some 71) rfl Try.func81 (spec_l01InvMod.calls (w:=_) (h:=A31.out)) ?_;rintro _ ⟨nd,rfl⟩)|((with_reducible refine gate_callee (f:=80) rfl ?_);refine gL (some 73) rfl Try.func80 #[.int .i64 (wrap64 (Int.tdiv (wrap64 ((wrap64 (a2_0*t452)) - (wrap64 (a1_1*a2_1)))) t456)),.int .i64 t459,.int .i64 a0] ?_;(with_reducible refine (spec_l01MulMod.calls (wrap64 (Int.tdiv (wrap64 ((wrap64 (a2_0*t452)) - (wrap64 (a1_1*a2_1)))) t456)) t459 a0 t460 _ A32.out).mono ?_);rintro e w' ⟨rfl,⟨nd,rfl⟩⟩;refine ⟨_,rfl,?_⟩))
    ·
     go_ret
     exact finA blA
    ·
     go_ret
     exact finA blA
def spec_l01Child.f (k:Nat) (a0 a1_0 a1_1 a1_2 a2:Int):Option (Int × Int × Int × Bool):=if a1_0=6 then (some (0,0,0,false)) else ((spec_l01Power.f k a0 a1_2).bind fun t463=>(if a1_0≥0 then ((spec_l01Power.f k a0 a1_0).bind fun t464=>((spec_l01Of.f k a0 (wrap64 (a1_1+(wrap64 ((wrap64 (a2*t463))*t464)))) t463 (wrap64 (a1_0+1))).bind fun bt465=>(some (bt465.1,bt465.2.1,bt465.2.2.1,bt465.2.2.2)))) else ((spec_l01Power.f k a0 (wrap64 (-a1_0))).bind fun t470=>(if t463=0 then (none) else ((spec_l01Power.f k a0 (wrap64 (-a1_0))).bind fun t471=>(if t471=0 then (none) else ((spec_l01Of.f k a0 (wrap64 ((wrap64 (a1_1*(wrap64 (Int.tdiv (mx t463 t470) t463))))+(wrap64 (a2*(wrap64 (Int.tdiv (mx t463 t470) t471)))))) (mx t463 t470) (wrap64 (a1_0+1))).bind fun bt472=>(some (bt472.1,bt472.2.1,bt472.2.2.1,bt472.2.2.2)))))))))
theorem spec_l01Child.mono:∀ a0 a1 a2 a3 a4 k,LeO (spec_l01Child.f k a0 a1 a2 a3 a4) (spec_l01Child.f (k+1) a0 a1 a2 a3 a4):=by
 intro a0 a1 a2 a3 a4 k
 unfold spec_l01Child.f
 repeat' first
   | with_reducible first|exact spec_l01Of.mono ..|exact spec_l01Power.mono ..|exact LeO.refl _|exact LeO.none _|refine LeO.ite ?_ ?_|refine LeO.bind ?_ fun _=>?_
set_option maxHeartbeats 8000000 in
set_option maxRecDepth 100000 in
theorem spec_l01Child.calls (k:Nat) (a0 a1_0 a1_1 a1_2 a2 r1 r2 r3:Int) (r4:Bool) (w:World) (h:spec_l01Child.f k a0 a1_0 a1_1 a1_2 a2=some (r1,r2,r3,r4)) :
  Calls Try.prog 70 #[.int .i64 a0,.agg #[.int .i64 a1_0,.int .i64 a1_1,.int .i64 a1_2],.int .i64 a2] w fun e w'=>e=.returned (.tuple #[.agg #[.int .i64 r1,.int .i64 r2,.int .i64 r3],.bool r4])∧Below w.heap.size w w':=by
 have hu25:=Try.underlying25
 have HB:=Aside0.mk (Below.refl w.heap.size w)
 have H:=h
 unfold spec_l01Child.f at H
 clear h
 by_cases c4:a1_0=6
 ·
  rw [if_pos c4] at H
  have c4b0:(a1_0 == 6)=true:=beq_iff_eq.mpr c4
  have c4b1:(a1_0 != 6)=false:=bne_eq_false_iff_eq.mpr c4
  clear c4
  simp only [Option.some.injEq,Prod.mk.injEq] at H
  obtain ⟨rfl,rfl,rfl,rfl⟩:=H
  go_enter Try.func70,Try.ntmps70
  go_wp2_with (first|((with_reducible refine gate_dst (N:=4) rfl ?_);refine bxE (cs:=#[.int .i64 a1_0,.int .i64 a1_1,.int .i64 a1_2]) (t:=25) ?_;intro gb461 hg w5 hbox hb;have BK461:=Aside0.mk hbox;have GW461:=sA hg;have GE461:=sA hg;replace HB:=lB hb;clear hb hbox hg)|((with_reducible refine gate_dst (N:=6) rfl ?_);refine bxE (cs:=#[.int .i64 0,.int .i64 0,.int .i64 0]) (t:=25) ?_;intro gb462 hg w6 hbox hb;have BK462:=Aside0.mk hbox;have GW462:=sA hg;have GE462:=sA hg;have NB461_462:=nA hg BK461;have NB462_461:=nB hg BK461;replace BK461:=kB BK461 hb;replace HB:=lB hb;clear hb hbox hg;have hnb7:=NB461_462.out;have hnc7:=NB462_461.out;obtain ⟨hcz8_0,hcz8_1,hcz8_2,hfz8_0,hfz8_1,hfz8_2⟩:=cz3 BK461;obtain ⟨hcz9_0,hcz9_1,hcz9_2,hfz9_0,hfz9_1,hfz9_2⟩:=cz3 BK462))
  repeat (go_quiet (first|((with_reducible refine gate_dst (N:=4) rfl ?_);refine bxE (cs:=#[.int .i64 a1_0,.int .i64 a1_1,.int .i64 a1_2]) (t:=25) ?_;intro gb461 hg w5 hbox hb;have BK461:=Aside0.mk hbox;have GW461:=sA hg;have GE461:=sA hg;replace HB:=lB hb;clear hb hbox hg)|((with_reducible refine gate_dst (N:=6) rfl ?_);refine bxE (cs:=#[.int .i64 0,.int .i64 0,.int .i64 0]) (t:=25) ?_;intro gb462 hg w6 hbox hb;have BK462:=Aside0.mk hbox;have GW462:=sA hg;have GE462:=sA hg;have NB461_462:=nA hg BK461;have NB462_461:=nB hg BK461;replace BK461:=kB BK461 hb;replace HB:=lB hb;clear hb hbox hg;have hnb7:=NB461_462.out;have hnc7:=NB462_461.out;obtain ⟨hcz8_0,hcz8_1,hcz8_2,hfz8_0,hfz8_1,hfz8_2⟩:=cz3 BK461;obtain ⟨hcz9_0,hcz9_1,hcz9_2,hfz9_0,hfz9_1,hfz9_2⟩:=cz3 BK462));try go_wp2_with (first|((with_reducible refine gate_dst (N:=4) rfl ?_);refine bxE (cs:=#[.int .i64 a1_0,.int .i64 a1_1,.int .i64 a1_2]) (t:=25) ?_;intro gb461 hg w5 hbox hb;have BK461:=Aside0.mk hbox;have GW461:=sA hg;have GE461:=sA hg;replace HB:=lB hb;clear hb hbox hg)|((with_reducible refine gate_dst (N:=6) rfl ?_);refine bxE (cs:=#[.int .i64 0,.int .i64 0,.int .i64 0]) (t:=25) ?_;intro gb462 hg w6 hbox hb;have BK462:=Aside0.mk hbox;have GW462:=sA hg;have GE462:=sA hg;have NB461_462:=nA hg BK461;have NB462_461:=nB hg BK461;replace BK461:=kB BK461 hb;replace HB:=lB hb;clear hb hbox hg;have hnb7:=NB461_462.out;have hnc7:=NB462_461.out;obtain ⟨hcz8_0,hcz8_1,hcz8_2,hfz8_0,hfz8_1,hfz8_2⟩:=cz3 BK461;obtain ⟨hcz9_0,hcz9_1,hcz9_2,hfz9_0,hfz9_1,hfz9_2⟩:=cz3 BK462)))
  refine bodyPost_ret (results_ct rfl _ _ gb462 25 #[.int .i64 0,.int .i64 0,.int .i64 0] (0,0) _ rfl (bpA BK462) Try.underlying25 rfl (by kernel_rfl)) rfl ?_
  exact finA blA
 ·
  rw [if_neg c4] at H
  have c4b0:(a1_0 == 6)=false:=beq_eq_false_iff_ne.mpr c4
  have c4b1:(a1_0 != 6)=true:=bne_iff_ne.mpr c4
  replace H:=bS H
  obtain ⟨t463,A10,H⟩:=H
  try dsimp only at H
  by_cases c11:a1_0≥0
  ·
   rw [if_pos c11] at H
   have c11b0:decide (0≤a1_0)=true:=decide_eq_true c11
   clear c11
   replace H:=bS H
   obtain ⟨t464,A12,H⟩:=H
   try dsimp only at H
   replace H:=bS H
   obtain ⟨⟨t465,t466,t467,t468⟩,A13,H⟩:=H
   try dsimp only at H
   simp only [Option.some.injEq,Prod.mk.injEq] at H
   obtain ⟨rfl,rfl,rfl,rfl⟩:=H
   go_enter Try.func70,Try.ntmps70
   go_wp2_with (first|((with_reducible refine gate_dst (N:=4) rfl ?_);refine bxE (cs:=#[.int .i64 a1_0,.int .i64 a1_1,.int .i64 a1_2]) (t:=25) ?_;intro gb461 hg w14 hbox hb;have BK461:=Aside0.mk hbox;have GW461:=sA hg;have GE461:=sA hg;replace HB:=lB hb;clear hb hbox hg)|((with_reducible refine gate_dst (N:=6) rfl ?_);refine bxE (cs:=#[.int .i64 0,.int .i64 0,.int .i64 0]) (t:=25) ?_;intro gb462 hg w15 hbox hb;have BK462:=Aside0.mk hbox;have GW462:=sA hg;have GE462:=sA hg;have NB461_462:=nA hg BK461;have NB462_461:=nB hg BK461;replace BK461:=kB BK461 hb;replace HB:=lB hb;clear hb hbox hg;have hnb16:=NB461_462.out;have hnc16:=NB462_461.out;obtain ⟨hcz17_0,hcz17_1,hcz17_2,hfz17_0,hfz17_1,hfz17_2⟩:=cz3 BK461)|(go_at_call 53;(with_reducible refine (spec_l01Power.calls k a0 a1_2 t463 _ A10.out).mono ?_);rintro e w' ⟨rfl,⟨nd,rfl⟩⟩;(try exact dd))|(go_at_call 53;(with_reducible refine (spec_l01Power.calls k a0 a1_0 t464 _ A12.out).mono ?_);rintro e w' ⟨rfl,⟨nd,rfl⟩⟩;(try exact dd))|(go_at_call 45;(with_reducible refine (spec_l01Of.calls k a0 (wrap64 (a1_1+(wrap64 ((wrap64 (a2*t463))*t464)))) t463 (wrap64 (a1_0+1)) t465 t466 t467 t468 _ A13.out).mono ?_);rintro e w18 ⟨rfl,hb⟩;replace BK461:=kB BK461 hb;replace BK462:=kB BK462 hb;replace HB:=lB hb;clear hb)|((with_reducible refine gate_dst (N:=11) rfl ?_);refine bxE (cs:=#[.int .i64 0,.int .i64 0,.int .i64 0]) (t:=25) ?_;intro gb469 hg w19 hbox hb;have BK469:=Aside0.mk hbox;have GW469:=sA hg;have GE469:=sA hg;have NB461_469:=nA hg BK461;have NB469_461:=nB hg BK461;have NB462_469:=nA hg BK462;have NB469_462:=nB hg BK462;replace BK461:=kB BK461 hb;replace BK462:=kB BK462 hb;replace HB:=lB hb;clear hb hbox hg;have hnb20:=NB469_461.out;have hnc20:=NB461_469.out;have hnb21:=NB469_462.out;have hnc21:=NB462_469.out;obtain ⟨hcz22_0,hcz22_1,hcz22_2,hfz22_0,hfz22_1,hfz22_2⟩:=cz3 BK469;obtain ⟨hcz23_0,hcz23_1,hcz23_2,hfz23_0,hfz23_1,hfz23_2⟩:=cz3 BK462))
   repeat (go_quiet (first|((with_reducible refine gate_dst (N:=4) rfl ?_);refine bxE (cs:=#[.int .i64 a1_0,.int .i64 a1_1,.int .i64 a1_2]) (t:=25) ?_;intro gb461 hg w14 hbox hb;have BK461:=Aside0.mk hbox;have GW461:=sA hg;have GE461:=sA hg;replace HB:=lB hb;clear hb hbox hg)|((with_reducible refine gate_dst (N:=6) rfl ?_);refine bxE (cs:=#[.int .i64 0,.int .i64 0,.int .i64 0]) (t:=25) ?_;intro gb462 hg w15 hbox hb;have BK462:=Aside0.mk hbox;have GW462:=sA hg;have GE462:=sA hg;have NB461_462:=nA hg BK461;have NB462_461:=nB hg BK461;replace BK461:=kB BK461 hb;replace HB:=lB hb;clear hb hbox hg;have hnb16:=NB461_462.out;have hnc16:=NB462_461.out;obtain ⟨hcz17_0,hcz17_1,hcz17_2,hfz17_0,hfz17_1,hfz17_2⟩:=cz3 BK461)|(go_at_call 53;(with_reducible refine (spec_l01Power.calls k a0 a1_2 t463 _ A10.out).mono ?_);rintro e w' ⟨rfl,⟨nd,rfl⟩⟩;(try exact dd))|(go_at_call 53;(with_reducible refine (spec_l01Power.calls k a0 a1_0 t464 _ A12.out).mono ?_);rintro e w' ⟨rfl,⟨nd,rfl⟩⟩;(try exact dd))|(go_at_call 45;(with_reducible refine (spec_l01Of.calls k a0 (wrap64 (a1_1+(wrap64 ((wrap64 (a2*t463))*t464)))) t463 (wrap64 (a1_0+1)) t465 t466 t467 t468 _ A13.out).mono ?_);rintro e w18 ⟨rfl,hb⟩;replace BK461:=kB BK461 hb;replace BK462:=kB BK462 hb;replace HB:=lB hb;clear hb)|((with_reducible refine gate_dst (N:=11) rfl ?_);refine bxE (cs:=#[.int .i64 0,.int .i64 0,.int .i64 0]) (t:=25) ?_;intro gb469 hg w19 hbox hb;have BK469:=Aside0.mk hbox;have GW469:=sA hg;have GE469:=sA hg;have NB461_469:=nA hg BK461;have NB469_461:=nB hg BK461;have NB462_469:=nA hg BK462;have NB469_462:=nB hg BK462;replace BK461:=kB BK461 hb;replace BK462:=kB BK462 hb;replace HB:=lB hb;clear hb hbox hg;have hnb20:=NB469_461.out;have hnc20:=NB461_469.out;have hnb21:=NB469_462.out;have hnc21:=NB462_469.out;obtain ⟨hcz22_0,hcz22_1,hcz22_2,hfz22_0,hfz22_1,hfz22_2⟩:=cz3 BK469;obtain ⟨hcz23_0,hcz23_1,hcz23_2,hfz23_0,hfz23_1,hfz23_2⟩:=cz3 BK462));try go_wp2_with (first|((with_reducible refine gate_dst (N:=4) rfl ?_);refine bxE (cs:=#[.int .i64 a1_0,.int .i64 a1_1,.int .i64 a1_2]) (t:=25) ?_;intro gb461 hg w14 hbox hb;have BK461:=Aside0.mk hbox;have GW461:=sA hg;have GE461:=sA hg;replace HB:=lB hb;clear hb hbox hg)|((with_reducible refine gate_dst (N:=6) rfl ?_);refine bxE (cs:=#[.int .i64 0,.int .i64 0,.int .i64 0]) (t:=25) ?_;intro gb462 hg w15 hbox hb;have BK462:=Aside0.mk hbox;have GW462:=sA hg;have GE462:=sA hg;have NB461_462:=nA hg BK461;have NB462_461:=nB hg BK461;replace BK461:=kB BK461 hb;replace HB:=lB hb;clear hb hbox hg;have hnb16:=NB461_462.out;have hnc16:=NB462_461.out;obtain ⟨hcz17_0,hcz17_1,hcz17_2,hfz17_0,hfz17_1,hfz17_2⟩:=cz3 BK461)|(go_at_call 53;(with_reducible refine (spec_l01Power.calls k a0 a1_2 t463 _ A10.out).mono ?_);rintro e w' ⟨rfl,⟨nd,rfl⟩⟩;(try exact dd))|(go_at_call 53;(with_reducible refine (spec_l01Power.calls k a0 a1_0 t464 _ A12.out).mono ?_);rintro e w' ⟨rfl,⟨nd,rfl⟩⟩;(try exact dd))|(go_at_call 45;(with_reducible refine (spec_l01Of.calls k a0 (wrap64 (a1_1+(wrap64 ((wrap64 (a2*t463))*t464)))) t463 (wrap64 (a1_0+1)) t465 t466 t467 t468 _ A13.out).mono ?_);rintro e w18 ⟨rfl,hb⟩;replace BK461:=kB BK461 hb;replace BK462:=kB BK462 hb;replace HB:=lB hb;clear hb)|((with_reducible refine gate_dst (N:=11) rfl ?_);refine bxE (cs:=#[.int .i64 0,.int .i64 0,.int .i64 0]) (t:=25) ?_;intro gb469 hg w19 hbox hb;have BK469:=Aside0.mk hbox;have GW469:=sA hg;have GE469:=sA hg;have NB461_469:=nA hg BK461;have NB469_461:=nB hg BK461;have NB462_469:=nA hg BK462;have NB469_462:=nB hg BK462;replace BK461:=kB BK461 hb;replace BK462:=kB BK462 hb;replace HB:=lB hb;clear hb hbox hg;have hnb20:=NB469_461.out;have hnc20:=NB461_469.out;have hnb21:=NB469_462.out;have hnc21:=NB462_469.out;obtain ⟨hcz22_0,hcz22_1,hcz22_2,hfz22_0,hfz22_1,hfz22_2⟩:=cz3 BK469;obtain ⟨hcz23_0,hcz23_1,hcz23_2,hfz23_0,hfz23_1,hfz23_2⟩:=cz3 BK462)))
   refine bodyPost_ret (results_ct rfl _ _ gb462 25 #[.int .i64 t465,.int .i64 t466,.int .i64 t467] (0,0) _ rfl (bpA BK462) Try.underlying25 rfl (by kernel_rfl)) rfl ?_
   exact finA blA
  ·
   rw [if_neg c11] at H
   have c11b0:decide (0≤a1_0)=false:=decide_eq_false c11
   clear c11
   replace H:=bS H
   obtain ⟨t470,A24,H⟩:=H
   try dsimp only at H
   obtain ⟨ji25,hji25⟩:∃ j_:Int,(mx t463 t470)=j_:=⟨_,rfl⟩
   replace H:(if t463=0 then (none) else ((spec_l01Power.f k a0 (wrap64 (-a1_0))).bind fun t471=>(if t471=0 then (none) else ((spec_l01Of.f k a0 (wrap64 ((wrap64 (a1_1*(wrap64 (Int.tdiv (ji25) t463))))+(wrap64 (a2*(wrap64 (Int.tdiv (ji25) t471)))))) (ji25) (wrap64 (a1_0+1))).bind fun bt472=>(some (bt472.1,bt472.2.1,bt472.2.2.1,bt472.2.2.2))))))=some (r1,r2,r3,r4):=by first|(rw [hji25] at H;exact H)|(simp only [hji25] at H ⊢;exact H)
   (try rw [hji25] at A10)
   (try rw [hji25] at A24)
   have hji25_:(if t463<t470 then t470 else t463)=ji25:=hji25
   by_cases c26:t463=0
   ·
    rw [if_pos c26] at H
    exact absurd H (by simp)
   rw [if_neg c26] at H
   have c26b0:(t463 == 0)=false:=beq_eq_false_iff_ne.mpr c26
   have c26b1:(t463 != 0)=true:=bne_iff_ne.mpr c26
   replace H:=bS H
   obtain ⟨t471,A27,H⟩:=H
   try dsimp only at H
   try (obtain rfl:t471=t470:=Option.some.inj (A27.out.symm.trans A24.out))
   by_cases c28:t471=0
   ·
    rw [if_pos c28] at H
    exact absurd H (by simp)
   rw [if_neg c28] at H
   have c28b0:(t471 == 0)=false:=beq_eq_false_iff_ne.mpr c28
   have c28b1:(t471 != 0)=true:=bne_iff_ne.mpr c28
   replace H:=bS H
   obtain ⟨⟨t472,t473,t474,t475⟩,A29,H⟩:=H
   try dsimp only at H
   simp only [Option.some.injEq,Prod.mk.injEq] at H
   obtain ⟨rfl,rfl,rfl,rfl⟩:=H
   go_enter Try.func70,Try.ntmps70
   go_wp2_with (first|((with_reducible refine gate_dst (N:=4) rfl ?_);refine bxE (cs:=#[.int .i64 a1_0,.int .i64 a1_1,.int .i64 a1_2]) (t:=25) ?_;intro gb461 hg w30 hbox hb;have BK461:=Aside0.mk hbox;have GW461:=sA hg;have GE461:=sA hg;replace HB:=lB hb;clear hb hbox hg)|((with_reducible refine gate_dst (N:=6) rfl ?_);refine bxE (cs:=#[.int .i64 0,.int .i64 0,.int .i64 0]) (t:=25) ?_;intro gb462 hg w31 hbox hb;have BK462:=Aside0.mk hbox;have GW462:=sA hg;have GE462:=sA hg;have NB461_462:=nA hg BK461;have NB462_461:=nB hg BK461;replace BK461:=kB BK461 hb;replace HB:=lB hb;clear hb hbox hg;have hnb32:=NB461_462.out;have hnc32:=NB462_461.out;obtain ⟨hcz33_0,hcz33_1,hcz33_2,hfz33_0,hfz33_1,hfz33_2⟩:=cz3 BK461)|(go_at_call 53;(with_reducible refine (spec_l01Power.calls k a0 a1_2 t463 _ A10.out).mono ?_);rintro e w' ⟨rfl,⟨nd,rfl⟩⟩;(try exact dd))|(go_at_call 53;(with_reducible refine (spec_l01Power.calls k a0 (wrap64 (-a1_0)) t470 _ A24.out).mono ?_);rintro e w' ⟨rfl,⟨nd,rfl⟩⟩;(try exact dd))|(go_at_call 53;(with_reducible refine (spec_l01Power.calls k a0 (wrap64 (-a1_0)) t471 _ A27.out).mono ?_);rintro e w' ⟨rfl,⟨nd,rfl⟩⟩;(try exact dd))|(go_at_call 45;(with_reducible refine (spec_l01Of.calls k a0 (wrap64 ((wrap64 (a1_1*(wrap64 (Int.tdiv (ji25) t463))))+(wrap64 (a2*(wrap64 (Int.tdiv (ji25) t471)))))) ji25 (wrap64 (a1_0+1)) t472 t473 t474 t475 _ A29.out).mono ?_);rintro e w34 ⟨rfl,hb⟩;replace BK461:=kB BK461 hb;replace BK462:=kB BK462 hb;replace HB:=lB hb;clear hb)|((with_reducible refine gate_dst (N:=11) rfl ?_);refine bxE (cs:=#[.int .i64 0,.int .i64 0,.int .i64 0]) (t:=25) ?_;intro gb476 hg w35 hbox hb;have BK476:=Aside0.mk hbox;have GW476:=sA hg;have GE476:=sA hg;have NB461_476:=nA hg BK461;have NB476_461:=nB hg BK461;have NB462_476:=nA hg BK462;have NB476_462:=nB hg BK462;replace BK461:=kB BK461 hb;replace BK462:=kB BK462 hb;replace HB:=lB hb;clear hb hbox hg;have hnb36:=NB476_461.out;have hnc36:=NB461_476.out;have hnb37:=NB476_462.out;have hnc37:=NB462_476.out;obtain ⟨hcz38_0,hcz38_1,hcz38_2,hfz38_0,hfz38_1,hfz38_2⟩:=cz3 BK476;obtain ⟨hcz39_0,hcz39_1,hcz39_2,hfz39_0,hfz39_1,hfz39_2⟩:=cz3 BK462))
   repeat (go_quiet (first|((with_reducible refine gate_dst (N:=4) rfl ?_);refine bxE (cs:=#[.int .i64 a1_0,.int .i64 a1_1,.int .i64 a1_2]) (t:=25) ?_;intro gb461 hg w30 hbox hb;have BK461:=Aside0.mk hbox;have GW461:=sA hg;have GE461:=sA hg;replace HB:=lB hb;clear hb hbox hg)|((with_reducible refine gate_dst (N:=6) rfl ?_);refine bxE (cs:=#[.int .i64 0,.int .i64 0,.int .i64 0]) (t:=25) ?_;intro gb462 hg w31 hbox hb;have BK462:=Aside0.mk hbox;have GW462:=sA hg;have GE462:=sA hg;have NB461_462:=nA hg BK461;have NB462_461:=nB hg BK461;replace BK461:=kB BK461 hb;replace HB:=lB hb;clear hb hbox hg;have hnb32:=NB461_462.out;have hnc32:=NB462_461.out;obtain ⟨hcz33_0,hcz33_1,hcz33_2,hfz33_0,hfz33_1,hfz33_2⟩:=cz3 BK461)|(go_at_call 53;(with_reducible refine (spec_l01Power.calls k a0 a1_2 t463 _ A10.out).mono ?_);rintro e w' ⟨rfl,⟨nd,rfl⟩⟩;(try exact dd))|(go_at_call 53;(with_reducible refine (spec_l01Power.calls k a0 (wrap64 (-a1_0)) t470 _ A24.out).mono ?_);rintro e w' ⟨rfl,⟨nd,rfl⟩⟩;(try exact dd))|(go_at_call 53;(with_reducible refine (spec_l01Power.calls k a0 (wrap64 (-a1_0)) t471 _ A27.out).mono ?_);rintro e w' ⟨rfl,⟨nd,rfl⟩⟩;(try exact dd))|(go_at_call 45;(with_reducible refine (spec_l01Of.calls k a0 (wrap64 ((wrap64 (a1_1*(wrap64 (Int.tdiv (ji25) t463))))+(wrap64 (a2*(wrap64 (Int.tdiv (ji25) t471)))))) ji25 (wrap64 (a1_0+1)) t472 t473 t474 t475 _ A29.out).mono ?_);rintro e w34 ⟨rfl,hb⟩;replace BK461:=kB BK461 hb;replace BK462:=kB BK462 hb;replace HB:=lB hb;clear hb)|((with_reducible refine gate_dst (N:=11) rfl ?_);refine bxE (cs:=#[.int .i64 0,.int .i64 0,.int .i64 0]) (t:=25) ?_;intro gb476 hg w35 hbox hb;have BK476:=Aside0.mk hbox;have GW476:=sA hg;have GE476:=sA hg;have NB461_476:=nA hg BK461;have NB476_461:=nB hg BK461;have NB462_476:=nA hg BK462;have NB476_462:=nB hg BK462;replace BK461:=kB BK461 hb;replace BK462:=kB BK462 hb;replace HB:=lB hb;clear hb hbox hg;have hnb36:=NB476_461.out;have hnc36:=NB461_476.out;have hnb37:=NB476_462.out;have hnc37:=NB462_476.out;obtain ⟨hcz38_0,hcz38_1,hcz38_2,hfz38_0,hfz38_1,hfz38_2⟩:=cz3 BK476;obtain ⟨hcz39_0,hcz39_1,hcz39_2,hfz39_0,hfz39_1,hfz39_2⟩:=cz3 BK462));try go_wp2_with (first|((with_reducible refine gate_dst (N:=4) rfl ?_);refine bxE (cs:=#[.int .i64 a1_0,.int .i64 a1_1,.int .i64 a1_2]) (t:=25) ?_;intro gb461 hg w30 hbox hb;have BK461:=Aside0.mk hbox;have GW461:=sA hg;have GE461:=sA hg;replace HB:=lB hb;clear hb hbox hg)|((with_reducible refine gate_dst (N:=6) rfl ?_);refine bxE (cs:=#[.int .i64 0,.int .i64 0,.int .i64 0]) (t:=25) ?_;intro gb462 hg w31 hbox hb;have BK462:=Aside0.mk hbox;have GW462:=sA hg;have GE462:=sA hg;have NB461_462:=nA hg BK461;have NB462_461:=nB hg BK461;replace BK461:=kB BK461 hb;replace HB:=lB hb;clear hb hbox hg;have hnb32:=NB461_462.out;have hnc32:=NB462_461.out;obtain ⟨hcz33_0,hcz33_1,hcz33_2,hfz33_0,hfz33_1,hfz33_2⟩:=cz3 BK461)|(go_at_call 53;(with_reducible refine (spec_l01Power.calls k a0 a1_2 t463 _ A10.out).mono ?_);rintro e w' ⟨rfl,⟨nd,rfl⟩⟩;(try exact dd))|(go_at_call 53;(with_reducible refine (spec_l01Power.calls k a0 (wrap64 (-a1_0)) t470 _ A24.out).mono ?_);rintro e w' ⟨rfl,⟨nd,rfl⟩⟩;(try exact dd))|(go_at_call 53;(with_reducible refine (spec_l01Power.calls k a0 (wrap64 (-a1_0)) t471 _ A27.out).mono ?_);rintro e w' ⟨rfl,⟨nd,rfl⟩⟩;(try exact dd))|(go_at_call 45;(with_reducible refine (spec_l01Of.calls k a0 (wrap64 ((wrap64 (a1_1*(wrap64 (Int.tdiv (ji25) t463))))+(wrap64 (a2*(wrap64 (Int.tdiv (ji25) t471)))))) ji25 (wrap64 (a1_0+1)) t472 t473 t474 t475 _ A29.out).mono ?_);rintro e w34 ⟨rfl,hb⟩;replace BK461:=kB BK461 hb;replace BK462:=kB BK462 hb;replace HB:=lB hb;clear hb)|((with_reducible refine gate_dst (N:=11) rfl ?_);refine bxE (cs:=#[.int .i64 0,.int .i64 0,.int .i64 0]) (t:=25) ?_;intro gb476 hg w35 hbox hb;have BK476:=Aside0.mk hbox;have GW476:=sA hg;have GE476:=sA hg;have NB461_476:=nA hg BK461;have NB476_461:=nB hg BK461;have NB462_476:=nA hg BK462;have NB476_462:=nB hg BK462;replace BK461:=kB BK461 hb;replace BK462:=kB BK462 hb;replace HB:=lB hb;clear hb hbox hg;have hnb36:=NB476_461.out;have hnc36:=NB461_476.out;have hnb37:=NB476_462.out;have hnc37:=NB462_476.out;obtain ⟨hcz38_0,hcz38_1,hcz38_2,hfz38_0,hfz38_1,hfz38_2⟩:=cz3 BK476;obtain ⟨hcz39_0,hcz39_1,hcz39_2,hfz39_0,hfz39_1,hfz39_2⟩:=cz3 BK462)))
   refine bodyPost_ret (results_ct rfl _ _ gb462 25 #[.int .i64 t472,.int .i64 t473,.int .i64 t474] (0,0) _ rfl (bpA BK462) Try.underlying25 rfl (by kernel_rfl)) rfl ?_
   exact ⟨by first|rfl|(simp [errW_none,errW_some] <;> rfl)|(simp only [← hji25];first|rfl|(simp [errW_none,errW_some] <;> rfl))|(simp [*,errW_none,errW_some] <;> rfl),blA⟩
def spec_l01Parent.f (k:Nat) (a0 a1_0 a1_1 a1_2:Int):Option (Int × Int × Int × Bool):=(spec_l01Power.f k a0 a1_2).bind fun t479=>((spec_l01Of.f k a0 a1_1 t479 (wrap64 (a1_0 - 1))).bind fun bt480=>(some (bt480.1,bt480.2.1,bt480.2.2.1,bt480.2.2.2)))
theorem spec_l01Parent.mono:∀ a0 a1 a2 a3 k,LeO (spec_l01Parent.f k a0 a1 a2 a3) (spec_l01Parent.f (k+1) a0 a1 a2 a3):=by
 intro a0 a1 a2 a3 k
 unfold spec_l01Parent.f
 repeat' first
   | with_reducible first|exact spec_l01Of.mono ..|exact spec_l01Power.mono ..|exact LeO.refl _|exact LeO.none _|refine LeO.ite ?_ ?_|refine LeO.bind ?_ fun _=>?_
def spec_l01Parent.T1:Bool × List (List Nat × List Nat):=(true,[([],[]),([],[]),([1],[1]),([],[]),([],[]),([4],[4]),([3,5],[3,5]),([],[]),([7],[7]),([8],[8]),([0,2,6,9,6],[0,2,6,9]),([10],[10]),([11],[11]),([11],[11]),([],[]),([14,12,10,0,1,2,3,4,5,6,7,8,9,10,11,12,14],[12,14]),([13,15,0,1,2,3,4,5,6,7,8,9,10,11,12,13,14,15],[13])])
def spec_l01Parent.B1:List Nat:=[0,0,2,0,0,16,56,0,128,384,1023,2047,4095,4095,0,24575,65535]
theorem spec_l01Parent.tab1:rtab .any (opsOf Try.f71 1)=spec_l01Parent.T1:=by kernel_rfl
theorem spec_l01Parent.bits1:waitsOk spec_l01Parent.T1.2 spec_l01Parent.B1=true:=by kernel_rfl
set_option maxHeartbeats 8000000 in
set_option maxRecDepth 100000 in
theorem spec_l01Parent.calls (k:Nat) (a0 a1_0 a1_1 a1_2 r1 r2 r3:Int) (r4:Bool) (w:World) (h:spec_l01Parent.f k a0 a1_0 a1_1 a1_2=some (r1,r2,r3,r4)) :
  Calls Try.prog 71 #[.int .i64 a0,.agg #[.int .i64 a1_0,.int .i64 a1_1,.int .i64 a1_2]] w fun e w'=>e=.returned (.tuple #[.agg #[.int .i64 r1,.int .i64 r2,.int .i64 r3],.bool r4])∧Below w.heap.size w w':=by
 have hu25:=Try.underlying25
 have HB:=Aside0.mk (Below.refl w.heap.size w)
 have H:=h
 unfold spec_l01Parent.f at H
 clear h
 replace H:=bS H
 obtain ⟨t479,A3,H⟩:=H
 try dsimp only at H
 replace H:=bS H
 obtain ⟨⟨t480,t481,t482,t483⟩,A4,H⟩:=H
 try dsimp only at H
 simp only [Option.some.injEq,Prod.mk.injEq] at H
 obtain ⟨rfl,rfl,rfl,rfl⟩:=H
 go_enter Try.func71,Try.ntmps71
 try go_wp2_with (first|((with_reducible refine gate_dst (N:=3) rfl ?_);refine bxE (cs:=#[.int .i64 a1_0,.int .i64 a1_1,.int .i64 a1_2]) (t:=25) ?_;intro gb477 hg w5 hbox hb;have n0_:=lB hb;have n1_:=Aside0.mk hbox;have n2_:=sA hg;have n3_:=sA hg;clear HB;have HB:=n0_;have BK477:=n1_;have GW477:=n2_;have GE477:=n3_;clear n0_ n1_ n2_ n3_;clear hb hbox hg)|((with_reducible refine gate_dst (N:=4) rfl ?_);refine bxE (cs:=#[.int .i64 0,.int .i64 0,.int .i64 0]) (t:=25) ?_;intro gb478 hg w6 hbox hb;have n0_:=kB BK477 hb;have n1_:=lB hb;have n2_:=Aside0.mk hbox;have n3_:=sA hg;have n4_:=sA hg;have n5_:=nA hg BK477;have n6_:=nB hg BK477;clear BK477;clear HB;have BK477:=n0_;have HB:=n1_;have BK478:=n2_;have GW478:=n3_;have GE478:=n4_;have NB477_478:=n5_;have NB478_477:=n6_;clear n0_ n1_ n2_ n3_ n4_ n5_ n6_;clear hb hbox hg))
 have n0_:=Aside0.mk (blk_drew BK477.out)
 have n1_:=Aside0.mk (blk_drew BK478.out)
 have n2_:=Aside0.mk (below_drew1 HB.out)
 clear BK477
 clear BK478
 clear HB
 have BK477:=n0_
 have BK478:=n1_
 have HB:=n2_
 clear n0_ n1_ n2_
 refine start_ (n:=17) (S:=fun w'=>w'.cell? ⟨gb477,0,none⟩=some (.int .i64 a1_0)∧w'.cell? ⟨gb477,1,none⟩=some (.int .i64 a1_1)∧w'.cell? ⟨gb477,2,none⟩=some (.int .i64 a1_2)) (ds:=[]) #[Z,Z,Z,Z,Z,Z,Z,Z,Z,Z,Z,Z,Z,Z,Z,Z,Z] (by kernel_rfl) rfl rfl ⟨cA BK477 0,cA BK477 1,cA BK477 2⟩ (fun hHeld=>?_);refine with_tabW spec_l01Parent.tab1 spec_l01Parent.bits1 (fun HT_ HW_=>?_)
 generalize w6.drew=w7 at BK477 BK478 HB hHeld ⊢
 refine puA (i:=0) (N:=some 9) #[Y,Z,Z,Z,Z,Z,Z,Z,Z,Z,Z,Z,Z,Z,Z,Z,Z] rfl rfl HT_ ?_
 refine puA (i:=1) (N:=some 10) #[Y,Y,Z,Z,Z,Z,Z,Z,Z,Z,Z,Z,Z,Z,Z,Z,Z] rfl rfl HT_ ?_
 refine puA (i:=3) (N:=some 12) #[Y,Y,Z,Y,Z,Z,Z,Z,Z,Z,Z,Z,Z,Z,Z,Z,Z] rfl rfl HT_ ?_
 refine puA (i:=4) (N:=some 13) #[Y,Y,Z,Y,Y,Z,Z,Z,Z,Z,Z,Z,Z,Z,Z,Z,Z] rfl rfl HT_ ?_
 refine puA (i:=7) (N:=some 16) #[Y,Y,Z,Y,Y,Z,Z,Y,Z,Z,Z,Z,Z,Z,Z,Z,Z] rfl rfl HT_ ?_
 refine taA (i:=2) (N:=some 11) #[Y,Y,Y,Y,Y,Z,Z,Y,Z,Z,Z,Z,Z,Z,Z,Z,Z] rfl rfl HT_ HW_ hHeld ?_
 refine taA (i:=5) (N:=some 14) #[Y,Y,Y,Y,Y,Y,Z,Y,Z,Z,Z,Z,Z,Z,Z,Z,Z] rfl rfl HT_ HW_ hHeld ?_
 refine taA (i:=8) (N:=some 17) #[Y,Y,Y,Y,Y,Y,Z,Y,Y,Z,Z,Z,Z,Z,Z,Z,Z] rfl rfl HT_ HW_ hHeld ?_
 refine puA (i:=9) (N:=some 18) #[Y,Y,Y,Y,Y,Y,Z,Y,Y,Y,Z,Z,Z,Z,Z,Z,Z] rfl rfl HT_ ?_
 refine join_ (σ:=Nat) 2 #[Y,Y,Y,Y,Y,Y,Y,Y,Y,Y,Y,Y,Y,Y,Y,Z,Z] (fun s_=>[(15,.int .i64 t479),(19,.tuple #[.agg #[.int .i64 t480,.int .i64 t481,.int .i64 t482],.bool t483]),(6,.pointer (some ⟨s_,0,none⟩)),(8,.tuple #[.agg #[.int .i64 t480,.int .i64 t481,.int .i64 t482],.bool t483]),(20,.agg #[.int .i64 t480,.int .i64 t481,.int .i64 t482]),(21,.bool t483)]) (fun s_ w'=>(w'.cell? ⟨gb477,0,none⟩=some (.int .i64 a1_0)∧w'.cell? ⟨gb477,1,none⟩=some (.int .i64 a1_1)∧w'.cell? ⟨gb477,2,none⟩=some (.int .i64 a1_2))∧(w'.heap[gb477]?=some (.cells #[.int .i64 a1_0,.int .i64 a1_1,.int .i64 a1_2] 25 (0,0)))∧(w'.heap[gb478]?=some (.cells #[.int .i64 0,.int .i64 0,.int .i64 0] 25 (0,0)))∧(w'.heap[s_]?=some (.cells #[.int .i64 0,.int .i64 0,.int .i64 0] 25 (0,0)))∧(w.heap.size≤s_)∧(w.heap.size≤s_)∧(gb477≠s_)∧(s_≠gb477)∧(gb478≠s_)∧(s_≠gb478)∧(Below w.heap.size w w')) ?_ ?_
 rotate_left
 ·
  intro hCont
  refine two_ (i:=6) (j:=14) (Ni:=some 15) (Nj:=some 6) #[Y,Y,Y,Y,Y,Y,Y,Y,Y,Y,Z,Z,Z,Z,Z,Z,Z] #[Y,Y,Y,Y,Y,Y,Z,Y,Y,Y,Z,Z,Z,Z,Y,Z,Z] rfl rfl rfl rfl (two_of HT_.out (by kernel_rfl)) (by decide) (by decide) (fun K hK=>?_) (fun K hK=>?_)
  ·
   skip
   refine goC Try.func53 (spec_l01Power.calls (w:=_) (h:=A3.out)) ?_
   rintro _ ⟨nd,rfl⟩
   refine hK.out _ _ ⟨cA BK477 0,cA BK477 1,cA BK477 2⟩ (fun hHeld=>?_)
   clear hK K
   refine nmA ?_
   refine two_ (i:=10) (j:=14) (Ni:=some 19) (Nj:=some 6) #[Y,Y,Y,Y,Y,Y,Y,Y,Y,Y,Y,Z,Z,Z,Z,Z,Z] #[Y,Y,Y,Y,Y,Y,Y,Y,Y,Y,Z,Z,Z,Z,Y,Z,Z] rfl rfl rfl rfl (two_of HT_.out (by kernel_rfl)) (by decide) (by decide) (fun K hK=>?_) (fun K hK=>?_)
   ·
    skip
    refine goC Try.func45 (spec_l01Of.calls (w:=_) (h:=A4.out)) ?_
    intro w8 hb
    replace BK477:=kB BK477 hb
    replace BK478:=kB BK478 hb
    replace HB:=lB hb
    (try clear hb)
    (try clear hb2)
    (try clear hk)
    (try clear hi)
    refine hK.out _ _ ⟨cA BK477 0,cA BK477 1,cA BK477 2⟩ (fun hHeld=>?_)
    clear hK K
    refine nmA ?_
    refine puA (i:=11) (N:=some 8) #[Y,Y,Y,Y,Y,Y,Y,Y,Y,Y,Y,Y,Z,Z,Z,Z,Z] rfl rfl HT_ ?_
    refine puA (i:=12) (N:=some 20) #[Y,Y,Y,Y,Y,Y,Y,Y,Y,Y,Y,Y,Y,Z,Z,Z,Z] rfl rfl HT_ ?_
    refine puA (i:=13) (N:=some 21) #[Y,Y,Y,Y,Y,Y,Y,Y,Y,Y,Y,Y,Y,Y,Z,Z,Z] rfl rfl HT_ ?_
    refine one_ (i:=14) (N:=some 6) #[Y,Y,Y,Y,Y,Y,Y,Y,Y,Y,Y,Y,Y,Y,Y,Z,Z] rfl rfl (one_of HT_.out (by kernel_rfl)) (by decide) (fun K hK=>?_)
    refine box_step ?hg (N:=6) ?hd (cs:=#[.int .i64 0,.int .i64 0,.int .i64 0]) (t:=25) ?hr ?_;(case hd=>rfl);(case hg=>rfl);(case hr=>first|(go_simp;done)|(go_simp;rfl))
    intro gb484 hg w9 hbox hb
    have BK484:=Aside0.mk hbox
    have GW484:=sA hg
    have GE484:=sA hg
    have NB477_484:=nA hg BK477
    have NB484_477:=nB hg BK477
    have NB478_484:=nA hg BK478
    have NB484_478:=nB hg BK478
    replace BK477:=kB BK477 hb
    replace BK478:=kB BK478 hb
    replace HB:=lB hb
    clear hb hbox hg
    refine hK.out _ _ ⟨cA BK477 0,cA BK477 1,cA BK477 2⟩ (fun hHeld=>?_)
    clear hK K
    refine nmA ?_
    exact norm_ (by simp only [putAll,Act.put,List.setIfInBounds_toArray,List.set_cons_zero,List.set_cons_succ]) (hCont (gb484) _ ⟨hHeld,(bkA BK477),(bkA BK478),(bkA BK484),GW484.out,GE484.out,NB477_484.out,NB484_477.out,NB478_484.out,NB484_478.out,blA⟩)
   ·
    skip
    refine box_step ?hg (N:=6) ?hd (cs:=#[.int .i64 0,.int .i64 0,.int .i64 0]) (t:=25) ?hr ?_;(case hd=>rfl);(case hg=>rfl);(case hr=>first|(go_simp;done)|(go_simp;rfl))
    intro gb484 hg w8 hbox hb
    have BK484:=Aside0.mk hbox
    have GW484:=sA hg
    have GE484:=sA hg
    have NB477_484:=nA hg BK477
    have NB484_477:=nB hg BK477
    have NB478_484:=nA hg BK478
    have NB484_478:=nB hg BK478
    replace BK477:=kB BK477 hb
    replace BK478:=kB BK478 hb
    replace HB:=lB hb
    clear hb hbox hg
    refine hK.out _ _ ⟨cA BK477 0,cA BK477 1,cA BK477 2⟩ (fun hHeld=>?_)
    clear hK K
    refine nmA ?_
    refine one_ (i:=10) (N:=some 19) #[Y,Y,Y,Y,Y,Y,Y,Y,Y,Y,Y,Z,Z,Z,Y,Z,Z] rfl rfl (one_of HT_.out (by kernel_rfl)) (by decide) (fun K hK=>?_)
    refine goC Try.func45 (spec_l01Of.calls (w:=_) (h:=A4.out)) ?_
    intro w9 hb
    replace BK477:=kB BK477 hb
    replace BK478:=kB BK478 hb
    replace BK484:=kB BK484 hb
    replace HB:=lB hb
    (try clear hb)
    (try clear hb2)
    (try clear hk)
    (try clear hi)
    refine hK.out _ _ ⟨cA BK477 0,cA BK477 1,cA BK477 2⟩ (fun hHeld=>?_)
    clear hK K
    refine nmA ?_
    refine puA (i:=11) (N:=some 8) #[Y,Y,Y,Y,Y,Y,Y,Y,Y,Y,Y,Y,Z,Z,Y,Z,Z] rfl rfl HT_ ?_
    refine puA (i:=12) (N:=some 20) #[Y,Y,Y,Y,Y,Y,Y,Y,Y,Y,Y,Y,Y,Z,Y,Z,Z] rfl rfl HT_ ?_
    refine puA (i:=13) (N:=some 21) #[Y,Y,Y,Y,Y,Y,Y,Y,Y,Y,Y,Y,Y,Y,Y,Z,Z] rfl rfl HT_ ?_
    exact norm_ (by simp only [putAll,Act.put,List.setIfInBounds_toArray,List.set_cons_zero,List.set_cons_succ]) (hCont (gb484) _ ⟨hHeld,(bkA BK477),(bkA BK478),(bkA BK484),GW484.out,GE484.out,NB477_484.out,NB484_477.out,NB478_484.out,NB484_478.out,blA⟩)
  ·
   skip
   refine box_step ?hg (N:=6) ?hd (cs:=#[.int .i64 0,.int .i64 0,.int .i64 0]) (t:=25) ?hr ?_;(case hd=>rfl);(case hg=>rfl);(case hr=>first|(go_simp;done)|(go_simp;rfl))
   intro gb484 hg w8 hbox hb
   have BK484:=Aside0.mk hbox
   have GW484:=sA hg
   have GE484:=sA hg
   have NB477_484:=nA hg BK477
   have NB484_477:=nB hg BK477
   have NB478_484:=nA hg BK478
   have NB484_478:=nB hg BK478
   replace BK477:=kB BK477 hb
   replace BK478:=kB BK478 hb
   replace HB:=lB hb
   clear hb hbox hg
   refine hK.out _ _ ⟨cA BK477 0,cA BK477 1,cA BK477 2⟩ (fun hHeld=>?_)
   clear hK K
   refine nmA ?_
   refine one_ (i:=6) (N:=some 15) #[Y,Y,Y,Y,Y,Y,Y,Y,Y,Y,Z,Z,Z,Z,Y,Z,Z] rfl rfl (one_of HT_.out (by kernel_rfl)) (by decide) (fun K hK=>?_)
   refine goC Try.func53 (spec_l01Power.calls (w:=_) (h:=A3.out)) ?_
   rintro _ ⟨nd,rfl⟩
   refine hK.out _ _ ⟨cA BK477 0,cA BK477 1,cA BK477 2⟩ (fun hHeld=>?_)
   clear hK K
   refine nmA ?_
   refine one_ (i:=10) (N:=some 19) #[Y,Y,Y,Y,Y,Y,Y,Y,Y,Y,Y,Z,Z,Z,Y,Z,Z] rfl rfl (one_of HT_.out (by kernel_rfl)) (by decide) (fun K hK=>?_)
   refine goC Try.func45 (spec_l01Of.calls (w:=_) (h:=A4.out)) ?_
   intro w9 hb
   replace BK477:=kB BK477 hb
   replace BK478:=kB BK478 hb
   replace BK484:=kB BK484 hb
   replace HB:=lB hb
   (try clear hb)
   (try clear hb2)
   (try clear hk)
   (try clear hi)
   refine hK.out _ _ ⟨cA BK477 0,cA BK477 1,cA BK477 2⟩ (fun hHeld=>?_)
   clear hK K
   refine nmA ?_
   refine puA (i:=11) (N:=some 8) #[Y,Y,Y,Y,Y,Y,Y,Y,Y,Y,Y,Y,Z,Z,Y,Z,Z] rfl rfl HT_ ?_
   refine puA (i:=12) (N:=some 20) #[Y,Y,Y,Y,Y,Y,Y,Y,Y,Y,Y,Y,Y,Z,Y,Z,Z] rfl rfl HT_ ?_
   refine puA (i:=13) (N:=some 21) #[Y,Y,Y,Y,Y,Y,Y,Y,Y,Y,Y,Y,Y,Y,Y,Z,Z] rfl rfl HT_ ?_
   exact norm_ (by simp only [putAll,Act.put,List.setIfInBounds_toArray,List.set_cons_zero,List.set_cons_succ]) (hCont (gb484) _ ⟨hHeld,(bkA BK477),(bkA BK478),(bkA BK484),GW484.out,GE484.out,NB477_484.out,NB484_477.out,NB478_484.out,NB484_478.out,blA⟩)
 rintro gb484 w10 ⟨hS_,h0_,h1_,h2_,h3_,h4_,h5_,h6_,h7_,h8_,h9_⟩
 have BK484:=Aside0.mk h2_
 have GW484:=Aside0.mk h3_
 have GE484:=Aside0.mk h4_
 have NB477_484:=Aside0.mk h5_
 have NB484_477:=Aside0.mk h6_
 have NB478_484:=Aside0.mk h7_
 have NB484_478:=Aside0.mk h8_
 replace BK477:=Aside0.mk h0_
 replace BK478:=Aside0.mk h1_
 replace HB:=Aside0.mk h9_
 clear h0_ h1_ h2_ h3_ h4_ h5_ h6_ h7_ h8_ h9_
 have hHeld:w10.cell? ⟨gb477,0,none⟩=some (.int .i64 a1_0)∧w10.cell? ⟨gb477,1,none⟩=some (.int .i64 a1_1)∧w10.cell? ⟨gb477,2,none⟩=some (.int .i64 a1_2):=hS_
 refine norm_ (a':=?_) ?_ ?_
 rotate_left
 ·
  simp only [putAll,Act.put,List.setIfInBounds_toArray,List.set_cons_zero,List.set_cons_succ]
  rfl
 refine one_ (i:=15) (N:=none) #[Y,Y,Y,Y,Y,Y,Y,Y,Y,Y,Y,Y,Y,Y,Y,Y,Z] rfl rfl (one_of HT_.out (by kernel_rfl)) (by decide) (fun K hK=>?_)
 have hs11:w10.cell? ⟨gb484,0,none⟩=some (.int .i64 0):=cA BK484 0
 have hfs11:=blk_frozen BK484.out 0
 have hns11_0:=NB477_484.out
 have hns11_1:=NB478_484.out
 have hms11_0:=NB484_477.out
 have hms11_1:=NB484_478.out
 have hs12:w10.cell? ⟨gb484,1,none⟩=some (.int .i64 0):=cA BK484 1
 have hfs12:=blk_frozen BK484.out 1
 have hns12_0:=NB477_484.out
 have hns12_1:=NB478_484.out
 have hms12_0:=NB484_477.out
 have hms12_1:=NB484_478.out
 have hs13:w10.cell? ⟨gb484,2,none⟩=some (.int .i64 0):=cA BK484 2
 have hfs13:=blk_frozen BK484.out 2
 have hns13_0:=NB477_484.out
 have hns13_1:=NB478_484.out
 have hms13_0:=NB484_477.out
 have hms13_1:=NB484_478.out
 refine skip_ (w1:=?_) (by rfl) rfl ?_ ?_
 rotate_left
 ·
  go_simp
  rfl
 refine hK.out _ _ ⟨cfA hHeld.1,cfA hHeld.2.1,cfA hHeld.2.2⟩ (fun hHeld=>?_)
 clear hK K
 refine puA (i:=16) (N:=some 7) #[Y,Y,Y,Y,Y,Y,Y,Y,Y,Y,Y,Y,Y,Y,Y,Y,Y] rfl rfl HT_ ?_
 refine done_ (done_of HT_.out (by kernel_rfl)) ?_
 have hnb14:=NB484_477.out
 have hnc14:=NB477_484.out
 have hnb15:=NB484_478.out
 have hnc15:=NB478_484.out
 obtain ⟨hcz16_0,hcz16_1,hcz16_2,hfz16_0,hfz16_1,hfz16_2⟩:=cz3 BK484
 have hnb17:=NB478_477.out
 have hnc17:=NB477_478.out
 obtain ⟨hcz18_0,hcz18_1,hcz18_2,hfz18_0,hfz18_1,hfz18_2⟩:=cz3 BK478
 try go_wp2
 refine bodyPost_ret (results_ct rfl _ _ gb478 25 #[.int .i64 t480,.int .i64 t481,.int .i64 t482] (0,0) _ rfl (bpA BK478) Try.underlying25 rfl (by kernel_rfl)) rfl ?_
 exact finA blA
end Go.Proofs.Ytabcckoeilegnaa.PAll
