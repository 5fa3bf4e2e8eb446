-- turned out of the kit's print
import Derived.Test.YtlpmefmaplhfdaaQx
import Derived.Test.YtlpmefmaplhfdaaQbitsLeadingZeros64
import Derived.Test.YtlpmefmaplhfdaaQimplofMark
import Derived.Test.YtlpmefmaplhfdaaQspecl04With
namespace Go.Proofs.Ytlpmefmaplhfdaa.PAll
open Go.RowKit Go.Proofs.YtlpmefmaplhfdaaW.PrintWords Go.Proofs.YtlpmefmaplhfdaaW.PrintLast Go.Proofs.YtlpmefmaplhfdaaW.PrintMore
attribute [local go_sem] Go.Proofs.Ytlpmefmaplhfdaa.Aux.setCell_drewN Go.Proofs.Ytlpmefmaplhfdaa.Aux.isSome_setCell max2_int min2_int max_two min_two max_three min_three max_four min_four
set_option linter.unusedVariables false
set_option linter.unusedSimpArgs false
theorem cfE {A B:Prop} (h0:B) (h:B→A:=by intro h_;repeat (first|(with_reducible exact h_)|refine (cell_far (Aside0.out (by assumption)) _).trans ?_)):A:=h h0
def spec_DrawFixedBalls.f (k:Nat) (l0:List Int):Option (Int × Int × Int × Int × Int × Int × Int × Int × Int):=(spec_l01From.f k l0).bind fun bt818=>((spec_l04With.f k l0).bind fun bt822=>((spec_l01Pick.f bt818.1 bt818.2.1 bt818.2.2 (([0,1,1,2,2,3,4]:List Int))).bind fun bt835=>(if bt822.1>3 then ((spec_l01Next.f bt818.1 bt835.2.1 bt835.2.2 2).bind fun bt838=>(if bt838.1=0 then (some (bt822.1,bt822.2.1,bt822.2.2.1,bt822.2.2.2.1,bt822.2.2.2.2.1,0,0,0,mn bt835.1 2)) else (some (bt822.1,bt822.2.1,bt822.2.2.1,bt822.2.2.2.1,bt822.2.2.2.2.1,bt822.2.2.2.2.2.1,bt822.2.2.2.2.2.2.1,bt822.2.2.2.2.2.2.2,mn bt835.1 2)))) else ((spec_l01Next.f bt818.1 bt835.2.1 bt835.2.2 2).bind fun bt841=>(if bt841.1=0 then (some (bt822.1,bt822.2.1,bt822.2.2.1,bt822.2.2.2.1,bt822.2.2.2.2.1,0,0,0,bt835.1)) else (some (bt822.1,bt822.2.1,bt822.2.2.1,bt822.2.2.2.1,bt822.2.2.2.2.1,bt822.2.2.2.2.2.1,bt822.2.2.2.2.2.2.1,bt822.2.2.2.2.2.2.2,bt835.1)))))))
theorem spec_DrawFixedBalls.mono:∀ a0 k,LeO (spec_DrawFixedBalls.f k a0) (spec_DrawFixedBalls.f (k+1) a0):=by
 intro a0 k
 unfold spec_DrawFixedBalls.f
 repeat' first
   | with_reducible first|exact spec_l01From.mono ..|exact spec_l04With.mono ..|exact LeO.refl _|exact LeO.none _|refine LeO.ite ?_ ?_|refine LeO.bind ?_ fun _=>?_
def spec_DrawFixedBalls.T8:Bool × List (List Nat × List Nat):=(true,[([],[]),([],[]),([],[]),([],[]),([0,0],[0]),([1,4,0,1,4],[1]),([2,5,0,1,2,4,5],[2]),([3,6,0,1,2,3,4,5,6],[3])])
def spec_DrawFixedBalls.B8:List Nat:=[0,0,0,0,1,19,55,127]
theorem spec_DrawFixedBalls.tab8:rtab .any (opsOf Try.f35 8)=spec_DrawFixedBalls.T8:=by kernel_rfl
theorem spec_DrawFixedBalls.bits8:waitsOk spec_DrawFixedBalls.T8.2 spec_DrawFixedBalls.B8=true:=by kernel_rfl
set_option maxHeartbeats 8000000 in
set_option maxRecDepth 100000 in
theorem spec_DrawFixedBalls.calls (k:Nat) (A0:Option Addr) (c0:Nat) (l0:List Int) (r1 r2 r3 r4 r5 r6 r7 r8 r9:Int) (w:World) (hr0:Kd.C (Kd.int .u8) w A0 l0.length l0) (hc0:l0.length≤c0) (h:spec_DrawFixedBalls.f k l0=some (r1,r2,r3,r4,r5,r6,r7,r8,r9)) :
  Calls Try.prog 35 #[.slice A0 l0.length c0] w fun e w'=>e=.returned (.tuple #[.int .i64 r1,.agg #[.int .i64 r2,.int .i64 r3,.int .i64 r4,.int .i64 r5],.agg #[.int .i64 r6,.int .i64 r7,.int .i64 r8],.int .i64 r9])∧Below w.heap.size w w':=by
 have hu26:=Try.underlying26
 have hu28:=Try.underlying28
 have HR0:=Aside0.mk hr0
 have HC0:=Aside0.mk hc0
 clear hr0 hc0
 have HB:=Aside0.mk (Below.refl w.heap.size w)
 have H:=h
 unfold spec_DrawFixedBalls.f at H
 clear h
 replace H:=bS H
 obtain ⟨⟨t818,t819,t820⟩,A2,H⟩:=H
 try dsimp only at H
 replace H:=bS H
 obtain ⟨⟨t822,t823,t824,t825,t826,t827,t828,t829⟩,A3,H⟩:=H
 try dsimp only at H
 obtain ⟨y832,hy832⟩:∃ y_:List Int,y_=(([0,1,1,2,2,3,4]:List Int)):=⟨_,rfl⟩
 replace H:((spec_l01Pick.f t818 t819 t820 y832).bind fun bt835=>(if t822>3 then ((spec_l01Next.f t818 bt835.2.1 bt835.2.2 2).bind fun bt838=>(if bt838.1=0 then (some (t822,t823,t824,t825,t826,0,0,0,mn bt835.1 2)) else (some (t822,t823,t824,t825,t826,t827,t828,t829,mn bt835.1 2)))) else ((spec_l01Next.f t818 bt835.2.1 bt835.2.2 2).bind fun bt841=>(if bt841.1=0 then (some (t822,t823,t824,t825,t826,0,0,0,bt835.1)) else (some (t822,t823,t824,t825,t826,t827,t828,t829,bt835.1))))))=some (r1,r2,r3,r4,r5,r6,r7,r8,r9):=rH hy832 H
 have Ny832:=Aside0.mk hy832
 clear hy832
 replace H:=bS H
 obtain ⟨⟨t835,t836,t837⟩,A4,H⟩:=H
 try dsimp only at H
 by_cases c5:t822>3
 ·
  rw [if_pos c5] at H
  have c5b0:decide (3<t822)=true:=decide_eq_true c5
  clear c5
  obtain ⟨ji6,hji6⟩:∃ j_:Int,(mn t835 2)=j_:=⟨_,rfl⟩
  replace H:((spec_l01Next.f t818 t836 t837 2).bind fun bt838=>(if bt838.1=0 then (some (t822,t823,t824,t825,t826,0,0,0,ji6)) else (some (t822,t823,t824,t825,t826,t827,t828,t829,ji6))))=some (r1,r2,r3,r4,r5,r6,r7,r8,r9):=by first|(rw [hji6] at H;exact H)|(simp only [hji6] at H ⊢;exact H)
  (try rw [hji6] at A2)
  (try rw [hji6] at A3)
  (try rw [hji6] at A4)
  (try (have hji6h:ji6≤2:=by (rw [← hji6];unfold mn;(repeat' split) <;> omega)))
  (try (have hji6g:ji6≤64:=by omega))
  have hji6_:(if 2<t835 then 2 else t835)=ji6:=hji6
  replace H:=bS H
  obtain ⟨⟨t838,t839,t840⟩,A7,H⟩:=H
  try dsimp only at H
  by_cases c8:t838=0
  ·
   rw [if_pos c8] at H
   have c8b0:(t838 == 0)=true:=beq_iff_eq.mpr c8
   have c8b1:(t838 != 0)=false:=bne_eq_false_iff_eq.mpr c8
   clear c8
   simp only [Option.some.injEq,Prod.mk.injEq] at H
   obtain ⟨rfl,rfl,rfl,rfl,rfl,rfl,rfl,rfl,rfl⟩:=H
   go_enter Try.func35,Try.ntmps35
   try go_wp2_with (first|((with_reducible refine gate_dst (N:=3) rfl ?_);refine bxE (cs:=#[.int .i64 0,.int .i64 0,.int .i64 0,.int .i64 0]) (t:=26) ?_;intro gb816 hg w9 hbox hb;have n0_:=lB hb;have n1_:=Aside0.mk hbox;have n2_:=sA hg;have n3_:=sA hg;clear HB;have HB:=n0_;have BK816:=n1_;have GW816:=n2_;have GE816:=n3_;clear n0_ n1_ n2_ n3_;clear hb hbox hg)|((with_reducible refine gate_dst (N:=4) rfl ?_);refine bxE (cs:=#[.int .i64 0,.int .i64 0,.int .i64 0]) (t:=28) ?_;intro gb817 hg w10 hbox hb;have n0_:=kB BK816 hb;have n1_:=lB hb;have n2_:=Aside0.mk hbox;have n3_:=sA hg;have n4_:=sA hg;have n5_:=nA hg BK816;have n6_:=nB hg BK816;clear BK816;clear HB;have BK816:=n0_;have HB:=n1_;have BK817:=n2_;have GW817:=n3_;have GE817:=n4_;have NB816_817:=n5_;have NB817_816:=n6_;clear n0_ n1_ n2_ n3_ n4_ n5_ n6_;clear hb hbox hg)|((with_reducible refine gate_callee (f:=47) rfl ?_);refine gL (some 12) rfl Try.func47 #[.slice A0 l0.length c0] ?_;(with_reducible refine (spec_l01From.calls k _ _ l0 t818 t819 t820 w _ ?side1 ?side2 ?side3 A2.out).mono ?_);(case side1=>exact blI);(case side2=>exact HR0.out);(case side3=>exact HC0.out);rintro e w11 ⟨g821,rfl,hi,hb,hb2⟩;refine ⟨_,rfl,?_⟩;have n0_:=kB BK816 hb2;have n1_:=kB BK817 hb2;have n2_:=Aside0.mk hb;have n3_:=Aside0.mk hi;have n4_:=Aside0.mk (IsS116.ne_blk hi (blk_below (bkA BK816) hb2) (by decide));have n5_:=Aside0.mk (Ne.symm (IsS116.ne_blk hi (blk_below (bkA BK816) hb2) (by decide)));have n6_:=Aside0.mk (IsS116.ne_blk hi (blk_below (bkA BK817) hb2) (by decide));have n7_:=Aside0.mk (Ne.symm (IsS116.ne_blk hi (blk_below (bkA BK817) hb2) (by decide)));clear BK816;clear BK817;clear HB;have BK816:=n0_;have BK817:=n1_;have HB:=n2_;have HI821:=n3_;have NB821_816:=n4_;have NB816_821:=n5_;have NB821_817:=n6_;have NB817_821:=n7_;clear n0_ n1_ n2_ n3_ n4_ n5_ n6_ n7_;clear hi hb hb2)|((with_reducible refine gd 15 rfl ?_);refine gC (some 15) rfl Try.func41 (spec_l04With.calls (w:=_) (hr0:=cR (Kd.C_below HR0.out HB.out)) (hc0:=HC0.out) (h:=A3.out)) ?_;intro w12 hb;have n0_:=kB BK816 hb;have n1_:=kB BK817 hb;have n2_:=Aside0.mk (IsS116.below (iA HI821) hb);have n3_:=lI hb;clear BK816;clear BK817;clear HI821;clear HB;have BK816:=n0_;have BK817:=n1_;have HI821:=n2_;have HB:=n3_;clear n0_ n1_ n2_ n3_;clear hb)|((with_reducible refine gate_dst (N:=8) rfl ?_);refine bxE (cs:=#[.int .i64 0,.int .i64 0,.int .i64 0,.int .i64 0]) (t:=26) ?_;intro gb830 hg w13 hbox hb;have n0_:=kB BK816 hb;have n1_:=kB BK817 hb;have n2_:=Aside0.mk (IsS116.below (iA HI821) hb);have n3_:=lI hb;have n4_:=Aside0.mk hbox;have n5_:=sI hg;have n6_:=sI hg;have n7_:=nA hg BK816;have n8_:=nB hg BK816;have n9_:=nA hg BK817;have n10_:=nB hg BK817;have n11_:=inA hg (IsS116.lt (iA HI821));have n12_:=inB hg (IsS116.lt (iA HI821));clear BK816;clear BK817;clear HI821;clear HB;have BK816:=n0_;have BK817:=n1_;have HI821:=n2_;have HB:=n3_;have BK830:=n4_;have GW830:=n5_;have GE830:=n6_;have NB816_830:=n7_;have NB830_816:=n8_;have NB817_830:=n9_;have NB830_817:=n10_;have NB821_830:=n11_;have NB830_821:=n12_;clear n0_ n1_ n2_ n3_ n4_ n5_ n6_ n7_ n8_ n9_ n10_ n11_ n12_;clear hb hbox hg)|((with_reducible refine gate_dst (N:=9) rfl ?_);refine bxE (cs:=#[.int .i64 0,.int .i64 0,.int .i64 0]) (t:=28) ?_;intro gb831 hg w14 hbox hb;have n0_:=kB BK816 hb;have n1_:=kB BK817 hb;have n2_:=Aside0.mk (IsS116.below (iA HI821) hb);have n3_:=kB BK830 hb;have n4_:=lI hb;have n5_:=Aside0.mk hbox;have n6_:=sI hg;have n7_:=sI hg;have n8_:=nA hg BK816;have n9_:=nB hg BK816;have n10_:=nA hg BK817;have n11_:=nB hg BK817;have n12_:=nA hg BK830;have n13_:=nB hg BK830;have n14_:=inA hg (IsS116.lt (iA HI821));have n15_:=inB hg (IsS116.lt (iA HI821));clear BK816;clear BK817;clear HI821;clear BK830;clear HB;have BK816:=n0_;have BK817:=n1_;have HI821:=n2_;have BK830:=n3_;have HB:=n4_;have BK831:=n5_;have GW831:=n6_;have GE831:=n7_;have NB816_831:=n8_;have NB831_816:=n9_;have NB817_831:=n10_;have NB831_817:=n11_;have NB830_831:=n12_;have NB831_830:=n13_;have NB821_831:=n14_;have NB831_821:=n15_;clear n0_ n1_ n2_ n3_ n4_ n5_ n6_ n7_ n8_ n9_ n10_ n11_ n12_ n13_ n14_ n15_;clear hb hbox hg;have hnb15:=NB830_816.out;have hnc15:=NB816_830.out;have hnb16:=NB830_817.out;have hnc16:=NB817_830.out;have hnb17:=NB830_831.out;have hnc17:=NB831_830.out;have hnb18:=NB830_821.out;have hnc18:=NB821_830.out;obtain ⟨hcz19_0,hcz19_1,hcz19_2,hcz19_3,hfz19_0,hfz19_1,hfz19_2,hfz19_3⟩:=cz4 BK830;have hnb20:=NB831_816.out;have hnc20:=NB816_831.out;have hnb21:=NB831_817.out;have hnc21:=NB817_831.out;have hnb22:=NB831_821.out;have hnc22:=NB821_831.out;obtain ⟨hcz23_0,hcz23_1,hcz23_2,hfz23_0,hfz23_1,hfz23_2⟩:=cz3 BK831)|((with_reducible refine gate_dst (N:=20) rfl ?_);refine Kd.R_lit (Kd.int .i64) _ 2 ?hg (N:=20) ?hd (xs:=([0,1,1,2,2,3,4]:List Int)) (inner:=[.int .i64 0,.int .i64 1,.int .i64 1,.int .i64 2,.int .i64 2,.int .i64 3,.int .i64 4]) (ok:=fun _=>True) (okp:=fun _=>True) ?hr ?hp (fun _ hk=>hk) trivial (Below.refl _ _) (Nat.le_refl _) (by simp) ?_;(case hd=>rfl);(case hg=>rfl);(case hr=>first|(go_simp;done)|(go_simp;rfl));(case hp=>exact (Reps.one (show Kd.M (Kd.int .i64) _ _ _ 0 [.int .i64 0] from rfl) (Reps.one (show Kd.M (Kd.int .i64) _ _ _ 1 [.int .i64 1] from rfl) (Reps.one (show Kd.M (Kd.int .i64) _ _ _ 1 [.int .i64 1] from rfl) (Reps.one (show Kd.M (Kd.int .i64) _ _ _ 2 [.int .i64 2] from rfl) (Reps.one (show Kd.M (Kd.int .i64) _ _ _ 2 [.int .i64 2] from rfl) (Reps.one (show Kd.M (Kd.int .i64) _ _ _ 3 [.int .i64 3] from rfl) (Reps.one (show Kd.M (Kd.int .i64) _ _ _ 4 [.int .i64 4] from rfl) (Reps.none _ _)))))))));intro v833 w24 ho25 hb hg_ hnew_;clear hg_ hnew_;(first|rw [← Ny832.out] at ho25|(simp only [Int.reduceToNat] at ho25;rw [← Ny832.out] at ho25));have n0_:=Aside0.mk (Kd.R_lower ho25 (below_size blI));have n1_:=Aside0.mk (blk_below (g:=gb816) (o:=.cells #[.int .i64 0,.int .i64 0,.int .i64 0,.int .i64 0] 26 (0,0)) (bkF BK816) hb);have n2_:=Aside0.mk (blk_below (g:=gb817) (o:=.cells #[.int .i64 0,.int .i64 0,.int .i64 0] 28 (0,0)) (bkF BK817) hb);have n3_:=Aside0.mk (IsS116.below (show IsS116 w (((((((w14.setCell ⟨gb830,0,none⟩ (.int .i64 t823)).setCell ⟨gb830,1,none⟩ (.int .i64 t824)).setCell ⟨gb830,2,none⟩ (.int .i64 t825)).setCell ⟨gb830,3,none⟩ (.int .i64 t826)).setCell ⟨gb831,0,none⟩ (.int .i64 t827)).setCell ⟨gb831,1,none⟩ (.int .i64 t828)).setCell ⟨gb831,2,none⟩ (.int .i64 t829)) g821 t818 t819 t820 from iA HI821) hb);have n4_:=Aside0.mk (blk_below (g:=gb830) (o:=.cells #[.int .i64 t823,.int .i64 t824,.int .i64 t825,.int .i64 t826] 26 (0,0)) (bpA BK830) hb);have n5_:=Aside0.mk (blk_below (g:=gb831) (o:=.cells #[.int .i64 t827,.int .i64 t828,.int .i64 t829] 28 (0,0)) (bpA BK831) hb);have n6_:=lI hb;clear BK816;clear BK817;clear HI821;clear BK830;clear BK831;clear HB;have HO834:=n0_;have BK816:=n1_;have BK817:=n2_;have HI821:=n3_;have BK830:=n4_;have BK831:=n5_;have HB:=n6_;clear n0_ n1_ n2_ n3_ n4_ n5_ n6_;clear hb ho25;obtain ⟨Ao26,co26,eo26⟩:=Kd.R_slice HO834.out;subst eo26)|((with_reducible refine gd 21 rfl ?_);refine gC (some 21) rfl Try.func81 (spec_l01Pick.calls (w:=_) (g:=g821) (w0:=w) (hI:=iA HI821) (hB:=blI) (hr1:=cR (Kd.R_reads' HO834.out).2.2) (hc1:=(Kd.R_reads' HO834.out).2.1) (hf1:=far_slice (IsS116.own_ne HI821.out HO834.out (by decide))) (h:=A4.out)) ?_;rintro w27 ⟨hi,hb,hk⟩;have n0_:=kbk hk BK816 NB816_821;have n1_:=kbk hk BK817 NB817_821;have n2_:=kbk hk BK830 NB830_821;have n3_:=kbk hk BK831 NB831_821;have n4_:=Aside0.mk (Kd.R_mono (Kd.R_keep (IsS116.apart (show IsS116 w _ g821 t818 t819 t820 from iA HI821) (rA HO834) (by decide)) hk (fun _ h=>h.2)) (fun _ h=>h.1));have n5_:=Aside0.mk hb;have n6_:=Aside0.mk hi;clear BK816;clear BK817;clear BK830;clear BK831;clear HO834;clear HB;clear HI821;have BK816:=n0_;have BK817:=n1_;have BK830:=n2_;have BK831:=n3_;have HO834:=n4_;have HB:=n5_;have HI821:=n6_;clear n0_ n1_ n2_ n3_ n4_ n5_ n6_;clear hi hb hk)|((with_reducible refine gd 27 rfl ?_);refine gC (some 27) rfl Try.func82 (spec_l01Next.calls (w:=_) (g:=g821) (w0:=w) (hI:=iA HI821) (hB:=blI) (h:=A7.out)) ?_;rintro w28 ⟨hi,hb,hk⟩;have n0_:=kbk hk BK816 NB816_821;have n1_:=kbk hk BK817 NB817_821;have n2_:=kbk hk BK830 NB830_821;have n3_:=kbk hk BK831 NB831_821;have n4_:=Aside0.mk (Kd.R_mono (Kd.R_keep (IsS116.apart (show IsS116 w _ g821 t818 t836 t837 from iA HI821) (rA HO834) (by decide)) hk (fun _ h=>h.2)) (fun _ h=>h.1));have n5_:=Aside0.mk hb;have n6_:=Aside0.mk hi;clear BK816;clear BK817;clear BK830;clear BK831;clear HO834;clear HB;clear HI821;have BK816:=n0_;have BK817:=n1_;have BK830:=n2_;have BK831:=n3_;have HO834:=n4_;have HB:=n5_;have HI821:=n6_;clear n0_ n1_ n2_ n3_ n4_ n5_ n6_;clear hi hb hk;obtain ⟨hcz29_0,hcz29_1,hcz29_2,hfz29_0,hfz29_1,hfz29_2⟩:=cz3 BK831))
   have n0_:Aside0 (Kd.R (Kd.int .i64) 2 (((w28.setCell ⟨gb831,0,none⟩ (.int .i64 0)).setCell ⟨gb831,1,none⟩ (.int .i64 0)).setCell ⟨gb831,2,none⟩ (.int .i64 0)) w.heap.size (fun _=>True) (.slice Ao26 y832.length co26) y832):=⟨by (with_reducible repeat (first|apply Kd.R_alloc|apply Kd.R_drewN|apply Kd.R_drew));exact Kd.R_mono (Kd.R_far (p:=⟨gb831,2,none⟩) (Kd.R_far (p:=⟨gb831,1,none⟩) (Kd.R_far (p:=⟨gb831,0,none⟩) (Kd.R_types HO834.out BK831.out (by decide)) (fun _ hk=>hk.2) (.int .i64 0)) (fun _ hk=>hk.2) (.int .i64 0)) (fun _ hk=>hk.2) (.int .i64 0)) (fun _ hk=>trivial)⟩
   have n1_:Aside0 ((((w28.setCell ⟨gb831,0,none⟩ (.int .i64 0)).setCell ⟨gb831,1,none⟩ (.int .i64 0)).setCell ⟨gb831,2,none⟩ (.int .i64 0)).heap[gb816]?=some (.cells #[.int .i64 0,.int .i64 0,.int .i64 0,.int .i64 0] 26 (0,0))):=⟨bkF BK816⟩
   have n2_:Aside0 ((((w28.setCell ⟨gb831,0,none⟩ (.int .i64 0)).setCell ⟨gb831,1,none⟩ (.int .i64 0)).setCell ⟨gb831,2,none⟩ (.int .i64 0)).heap[gb817]?=some (.cells #[.int .i64 0,.int .i64 0,.int .i64 0] 28 (0,0))):=⟨bkF BK817⟩
   have n3_:Aside0 ((((w28.setCell ⟨gb831,0,none⟩ (.int .i64 0)).setCell ⟨gb831,1,none⟩ (.int .i64 0)).setCell ⟨gb831,2,none⟩ (.int .i64 0)).heap[gb830]?=some (.cells #[.int .i64 t823,.int .i64 t824,.int .i64 t825,.int .i64 t826] 26 (0,0))):=⟨bkF BK830⟩
   have n4_:Aside0 ((((w28.setCell ⟨gb831,0,none⟩ (.int .i64 0)).setCell ⟨gb831,1,none⟩ (.int .i64 0)).setCell ⟨gb831,2,none⟩ (.int .i64 0)).heap[gb831]?=some (.cells #[.int .i64 0,.int .i64 0,.int .i64 0] 28 (0,0))):=⟨bpA BK831⟩
   have n5_:Aside0 (IsS116 w (((w28.setCell ⟨gb831,0,none⟩ (.int .i64 0)).setCell ⟨gb831,1,none⟩ (.int .i64 0)).setCell ⟨gb831,2,none⟩ (.int .i64 0)) g821 t818 t839 t840):=⟨iA HI821⟩
   have n6_:Aside0 (Below w.heap.size w (((w28.setCell ⟨gb831,0,none⟩ (.int .i64 0)).setCell ⟨gb831,1,none⟩ (.int .i64 0)).setCell ⟨gb831,2,none⟩ (.int .i64 0))):=⟨blI⟩
   (try clear HO834)
   (try clear BK816)
   (try clear BK817)
   (try clear BK830)
   (try clear BK831)
   (try clear HI821)
   (try clear HB)
   generalize (((w28.setCell ⟨gb831,0,none⟩ (.int .i64 0)).setCell ⟨gb831,1,none⟩ (.int .i64 0)).setCell ⟨gb831,2,none⟩ (.int .i64 0))=w30 at n0_ n1_ n2_ n3_ n4_ n5_ n6_ ⊢
   have HO834:=n0_
   have BK816:=n1_
   have BK817:=n2_
   have BK830:=n3_
   have BK831:=n4_
   have HI821:=n5_
   have HB:=n6_
   clear n0_ n1_ n2_ n3_ n4_ n5_ n6_
   have n0_:=Aside0.mk (Kd.R_drew HO834.out)
   have n1_:=Aside0.mk (blk_drew BK816.out)
   have n2_:=Aside0.mk (blk_drew BK817.out)
   have n3_:=Aside0.mk (blk_drew BK830.out)
   have n4_:=Aside0.mk (blk_drew BK831.out)
   have n5_:=Aside0.mk (IsS116.drew HI821.out)
   have n6_:=Aside0.mk (below_drew1 HB.out)
   clear HO834
   clear BK816
   clear BK817
   clear BK830
   clear BK831
   clear HI821
   clear HB
   have HO834:=n0_
   have BK816:=n1_
   have BK817:=n2_
   have BK830:=n3_
   have BK831:=n4_
   have HI821:=n5_
   have HB:=n6_
   clear n0_ n1_ n2_ n3_ n4_ n5_ n6_
   refine start_ (n:=8) (S:=fun w'=>w'.cell? ⟨gb830,0,none⟩=some (.int .i64 t823)∧w'.cell? ⟨gb830,1,none⟩=some (.int .i64 t824)∧w'.cell? ⟨gb830,2,none⟩=some (.int .i64 t825)∧w'.cell? ⟨gb830,3,none⟩=some (.int .i64 t826)∧w'.cell? ⟨gb831,0,none⟩=some (.int .i64 0)∧w'.cell? ⟨gb831,1,none⟩=some (.int .i64 0)∧w'.cell? ⟨gb831,2,none⟩=some (.int .i64 0)) (ds:=[]) #[Z,Z,Z,Z,Z,Z,Z,Z] (by kernel_rfl) rfl rfl ⟨cA BK830 0,cA BK830 1,cA BK830 2,cA BK830 3,cA BK831 0,cA BK831 1,cA BK831 2⟩ (fun hHeld=>?_);refine with_tabW spec_DrawFixedBalls.tab8 spec_DrawFixedBalls.bits8 (fun HT_ HW_=>?_)
   generalize w30.drew=w31 at HO834 BK816 BK817 BK830 BK831 HI821 HB hHeld ⊢
   refine puA (i:=0) (N:=some 30) #[Y,Z,Z,Z,Z,Z,Z,Z] rfl rfl HT_ ?_
   refine puA (i:=3) (N:=some 33) #[Y,Z,Z,Y,Z,Z,Z,Z] rfl rfl HT_ ?_
   refine puA (i:=4) (N:=some 2) #[Y,Z,Z,Y,Y,Z,Z,Z] rfl rfl HT_ ?_
   refine taA (i:=1) (N:=some 31) #[Y,Y,Z,Y,Y,Z,Z,Z] rfl rfl HT_ HW_ hHeld ?_
   refine taA (i:=2) (N:=some 32) #[Y,Y,Y,Y,Y,Z,Z,Z] rfl rfl HT_ HW_ hHeld ?_
   refine one_ (i:=5) (N:=none) #[Y,Y,Y,Y,Y,Y,Z,Z] rfl rfl (one_of HT_.out (by kernel_rfl)) (by decide) (fun K hK=>?_)
   have hs32:w31.cell? ⟨gb816,0,none⟩=some (.int .i64 0):=cA BK816 0
   have hfs32:=blk_frozen BK816.out 0
   have hns32_1:=NB817_816.out
   have hns32_2:=NB830_816.out
   have hns32_3:=NB831_816.out
   have hms32_1:=NB816_817.out
   have hms32_2:=NB816_830.out
   have hms32_3:=NB816_831.out
   have hs33:w31.cell? ⟨gb816,1,none⟩=some (.int .i64 0):=cA BK816 1
   have hfs33:=blk_frozen BK816.out 1
   have hns33_1:=NB817_816.out
   have hns33_2:=NB830_816.out
   have hns33_3:=NB831_816.out
   have hms33_1:=NB816_817.out
   have hms33_2:=NB816_830.out
   have hms33_3:=NB816_831.out
   have hs34:w31.cell? ⟨gb816,2,none⟩=some (.int .i64 0):=cA BK816 2
   have hfs34:=blk_frozen BK816.out 2
   have hns34_1:=NB817_816.out
   have hns34_2:=NB830_816.out
   have hns34_3:=NB831_816.out
   have hms34_1:=NB816_817.out
   have hms34_2:=NB816_830.out
   have hms34_3:=NB816_831.out
   have hs35:w31.cell? ⟨gb816,3,none⟩=some (.int .i64 0):=cA BK816 3
   have hfs35:=blk_frozen BK816.out 3
   have hns35_1:=NB817_816.out
   have hns35_2:=NB830_816.out
   have hns35_3:=NB831_816.out
   have hms35_1:=NB816_817.out
   have hms35_2:=NB816_830.out
   have hms35_3:=NB816_831.out
   refine skip_ (w1:=?_) (by rfl) rfl ?_ ?_
   rotate_left
   ·
    go_simp
    rfl
   refine hK.out _ _ ⟨cfE hHeld.1,cfE hHeld.2.1,cfE hHeld.2.2.1,cfE hHeld.2.2.2.1,cfE hHeld.2.2.2.2.1,cfE hHeld.2.2.2.2.2.1,cfE hHeld.2.2.2.2.2.2⟩ (fun hHeld=>?_)
   clear hK K
   refine one_ (i:=6) (N:=none) #[Y,Y,Y,Y,Y,Y,Y,Z] rfl rfl (one_of HT_.out (by kernel_rfl)) (by decide) (fun K hK=>?_)
   have hs36:w31.cell? ⟨gb817,0,none⟩=some (.int .i64 0):=cA BK817 0
   have hfs36:=blk_frozen BK817.out 0
   have hns36_0:=NB816_817.out
   have hns36_2:=NB830_817.out
   have hns36_3:=NB831_817.out
   have hms36_0:=NB817_816.out
   have hms36_2:=NB817_830.out
   have hms36_3:=NB817_831.out
   have hs37:w31.cell? ⟨gb817,1,none⟩=some (.int .i64 0):=cA BK817 1
   have hfs37:=blk_frozen BK817.out 1
   have hns37_0:=NB816_817.out
   have hns37_2:=NB830_817.out
   have hns37_3:=NB831_817.out
   have hms37_0:=NB817_816.out
   have hms37_2:=NB817_830.out
   have hms37_3:=NB817_831.out
   have hs38:w31.cell? ⟨gb817,2,none⟩=some (.int .i64 0):=cA BK817 2
   have hfs38:=blk_frozen BK817.out 2
   have hns38_0:=NB816_817.out
   have hns38_2:=NB830_817.out
   have hns38_3:=NB831_817.out
   have hms38_0:=NB817_816.out
   have hms38_2:=NB817_830.out
   have hms38_3:=NB817_831.out
   refine skip_ (w1:=?_) (by rfl) rfl ?_ ?_
   rotate_left
   ·
    go_simp
    rfl
   refine hK.out _ _ ⟨cfE hHeld.1,cfE hHeld.2.1,cfE hHeld.2.2.1,cfE hHeld.2.2.2.1,cfE hHeld.2.2.2.2.1,cfE hHeld.2.2.2.2.2.1,cfE hHeld.2.2.2.2.2.2⟩ (fun hHeld=>?_)
   clear hK K
   refine puA (i:=7) (N:=some 5) #[Y,Y,Y,Y,Y,Y,Y,Y] rfl rfl HT_ ?_
   refine done_ (done_of HT_.out (by kernel_rfl)) ?_
   try go_wp2
   refine bodyPost_ret (results_list (rs:=[.tmp 2,.cell 3 26,.cell 4 28,.tmp 5]) rfl (by simp) (.tmp (.cell gb816 26 #[.int .i64 t823,.int .i64 t824,.int .i64 t825,.int .i64 t826] (0,0) _ rfl (bpA BK816) Try.underlying26 rfl (by kernel_rfl) (.cell gb817 28 #[.int .i64 0,.int .i64 0,.int .i64 0] (0,0) _ rfl (bpA BK817) Try.underlying28 rfl (by kernel_rfl) (.tmp .nil))))) rfl ?_
   exact ⟨by first|rfl|(simp [errW_none,errW_some] <;> rfl)|(simp only [← hji6];first|rfl|(simp [errW_none,errW_some] <;> rfl))|(simp [*,errW_none,errW_some] <;> rfl),blI⟩
  ·
   rw [if_neg c8] at H
   have c8b0:(t838 == 0)=false:=beq_eq_false_iff_ne.mpr c8
   have c8b1:(t838 != 0)=true:=bne_iff_ne.mpr c8
   simp only [Option.some.injEq,Prod.mk.injEq] at H
   obtain ⟨rfl,rfl,rfl,rfl,rfl,rfl,rfl,rfl,rfl⟩:=H
   go_enter Try.func35,Try.ntmps35
   try go_wp2_with (first|((with_reducible refine gate_dst (N:=3) rfl ?_);refine bxE (cs:=#[.int .i64 0,.int .i64 0,.int .i64 0,.int .i64 0]) (t:=26) ?_;intro gb816 hg w39 hbox hb;have n0_:=lB hb;have n1_:=Aside0.mk hbox;have n2_:=sA hg;have n3_:=sA hg;clear HB;have HB:=n0_;have BK816:=n1_;have GW816:=n2_;have GE816:=n3_;clear n0_ n1_ n2_ n3_;clear hb hbox hg)|((with_reducible refine gate_dst (N:=4) rfl ?_);refine bxE (cs:=#[.int .i64 0,.int .i64 0,.int .i64 0]) (t:=28) ?_;intro gb817 hg w40 hbox hb;have n0_:=kB BK816 hb;have n1_:=lB hb;have n2_:=Aside0.mk hbox;have n3_:=sA hg;have n4_:=sA hg;have n5_:=nA hg BK816;have n6_:=nB hg BK816;clear BK816;clear HB;have BK816:=n0_;have HB:=n1_;have BK817:=n2_;have GW817:=n3_;have GE817:=n4_;have NB816_817:=n5_;have NB817_816:=n6_;clear n0_ n1_ n2_ n3_ n4_ n5_ n6_;clear hb hbox hg)|((with_reducible refine gate_callee (f:=47) rfl ?_);refine gL (some 12) rfl Try.func47 #[.slice A0 l0.length c0] ?_;(with_reducible refine (spec_l01From.calls k _ _ l0 t818 t819 t820 w _ ?side1 ?side2 ?side3 A2.out).mono ?_);(case side1=>exact blI);(case side2=>exact HR0.out);(case side3=>exact HC0.out);rintro e w41 ⟨g821,rfl,hi,hb,hb2⟩;refine ⟨_,rfl,?_⟩;have n0_:=kB BK816 hb2;have n1_:=kB BK817 hb2;have n2_:=Aside0.mk hb;have n3_:=Aside0.mk hi;have n4_:=Aside0.mk (IsS116.ne_blk hi (blk_below (bkA BK816) hb2) (by decide));have n5_:=Aside0.mk (Ne.symm (IsS116.ne_blk hi (blk_below (bkA BK816) hb2) (by decide)));have n6_:=Aside0.mk (IsS116.ne_blk hi (blk_below (bkA BK817) hb2) (by decide));have n7_:=Aside0.mk (Ne.symm (IsS116.ne_blk hi (blk_below (bkA BK817) hb2) (by decide)));clear BK816;clear BK817;clear HB;have BK816:=n0_;have BK817:=n1_;have HB:=n2_;have HI821:=n3_;have NB821_816:=n4_;have NB816_821:=n5_;have NB821_817:=n6_;have NB817_821:=n7_;clear n0_ n1_ n2_ n3_ n4_ n5_ n6_ n7_;clear hi hb hb2)|((with_reducible refine gd 15 rfl ?_);refine gC (some 15) rfl Try.func41 (spec_l04With.calls (w:=_) (hr0:=cR (Kd.C_below HR0.out HB.out)) (hc0:=HC0.out) (h:=A3.out)) ?_;intro w42 hb;have n0_:=kB BK816 hb;have n1_:=kB BK817 hb;have n2_:=Aside0.mk (IsS116.below (iA HI821) hb);have n3_:=lI hb;clear BK816;clear BK817;clear HI821;clear HB;have BK816:=n0_;have BK817:=n1_;have HI821:=n2_;have HB:=n3_;clear n0_ n1_ n2_ n3_;clear hb)|((with_reducible refine gate_dst (N:=8) rfl ?_);refine bxE (cs:=#[.int .i64 0,.int .i64 0,.int .i64 0,.int .i64 0]) (t:=26) ?_;intro gb830 hg w43 hbox hb;have n0_:=kB BK816 hb;have n1_:=kB BK817 hb;have n2_:=Aside0.mk (IsS116.below (iA HI821) hb);have n3_:=lI hb;have n4_:=Aside0.mk hbox;have n5_:=sI hg;have n6_:=sI hg;have n7_:=nA hg BK816;have n8_:=nB hg BK816;have n9_:=nA hg BK817;have n10_:=nB hg BK817;have n11_:=inA hg (IsS116.lt (iA HI821));have n12_:=inB hg (IsS116.lt (iA HI821));clear BK816;clear BK817;clear HI821;clear HB;have BK816:=n0_;have BK817:=n1_;have HI821:=n2_;have HB:=n3_;have BK830:=n4_;have GW830:=n5_;have GE830:=n6_;have NB816_830:=n7_;have NB830_816:=n8_;have NB817_830:=n9_;have NB830_817:=n10_;have NB821_830:=n11_;have NB830_821:=n12_;clear n0_ n1_ n2_ n3_ n4_ n5_ n6_ n7_ n8_ n9_ n10_ n11_ n12_;clear hb hbox hg)|((with_reducible refine gate_dst (N:=9) rfl ?_);refine bxE (cs:=#[.int .i64 0,.int .i64 0,.int .i64 0]) (t:=28) ?_;intro gb831 hg w44 hbox hb;have n0_:=kB BK816 hb;have n1_:=kB BK817 hb;have n2_:=Aside0.mk (IsS116.below (iA HI821) hb);have n3_:=kB BK830 hb;have n4_:=lI hb;have n5_:=Aside0.mk hbox;have n6_:=sI hg;have n7_:=sI hg;have n8_:=nA hg BK816;have n9_:=nB hg BK816;have n10_:=nA hg BK817;have n11_:=nB hg BK817;have n12_:=nA hg BK830;have n13_:=nB hg BK830;have n14_:=inA hg (IsS116.lt (iA HI821));have n15_:=inB hg (IsS116.lt (iA HI821));clear BK816;clear BK817;clear HI821;clear BK830;clear HB;have BK816:=n0_;have BK817:=n1_;have HI821:=n2_;have BK830:=n3_;have HB:=n4_;have BK831:=n5_;have GW831:=n6_;have GE831:=n7_;have NB816_831:=n8_;have NB831_816:=n9_;have NB817_831:=n10_;have NB831_817:=n11_;have NB830_831:=n12_;have NB831_830:=n13_;have NB821_831:=n14_;have NB831_821:=n15_;clear n0_ n1_ n2_ n3_ n4_ n5_ n6_ n7_ n8_ n9_ n10_ n11_ n12_ n13_ n14_ n15_;clear hb hbox hg;have hnb45:=NB830_816.out;have hnc45:=NB816_830.out;have hnb46:=NB830_817.out;have hnc46:=NB817_830.out;have hnb47:=NB830_831.out;have hnc47:=NB831_830.out;have hnb48:=NB830_821.out;have hnc48:=NB821_830.out;obtain ⟨hcz49_0,hcz49_1,hcz49_2,hcz49_3,hfz49_0,hfz49_1,hfz49_2,hfz49_3⟩:=cz4 BK830;have hnb50:=NB831_816.out;have hnc50:=NB816_831.out;have hnb51:=NB831_817.out;have hnc51:=NB817_831.out;have hnb52:=NB831_821.out;have hnc52:=NB821_831.out;obtain ⟨hcz53_0,hcz53_1,hcz53_2,hfz53_0,hfz53_1,hfz53_2⟩:=cz3 BK831)|((with_reducible refine gate_dst (N:=20) rfl ?_);refine Kd.R_lit (Kd.int .i64) _ 2 ?hg (N:=20) ?hd (xs:=([0,1,1,2,2,3,4]:List Int)) (inner:=[.int .i64 0,.int .i64 1,.int .i64 1,.int .i64 2,.int .i64 2,.int .i64 3,.int .i64 4]) (ok:=fun _=>True) (okp:=fun _=>True) ?hr ?hp (fun _ hk=>hk) trivial (Below.refl _ _) (Nat.le_refl _) (by simp) ?_;(case hd=>rfl);(case hg=>rfl);(case hr=>first|(go_simp;done)|(go_simp;rfl));(case hp=>exact (Reps.one (show Kd.M (Kd.int .i64) _ _ _ 0 [.int .i64 0] from rfl) (Reps.one (show Kd.M (Kd.int .i64) _ _ _ 1 [.int .i64 1] from rfl) (Reps.one (show Kd.M (Kd.int .i64) _ _ _ 1 [.int .i64 1] from rfl) (Reps.one (show Kd.M (Kd.int .i64) _ _ _ 2 [.int .i64 2] from rfl) (Reps.one (show Kd.M (Kd.int .i64) _ _ _ 2 [.int .i64 2] from rfl) (Reps.one (show Kd.M (Kd.int .i64) _ _ _ 3 [.int .i64 3] from rfl) (Reps.one (show Kd.M (Kd.int .i64) _ _ _ 4 [.int .i64 4] from rfl) (Reps.none _ _)))))))));intro v833 w54 ho55 hb hg_ hnew_;clear hg_ hnew_;(first|rw [← Ny832.out] at ho55|(simp only [Int.reduceToNat] at ho55;rw [← Ny832.out] at ho55));have n0_:=Aside0.mk (Kd.R_lower ho55 (below_size blI));have n1_:=Aside0.mk (blk_below (g:=gb816) (o:=.cells #[.int .i64 0,.int .i64 0,.int .i64 0,.int .i64 0] 26 (0,0)) (bkF BK816) hb);have n2_:=Aside0.mk (blk_below (g:=gb817) (o:=.cells #[.int .i64 0,.int .i64 0,.int .i64 0] 28 (0,0)) (bkF BK817) hb);have n3_:=Aside0.mk (IsS116.below (show IsS116 w (((((((w44.setCell ⟨gb830,0,none⟩ (.int .i64 t823)).setCell ⟨gb830,1,none⟩ (.int .i64 t824)).setCell ⟨gb830,2,none⟩ (.int .i64 t825)).setCell ⟨gb830,3,none⟩ (.int .i64 t826)).setCell ⟨gb831,0,none⟩ (.int .i64 t827)).setCell ⟨gb831,1,none⟩ (.int .i64 t828)).setCell ⟨gb831,2,none⟩ (.int .i64 t829)) g821 t818 t819 t820 from iA HI821) hb);have n4_:=Aside0.mk (blk_below (g:=gb830) (o:=.cells #[.int .i64 t823,.int .i64 t824,.int .i64 t825,.int .i64 t826] 26 (0,0)) (bpA BK830) hb);have n5_:=Aside0.mk (blk_below (g:=gb831) (o:=.cells #[.int .i64 t827,.int .i64 t828,.int .i64 t829] 28 (0,0)) (bpA BK831) hb);have n6_:=lI hb;clear BK816;clear BK817;clear HI821;clear BK830;clear BK831;clear HB;have HO834:=n0_;have BK816:=n1_;have BK817:=n2_;have HI821:=n3_;have BK830:=n4_;have BK831:=n5_;have HB:=n6_;clear n0_ n1_ n2_ n3_ n4_ n5_ n6_;clear hb ho55;obtain ⟨Ao56,co56,eo56⟩:=Kd.R_slice HO834.out;subst eo56)|((with_reducible refine gd 21 rfl ?_);refine gC (some 21) rfl Try.func81 (spec_l01Pick.calls (w:=_) (g:=g821) (w0:=w) (hI:=iA HI821) (hB:=blI) (hr1:=cR (Kd.R_reads' HO834.out).2.2) (hc1:=(Kd.R_reads' HO834.out).2.1) (hf1:=far_slice (IsS116.own_ne HI821.out HO834.out (by decide))) (h:=A4.out)) ?_;rintro w57 ⟨hi,hb,hk⟩;have n0_:=kbk hk BK816 NB816_821;have n1_:=kbk hk BK817 NB817_821;have n2_:=kbk hk BK830 NB830_821;have n3_:=kbk hk BK831 NB831_821;have n4_:=Aside0.mk (Kd.R_mono (Kd.R_keep (IsS116.apart (show IsS116 w _ g821 t818 t819 t820 from iA HI821) (rA HO834) (by decide)) hk (fun _ h=>h.2)) (fun _ h=>h.1));have n5_:=Aside0.mk hb;have n6_:=Aside0.mk hi;clear BK816;clear BK817;clear BK830;clear BK831;clear HO834;clear HB;clear HI821;have BK816:=n0_;have BK817:=n1_;have BK830:=n2_;have BK831:=n3_;have HO834:=n4_;have HB:=n5_;have HI821:=n6_;clear n0_ n1_ n2_ n3_ n4_ n5_ n6_;clear hi hb hk)|((with_reducible refine gd 27 rfl ?_);refine gC (some 27) rfl Try.func82 (spec_l01Next.calls (w:=_) (g:=g821) (w0:=w) (hI:=iA HI821) (hB:=blI) (h:=A7.out)) ?_;rintro w58 ⟨hi,hb,hk⟩;have n0_:=kbk hk BK816 NB816_821;have n1_:=kbk hk BK817 NB817_821;have n2_:=kbk hk BK830 NB830_821;have n3_:=kbk hk BK831 NB831_821;have n4_:=Aside0.mk (Kd.R_mono (Kd.R_keep (IsS116.apart (show IsS116 w _ g821 t818 t836 t837 from iA HI821) (rA HO834) (by decide)) hk (fun _ h=>h.2)) (fun _ h=>h.1));have n5_:=Aside0.mk hb;have n6_:=Aside0.mk hi;clear BK816;clear BK817;clear BK830;clear BK831;clear HO834;clear HB;clear HI821;have BK816:=n0_;have BK817:=n1_;have BK830:=n2_;have BK831:=n3_;have HO834:=n4_;have HB:=n5_;have HI821:=n6_;clear n0_ n1_ n2_ n3_ n4_ n5_ n6_;clear hi hb hk))
   have n0_:=Aside0.mk (Kd.R_drew HO834.out)
   have n1_:=Aside0.mk (blk_drew BK816.out)
   have n2_:=Aside0.mk (blk_drew BK817.out)
   have n3_:=Aside0.mk (blk_drew BK830.out)
   have n4_:=Aside0.mk (blk_drew BK831.out)
   have n5_:=Aside0.mk (IsS116.drew HI821.out)
   have n6_:=Aside0.mk (below_drew1 HB.out)
   clear HO834
   clear BK816
   clear BK817
   clear BK830
   clear BK831
   clear HI821
   clear HB
   have HO834:=n0_
   have BK816:=n1_
   have BK817:=n2_
   have BK830:=n3_
   have BK831:=n4_
   have HI821:=n5_
   have HB:=n6_
   clear n0_ n1_ n2_ n3_ n4_ n5_ n6_
   refine start_ (n:=8) (S:=fun w'=>w'.cell? ⟨gb830,0,none⟩=some (.int .i64 t823)∧w'.cell? ⟨gb830,1,none⟩=some (.int .i64 t824)∧w'.cell? ⟨gb830,2,none⟩=some (.int .i64 t825)∧w'.cell? ⟨gb830,3,none⟩=some (.int .i64 t826)∧w'.cell? ⟨gb831,0,none⟩=some (.int .i64 t827)∧w'.cell? ⟨gb831,1,none⟩=some (.int .i64 t828)∧w'.cell? ⟨gb831,2,none⟩=some (.int .i64 t829)) (ds:=[]) #[Z,Z,Z,Z,Z,Z,Z,Z] (by kernel_rfl) rfl rfl ⟨cA BK830 0,cA BK830 1,cA BK830 2,cA BK830 3,cA BK831 0,cA BK831 1,cA BK831 2⟩ (fun hHeld=>?_);refine with_tabW spec_DrawFixedBalls.tab8 spec_DrawFixedBalls.bits8 (fun HT_ HW_=>?_)
   generalize w58.drew=w59 at HO834 BK816 BK817 BK830 BK831 HI821 HB hHeld ⊢
   refine puA (i:=0) (N:=some 30) #[Y,Z,Z,Z,Z,Z,Z,Z] rfl rfl HT_ ?_
   refine puA (i:=3) (N:=some 33) #[Y,Z,Z,Y,Z,Z,Z,Z] rfl rfl HT_ ?_
   refine puA (i:=4) (N:=some 2) #[Y,Z,Z,Y,Y,Z,Z,Z] rfl rfl HT_ ?_
   refine taA (i:=1) (N:=some 31) #[Y,Y,Z,Y,Y,Z,Z,Z] rfl rfl HT_ HW_ hHeld ?_
   refine taA (i:=2) (N:=some 32) #[Y,Y,Y,Y,Y,Z,Z,Z] rfl rfl HT_ HW_ hHeld ?_
   refine one_ (i:=5) (N:=none) #[Y,Y,Y,Y,Y,Y,Z,Z] rfl rfl (one_of HT_.out (by kernel_rfl)) (by decide) (fun K hK=>?_)
   have hs60:w59.cell? ⟨gb816,0,none⟩=some (.int .i64 0):=cA BK816 0
   have hfs60:=blk_frozen BK816.out 0
   have hns60_1:=NB817_816.out
   have hns60_2:=NB830_816.out
   have hns60_3:=NB831_816.out
   have hms60_1:=NB816_817.out
   have hms60_2:=NB816_830.out
   have hms60_3:=NB816_831.out
   have hs61:w59.cell? ⟨gb816,1,none⟩=some (.int .i64 0):=cA BK816 1
   have hfs61:=blk_frozen BK816.out 1
   have hns61_1:=NB817_816.out
   have hns61_2:=NB830_816.out
   have hns61_3:=NB831_816.out
   have hms61_1:=NB816_817.out
   have hms61_2:=NB816_830.out
   have hms61_3:=NB816_831.out
   have hs62:w59.cell? ⟨gb816,2,none⟩=some (.int .i64 0):=cA BK816 2
   have hfs62:=blk_frozen BK816.out 2
   have hns62_1:=NB817_816.out
   have hns62_2:=NB830_816.out
   have hns62_3:=NB831_816.out
   have hms62_1:=NB816_817.out
   have hms62_2:=NB816_830.out
   have hms62_3:=NB816_831.out
   have hs63:w59.cell? ⟨gb816,3,none⟩=some (.int .i64 0):=cA BK816 3
   have hfs63:=blk_frozen BK816.out 3
   have hns63_1:=NB817_816.out
   have hns63_2:=NB830_816.out
   have hns63_3:=NB831_816.out
   have hms63_1:=NB816_817.out
   have hms63_2:=NB816_830.out
   have hms63_3:=NB816_831.out
   refine skip_ (w1:=?_) (by rfl) rfl ?_ ?_
   rotate_left
   ·
    go_simp
    rfl
   refine hK.out _ _ ⟨cfE hHeld.1,cfE hHeld.2.1,cfE hHeld.2.2.1,cfE hHeld.2.2.2.1,cfE hHeld.2.2.2.2.1,cfE hHeld.2.2.2.2.2.1,cfE hHeld.2.2.2.2.2.2⟩ (fun hHeld=>?_)
   clear hK K
   refine one_ (i:=6) (N:=none) #[Y,Y,Y,Y,Y,Y,Y,Z] rfl rfl (one_of HT_.out (by kernel_rfl)) (by decide) (fun K hK=>?_)
   have hs64:w59.cell? ⟨gb817,0,none⟩=some (.int .i64 0):=cA BK817 0
   have hfs64:=blk_frozen BK817.out 0
   have hns64_0:=NB816_817.out
   have hns64_2:=NB830_817.out
   have hns64_3:=NB831_817.out
   have hms64_0:=NB817_816.out
   have hms64_2:=NB817_830.out
   have hms64_3:=NB817_831.out
   have hs65:w59.cell? ⟨gb817,1,none⟩=some (.int .i64 0):=cA BK817 1
   have hfs65:=blk_frozen BK817.out 1
   have hns65_0:=NB816_817.out
   have hns65_2:=NB830_817.out
   have hns65_3:=NB831_817.out
   have hms65_0:=NB817_816.out
   have hms65_2:=NB817_830.out
   have hms65_3:=NB817_831.out
   have hs66:w59.cell? ⟨gb817,2,none⟩=some (.int .i64 0):=cA BK817 2
   have hfs66:=blk_frozen BK817.out 2
   have hns66_0:=NB816_817.out
   have hns66_2:=NB830_817.out
   have hns66_3:=NB831_817.out
   have hms66_0:=NB817_816.out
   have hms66_2:=NB817_830.out
   have hms66_3:=NB817_831.out
   refine skip_ (w1:=?_) (by rfl) rfl ?_ ?_
   rotate_left
   ·
    go_simp
    rfl
   refine hK.out _ _ ⟨cfE hHeld.1,cfE hHeld.2.1,cfE hHeld.2.2.1,cfE hHeld.2.2.2.1,cfE hHeld.2.2.2.2.1,cfE hHeld.2.2.2.2.2.1,cfE hHeld.2.2.2.2.2.2⟩ (fun hHeld=>?_)
   clear hK K
   refine puA (i:=7) (N:=some 5) #[Y,Y,Y,Y,Y,Y,Y,Y] rfl rfl HT_ ?_
   refine done_ (done_of HT_.out (by kernel_rfl)) ?_
   try go_wp2
   refine bodyPost_ret (results_list (rs:=[.tmp 2,.cell 3 26,.cell 4 28,.tmp 5]) rfl (by simp) (.tmp (.cell gb816 26 #[.int .i64 t823,.int .i64 t824,.int .i64 t825,.int .i64 t826] (0,0) _ rfl (bpA BK816) Try.underlying26 rfl (by kernel_rfl) (.cell gb817 28 #[.int .i64 t827,.int .i64 t828,.int .i64 t829] (0,0) _ rfl (bpA BK817) Try.underlying28 rfl (by kernel_rfl) (.tmp .nil))))) rfl ?_
   exact ⟨by first|rfl|(simp [errW_none,errW_some] <;> rfl)|(simp only [← hji6];first|rfl|(simp [errW_none,errW_some] <;> rfl))|(simp [*,errW_none,errW_some] <;> rfl),blI⟩
 ·
  rw [if_neg c5] at H
  have c5b0:decide (3<t822)=false:=decide_eq_false c5
  clear c5
  replace H:=bS H
  obtain ⟨⟨t841,t842,t843⟩,A67,H⟩:=H
  try dsimp only at H
  by_cases c68:t841=0
  ·
   rw [if_pos c68] at H
   have c68b0:(t841 == 0)=true:=beq_iff_eq.mpr c68
   have c68b1:(t841 != 0)=false:=bne_eq_false_iff_eq.mpr c68
   clear c68
   simp only [Option.some.injEq,Prod.mk.injEq] at H
   obtain ⟨rfl,rfl,rfl,rfl,rfl,rfl,rfl,rfl,rfl⟩:=H
   go_enter Try.func35,Try.ntmps35
   try go_wp2_with (first|((with_reducible refine gate_dst (N:=3) rfl ?_);refine bxE (cs:=#[.int .i64 0,.int .i64 0,.int .i64 0,.int .i64 0]) (t:=26) ?_;intro gb816 hg w69 hbox hb;have n0_:=lB hb;have n1_:=Aside0.mk hbox;have n2_:=sA hg;have n3_:=sA hg;clear HB;have HB:=n0_;have BK816:=n1_;have GW816:=n2_;have GE816:=n3_;clear n0_ n1_ n2_ n3_;clear hb hbox hg)|((with_reducible refine gate_dst (N:=4) rfl ?_);refine bxE (cs:=#[.int .i64 0,.int .i64 0,.int .i64 0]) (t:=28) ?_;intro gb817 hg w70 hbox hb;have n0_:=kB BK816 hb;have n1_:=lB hb;have n2_:=Aside0.mk hbox;have n3_:=sA hg;have n4_:=sA hg;have n5_:=nA hg BK816;have n6_:=nB hg BK816;clear BK816;clear HB;have BK816:=n0_;have HB:=n1_;have BK817:=n2_;have GW817:=n3_;have GE817:=n4_;have NB816_817:=n5_;have NB817_816:=n6_;clear n0_ n1_ n2_ n3_ n4_ n5_ n6_;clear hb hbox hg)|((with_reducible refine gate_callee (f:=47) rfl ?_);refine gL (some 12) rfl Try.func47 #[.slice A0 l0.length c0] ?_;(with_reducible refine (spec_l01From.calls k _ _ l0 t818 t819 t820 w _ ?side1 ?side2 ?side3 A2.out).mono ?_);(case side1=>exact blI);(case side2=>exact HR0.out);(case side3=>exact HC0.out);rintro e w71 ⟨g821,rfl,hi,hb,hb2⟩;refine ⟨_,rfl,?_⟩;have n0_:=kB BK816 hb2;have n1_:=kB BK817 hb2;have n2_:=Aside0.mk hb;have n3_:=Aside0.mk hi;have n4_:=Aside0.mk (IsS116.ne_blk hi (blk_below (bkA BK816) hb2) (by decide));have n5_:=Aside0.mk (Ne.symm (IsS116.ne_blk hi (blk_below (bkA BK816) hb2) (by decide)));have n6_:=Aside0.mk (IsS116.ne_blk hi (blk_below (bkA BK817) hb2) (by decide));have n7_:=Aside0.mk (Ne.symm (IsS116.ne_blk hi (blk_below (bkA BK817) hb2) (by decide)));clear BK816;clear BK817;clear HB;have BK816:=n0_;have BK817:=n1_;have HB:=n2_;have HI821:=n3_;have NB821_816:=n4_;have NB816_821:=n5_;have NB821_817:=n6_;have NB817_821:=n7_;clear n0_ n1_ n2_ n3_ n4_ n5_ n6_ n7_;clear hi hb hb2)|((with_reducible refine gd 15 rfl ?_);refine gC (some 15) rfl Try.func41 (spec_l04With.calls (w:=_) (hr0:=cR (Kd.C_below HR0.out HB.out)) (hc0:=HC0.out) (h:=A3.out)) ?_;intro w72 hb;have n0_:=kB BK816 hb;have n1_:=kB BK817 hb;have n2_:=Aside0.mk (IsS116.below (iA HI821) hb);have n3_:=lI hb;clear BK816;clear BK817;clear HI821;clear HB;have BK816:=n0_;have BK817:=n1_;have HI821:=n2_;have HB:=n3_;clear n0_ n1_ n2_ n3_;clear hb)|((with_reducible refine gate_dst (N:=8) rfl ?_);refine bxE (cs:=#[.int .i64 0,.int .i64 0,.int .i64 0,.int .i64 0]) (t:=26) ?_;intro gb830 hg w73 hbox hb;have n0_:=kB BK816 hb;have n1_:=kB BK817 hb;have n2_:=Aside0.mk (IsS116.below (iA HI821) hb);have n3_:=lI hb;have n4_:=Aside0.mk hbox;have n5_:=sI hg;have n6_:=sI hg;have n7_:=nA hg BK816;have n8_:=nB hg BK816;have n9_:=nA hg BK817;have n10_:=nB hg BK817;have n11_:=inA hg (IsS116.lt (iA HI821));have n12_:=inB hg (IsS116.lt (iA HI821));clear BK816;clear BK817;clear HI821;clear HB;have BK816:=n0_;have BK817:=n1_;have HI821:=n2_;have HB:=n3_;have BK830:=n4_;have GW830:=n5_;have GE830:=n6_;have NB816_830:=n7_;have NB830_816:=n8_;have NB817_830:=n9_;have NB830_817:=n10_;have NB821_830:=n11_;have NB830_821:=n12_;clear n0_ n1_ n2_ n3_ n4_ n5_ n6_ n7_ n8_ n9_ n10_ n11_ n12_;clear hb hbox hg)|((with_reducible refine gate_dst (N:=9) rfl ?_);refine bxE (cs:=#[.int .i64 0,.int .i64 0,.int .i64 0]) (t:=28) ?_;intro gb831 hg w74 hbox hb;have n0_:=kB BK816 hb;have n1_:=kB BK817 hb;have n2_:=Aside0.mk (IsS116.below (iA HI821) hb);have n3_:=kB BK830 hb;have n4_:=lI hb;have n5_:=Aside0.mk hbox;have n6_:=sI hg;have n7_:=sI hg;have n8_:=nA hg BK816;have n9_:=nB hg BK816;have n10_:=nA hg BK817;have n11_:=nB hg BK817;have n12_:=nA hg BK830;have n13_:=nB hg BK830;have n14_:=inA hg (IsS116.lt (iA HI821));have n15_:=inB hg (IsS116.lt (iA HI821));clear BK816;clear BK817;clear HI821;clear BK830;clear HB;have BK816:=n0_;have BK817:=n1_;have HI821:=n2_;have BK830:=n3_;have HB:=n4_;have BK831:=n5_;have GW831:=n6_;have GE831:=n7_;have NB816_831:=n8_;have NB831_816:=n9_;have NB817_831:=n10_;have NB831_817:=n11_;have NB830_831:=n12_;have NB831_830:=n13_;have NB821_831:=n14_;have NB831_821:=n15_;clear n0_ n1_ n2_ n3_ n4_ n5_ n6_ n7_ n8_ n9_ n10_ n11_ n12_ n13_ n14_ n15_;clear hb hbox hg;have hnb75:=NB830_816.out;have hnc75:=NB816_830.out;have hnb76:=NB830_817.out;have hnc76:=NB817_830.out;have hnb77:=NB830_831.out;have hnc77:=NB831_830.out;have hnb78:=NB830_821.out;have hnc78:=NB821_830.out;obtain ⟨hcz79_0,hcz79_1,hcz79_2,hcz79_3,hfz79_0,hfz79_1,hfz79_2,hfz79_3⟩:=cz4 BK830;have hnb80:=NB831_816.out;have hnc80:=NB816_831.out;have hnb81:=NB831_817.out;have hnc81:=NB817_831.out;have hnb82:=NB831_821.out;have hnc82:=NB821_831.out;obtain ⟨hcz83_0,hcz83_1,hcz83_2,hfz83_0,hfz83_1,hfz83_2⟩:=cz3 BK831)|((with_reducible refine gate_dst (N:=20) rfl ?_);refine Kd.R_lit (Kd.int .i64) _ 2 ?hg (N:=20) ?hd (xs:=([0,1,1,2,2,3,4]:List Int)) (inner:=[.int .i64 0,.int .i64 1,.int .i64 1,.int .i64 2,.int .i64 2,.int .i64 3,.int .i64 4]) (ok:=fun _=>True) (okp:=fun _=>True) ?hr ?hp (fun _ hk=>hk) trivial (Below.refl _ _) (Nat.le_refl _) (by simp) ?_;(case hd=>rfl);(case hg=>rfl);(case hr=>first|(go_simp;done)|(go_simp;rfl));(case hp=>exact (Reps.one (show Kd.M (Kd.int .i64) _ _ _ 0 [.int .i64 0] from rfl) (Reps.one (show Kd.M (Kd.int .i64) _ _ _ 1 [.int .i64 1] from rfl) (Reps.one (show Kd.M (Kd.int .i64) _ _ _ 1 [.int .i64 1] from rfl) (Reps.one (show Kd.M (Kd.int .i64) _ _ _ 2 [.int .i64 2] from rfl) (Reps.one (show Kd.M (Kd.int .i64) _ _ _ 2 [.int .i64 2] from rfl) (Reps.one (show Kd.M (Kd.int .i64) _ _ _ 3 [.int .i64 3] from rfl) (Reps.one (show Kd.M (Kd.int .i64) _ _ _ 4 [.int .i64 4] from rfl) (Reps.none _ _)))))))));intro v833 w84 ho85 hb hg_ hnew_;clear hg_ hnew_;(first|rw [← Ny832.out] at ho85|(simp only [Int.reduceToNat] at ho85;rw [← Ny832.out] at ho85));have n0_:=Aside0.mk (Kd.R_lower ho85 (below_size blI));have n1_:=Aside0.mk (blk_below (g:=gb816) (o:=.cells #[.int .i64 0,.int .i64 0,.int .i64 0,.int .i64 0] 26 (0,0)) (bkF BK816) hb);have n2_:=Aside0.mk (blk_below (g:=gb817) (o:=.cells #[.int .i64 0,.int .i64 0,.int .i64 0] 28 (0,0)) (bkF BK817) hb);have n3_:=Aside0.mk (IsS116.below (show IsS116 w (((((((w74.setCell ⟨gb830,0,none⟩ (.int .i64 t823)).setCell ⟨gb830,1,none⟩ (.int .i64 t824)).setCell ⟨gb830,2,none⟩ (.int .i64 t825)).setCell ⟨gb830,3,none⟩ (.int .i64 t826)).setCell ⟨gb831,0,none⟩ (.int .i64 t827)).setCell ⟨gb831,1,none⟩ (.int .i64 t828)).setCell ⟨gb831,2,none⟩ (.int .i64 t829)) g821 t818 t819 t820 from iA HI821) hb);have n4_:=Aside0.mk (blk_below (g:=gb830) (o:=.cells #[.int .i64 t823,.int .i64 t824,.int .i64 t825,.int .i64 t826] 26 (0,0)) (bpA BK830) hb);have n5_:=Aside0.mk (blk_below (g:=gb831) (o:=.cells #[.int .i64 t827,.int .i64 t828,.int .i64 t829] 28 (0,0)) (bpA BK831) hb);have n6_:=lI hb;clear BK816;clear BK817;clear HI821;clear BK830;clear BK831;clear HB;have HO834:=n0_;have BK816:=n1_;have BK817:=n2_;have HI821:=n3_;have BK830:=n4_;have BK831:=n5_;have HB:=n6_;clear n0_ n1_ n2_ n3_ n4_ n5_ n6_;clear hb ho85;obtain ⟨Ao86,co86,eo86⟩:=Kd.R_slice HO834.out;subst eo86)|((with_reducible refine gd 21 rfl ?_);refine gC (some 21) rfl Try.func81 (spec_l01Pick.calls (w:=_) (g:=g821) (w0:=w) (hI:=iA HI821) (hB:=blI) (hr1:=cR (Kd.R_reads' HO834.out).2.2) (hc1:=(Kd.R_reads' HO834.out).2.1) (hf1:=far_slice (IsS116.own_ne HI821.out HO834.out (by decide))) (h:=A4.out)) ?_;rintro w87 ⟨hi,hb,hk⟩;have n0_:=kbk hk BK816 NB816_821;have n1_:=kbk hk BK817 NB817_821;have n2_:=kbk hk BK830 NB830_821;have n3_:=kbk hk BK831 NB831_821;have n4_:=Aside0.mk (Kd.R_mono (Kd.R_keep (IsS116.apart (show IsS116 w _ g821 t818 t819 t820 from iA HI821) (rA HO834) (by decide)) hk (fun _ h=>h.2)) (fun _ h=>h.1));have n5_:=Aside0.mk hb;have n6_:=Aside0.mk hi;clear BK816;clear BK817;clear BK830;clear BK831;clear HO834;clear HB;clear HI821;have BK816:=n0_;have BK817:=n1_;have BK830:=n2_;have BK831:=n3_;have HO834:=n4_;have HB:=n5_;have HI821:=n6_;clear n0_ n1_ n2_ n3_ n4_ n5_ n6_;clear hi hb hk)|((with_reducible refine gd 27 rfl ?_);refine gC (some 27) rfl Try.func82 (spec_l01Next.calls (w:=_) (g:=g821) (w0:=w) (hI:=iA HI821) (hB:=blI) (h:=A67.out)) ?_;rintro w88 ⟨hi,hb,hk⟩;have n0_:=kbk hk BK816 NB816_821;have n1_:=kbk hk BK817 NB817_821;have n2_:=kbk hk BK830 NB830_821;have n3_:=kbk hk BK831 NB831_821;have n4_:=Aside0.mk (Kd.R_mono (Kd.R_keep (IsS116.apart (show IsS116 w _ g821 t818 t836 t837 from iA HI821) (rA HO834) (by decide)) hk (fun _ h=>h.2)) (fun _ h=>h.1));have n5_:=Aside0.mk hb;have n6_:=Aside0.mk hi;clear BK816;clear BK817;clear BK830;clear BK831;clear HO834;clear HB;clear HI821;have BK816:=n0_;have BK817:=n1_;have BK830:=n2_;have BK831:=n3_;have HO834:=n4_;have HB:=n5_;have HI821:=n6_;clear n0_ n1_ n2_ n3_ n4_ n5_ n6_;clear hi hb hk;obtain ⟨hcz89_0,hcz89_1,hcz89_2,hfz89_0,hfz89_1,hfz89_2⟩:=cz3 BK831))
   have n0_:Aside0 (Kd.R (Kd.int .i64) 2 (((w88.setCell ⟨gb831,0,none⟩ (.int .i64 0)).setCell ⟨gb831,1,none⟩ (.int .i64 0)).setCell ⟨gb831,2,none⟩ (.int .i64 0)) w.heap.size (fun _=>True) (.slice Ao86 y832.length co86) y832):=⟨by (with_reducible repeat (first|apply Kd.R_alloc|apply Kd.R_drewN|apply Kd.R_drew));exact Kd.R_mono (Kd.R_far (p:=⟨gb831,2,none⟩) (Kd.R_far (p:=⟨gb831,1,none⟩) (Kd.R_far (p:=⟨gb831,0,none⟩) (Kd.R_types HO834.out BK831.out (by decide)) (fun _ hk=>hk.2) (.int .i64 0)) (fun _ hk=>hk.2) (.int .i64 0)) (fun _ hk=>hk.2) (.int .i64 0)) (fun _ hk=>trivial)⟩
   have n1_:Aside0 ((((w88.setCell ⟨gb831,0,none⟩ (.int .i64 0)).setCell ⟨gb831,1,none⟩ (.int .i64 0)).setCell ⟨gb831,2,none⟩ (.int .i64 0)).heap[gb816]?=some (.cells #[.int .i64 0,.int .i64 0,.int .i64 0,.int .i64 0] 26 (0,0))):=⟨bkF BK816⟩
   have n2_:Aside0 ((((w88.setCell ⟨gb831,0,none⟩ (.int .i64 0)).setCell ⟨gb831,1,none⟩ (.int .i64 0)).setCell ⟨gb831,2,none⟩ (.int .i64 0)).heap[gb817]?=some (.cells #[.int .i64 0,.int .i64 0,.int .i64 0] 28 (0,0))):=⟨bkF BK817⟩
   have n3_:Aside0 ((((w88.setCell ⟨gb831,0,none⟩ (.int .i64 0)).setCell ⟨gb831,1,none⟩ (.int .i64 0)).setCell ⟨gb831,2,none⟩ (.int .i64 0)).heap[gb830]?=some (.cells #[.int .i64 t823,.int .i64 t824,.int .i64 t825,.int .i64 t826] 26 (0,0))):=⟨bkF BK830⟩
   have n4_:Aside0 ((((w88.setCell ⟨gb831,0,none⟩ (.int .i64 0)).setCell ⟨gb831,1,none⟩ (.int .i64 0)).setCell ⟨gb831,2,none⟩ (.int .i64 0)).heap[gb831]?=some (.cells #[.int .i64 0,.int .i64 0,.int .i64 0] 28 (0,0))):=⟨bpA BK831⟩
   have n5_:Aside0 (IsS116 w (((w88.setCell ⟨gb831,0,none⟩ (.int .i64 0)).setCell ⟨gb831,1,none⟩ (.int .i64 0)).setCell ⟨gb831,2,none⟩ (.int .i64 0)) g821 t818 t842 t843):=⟨iA HI821⟩
   have n6_:Aside0 (Below w.heap.size w (((w88.setCell ⟨gb831,0,none⟩ (.int .i64 0)).setCell ⟨gb831,1,none⟩ (.int .i64 0)).setCell ⟨gb831,2,none⟩ (.int .i64 0))):=⟨blI⟩
   (try clear HO834)
   (try clear BK816)
   (try clear BK817)
   (try clear BK830)
   (try clear BK831)
   (try clear HI821)
   (try clear HB)
   generalize (((w88.setCell ⟨gb831,0,none⟩ (.int .i64 0)).setCell ⟨gb831,1,none⟩ (.int .i64 0)).setCell ⟨gb831,2,none⟩ (.int .i64 0))=w90 at n0_ n1_ n2_ n3_ n4_ n5_ n6_ ⊢
   have HO834:=n0_
   have BK816:=n1_
   have BK817:=n2_
   have BK830:=n3_
   have BK831:=n4_
   have HI821:=n5_
   have HB:=n6_
   clear n0_ n1_ n2_ n3_ n4_ n5_ n6_
   have n0_:=Aside0.mk (Kd.R_drew HO834.out)
   have n1_:=Aside0.mk (blk_drew BK816.out)
   have n2_:=Aside0.mk (blk_drew BK817.out)
   have n3_:=Aside0.mk (blk_drew BK830.out)
   have n4_:=Aside0.mk (blk_drew BK831.out)
   have n5_:=Aside0.mk (IsS116.drew HI821.out)
   have n6_:=Aside0.mk (below_drew1 HB.out)
   clear HO834
   clear BK816
   clear BK817
   clear BK830
   clear BK831
   clear HI821
   clear HB
   have HO834:=n0_
   have BK816:=n1_
   have BK817:=n2_
   have BK830:=n3_
   have BK831:=n4_
   have HI821:=n5_
   have HB:=n6_
   clear n0_ n1_ n2_ n3_ n4_ n5_ n6_
   refine start_ (n:=8) (S:=fun w'=>w'.cell? ⟨gb830,0,none⟩=some (.int .i64 t823)∧w'.cell? ⟨gb830,1,none⟩=some (.int .i64 t824)∧w'.cell? ⟨gb830,2,none⟩=some (.int .i64 t825)∧w'.cell? ⟨gb830,3,none⟩=some (.int .i64 t826)∧w'.cell? ⟨gb831,0,none⟩=some (.int .i64 0)∧w'.cell? ⟨gb831,1,none⟩=some (.int .i64 0)∧w'.cell? ⟨gb831,2,none⟩=some (.int .i64 0)) (ds:=[]) #[Z,Z,Z,Z,Z,Z,Z,Z] (by kernel_rfl) rfl rfl ⟨cA BK830 0,cA BK830 1,cA BK830 2,cA BK830 3,cA BK831 0,cA BK831 1,cA BK831 2⟩ (fun hHeld=>?_);refine with_tabW spec_DrawFixedBalls.tab8 spec_DrawFixedBalls.bits8 (fun HT_ HW_=>?_)
   generalize w90.drew=w91 at HO834 BK816 BK817 BK830 BK831 HI821 HB hHeld ⊢
   refine puA (i:=0) (N:=some 30) #[Y,Z,Z,Z,Z,Z,Z,Z] rfl rfl HT_ ?_
   refine puA (i:=3) (N:=some 33) #[Y,Z,Z,Y,Z,Z,Z,Z] rfl rfl HT_ ?_
   refine puA (i:=4) (N:=some 2) #[Y,Z,Z,Y,Y,Z,Z,Z] rfl rfl HT_ ?_
   refine taA (i:=1) (N:=some 31) #[Y,Y,Z,Y,Y,Z,Z,Z] rfl rfl HT_ HW_ hHeld ?_
   refine taA (i:=2) (N:=some 32) #[Y,Y,Y,Y,Y,Z,Z,Z] rfl rfl HT_ HW_ hHeld ?_
   refine one_ (i:=5) (N:=none) #[Y,Y,Y,Y,Y,Y,Z,Z] rfl rfl (one_of HT_.out (by kernel_rfl)) (by decide) (fun K hK=>?_)
   have hs92:w91.cell? ⟨gb816,0,none⟩=some (.int .i64 0):=cA BK816 0
   have hfs92:=blk_frozen BK816.out 0
   have hns92_1:=NB817_816.out
   have hns92_2:=NB830_816.out
   have hns92_3:=NB831_816.out
   have hms92_1:=NB816_817.out
   have hms92_2:=NB816_830.out
   have hms92_3:=NB816_831.out
   have hs93:w91.cell? ⟨gb816,1,none⟩=some (.int .i64 0):=cA BK816 1
   have hfs93:=blk_frozen BK816.out 1
   have hns93_1:=NB817_816.out
   have hns93_2:=NB830_816.out
   have hns93_3:=NB831_816.out
   have hms93_1:=NB816_817.out
   have hms93_2:=NB816_830.out
   have hms93_3:=NB816_831.out
   have hs94:w91.cell? ⟨gb816,2,none⟩=some (.int .i64 0):=cA BK816 2
   have hfs94:=blk_frozen BK816.out 2
   have hns94_1:=NB817_816.out
   have hns94_2:=NB830_816.out
   have hns94_3:=NB831_816.out
   have hms94_1:=NB816_817.out
   have hms94_2:=NB816_830.out
   have hms94_3:=NB816_831.out
   have hs95:w91.cell? ⟨gb816,3,none⟩=some (.int .i64 0):=cA BK816 3
   have hfs95:=blk_frozen BK816.out 3
   have hns95_1:=NB817_816.out
   have hns95_2:=NB830_816.out
   have hns95_3:=NB831_816.out
   have hms95_1:=NB816_817.out
   have hms95_2:=NB816_830.out
   have hms95_3:=NB816_831.out
   refine skip_ (w1:=?_) (by rfl) rfl ?_ ?_
   rotate_left
   ·
    go_simp
    rfl
   refine hK.out _ _ ⟨cfE hHeld.1,cfE hHeld.2.1,cfE hHeld.2.2.1,cfE hHeld.2.2.2.1,cfE hHeld.2.2.2.2.1,cfE hHeld.2.2.2.2.2.1,cfE hHeld.2.2.2.2.2.2⟩ (fun hHeld=>?_)
   clear hK K
   refine one_ (i:=6) (N:=none) #[Y,Y,Y,Y,Y,Y,Y,Z] rfl rfl (one_of HT_.out (by kernel_rfl)) (by decide) (fun K hK=>?_)
   have hs96:w91.cell? ⟨gb817,0,none⟩=some (.int .i64 0):=cA BK817 0
   have hfs96:=blk_frozen BK817.out 0
   have hns96_0:=NB816_817.out
   have hns96_2:=NB830_817.out
   have hns96_3:=NB831_817.out
   have hms96_0:=NB817_816.out
   have hms96_2:=NB817_830.out
   have hms96_3:=NB817_831.out
   have hs97:w91.cell? ⟨gb817,1,none⟩=some (.int .i64 0):=cA BK817 1
   have hfs97:=blk_frozen BK817.out 1
   have hns97_0:=NB816_817.out
   have hns97_2:=NB830_817.out
   have hns97_3:=NB831_817.out
   have hms97_0:=NB817_816.out
   have hms97_2:=NB817_830.out
   have hms97_3:=NB817_831.out
   have hs98:w91.cell? ⟨gb817,2,none⟩=some (.int .i64 0):=cA BK817 2
   have hfs98:=blk_frozen BK817.out 2
   have hns98_0:=NB816_817.out
   have hns98_2:=NB830_817.out
   have hns98_3:=NB831_817.out
   have hms98_0:=NB817_816.out
   have hms98_2:=NB817_830.out
   have hms98_3:=NB817_831.out
   refine skip_ (w1:=?_) (by rfl) rfl ?_ ?_
   rotate_left
   ·
    go_simp
    rfl
   refine hK.out _ _ ⟨cfE hHeld.1,cfE hHeld.2.1,cfE hHeld.2.2.1,cfE hHeld.2.2.2.1,cfE hHeld.2.2.2.2.1,cfE hHeld.2.2.2.2.2.1,cfE hHeld.2.2.2.2.2.2⟩ (fun hHeld=>?_)
   clear hK K
   refine puA (i:=7) (N:=some 5) #[Y,Y,Y,Y,Y,Y,Y,Y] rfl rfl HT_ ?_
   refine done_ (done_of HT_.out (by kernel_rfl)) ?_
   try go_wp2
   refine bodyPost_ret (results_list (rs:=[.tmp 2,.cell 3 26,.cell 4 28,.tmp 5]) rfl (by simp) (.tmp (.cell gb816 26 #[.int .i64 t823,.int .i64 t824,.int .i64 t825,.int .i64 t826] (0,0) _ rfl (bpA BK816) Try.underlying26 rfl (by kernel_rfl) (.cell gb817 28 #[.int .i64 0,.int .i64 0,.int .i64 0] (0,0) _ rfl (bpA BK817) Try.underlying28 rfl (by kernel_rfl) (.tmp .nil))))) rfl ?_
   exact rf0 blI
  ·
   rw [if_neg c68] at H
   have c68b0:(t841 == 0)=false:=beq_eq_false_iff_ne.mpr c68
   have c68b1:(t841 != 0)=true:=bne_iff_ne.mpr c68
   simp only [Option.some.injEq,Prod.mk.injEq] at H
   obtain ⟨rfl,rfl,rfl,rfl,rfl,rfl,rfl,rfl,rfl⟩:=H
   go_enter Try.func35,Try.ntmps35
   try go_wp2_with (first|((with_reducible refine gate_dst (N:=3) rfl ?_);refine bxE (cs:=#[.int .i64 0,.int .i64 0,.int .i64 0,.int .i64 0]) (t:=26) ?_;intro gb816 hg w99 hbox hb;have n0_:=lB hb;have n1_:=Aside0.mk hbox;have n2_:=sA hg;have n3_:=sA hg;clear HB;have HB:=n0_;have BK816:=n1_;have GW816:=n2_;have GE816:=n3_;clear n0_ n1_ n2_ n3_;clear hb hbox hg)|((with_reducible refine gate_dst (N:=4) rfl ?_);refine bxE (cs:=#[.int .i64 0,.int .i64 0,.int .i64 0]) (t:=28) ?_;intro gb817 hg w100 hbox hb;have n0_:=kB BK816 hb;have n1_:=lB hb;have n2_:=Aside0.mk hbox;have n3_:=sA hg;have n4_:=sA hg;have n5_:=nA hg BK816;have n6_:=nB hg BK816;clear BK816;clear HB;have BK816:=n0_;have HB:=n1_;have BK817:=n2_;have GW817:=n3_;have GE817:=n4_;have NB816_817:=n5_;have NB817_816:=n6_;clear n0_ n1_ n2_ n3_ n4_ n5_ n6_;clear hb hbox hg)|((with_reducible refine gate_callee (f:=47) rfl ?_);refine gL (some 12) rfl Try.func47 #[.slice A0 l0.length c0] ?_;(with_reducible refine (spec_l01From.calls k _ _ l0 t818 t819 t820 w _ ?side1 ?side2 ?side3 A2.out).mono ?_);(case side1=>exact blI);(case side2=>exact HR0.out);(case side3=>exact HC0.out);rintro e w101 ⟨g821,rfl,hi,hb,hb2⟩;refine ⟨_,rfl,?_⟩;have n0_:=kB BK816 hb2;have n1_:=kB BK817 hb2;have n2_:=Aside0.mk hb;have n3_:=Aside0.mk hi;have n4_:=Aside0.mk (IsS116.ne_blk hi (blk_below (bkA BK816) hb2) (by decide));have n5_:=Aside0.mk (Ne.symm (IsS116.ne_blk hi (blk_below (bkA BK816) hb2) (by decide)));have n6_:=Aside0.mk (IsS116.ne_blk hi (blk_below (bkA BK817) hb2) (by decide));have n7_:=Aside0.mk (Ne.symm (IsS116.ne_blk hi (blk_below (bkA BK817) hb2) (by decide)));clear BK816;clear BK817;clear HB;have BK816:=n0_;have BK817:=n1_;have HB:=n2_;have HI821:=n3_;have NB821_816:=n4_;have NB816_821:=n5_;have NB821_817:=n6_;have NB817_821:=n7_;clear n0_ n1_ n2_ n3_ n4_ n5_ n6_ n7_;clear hi hb hb2)|((with_reducible refine gd 15 rfl ?_);refine gC (some 15) rfl Try.func41 (spec_l04With.calls (w:=_) (hr0:=cR (Kd.C_below HR0.out HB.out)) (hc0:=HC0.out) (h:=A3.out)) ?_;intro w102 hb;have n0_:=kB BK816 hb;have n1_:=kB BK817 hb;have n2_:=Aside0.mk (IsS116.below (iA HI821) hb);have n3_:=lI hb;clear BK816;clear BK817;clear HI821;clear HB;have BK816:=n0_;have BK817:=n1_;have HI821:=n2_;have HB:=n3_;clear n0_ n1_ n2_ n3_;clear hb)|((with_reducible refine gate_dst (N:=8) rfl ?_);refine bxE (cs:=#[.int .i64 0,.int .i64 0,.int .i64 0,.int .i64 0]) (t:=26) ?_;intro gb830 hg w103 hbox hb;have n0_:=kB BK816 hb;have n1_:=kB BK817 hb;have n2_:=Aside0.mk (IsS116.below (iA HI821) hb);have n3_:=lI hb;have n4_:=Aside0.mk hbox;have n5_:=sI hg;have n6_:=sI hg;have n7_:=nA hg BK816;have n8_:=nB hg BK816;have n9_:=nA hg BK817;have n10_:=nB hg BK817;have n11_:=inA hg (IsS116.lt (iA HI821));have n12_:=inB hg (IsS116.lt (iA HI821));clear BK816;clear BK817;clear HI821;clear HB;have BK816:=n0_;have BK817:=n1_;have HI821:=n2_;have HB:=n3_;have BK830:=n4_;have GW830:=n5_;have GE830:=n6_;have NB816_830:=n7_;have NB830_816:=n8_;have NB817_830:=n9_;have NB830_817:=n10_;have NB821_830:=n11_;have NB830_821:=n12_;clear n0_ n1_ n2_ n3_ n4_ n5_ n6_ n7_ n8_ n9_ n10_ n11_ n12_;clear hb hbox hg)|((with_reducible refine gate_dst (N:=9) rfl ?_);refine bxE (cs:=#[.int .i64 0,.int .i64 0,.int .i64 0]) (t:=28) ?_;intro gb831 hg w104 hbox hb;have n0_:=kB BK816 hb;have n1_:=kB BK817 hb;have n2_:=Aside0.mk (IsS116.below (iA HI821) hb);have n3_:=kB BK830 hb;have n4_:=lI hb;have n5_:=Aside0.mk hbox;have n6_:=sI hg;have n7_:=sI hg;have n8_:=nA hg BK816;have n9_:=nB hg BK816;have n10_:=nA hg BK817;have n11_:=nB hg BK817;have n12_:=nA hg BK830;have n13_:=nB hg BK830;have n14_:=inA hg (IsS116.lt (iA HI821));have n15_:=inB hg (IsS116.lt (iA HI821));clear BK816;clear BK817;clear HI821;clear BK830;clear HB;have BK816:=n0_;have BK817:=n1_;have HI821:=n2_;have BK830:=n3_;have HB:=n4_;have BK831:=n5_;have GW831:=n6_;have GE831:=n7_;have NB816_831:=n8_;have NB831_816:=n9_;have NB817_831:=n10_;have NB831_817:=n11_;have NB830_831:=n12_;have NB831_830:=n13_;have NB821_831:=n14_;have NB831_821:=n15_;clear n0_ n1_ n2_ n3_ n4_ n5_ n6_ n7_ n8_ n9_ n10_ n11_ n12_ n13_ n14_ n15_;clear hb hbox hg;have hnb105:=NB830_816.out;have hnc105:=NB816_830.out;have hnb106:=NB830_817.out;have hnc106:=NB817_830.out;have hnb107:=NB830_831.out;have hnc107:=NB831_830.out;have hnb108:=NB830_821.out;have hnc108:=NB821_830.out;obtain ⟨hcz109_0,hcz109_1,hcz109_2,hcz109_3,hfz109_0,hfz109_1,hfz109_2,hfz109_3⟩:=cz4 BK830;have hnb110:=NB831_816.out;have hnc110:=NB816_831.out;have hnb111:=NB831_817.out;have hnc111:=NB817_831.out;have hnb112:=NB831_821.out;have hnc112:=NB821_831.out;obtain ⟨hcz113_0,hcz113_1,hcz113_2,hfz113_0,hfz113_1,hfz113_2⟩:=cz3 BK831)|((with_reducible refine gate_dst (N:=20) rfl ?_);refine Kd.R_lit (Kd.int .i64) _ 2 ?hg (N:=20) ?hd (xs:=([0,1,1,2,2,3,4]:List Int)) (inner:=[.int .i64 0,.int .i64 1,.int .i64 1,.int .i64 2,.int .i64 2,.int .i64 3,.int .i64 4]) (ok:=fun _=>True) (okp:=fun _=>True) ?hr ?hp (fun _ hk=>hk) trivial (Below.refl _ _) (Nat.le_refl _) (by simp) ?_;(case hd=>rfl);(case hg=>rfl);(case hr=>first|(go_simp;done)|(go_simp;rfl));(case hp=>exact (Reps.one (show Kd.M (Kd.int .i64) _ _ _ 0 [.int .i64 0] from rfl) (Reps.one (show Kd.M (Kd.int .i64) _ _ _ 1 [.int .i64 1] from rfl) (Reps.one (show Kd.M (Kd.int .i64) _ _ _ 1 [.int .i64 1] from rfl) (Reps.one (show Kd.M (Kd.int .i64) _ _ _ 2 [.int .i64 2] from rfl) (Reps.one (show Kd.M (Kd.int .i64) _ _ _ 2 [.int .i64 2] from rfl) (Reps.one (show Kd.M (Kd.int .i64) _ _ _ 3 [.int .i64 3] from rfl) (Reps.one (show Kd.M (Kd.int .i64) _ _ _ 4 [.int .i64 4] from rfl) (Reps.none _ _)))))))));intro v833 w114 ho115 hb hg_ hnew_;clear hg_ hnew_;(first|rw [← Ny832.out] at ho115|(simp only [Int.reduceToNat] at ho115;rw [← Ny832.out] at ho115));have n0_:=Aside0.mk (Kd.R_lower ho115 (below_size blI));have n1_:=Aside0.mk (blk_below (g:=gb816) (o:=.cells #[.int .i64 0,.int .i64 0,.int .i64 0,.int .i64 0] 26 (0,0)) (bkF BK816) hb);have n2_:=Aside0.mk (blk_below (g:=gb817) (o:=.cells #[.int .i64 0,.int .i64 0,.int .i64 0] 28 (0,0)) (bkF BK817) hb);have n3_:=Aside0.mk (IsS116.below (show IsS116 w (((((((w104.setCell ⟨gb830,0,none⟩ (.int .i64 t823)).setCell ⟨gb830,1,none⟩ (.int .i64 t824)).setCell ⟨gb830,2,none⟩ (.int .i64 t825)).setCell ⟨gb830,3,none⟩ (.int .i64 t826)).setCell ⟨gb831,0,none⟩ (.int .i64 t827)).setCell ⟨gb831,1,none⟩ (.int .i64 t828)).setCell ⟨gb831,2,none⟩ (.int .i64 t829)) g821 t818 t819 t820 from iA HI821) hb);have n4_:=Aside0.mk (blk_below (g:=gb830) (o:=.cells #[.int .i64 t823,.int .i64 t824,.int .i64 t825,.int .i64 t826] 26 (0,0)) (bpA BK830) hb);have n5_:=Aside0.mk (blk_below (g:=gb831) (o:=.cells #[.int .i64 t827,.int .i64 t828,.int .i64 t829] 28 (0,0)) (bpA BK831) hb);have n6_:=lI hb;clear BK816;clear BK817;clear HI821;clear BK830;clear BK831;clear HB;have HO834:=n0_;have BK816:=n1_;have BK817:=n2_;have HI821:=n3_;have BK830:=n4_;have BK831:=n5_;have HB:=n6_;clear n0_ n1_ n2_ n3_ n4_ n5_ n6_;clear hb ho115;obtain ⟨Ao116,co116,eo116⟩:=Kd.R_slice HO834.out;subst eo116)|((with_reducible refine gd 21 rfl ?_);refine gC (some 21) rfl Try.func81 (spec_l01Pick.calls (w:=_) (g:=g821) (w0:=w) (hI:=iA HI821) (hB:=blI) (hr1:=cR (Kd.R_reads' HO834.out).2.2) (hc1:=(Kd.R_reads' HO834.out).2.1) (hf1:=far_slice (IsS116.own_ne HI821.out HO834.out (by decide))) (h:=A4.out)) ?_;rintro w117 ⟨hi,hb,hk⟩;have n0_:=kbk hk BK816 NB816_821;have n1_:=kbk hk BK817 NB817_821;have n2_:=kbk hk BK830 NB830_821;have n3_:=kbk hk BK831 NB831_821;have n4_:=Aside0.mk (Kd.R_mono (Kd.R_keep (IsS116.apart (show IsS116 w _ g821 t818 t819 t820 from iA HI821) (rA HO834) (by decide)) hk (fun _ h=>h.2)) (fun _ h=>h.1));have n5_:=Aside0.mk hb;have n6_:=Aside0.mk hi;clear BK816;clear BK817;clear BK830;clear BK831;clear HO834;clear HB;clear HI821;have BK816:=n0_;have BK817:=n1_;have BK830:=n2_;have BK831:=n3_;have HO834:=n4_;have HB:=n5_;have HI821:=n6_;clear n0_ n1_ n2_ n3_ n4_ n5_ n6_;clear hi hb hk)|((with_reducible refine gd 27 rfl ?_);refine gC (some 27) rfl Try.func82 (spec_l01Next.calls (w:=_) (g:=g821) (w0:=w) (hI:=iA HI821) (hB:=blI) (h:=A67.out)) ?_;rintro w118 ⟨hi,hb,hk⟩;have n0_:=kbk hk BK816 NB816_821;have n1_:=kbk hk BK817 NB817_821;have n2_:=kbk hk BK830 NB830_821;have n3_:=kbk hk BK831 NB831_821;have n4_:=Aside0.mk (Kd.R_mono (Kd.R_keep (IsS116.apart (show IsS116 w _ g821 t818 t836 t837 from iA HI821) (rA HO834) (by decide)) hk (fun _ h=>h.2)) (fun _ h=>h.1));have n5_:=Aside0.mk hb;have n6_:=Aside0.mk hi;clear BK816;clear BK817;clear BK830;clear BK831;clear HO834;clear HB;clear HI821;have BK816:=n0_;have BK817:=n1_;have BK830:=n2_;have BK831:=n3_;have HO834:=n4_;have HB:=n5_;have HI821:=n6_;clear n0_ n1_ n2_ n3_ n4_ n5_ n6_;clear hi hb hk))
   have n0_:=Aside0.mk (Kd.R_drew HO834.out)
   have n1_:=Aside0.mk (blk_drew BK816.out)
   have n2_:=Aside0.mk (blk_drew BK817.out)
   have n3_:=Aside0.mk (blk_drew BK830.out)
   have n4_:=Aside0.mk (blk_drew BK831.out)
   have n5_:=Aside0.mk (IsS116.drew HI821.out)
   have n6_:=Aside0.mk (below_drew1 HB.out)
   clear HO834
   clear BK816
   clear BK817
   clear BK830
   clear BK831
   clear HI821
   clear HB
   have HO834:=n0_
   have BK816:=n1_
   have BK817:=n2_
   have BK830:=n3_
   have BK831:=n4_
   have HI821:=n5_
   have HB:=n6_
   clear n0_ n1_ n2_ n3_ n4_ n5_ n6_
   refine start_ (n:=8) (S:=fun w'=>w'.cell? ⟨gb830,0,none⟩=some (.int .i64 t823)∧w'.cell? ⟨gb830,1,none⟩=some (.int .i64 t824)∧w'.cell? ⟨gb830,2,none⟩=some (.int .i64 t825)∧w'.cell? ⟨gb830,3,none⟩=some (.int .i64 t826)∧w'.cell? ⟨gb831,0,none⟩=some (.int .i64 t827)∧w'.cell? ⟨gb831,1,none⟩=some (.int .i64 t828)∧w'.cell? ⟨gb831,2,none⟩=some (.int .i64 t829)) (ds:=[]) #[Z,Z,Z,Z,Z,Z,Z,Z] (by kernel_rfl) rfl rfl ⟨cA BK830 0,cA BK830 1,cA BK830 2,cA BK830 3,cA BK831 0,cA BK831 1,cA BK831 2⟩ (fun hHeld=>?_);refine with_tabW spec_DrawFixedBalls.tab8 spec_DrawFixedBalls.bits8 (fun HT_ HW_=>?_)
   generalize w118.drew=w119 at HO834 BK816 BK817 BK830 BK831 HI821 HB hHeld ⊢
   refine puA (i:=0) (N:=some 30) #[Y,Z,Z,Z,Z,Z,Z,Z] rfl rfl HT_ ?_
   refine puA (i:=3) (N:=some 33) #[Y,Z,Z,Y,Z,Z,Z,Z] rfl rfl HT_ ?_
   refine puA (i:=4) (N:=some 2) #[Y,Z,Z,Y,Y,Z,Z,Z] rfl rfl HT_ ?_
   refine taA (i:=1) (N:=some 31) #[Y,Y,Z,Y,Y,Z,Z,Z] rfl rfl HT_ HW_ hHeld ?_
   refine taA (i:=2) (N:=some 32) #[Y,Y,Y,Y,Y,Z,Z,Z] rfl rfl HT_ HW_ hHeld ?_
   refine one_ (i:=5) (N:=none) #[Y,Y,Y,Y,Y,Y,Z,Z] rfl rfl (one_of HT_.out (by kernel_rfl)) (by decide) (fun K hK=>?_)
   have hs120:w119.cell? ⟨gb816,0,none⟩=some (.int .i64 0):=cA BK816 0
   have hfs120:=blk_frozen BK816.out 0
   have hns120_1:=NB817_816.out
   have hns120_2:=NB830_816.out
   have hns120_3:=NB831_816.out
   have hms120_1:=NB816_817.out
   have hms120_2:=NB816_830.out
   have hms120_3:=NB816_831.out
   have hs121:w119.cell? ⟨gb816,1,none⟩=some (.int .i64 0):=cA BK816 1
   have hfs121:=blk_frozen BK816.out 1
   have hns121_1:=NB817_816.out
   have hns121_2:=NB830_816.out
   have hns121_3:=NB831_816.out
   have hms121_1:=NB816_817.out
   have hms121_2:=NB816_830.out
   have hms121_3:=NB816_831.out
   have hs122:w119.cell? ⟨gb816,2,none⟩=some (.int .i64 0):=cA BK816 2
   have hfs122:=blk_frozen BK816.out 2
   have hns122_1:=NB817_816.out
   have hns122_2:=NB830_816.out
   have hns122_3:=NB831_816.out
   have hms122_1:=NB816_817.out
   have hms122_2:=NB816_830.out
   have hms122_3:=NB816_831.out
   have hs123:w119.cell? ⟨gb816,3,none⟩=some (.int .i64 0):=cA BK816 3
   have hfs123:=blk_frozen BK816.out 3
   have hns123_1:=NB817_816.out
   have hns123_2:=NB830_816.out
   have hns123_3:=NB831_816.out
   have hms123_1:=NB816_817.out
   have hms123_2:=NB816_830.out
   have hms123_3:=NB816_831.out
   refine skip_ (w1:=?_) (by rfl) rfl ?_ ?_
   rotate_left
   ·
    go_simp
    rfl
   refine hK.out _ _ ⟨cfE hHeld.1,cfE hHeld.2.1,cfE hHeld.2.2.1,cfE hHeld.2.2.2.1,cfE hHeld.2.2.2.2.1,cfE hHeld.2.2.2.2.2.1,cfE hHeld.2.2.2.2.2.2⟩ (fun hHeld=>?_)
   clear hK K
   refine one_ (i:=6) (N:=none) #[Y,Y,Y,Y,Y,Y,Y,Z] rfl rfl (one_of HT_.out (by kernel_rfl)) (by decide) (fun K hK=>?_)
   have hs124:w119.cell? ⟨gb817,0,none⟩=some (.int .i64 0):=cA BK817 0
   have hfs124:=blk_frozen BK817.out 0
   have hns124_0:=NB816_817.out
   have hns124_2:=NB830_817.out
   have hns124_3:=NB831_817.out
   have hms124_0:=NB817_816.out
   have hms124_2:=NB817_830.out
   have hms124_3:=NB817_831.out
   have hs125:w119.cell? ⟨gb817,1,none⟩=some (.int .i64 0):=cA BK817 1
   have hfs125:=blk_frozen BK817.out 1
   have hns125_0:=NB816_817.out
   have hns125_2:=NB830_817.out
   have hns125_3:=NB831_817.out
   have hms125_0:=NB817_816.out
   have hms125_2:=NB817_830.out
   have hms125_3:=NB817_831.out
   have hs126:w119.cell? ⟨gb817,2,none⟩=some (.int .i64 0):=cA BK817 2
   have hfs126:=blk_frozen BK817.out 2
   have hns126_0:=NB816_817.out
   have hns126_2:=NB830_817.out
   have hns126_3:=NB831_817.out
   have hms126_0:=NB817_816.out
   have hms126_2:=NB817_830.out
   have hms126_3:=NB817_831.out
   refine skip_ (w1:=?_) (by rfl) rfl ?_ ?_
   rotate_left
   ·
    go_simp
    rfl
   refine hK.out _ _ ⟨cfE hHeld.1,cfE hHeld.2.1,cfE hHeld.2.2.1,cfE hHeld.2.2.2.1,cfE hHeld.2.2.2.2.1,cfE hHeld.2.2.2.2.2.1,cfE hHeld.2.2.2.2.2.2⟩ (fun hHeld=>?_)
   clear hK K
   refine puA (i:=7) (N:=some 5) #[Y,Y,Y,Y,Y,Y,Y,Y] rfl rfl HT_ ?_
   refine done_ (done_of HT_.out (by kernel_rfl)) ?_
   try go_wp2
   refine bodyPost_ret (results_list (rs:=[.tmp 2,.cell 3 26,.cell 4 28,.tmp 5]) rfl (by simp) (.tmp (.cell gb816 26 #[.int .i64 t823,.int .i64 t824,.int .i64 t825,.int .i64 t826] (0,0) _ rfl (bpA BK816) Try.underlying26 rfl (by kernel_rfl) (.cell gb817 28 #[.int .i64 t827,.int .i64 t828,.int .i64 t829] (0,0) _ rfl (bpA BK817) Try.underlying28 rfl (by kernel_rfl) (.tmp .nil))))) rfl ?_
   exact rf0 blI
end Go.Proofs.Ytlpmefmaplhfdaa.PAll
