-- turned out of the kit's print
import Derived.Test.YtabcckoeilegnaaQx
import Derived.Test.YtabcckoeilegnaaQimplmod
import Derived.Test.YtabcckoeilegnaaQspecDrawRayOf
namespace Go.Proofs.Ytabcckoeilegnaa.PAll
open Go.RowKit Go.Proofs.YtabcckoeilegnaaW.PrintWords Go.Proofs.YtabcckoeilegnaaW.PrintLast Go.Proofs.YtabcckoeilegnaaW.PrintMore
attribute [local go_sem] Go.Proofs.Ytabcckoeilegnaa.Aux.setCell_drewN Go.Proofs.Ytabcckoeilegnaa.Aux.isSome_setCell max2_int min2_int max_two min_two max_three min_three max_four min_four
set_option linter.unusedVariables false
set_option linter.unusedSimpArgs false
def spec_RayOf.l0:Nat→Int→Int→List (S25)→Int→Int→Option ((List (S25)) × Int)
 | 0,_,_,_,_,_=>none
 | k+1,x0,x3,x11,x501000,x501001=>if x3>0 then (if 0≤(wrap64 ((x11.length:Int) - 1)) then (if (wrap64 ((x11.length:Int) - 1))<(x11.length:Int) then ((spec_l05Next.f k x0 ((rd_T25 x11 (wrap64 ((x11.length:Int) - 1))).f0) ((rd_T25 x11 (wrap64 ((x11.length:Int) - 1))).f1) ((rd_T25 x11 (wrap64 ((x11.length:Int) - 1))).f2) x501000 x501001).bind fun bt513=>(if bt513.2.2.2=true then (if x11.length<5864062014805 then (spec_RayOf.l0 k x0 (wrap64 (x3 - 1)) (x11 ++ [(⟨bt513.1,bt513.2.1,bt513.2.2.1⟩:S25)]) x501000 x501001) else (none)) else (some (([]:List (S25)),3)))) else (none)) else (none)) else (some (x11,0))
def spec_RayOf.f (k:Nat) (a0 a1_0 a1_1 a1_2 a2_0 a2_1 a3:Int):Option ((List (S25)) × Int):=(spec_l05Code.f k a0 (([(⟨a1_0,a1_1,a1_2⟩:S25)]:List (S25))) (([(⟨a2_0,a2_1⟩:S27)]:List (S27)))).bind fun t507=>(if t507=0 then ((spec_l01In.f a3 0 12).bind fun t508=>(if t508=true then (spec_RayOf.l0 k a0 a3 (([(⟨a1_0,a1_1,a1_2⟩:S25)]:List (S25))) a2_0 a2_1) else (some (([]:List (S25)),2)))) else (some (([]:List (S25)),t507)))
theorem spec_RayOf.mono_l:∀ k,(∀ y0 y1 y2 y3 y4,LeO (spec_RayOf.l0 k y0 y1 y2 y3 y4) (spec_RayOf.l0 (k+1) y0 y1 y2 y3 y4))
 | 0=>fun _ _ _ _ _ r h=>by simp [spec_RayOf.l0] at h
 | k+1=>by
  have ih0:=spec_RayOf.mono_l k
  ·
   intro y0 y1 y2 y3 y4
   unfold spec_RayOf.l0
   repeat' first
   | with_reducible first|exact ih0 ..|exact spec_l05Code.mono ..|exact spec_l05Next.mono ..|exact LeO.refl _|exact LeO.none _|refine LeO.ite ?_ ?_|refine LeO.bind ?_ fun _=>?_
theorem spec_RayOf.mono:∀ a0 a1 a2 a3 a4 a5 a6 k,LeO (spec_RayOf.f k a0 a1 a2 a3 a4 a5 a6) (spec_RayOf.f (k+1) a0 a1 a2 a3 a4 a5 a6):=by
 intro a0 a1 a2 a3 a4 a5 a6 k
 have ih0:=spec_RayOf.mono_l k
 unfold spec_RayOf.f
 repeat' first
   | with_reducible first|exact ih0 ..|exact spec_l05Code.mono ..|exact spec_l05Next.mono ..|exact LeO.refl _|exact LeO.none _|refine LeO.ite ?_ ?_|refine LeO.bind ?_ fun _=>?_
def spec_RayOf.T9:Bool × List (List Nat × List Nat):=(true,[([],[]),([],[]),([],[]),([2],[2]),([3],[3]),([1,4],[1,4]),([5],[5]),([],[]),([0,6,7],[0,6,7]),([8],[8]),([9],[9]),([9],[9]),([],[]),([12,10,8,0,1,2,3,4,5,6,7,8,9,10,12],[10,12]),([11,13,0,1,2,3,4,5,6,7,8,9,10,11,12,13],[11])])
def spec_RayOf.B9:List Nat:=[0,0,0,4,12,30,62,0,255,511,1023,1023,0,6143,16383]
theorem spec_RayOf.tab9:rtab .any (opsOf Try.f7 9)=spec_RayOf.T9:=by kernel_rfl
theorem spec_RayOf.bits9:waitsOk spec_RayOf.T9.2 spec_RayOf.B9=true:=by kernel_rfl
set_option maxHeartbeats 8000000 in
set_option maxRecDepth 100000 in
theorem spec_RayOf.calls (k:Nat) (a0 a1_0 a1_1 a1_2 a2_0 a2_1 a3:Int) (r1:List (S25)) (r2:Int) (w:World) (h:spec_RayOf.f k a0 a1_0 a1_1 a1_2 a2_0 a2_1 a3=some (r1,r2)) :
  Calls Try.prog 7 #[.int .i64 a0,.agg #[.int .i64 a1_0,.int .i64 a1_1,.int .i64 a1_2],.agg #[.int .i64 a2_0,.int .i64 a2_1],.int .i64 a3] w fun e w'=>∃ v0_:Value,e=.returned (.tuple #[v0_,.int .i64 r2])∧Kd.R k25 25 w' w.heap.size (fun _=>True) v0_ r1∧Below w.heap.size w w':=by
 have hu25:=Try.underlying25
 have hu27:=Try.underlying27
 have HB:=Aside0.mk (Below.refl w.heap.size w)
 have H:=h
 unfold spec_RayOf.f at H
 clear h
 obtain ⟨y501,hy501⟩:∃ y_:List (S25),y_=(([(⟨a1_0,a1_1,a1_2⟩:S25)]:List (S25))):=⟨_,rfl⟩
 replace H:((spec_l05Code.f k a0 y501 (([(⟨a2_0,a2_1⟩:S27)]:List (S27)))).bind fun t507=>(if t507=0 then ((spec_l01In.f a3 0 12).bind fun t508=>(if t508=true then (spec_RayOf.l0 k a0 a3 (([(⟨a1_0,a1_1,a1_2⟩:S25)]:List (S25))) a2_0 a2_1) else (some (([]:List (S25)),2)))) else (some (([]:List (S25)),t507))))=some (r1,r2):=rH hy501 H
 have Ny501:=Aside0.mk hy501
 clear hy501
 obtain ⟨y504,hy504⟩:∃ y_:List (S27),y_=(([(⟨a2_0,a2_1⟩:S27)]:List (S27))):=⟨_,rfl⟩
 replace H:((spec_l05Code.f k a0 y501 y504).bind fun t507=>(if t507=0 then ((spec_l01In.f a3 0 12).bind fun t508=>(if t508=true then (spec_RayOf.l0 k a0 a3 (([(⟨a1_0,a1_1,a1_2⟩:S25)]:List (S25))) a2_0 a2_1) else (some (([]:List (S25)),2)))) else (some (([]:List (S25)),t507))))=some (r1,r2):=rH hy504 H
 have Ny504:=Aside0.mk hy504
 clear hy504
 replace H:=bS H
 obtain ⟨t507,A5,H⟩:=H
 try dsimp only at H
 by_cases c6:t507=0
 ·
  rw [if_pos c6] at H
  have c6b0:(t507 == 0)=true:=beq_iff_eq.mpr c6
  have c6b1:(t507 != 0)=false:=bne_eq_false_iff_eq.mpr c6
  clear c6
  replace H:=bS H
  obtain ⟨t508,A7,H⟩:=H
  try dsimp only at H
  by_cases c8:t508=true
  ·
   subst c8
   rw [if_pos rfl] at H
   try dsimp only at H
   obtain ⟨y509,hy509⟩:∃ y_:List (S25),y_=(([(⟨a1_0,a1_1,a1_2⟩:S25)]:List (S25))):=⟨_,rfl⟩
   replace H:(spec_RayOf.l0 k a0 a3 y509 a2_0 a2_1)=some (r1,r2):=rH hy509 H
   have Ny509:=Aside0.mk hy509
   clear hy509
   have H':=Aside0.mk H
   clear H
   go_enter Try.func7,Try.ntmps7
   go_wp2_with (first|((with_reducible refine gate_dst (N:=5) rfl ?_);refine bxE (cs:=#[.int .i64 a1_0,.int .i64 a1_1,.int .i64 a1_2]) (t:=25) ?_;intro gb499 hg w9 hbox hb;have n0_:=lB hb;have n1_:=Aside0.mk hbox;have n2_:=sA hg;have n3_:=sA hg;clear HB;have HB:=n0_;have BK499:=n1_;have GW499:=n2_;have GE499:=n3_;clear n0_ n1_ n2_ n3_;clear hb hbox hg)|((with_reducible refine gate_dst (N:=6) rfl ?_);refine bxE (cs:=#[.int .i64 a2_0,.int .i64 a2_1]) (t:=27) ?_;intro gb500 hg w10 hbox hb;have n0_:=kB BK499 hb;have n1_:=lB hb;have n2_:=Aside0.mk hbox;have n3_:=sA hg;have n4_:=sA hg;have n5_:=nA hg BK499;have n6_:=nB hg BK499;clear BK499;clear HB;have BK499:=n0_;have HB:=n1_;have BK500:=n2_;have GW500:=n3_;have GE500:=n4_;have NB499_500:=n5_;have NB500_499:=n6_;clear n0_ n1_ n2_ n3_ n4_ n5_ n6_;clear hb hbox hg;have hnb11:=NB499_500.out;have hnc11:=NB500_499.out;obtain ⟨hcz12_0,hcz12_1,hcz12_2,hfz12_0,hfz12_1,hfz12_2⟩:=cz3 BK499)|((with_reducible refine gate_dst (N:=16) rfl ?_);refine Kd.R_lit k25 _ 25 ?hg (N:=16) ?hd (xs:=([(⟨a1_0,a1_1,a1_2⟩:S25)]:List (S25))) (inner:=[.int .i64 a1_0,.int .i64 a1_1,.int .i64 a1_2]) (ok:=fun _=>True) (okp:=fun _=>True) ?hr ?hp (fun _ hk=>hk) trivial (Below.refl _ _) (Nat.le_refl _) (by simp) ?_;(case hd=>rfl);(case hg=>rfl);(case hr=>first|(go_simp;done)|(go_simp;rfl));(case hp=>exact (Reps.c3 (show Kd.M k25 _ _ _ (⟨a1_0,a1_1,a1_2⟩:S25) [.int .i64 a1_0,.int .i64 a1_1,.int .i64 a1_2] from (k25_mkM _ _ _ (⟨a1_0,a1_1,a1_2⟩:S25) )) (Reps.none _ _)));intro v502 w13 ho14 hb hg_ hnew_;clear hg_ hnew_;(first|rw [← Ny501.out] at ho14|(simp only [Int.reduceToNat] at ho14;rw [← Ny501.out] at ho14));have n0_:=Aside0.mk (Kd.R_lower (Kd.R_newB ho14 (bkA BK499)) (below_size blA));have n1_:=kB BK499 hb;have n2_:=kB BK500 hb;have n3_:=lB hb;clear BK499;clear BK500;clear HB;have HO503:=n0_;have BK499:=n1_;have BK500:=n2_;have HB:=n3_;clear n0_ n1_ n2_ n3_;clear hb ho14;obtain ⟨hcz15_0,hcz15_1,hfz15_0,hfz15_1⟩:=cz2 BK500)|((with_reducible refine gate_dst (N:=18) rfl ?_);refine Kd.R_lit k27 _ 27 ?hg (N:=18) ?hd (xs:=([(⟨a2_0,a2_1⟩:S27)]:List (S27))) (inner:=[.int .i64 a2_0,.int .i64 a2_1]) (ok:=fun _=>True) (okp:=fun _=>True) ?hr ?hp (fun _ hk=>hk) trivial (Below.refl _ _) (Nat.le_refl _) (by simp) ?_;(case hd=>rfl);(case hg=>rfl);(case hr=>first|(go_simp;done)|(go_simp;rfl));(case hp=>exact (Reps.c2 (show Kd.M k27 _ _ _ (⟨a2_0,a2_1⟩:S27) [.int .i64 a2_0,.int .i64 a2_1] from (k27_mkM _ _ _ (⟨a2_0,a2_1⟩:S27) )) (Reps.none _ _)));intro v505 w16 ho17 hb hg_ hnew_;clear hg_ hnew_;(first|rw [← Ny504.out] at ho17|(simp only [Int.reduceToNat] at ho17;rw [← Ny504.out] at ho17));have n0_:=Aside0.mk (Kd.R_below (rA HO503) hb);have n1_:=Aside0.mk (Kd.R_lower (Kd.R_newB ho17 (bkA BK500)) (below_size blA));have n2_:=kB BK499 hb;have n3_:=kB BK500 hb;have n4_:=lB hb;clear HO503;clear BK499;clear BK500;clear HB;have HO503:=n0_;have HO506:=n1_;have BK499:=n2_;have BK500:=n3_;have HB:=n4_;clear n0_ n1_ n2_ n3_ n4_;clear hb ho17;obtain ⟨Ao18,co18,eo18⟩:=Kd.R_slice HO503.out;subst eo18;obtain ⟨Ao19,co19,eo19⟩:=Kd.R_slice HO506.out;subst eo19)|((with_reducible refine gd 19 rfl ?_);refine gC (some 19) rfl Try.func31 (spec_l05Code.calls (w:=_) (hr1:=cR (Kd.R_reads' HO503.out).2.2) (hc1:=(Kd.R_reads' HO503.out).2.1) (hr2:=cR (Kd.R_reads' HO506.out).2.2) (hc2:=(Kd.R_reads' HO506.out).2.1) (h:=A5.out)) ?_;intro w20 hb;have n0_:=Aside0.mk (Kd.R_below (rA HO503) hb);have n1_:=Aside0.mk (Kd.R_below (rA HO506) hb);have n2_:=kB BK499 hb;have n3_:=kB BK500 hb;have n4_:=lB hb;clear HO503;clear HO506;clear BK499;clear BK500;clear HB;have HO503:=n0_;have HO506:=n1_;have BK499:=n2_;have BK500:=n3_;have HB:=n4_;clear n0_ n1_ n2_ n3_ n4_;clear hb)|((with_reducible refine gd 24 rfl ?_);refine gC (some 24) rfl Try.func32 (spec_l01In.calls (w:=_) (h:=A7.out)) ?_;rintro _ ⟨nd,rfl⟩;obtain ⟨hcz21_0,hcz21_1,hcz21_2,hfz21_0,hfz21_1,hfz21_2⟩:=cz3 BK499)|((with_reducible refine gate_dst (N:=27) rfl ?_);refine Kd.R_lit k25 _ 25 ?hg (N:=27) ?hd (xs:=([(⟨a1_0,a1_1,a1_2⟩:S25)]:List (S25))) (inner:=[.int .i64 a1_0,.int .i64 a1_1,.int .i64 a1_2]) (ok:=fun _=>True) (okp:=fun _=>True) ?hr ?hp (fun _ hk=>hk) trivial (Below.refl _ _) (Nat.le_refl _) (by simp) ?_;(case hd=>rfl);(case hg=>rfl);(case hr=>first|(go_simp;done)|(go_simp;rfl));(case hp=>exact (Reps.c3 (show Kd.M k25 _ _ _ (⟨a1_0,a1_1,a1_2⟩:S25) [.int .i64 a1_0,.int .i64 a1_1,.int .i64 a1_2] from (k25_mkM _ _ _ (⟨a1_0,a1_1,a1_2⟩:S25) )) (Reps.none _ _)));intro v510 w22 ho23 hb hg_ hnew_;clear hg_ hnew_;(first|rw [← Ny509.out] at ho23|(simp only [Int.reduceToNat] at ho23;rw [← Ny509.out] at ho23));have n0_:=Aside0.mk (Kd.R_elder' (rA HO503) (Kd.R_base ho23) hb);have n1_:=Aside0.mk (Kd.R_below (rA HO506) hb);have n2_:=Aside0.mk (Kd.R_lower (Kd.R_newB (Kd.R_new' ho23 (Kd.R_lt (rA HO503))) (bkA BK499)) (below_size blA));have n3_:=kB BK499 hb;have n4_:=kB BK500 hb;have n5_:=lB hb;clear HO503;clear HO506;clear BK499;clear BK500;clear HB;have HO503:=n0_;have HO506:=n1_;have HO511:=n2_;have BK499:=n3_;have BK500:=n4_;have HB:=n5_;clear n0_ n1_ n2_ n3_ n4_ n5_;clear hb ho23))
   go_loopg [3,11] k (fun kq v3 v11 w'=>∃ (x3_1:Int) (x11_1:List (S25)),v3=.int .i64 x3_1∧Aside0 (spec_RayOf.l0 kq a0 x3_1 x11_1 a2_0 a2_1=some (r1,r2))∧Aside0 (kq≤k)∧Aside0 (Kd.R k25 25 w' w.heap.size (fun k_=>k_≠gb499) v11 x11_1)∧Aside0 (w'.heap[gb499]?=some (.cells #[.int .i64 a1_0,.int .i64 a1_1,.int .i64 a1_2] 25 (0,0)))∧Aside0 (w'.heap[gb500]?=some (.cells #[.int .i64 a2_0,.int .i64 a2_1] 27 (0,0)))∧Aside0 (Below w.heap.size w w'))
   case atStart=>exact ⟨(a3),(y509),hB,H',⟨Nat.le_refl _⟩,⟨by (with_reducible repeat (first|apply Kd.R_alloc|apply Kd.R_drewN|apply Kd.R_drew));exact Kd.R_mono HO511.out (fun _ hk=>hk.2)⟩,⟨bkA BK499⟩,⟨bkA BK500⟩,⟨blA⟩⟩
   case round=>
    clear H'
    try clear c2
    try clear c3
    try clear c6
    try clear c6b0
    try clear c6b1
    try clear c8
    try clear hcz12_0
    try clear hcz12_1
    try clear hcz12_2
    try clear hcz15_0
    try clear hcz15_1
    try clear hcz21_0
    try clear hcz21_1
    try clear hcz21_2
    try clear hfz12_0
    try clear hfz12_1
    try clear hfz12_2
    try clear hfz15_0
    try clear hfz15_1
    try clear hfz21_0
    try clear hfz21_1
    try clear hfz21_2
    obtain ⟨x3_1,x11_1,rfl,HA,HK1,HO_11,BK499,BK500,HB⟩:=hrel
    cases gk with
    | zero=>exact absurd HA.out (by simp [spec_RayOf.l0])
    | succ k1=>
     have H:=HA.out
     clear HA
     simp only [spec_RayOf.l0] at H
     by_cases c24:x3_1>0
     ·
      rw [if_pos c24] at H
      have c24b0:decide (0<x3_1)=true:=decide_eq_true c24
      clear c24
      obtain ⟨ji25,hji25⟩:∃ j_:Int,(wrap64 ((x11_1.length:Int) - 1))=j_:=⟨_,rfl⟩
      replace H:(if 0≤(ji25) then (if (ji25)<(x11_1.length:Int) then ((spec_l05Next.f k1 a0 ((rd_T25 x11_1 (ji25)).f0) ((rd_T25 x11_1 (ji25)).f1) ((rd_T25 x11_1 (ji25)).f2) a2_0 a2_1).bind fun bt513=>(if bt513.2.2.2=true then (if x11_1.length<5864062014805 then (spec_RayOf.l0 k1 a0 (wrap64 (x3_1 - 1)) (x11_1 ++ [(⟨bt513.1,bt513.2.1,bt513.2.2.1⟩:S25)]) a2_0 a2_1) else (none)) else (some (([]:List (S25)),3)))) else (none)) else (none))=some (r1,r2):=by first|(rw [hji25] at H;exact H)|(simp only [hji25] at H ⊢;exact H)
      have hji25w:(IntKind.i64.wrap ((x11_1.length:Int) - 1))=ji25:=(i64_w _).trans hji25
      by_cases c26:0≤(ji25)
      rotate_left
      ·
       rw [if_neg c26] at H
       exact absurd H (by simp)
      rw [if_pos c26] at H
      have c26b0:=decide_eq_true c26
      clear c26
      by_cases c27:(ji25)<(x11_1.length:Int)
      rotate_left
      ·
       rw [if_neg c27] at H
       exact absurd H (by simp)
      rw [if_pos c27] at H
      have c27b0:=decide_eq_true c27
      clear c27
      replace H:=bS H
      obtain ⟨⟨t513,t514,t515,t516⟩,A28,H⟩:=H
      try dsimp only at H
      by_cases c29:t516=true
      focus
       subst c29
       rw [if_pos rfl] at H
       try dsimp only at H
       by_cases c30:x11_1.length<5864062014805
       rotate_left
       ·
        rw [if_neg c30] at H
        exact absurd H (by simp)
       rw [if_pos c30] at H
       have LMc30:=Aside0.mk c30
       clear c30
       obtain ⟨y518,hy518⟩:∃ y_:List (S25),y_=(x11_1 ++ [(⟨t513,t514,t515⟩:S25)]):=⟨_,rfl⟩
       replace H:(spec_RayOf.l0 k1 a0 (wrap64 (x3_1 - 1)) y518 a2_0 a2_1)=some (r1,r2):=rH hy518 H
       have Ny518:=Aside0.mk hy518
       clear hy518
       have H':=Aside0.mk H
       clear H
      rotate_left
      focus
       replace c29:=Bool.eq_false_iff.mpr c29
       subst c29
       rw [if_neg (show ¬ (false=true) by decide)] at H
       try dsimp only at H
       simp only [Option.some.injEq,Prod.mk.injEq] at H
       obtain ⟨rfl,rfl⟩:=H
      rotate_left
      all_goals
       try go_wp2
       have n0_:=Aside0.mk (Kd.R_drew HO_11.out)
       have n1_:=Aside0.mk (blk_drew BK499.out)
       have n2_:=Aside0.mk (blk_drew BK500.out)
       have n3_:=Aside0.mk (below_drew1 HB.out)
       clear HO_11
       clear BK499
       clear BK500
       clear HB
       have HO_11:=n0_
       have BK499:=n1_
       have BK500:=n2_
       have HB:=n3_
       clear n0_ n1_ n2_ n3_
       obtain ⟨Ao32,co32,eo32⟩:=Kd.R_slice HO_11.out
       (first|subst eo32|(injection eo32 with f1_ f2_ f3_;have f4_:=f1_.symm;have f5_:=f3_.symm;clear f1_ f2_ f3_;subst f4_;subst f5_))
       have p512:0≤((ji25):Int):=dA
       have q512:(ji25)<(x11_1.length:Int):=dA
       obtain ⟨ad512,e512,hx512_0,hx512_1,hx512_2⟩:=at_T25 (Kd.R_reads' HO_11.out).2.2 (ji25) p512 q512
       cases e512
       replace p512:=eq_true p512
       replace q512:=eq_true q512
      ·
       refine start_ (n:=15) (S:=fun w'=>w'.cell? ⟨gb500,0,none⟩=some (.int .i64 a2_0)∧w'.cell? ⟨gb500,1,none⟩=some (.int .i64 a2_1)∧w'.cell? (ad512.add (((ji25)).toNat*3))=some (.int .i64 ((rd_T25 x11_1 (ji25)).f0))∧w'.cell? ⟨(ad512.add (((ji25)).toNat*3)).block,(ad512.add (((ji25)).toNat*3)).off+1,none⟩=some (.int .i64 ((rd_T25 x11_1 (ji25)).f1))∧w'.cell? ⟨(ad512.add (((ji25)).toNat*3)).block,(ad512.add (((ji25)).toNat*3)).off+2,none⟩=some (.int .i64 ((rd_T25 x11_1 (ji25)).f2))) (ds:=[]) #[Z,Z,Z,Z,Z,Z,Z,Z,Z,Z,Z,Z,Z,Z,Z] (by kernel_rfl) rfl rfl ⟨cA BK500 0,cA BK500 1,hx512_0,hx512_1,hx512_2⟩ (fun hHeld=>?_);refine with_tabW spec_RayOf.tab9 spec_RayOf.bits9 (fun HT_ HW_=>?_)
       generalize wr.drew=w31 at HO_11 BK499 BK500 HB hx512_0 hx512_1 hx512_2 hHeld ⊢
       refine puA (i:=0) (N:=some 33) #[Y,Z,Z,Z,Z,Z,Z,Z,Z,Z,Z,Z,Z,Z,Z] rfl rfl HT_ ?_
       refine puA (i:=1) (N:=some 34) #[Y,Y,Z,Z,Z,Z,Z,Z,Z,Z,Z,Z,Z,Z,Z] rfl rfl HT_ ?_
       refine puA (i:=2) (N:=some 35) #[Y,Y,Y,Z,Z,Z,Z,Z,Z,Z,Z,Z,Z,Z,Z] rfl rfl HT_ ?_
       refine puA (i:=3) (N:=some 36) #[Y,Y,Y,Y,Z,Z,Z,Z,Z,Z,Z,Z,Z,Z,Z] rfl rfl HT_ ?_
       refine puA (i:=4) (N:=some 37) #[Y,Y,Y,Y,Y,Z,Z,Z,Z,Z,Z,Z,Z,Z,Z] rfl rfl HT_ ?_
       refine puA (i:=5) (N:=some 38) #[Y,Y,Y,Y,Y,Y,Z,Z,Z,Z,Z,Z,Z,Z,Z] rfl rfl HT_ ?_
       refine taA (i:=6) (N:=some 39) #[Y,Y,Y,Y,Y,Y,Y,Z,Z,Z,Z,Z,Z,Z,Z] rfl rfl HT_ HW_ hHeld ?_
       refine taA (i:=7) (N:=some 40) #[Y,Y,Y,Y,Y,Y,Y,Y,Z,Z,Z,Z,Z,Z,Z] rfl rfl HT_ HW_ hHeld ?_
       refine join_ (σ:=Nat) 2 #[Y,Y,Y,Y,Y,Y,Y,Y,Y,Y,Y,Y,Y,Z,Z] (fun s_=>[(41,.tuple #[.agg #[.int .i64 t513,.int .i64 t514,.int .i64 t515],.bool true]),(12,.pointer (some ⟨s_,0,none⟩)),(32,.tuple #[.agg #[.int .i64 t513,.int .i64 t514,.int .i64 t515],.bool true]),(42,.agg #[.int .i64 t513,.int .i64 t514,.int .i64 t515]),(43,.bool true)]) (fun s_ w'=>(w'.cell? ⟨gb500,0,none⟩=some (.int .i64 a2_0)∧w'.cell? ⟨gb500,1,none⟩=some (.int .i64 a2_1)∧w'.cell? (ad512.add (((ji25)).toNat*3))=some (.int .i64 ((rd_T25 x11_1 (ji25)).f0))∧w'.cell? ⟨(ad512.add (((ji25)).toNat*3)).block,(ad512.add (((ji25)).toNat*3)).off+1,none⟩=some (.int .i64 ((rd_T25 x11_1 (ji25)).f1))∧w'.cell? ⟨(ad512.add (((ji25)).toNat*3)).block,(ad512.add (((ji25)).toNat*3)).off+2,none⟩=some (.int .i64 ((rd_T25 x11_1 (ji25)).f2)))∧(Kd.R k25 25 w' w.heap.size (fun k_=>k_≠gb499∧k_≠s_) (.slice (some ad512) x11_1.length co32) x11_1)∧(w'.heap[gb499]?=some (.cells #[.int .i64 a1_0,.int .i64 a1_1,.int .i64 a1_2] 25 (0,0)))∧(w'.heap[gb500]?=some (.cells #[.int .i64 a2_0,.int .i64 a2_1] 27 (0,0)))∧(w'.heap[s_]?=some (.cells #[.int .i64 0,.int .i64 0,.int .i64 0] 25 (0,0)))∧(w.heap.size≤s_)∧(w.heap.size≤s_)∧(gb499≠s_)∧(s_≠gb499)∧(gb500≠s_)∧(s_≠gb500)∧(Below w.heap.size w w')) ?_ ?_
       rotate_left
       ·
        intro hCont
        refine two_ (i:=8) (j:=12) (Ni:=some 41) (Nj:=some 12) #[Y,Y,Y,Y,Y,Y,Y,Y,Y,Z,Z,Z,Z,Z,Z] #[Y,Y,Y,Y,Y,Y,Y,Y,Z,Z,Z,Z,Y,Z,Z] rfl rfl rfl rfl (two_of HT_.out (by kernel_rfl)) (by decide) (by decide) (fun K hK=>?_) (fun K hK=>?_)
        ·
         skip
         refine goes_ Try.func33 (by kernel_rfl) rfl #[.int .i64 a0,.agg #[.int .i64 ((rd_T25 x11_1 (ji25)).f0),.int .i64 ((rd_T25 x11_1 (ji25)).f1),.int .i64 ((rd_T25 x11_1 (ji25)).f2)],.agg #[.int .i64 a2_0,.int .i64 a2_1]] (by rfl) rfl rfl (by (try simp only [List.map_toArray,List.map_cons,List.map_nil]);first|done|(simp only [hji25];rfl)|rfl|(simp only [List.length_drop,List.length_take];rfl)) ?_
         with_reducible refine (spec_l05Next.calls k1 a0 ((rd_T25 x11_1 (ji25)).f0) ((rd_T25 x11_1 (ji25)).f1) ((rd_T25 x11_1 (ji25)).f2) a2_0 a2_1 t513 t514 t515 true _ A28.out).mono ?_
         rintro e w33 ⟨rfl,hb⟩
         have HS2_:=(hb.cell (World.block_lt_of_cell? _ _ (hHeld.2.2.1))).trans (hHeld.2.2.1)
         have HS3_:=(hb.cell (World.block_lt_of_cell? _ _ (hHeld.2.2.2.1))).trans (hHeld.2.2.2.1)
         have HS4_:=(hb.cell (World.block_lt_of_cell? _ _ (hHeld.2.2.2.2))).trans (hHeld.2.2.2.2)
         refine ⟨_,rfl,?_⟩
         replace HO_11:=Aside0.mk (Kd.R_below (rA HO_11) hb)
         replace BK499:=kB BK499 hb
         replace BK500:=kB BK500 hb
         replace HB:=lB hb
         (try clear hb)
         (try clear hb2)
         (try clear hk)
         (try clear hi)
         refine hK.out _ _ ⟨cA BK500 0,cA BK500 1,HS2_,HS3_,HS4_⟩ (fun hHeld=>?_)
         clear hK K
         refine nmA ?_
         refine puA (i:=9) (N:=some 32) #[Y,Y,Y,Y,Y,Y,Y,Y,Y,Y,Z,Z,Z,Z,Z] rfl rfl HT_ ?_
         refine puA (i:=10) (N:=some 42) #[Y,Y,Y,Y,Y,Y,Y,Y,Y,Y,Y,Z,Z,Z,Z] rfl rfl HT_ ?_
         refine puA (i:=11) (N:=some 43) #[Y,Y,Y,Y,Y,Y,Y,Y,Y,Y,Y,Y,Z,Z,Z] rfl rfl HT_ ?_
         refine one_ (i:=12) (N:=some 12) #[Y,Y,Y,Y,Y,Y,Y,Y,Y,Y,Y,Y,Y,Z,Z] rfl rfl (one_of HT_.out (by kernel_rfl)) (by decide) (fun K hK=>?_)
         refine box_step ?hg (N:=12) ?hd (cs:=#[.int .i64 0,.int .i64 0,.int .i64 0]) (t:=25) ?hr ?_;(case hd=>rfl);(case hg=>rfl);(case hr=>first|(go_simp;done)|(go_simp;rfl))
         intro gb517 hg w34 hbox hb
         have HS2_:=(hb.cell (World.block_lt_of_cell? _ _ (hHeld.2.2.1))).trans (hHeld.2.2.1)
         have HS3_:=(hb.cell (World.block_lt_of_cell? _ _ (hHeld.2.2.2.1))).trans (hHeld.2.2.2.1)
         have HS4_:=(hb.cell (World.block_lt_of_cell? _ _ (hHeld.2.2.2.2))).trans (hHeld.2.2.2.2)
         have BK517:=Aside0.mk hbox
         have GW517:=sA hg
         have GE517:=sA hg
         have NB499_517:=nA hg BK499
         have NB517_499:=nB hg BK499
         have NB500_517:=nA hg BK500
         have NB517_500:=nB hg BK500
         replace HO_11:=Aside0.mk (Kd.R_below (Kd.R_elderB (rA HO_11) gb517 (Nat.le_of_eq hg.symm)) hb)
         replace BK499:=kB BK499 hb
         replace BK500:=kB BK500 hb
         replace HB:=lB hb
         clear hb hbox hg
         refine hK.out _ _ ⟨cA BK500 0,cA BK500 1,HS2_,HS3_,HS4_⟩ (fun hHeld=>?_)
         clear hK K
         refine nmA ?_
         exact norm_ (by simp only [putAll,Act.put,List.setIfInBounds_toArray,List.set_cons_zero,List.set_cons_succ]) (hCont (gb517) _ ⟨hHeld,(rA HO_11),(bkA BK499),(bkA BK500),(bkA BK517),GW517.out,GE517.out,NB499_517.out,NB517_499.out,NB500_517.out,NB517_500.out,blA⟩)
        ·
         skip
         refine box_step ?hg (N:=12) ?hd (cs:=#[.int .i64 0,.int .i64 0,.int .i64 0]) (t:=25) ?hr ?_;(case hd=>rfl);(case hg=>rfl);(case hr=>first|(go_simp;done)|(go_simp;rfl))
         intro gb517 hg w33 hbox hb
         have HS2_:=(hb.cell (World.block_lt_of_cell? _ _ (hHeld.2.2.1))).trans (hHeld.2.2.1)
         have HS3_:=(hb.cell (World.block_lt_of_cell? _ _ (hHeld.2.2.2.1))).trans (hHeld.2.2.2.1)
         have HS4_:=(hb.cell (World.block_lt_of_cell? _ _ (hHeld.2.2.2.2))).trans (hHeld.2.2.2.2)
         have BK517:=Aside0.mk hbox
         have GW517:=sA hg
         have GE517:=sA hg
         have NB499_517:=nA hg BK499
         have NB517_499:=nB hg BK499
         have NB500_517:=nA hg BK500
         have NB517_500:=nB hg BK500
         replace HO_11:=Aside0.mk (Kd.R_below (Kd.R_elderB (rA HO_11) gb517 (Nat.le_of_eq hg.symm)) hb)
         replace BK499:=kB BK499 hb
         replace BK500:=kB BK500 hb
         replace HB:=lB hb
         clear hb hbox hg
         refine hK.out _ _ ⟨cA BK500 0,cA BK500 1,HS2_,HS3_,HS4_⟩ (fun hHeld=>?_)
         clear hK K
         refine nmA ?_
         refine one_ (i:=8) (N:=some 41) #[Y,Y,Y,Y,Y,Y,Y,Y,Y,Z,Z,Z,Y,Z,Z] rfl rfl (one_of HT_.out (by kernel_rfl)) (by decide) (fun K hK=>?_)
         refine goes_ Try.func33 (by kernel_rfl) rfl #[.int .i64 a0,.agg #[.int .i64 ((rd_T25 x11_1 (ji25)).f0),.int .i64 ((rd_T25 x11_1 (ji25)).f1),.int .i64 ((rd_T25 x11_1 (ji25)).f2)],.agg #[.int .i64 a2_0,.int .i64 a2_1]] (by rfl) rfl rfl (by (try simp only [List.map_toArray,List.map_cons,List.map_nil]);first|done|(simp only [hji25];rfl)|rfl|(simp only [List.length_drop,List.length_take];rfl)) ?_
         with_reducible refine (spec_l05Next.calls k1 a0 ((rd_T25 x11_1 (ji25)).f0) ((rd_T25 x11_1 (ji25)).f1) ((rd_T25 x11_1 (ji25)).f2) a2_0 a2_1 t513 t514 t515 true _ A28.out).mono ?_
         rintro e w34 ⟨rfl,hb⟩
         have HS2_:=(hb.cell (World.block_lt_of_cell? _ _ (hHeld.2.2.1))).trans (hHeld.2.2.1)
         have HS3_:=(hb.cell (World.block_lt_of_cell? _ _ (hHeld.2.2.2.1))).trans (hHeld.2.2.2.1)
         have HS4_:=(hb.cell (World.block_lt_of_cell? _ _ (hHeld.2.2.2.2))).trans (hHeld.2.2.2.2)
         refine ⟨_,rfl,?_⟩
         replace HO_11:=Aside0.mk (Kd.R_below (rA HO_11) hb)
         replace BK499:=kB BK499 hb
         replace BK500:=kB BK500 hb
         replace BK517:=kB BK517 hb
         replace HB:=lB hb
         (try clear hb)
         (try clear hb2)
         (try clear hk)
         (try clear hi)
         refine hK.out _ _ ⟨cA BK500 0,cA BK500 1,HS2_,HS3_,HS4_⟩ (fun hHeld=>?_)
         clear hK K
         refine nmA ?_
         refine puA (i:=9) (N:=some 32) #[Y,Y,Y,Y,Y,Y,Y,Y,Y,Y,Z,Z,Y,Z,Z] rfl rfl HT_ ?_
         refine puA (i:=10) (N:=some 42) #[Y,Y,Y,Y,Y,Y,Y,Y,Y,Y,Y,Z,Y,Z,Z] rfl rfl HT_ ?_
         refine puA (i:=11) (N:=some 43) #[Y,Y,Y,Y,Y,Y,Y,Y,Y,Y,Y,Y,Y,Z,Z] rfl rfl HT_ ?_
         exact norm_ (by simp only [putAll,Act.put,List.setIfInBounds_toArray,List.set_cons_zero,List.set_cons_succ]) (hCont (gb517) _ ⟨hHeld,(rA HO_11),(bkA BK499),(bkA BK500),(bkA BK517),GW517.out,GE517.out,NB499_517.out,NB517_499.out,NB500_517.out,NB517_500.out,blA⟩)
       rintro gb517 w35 ⟨hS_,h0_,h1_,h2_,h3_,h4_,h5_,h6_,h7_,h8_,h9_,h10_⟩
       have BK517:=Aside0.mk h3_
       have GW517:=Aside0.mk h4_
       have GE517:=Aside0.mk h5_
       have NB499_517:=Aside0.mk h6_
       have NB517_499:=Aside0.mk h7_
       have NB500_517:=Aside0.mk h8_
       have NB517_500:=Aside0.mk h9_
       replace HO_11:=Aside0.mk h0_
       replace BK499:=Aside0.mk h1_
       replace BK500:=Aside0.mk h2_
       replace HB:=Aside0.mk h10_
       clear h0_ h1_ h2_ h3_ h4_ h5_ h6_ h7_ h8_ h9_ h10_
       have hHeld:w35.cell? ⟨gb500,0,none⟩=some (.int .i64 a2_0)∧w35.cell? ⟨gb500,1,none⟩=some (.int .i64 a2_1)∧w35.cell? (ad512.add (((ji25)).toNat*3))=some (.int .i64 ((rd_T25 x11_1 (ji25)).f0))∧w35.cell? ⟨(ad512.add (((ji25)).toNat*3)).block,(ad512.add (((ji25)).toNat*3)).off+1,none⟩=some (.int .i64 ((rd_T25 x11_1 (ji25)).f1))∧w35.cell? ⟨(ad512.add (((ji25)).toNat*3)).block,(ad512.add (((ji25)).toNat*3)).off+2,none⟩=some (.int .i64 ((rd_T25 x11_1 (ji25)).f2)):=hS_
       refine norm_ (a':=?_) ?_ ?_
       rotate_left
       ·
        simp only [putAll,Act.put,List.setIfInBounds_toArray,List.set_cons_zero,List.set_cons_succ]
        rfl
       refine one_ (i:=13) (N:=none) #[Y,Y,Y,Y,Y,Y,Y,Y,Y,Y,Y,Y,Y,Y,Z] rfl rfl (one_of HT_.out (by kernel_rfl)) (by decide) (fun K hK=>?_)
       have hs36:w35.cell? ⟨gb517,0,none⟩=some (.int .i64 0):=cA BK517 0
       have hfs36:=blk_frozen BK517.out 0
       have hns36_0:=NB499_517.out
       have hns36_1:=NB500_517.out
       have hms36_0:=NB517_499.out
       have hms36_1:=NB517_500.out
       have hs37:w35.cell? ⟨gb517,1,none⟩=some (.int .i64 0):=cA BK517 1
       have hfs37:=blk_frozen BK517.out 1
       have hns37_0:=NB499_517.out
       have hns37_1:=NB500_517.out
       have hms37_0:=NB517_499.out
       have hms37_1:=NB517_500.out
       have hs38:w35.cell? ⟨gb517,2,none⟩=some (.int .i64 0):=cA BK517 2
       have hfs38:=blk_frozen BK517.out 2
       have hns38_0:=NB499_517.out
       have hns38_1:=NB500_517.out
       have hms38_0:=NB517_499.out
       have hms38_1:=NB517_500.out
       refine skip_ (w1:=?_) (by rfl) rfl ?_ ?_
       rotate_left
       ·
        go_simp
        rfl
       refine hK.out _ _ ⟨cfA hHeld.1,cfA hHeld.2.1,((cell_far (p:=⟨gb517,_,none⟩) (fB (Kd.own_blk (Kd.R_away HO_11.out (fun _ hk=>hk.2)))) _).trans (((cell_far (p:=⟨gb517,_,none⟩) (fB (Kd.own_blk (Kd.R_away HO_11.out (fun _ hk=>hk.2)))) _).trans (((cell_far (p:=⟨gb517,_,none⟩) (fB (Kd.own_blk (Kd.R_away HO_11.out (fun _ hk=>hk.2)))) _).trans (hHeld.2.2.1)))))),((cell_far (p:=⟨gb517,_,none⟩) (fB (Kd.own_blk (Kd.R_away HO_11.out (fun _ hk=>hk.2)))) _).trans (((cell_far (p:=⟨gb517,_,none⟩) (fB (Kd.own_blk (Kd.R_away HO_11.out (fun _ hk=>hk.2)))) _).trans (((cell_far (p:=⟨gb517,_,none⟩) (fB (Kd.own_blk (Kd.R_away HO_11.out (fun _ hk=>hk.2)))) _).trans (hHeld.2.2.2.1)))))),((cell_far (p:=⟨gb517,_,none⟩) (fB (Kd.own_blk (Kd.R_away HO_11.out (fun _ hk=>hk.2)))) _).trans (((cell_far (p:=⟨gb517,_,none⟩) (fB (Kd.own_blk (Kd.R_away HO_11.out (fun _ hk=>hk.2)))) _).trans (((cell_far (p:=⟨gb517,_,none⟩) (fB (Kd.own_blk (Kd.R_away HO_11.out (fun _ hk=>hk.2)))) _).trans (hHeld.2.2.2.2))))))⟩ (fun hHeld=>?_)
       clear hK K
       refine puA (i:=14) (N:=some 13) #[Y,Y,Y,Y,Y,Y,Y,Y,Y,Y,Y,Y,Y,Y,Y] rfl rfl HT_ ?_
       refine done_ (done_of HT_.out (by kernel_rfl)) ?_
       have hnb39:=NB517_499.out
       have hnc39:=NB499_517.out
       have hnb40:=NB517_500.out
       have hnc40:=NB500_517.out
       obtain ⟨hcz41_0,hcz41_1,hcz41_2,hfz41_0,hfz41_1,hfz41_2⟩:=cz3 BK517
       try go_wp2_with (first|((with_reducible refine gate_builtin (b:=.append) (xs:=#[.tmp 46,.tmp 48]) rfl ?_);at_builtin;refine Kd.R_append k25 (w0:=w) w.heap.size rfl (.tmp 46) (.tmp 48) 30 25 (.agg #[(.int .i64 0),(.int .i64 0),(.int .i64 0)]) 24 rfl Try.underlying30 info25 rfl (by decide) (by omega) (.slice (some ad512) x11_1.length co32) x11_1 (⟨t513,t514,t515⟩:S25) [.int .i64 t513,.int .i64 t514,.int .i64 t515] (fun k_=>k_≠gb499∧k_≠gb517) (fun _=>False) rfl (by first|(go_simp;done)|(go_simp;rfl)) ?aP (fun _ hk=>hk.elim) ?aF ?aO ?aB ?aS ?aL ?_;(case aP=>exact k25_mkM _ _ _ (⟨t513,t514,t515⟩:S25));(case aB=>exact blA);(case aF=>exact (fun k_ hk=>⟨Kd.freshB (g:=gb499) (o:=.cells #[.int .i64 a1_0,.int .i64 a1_1,.int .i64 a1_2] 25 (0,0)) (bkF BK499) k_ hk,Kd.freshB (g:=gb517) (o:=.cells #[.int .i64 t513,.int .i64 t514,.int .i64 t515] 25 (0,0)) (bpA BK517) k_ hk⟩));(case aO=>exact (by (with_reducible repeat (first|apply Kd.R_alloc|apply Kd.R_drewN|apply Kd.R_drew));exact Kd.R_mono (Kd.R_far (p:=⟨gb517,2,none⟩) (Kd.R_far (p:=⟨gb517,1,none⟩) (Kd.R_far (p:=⟨gb517,0,none⟩) (Kd.R_mono HO_11.out (fun k_ hk=>(⟨hk,hk.2⟩:_∧k_≠gb517))) (fun _ hk=>hk.2) (.int .i64 t513)) (fun _ hk=>hk.2) (.int .i64 t514)) (fun _ hk=>hk.2) (.int .i64 t515)) (fun _ hk=>⟨hk.1.1,hk.1.2⟩)));(case aS=>exact (below_size blA));(case aL=>have:=LMc30.out;omega);intro v519 w42 ho hb hg hat;rw [← Ny518.out] at ho;have n0_:=Aside0.mk (blk_grown (g:=gb499) (o:=.cells #[.int .i64 a1_0,.int .i64 a1_1,.int .i64 a1_2] 25 (0,0)) (bkF BK499) hg (Kd.R_away HO_11.out (fun _ hk=>hk.1)));have n1_:=Aside0.mk (blk_grown (g:=gb500) (o:=.cells #[.int .i64 a2_0,.int .i64 a2_1] 27 (0,0)) (bkF BK500) hg (Kd.R_ne HO_11.out BK500.out (by decide)));have n2_:=Aside0.mk (blk_grown (g:=gb517) (o:=.cells #[.int .i64 t513,.int .i64 t514,.int .i64 t515] 25 (0,0)) (bpA BK517) hg (Kd.R_away HO_11.out (fun _ hk=>hk.2)));have n3_:=Aside0.mk hb;have n4_:=Aside0.mk ho;clear BK499;clear BK500;clear BK517;clear HB;clear HO_11;have BK499:=n0_;have BK500:=n1_;have BK517:=n2_;have HB:=n3_;have HO520:=n4_;clear n0_ n1_ n2_ n3_ n4_;clear ho hb hg hat))
       go_roundg k1
       case measure=>have:=HK1.out;omega
       case rel=>exact ⟨(wrap64 (x3_1 - 1)),(y518),hB,H',⟨by have:=HK1.out;omega⟩,⟨by (with_reducible repeat (first|apply Kd.R_alloc|apply Kd.R_drewN|apply Kd.R_drew));exact Kd.R_mono HO520.out (fun _ hk=>hk.1)⟩,⟨bkA BK499⟩,⟨bkA BK500⟩,⟨blA⟩⟩
      ·
       refine start_ (n:=15) (S:=fun w'=>w'.cell? ⟨gb500,0,none⟩=some (.int .i64 a2_0)∧w'.cell? ⟨gb500,1,none⟩=some (.int .i64 a2_1)∧w'.cell? (ad512.add (((ji25)).toNat*3))=some (.int .i64 ((rd_T25 x11_1 (ji25)).f0))∧w'.cell? ⟨(ad512.add (((ji25)).toNat*3)).block,(ad512.add (((ji25)).toNat*3)).off+1,none⟩=some (.int .i64 ((rd_T25 x11_1 (ji25)).f1))∧w'.cell? ⟨(ad512.add (((ji25)).toNat*3)).block,(ad512.add (((ji25)).toNat*3)).off+2,none⟩=some (.int .i64 ((rd_T25 x11_1 (ji25)).f2))) (ds:=[]) #[Z,Z,Z,Z,Z,Z,Z,Z,Z,Z,Z,Z,Z,Z,Z] (by kernel_rfl) rfl rfl ⟨cA BK500 0,cA BK500 1,hx512_0,hx512_1,hx512_2⟩ (fun hHeld=>?_);refine with_tabW spec_RayOf.tab9 spec_RayOf.bits9 (fun HT_ HW_=>?_)
       generalize wr.drew=w43 at HO_11 BK499 BK500 HB hx512_0 hx512_1 hx512_2 hHeld ⊢
       refine puA (i:=0) (N:=some 33) #[Y,Z,Z,Z,Z,Z,Z,Z,Z,Z,Z,Z,Z,Z,Z] rfl rfl HT_ ?_
       refine puA (i:=1) (N:=some 34) #[Y,Y,Z,Z,Z,Z,Z,Z,Z,Z,Z,Z,Z,Z,Z] rfl rfl HT_ ?_
       refine puA (i:=2) (N:=some 35) #[Y,Y,Y,Z,Z,Z,Z,Z,Z,Z,Z,Z,Z,Z,Z] rfl rfl HT_ ?_
       refine puA (i:=3) (N:=some 36) #[Y,Y,Y,Y,Z,Z,Z,Z,Z,Z,Z,Z,Z,Z,Z] rfl rfl HT_ ?_
       refine puA (i:=4) (N:=some 37) #[Y,Y,Y,Y,Y,Z,Z,Z,Z,Z,Z,Z,Z,Z,Z] rfl rfl HT_ ?_
       refine puA (i:=5) (N:=some 38) #[Y,Y,Y,Y,Y,Y,Z,Z,Z,Z,Z,Z,Z,Z,Z] rfl rfl HT_ ?_
       refine taA (i:=6) (N:=some 39) #[Y,Y,Y,Y,Y,Y,Y,Z,Z,Z,Z,Z,Z,Z,Z] rfl rfl HT_ HW_ hHeld ?_
       refine taA (i:=7) (N:=some 40) #[Y,Y,Y,Y,Y,Y,Y,Y,Z,Z,Z,Z,Z,Z,Z] rfl rfl HT_ HW_ hHeld ?_
       refine join_ (σ:=Nat) 2 #[Y,Y,Y,Y,Y,Y,Y,Y,Y,Y,Y,Y,Y,Z,Z] (fun s_=>[(41,.tuple #[.agg #[.int .i64 t513,.int .i64 t514,.int .i64 t515],.bool false]),(12,.pointer (some ⟨s_,0,none⟩)),(32,.tuple #[.agg #[.int .i64 t513,.int .i64 t514,.int .i64 t515],.bool false]),(42,.agg #[.int .i64 t513,.int .i64 t514,.int .i64 t515]),(43,.bool false)]) (fun s_ w'=>(w'.cell? ⟨gb500,0,none⟩=some (.int .i64 a2_0)∧w'.cell? ⟨gb500,1,none⟩=some (.int .i64 a2_1)∧w'.cell? (ad512.add (((ji25)).toNat*3))=some (.int .i64 ((rd_T25 x11_1 (ji25)).f0))∧w'.cell? ⟨(ad512.add (((ji25)).toNat*3)).block,(ad512.add (((ji25)).toNat*3)).off+1,none⟩=some (.int .i64 ((rd_T25 x11_1 (ji25)).f1))∧w'.cell? ⟨(ad512.add (((ji25)).toNat*3)).block,(ad512.add (((ji25)).toNat*3)).off+2,none⟩=some (.int .i64 ((rd_T25 x11_1 (ji25)).f2)))∧(Kd.R k25 25 w' w.heap.size (fun k_=>k_≠gb499∧k_≠s_) (.slice (some ad512) x11_1.length co32) x11_1)∧(w'.heap[gb499]?=some (.cells #[.int .i64 a1_0,.int .i64 a1_1,.int .i64 a1_2] 25 (0,0)))∧(w'.heap[gb500]?=some (.cells #[.int .i64 a2_0,.int .i64 a2_1] 27 (0,0)))∧(w'.heap[s_]?=some (.cells #[.int .i64 0,.int .i64 0,.int .i64 0] 25 (0,0)))∧(w.heap.size≤s_)∧(w.heap.size≤s_)∧(gb499≠s_)∧(s_≠gb499)∧(gb500≠s_)∧(s_≠gb500)∧(Below w.heap.size w w')) ?_ ?_
       rotate_left
       ·
        intro hCont
        refine two_ (i:=8) (j:=12) (Ni:=some 41) (Nj:=some 12) #[Y,Y,Y,Y,Y,Y,Y,Y,Y,Z,Z,Z,Z,Z,Z] #[Y,Y,Y,Y,Y,Y,Y,Y,Z,Z,Z,Z,Y,Z,Z] rfl rfl rfl rfl (two_of HT_.out (by kernel_rfl)) (by decide) (by decide) (fun K hK=>?_) (fun K hK=>?_)
        ·
         skip
         refine goes_ Try.func33 (by kernel_rfl) rfl #[.int .i64 a0,.agg #[.int .i64 ((rd_T25 x11_1 (ji25)).f0),.int .i64 ((rd_T25 x11_1 (ji25)).f1),.int .i64 ((rd_T25 x11_1 (ji25)).f2)],.agg #[.int .i64 a2_0,.int .i64 a2_1]] (by rfl) rfl rfl (by (try simp only [List.map_toArray,List.map_cons,List.map_nil]);first|done|(simp only [hji25];rfl)|rfl|(simp only [List.length_drop,List.length_take];rfl)) ?_
         with_reducible refine (spec_l05Next.calls k1 a0 ((rd_T25 x11_1 (ji25)).f0) ((rd_T25 x11_1 (ji25)).f1) ((rd_T25 x11_1 (ji25)).f2) a2_0 a2_1 t513 t514 t515 false _ A28.out).mono ?_
         rintro e w45 ⟨rfl,hb⟩
         have HS2_:=(hb.cell (World.block_lt_of_cell? _ _ (hHeld.2.2.1))).trans (hHeld.2.2.1)
         have HS3_:=(hb.cell (World.block_lt_of_cell? _ _ (hHeld.2.2.2.1))).trans (hHeld.2.2.2.1)
         have HS4_:=(hb.cell (World.block_lt_of_cell? _ _ (hHeld.2.2.2.2))).trans (hHeld.2.2.2.2)
         refine ⟨_,rfl,?_⟩
         replace HO_11:=Aside0.mk (Kd.R_below (rA HO_11) hb)
         replace BK499:=kB BK499 hb
         replace BK500:=kB BK500 hb
         replace HB:=lB hb
         (try clear hb)
         (try clear hb2)
         (try clear hk)
         (try clear hi)
         refine hK.out _ _ ⟨cA BK500 0,cA BK500 1,HS2_,HS3_,HS4_⟩ (fun hHeld=>?_)
         clear hK K
         refine nmA ?_
         refine puA (i:=9) (N:=some 32) #[Y,Y,Y,Y,Y,Y,Y,Y,Y,Y,Z,Z,Z,Z,Z] rfl rfl HT_ ?_
         refine puA (i:=10) (N:=some 42) #[Y,Y,Y,Y,Y,Y,Y,Y,Y,Y,Y,Z,Z,Z,Z] rfl rfl HT_ ?_
         refine puA (i:=11) (N:=some 43) #[Y,Y,Y,Y,Y,Y,Y,Y,Y,Y,Y,Y,Z,Z,Z] rfl rfl HT_ ?_
         refine one_ (i:=12) (N:=some 12) #[Y,Y,Y,Y,Y,Y,Y,Y,Y,Y,Y,Y,Y,Z,Z] rfl rfl (one_of HT_.out (by kernel_rfl)) (by decide) (fun K hK=>?_)
         refine box_step ?hg (N:=12) ?hd (cs:=#[.int .i64 0,.int .i64 0,.int .i64 0]) (t:=25) ?hr ?_;(case hd=>rfl);(case hg=>rfl);(case hr=>first|(go_simp;done)|(go_simp;rfl))
         intro gb517 hg w46 hbox hb
         have HS2_:=(hb.cell (World.block_lt_of_cell? _ _ (hHeld.2.2.1))).trans (hHeld.2.2.1)
         have HS3_:=(hb.cell (World.block_lt_of_cell? _ _ (hHeld.2.2.2.1))).trans (hHeld.2.2.2.1)
         have HS4_:=(hb.cell (World.block_lt_of_cell? _ _ (hHeld.2.2.2.2))).trans (hHeld.2.2.2.2)
         have BK517:=Aside0.mk hbox
         have GW517:=sA hg
         have GE517:=sA hg
         have NB499_517:=nA hg BK499
         have NB517_499:=nB hg BK499
         have NB500_517:=nA hg BK500
         have NB517_500:=nB hg BK500
         replace HO_11:=Aside0.mk (Kd.R_below (Kd.R_elderB (rA HO_11) gb517 (Nat.le_of_eq hg.symm)) hb)
         replace BK499:=kB BK499 hb
         replace BK500:=kB BK500 hb
         replace HB:=lB hb
         clear hb hbox hg
         refine hK.out _ _ ⟨cA BK500 0,cA BK500 1,HS2_,HS3_,HS4_⟩ (fun hHeld=>?_)
         clear hK K
         refine nmA ?_
         exact norm_ (by simp only [putAll,Act.put,List.setIfInBounds_toArray,List.set_cons_zero,List.set_cons_succ]) (hCont (gb517) _ ⟨hHeld,(rA HO_11),(bkA BK499),(bkA BK500),(bkA BK517),GW517.out,GE517.out,NB499_517.out,NB517_499.out,NB500_517.out,NB517_500.out,blA⟩)
        ·
         skip
         refine box_step ?hg (N:=12) ?hd (cs:=#[.int .i64 0,.int .i64 0,.int .i64 0]) (t:=25) ?hr ?_;(case hd=>rfl);(case hg=>rfl);(case hr=>first|(go_simp;done)|(go_simp;rfl))
         intro gb517 hg w45 hbox hb
         have HS2_:=(hb.cell (World.block_lt_of_cell? _ _ (hHeld.2.2.1))).trans (hHeld.2.2.1)
         have HS3_:=(hb.cell (World.block_lt_of_cell? _ _ (hHeld.2.2.2.1))).trans (hHeld.2.2.2.1)
         have HS4_:=(hb.cell (World.block_lt_of_cell? _ _ (hHeld.2.2.2.2))).trans (hHeld.2.2.2.2)
         have BK517:=Aside0.mk hbox
         have GW517:=sA hg
         have GE517:=sA hg
         have NB499_517:=nA hg BK499
         have NB517_499:=nB hg BK499
         have NB500_517:=nA hg BK500
         have NB517_500:=nB hg BK500
         replace HO_11:=Aside0.mk (Kd.R_below (Kd.R_elderB (rA HO_11) gb517 (Nat.le_of_eq hg.symm)) hb)
         replace BK499:=kB BK499 hb
         replace BK500:=kB BK500 hb
         replace HB:=lB hb
         clear hb hbox hg
         refine hK.out _ _ ⟨cA BK500 0,cA BK500 1,HS2_,HS3_,HS4_⟩ (fun hHeld=>?_)
         clear hK K
         refine nmA ?_
         refine one_ (i:=8) (N:=some 41) #[Y,Y,Y,Y,Y,Y,Y,Y,Y,Z,Z,Z,Y,Z,Z] rfl rfl (one_of HT_.out (by kernel_rfl)) (by decide) (fun K hK=>?_)
         refine goes_ Try.func33 (by kernel_rfl) rfl #[.int .i64 a0,.agg #[.int .i64 ((rd_T25 x11_1 (ji25)).f0),.int .i64 ((rd_T25 x11_1 (ji25)).f1),.int .i64 ((rd_T25 x11_1 (ji25)).f2)],.agg #[.int .i64 a2_0,.int .i64 a2_1]] (by rfl) rfl rfl (by (try simp only [List.map_toArray,List.map_cons,List.map_nil]);first|done|(simp only [hji25];rfl)|rfl|(simp only [List.length_drop,List.length_take];rfl)) ?_
         with_reducible refine (spec_l05Next.calls k1 a0 ((rd_T25 x11_1 (ji25)).f0) ((rd_T25 x11_1 (ji25)).f1) ((rd_T25 x11_1 (ji25)).f2) a2_0 a2_1 t513 t514 t515 false _ A28.out).mono ?_
         rintro e w46 ⟨rfl,hb⟩
         have HS2_:=(hb.cell (World.block_lt_of_cell? _ _ (hHeld.2.2.1))).trans (hHeld.2.2.1)
         have HS3_:=(hb.cell (World.block_lt_of_cell? _ _ (hHeld.2.2.2.1))).trans (hHeld.2.2.2.1)
         have HS4_:=(hb.cell (World.block_lt_of_cell? _ _ (hHeld.2.2.2.2))).trans (hHeld.2.2.2.2)
         refine ⟨_,rfl,?_⟩
         replace HO_11:=Aside0.mk (Kd.R_below (rA HO_11) hb)
         replace BK499:=kB BK499 hb
         replace BK500:=kB BK500 hb
         replace BK517:=kB BK517 hb
         replace HB:=lB hb
         (try clear hb)
         (try clear hb2)
         (try clear hk)
         (try clear hi)
         refine hK.out _ _ ⟨cA BK500 0,cA BK500 1,HS2_,HS3_,HS4_⟩ (fun hHeld=>?_)
         clear hK K
         refine nmA ?_
         refine puA (i:=9) (N:=some 32) #[Y,Y,Y,Y,Y,Y,Y,Y,Y,Y,Z,Z,Y,Z,Z] rfl rfl HT_ ?_
         refine puA (i:=10) (N:=some 42) #[Y,Y,Y,Y,Y,Y,Y,Y,Y,Y,Y,Z,Y,Z,Z] rfl rfl HT_ ?_
         refine puA (i:=11) (N:=some 43) #[Y,Y,Y,Y,Y,Y,Y,Y,Y,Y,Y,Y,Y,Z,Z] rfl rfl HT_ ?_
         exact norm_ (by simp only [putAll,Act.put,List.setIfInBounds_toArray,List.set_cons_zero,List.set_cons_succ]) (hCont (gb517) _ ⟨hHeld,(rA HO_11),(bkA BK499),(bkA BK500),(bkA BK517),GW517.out,GE517.out,NB499_517.out,NB517_499.out,NB500_517.out,NB517_500.out,blA⟩)
       rintro gb517 w47 ⟨hS_,h0_,h1_,h2_,h3_,h4_,h5_,h6_,h7_,h8_,h9_,h10_⟩
       have BK517:=Aside0.mk h3_
       have GW517:=Aside0.mk h4_
       have GE517:=Aside0.mk h5_
       have NB499_517:=Aside0.mk h6_
       have NB517_499:=Aside0.mk h7_
       have NB500_517:=Aside0.mk h8_
       have NB517_500:=Aside0.mk h9_
       replace HO_11:=Aside0.mk h0_
       replace BK499:=Aside0.mk h1_
       replace BK500:=Aside0.mk h2_
       replace HB:=Aside0.mk h10_
       clear h0_ h1_ h2_ h3_ h4_ h5_ h6_ h7_ h8_ h9_ h10_
       have hHeld:w47.cell? ⟨gb500,0,none⟩=some (.int .i64 a2_0)∧w47.cell? ⟨gb500,1,none⟩=some (.int .i64 a2_1)∧w47.cell? (ad512.add (((ji25)).toNat*3))=some (.int .i64 ((rd_T25 x11_1 (ji25)).f0))∧w47.cell? ⟨(ad512.add (((ji25)).toNat*3)).block,(ad512.add (((ji25)).toNat*3)).off+1,none⟩=some (.int .i64 ((rd_T25 x11_1 (ji25)).f1))∧w47.cell? ⟨(ad512.add (((ji25)).toNat*3)).block,(ad512.add (((ji25)).toNat*3)).off+2,none⟩=some (.int .i64 ((rd_T25 x11_1 (ji25)).f2)):=hS_
       refine norm_ (a':=?_) ?_ ?_
       rotate_left
       ·
        simp only [putAll,Act.put,List.setIfInBounds_toArray,List.set_cons_zero,List.set_cons_succ]
        rfl
       refine one_ (i:=13) (N:=none) #[Y,Y,Y,Y,Y,Y,Y,Y,Y,Y,Y,Y,Y,Y,Z] rfl rfl (one_of HT_.out (by kernel_rfl)) (by decide) (fun K hK=>?_)
       have hs48:w47.cell? ⟨gb517,0,none⟩=some (.int .i64 0):=cA BK517 0
       have hfs48:=blk_frozen BK517.out 0
       have hns48_0:=NB499_517.out
       have hns48_1:=NB500_517.out
       have hms48_0:=NB517_499.out
       have hms48_1:=NB517_500.out
       have hs49:w47.cell? ⟨gb517,1,none⟩=some (.int .i64 0):=cA BK517 1
       have hfs49:=blk_frozen BK517.out 1
       have hns49_0:=NB499_517.out
       have hns49_1:=NB500_517.out
       have hms49_0:=NB517_499.out
       have hms49_1:=NB517_500.out
       have hs50:w47.cell? ⟨gb517,2,none⟩=some (.int .i64 0):=cA BK517 2
       have hfs50:=blk_frozen BK517.out 2
       have hns50_0:=NB499_517.out
       have hns50_1:=NB500_517.out
       have hms50_0:=NB517_499.out
       have hms50_1:=NB517_500.out
       refine skip_ (w1:=?_) (by rfl) rfl ?_ ?_
       rotate_left
       ·
        go_simp
        rfl
       refine hK.out _ _ ⟨cfA hHeld.1,cfA hHeld.2.1,((cell_far (p:=⟨gb517,_,none⟩) (fB (Kd.own_blk (Kd.R_away HO_11.out (fun _ hk=>hk.2)))) _).trans (((cell_far (p:=⟨gb517,_,none⟩) (fB (Kd.own_blk (Kd.R_away HO_11.out (fun _ hk=>hk.2)))) _).trans (((cell_far (p:=⟨gb517,_,none⟩) (fB (Kd.own_blk (Kd.R_away HO_11.out (fun _ hk=>hk.2)))) _).trans (hHeld.2.2.1)))))),((cell_far (p:=⟨gb517,_,none⟩) (fB (Kd.own_blk (Kd.R_away HO_11.out (fun _ hk=>hk.2)))) _).trans (((cell_far (p:=⟨gb517,_,none⟩) (fB (Kd.own_blk (Kd.R_away HO_11.out (fun _ hk=>hk.2)))) _).trans (((cell_far (p:=⟨gb517,_,none⟩) (fB (Kd.own_blk (Kd.R_away HO_11.out (fun _ hk=>hk.2)))) _).trans (hHeld.2.2.2.1)))))),((cell_far (p:=⟨gb517,_,none⟩) (fB (Kd.own_blk (Kd.R_away HO_11.out (fun _ hk=>hk.2)))) _).trans (((cell_far (p:=⟨gb517,_,none⟩) (fB (Kd.own_blk (Kd.R_away HO_11.out (fun _ hk=>hk.2)))) _).trans (((cell_far (p:=⟨gb517,_,none⟩) (fB (Kd.own_blk (Kd.R_away HO_11.out (fun _ hk=>hk.2)))) _).trans (hHeld.2.2.2.2))))))⟩ (fun hHeld=>?_)
       clear hK K
       refine puA (i:=14) (N:=some 13) #[Y,Y,Y,Y,Y,Y,Y,Y,Y,Y,Y,Y,Y,Y,Y] rfl rfl HT_ ?_
       refine done_ (done_of HT_.out (by kernel_rfl)) ?_
       try go_wp2
       go_ret2
       exact ⟨_,by first|rfl|(simp [errW_none,errW_some] <;> rfl)|(simp only [← hji25];first|rfl|(simp [errW_none,errW_some] <;> rfl))|(simp [*,errW_none,errW_some] <;> rfl),nlA,blA⟩
     ·
      rw [if_neg c24] at H
      have c24b0:decide (0<x3_1)=false:=decide_eq_false c24
      clear c24
      simp only [Option.some.injEq,Prod.mk.injEq] at H
      obtain ⟨rfl,rfl⟩:=H
      go_wp2
      go_ret2
      exact ⟨_,eW,by (with_reducible repeat (first|apply Kd.R_alloc|apply Kd.R_drewN|apply Kd.R_drew));exact Kd.R_mono HO_11.out (fun _ hk=>trivial),blA⟩
  ·
   replace c8:=Bool.eq_false_iff.mpr c8
   subst c8
   rw [if_neg (show ¬ (false=true) by decide)] at H
   try dsimp only at H
   simp only [Option.some.injEq,Prod.mk.injEq] at H
   obtain ⟨rfl,rfl⟩:=H
   go_enter Try.func7,Try.ntmps7
   go_wp2_with (first|((with_reducible refine gate_dst (N:=5) rfl ?_);refine bxE (cs:=#[.int .i64 a1_0,.int .i64 a1_1,.int .i64 a1_2]) (t:=25) ?_;intro gb499 hg w51 hbox hb;have n0_:=lB hb;have n1_:=Aside0.mk hbox;have n2_:=sA hg;have n3_:=sA hg;clear HB;have HB:=n0_;have BK499:=n1_;have GW499:=n2_;have GE499:=n3_;clear n0_ n1_ n2_ n3_;clear hb hbox hg)|((with_reducible refine gate_dst (N:=6) rfl ?_);refine bxE (cs:=#[.int .i64 a2_0,.int .i64 a2_1]) (t:=27) ?_;intro gb500 hg w52 hbox hb;have n0_:=kB BK499 hb;have n1_:=lB hb;have n2_:=Aside0.mk hbox;have n3_:=sA hg;have n4_:=sA hg;have n5_:=nA hg BK499;have n6_:=nB hg BK499;clear BK499;clear HB;have BK499:=n0_;have HB:=n1_;have BK500:=n2_;have GW500:=n3_;have GE500:=n4_;have NB499_500:=n5_;have NB500_499:=n6_;clear n0_ n1_ n2_ n3_ n4_ n5_ n6_;clear hb hbox hg;have hnb53:=NB499_500.out;have hnc53:=NB500_499.out;obtain ⟨hcz54_0,hcz54_1,hcz54_2,hfz54_0,hfz54_1,hfz54_2⟩:=cz3 BK499)|((with_reducible refine gate_dst (N:=16) rfl ?_);refine Kd.R_lit k25 _ 25 ?hg (N:=16) ?hd (xs:=([(⟨a1_0,a1_1,a1_2⟩:S25)]:List (S25))) (inner:=[.int .i64 a1_0,.int .i64 a1_1,.int .i64 a1_2]) (ok:=fun _=>True) (okp:=fun _=>True) ?hr ?hp (fun _ hk=>hk) trivial (Below.refl _ _) (Nat.le_refl _) (by simp) ?_;(case hd=>rfl);(case hg=>rfl);(case hr=>first|(go_simp;done)|(go_simp;rfl));(case hp=>exact (Reps.c3 (show Kd.M k25 _ _ _ (⟨a1_0,a1_1,a1_2⟩:S25) [.int .i64 a1_0,.int .i64 a1_1,.int .i64 a1_2] from (k25_mkM _ _ _ (⟨a1_0,a1_1,a1_2⟩:S25) )) (Reps.none _ _)));intro v502 w55 ho56 hb hg_ hnew_;clear hg_ hnew_;(first|rw [← Ny501.out] at ho56|(simp only [Int.reduceToNat] at ho56;rw [← Ny501.out] at ho56));have n0_:=Aside0.mk (Kd.R_lower (Kd.R_newB ho56 (bkA BK499)) (below_size blA));have n1_:=kB BK499 hb;have n2_:=kB BK500 hb;have n3_:=lB hb;clear BK499;clear BK500;clear HB;have HO503:=n0_;have BK499:=n1_;have BK500:=n2_;have HB:=n3_;clear n0_ n1_ n2_ n3_;clear hb ho56;obtain ⟨hcz57_0,hcz57_1,hfz57_0,hfz57_1⟩:=cz2 BK500)|((with_reducible refine gate_dst (N:=18) rfl ?_);refine Kd.R_lit k27 _ 27 ?hg (N:=18) ?hd (xs:=([(⟨a2_0,a2_1⟩:S27)]:List (S27))) (inner:=[.int .i64 a2_0,.int .i64 a2_1]) (ok:=fun _=>True) (okp:=fun _=>True) ?hr ?hp (fun _ hk=>hk) trivial (Below.refl _ _) (Nat.le_refl _) (by simp) ?_;(case hd=>rfl);(case hg=>rfl);(case hr=>first|(go_simp;done)|(go_simp;rfl));(case hp=>exact (Reps.c2 (show Kd.M k27 _ _ _ (⟨a2_0,a2_1⟩:S27) [.int .i64 a2_0,.int .i64 a2_1] from (k27_mkM _ _ _ (⟨a2_0,a2_1⟩:S27) )) (Reps.none _ _)));intro v505 w58 ho59 hb hg_ hnew_;clear hg_ hnew_;(first|rw [← Ny504.out] at ho59|(simp only [Int.reduceToNat] at ho59;rw [← Ny504.out] at ho59));have n0_:=Aside0.mk (Kd.R_below (rA HO503) hb);have n1_:=Aside0.mk (Kd.R_lower (Kd.R_newB ho59 (bkA BK500)) (below_size blA));have n2_:=kB BK499 hb;have n3_:=kB BK500 hb;have n4_:=lB hb;clear HO503;clear BK499;clear BK500;clear HB;have HO503:=n0_;have HO506:=n1_;have BK499:=n2_;have BK500:=n3_;have HB:=n4_;clear n0_ n1_ n2_ n3_ n4_;clear hb ho59;obtain ⟨Ao60,co60,eo60⟩:=Kd.R_slice HO503.out;subst eo60;obtain ⟨Ao61,co61,eo61⟩:=Kd.R_slice HO506.out;subst eo61)|((with_reducible refine gd 19 rfl ?_);refine gC (some 19) rfl Try.func31 (spec_l05Code.calls (w:=_) (hr1:=cR (Kd.R_reads' HO503.out).2.2) (hc1:=(Kd.R_reads' HO503.out).2.1) (hr2:=cR (Kd.R_reads' HO506.out).2.2) (hc2:=(Kd.R_reads' HO506.out).2.1) (h:=A5.out)) ?_;intro w62 hb;have n0_:=Aside0.mk (Kd.R_below (rA HO503) hb);have n1_:=Aside0.mk (Kd.R_below (rA HO506) hb);have n2_:=kB BK499 hb;have n3_:=kB BK500 hb;have n4_:=lB hb;clear HO503;clear HO506;clear BK499;clear BK500;clear HB;have HO503:=n0_;have HO506:=n1_;have BK499:=n2_;have BK500:=n3_;have HB:=n4_;clear n0_ n1_ n2_ n3_ n4_;clear hb)|((with_reducible refine gd 24 rfl ?_);refine gC (some 24) rfl Try.func32 (spec_l01In.calls (w:=_) (h:=A7.out)) ?_;rintro _ ⟨nd,rfl⟩))
   go_ret2
   exact ⟨_,eW,nlA,blA⟩
 ·
  rw [if_neg c6] at H
  have c6b0:(t507 == 0)=false:=beq_eq_false_iff_ne.mpr c6
  have c6b1:(t507 != 0)=true:=bne_iff_ne.mpr c6
  simp only [Option.some.injEq,Prod.mk.injEq] at H
  obtain ⟨rfl,rfl⟩:=H
  go_enter Try.func7,Try.ntmps7
  go_wp2_with (first|((with_reducible refine gate_dst (N:=5) rfl ?_);refine bxE (cs:=#[.int .i64 a1_0,.int .i64 a1_1,.int .i64 a1_2]) (t:=25) ?_;intro gb499 hg w63 hbox hb;have n0_:=lB hb;have n1_:=Aside0.mk hbox;have n2_:=sA hg;have n3_:=sA hg;clear HB;have HB:=n0_;have BK499:=n1_;have GW499:=n2_;have GE499:=n3_;clear n0_ n1_ n2_ n3_;clear hb hbox hg)|((with_reducible refine gate_dst (N:=6) rfl ?_);refine bxE (cs:=#[.int .i64 a2_0,.int .i64 a2_1]) (t:=27) ?_;intro gb500 hg w64 hbox hb;have n0_:=kB BK499 hb;have n1_:=lB hb;have n2_:=Aside0.mk hbox;have n3_:=sA hg;have n4_:=sA hg;have n5_:=nA hg BK499;have n6_:=nB hg BK499;clear BK499;clear HB;have BK499:=n0_;have HB:=n1_;have BK500:=n2_;have GW500:=n3_;have GE500:=n4_;have NB499_500:=n5_;have NB500_499:=n6_;clear n0_ n1_ n2_ n3_ n4_ n5_ n6_;clear hb hbox hg;have hnb65:=NB499_500.out;have hnc65:=NB500_499.out;obtain ⟨hcz66_0,hcz66_1,hcz66_2,hfz66_0,hfz66_1,hfz66_2⟩:=cz3 BK499)|((with_reducible refine gate_dst (N:=16) rfl ?_);refine Kd.R_lit k25 _ 25 ?hg (N:=16) ?hd (xs:=([(⟨a1_0,a1_1,a1_2⟩:S25)]:List (S25))) (inner:=[.int .i64 a1_0,.int .i64 a1_1,.int .i64 a1_2]) (ok:=fun _=>True) (okp:=fun _=>True) ?hr ?hp (fun _ hk=>hk) trivial (Below.refl _ _) (Nat.le_refl _) (by simp) ?_;(case hd=>rfl);(case hg=>rfl);(case hr=>first|(go_simp;done)|(go_simp;rfl));(case hp=>exact (Reps.c3 (show Kd.M k25 _ _ _ (⟨a1_0,a1_1,a1_2⟩:S25) [.int .i64 a1_0,.int .i64 a1_1,.int .i64 a1_2] from (k25_mkM _ _ _ (⟨a1_0,a1_1,a1_2⟩:S25) )) (Reps.none _ _)));intro v502 w67 ho68 hb hg_ hnew_;clear hg_ hnew_;(first|rw [← Ny501.out] at ho68|(simp only [Int.reduceToNat] at ho68;rw [← Ny501.out] at ho68));have n0_:=Aside0.mk (Kd.R_lower (Kd.R_newB ho68 (bkA BK499)) (below_size blA));have n1_:=kB BK499 hb;have n2_:=kB BK500 hb;have n3_:=lB hb;clear BK499;clear BK500;clear HB;have HO503:=n0_;have BK499:=n1_;have BK500:=n2_;have HB:=n3_;clear n0_ n1_ n2_ n3_;clear hb ho68;obtain ⟨hcz69_0,hcz69_1,hfz69_0,hfz69_1⟩:=cz2 BK500)|((with_reducible refine gate_dst (N:=18) rfl ?_);refine Kd.R_lit k27 _ 27 ?hg (N:=18) ?hd (xs:=([(⟨a2_0,a2_1⟩:S27)]:List (S27))) (inner:=[.int .i64 a2_0,.int .i64 a2_1]) (ok:=fun _=>True) (okp:=fun _=>True) ?hr ?hp (fun _ hk=>hk) trivial (Below.refl _ _) (Nat.le_refl _) (by simp) ?_;(case hd=>rfl);(case hg=>rfl);(case hr=>first|(go_simp;done)|(go_simp;rfl));(case hp=>exact (Reps.c2 (show Kd.M k27 _ _ _ (⟨a2_0,a2_1⟩:S27) [.int .i64 a2_0,.int .i64 a2_1] from (k27_mkM _ _ _ (⟨a2_0,a2_1⟩:S27) )) (Reps.none _ _)));intro v505 w70 ho71 hb hg_ hnew_;clear hg_ hnew_;(first|rw [← Ny504.out] at ho71|(simp only [Int.reduceToNat] at ho71;rw [← Ny504.out] at ho71));have n0_:=Aside0.mk (Kd.R_below (rA HO503) hb);have n1_:=Aside0.mk (Kd.R_lower (Kd.R_newB ho71 (bkA BK500)) (below_size blA));have n2_:=kB BK499 hb;have n3_:=kB BK500 hb;have n4_:=lB hb;clear HO503;clear BK499;clear BK500;clear HB;have HO503:=n0_;have HO506:=n1_;have BK499:=n2_;have BK500:=n3_;have HB:=n4_;clear n0_ n1_ n2_ n3_ n4_;clear hb ho71;obtain ⟨Ao72,co72,eo72⟩:=Kd.R_slice HO503.out;subst eo72;obtain ⟨Ao73,co73,eo73⟩:=Kd.R_slice HO506.out;subst eo73)|((with_reducible refine gd 19 rfl ?_);refine gC (some 19) rfl Try.func31 (spec_l05Code.calls (w:=_) (hr1:=cR (Kd.R_reads' HO503.out).2.2) (hc1:=(Kd.R_reads' HO503.out).2.1) (hr2:=cR (Kd.R_reads' HO506.out).2.2) (hc2:=(Kd.R_reads' HO506.out).2.1) (h:=A5.out)) ?_;intro w74 hb;have n0_:=Aside0.mk (Kd.R_below (rA HO503) hb);have n1_:=Aside0.mk (Kd.R_below (rA HO506) hb);have n2_:=kB BK499 hb;have n3_:=kB BK500 hb;have n4_:=lB hb;clear HO503;clear HO506;clear BK499;clear BK500;clear HB;have HO503:=n0_;have HO506:=n1_;have BK499:=n2_;have BK500:=n3_;have HB:=n4_;clear n0_ n1_ n2_ n3_ n4_;clear hb))
  go_ret2
  exact ⟨_,eW,nlA,blA⟩
end Go.Proofs.Ytabcckoeilegnaa.PAll
