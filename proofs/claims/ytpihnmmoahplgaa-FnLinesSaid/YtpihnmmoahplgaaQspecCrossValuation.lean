import Derived.Test.YtpihnmmoahplgaaQx
import Derived.Test.YtpihnmmoahplgaaQimplfourCode
import Derived.Test.YtpihnmmoahplgaaQspecl01End
import Derived.Test.YtpihnmmoahplgaaQspecl05Code
namespace Go.Proofs.Ytpihnmmoahplgaa.PAll
open Go.RowKit Go.Proofs.YtpihnmmoahplgaaW.PrintWords Go.Proofs.YtpihnmmoahplgaaW.PrintLast Go.Proofs.YtpihnmmoahplgaaW.PrintMore
attribute [local go_sem] Go.Proofs.Ytpihnmmoahplgaa.Aux.setCell_drewN Go.Proofs.Ytpihnmmoahplgaa.Aux.isSome_setCell Go.Proofs.Ytpihnmmoahplgaa.Aux.max_eight bq bo cG cF ba bZ bp bm
set_option linter.unusedVariables false
set_option linter.unusedSimpArgs false
def bF.f (k:Nat) (a0 a1_0 a1_1 a2_0 a2_1 a3_0 a3_1 a4_0 a4_1:Int):Option (Int × Int):=(av.f a0).bind fun t546=>(if t546=true then ((b6.f k (([(⟨a1_0,a1_1⟩:S28),(⟨a2_0,a2_1⟩:S28),(⟨a3_0,a3_1⟩:S28),(⟨a4_0,a4_1⟩:S28)]:List (S28)))).bind fun t550=>(if t550=0 then ((bO.f a1_0 a1_1 a3_0 a3_1).bind fun t551=>((aX.f k a0 t551).bind fun t552=>((bO.f a2_0 a2_1 a4_0 a4_1).bind fun t553=>((aX.f k a0 t553).bind fun t554=>((bO.f a1_0 a1_1 a4_0 a4_1).bind fun t555=>((aX.f k a0 t555).bind fun t556=>((bO.f a2_0 a2_1 a3_0 a3_1).bind fun t557=>((aX.f k a0 t557).bind fun t558=>(some (wrap64 ((wrap64 ((wrap64 (t552+t554)) - t556)) - t558),0)))))))))) else (some (0,t550)))) else (some (0,1)))
def bF.T6:Bool × List (List Nat × List Nat):=(true,[([],[]),([],[]),([],[]),([1,2],[1,2]),([0,3,3],[0,3]),([],[]),([],[]),([],[]),([6,7,4],[6,7]),([5,8,8],[5,8]),([4,9],[4,9]),([],[]),([],[]),([],[]),([12,13,9],[12,13]),([11,14,14],[11,14]),([10,15],[10,15]),([],[]),([],[]),([],[]),([18,19,15],[18,19]),([17,20,20],[17,20]),([16,21],[16,21]),([22,21,0,1,2,3,4,5,6,7,8,9,10,11,12,13,14,15,16,17,18,19,20,21,22],[22]),([23,0,1,2,3,4,5,6,7,8,9,10,11,12,13,14,15,16,17,18,19,20,21,22,23],[])])
def bF.B6:List Nat:=[0,0,0,6,15,0,0,0,223,511,1023,0,0,0,13311,31743,65535,0,0,0,850943,2030591,4194303,8388607,16777215]
theorem bF.tab6:ck .any (dC Try.f18 6)=bF.T6:=by kernel_rfl
theorem bF.bits6:br bF.T6.2 bF.B6=true:=by kernel_rfl
set_option maxHeartbeats 8000000 in
set_option maxRecDepth 100000 in
theorem bF.calls (k:Nat) (a0 a1_0 a1_1 a2_0 a2_1 a3_0 a3_1 a4_0 a4_1 r1 r2:Int) (w:World) (h:bF.f k a0 a1_0 a1_1 a2_0 a2_1 a3_0 a3_1 a4_0 a4_1=some (r1,r2)) :
  Calls Try.prog 18 #[.int .i64 a0,.agg #[.int .i64 a1_0,.int .i64 a1_1],.agg #[.int .i64 a2_0,.int .i64 a2_1],.agg #[.int .i64 a3_0,.int .i64 a3_1],.agg #[.int .i64 a4_0,.int .i64 a4_1]] w fun e w'=>e=.returned (.tuple #[.int .i64 r1,.int .i64 r2])∧Below w.heap.size w w':=by
 have hu28:=Try.underlying28
 have HB:=aA.mk (Below.refl w.heap.size w)
 have H:=h
 unfold bF.f at H
 clear h
 replace H:=bS H
 obtain ⟨t546,A6,H⟩:=H
 try dsimp only at H
 by_cases c7:t546=true
 ·
  subst c7
  rw [if_pos rfl] at H
  try dsimp only at H
  obtain ⟨y547,hy547⟩:∃ y_:List (S28),y_=(([(⟨a1_0,a1_1⟩:S28),(⟨a2_0,a2_1⟩:S28),(⟨a3_0,a3_1⟩:S28),(⟨a4_0,a4_1⟩:S28)]:List (S28))):=⟨_,rfl⟩
  replace H:((b6.f k y547).bind fun t550=>(if t550=0 then ((bO.f a1_0 a1_1 a3_0 a3_1).bind fun t551=>((aX.f k a0 t551).bind fun t552=>((bO.f a2_0 a2_1 a4_0 a4_1).bind fun t553=>((aX.f k a0 t553).bind fun t554=>((bO.f a1_0 a1_1 a4_0 a4_1).bind fun t555=>((aX.f k a0 t555).bind fun t556=>((bO.f a2_0 a2_1 a3_0 a3_1).bind fun t557=>((aX.f k a0 t557).bind fun t558=>(some (wrap64 ((wrap64 ((wrap64 (t552+t554)) - t556)) - t558),0)))))))))) else (some (0,t550))))=some (r1,r2):=rH hy547 H
  have Ny547:=aA.mk hy547
  clear hy547
  replace H:=bS H
  obtain ⟨t550,A8,H⟩:=H
  try dsimp only at H
  by_cases c9:t550=0
  ·
   rw [if_pos c9] at H
   have c9b0:(t550 == 0)=true:=beq_iff_eq.mpr c9
   have c9b1:(t550 != 0)=false:=bne_eq_false_iff_eq.mpr c9
   clear c9
   replace H:=bS H
   obtain ⟨t551,A10,H⟩:=H
   try dsimp only at H
   replace H:=bS H
   obtain ⟨t552,A11,H⟩:=H
   try dsimp only at H
   replace H:=bS H
   obtain ⟨t553,A12,H⟩:=H
   try dsimp only at H
   replace H:=bS H
   obtain ⟨t554,A13,H⟩:=H
   try dsimp only at H
   replace H:=bS H
   obtain ⟨t555,A14,H⟩:=H
   try dsimp only at H
   replace H:=bS H
   obtain ⟨t556,A15,H⟩:=H
   try dsimp only at H
   replace H:=bS H
   obtain ⟨t557,A16,H⟩:=H
   try dsimp only at H
   replace H:=bS H
   obtain ⟨t558,A17,H⟩:=H
   try dsimp only at H
   simp only [Option.some.injEq,Prod.mk.injEq] at H
   obtain ⟨rfl,rfl⟩:=H
   go_enter Try.func18,Try.ntmps18
   try go_wp2_with (first|((with_reducible refine aH (N:=6) rfl ?_);refine bxE (cs:=#[.int .i64 a1_0,.int .i64 a1_1]) (t:=28) ?_;intro gb542 hg w18 hbox hb;have BK542:=aA.mk hbox;have GW542:=sA hg;have GE542:=sA hg;replace HB:=lB hb;clear hb hbox hg)|((with_reducible refine aH (N:=7) rfl ?_);refine bxE (cs:=#[.int .i64 a2_0,.int .i64 a2_1]) (t:=28) ?_;intro gb543 hg w19 hbox hb;have LT542_543:=nL hg BK542;have BK543:=aA.mk hbox;have GW543:=sA hg;have GE543:=sA hg;replace BK542:=kB BK542 hb;replace HB:=lB hb;clear hb hbox hg)|((with_reducible refine aH (N:=8) rfl ?_);refine bxE (cs:=#[.int .i64 a3_0,.int .i64 a3_1]) (t:=28) ?_;intro gb544 hg w20 hbox hb;have LT542_544:=nL hg BK542;have LT543_544:=nL hg BK543;have BK544:=aA.mk hbox;have GW544:=sA hg;have GE544:=sA hg;replace BK542:=kB BK542 hb;replace BK543:=kB BK543 hb;replace HB:=lB hb;clear hb hbox hg)|((with_reducible refine aH (N:=9) rfl ?_);refine bxE (cs:=#[.int .i64 a4_0,.int .i64 a4_1]) (t:=28) ?_;intro gb545 hg w21 hbox hb;have LT542_545:=nL hg BK542;have LT543_545:=nL hg BK543;have LT544_545:=nL hg BK544;have BK545:=aA.mk hbox;have GW545:=sA hg;have GE545:=sA hg;replace BK542:=kB BK542 hb;replace BK543:=kB BK543 hb;replace BK544:=kB BK544 hb;replace HB:=lB hb;clear hb hbox hg)|((with_reducible refine gd 14 rfl ?_);refine gC (some 14) rfl Try.func31 (av.calls (w:=_) (h:=A6.out)) ?_;rintro _ ⟨nd,rfl⟩;have hnb22:=LT542_543.out;have hnb23:=LT542_544.out;have hnb24:=LT542_545.out;obtain ⟨hcz25_0,hcz25_1,hfz25_0,hfz25_1⟩:=cz2 BK542;have hnb26:=LT543_544.out;have hnb27:=LT543_545.out;obtain ⟨hcz28_0,hcz28_1,hfz28_0,hfz28_1⟩:=cz2 BK543;have hnb29:=LT544_545.out;obtain ⟨hcz30_0,hcz30_1,hfz30_0,hfz30_1⟩:=cz2 BK544;obtain ⟨hcz31_0,hcz31_1,hfz31_0,hfz31_1⟩:=cz2 BK545)|((with_reducible refine aH (N:=20) rfl ?_);refine Kd.R_lit k28 _ 28 ?hg (N:=20) ?hd (xs:=([(⟨a1_0,a1_1⟩:S28),(⟨a2_0,a2_1⟩:S28),(⟨a3_0,a3_1⟩:S28),(⟨a4_0,a4_1⟩:S28)]:List (S28))) (inner:=[.int .i64 a1_0,.int .i64 a1_1,.int .i64 a2_0,.int .i64 a2_1,.int .i64 a3_0,.int .i64 a3_1,.int .i64 a4_0,.int .i64 a4_1]) (ok:=fun _=>True) (okp:=fun _=>True) ?hr ?hp (fun _ hk=>hk) trivial (Below.refl _ _) (Nat.le_refl _) (by simp) ?_;(case hd=>rfl);(case hg=>rfl);(case hr=>first|(go_simp;done)|(go_simp;rfl));(case hp=>exact (aY.c2 (show Kd.M k28 _ _ _ (⟨a1_0,a1_1⟩:S28) [.int .i64 a1_0,.int .i64 a1_1] from (aw _ _ _ (⟨a1_0,a1_1⟩:S28) )) (aY.c2 (show Kd.M k28 _ _ _ (⟨a2_0,a2_1⟩:S28) [.int .i64 a2_0,.int .i64 a2_1] from (aw _ _ _ (⟨a2_0,a2_1⟩:S28) )) (aY.c2 (show Kd.M k28 _ _ _ (⟨a3_0,a3_1⟩:S28) [.int .i64 a3_0,.int .i64 a3_1] from (aw _ _ _ (⟨a3_0,a3_1⟩:S28) )) (aY.c2 (show Kd.M k28 _ _ _ (⟨a4_0,a4_1⟩:S28) [.int .i64 a4_0,.int .i64 a4_1] from (aw _ _ _ (⟨a4_0,a4_1⟩:S28) )) (aY.none _ _))))));intro v548 w32 ho33 hb hg_ hnew_;clear hg_ hnew_;(first|rw [← Ny547.out] at ho33|(simp only [Int.reduceToNat] at ho33;rw [← Ny547.out] at ho33));have HO549:=aA.mk (Kd.R_lower (Kd.R_newB (Kd.R_newB (Kd.R_newB (Kd.R_newB ho33 (bkA BK542)) (bkA BK543)) (bkA BK544)) (bkA BK545)) (ak blA));replace BK542:=kB BK542 hb;replace BK543:=kB BK543 hb;replace BK544:=kB BK544 hb;replace BK545:=kB BK545 hb;replace HB:=lB hb;clear hb ho33;obtain ⟨Ao34,co34,eo34⟩:=Kd.R_slice HO549.out;subst eo34)|((with_reducible refine gd 21 rfl ?_);refine gC (some 21) rfl Try.func53 (b6.calls (w:=_) (hr0:=cR (Kd.R_reads' HO549.out).2.2) (hc0:=(Kd.R_reads' HO549.out).2.1) (h:=A8.out)) ?_;intro w35 hb;replace HO549:=aA.mk (Kd.R_below (rA HO549) hb);replace BK542:=kB BK542 hb;replace BK543:=kB BK543 hb;replace BK544:=kB BK544 hb;replace BK545:=kB BK545 hb;replace HB:=lB hb;clear hb))
   have n0_:=aA.mk (Kd.R_drew HO549.out)
   have n1_:=aA.mk (aK BK542.out)
   have n2_:=aA.mk (aK BK543.out)
   have n3_:=aA.mk (aK BK544.out)
   have n4_:=aA.mk (aK BK545.out)
   have n5_:=aA.mk (aV HB.out)
   clear HO549
   clear BK542
   clear BK543
   clear BK544
   clear BK545
   clear HB
   have HO549:=n0_
   have BK542:=n1_
   have BK543:=n2_
   have BK544:=n3_
   have BK545:=n4_
   have HB:=n5_
   clear n0_ n1_ n2_ n3_ n4_ n5_
   refine bf (n:=25) (S:=fun w'=>w'.cell? ⟨gb542,0,none⟩=some (.int .i64 a1_0)∧w'.cell? ⟨gb542,1,none⟩=some (.int .i64 a1_1)∧w'.cell? ⟨gb544,0,none⟩=some (.int .i64 a3_0)∧w'.cell? ⟨gb544,1,none⟩=some (.int .i64 a3_1)∧w'.cell? ⟨gb543,0,none⟩=some (.int .i64 a2_0)∧w'.cell? ⟨gb543,1,none⟩=some (.int .i64 a2_1)∧w'.cell? ⟨gb545,0,none⟩=some (.int .i64 a4_0)∧w'.cell? ⟨gb545,1,none⟩=some (.int .i64 a4_1)) (ds:=[]) #[Z,Z,Z,Z,Z,Z,Z,Z,Z,Z,Z,Z,Z,Z,Z,Z,Z,Z,Z,Z,Z,Z,Z,Z,Z] (by kernel_rfl) rfl rfl ⟨cA BK542 0,cA BK542 1,cA BK544 0,cA BK544 1,cA BK543 0,cA BK543 1,cA BK545 0,cA BK545 1⟩ (fun hHeld=>?_);refine bH bF.tab6 bF.bits6 (fun HT_ HW_=>?_)
   generalize w35.drew=w36 at HO549 BK542 BK543 BK544 BK545 HB hHeld ⊢
   refine puA (i:=0) (N:=some 25) #[Y,Z,Z,Z,Z,Z,Z,Z,Z,Z,Z,Z,Z,Z,Z,Z,Z,Z,Z,Z,Z,Z,Z,Z,Z] rfl rfl HT_ ?_
   refine puA (i:=5) (N:=some 30) #[Y,Z,Z,Z,Z,Y,Z,Z,Z,Z,Z,Z,Z,Z,Z,Z,Z,Z,Z,Z,Z,Z,Z,Z,Z] rfl rfl HT_ ?_
   refine puA (i:=11) (N:=some 36) #[Y,Z,Z,Z,Z,Y,Z,Z,Z,Z,Z,Y,Z,Z,Z,Z,Z,Z,Z,Z,Z,Z,Z,Z,Z] rfl rfl HT_ ?_
   refine puA (i:=17) (N:=some 42) #[Y,Z,Z,Z,Z,Y,Z,Z,Z,Z,Z,Y,Z,Z,Z,Z,Z,Y,Z,Z,Z,Z,Z,Z,Z] rfl rfl HT_ ?_
   refine taA (i:=1) (N:=some 26) #[Y,Y,Z,Z,Z,Y,Z,Z,Z,Z,Z,Y,Z,Z,Z,Z,Z,Y,Z,Z,Z,Z,Z,Z,Z] rfl rfl HT_ HW_ hHeld ?_
   refine taA (i:=2) (N:=some 27) #[Y,Y,Y,Z,Z,Y,Z,Z,Z,Z,Z,Y,Z,Z,Z,Z,Z,Y,Z,Z,Z,Z,Z,Z,Z] rfl rfl HT_ HW_ hHeld ?_
   refine taA (i:=6) (N:=some 31) #[Y,Y,Y,Z,Z,Y,Y,Z,Z,Z,Z,Y,Z,Z,Z,Z,Z,Y,Z,Z,Z,Z,Z,Z,Z] rfl rfl HT_ HW_ hHeld ?_
   refine taA (i:=7) (N:=some 32) #[Y,Y,Y,Z,Z,Y,Y,Y,Z,Z,Z,Y,Z,Z,Z,Z,Z,Y,Z,Z,Z,Z,Z,Z,Z] rfl rfl HT_ HW_ hHeld ?_
   refine taA (i:=12) (N:=some 37) #[Y,Y,Y,Z,Z,Y,Y,Y,Z,Z,Z,Y,Y,Z,Z,Z,Z,Y,Z,Z,Z,Z,Z,Z,Z] rfl rfl HT_ HW_ hHeld ?_
   refine taA (i:=13) (N:=some 38) #[Y,Y,Y,Z,Z,Y,Y,Y,Z,Z,Z,Y,Y,Y,Z,Z,Z,Y,Z,Z,Z,Z,Z,Z,Z] rfl rfl HT_ HW_ hHeld ?_
   refine taA (i:=18) (N:=some 43) #[Y,Y,Y,Z,Z,Y,Y,Y,Z,Z,Z,Y,Y,Y,Z,Z,Z,Y,Y,Z,Z,Z,Z,Z,Z] rfl rfl HT_ HW_ hHeld ?_
   refine taA (i:=19) (N:=some 44) #[Y,Y,Y,Z,Z,Y,Y,Y,Z,Z,Z,Y,Y,Y,Z,Z,Z,Y,Y,Y,Z,Z,Z,Z,Z] rfl rfl HT_ HW_ hHeld ?_
   refine bg (i:=3) (N:=some 28) #[Y,Y,Y,Y,Z,Y,Y,Y,Z,Z,Z,Y,Y,Y,Z,Z,Z,Y,Y,Y,Z,Z,Z,Z,Z] rfl rfl (az HT_.out (by kernel_rfl)) (by decide) (fun K hK=>?_)
   refine goC Try.func55 (bO.calls (w:=_) (h:=A10.out)) ?_
   intro w37 hb
   replace HO549:=aA.mk (Kd.R_below (rA HO549) hb)
   replace BK542:=kB BK542 hb
   replace BK543:=kB BK543 hb
   replace BK544:=kB BK544 hb
   replace BK545:=kB BK545 hb
   replace HB:=lB hb
   (try clear hb)
   (try clear hb2)
   (try clear hk)
   (try clear hi)
   refine hK.out _ _ ⟨cA BK542 0,cA BK542 1,cA BK544 0,cA BK544 1,cA BK543 0,cA BK543 1,cA BK545 0,cA BK545 1⟩ (fun hHeld=>?_)
   clear hK K
   refine nmA ?_
   refine bg (i:=4) (N:=some 29) #[Y,Y,Y,Y,Y,Y,Y,Y,Z,Z,Z,Y,Y,Y,Z,Z,Z,Y,Y,Y,Z,Z,Z,Z,Z] rfl rfl (az HT_.out (by kernel_rfl)) (by decide) (fun K hK=>?_)
   refine goC Try.func54 (aX.calls (w:=_) (h:=A11.out)) ?_
   rintro _ ⟨nd,rfl⟩
   refine hK.out _ _ ⟨cA BK542 0,cA BK542 1,cA BK544 0,cA BK544 1,cA BK543 0,cA BK543 1,cA BK545 0,cA BK545 1⟩ (fun hHeld=>?_)
   clear hK K
   refine nmA ?_
   refine bg (i:=8) (N:=some 33) #[Y,Y,Y,Y,Y,Y,Y,Y,Y,Z,Z,Y,Y,Y,Z,Z,Z,Y,Y,Y,Z,Z,Z,Z,Z] rfl rfl (az HT_.out (by kernel_rfl)) (by decide) (fun K hK=>?_)
   refine goC Try.func55 (bO.calls (w:=_) (h:=A12.out)) ?_
   intro w38 hb
   replace HO549:=aA.mk (Kd.R_below (rA HO549) hb)
   replace BK542:=kB BK542 hb
   replace BK543:=kB BK543 hb
   replace BK544:=kB BK544 hb
   replace BK545:=kB BK545 hb
   replace HB:=lB hb
   (try clear hb)
   (try clear hb2)
   (try clear hk)
   (try clear hi)
   refine hK.out _ _ ⟨cA BK542 0,cA BK542 1,cA BK544 0,cA BK544 1,cA BK543 0,cA BK543 1,cA BK545 0,cA BK545 1⟩ (fun hHeld=>?_)
   clear hK K
   refine nmA ?_
   refine bg (i:=9) (N:=some 34) #[Y,Y,Y,Y,Y,Y,Y,Y,Y,Y,Z,Y,Y,Y,Z,Z,Z,Y,Y,Y,Z,Z,Z,Z,Z] rfl rfl (az HT_.out (by kernel_rfl)) (by decide) (fun K hK=>?_)
   refine goC Try.func54 (aX.calls (w:=_) (h:=A13.out)) ?_
   rintro _ ⟨nd,rfl⟩
   refine hK.out _ _ ⟨cA BK542 0,cA BK542 1,cA BK544 0,cA BK544 1,cA BK543 0,cA BK543 1,cA BK545 0,cA BK545 1⟩ (fun hHeld=>?_)
   clear hK K
   refine nmA ?_
   refine puA (i:=10) (N:=some 35) #[Y,Y,Y,Y,Y,Y,Y,Y,Y,Y,Y,Y,Y,Y,Z,Z,Z,Y,Y,Y,Z,Z,Z,Z,Z] rfl rfl HT_ ?_
   refine bg (i:=14) (N:=some 39) #[Y,Y,Y,Y,Y,Y,Y,Y,Y,Y,Y,Y,Y,Y,Y,Z,Z,Y,Y,Y,Z,Z,Z,Z,Z] rfl rfl (az HT_.out (by kernel_rfl)) (by decide) (fun K hK=>?_)
   refine goC Try.func55 (bO.calls (w:=_) (h:=A14.out)) ?_
   intro w39 hb
   replace HO549:=aA.mk (Kd.R_below (rA HO549) hb)
   replace BK542:=kB BK542 hb
   replace BK543:=kB BK543 hb
   replace BK544:=kB BK544 hb
   replace BK545:=kB BK545 hb
   replace HB:=lB hb
   (try clear hb)
   (try clear hb2)
   (try clear hk)
   (try clear hi)
   refine hK.out _ _ ⟨cA BK542 0,cA BK542 1,cA BK544 0,cA BK544 1,cA BK543 0,cA BK543 1,cA BK545 0,cA BK545 1⟩ (fun hHeld=>?_)
   clear hK K
   refine nmA ?_
   refine bg (i:=15) (N:=some 40) #[Y,Y,Y,Y,Y,Y,Y,Y,Y,Y,Y,Y,Y,Y,Y,Y,Z,Y,Y,Y,Z,Z,Z,Z,Z] rfl rfl (az HT_.out (by kernel_rfl)) (by decide) (fun K hK=>?_)
   refine goC Try.func54 (aX.calls (w:=_) (h:=A15.out)) ?_
   rintro _ ⟨nd,rfl⟩
   refine hK.out _ _ ⟨cA BK542 0,cA BK542 1,cA BK544 0,cA BK544 1,cA BK543 0,cA BK543 1,cA BK545 0,cA BK545 1⟩ (fun hHeld=>?_)
   clear hK K
   refine nmA ?_
   refine puA (i:=16) (N:=some 41) #[Y,Y,Y,Y,Y,Y,Y,Y,Y,Y,Y,Y,Y,Y,Y,Y,Y,Y,Y,Y,Z,Z,Z,Z,Z] rfl rfl HT_ ?_
   refine bg (i:=20) (N:=some 45) #[Y,Y,Y,Y,Y,Y,Y,Y,Y,Y,Y,Y,Y,Y,Y,Y,Y,Y,Y,Y,Y,Z,Z,Z,Z] rfl rfl (az HT_.out (by kernel_rfl)) (by decide) (fun K hK=>?_)
   refine goC Try.func55 (bO.calls (w:=_) (h:=A16.out)) ?_
   intro w40 hb
   replace HO549:=aA.mk (Kd.R_below (rA HO549) hb)
   replace BK542:=kB BK542 hb
   replace BK543:=kB BK543 hb
   replace BK544:=kB BK544 hb
   replace BK545:=kB BK545 hb
   replace HB:=lB hb
   (try clear hb)
   (try clear hb2)
   (try clear hk)
   (try clear hi)
   refine hK.out _ _ ⟨cA BK542 0,cA BK542 1,cA BK544 0,cA BK544 1,cA BK543 0,cA BK543 1,cA BK545 0,cA BK545 1⟩ (fun hHeld=>?_)
   clear hK K
   refine nmA ?_
   refine bg (i:=21) (N:=some 46) #[Y,Y,Y,Y,Y,Y,Y,Y,Y,Y,Y,Y,Y,Y,Y,Y,Y,Y,Y,Y,Y,Y,Z,Z,Z] rfl rfl (az HT_.out (by kernel_rfl)) (by decide) (fun K hK=>?_)
   refine goC Try.func54 (aX.calls (w:=_) (h:=A17.out)) ?_
   rintro _ ⟨nd,rfl⟩
   refine hK.out _ _ ⟨cA BK542 0,cA BK542 1,cA BK544 0,cA BK544 1,cA BK543 0,cA BK543 1,cA BK545 0,cA BK545 1⟩ (fun hHeld=>?_)
   clear hK K
   refine nmA ?_
   refine puA (i:=22) (N:=some 47) #[Y,Y,Y,Y,Y,Y,Y,Y,Y,Y,Y,Y,Y,Y,Y,Y,Y,Y,Y,Y,Y,Y,Y,Z,Z] rfl rfl HT_ ?_
   refine puA (i:=23) (N:=some 10) #[Y,Y,Y,Y,Y,Y,Y,Y,Y,Y,Y,Y,Y,Y,Y,Y,Y,Y,Y,Y,Y,Y,Y,Y,Z] rfl rfl HT_ ?_
   refine puA (i:=24) (N:=some 11) #[Y,Y,Y,Y,Y,Y,Y,Y,Y,Y,Y,Y,Y,Y,Y,Y,Y,Y,Y,Y,Y,Y,Y,Y,Y] rfl rfl HT_ ?_
   refine cL (bX HT_.out (by kernel_rfl)) ?_
   try go_wp2
   go_ret2
   exact bU blA
  ·
   rw [if_neg c9] at H
   have c9b0:(t550 == 0)=false:=beq_eq_false_iff_ne.mpr c9
   have c9b1:(t550 != 0)=true:=bne_iff_ne.mpr c9
   simp only [Option.some.injEq,Prod.mk.injEq] at H
   obtain ⟨rfl,rfl⟩:=H
   go_enter Try.func18,Try.ntmps18
   go_wp2_with (first|((with_reducible refine aH (N:=6) rfl ?_);refine bxE (cs:=#[.int .i64 a1_0,.int .i64 a1_1]) (t:=28) ?_;intro gb542 hg w41 hbox hb;have BK542:=aA.mk hbox;have GW542:=sA hg;have GE542:=sA hg;replace HB:=lB hb;clear hb hbox hg)|((with_reducible refine aH (N:=7) rfl ?_);refine bxE (cs:=#[.int .i64 a2_0,.int .i64 a2_1]) (t:=28) ?_;intro gb543 hg w42 hbox hb;have LT542_543:=nL hg BK542;have BK543:=aA.mk hbox;have GW543:=sA hg;have GE543:=sA hg;replace BK542:=kB BK542 hb;replace HB:=lB hb;clear hb hbox hg)|((with_reducible refine aH (N:=8) rfl ?_);refine bxE (cs:=#[.int .i64 a3_0,.int .i64 a3_1]) (t:=28) ?_;intro gb544 hg w43 hbox hb;have LT542_544:=nL hg BK542;have LT543_544:=nL hg BK543;have BK544:=aA.mk hbox;have GW544:=sA hg;have GE544:=sA hg;replace BK542:=kB BK542 hb;replace BK543:=kB BK543 hb;replace HB:=lB hb;clear hb hbox hg)|((with_reducible refine aH (N:=9) rfl ?_);refine bxE (cs:=#[.int .i64 a4_0,.int .i64 a4_1]) (t:=28) ?_;intro gb545 hg w44 hbox hb;have LT542_545:=nL hg BK542;have LT543_545:=nL hg BK543;have LT544_545:=nL hg BK544;have BK545:=aA.mk hbox;have GW545:=sA hg;have GE545:=sA hg;replace BK542:=kB BK542 hb;replace BK543:=kB BK543 hb;replace BK544:=kB BK544 hb;replace HB:=lB hb;clear hb hbox hg)|((with_reducible refine gd 14 rfl ?_);refine gC (some 14) rfl Try.func31 (av.calls (w:=_) (h:=A6.out)) ?_;rintro _ ⟨nd,rfl⟩;have hnb45:=LT542_543.out;have hnb46:=LT542_544.out;have hnb47:=LT542_545.out;obtain ⟨hcz48_0,hcz48_1,hfz48_0,hfz48_1⟩:=cz2 BK542;have hnb49:=LT543_544.out;have hnb50:=LT543_545.out;obtain ⟨hcz51_0,hcz51_1,hfz51_0,hfz51_1⟩:=cz2 BK543;have hnb52:=LT544_545.out;obtain ⟨hcz53_0,hcz53_1,hfz53_0,hfz53_1⟩:=cz2 BK544;obtain ⟨hcz54_0,hcz54_1,hfz54_0,hfz54_1⟩:=cz2 BK545)|((with_reducible refine aH (N:=20) rfl ?_);refine Kd.R_lit k28 _ 28 ?hg (N:=20) ?hd (xs:=([(⟨a1_0,a1_1⟩:S28),(⟨a2_0,a2_1⟩:S28),(⟨a3_0,a3_1⟩:S28),(⟨a4_0,a4_1⟩:S28)]:List (S28))) (inner:=[.int .i64 a1_0,.int .i64 a1_1,.int .i64 a2_0,.int .i64 a2_1,.int .i64 a3_0,.int .i64 a3_1,.int .i64 a4_0,.int .i64 a4_1]) (ok:=fun _=>True) (okp:=fun _=>True) ?hr ?hp (fun _ hk=>hk) trivial (Below.refl _ _) (Nat.le_refl _) (by simp) ?_;(case hd=>rfl);(case hg=>rfl);(case hr=>first|(go_simp;done)|(go_simp;rfl));(case hp=>exact (aY.c2 (show Kd.M k28 _ _ _ (⟨a1_0,a1_1⟩:S28) [.int .i64 a1_0,.int .i64 a1_1] from (aw _ _ _ (⟨a1_0,a1_1⟩:S28) )) (aY.c2 (show Kd.M k28 _ _ _ (⟨a2_0,a2_1⟩:S28) [.int .i64 a2_0,.int .i64 a2_1] from (aw _ _ _ (⟨a2_0,a2_1⟩:S28) )) (aY.c2 (show Kd.M k28 _ _ _ (⟨a3_0,a3_1⟩:S28) [.int .i64 a3_0,.int .i64 a3_1] from (aw _ _ _ (⟨a3_0,a3_1⟩:S28) )) (aY.c2 (show Kd.M k28 _ _ _ (⟨a4_0,a4_1⟩:S28) [.int .i64 a4_0,.int .i64 a4_1] from (aw _ _ _ (⟨a4_0,a4_1⟩:S28) )) (aY.none _ _))))));intro v548 w55 ho56 hb hg_ hnew_;clear hg_ hnew_;(first|rw [← Ny547.out] at ho56|(simp only [Int.reduceToNat] at ho56;rw [← Ny547.out] at ho56));have HO549:=aA.mk (Kd.R_lower (Kd.R_newB (Kd.R_newB (Kd.R_newB (Kd.R_newB ho56 (bkA BK542)) (bkA BK543)) (bkA BK544)) (bkA BK545)) (ak blA));replace BK542:=kB BK542 hb;replace BK543:=kB BK543 hb;replace BK544:=kB BK544 hb;replace BK545:=kB BK545 hb;replace HB:=lB hb;clear hb ho56;obtain ⟨Ao57,co57,eo57⟩:=Kd.R_slice HO549.out;subst eo57)|((with_reducible refine gd 21 rfl ?_);refine gC (some 21) rfl Try.func53 (b6.calls (w:=_) (hr0:=cR (Kd.R_reads' HO549.out).2.2) (hc0:=(Kd.R_reads' HO549.out).2.1) (h:=A8.out)) ?_;intro w58 hb;replace HO549:=aA.mk (Kd.R_below (rA HO549) hb);replace BK542:=kB BK542 hb;replace BK543:=kB BK543 hb;replace BK544:=kB BK544 hb;replace BK545:=kB BK545 hb;replace HB:=lB hb;clear hb))
   go_ret2
   exact bU blA
 ·
  replace c7:=Bool.eq_false_iff.mpr c7
  subst c7
  rw [if_neg (show ¬ (false=true) by decide)] at H
  try dsimp only at H
  simp only [Option.some.injEq,Prod.mk.injEq] at H
  obtain ⟨rfl,rfl⟩:=H
  go_enter Try.func18,Try.ntmps18
  go_wp2_with (first|((with_reducible refine aH (N:=6) rfl ?_);refine bxE (cs:=#[.int .i64 a1_0,.int .i64 a1_1]) (t:=28) ?_;intro gb542 hg w59 hbox hb;have BK542:=aA.mk hbox;have GW542:=sA hg;have GE542:=sA hg;replace HB:=lB hb;clear hb hbox hg)|((with_reducible refine aH (N:=7) rfl ?_);refine bxE (cs:=#[.int .i64 a2_0,.int .i64 a2_1]) (t:=28) ?_;intro gb543 hg w60 hbox hb;have LT542_543:=nL hg BK542;have BK543:=aA.mk hbox;have GW543:=sA hg;have GE543:=sA hg;replace BK542:=kB BK542 hb;replace HB:=lB hb;clear hb hbox hg)|((with_reducible refine aH (N:=8) rfl ?_);refine bxE (cs:=#[.int .i64 a3_0,.int .i64 a3_1]) (t:=28) ?_;intro gb544 hg w61 hbox hb;have LT542_544:=nL hg BK542;have LT543_544:=nL hg BK543;have BK544:=aA.mk hbox;have GW544:=sA hg;have GE544:=sA hg;replace BK542:=kB BK542 hb;replace BK543:=kB BK543 hb;replace HB:=lB hb;clear hb hbox hg)|((with_reducible refine aH (N:=9) rfl ?_);refine bxE (cs:=#[.int .i64 a4_0,.int .i64 a4_1]) (t:=28) ?_;intro gb545 hg w62 hbox hb;have LT542_545:=nL hg BK542;have LT543_545:=nL hg BK543;have LT544_545:=nL hg BK544;have BK545:=aA.mk hbox;have GW545:=sA hg;have GE545:=sA hg;replace BK542:=kB BK542 hb;replace BK543:=kB BK543 hb;replace BK544:=kB BK544 hb;replace HB:=lB hb;clear hb hbox hg)|((with_reducible refine gd 14 rfl ?_);refine gC (some 14) rfl Try.func31 (av.calls (w:=_) (h:=A6.out)) ?_;rintro _ ⟨nd,rfl⟩))
  go_ret2
  exact bU blA
def bM.f (k:Nat) (a0 a1_0 a1_1 a2_0 a2_1 a3_0 a3_1 a4_0 a4_1:Int):Option (Int × Int):=(ax.f k a0 ([]:List (S25)) (([(⟨a1_0,a1_1⟩:S28),(⟨a2_0,a2_1⟩:S28),(⟨a3_0,a3_1⟩:S28),(⟨a4_0,a4_1⟩:S28)]:List (S28)))).bind fun t566=>(if t566=0 then ((aj.f a1_0 a1_1 a3_0 a3_1).bind fun t567=>((a8.f k a0 t567).bind fun t568=>((aj.f a2_0 a2_1 a4_0 a4_1).bind fun t569=>((a8.f k a0 t569).bind fun t570=>((aj.f a1_0 a1_1 a4_0 a4_1).bind fun t571=>((a8.f k a0 t571).bind fun t572=>((aj.f a2_0 a2_1 a3_0 a3_1).bind fun t573=>((a8.f k a0 t573).bind fun t574=>(some (wrap64 ((wrap64 ((wrap64 (t568+t570)) - t572)) - t574),0)))))))))) else (some (0,t566)))
def bM.T4:Bool × List (List Nat × List Nat):=(true,[([],[]),([],[]),([],[]),([1,2],[1,2]),([0,3,3],[0,3]),([],[]),([],[]),([],[]),([6,7,4],[6,7]),([5,8,8],[5,8]),([4,9],[4,9]),([],[]),([],[]),([],[]),([12,13,9],[12,13]),([11,14,14],[11,14]),([10,15],[10,15]),([],[]),([],[]),([],[]),([18,19,15],[18,19]),([17,20,20],[17,20]),([16,21],[16,21]),([22,21,0,1,2,3,4,5,6,7,8,9,10,11,12,13,14,15,16,17,18,19,20,21,22],[22]),([23,0,1,2,3,4,5,6,7,8,9,10,11,12,13,14,15,16,17,18,19,20,21,22,23],[])])
def bM.B4:List Nat:=[0,0,0,6,15,0,0,0,223,511,1023,0,0,0,13311,31743,65535,0,0,0,850943,2030591,4194303,8388607,16777215]
theorem bM.tab4:ck .any (dC Try.f19 4)=bM.T4:=by kernel_rfl
theorem bM.bits4:br bM.T4.2 bM.B4=true:=by kernel_rfl
set_option maxHeartbeats 8000000 in
set_option maxRecDepth 100000 in
theorem bM.calls (k:Nat) (a0 a1_0 a1_1 a2_0 a2_1 a3_0 a3_1 a4_0 a4_1 r1 r2:Int) (w:World) (h:bM.f k a0 a1_0 a1_1 a2_0 a2_1 a3_0 a3_1 a4_0 a4_1=some (r1,r2)) :
  Calls Try.prog 19 #[.int .i64 a0,.agg #[.int .i64 a1_0,.int .i64 a1_1],.agg #[.int .i64 a2_0,.int .i64 a2_1],.agg #[.int .i64 a3_0,.int .i64 a3_1],.agg #[.int .i64 a4_0,.int .i64 a4_1]] w fun e w'=>e=.returned (.tuple #[.int .i64 r1,.int .i64 r2])∧Below w.heap.size w w':=by
 have hu28:=Try.underlying28
 have HB:=aA.mk (Below.refl w.heap.size w)
 have H:=h
 unfold bM.f at H
 clear h
 obtain ⟨y563,hy563⟩:∃ y_:List (S28),y_=(([(⟨a1_0,a1_1⟩:S28),(⟨a2_0,a2_1⟩:S28),(⟨a3_0,a3_1⟩:S28),(⟨a4_0,a4_1⟩:S28)]:List (S28))):=⟨_,rfl⟩
 replace H:((ax.f k a0 ([]:List (S25)) y563).bind fun t566=>(if t566=0 then ((aj.f a1_0 a1_1 a3_0 a3_1).bind fun t567=>((a8.f k a0 t567).bind fun t568=>((aj.f a2_0 a2_1 a4_0 a4_1).bind fun t569=>((a8.f k a0 t569).bind fun t570=>((aj.f a1_0 a1_1 a4_0 a4_1).bind fun t571=>((a8.f k a0 t571).bind fun t572=>((aj.f a2_0 a2_1 a3_0 a3_1).bind fun t573=>((a8.f k a0 t573).bind fun t574=>(some (wrap64 ((wrap64 ((wrap64 (t568+t570)) - t572)) - t574),0)))))))))) else (some (0,t566))))=some (r1,r2):=rH hy563 H
 have Ny563:=aA.mk hy563
 clear hy563
 replace H:=bS H
 obtain ⟨t566,A6,H⟩:=H
 try dsimp only at H
 by_cases c7:t566=0
 ·
  rw [if_pos c7] at H
  have c7b0:(t566 == 0)=true:=beq_iff_eq.mpr c7
  have c7b1:(t566 != 0)=false:=bne_eq_false_iff_eq.mpr c7
  clear c7
  replace H:=bS H
  obtain ⟨t567,A8,H⟩:=H
  try dsimp only at H
  replace H:=bS H
  obtain ⟨t568,A9,H⟩:=H
  try dsimp only at H
  replace H:=bS H
  obtain ⟨t569,A10,H⟩:=H
  try dsimp only at H
  replace H:=bS H
  obtain ⟨t570,A11,H⟩:=H
  try dsimp only at H
  replace H:=bS H
  obtain ⟨t571,A12,H⟩:=H
  try dsimp only at H
  replace H:=bS H
  obtain ⟨t572,A13,H⟩:=H
  try dsimp only at H
  replace H:=bS H
  obtain ⟨t573,A14,H⟩:=H
  try dsimp only at H
  replace H:=bS H
  obtain ⟨t574,A15,H⟩:=H
  try dsimp only at H
  simp only [Option.some.injEq,Prod.mk.injEq] at H
  obtain ⟨rfl,rfl⟩:=H
  go_enter Try.func19,Try.ntmps19
  try go_wp2_with (first|((with_reducible refine aH (N:=6) rfl ?_);refine bxE (cs:=#[.int .i64 a1_0,.int .i64 a1_1]) (t:=28) ?_;intro gb559 hg w16 hbox hb;have BK559:=aA.mk hbox;have GW559:=sA hg;have GE559:=sA hg;replace HB:=lB hb;clear hb hbox hg)|((with_reducible refine aH (N:=7) rfl ?_);refine bxE (cs:=#[.int .i64 a2_0,.int .i64 a2_1]) (t:=28) ?_;intro gb560 hg w17 hbox hb;have LT559_560:=nL hg BK559;have BK560:=aA.mk hbox;have GW560:=sA hg;have GE560:=sA hg;replace BK559:=kB BK559 hb;replace HB:=lB hb;clear hb hbox hg)|((with_reducible refine aH (N:=8) rfl ?_);refine bxE (cs:=#[.int .i64 a3_0,.int .i64 a3_1]) (t:=28) ?_;intro gb561 hg w18 hbox hb;have LT559_561:=nL hg BK559;have LT560_561:=nL hg BK560;have BK561:=aA.mk hbox;have GW561:=sA hg;have GE561:=sA hg;replace BK559:=kB BK559 hb;replace BK560:=kB BK560 hb;replace HB:=lB hb;clear hb hbox hg)|((with_reducible refine aH (N:=9) rfl ?_);refine bxE (cs:=#[.int .i64 a4_0,.int .i64 a4_1]) (t:=28) ?_;intro gb562 hg w19 hbox hb;have LT559_562:=nL hg BK559;have LT560_562:=nL hg BK560;have LT561_562:=nL hg BK561;have BK562:=aA.mk hbox;have GW562:=sA hg;have GE562:=sA hg;replace BK559:=kB BK559 hb;replace BK560:=kB BK560 hb;replace BK561:=kB BK561 hb;replace HB:=lB hb;clear hb hbox hg;have hnb20:=LT559_560.out;have hnb21:=LT559_561.out;have hnb22:=LT559_562.out;obtain ⟨hcz23_0,hcz23_1,hfz23_0,hfz23_1⟩:=cz2 BK559;have hnb24:=LT560_561.out;have hnb25:=LT560_562.out;obtain ⟨hcz26_0,hcz26_1,hfz26_0,hfz26_1⟩:=cz2 BK560;have hnb27:=LT561_562.out;obtain ⟨hcz28_0,hcz28_1,hfz28_0,hfz28_1⟩:=cz2 BK561;obtain ⟨hcz29_0,hcz29_1,hfz29_0,hfz29_1⟩:=cz2 BK562)|((with_reducible refine aH (N:=18) rfl ?_);refine Kd.R_lit k28 _ 28 ?hg (N:=18) ?hd (xs:=([(⟨a1_0,a1_1⟩:S28),(⟨a2_0,a2_1⟩:S28),(⟨a3_0,a3_1⟩:S28),(⟨a4_0,a4_1⟩:S28)]:List (S28))) (inner:=[.int .i64 a1_0,.int .i64 a1_1,.int .i64 a2_0,.int .i64 a2_1,.int .i64 a3_0,.int .i64 a3_1,.int .i64 a4_0,.int .i64 a4_1]) (ok:=fun _=>True) (okp:=fun _=>True) ?hr ?hp (fun _ hk=>hk) trivial (Below.refl _ _) (Nat.le_refl _) (by simp) ?_;(case hd=>rfl);(case hg=>rfl);(case hr=>first|(go_simp;done)|(go_simp;rfl));(case hp=>exact (aY.c2 (show Kd.M k28 _ _ _ (⟨a1_0,a1_1⟩:S28) [.int .i64 a1_0,.int .i64 a1_1] from (aw _ _ _ (⟨a1_0,a1_1⟩:S28) )) (aY.c2 (show Kd.M k28 _ _ _ (⟨a2_0,a2_1⟩:S28) [.int .i64 a2_0,.int .i64 a2_1] from (aw _ _ _ (⟨a2_0,a2_1⟩:S28) )) (aY.c2 (show Kd.M k28 _ _ _ (⟨a3_0,a3_1⟩:S28) [.int .i64 a3_0,.int .i64 a3_1] from (aw _ _ _ (⟨a3_0,a3_1⟩:S28) )) (aY.c2 (show Kd.M k28 _ _ _ (⟨a4_0,a4_1⟩:S28) [.int .i64 a4_0,.int .i64 a4_1] from (aw _ _ _ (⟨a4_0,a4_1⟩:S28) )) (aY.none _ _))))));intro v564 w30 ho31 hb hg_ hnew_;clear hg_ hnew_;(first|rw [← Ny563.out] at ho31|(simp only [Int.reduceToNat] at ho31;rw [← Ny563.out] at ho31));have HO565:=aA.mk (Kd.R_lower (Kd.R_newB (Kd.R_newB (Kd.R_newB (Kd.R_newB ho31 (bkA BK559)) (bkA BK560)) (bkA BK561)) (bkA BK562)) (ak blA));replace BK559:=kB BK559 hb;replace BK560:=kB BK560 hb;replace BK561:=kB BK561 hb;replace BK562:=kB BK562 hb;replace HB:=lB hb;clear hb ho31;obtain ⟨Ao32,co32,eo32⟩:=Kd.R_slice HO565.out;subst eo32)|((with_reducible refine bK (f:=28) rfl ?_);refine gL (some 19) rfl Try.func28 #[.int .i64 a0,.slice none 0 0,.slice Ao32 y563.length co32] ?_;(refine (ax.calls k a0 _ _ ([]:List (S25)) _ _ y563 t566 _ ?side1 ?side2 ?side3 ?side4 A6.out).mono ?_);(case side1=>exact Kd.C_nil _ _);(case side2=>exact Nat.le_refl _);(case side3=>exact cR (Kd.R_reads' HO565.out).2.2);(case side4=>exact (Kd.R_reads' HO565.out).2.1);rintro e w33 ⟨rfl,hb⟩;refine ⟨_,rfl,?_⟩;replace HO565:=aA.mk (Kd.R_below (rA HO565) hb);replace BK559:=kB BK559 hb;replace BK560:=kB BK560 hb;replace BK561:=kB BK561 hb;replace BK562:=kB BK562 hb;replace HB:=lB hb;clear hb))
  have n0_:=aA.mk (Kd.R_drew HO565.out)
  have n1_:=aA.mk (aK BK559.out)
  have n2_:=aA.mk (aK BK560.out)
  have n3_:=aA.mk (aK BK561.out)
  have n4_:=aA.mk (aK BK562.out)
  have n5_:=aA.mk (aV HB.out)
  clear HO565
  clear BK559
  clear BK560
  clear BK561
  clear BK562
  clear HB
  have HO565:=n0_
  have BK559:=n1_
  have BK560:=n2_
  have BK561:=n3_
  have BK562:=n4_
  have HB:=n5_
  clear n0_ n1_ n2_ n3_ n4_ n5_
  refine bf (n:=25) (S:=fun w'=>w'.cell? ⟨gb559,0,none⟩=some (.int .i64 a1_0)∧w'.cell? ⟨gb559,1,none⟩=some (.int .i64 a1_1)∧w'.cell? ⟨gb561,0,none⟩=some (.int .i64 a3_0)∧w'.cell? ⟨gb561,1,none⟩=some (.int .i64 a3_1)∧w'.cell? ⟨gb560,0,none⟩=some (.int .i64 a2_0)∧w'.cell? ⟨gb560,1,none⟩=some (.int .i64 a2_1)∧w'.cell? ⟨gb562,0,none⟩=some (.int .i64 a4_0)∧w'.cell? ⟨gb562,1,none⟩=some (.int .i64 a4_1)) (ds:=[]) #[Z,Z,Z,Z,Z,Z,Z,Z,Z,Z,Z,Z,Z,Z,Z,Z,Z,Z,Z,Z,Z,Z,Z,Z,Z] (by kernel_rfl) rfl rfl ⟨cA BK559 0,cA BK559 1,cA BK561 0,cA BK561 1,cA BK560 0,cA BK560 1,cA BK562 0,cA BK562 1⟩ (fun hHeld=>?_);refine bH bM.tab4 bM.bits4 (fun HT_ HW_=>?_)
  generalize w33.drew=w34 at HO565 BK559 BK560 BK561 BK562 HB hHeld ⊢
  refine puA (i:=0) (N:=some 23) #[Y,Z,Z,Z,Z,Z,Z,Z,Z,Z,Z,Z,Z,Z,Z,Z,Z,Z,Z,Z,Z,Z,Z,Z,Z] rfl rfl HT_ ?_
  refine puA (i:=5) (N:=some 28) #[Y,Z,Z,Z,Z,Y,Z,Z,Z,Z,Z,Z,Z,Z,Z,Z,Z,Z,Z,Z,Z,Z,Z,Z,Z] rfl rfl HT_ ?_
  refine puA (i:=11) (N:=some 34) #[Y,Z,Z,Z,Z,Y,Z,Z,Z,Z,Z,Y,Z,Z,Z,Z,Z,Z,Z,Z,Z,Z,Z,Z,Z] rfl rfl HT_ ?_
  refine puA (i:=17) (N:=some 40) #[Y,Z,Z,Z,Z,Y,Z,Z,Z,Z,Z,Y,Z,Z,Z,Z,Z,Y,Z,Z,Z,Z,Z,Z,Z] rfl rfl HT_ ?_
  refine taA (i:=1) (N:=some 24) #[Y,Y,Z,Z,Z,Y,Z,Z,Z,Z,Z,Y,Z,Z,Z,Z,Z,Y,Z,Z,Z,Z,Z,Z,Z] rfl rfl HT_ HW_ hHeld ?_
  refine taA (i:=2) (N:=some 25) #[Y,Y,Y,Z,Z,Y,Z,Z,Z,Z,Z,Y,Z,Z,Z,Z,Z,Y,Z,Z,Z,Z,Z,Z,Z] rfl rfl HT_ HW_ hHeld ?_
  refine taA (i:=6) (N:=some 29) #[Y,Y,Y,Z,Z,Y,Y,Z,Z,Z,Z,Y,Z,Z,Z,Z,Z,Y,Z,Z,Z,Z,Z,Z,Z] rfl rfl HT_ HW_ hHeld ?_
  refine taA (i:=7) (N:=some 30) #[Y,Y,Y,Z,Z,Y,Y,Y,Z,Z,Z,Y,Z,Z,Z,Z,Z,Y,Z,Z,Z,Z,Z,Z,Z] rfl rfl HT_ HW_ hHeld ?_
  refine taA (i:=12) (N:=some 35) #[Y,Y,Y,Z,Z,Y,Y,Y,Z,Z,Z,Y,Y,Z,Z,Z,Z,Y,Z,Z,Z,Z,Z,Z,Z] rfl rfl HT_ HW_ hHeld ?_
  refine taA (i:=13) (N:=some 36) #[Y,Y,Y,Z,Z,Y,Y,Y,Z,Z,Z,Y,Y,Y,Z,Z,Z,Y,Z,Z,Z,Z,Z,Z,Z] rfl rfl HT_ HW_ hHeld ?_
  refine taA (i:=18) (N:=some 41) #[Y,Y,Y,Z,Z,Y,Y,Y,Z,Z,Z,Y,Y,Y,Z,Z,Z,Y,Y,Z,Z,Z,Z,Z,Z] rfl rfl HT_ HW_ hHeld ?_
  refine taA (i:=19) (N:=some 42) #[Y,Y,Y,Z,Z,Y,Y,Y,Z,Z,Z,Y,Y,Y,Z,Z,Z,Y,Y,Y,Z,Z,Z,Z,Z] rfl rfl HT_ HW_ hHeld ?_
  refine bg (i:=3) (N:=some 26) #[Y,Y,Y,Y,Z,Y,Y,Y,Z,Z,Z,Y,Y,Y,Z,Z,Z,Y,Y,Y,Z,Z,Z,Z,Z] rfl rfl (az HT_.out (by kernel_rfl)) (by decide) (fun K hK=>?_)
  refine goC Try.func57 (aj.calls (w:=_) (h:=A8.out)) ?_
  intro w35 hb
  replace HO565:=aA.mk (Kd.R_below (rA HO565) hb)
  replace BK559:=kB BK559 hb
  replace BK560:=kB BK560 hb
  replace BK561:=kB BK561 hb
  replace BK562:=kB BK562 hb
  replace HB:=lB hb
  (try clear hb)
  (try clear hb2)
  (try clear hk)
  (try clear hi)
  refine hK.out _ _ ⟨cA BK559 0,cA BK559 1,cA BK561 0,cA BK561 1,cA BK560 0,cA BK560 1,cA BK562 0,cA BK562 1⟩ (fun hHeld=>?_)
  clear hK K
  refine nmA ?_
  refine bg (i:=4) (N:=some 27) #[Y,Y,Y,Y,Y,Y,Y,Y,Z,Z,Z,Y,Y,Y,Z,Z,Z,Y,Y,Y,Z,Z,Z,Z,Z] rfl rfl (az HT_.out (by kernel_rfl)) (by decide) (fun K hK=>?_)
  refine goC Try.func56 (a8.calls (w:=_) (h:=A9.out)) ?_
  rintro _ ⟨nd,rfl⟩
  refine hK.out _ _ ⟨cA BK559 0,cA BK559 1,cA BK561 0,cA BK561 1,cA BK560 0,cA BK560 1,cA BK562 0,cA BK562 1⟩ (fun hHeld=>?_)
  clear hK K
  refine nmA ?_
  refine bg (i:=8) (N:=some 31) #[Y,Y,Y,Y,Y,Y,Y,Y,Y,Z,Z,Y,Y,Y,Z,Z,Z,Y,Y,Y,Z,Z,Z,Z,Z] rfl rfl (az HT_.out (by kernel_rfl)) (by decide) (fun K hK=>?_)
  refine goC Try.func57 (aj.calls (w:=_) (h:=A10.out)) ?_
  intro w36 hb
  replace HO565:=aA.mk (Kd.R_below (rA HO565) hb)
  replace BK559:=kB BK559 hb
  replace BK560:=kB BK560 hb
  replace BK561:=kB BK561 hb
  replace BK562:=kB BK562 hb
  replace HB:=lB hb
  (try clear hb)
  (try clear hb2)
  (try clear hk)
  (try clear hi)
  refine hK.out _ _ ⟨cA BK559 0,cA BK559 1,cA BK561 0,cA BK561 1,cA BK560 0,cA BK560 1,cA BK562 0,cA BK562 1⟩ (fun hHeld=>?_)
  clear hK K
  refine nmA ?_
  refine bg (i:=9) (N:=some 32) #[Y,Y,Y,Y,Y,Y,Y,Y,Y,Y,Z,Y,Y,Y,Z,Z,Z,Y,Y,Y,Z,Z,Z,Z,Z] rfl rfl (az HT_.out (by kernel_rfl)) (by decide) (fun K hK=>?_)
  refine goC Try.func56 (a8.calls (w:=_) (h:=A11.out)) ?_
  rintro _ ⟨nd,rfl⟩
  refine hK.out _ _ ⟨cA BK559 0,cA BK559 1,cA BK561 0,cA BK561 1,cA BK560 0,cA BK560 1,cA BK562 0,cA BK562 1⟩ (fun hHeld=>?_)
  clear hK K
  refine nmA ?_
  refine puA (i:=10) (N:=some 33) #[Y,Y,Y,Y,Y,Y,Y,Y,Y,Y,Y,Y,Y,Y,Z,Z,Z,Y,Y,Y,Z,Z,Z,Z,Z] rfl rfl HT_ ?_
  refine bg (i:=14) (N:=some 37) #[Y,Y,Y,Y,Y,Y,Y,Y,Y,Y,Y,Y,Y,Y,Y,Z,Z,Y,Y,Y,Z,Z,Z,Z,Z] rfl rfl (az HT_.out (by kernel_rfl)) (by decide) (fun K hK=>?_)
  refine goC Try.func57 (aj.calls (w:=_) (h:=A12.out)) ?_
  intro w37 hb
  replace HO565:=aA.mk (Kd.R_below (rA HO565) hb)
  replace BK559:=kB BK559 hb
  replace BK560:=kB BK560 hb
  replace BK561:=kB BK561 hb
  replace BK562:=kB BK562 hb
  replace HB:=lB hb
  (try clear hb)
  (try clear hb2)
  (try clear hk)
  (try clear hi)
  refine hK.out _ _ ⟨cA BK559 0,cA BK559 1,cA BK561 0,cA BK561 1,cA BK560 0,cA BK560 1,cA BK562 0,cA BK562 1⟩ (fun hHeld=>?_)
  clear hK K
  refine nmA ?_
  refine bg (i:=15) (N:=some 38) #[Y,Y,Y,Y,Y,Y,Y,Y,Y,Y,Y,Y,Y,Y,Y,Y,Z,Y,Y,Y,Z,Z,Z,Z,Z] rfl rfl (az HT_.out (by kernel_rfl)) (by decide) (fun K hK=>?_)
  refine goC Try.func56 (a8.calls (w:=_) (h:=A13.out)) ?_
  rintro _ ⟨nd,rfl⟩
  refine hK.out _ _ ⟨cA BK559 0,cA BK559 1,cA BK561 0,cA BK561 1,cA BK560 0,cA BK560 1,cA BK562 0,cA BK562 1⟩ (fun hHeld=>?_)
  clear hK K
  refine nmA ?_
  refine puA (i:=16) (N:=some 39) #[Y,Y,Y,Y,Y,Y,Y,Y,Y,Y,Y,Y,Y,Y,Y,Y,Y,Y,Y,Y,Z,Z,Z,Z,Z] rfl rfl HT_ ?_
  refine bg (i:=20) (N:=some 43) #[Y,Y,Y,Y,Y,Y,Y,Y,Y,Y,Y,Y,Y,Y,Y,Y,Y,Y,Y,Y,Y,Z,Z,Z,Z] rfl rfl (az HT_.out (by kernel_rfl)) (by decide) (fun K hK=>?_)
  refine goC Try.func57 (aj.calls (w:=_) (h:=A14.out)) ?_
  intro w38 hb
  replace HO565:=aA.mk (Kd.R_below (rA HO565) hb)
  replace BK559:=kB BK559 hb
  replace BK560:=kB BK560 hb
  replace BK561:=kB BK561 hb
  replace BK562:=kB BK562 hb
  replace HB:=lB hb
  (try clear hb)
  (try clear hb2)
  (try clear hk)
  (try clear hi)
  refine hK.out _ _ ⟨cA BK559 0,cA BK559 1,cA BK561 0,cA BK561 1,cA BK560 0,cA BK560 1,cA BK562 0,cA BK562 1⟩ (fun hHeld=>?_)
  clear hK K
  refine nmA ?_
  refine bg (i:=21) (N:=some 44) #[Y,Y,Y,Y,Y,Y,Y,Y,Y,Y,Y,Y,Y,Y,Y,Y,Y,Y,Y,Y,Y,Y,Z,Z,Z] rfl rfl (az HT_.out (by kernel_rfl)) (by decide) (fun K hK=>?_)
  refine goC Try.func56 (a8.calls (w:=_) (h:=A15.out)) ?_
  rintro _ ⟨nd,rfl⟩
  refine hK.out _ _ ⟨cA BK559 0,cA BK559 1,cA BK561 0,cA BK561 1,cA BK560 0,cA BK560 1,cA BK562 0,cA BK562 1⟩ (fun hHeld=>?_)
  clear hK K
  refine nmA ?_
  refine puA (i:=22) (N:=some 45) #[Y,Y,Y,Y,Y,Y,Y,Y,Y,Y,Y,Y,Y,Y,Y,Y,Y,Y,Y,Y,Y,Y,Y,Z,Z] rfl rfl HT_ ?_
  refine puA (i:=23) (N:=some 10) #[Y,Y,Y,Y,Y,Y,Y,Y,Y,Y,Y,Y,Y,Y,Y,Y,Y,Y,Y,Y,Y,Y,Y,Y,Z] rfl rfl HT_ ?_
  refine puA (i:=24) (N:=some 11) #[Y,Y,Y,Y,Y,Y,Y,Y,Y,Y,Y,Y,Y,Y,Y,Y,Y,Y,Y,Y,Y,Y,Y,Y,Y] rfl rfl HT_ ?_
  refine cL (bX HT_.out (by kernel_rfl)) ?_
  try go_wp2
  go_ret2
  exact bU blA
 ·
  rw [if_neg c7] at H
  have c7b0:(t566 == 0)=false:=beq_eq_false_iff_ne.mpr c7
  have c7b1:(t566 != 0)=true:=bne_iff_ne.mpr c7
  simp only [Option.some.injEq,Prod.mk.injEq] at H
  obtain ⟨rfl,rfl⟩:=H
  go_enter Try.func19,Try.ntmps19
  go_wp2_with (first|((with_reducible refine aH (N:=6) rfl ?_);refine bxE (cs:=#[.int .i64 a1_0,.int .i64 a1_1]) (t:=28) ?_;intro gb559 hg w39 hbox hb;have BK559:=aA.mk hbox;have GW559:=sA hg;have GE559:=sA hg;replace HB:=lB hb;clear hb hbox hg)|((with_reducible refine aH (N:=7) rfl ?_);refine bxE (cs:=#[.int .i64 a2_0,.int .i64 a2_1]) (t:=28) ?_;intro gb560 hg w40 hbox hb;have LT559_560:=nL hg BK559;have BK560:=aA.mk hbox;have GW560:=sA hg;have GE560:=sA hg;replace BK559:=kB BK559 hb;replace HB:=lB hb;clear hb hbox hg)|((with_reducible refine aH (N:=8) rfl ?_);refine bxE (cs:=#[.int .i64 a3_0,.int .i64 a3_1]) (t:=28) ?_;intro gb561 hg w41 hbox hb;have LT559_561:=nL hg BK559;have LT560_561:=nL hg BK560;have BK561:=aA.mk hbox;have GW561:=sA hg;have GE561:=sA hg;replace BK559:=kB BK559 hb;replace BK560:=kB BK560 hb;replace HB:=lB hb;clear hb hbox hg)|((with_reducible refine aH (N:=9) rfl ?_);refine bxE (cs:=#[.int .i64 a4_0,.int .i64 a4_1]) (t:=28) ?_;intro gb562 hg w42 hbox hb;have LT559_562:=nL hg BK559;have LT560_562:=nL hg BK560;have LT561_562:=nL hg BK561;have BK562:=aA.mk hbox;have GW562:=sA hg;have GE562:=sA hg;replace BK559:=kB BK559 hb;replace BK560:=kB BK560 hb;replace BK561:=kB BK561 hb;replace HB:=lB hb;clear hb hbox hg;have hnb43:=LT559_560.out;have hnb44:=LT559_561.out;have hnb45:=LT559_562.out;obtain ⟨hcz46_0,hcz46_1,hfz46_0,hfz46_1⟩:=cz2 BK559;have hnb47:=LT560_561.out;have hnb48:=LT560_562.out;obtain ⟨hcz49_0,hcz49_1,hfz49_0,hfz49_1⟩:=cz2 BK560;have hnb50:=LT561_562.out;obtain ⟨hcz51_0,hcz51_1,hfz51_0,hfz51_1⟩:=cz2 BK561;obtain ⟨hcz52_0,hcz52_1,hfz52_0,hfz52_1⟩:=cz2 BK562)|((with_reducible refine aH (N:=18) rfl ?_);refine Kd.R_lit k28 _ 28 ?hg (N:=18) ?hd (xs:=([(⟨a1_0,a1_1⟩:S28),(⟨a2_0,a2_1⟩:S28),(⟨a3_0,a3_1⟩:S28),(⟨a4_0,a4_1⟩:S28)]:List (S28))) (inner:=[.int .i64 a1_0,.int .i64 a1_1,.int .i64 a2_0,.int .i64 a2_1,.int .i64 a3_0,.int .i64 a3_1,.int .i64 a4_0,.int .i64 a4_1]) (ok:=fun _=>True) (okp:=fun _=>True) ?hr ?hp (fun _ hk=>hk) trivial (Below.refl _ _) (Nat.le_refl _) (by simp) ?_;(case hd=>rfl);(case hg=>rfl);(case hr=>first|(go_simp;done)|(go_simp;rfl));(case hp=>exact (aY.c2 (show Kd.M k28 _ _ _ (⟨a1_0,a1_1⟩:S28) [.int .i64 a1_0,.int .i64 a1_1] from (aw _ _ _ (⟨a1_0,a1_1⟩:S28) )) (aY.c2 (show Kd.M k28 _ _ _ (⟨a2_0,a2_1⟩:S28) [.int .i64 a2_0,.int .i64 a2_1] from (aw _ _ _ (⟨a2_0,a2_1⟩:S28) )) (aY.c2 (show Kd.M k28 _ _ _ (⟨a3_0,a3_1⟩:S28) [.int .i64 a3_0,.int .i64 a3_1] from (aw _ _ _ (⟨a3_0,a3_1⟩:S28) )) (aY.c2 (show Kd.M k28 _ _ _ (⟨a4_0,a4_1⟩:S28) [.int .i64 a4_0,.int .i64 a4_1] from (aw _ _ _ (⟨a4_0,a4_1⟩:S28) )) (aY.none _ _))))));intro v564 w53 ho54 hb hg_ hnew_;clear hg_ hnew_;(first|rw [← Ny563.out] at ho54|(simp only [Int.reduceToNat] at ho54;rw [← Ny563.out] at ho54));have HO565:=aA.mk (Kd.R_lower (Kd.R_newB (Kd.R_newB (Kd.R_newB (Kd.R_newB ho54 (bkA BK559)) (bkA BK560)) (bkA BK561)) (bkA BK562)) (ak blA));replace BK559:=kB BK559 hb;replace BK560:=kB BK560 hb;replace BK561:=kB BK561 hb;replace BK562:=kB BK562 hb;replace HB:=lB hb;clear hb ho54;obtain ⟨Ao55,co55,eo55⟩:=Kd.R_slice HO565.out;subst eo55)|((with_reducible refine bK (f:=28) rfl ?_);refine gL (some 19) rfl Try.func28 #[.int .i64 a0,.slice none 0 0,.slice Ao55 y563.length co55] ?_;(refine (ax.calls k a0 _ _ ([]:List (S25)) _ _ y563 t566 _ ?side1 ?side2 ?side3 ?side4 A6.out).mono ?_);(case side1=>exact Kd.C_nil _ _);(case side2=>exact Nat.le_refl _);(case side3=>exact cR (Kd.R_reads' HO565.out).2.2);(case side4=>exact (Kd.R_reads' HO565.out).2.1);rintro e w56 ⟨rfl,hb⟩;refine ⟨_,rfl,?_⟩;replace HO565:=aA.mk (Kd.R_below (rA HO565) hb);replace BK559:=kB BK559 hb;replace BK560:=kB BK560 hb;replace BK561:=kB BK561 hb;replace BK562:=kB BK562 hb;replace HB:=lB hb;clear hb))
  go_ret2
  exact bU blA
end Go.Proofs.Ytpihnmmoahplgaa.PAll
