import Derived.Test.YtpihnmmoahplgaaQx
import Derived.Test.YtpihnmmoahplgaaQimplfourCode
import Derived.Test.YtpihnmmoahplgaaQspecDrawBallsOfLine
import Derived.Test.YtpihnmmoahplgaaQspecl01End
import Derived.Test.YtpihnmmoahplgaaQspecl01EndOf
namespace Go.Proofs.Ytpihnmmoahplgaa.PAll
open Go.RowKit Go.Proofs.YtpihnmmoahplgaaW.PrintWords Go.Proofs.YtpihnmmoahplgaaW.PrintLast Go.Proofs.YtpihnmmoahplgaaW.PrintMore
attribute [local go_sem] Go.Proofs.Ytpihnmmoahplgaa.Aux.setCell_drewN Go.Proofs.Ytpihnmmoahplgaa.Aux.isSome_setCell Go.Proofs.Ytpihnmmoahplgaa.Aux.max_eight bq bo cG cF ba bZ bp bm
set_option linter.unusedVariables false
set_option linter.unusedSimpArgs false
mutual
def aJ.l0:Nat→List Int→List Int→Int→Int→Option (Int × Int × Int)
 | 0,_,_,_,_=>none
 | k+1,x11,x12,x41,x42=>if x42<x41 then (aJ.l1 k x11 x12 x42 x41 x42 (x12.length:Int) 0) else ((bQ.f k 1000000 x11).bind fun t609=>(if t609=true then ((bQ.f k 1000000 x12).bind fun t610=>(aJ.j2 k x11 x12 (!t610))) else (aJ.j2 k x11 x12 true)))
def aJ.l1:Nat→List Int→List Int→Int→Int→Int→Int→Int→Option (Int × Int × Int)
 | 0,_,_,_,_,_,_,_=>none
 | k+1,x11,x12,x13,x41,x42,x46,x47=>if x47<x46 then (if 0≤x13 then (if x13<(x11.length:Int) then (if 0≤x47 then (if x47<(x12.length:Int) then ((cW.f k (rd x11 x13) (rd x12 x47)).bind fun t604=>(if t604=0 then (none) else (aJ.l1 k (x11.set (x13:Int).toNat (wrap64 (Int.tdiv (rd x11 x13) t604))) (x12.set (x47:Int).toNat (wrap64 (Int.tdiv (rd x12 x47) t604))) x13 x41 x42 x46 (wrap64 (x47+1))))) else (none)) else (none)) else (none)) else (none)) else (aJ.l0 k x11 x12 x41 (wrap64 (x42+1)))
def aJ.j2:Nat→List Int→List Int→Bool→Option (Int × Int × Int)
 | 0,_,_,_=>none
 | k+1,x11,x12,x82=>if x82=true then (some (0,0,3)) else (if 0<(x11.length:Int) then (if 1<(x11.length:Int) then (if 0<(x12.length:Int) then (if 1<(x12.length:Int) then ((cQ.f k (wrap64 ((rd x11 0)*(rd x11 1))) (wrap64 ((rd x12 0)*(rd x12 1)))).bind fun bt615=>((dO.f bt615.1 bt615.2.1 bt615.2.2).bind fun bt618=>(some (bt618.1,bt618.2.1,bt618.2.2)))) else (none)) else (none)) else (none)) else (none))
end
def aJ.f (k:Nat) (a0_0 a0_1 a1_0 a1_1 a2_0 a2_1 a3_0 a3_1:Int):Option (Int × Int × Int):=(b6.f k (([(⟨a0_0,a0_1⟩:S28),(⟨a1_0,a1_1⟩:S28),(⟨a2_0,a2_1⟩:S28),(⟨a3_0,a3_1⟩:S28)]:List (S28)))).bind fun t591=>(if t591=0 then ((bO.f a0_0 a0_1 a2_0 a2_1).bind fun t592=>((bO.f a1_0 a1_1 a3_0 a3_1).bind fun t593=>((some (([t592,t593]:List Int):List Int)).bind fun y594=>((bO.f a0_0 a0_1 a3_0 a3_1).bind fun t597=>((bO.f a1_0 a1_1 a2_0 a2_1).bind fun t598=>(aJ.l0 k y594 (([t597,t598]:List Int)) (y594.length:Int) 0)))))) else (some (0,0,t591)))
def aJ.T4:Bool × List (List Nat × List Nat):=(true,[([],[]),([],[]),([0,1],[0,1]),([],[]),([],[]),([3,4,2],[3,4]),([2,5],[2,5]),([6,5,0,1,2,3,4,5,6],[6])])
def aJ.B4:List Nat:=[0,0,3,0,0,31,63,127]
theorem aJ.tab4:ck .any (dC Try.f20 4)=aJ.T4:=by kernel_rfl
theorem aJ.bits4:br aJ.T4.2 aJ.B4=true:=by kernel_rfl
def aJ.T5:Bool × List (List Nat × List Nat):=(true,[([],[]),([],[]),([0,1],[0,1]),([],[]),([],[]),([3,4,2],[3,4]),([2,5],[2,5]),([6,5,0,1,2,3,4,5,6],[6])])
def aJ.B5:List Nat:=[0,0,3,0,0,31,63,127]
theorem aJ.tab5:ck .any (dC Try.f20 5)=aJ.T5:=by kernel_rfl
theorem aJ.bits5:br aJ.T5.2 aJ.B5=true:=by kernel_rfl
def aJ.T12:Bool × List (List Nat × List Nat):=(true,[([],[]),([],[]),([0,1],[0,1]),([2],[2]),([],[]),([],[]),([4,5],[4,5]),([6],[6]),([3,7],[3,7]),([8,8,0,1,2,3,4,5,6,7,8],[8])])
def aJ.B12:List Nat:=[0,0,3,7,0,0,48,112,255,511]
theorem aJ.tab12:ck .any (dC Try.f20 12)=aJ.T12:=by kernel_rfl
theorem aJ.bits12:br aJ.T12.2 aJ.B12=true:=by kernel_rfl
def aJ.T19:Bool × List (List Nat × List Nat):=(true,[([],[]),([0],[0]),([1],[1]),([],[]),([3],[3]),([4],[4]),([2,5],[2,5]),([],[]),([7],[7]),([8],[8]),([],[]),([10],[10]),([11],[11]),([9,12],[9,12]),([6,13],[6,13]),([14],[14]),([14],[14]),([15,16,14],[15,16]),([17],[17]),([17],[17]),([18,17,0,1,2,3,4,5,6,7,8,9,10,11,12,13,14,15,16,17,18,19],[18]),([19,20,0,1,2,3,4,5,6,7,8,9,10,11,12,13,14,15,16,17,18,19,20],[19])])
def aJ.B19:List Nat:=[0,1,3,0,8,24,63,0,128,384,0,1024,3072,8064,16383,32767,32767,131071,262143,262143,1048575,2097151]
theorem aJ.tab19:ck .any (dC Try.f20 19)=aJ.T19:=by kernel_rfl
theorem aJ.bits19:br aJ.T19.2 aJ.B19=true:=by kernel_rfl
set_option maxHeartbeats 8000000 in
set_option maxRecDepth 100000 in
theorem aJ.calls (k:Nat) (a0_0 a0_1 a1_0 a1_1 a2_0 a2_1 a3_0 a3_1 r1 r2 r3:Int) (w:World) (h:aJ.f k a0_0 a0_1 a1_0 a1_1 a2_0 a2_1 a3_0 a3_1=some (r1,r2,r3)) :
  Calls Try.prog 20 #[.agg #[.int .i64 a0_0,.int .i64 a0_1],.agg #[.int .i64 a1_0,.int .i64 a1_1],.agg #[.int .i64 a2_0,.int .i64 a2_1],.agg #[.int .i64 a3_0,.int .i64 a3_1]] w fun e w'=>e=.returned (.tuple #[.agg #[.int .i64 r1,.int .i64 r2],.int .i64 r3])∧Below w.heap.size w w':=by
 have hu28:=Try.underlying28
 have HB:=aA.mk (Below.refl w.heap.size w)
 have H:=h
 unfold aJ.f at H
 clear h
 obtain ⟨y588,hy588⟩:∃ y_:List (S28),y_=(([(⟨a0_0,a0_1⟩:S28),(⟨a1_0,a1_1⟩:S28),(⟨a2_0,a2_1⟩:S28),(⟨a3_0,a3_1⟩:S28)]:List (S28))):=⟨_,rfl⟩
 replace H:((b6.f k y588).bind fun t591=>(if t591=0 then ((bO.f a0_0 a0_1 a2_0 a2_1).bind fun t592=>((bO.f a1_0 a1_1 a3_0 a3_1).bind fun t593=>((some (([t592,t593]:List Int):List Int)).bind fun y594=>((bO.f a0_0 a0_1 a3_0 a3_1).bind fun t597=>((bO.f a1_0 a1_1 a2_0 a2_1).bind fun t598=>(aJ.l0 k y594 (([t597,t598]:List Int)) (y594.length:Int) 0)))))) else (some (0,0,t591))))=some (r1,r2,r3):=rH hy588 H
 have Ny588:=aA.mk hy588
 clear hy588
 replace H:=bS H
 obtain ⟨t591,A5,H⟩:=H
 try dsimp only at H
 by_cases c6:t591=0
 ·
  rw [if_pos c6] at H
  have c6b0:(t591 == 0)=true:=beq_iff_eq.mpr c6
  have c6b1:(t591 != 0)=false:=bne_eq_false_iff_eq.mpr c6
  clear c6
  replace H:=bS H
  obtain ⟨t592,A7,H⟩:=H
  try dsimp only at H
  replace H:=bS H
  obtain ⟨t593,A8,H⟩:=H
  try dsimp only at H
  obtain ⟨y594,hy594⟩:∃ y_:List Int,y_=(([t592,t593]:List Int)):=⟨_,rfl⟩
  replace H:((bO.f a0_0 a0_1 a3_0 a3_1).bind fun t597=>((bO.f a1_0 a1_1 a2_0 a2_1).bind fun t598=>(aJ.l0 k y594 (([t597,t598]:List Int)) (y594.length:Int) 0)))=some (r1,r2,r3):=rH hy594 H
  have Ny594:=aA.mk hy594
  clear hy594
  replace H:=bS H
  obtain ⟨t597,A9,H⟩:=H
  try dsimp only at H
  replace H:=bS H
  obtain ⟨t598,A10,H⟩:=H
  try dsimp only at H
  obtain ⟨y599,hy599⟩:∃ y_:List Int,y_=(([t597,t598]:List Int)):=⟨_,rfl⟩
  replace H:(aJ.l0 k y594 y599 (y594.length:Int) 0)=some (r1,r2,r3):=rH hy599 H
  have Ny599:=aA.mk hy599
  clear hy599
  have H':=aA.mk H
  clear H
  go_enter Try.func20,Try.ntmps20
  try go_wp2_with (first|((with_reducible refine aH (N:=4) rfl ?_);refine bxE (cs:=#[.int .i64 a0_0,.int .i64 a0_1]) (t:=28) ?_;intro gb583 hg w11 hbox hb;have BK583:=aA.mk hbox;have GW583:=sA hg;have GE583:=sA hg;replace HB:=lB hb;clear hb hbox hg)|((with_reducible refine aH (N:=5) rfl ?_);refine bxE (cs:=#[.int .i64 a1_0,.int .i64 a1_1]) (t:=28) ?_;intro gb584 hg w12 hbox hb;have LT583_584:=nL hg BK583;have BK584:=aA.mk hbox;have GW584:=sA hg;have GE584:=sA hg;replace BK583:=kB BK583 hb;replace HB:=lB hb;clear hb hbox hg)|((with_reducible refine aH (N:=6) rfl ?_);refine bxE (cs:=#[.int .i64 a2_0,.int .i64 a2_1]) (t:=28) ?_;intro gb585 hg w13 hbox hb;have LT583_585:=nL hg BK583;have LT584_585:=nL hg BK584;have BK585:=aA.mk hbox;have GW585:=sA hg;have GE585:=sA hg;replace BK583:=kB BK583 hb;replace BK584:=kB BK584 hb;replace HB:=lB hb;clear hb hbox hg)|((with_reducible refine aH (N:=7) rfl ?_);refine bxE (cs:=#[.int .i64 a3_0,.int .i64 a3_1]) (t:=28) ?_;intro gb586 hg w14 hbox hb;have LT583_586:=nL hg BK583;have LT584_586:=nL hg BK584;have LT585_586:=nL hg BK585;have BK586:=aA.mk hbox;have GW586:=sA hg;have GE586:=sA hg;replace BK583:=kB BK583 hb;replace BK584:=kB BK584 hb;replace BK585:=kB BK585 hb;replace HB:=lB hb;clear hb hbox hg)|((with_reducible refine aH (N:=8) rfl ?_);refine bxE (cs:=#[.int .i64 0,.int .i64 0]) (t:=28) ?_;intro gb587 hg w15 hbox hb;have LT583_587:=nL hg BK583;have LT584_587:=nL hg BK584;have LT585_587:=nL hg BK585;have LT586_587:=nL hg BK586;have BK587:=aA.mk hbox;have GW587:=sA hg;have GE587:=sA hg;have NB583_587:=nA hg BK583;have NB587_583:=nB hg BK583;have NB584_587:=nA hg BK584;have NB587_584:=nB hg BK584;have NB585_587:=nA hg BK585;have NB587_585:=nB hg BK585;have NB586_587:=nA hg BK586;have NB587_586:=nB hg BK586;replace BK583:=kB BK583 hb;replace BK584:=kB BK584 hb;replace BK585:=kB BK585 hb;replace BK586:=kB BK586 hb;replace HB:=lB hb;clear hb hbox hg;have hnb16:=LT583_584.out;have hnb17:=LT583_585.out;have hnb18:=LT583_586.out;have hnb19:=LT583_587.out;obtain ⟨hcz20_0,hcz20_1,hfz20_0,hfz20_1⟩:=cz2 BK583;have hnb21:=LT584_585.out;have hnb22:=LT584_586.out;have hnb23:=LT584_587.out;obtain ⟨hcz24_0,hcz24_1,hfz24_0,hfz24_1⟩:=cz2 BK584;have hnb25:=LT585_586.out;have hnb26:=LT585_587.out;obtain ⟨hcz27_0,hcz27_1,hfz27_0,hfz27_1⟩:=cz2 BK585;have hnb28:=LT586_587.out;obtain ⟨hcz29_0,hcz29_1,hfz29_0,hfz29_1⟩:=cz2 BK586)|((with_reducible refine aH (N:=20) rfl ?_);refine Kd.R_lit k28 _ 28 ?hg (N:=20) ?hd (xs:=([(⟨a0_0,a0_1⟩:S28),(⟨a1_0,a1_1⟩:S28),(⟨a2_0,a2_1⟩:S28),(⟨a3_0,a3_1⟩:S28)]:List (S28))) (inner:=[.int .i64 a0_0,.int .i64 a0_1,.int .i64 a1_0,.int .i64 a1_1,.int .i64 a2_0,.int .i64 a2_1,.int .i64 a3_0,.int .i64 a3_1]) (ok:=fun _=>True) (okp:=fun _=>True) ?hr ?hp (fun _ hk=>hk) trivial (Below.refl _ _) (Nat.le_refl _) (by simp) ?_;(case hd=>rfl);(case hg=>rfl);(case hr=>first|(go_simp;done)|(go_simp;rfl));(case hp=>exact (aY.c2 (show Kd.M k28 _ _ _ (⟨a0_0,a0_1⟩:S28) [.int .i64 a0_0,.int .i64 a0_1] from (aw _ _ _ (⟨a0_0,a0_1⟩:S28) )) (aY.c2 (show Kd.M k28 _ _ _ (⟨a1_0,a1_1⟩:S28) [.int .i64 a1_0,.int .i64 a1_1] from (aw _ _ _ (⟨a1_0,a1_1⟩:S28) )) (aY.c2 (show Kd.M k28 _ _ _ (⟨a2_0,a2_1⟩:S28) [.int .i64 a2_0,.int .i64 a2_1] from (aw _ _ _ (⟨a2_0,a2_1⟩:S28) )) (aY.c2 (show Kd.M k28 _ _ _ (⟨a3_0,a3_1⟩:S28) [.int .i64 a3_0,.int .i64 a3_1] from (aw _ _ _ (⟨a3_0,a3_1⟩:S28) )) (aY.none _ _))))));intro v589 w30 ho31 hb hg_ hnew_;clear hg_ hnew_;(first|rw [← Ny588.out] at ho31|(simp only [Int.reduceToNat] at ho31;rw [← Ny588.out] at ho31));have HO590:=aA.mk (Kd.R_lower (Kd.R_newB (Kd.R_newB (Kd.R_newB (Kd.R_newB (Kd.R_newB ho31 (bkA BK583)) (bkA BK584)) (bkA BK585)) (bkA BK586)) (bkA BK587)) (ak blA));replace BK583:=kB BK583 hb;replace BK584:=kB BK584 hb;replace BK585:=kB BK585 hb;replace BK586:=kB BK586 hb;replace BK587:=kB BK587 hb;replace HB:=lB hb;clear hb ho31;obtain ⟨Ao32,co32,eo32⟩:=Kd.R_slice HO590.out;subst eo32)|((with_reducible refine gd 21 rfl ?_);refine gC (some 21) rfl Try.func53 (b6.calls (w:=_) (hr0:=cR (Kd.R_reads' HO590.out).2.2) (hc0:=(Kd.R_reads' HO590.out).2.1) (h:=A5.out)) ?_;intro w33 hb;replace HO590:=aA.mk (Kd.R_below (rA HO590) hb);replace BK583:=kB BK583 hb;replace BK584:=kB BK584 hb;replace BK585:=kB BK585 hb;replace BK586:=kB BK586 hb;replace BK587:=kB BK587 hb;replace HB:=lB hb;clear hb))
  have n0_:=aA.mk (Kd.R_drew HO590.out)
  have n1_:=aA.mk (aK BK583.out)
  have n2_:=aA.mk (aK BK584.out)
  have n3_:=aA.mk (aK BK585.out)
  have n4_:=aA.mk (aK BK586.out)
  have n5_:=aA.mk (aK BK587.out)
  have n6_:=aA.mk (aV HB.out)
  clear HO590
  clear BK583
  clear BK584
  clear BK585
  clear BK586
  clear BK587
  clear HB
  have HO590:=n0_
  have BK583:=n1_
  have BK584:=n2_
  have BK585:=n3_
  have BK586:=n4_
  have BK587:=n5_
  have HB:=n6_
  clear n0_ n1_ n2_ n3_ n4_ n5_ n6_
  refine bf (n:=8) (S:=fun w'=>w'.cell? ⟨gb583,0,none⟩=some (.int .i64 a0_0)∧w'.cell? ⟨gb583,1,none⟩=some (.int .i64 a0_1)∧w'.cell? ⟨gb585,0,none⟩=some (.int .i64 a2_0)∧w'.cell? ⟨gb585,1,none⟩=some (.int .i64 a2_1)∧w'.cell? ⟨gb584,0,none⟩=some (.int .i64 a1_0)∧w'.cell? ⟨gb584,1,none⟩=some (.int .i64 a1_1)∧w'.cell? ⟨gb586,0,none⟩=some (.int .i64 a3_0)∧w'.cell? ⟨gb586,1,none⟩=some (.int .i64 a3_1)) (ds:=[]) #[Z,Z,Z,Z,Z,Z,Z,Z] (by kernel_rfl) rfl rfl ⟨cA BK583 0,cA BK583 1,cA BK585 0,cA BK585 1,cA BK584 0,cA BK584 1,cA BK586 0,cA BK586 1⟩ (fun hHeld=>?_);refine bH aJ.tab4 aJ.bits4 (fun HT_ HW_=>?_)
  generalize w33.drew=w34 at HO590 BK583 BK584 BK585 BK586 BK587 HB hHeld ⊢
  refine taA (i:=0) (N:=some 26) #[Y,Z,Z,Z,Z,Z,Z,Z] rfl rfl HT_ HW_ hHeld ?_
  refine taA (i:=1) (N:=some 27) #[Y,Y,Z,Z,Z,Z,Z,Z] rfl rfl HT_ HW_ hHeld ?_
  refine taA (i:=3) (N:=some 29) #[Y,Y,Z,Y,Z,Z,Z,Z] rfl rfl HT_ HW_ hHeld ?_
  refine taA (i:=4) (N:=some 30) #[Y,Y,Z,Y,Y,Z,Z,Z] rfl rfl HT_ HW_ hHeld ?_
  refine bg (i:=2) (N:=some 28) #[Y,Y,Y,Y,Y,Z,Z,Z] rfl rfl (az HT_.out (by kernel_rfl)) (by decide) (fun K hK=>?_)
  refine goC Try.func55 (bO.calls (w:=_) (h:=A7.out)) ?_
  intro w35 hb
  replace HO590:=aA.mk (Kd.R_below (rA HO590) hb)
  replace BK583:=kB BK583 hb
  replace BK584:=kB BK584 hb
  replace BK585:=kB BK585 hb
  replace BK586:=kB BK586 hb
  replace BK587:=kB BK587 hb
  replace HB:=lB hb
  (try clear hb)
  (try clear hb2)
  (try clear hk)
  (try clear hi)
  refine hK.out _ _ ⟨cA BK583 0,cA BK583 1,cA BK585 0,cA BK585 1,cA BK584 0,cA BK584 1,cA BK586 0,cA BK586 1⟩ (fun hHeld=>?_)
  clear hK K
  refine nmA ?_
  refine bg (i:=5) (N:=some 31) #[Y,Y,Y,Y,Y,Y,Z,Z] rfl rfl (az HT_.out (by kernel_rfl)) (by decide) (fun K hK=>?_)
  refine goC Try.func55 (bO.calls (w:=_) (h:=A8.out)) ?_
  intro w36 hb
  replace HO590:=aA.mk (Kd.R_below (rA HO590) hb)
  replace BK583:=kB BK583 hb
  replace BK584:=kB BK584 hb
  replace BK585:=kB BK585 hb
  replace BK586:=kB BK586 hb
  replace BK587:=kB BK587 hb
  replace HB:=lB hb
  (try clear hb)
  (try clear hb2)
  (try clear hk)
  (try clear hi)
  refine hK.out _ _ ⟨cA BK583 0,cA BK583 1,cA BK585 0,cA BK585 1,cA BK584 0,cA BK584 1,cA BK586 0,cA BK586 1⟩ (fun hHeld=>?_)
  clear hK K
  refine nmA ?_
  refine bg (i:=6) (N:=some 32) #[Y,Y,Y,Y,Y,Y,Y,Z] rfl rfl (az HT_.out (by kernel_rfl)) (by decide) (fun K hK=>?_)
  refine Kd.R_lit_step (Kd.int .i64) _ 2 ?hg (N:=32) ?hd (xs:=([t592,t593]:List Int)) (inner:=[.int .i64 t592,.int .i64 t593]) (ok:=fun _=>True) (okp:=fun _=>True) ?hr ?hp (fun _ hk=>hk) trivial (Below.refl _ _) (Nat.le_refl _) (by simp) ?_;(case hd=>rfl);(case hg=>rfl);(case hr=>first|(go_simp;done)|(go_simp;rfl));(case hp=>exact (aY.one (show Kd.M (Kd.int .i64) _ _ _ t592 [.int .i64 t592] from rfl) (aY.one (show Kd.M (Kd.int .i64) _ _ _ t593 [.int .i64 t593] from rfl) (aY.none _ _))))
  intro v595 w37 ho38 hb hg_ hnew_
  clear hg_ hnew_
  (first|rw [← Ny594.out] at ho38|(simp only [Int.reduceToNat] at ho38;rw [← Ny594.out] at ho38))
  have HO596:=aA.mk (Kd.R_lower ho38 (ak blA))
  replace HO590:=aA.mk (Kd.R_below (rA HO590) hb)
  replace BK583:=kB BK583 hb
  replace BK584:=kB BK584 hb
  replace BK585:=kB BK585 hb
  replace BK586:=kB BK586 hb
  replace BK587:=kB BK587 hb
  replace HB:=lB hb
  clear hb ho38
  refine hK.out _ _ ⟨cA BK583 0,cA BK583 1,cA BK585 0,cA BK585 1,cA BK584 0,cA BK584 1,cA BK586 0,cA BK586 1⟩ (fun hHeld=>?_)
  clear hK K
  refine nmA ?_
  refine puA (i:=7) (N:=some 11) #[Y,Y,Y,Y,Y,Y,Y,Y] rfl rfl HT_ ?_
  refine cL (bX HT_.out (by kernel_rfl)) ?_
  try go_wp2
  have n0_:=aA.mk (Kd.R_drew HO590.out)
  have n1_:=aA.mk (Kd.R_drew HO596.out)
  have n2_:=aA.mk (aK BK583.out)
  have n3_:=aA.mk (aK BK584.out)
  have n4_:=aA.mk (aK BK585.out)
  have n5_:=aA.mk (aK BK586.out)
  have n6_:=aA.mk (aK BK587.out)
  have n7_:=aA.mk (aV HB.out)
  clear HO590
  clear HO596
  clear BK583
  clear BK584
  clear BK585
  clear BK586
  clear BK587
  clear HB
  have HO590:=n0_
  have HO596:=n1_
  have BK583:=n2_
  have BK584:=n3_
  have BK585:=n4_
  have BK586:=n5_
  have BK587:=n6_
  have HB:=n7_
  clear n0_ n1_ n2_ n3_ n4_ n5_ n6_ n7_
  refine bf (n:=8) (S:=fun w'=>w'.cell? ⟨gb583,0,none⟩=some (.int .i64 a0_0)∧w'.cell? ⟨gb583,1,none⟩=some (.int .i64 a0_1)∧w'.cell? ⟨gb586,0,none⟩=some (.int .i64 a3_0)∧w'.cell? ⟨gb586,1,none⟩=some (.int .i64 a3_1)∧w'.cell? ⟨gb584,0,none⟩=some (.int .i64 a1_0)∧w'.cell? ⟨gb584,1,none⟩=some (.int .i64 a1_1)∧w'.cell? ⟨gb585,0,none⟩=some (.int .i64 a2_0)∧w'.cell? ⟨gb585,1,none⟩=some (.int .i64 a2_1)) (ds:=[]) #[Z,Z,Z,Z,Z,Z,Z,Z] (by kernel_rfl) rfl rfl ⟨cA BK583 0,cA BK583 1,cA BK586 0,cA BK586 1,cA BK584 0,cA BK584 1,cA BK585 0,cA BK585 1⟩ (fun hHeld=>?_);refine bH aJ.tab5 aJ.bits5 (fun HT_ HW_=>?_)
  generalize w37.drew=w39 at HO590 HO596 BK583 BK584 BK585 BK586 BK587 HB hHeld ⊢
  refine taA (i:=0) (N:=some 33) #[Y,Z,Z,Z,Z,Z,Z,Z] rfl rfl HT_ HW_ hHeld ?_
  refine taA (i:=1) (N:=some 34) #[Y,Y,Z,Z,Z,Z,Z,Z] rfl rfl HT_ HW_ hHeld ?_
  refine taA (i:=3) (N:=some 36) #[Y,Y,Z,Y,Z,Z,Z,Z] rfl rfl HT_ HW_ hHeld ?_
  refine taA (i:=4) (N:=some 37) #[Y,Y,Z,Y,Y,Z,Z,Z] rfl rfl HT_ HW_ hHeld ?_
  refine bg (i:=2) (N:=some 35) #[Y,Y,Y,Y,Y,Z,Z,Z] rfl rfl (az HT_.out (by kernel_rfl)) (by decide) (fun K hK=>?_)
  refine goC Try.func55 (bO.calls (w:=_) (h:=A9.out)) ?_
  intro w40 hb
  replace HO590:=aA.mk (Kd.R_below (rA HO590) hb)
  replace HO596:=aA.mk (Kd.R_below (rA HO596) hb)
  replace BK583:=kB BK583 hb
  replace BK584:=kB BK584 hb
  replace BK585:=kB BK585 hb
  replace BK586:=kB BK586 hb
  replace BK587:=kB BK587 hb
  replace HB:=lB hb
  (try clear hb)
  (try clear hb2)
  (try clear hk)
  (try clear hi)
  refine hK.out _ _ ⟨cA BK583 0,cA BK583 1,cA BK586 0,cA BK586 1,cA BK584 0,cA BK584 1,cA BK585 0,cA BK585 1⟩ (fun hHeld=>?_)
  clear hK K
  refine nmA ?_
  refine bg (i:=5) (N:=some 38) #[Y,Y,Y,Y,Y,Y,Z,Z] rfl rfl (az HT_.out (by kernel_rfl)) (by decide) (fun K hK=>?_)
  refine goC Try.func55 (bO.calls (w:=_) (h:=A10.out)) ?_
  intro w41 hb
  replace HO590:=aA.mk (Kd.R_below (rA HO590) hb)
  replace HO596:=aA.mk (Kd.R_below (rA HO596) hb)
  replace BK583:=kB BK583 hb
  replace BK584:=kB BK584 hb
  replace BK585:=kB BK585 hb
  replace BK586:=kB BK586 hb
  replace BK587:=kB BK587 hb
  replace HB:=lB hb
  (try clear hb)
  (try clear hb2)
  (try clear hk)
  (try clear hi)
  refine hK.out _ _ ⟨cA BK583 0,cA BK583 1,cA BK586 0,cA BK586 1,cA BK584 0,cA BK584 1,cA BK585 0,cA BK585 1⟩ (fun hHeld=>?_)
  clear hK K
  refine nmA ?_
  refine bg (i:=6) (N:=some 39) #[Y,Y,Y,Y,Y,Y,Y,Z] rfl rfl (az HT_.out (by kernel_rfl)) (by decide) (fun K hK=>?_)
  refine Kd.R_lit_step (Kd.int .i64) _ 2 ?hg (N:=39) ?hd (xs:=([t597,t598]:List Int)) (inner:=[.int .i64 t597,.int .i64 t598]) (ok:=fun _=>True) (okp:=fun _=>True) ?hr ?hp (fun _ hk=>hk) trivial (Below.refl _ _) (Nat.le_refl _) (by simp) ?_;(case hd=>rfl);(case hg=>rfl);(case hr=>first|(go_simp;done)|(go_simp;rfl));(case hp=>exact (aY.one (show Kd.M (Kd.int .i64) _ _ _ t597 [.int .i64 t597] from rfl) (aY.one (show Kd.M (Kd.int .i64) _ _ _ t598 [.int .i64 t598] from rfl) (aY.none _ _))))
  intro v600 w42 ho43 hb hg_ hnew_
  clear hg_ hnew_
  (first|rw [← Ny599.out] at ho43|(simp only [Int.reduceToNat] at ho43;rw [← Ny599.out] at ho43))
  have HO601:=aA.mk (Kd.R_lower (Kd.R_new' ho43 (Kd.R_lt (rA HO596))) (ak blA))
  replace HO590:=aA.mk (Kd.R_below (rA HO590) hb)
  replace HO596:=aA.mk (Kd.R_elder' (rA HO596) (Kd.R_base ho43) hb)
  replace BK583:=kB BK583 hb
  replace BK584:=kB BK584 hb
  replace BK585:=kB BK585 hb
  replace BK586:=kB BK586 hb
  replace BK587:=kB BK587 hb
  replace HB:=lB hb
  clear hb ho43
  refine hK.out _ _ ⟨cA BK583 0,cA BK583 1,cA BK586 0,cA BK586 1,cA BK584 0,cA BK584 1,cA BK585 0,cA BK585 1⟩ (fun hHeld=>?_)
  clear hK K
  refine nmA ?_
  refine puA (i:=7) (N:=some 12) #[Y,Y,Y,Y,Y,Y,Y,Y] rfl rfl HT_ ?_
  refine cL (bX HT_.out (by kernel_rfl)) ?_
  obtain ⟨Ao44,co44,eo44⟩:=Kd.R_slice HO596.out
  subst eo44
  try go_wp2
  go_loopg [42] k (fun kq v42 w'=>∃ (x11_1:List Int) (x12_1:List Int) (x42_1:Int),v42=.int .i64 x42_1∧aA (aJ.l0 kq x11_1 x12_1 (y594.length:Int) x42_1=some (r1,r2,r3))∧aA (kq≤k)∧aA (Kd.R (Kd.int .i64) 2 w' w.heap.size (fun k_=>some k_≠(v600:Value).ownBlock) (.slice Ao44 y594.length co44) x11_1)∧aA (Kd.R (Kd.int .i64) 2 w' w.heap.size (fun k_=>some k_≠((.slice Ao44 y594.length co44):Value).ownBlock) v600 x12_1)∧aA (w'.heap[gb583]?=some (.cells #[.int .i64 a0_0,.int .i64 a0_1] 28 (0,0)))∧aA (w'.heap[gb584]?=some (.cells #[.int .i64 a1_0,.int .i64 a1_1] 28 (0,0)))∧aA (w'.heap[gb585]?=some (.cells #[.int .i64 a2_0,.int .i64 a2_1] 28 (0,0)))∧aA (w'.heap[gb586]?=some (.cells #[.int .i64 a3_0,.int .i64 a3_1] 28 (0,0)))∧aA (w'.heap[gb587]?=some (.cells #[.int .i64 0,.int .i64 0] 28 (0,0)))∧aA (Below w.heap.size w w'))
  case atStart=>exact ⟨(y594),(y599),(0),hB,H',⟨Nat.le_refl _⟩,⟨by (with_reducible repeat (first|apply Kd.R_alloc|apply Kd.R_drewN|apply Kd.R_drew));exact Kd.R_mono HO596.out (fun _ hk=>hk.2)⟩,⟨by (with_reducible repeat (first|apply Kd.R_alloc|apply Kd.R_drewN|apply Kd.R_drew));exact Kd.R_mono HO601.out (fun _ hk=>hk.2)⟩,⟨bkA BK583⟩,⟨bkA BK584⟩,⟨bkA BK585⟩,⟨bkA BK586⟩,⟨bkA BK587⟩,⟨blA⟩⟩
  case round=>
   clear H'
   try clear c2
   try clear c6
   try clear c6b0
   try clear c6b1
   try clear hcz20_0
   try clear hcz20_1
   try clear hcz24_0
   try clear hcz24_1
   try clear hcz27_0
   try clear hcz27_1
   try clear hcz29_0
   try clear hcz29_1
   try clear hfz20_0
   try clear hfz20_1
   try clear hfz24_0
   try clear hfz24_1
   try clear hfz27_0
   try clear hfz27_1
   try clear hfz29_0
   try clear hfz29_1
   obtain ⟨x11_1,x12_1,x42_1,rfl,HA,HK1,HO_11,HO_12,BK583,BK584,BK585,BK586,BK587,HB⟩:=hrel
   have hl11_1:=(Kd.R_reads' HO_11.out).1
   rw [hl11_1] at HO_11
   (try simp only [hl11_1])
   (try simp only [hl11_1] at BK583)
   (try simp only [hl11_1] at BK584)
   (try simp only [hl11_1] at BK585)
   (try simp only [hl11_1] at BK586)
   (try simp only [hl11_1] at BK587)
   (try simp only [hl11_1] at HO_12)
   cases gk with
   | zero=>exact absurd HA.out (by simp [aJ.l0])
   | succ k1=>
    have H:=HA.out
    clear HA
    simp only [aJ.l0] at H
    by_cases c45:x42_1<(y594.length:Int)
    ·
     rw [if_pos c45] at H
     have c45b0:=decide_eq_true c45
     try (have c45b9_0:=c45b0;simp only [hl11_1] at c45b9_0)
     clear c45
     have H':=aA.mk H
     clear H
     obtain ⟨Ao46,co46,eo46⟩:=Kd.R_slice HO_12.out
     subst eo46
     go_wp2
     go_loopg [47] k1 (fun kq v47 w'=>∃ (x11_2:List Int) (x12_2:List Int) (x47_2:Int),v47=.int .i64 x47_2∧aA (aJ.l1 kq x11_2 x12_2 x42_1 (y594.length:Int) x42_1 (x12_1.length:Int) x47_2=some (r1,r2,r3))∧aA (kq≤k1)∧aA (Kd.R (Kd.int .i64) 2 w' w.heap.size (fun k_=>some k_≠((.slice Ao46 x12_1.length co46):Value).ownBlock) (.slice Ao44 x11_1.length co44) x11_2)∧aA (Kd.R (Kd.int .i64) 2 w' w.heap.size (fun k_=>some k_≠((.slice Ao44 x11_1.length co44):Value).ownBlock) (.slice Ao46 x12_1.length co46) x12_2)∧aA (w'.heap[gb583]?=some (.cells #[.int .i64 a0_0,.int .i64 a0_1] 28 (0,0)))∧aA (w'.heap[gb584]?=some (.cells #[.int .i64 a1_0,.int .i64 a1_1] 28 (0,0)))∧aA (w'.heap[gb585]?=some (.cells #[.int .i64 a2_0,.int .i64 a2_1] 28 (0,0)))∧aA (w'.heap[gb586]?=some (.cells #[.int .i64 a3_0,.int .i64 a3_1] 28 (0,0)))∧aA (w'.heap[gb587]?=some (.cells #[.int .i64 0,.int .i64 0] 28 (0,0)))∧aA (Below w.heap.size w w'))
     case atStart=>exact ⟨(x11_1),(x12_1),(0),hB,H',⟨Nat.le_refl _⟩,⟨by (try simp only [hl11_1]);(with_reducible repeat (first|apply Kd.R_alloc|apply Kd.R_drewN|apply Kd.R_drew));exact HO_11.out⟩,⟨by (try simp only [hl11_1]);(with_reducible repeat (first|apply Kd.R_alloc|apply Kd.R_drewN|apply Kd.R_drew));exact HO_12.out⟩,⟨by (try simp only [hl11_1]);exact bkA BK583⟩,⟨by (try simp only [hl11_1]);exact bkA BK584⟩,⟨by (try simp only [hl11_1]);exact bkA BK585⟩,⟨by (try simp only [hl11_1]);exact bkA BK586⟩,⟨by (try simp only [hl11_1]);exact bkA BK587⟩,⟨blA⟩⟩
     case round=>
      clear H'
      try clear c2
      try clear c6
      try clear c6b0
      try clear c6b1
      try clear c45
      try clear c45b0
      try clear hcz20_0
      try clear hcz20_1
      try clear hcz24_0
      try clear hcz24_1
      try clear hcz27_0
      try clear hcz27_1
      try clear hcz29_0
      try clear hcz29_1
      try clear hfz20_0
      try clear hfz20_1
      try clear hfz24_0
      try clear hfz24_1
      try clear hfz27_0
      try clear hfz27_1
      try clear hfz29_0
      try clear hfz29_1
      obtain ⟨x11_2,x12_2,x47_2,rfl,HA,HK2,HO_11,HO_12,BK583,BK584,BK585,BK586,BK587,HB⟩:=hrel
      have hl11_2:=(Kd.R_reads' HO_11.out).1
      rw [hl11_2] at HO_11
      (try simp only [hl11_2])
      (try simp only [hl11_2] at BK583)
      (try simp only [hl11_2] at BK584)
      (try simp only [hl11_2] at BK585)
      (try simp only [hl11_2] at BK586)
      (try simp only [hl11_2] at BK587)
      (try simp only [hl11_2] at HO_12)
      have hl12_2:=(Kd.R_reads' HO_12.out).1
      rw [hl12_2] at HO_12
      (try simp only [hl12_2])
      (try simp only [hl12_2] at BK583)
      (try simp only [hl12_2] at BK584)
      (try simp only [hl12_2] at BK585)
      (try simp only [hl12_2] at BK586)
      (try simp only [hl12_2] at BK587)
      (try simp only [hl12_2] at HO_11)
      cases gk with
      | zero=>exact absurd HA.out (by simp [aJ.l1])
      | succ k2=>
       have H:=HA.out
       clear HA
       simp only [aJ.l1] at H
       by_cases c47:x47_2<(x12_1.length:Int)
       ·
        rw [if_pos c47] at H
        have c47b0:=decide_eq_true c47
        try (have c47b9_0:=c47b0;simp only [hl11_1] at c47b9_0)
        try (have c47b9_1:=c47b0;simp only [hl11_2] at c47b9_1)
        try (have c47b9_2:=c47b0;simp only [hl12_2] at c47b9_2)
        clear c47
        by_cases c48:0≤x42_1
        rotate_left
        ·
         rw [if_neg c48] at H
         exact absurd H (by simp)
        rw [if_pos c48] at H
        have c48b0:=decide_eq_true c48
        clear c48
        by_cases c49:x42_1<(x11_2.length:Int)
        rotate_left
        ·
         rw [if_neg c49] at H
         exact absurd H (by simp)
        rw [if_pos c49] at H
        have c49b0:=decide_eq_true c49
        try (have c49b9_0:=c49b0;simp only [hl11_1] at c49b9_0)
        try (have c49b9_1:=c49b0;simp only [hl11_2] at c49b9_1)
        try (have c49b9_2:=c49b0;simp only [hl12_2] at c49b9_2)
        clear c49
        by_cases c50:0≤x47_2
        rotate_left
        ·
         rw [if_neg c50] at H
         exact absurd H (by simp)
        rw [if_pos c50] at H
        have c50b0:=decide_eq_true c50
        clear c50
        by_cases c51:x47_2<(x12_2.length:Int)
        rotate_left
        ·
         rw [if_neg c51] at H
         exact absurd H (by simp)
        rw [if_pos c51] at H
        have c51b0:=decide_eq_true c51
        try (have c51b9_0:=c51b0;simp only [hl11_1] at c51b9_0)
        try (have c51b9_1:=c51b0;simp only [hl11_2] at c51b9_1)
        try (have c51b9_2:=c51b0;simp only [hl12_2] at c51b9_2)
        clear c51
        replace H:=bS H
        obtain ⟨t604,A52,H⟩:=H
        try dsimp only at H
        by_cases c53:t604=0
        ·
         rw [if_pos c53] at H
         exact absurd H (by simp)
        rw [if_neg c53] at H
        have c53b0:(t604 == 0)=false:=beq_eq_false_iff_ne.mpr c53
        have c53b1:(t604 != 0)=true:=bne_iff_ne.mpr c53
        obtain ⟨y606,hy606⟩:∃ y_:List Int,y_=(x11_2.set (x42_1:Int).toNat (wrap64 (Int.tdiv (rd x11_2 x42_1) t604))):=⟨_,rfl⟩
        replace H:(aJ.l1 k2 y606 (x12_2.set (x47_2:Int).toNat (wrap64 (Int.tdiv (rd x12_2 x47_2) t604))) x42_1 (y594.length:Int) x42_1 (x12_1.length:Int) (wrap64 (x47_2+1)))=some (r1,r2,r3):=rH hy606 H
        have Ny606:=aA.mk hy606
        clear hy606
        obtain ⟨y608,hy608⟩:∃ y_:List Int,y_=(x12_2.set (x47_2:Int).toNat (wrap64 (Int.tdiv (rd x12_2 x47_2) t604))):=⟨_,rfl⟩
        replace H:(aJ.l1 k2 y606 y608 x42_1 (y594.length:Int) x42_1 (x12_1.length:Int) (wrap64 (x47_2+1)))=some (r1,r2,r3):=rH hy608 H
        have Ny608:=aA.mk hy608
        clear hy608
        have H':=aA.mk H
        clear H
        try go_wp2
        have n0_:=aA.mk (Kd.R_drew HO_11.out)
        have n1_:=aA.mk (Kd.R_drew HO_12.out)
        have n2_:=aA.mk (aK BK583.out)
        have n3_:=aA.mk (aK BK584.out)
        have n4_:=aA.mk (aK BK585.out)
        have n5_:=aA.mk (aK BK586.out)
        have n6_:=aA.mk (aK BK587.out)
        have n7_:=aA.mk (aV HB.out)
        clear HO_11
        clear HO_12
        clear BK583
        clear BK584
        clear BK585
        clear BK586
        clear BK587
        clear HB
        have HO_11:=n0_
        have HO_12:=n1_
        have BK583:=n2_
        have BK584:=n3_
        have BK585:=n4_
        have BK586:=n5_
        have BK587:=n6_
        have HB:=n7_
        clear n0_ n1_ n2_ n3_ n4_ n5_ n6_ n7_
        have p602:0≤(x42_1:Int):=dA
        have q602:x42_1<(x11_2.length:Int):=dA
        obtain ⟨ad602,e602,hx602_0⟩:=Kd.at_int (Kd.R_reads' HO_11.out).2.2 x42_1 p602 q602
        cases e602
        replace p602:=eq_true p602
        replace q602:=eq_true q602
        have p603:0≤(x47_2:Int):=dA
        have q603:x47_2<(x12_2.length:Int):=dA
        obtain ⟨ad603,e603,hx603_0⟩:=Kd.at_int (Kd.R_reads' HO_12.out).2.2 x47_2 p603 q603
        cases e603
        replace p603:=eq_true p603
        replace q603:=eq_true q603
        refine bf (n:=10) (S:=fun w'=>w'.cell? (ad602.add (x42_1).toNat)=some (.int .i64 (rd x11_2 x42_1))∧w'.cell? (ad603.add (x47_2).toNat)=some (.int .i64 (rd x12_2 x47_2))) (ds:=[]) #[Z,Z,Z,Z,Z,Z,Z,Z,Z,Z] (by kernel_rfl) rfl rfl ⟨hx602_0,hx603_0⟩ (fun hHeld=>?_);refine bH aJ.tab12 aJ.bits12 (fun HT_ HW_=>?_)
        generalize wr.drew=w56 at HO_11 HO_12 BK583 BK584 BK585 BK586 BK587 HB hx602_0 hx603_0 hHeld ⊢
        refine puA (i:=0) (N:=some 50) #[Y,Z,Z,Z,Z,Z,Z,Z,Z,Z] rfl rfl HT_ ?_
        refine puA (i:=1) (N:=some 51) #[Y,Y,Z,Z,Z,Z,Z,Z,Z,Z] rfl rfl HT_ ?_
        refine puA (i:=2) (N:=some 52) #[Y,Y,Y,Z,Z,Z,Z,Z,Z,Z] rfl rfl HT_ ?_
        refine puA (i:=4) (N:=some 54) #[Y,Y,Y,Z,Y,Z,Z,Z,Z,Z] rfl rfl HT_ ?_
        refine puA (i:=5) (N:=some 55) #[Y,Y,Y,Z,Y,Y,Z,Z,Z,Z] rfl rfl HT_ ?_
        refine puA (i:=6) (N:=some 56) #[Y,Y,Y,Z,Y,Y,Y,Z,Z,Z] rfl rfl HT_ ?_
        refine taA (i:=3) (N:=some 53) #[Y,Y,Y,Y,Y,Y,Y,Z,Z,Z] rfl rfl HT_ HW_ hHeld ?_
        refine taA (i:=7) (N:=some 57) #[Y,Y,Y,Y,Y,Y,Y,Y,Z,Z] rfl rfl HT_ HW_ hHeld ?_
        refine bg (i:=8) (N:=some 58) #[Y,Y,Y,Y,Y,Y,Y,Y,Y,Z] rfl rfl (az HT_.out (by kernel_rfl)) (by decide) (fun K hK=>?_)
        refine goes_ Try.func58 (by kernel_rfl) rfl #[.int .i64 (rd x11_2 x42_1),.int .i64 (rd x12_2 x47_2)] (by rfl) rfl rfl hA ?_
        with_reducible refine (cW.calls k2 (rd x11_2 x42_1) (rd x12_2 x47_2) t604 _ A52.out).mono ?_
        rintro e w57 ⟨rfl,hb⟩
        have HS0_:=(hb.cell (World.block_lt_of_cell? _ _ (hHeld.1))).trans (hHeld.1)
        have HS1_:=(hb.cell (World.block_lt_of_cell? _ _ (hHeld.2))).trans (hHeld.2)
        refine ⟨_,rfl,?_⟩
        replace HO_11:=aA.mk (Kd.R_below (rA HO_11) hb)
        replace HO_12:=aA.mk (Kd.R_below (rA HO_12) hb)
        replace BK583:=kB BK583 hb
        replace BK584:=kB BK584 hb
        replace BK585:=kB BK585 hb
        replace BK586:=kB BK586 hb
        replace BK587:=kB BK587 hb
        replace HB:=lB hb
        (try clear hb)
        (try clear hb2)
        (try clear hk)
        (try clear hi)
        refine hK.out _ _ ⟨HS0_,HS1_⟩ (fun hHeld=>?_)
        clear hK K
        refine nmA ?_
        refine puA (i:=9) (N:=some 15) #[Y,Y,Y,Y,Y,Y,Y,Y,Y,Y] rfl rfl HT_ ?_
        refine cL (bX HT_.out (by kernel_rfl)) ?_
        have p605:0≤(x42_1:Int):=dA
        have q605:x42_1<(x11_2.length:Int):=dA
        obtain ⟨ad605,e605,hx605_0⟩:=Kd.at_int (Kd.R_reads' HO_11.out).2.2 x42_1 p605 q605
        obtain rfl:ad602=ad605:=(by injection e605)
        replace p605:=eq_true p605
        replace q605:=eq_true q605
        have p54:0≤(x42_1:Int):=dA
        have q54:(x42_1:Int)<((x11_2.length:Int):Int):=dA
        obtain ⟨go54,co54,eo54,gb54,gl54,cl54,HG54⟩:=Kd.R_form HO_11.out (by omega)
        (first|cases eo54|(injection eo54 with ea_ en_ ec_;(first|subst ea_|(injection ea_ with ea_;subst ea_));subst ec_;clear en_))
        have GB54:=aA.mk gb54
        have GG54:=aA.mk HG54
        clear gb54 gl54 HG54
        (first|simp only [er] at hx602_0|skip)
        (first|simp only [er] at hx605_0|skip)
        obtain ⟨hx54_0,hf54_0⟩:=Kd.R_celln 0 HO_11.out (x42_1:Int) p54 q54
        replace p54:=eq_true p54
        replace q54:=eq_true q54
        obtain ⟨hy58_,hz58_⟩:=Kd.R_celln 0 HO_11.out (x42_1:Int) (dA) (dA)
        have HP58:=Kd.R_putg HO_11.out (x42_1:Int) (wrap64 (Int.tdiv (rd x11_2 x42_1) t604))
        try go_wp2_with (first|((with_reducible refine gate_store (t:=2) (p:=65) rfl ?_);refine store_event (t:=2) (p:=65) (v:=?vo_w59) (w1:=(w57.setCell ⟨go54,(x42_1:Int).toNat,none⟩ (.int .i64 (wrap64 (Int.tdiv (rd x11_2 x42_1) t604))))) ?hg ?ho ?hn ?hr ?_;(case ho=>rfl);(case hg=>rfl);(case hn=>rfl);(case hr=>first|(go_simp;done)|(go_simp;rfl));intro w59 hw;have hg:w57.grownBy w59 (some go54):=(by rw [hw];exact HP58.2);have hp_:Kd.R (Kd.int .i64) 2 w59 w.heap.size (fun k_=>some k_≠(.slice (some ad603) x12_2.length co46:Value).ownBlock) (.slice (some ⟨go54,0,none⟩) x11_2.length co44) y606:=(by rw [hw,Ny606.out];exact HP58.1);clear HP58;replace HO_12:=aA.mk (Kd.R_after (v:=(.slice (some ⟨go54,0,none⟩) x11_2.length co44)) (v1:=(.slice (some ⟨go54,0,none⟩) x11_2.length co44)) (ok:=(fun _=>True)) (by (with_reducible repeat (first|apply Kd.R_alloc|apply Kd.R_drewN|apply Kd.R_drew));exact Kd.R_mono HO_12.out (fun _ hk=>⟨trivial,hk⟩)) hg (.inl rfl));replace BK583:=aA.mk (b9 (bkA BK583) hg (Kd.R_ne HO_11.out BK583.out (by decide)));replace BK584:=aA.mk (b9 (bkA BK584) hg (Kd.R_ne HO_11.out BK584.out (by decide)));replace BK585:=aA.mk (b9 (bkA BK585) hg (Kd.R_ne HO_11.out BK585.out (by decide)));replace BK586:=aA.mk (b9 (bkA BK586) hg (Kd.R_ne HO_11.out BK586.out (by decide)));replace BK587:=aA.mk (b9 (bkA BK587) hg (Kd.R_ne HO_11.out BK587.out (by decide)));replace HO_11:=aA.mk (hp_);replace HB:=aA.mk ((by rw [hw];exact al (HB.out) GB54.out:Below w.heap.size w w59));clear hg hw hp_;have p607:0≤(x47_2:Int):=dA;have q607:x47_2<(x12_2.length:Int):=dA;obtain ⟨ad607,e607,hx607_0⟩:=Kd.at_int (Kd.R_reads' HO_12.out).2.2 x47_2 p607 q607;obtain rfl:ad603=ad607:=(by injection e607);replace p607:=eq_true p607;replace q607:=eq_true q607;have p55:0≤(x47_2:Int):=dA;have q55:(x47_2:Int)<((x12_2.length:Int):Int):=dA;obtain ⟨go55,co55,eo55,gb55,gl55,cl55,HG55⟩:=Kd.R_form HO_12.out (by omega);(first|cases eo55|(injection eo55 with ea_ en_ ec_;(first|subst ea_|(injection ea_ with ea_;subst ea_));subst ec_;clear en_));have GB55:=aA.mk gb55;have GG55:=aA.mk HG55;clear gb55 gl55 HG55;(first|simp only [er] at hx603_0|skip);(first|simp only [er] at hx607_0|skip);obtain ⟨hx55_0,hf55_0⟩:=Kd.R_celln 0 HO_12.out (x47_2:Int) p55 q55;replace p55:=eq_true p55;replace q55:=eq_true q55;have n_:=aA.mk (Kd.R_mono (ok':=(fun k_=>some k_≠(.slice (some ⟨go54,0,none⟩) x11_2.length co44:Value).ownBlock)) HO_12.out (fun k_ hk=>hk.2));clear HO_12;have HO_12:=n_;clear n_;obtain ⟨hy60_,hz60_⟩:=Kd.R_celln 0 HO_12.out (x47_2:Int) (dA) (dA);have HP60:=Kd.R_putg HO_12.out (x47_2:Int) (wrap64 (Int.tdiv (rd x12_2 x47_2) t604)))|((with_reducible refine gate_store (t:=2) (p:=72) rfl ?_);refine store_event (t:=2) (p:=72) (v:=?vo_w61) (w1:=(w59.setCell ⟨go55,(x47_2:Int).toNat,none⟩ (.int .i64 (wrap64 (Int.tdiv (rd x12_2 x47_2) t604))))) ?hg ?ho ?hn ?hr ?_;(case ho=>rfl);(case hg=>rfl);(case hn=>rfl);(case hr=>first|(go_simp;done)|(go_simp;rfl));intro w61 hw;have hg:w59.grownBy w61 (some go55):=(by rw [hw];exact HP60.2);have hp_:Kd.R (Kd.int .i64) 2 w61 w.heap.size (fun k_=>some k_≠(.slice (some ⟨go54,0,none⟩) x11_2.length co44:Value).ownBlock) (.slice (some ⟨go55,0,none⟩) x12_2.length co46) y608:=(by rw [hw,Ny608.out];exact HP60.1);clear HP60;replace HO_11:=aA.mk (Kd.R_after (v:=(.slice (some ⟨go55,0,none⟩) x12_2.length co46)) (v1:=(.slice (some ⟨go55,0,none⟩) x12_2.length co46)) (ok:=(fun _=>True)) (by (with_reducible repeat (first|apply Kd.R_alloc|apply Kd.R_drewN|apply Kd.R_drew));exact Kd.R_mono HO_11.out (fun _ hk=>⟨trivial,hk⟩)) hg (.inl rfl));replace BK583:=aA.mk (b9 (bkA BK583) hg (Kd.R_ne HO_12.out BK583.out (by decide)));replace BK584:=aA.mk (b9 (bkA BK584) hg (Kd.R_ne HO_12.out BK584.out (by decide)));replace BK585:=aA.mk (b9 (bkA BK585) hg (Kd.R_ne HO_12.out BK585.out (by decide)));replace BK586:=aA.mk (b9 (bkA BK586) hg (Kd.R_ne HO_12.out BK586.out (by decide)));replace BK587:=aA.mk (b9 (bkA BK587) hg (Kd.R_ne HO_12.out BK587.out (by decide)));replace HO_12:=aA.mk (hp_);replace HB:=aA.mk ((by rw [hw];exact al (HB.out) GB55.out:Below w.heap.size w w61));clear hg hw hp_))
        (try simp only [← hl11_2,← hl12_2])
        go_roundg k2
        case measure=>have:=HK1.out;have:=HK2.out;omega
        case rel=>exact ⟨(y606),(y608),(wrap64 (x47_2+1)),hB,H',⟨by have:=HK1.out;have:=HK2.out;omega⟩,⟨by (try simp only [hl11_1]);(try simp only [hl11_2]);(try simp only [hl12_2]);(with_reducible repeat (first|apply Kd.R_alloc|apply Kd.R_drewN|apply Kd.R_drew));exact Kd.R_mono HO_11.out (fun _ hk=>hk.2)⟩,⟨by (try simp only [hl11_1]);(try simp only [hl11_2]);(try simp only [hl12_2]);(with_reducible repeat (first|apply Kd.R_alloc|apply Kd.R_drewN|apply Kd.R_drew));exact HO_12.out⟩,⟨by (try simp only [hl11_1]);(try simp only [hl11_2]);(try simp only [hl12_2]);exact bkA BK583⟩,⟨by (try simp only [hl11_1]);(try simp only [hl11_2]);(try simp only [hl12_2]);exact bkA BK584⟩,⟨by (try simp only [hl11_1]);(try simp only [hl11_2]);(try simp only [hl12_2]);exact bkA BK585⟩,⟨by (try simp only [hl11_1]);(try simp only [hl11_2]);(try simp only [hl12_2]);exact bkA BK586⟩,⟨by (try simp only [hl11_1]);(try simp only [hl11_2]);(try simp only [hl12_2]);exact bkA BK587⟩,⟨blA⟩⟩
       ·
        rw [if_neg c47] at H
        have c47b0:=decide_eq_false c47
        try (have c47b9_0:=c47b0;simp only [hl11_1] at c47b9_0)
        try (have c47b9_1:=c47b0;simp only [hl11_2] at c47b9_1)
        try (have c47b9_2:=c47b0;simp only [hl12_2] at c47b9_2)
        clear c47
        have H':=aA.mk H
        clear H
        go_wp2
        (try simp only [← hl11_1,← hl11_2,← hl12_2])
        go_roundg k2
        case measure=>have:=HK1.out;have:=HK2.out;omega
        case rel=>exact ⟨(x11_2),(x12_2),(wrap64 (x42_1+1)),hB,H',⟨by have:=HK1.out;have:=HK2.out;omega⟩,⟨by (try simp only [hl11_1]);(try simp only [hl11_2]);(try simp only [hl12_2]);(with_reducible repeat (first|apply Kd.R_alloc|apply Kd.R_drewN|apply Kd.R_drew));exact HO_11.out⟩,⟨by (try simp only [hl11_1]);(try simp only [hl11_2]);(try simp only [hl12_2]);(with_reducible repeat (first|apply Kd.R_alloc|apply Kd.R_drewN|apply Kd.R_drew));exact HO_12.out⟩,⟨by (try simp only [hl11_1]);(try simp only [hl11_2]);(try simp only [hl12_2]);exact bkA BK583⟩,⟨by (try simp only [hl11_1]);(try simp only [hl11_2]);(try simp only [hl12_2]);exact bkA BK584⟩,⟨by (try simp only [hl11_1]);(try simp only [hl11_2]);(try simp only [hl12_2]);exact bkA BK585⟩,⟨by (try simp only [hl11_1]);(try simp only [hl11_2]);(try simp only [hl12_2]);exact bkA BK586⟩,⟨by (try simp only [hl11_1]);(try simp only [hl11_2]);(try simp only [hl12_2]);exact bkA BK587⟩,⟨blA⟩⟩
    ·
     rw [if_neg c45] at H
     have c45b0:=decide_eq_false c45
     try (have c45b9_0:=c45b0;simp only [hl11_1] at c45b9_0)
     clear c45
     have HC62:=aA.mk H
     clear H
     go_upto_region 17 with (fail)
     go_cut [82] (fun v82 wc=>∃ (kq:Nat) (x82_61:Bool),v82=.bool x82_61∧aA (aJ.j2 kq x11_1 x12_1 x82_61=some (r1,r2,r3))∧aA (kq≤k1)∧aA (Kd.R (Kd.int .i64) 2 wc w.heap.size (fun k_=>some k_≠(v600:Value).ownBlock) (.slice Ao44 x11_1.length co44) x11_1)∧aA (Kd.R (Kd.int .i64) 2 wc w.heap.size (fun k_=>some k_≠((.slice Ao44 x11_1.length co44):Value).ownBlock) v600 x12_1)∧aA (wc.heap[gb583]?=some (.cells #[.int .i64 a0_0,.int .i64 a0_1] 28 (0,0)))∧aA (wc.heap[gb584]?=some (.cells #[.int .i64 a1_0,.int .i64 a1_1] 28 (0,0)))∧aA (wc.heap[gb585]?=some (.cells #[.int .i64 a2_0,.int .i64 a2_1] 28 (0,0)))∧aA (wc.heap[gb586]?=some (.cells #[.int .i64 a3_0,.int .i64 a3_1] 28 (0,0)))∧aA (wc.heap[gb587]?=some (.cells #[.int .i64 0,.int .i64 0] 28 (0,0)))∧aA (Below w.heap.size w wc))
     case first=>
      have H:=HC62.out
      clear HC62
      replace H:=bS H
      obtain ⟨t609,A63,H⟩:=H
      try dsimp only at H
      by_cases c64:t609=true
      ·
       subst c64
       rw [if_pos rfl] at H
       try dsimp only at H
       replace H:=bS H
       obtain ⟨t610,A65,H⟩:=H
       try dsimp only at H
       have H':=aA.mk H
       clear H
       go_wp2_with (first|((with_reducible refine gd 76 rfl ?_);refine gC (some 76) rfl Try.func59 (bQ.calls (w:=_) (hr1:=cR (Kd.R_reads' HO_11.out).2.2) (hc1:=(Kd.R_reads' HO_11.out).2.1) (h:=A63.out)) ?_;rintro _ ⟨nd,rfl⟩;obtain ⟨Ao66,co66,eo66⟩:=Kd.R_slice HO_12.out;subst eo66)|(go_at_call 59;(with_reducible refine (bQ.calls k1 1000000 _ _ x12_1 t610 _ ?side1 ?side2 A65.out).mono ?_);(case side1=>exact cR (Kd.R_reads' HO_12.out).2.2);(case side2=>exact (Kd.R_reads' HO_12.out).2.1);rintro e w' ⟨rfl,⟨nd,rfl⟩⟩))
       go_meet
       case rel=>exact ⟨_,(!t610),hB,H',⟨by have:=HK1.out;first|omega|exact Nat.le_refl _⟩,⟨by (try simp only [hl11_1]);(with_reducible repeat (first|apply Kd.R_alloc|apply Kd.R_drewN|apply Kd.R_drew));exact HO_11.out⟩,⟨by (try simp only [hl11_1]);(with_reducible repeat (first|apply Kd.R_alloc|apply Kd.R_drewN|apply Kd.R_drew));exact HO_12.out⟩,⟨by (try simp only [hl11_1]);exact bkA BK583⟩,⟨by (try simp only [hl11_1]);exact bkA BK584⟩,⟨by (try simp only [hl11_1]);exact bkA BK585⟩,⟨by (try simp only [hl11_1]);exact bkA BK586⟩,⟨by (try simp only [hl11_1]);exact bkA BK587⟩,⟨blA⟩⟩
      ·
       replace c64:=Bool.eq_false_iff.mpr c64
       subst c64
       rw [if_neg (show ¬ (false=true) by decide)] at H
       try dsimp only at H
       have H':=aA.mk H
       clear H
       go_wp2_with (first|((with_reducible refine gd 76 rfl ?_);refine gC (some 76) rfl Try.func59 (bQ.calls (w:=_) (hr1:=cR (Kd.R_reads' HO_11.out).2.2) (hc1:=(Kd.R_reads' HO_11.out).2.1) (h:=A63.out)) ?_;rintro _ ⟨nd,rfl⟩))
       go_meet
       case rel=>exact ⟨_,(true),hB,H',⟨by have:=HK1.out;first|omega|exact Nat.le_refl _⟩,⟨by (try simp only [hl11_1]);(with_reducible repeat (first|apply Kd.R_alloc|apply Kd.R_drewN|apply Kd.R_drew));exact HO_11.out⟩,⟨by (try simp only [hl11_1]);(with_reducible repeat (first|apply Kd.R_alloc|apply Kd.R_drewN|apply Kd.R_drew));exact HO_12.out⟩,⟨by (try simp only [hl11_1]);exact bkA BK583⟩,⟨by (try simp only [hl11_1]);exact bkA BK584⟩,⟨by (try simp only [hl11_1]);exact bkA BK585⟩,⟨by (try simp only [hl11_1]);exact bkA BK586⟩,⟨by (try simp only [hl11_1]);exact bkA BK587⟩,⟨blA⟩⟩
     case rest=>
      clear HC62
      try clear c2
      try clear c6
      try clear c6b0
      try clear c6b1
      try clear c45
      try clear c45b0
      try clear c47
      try clear c47b0
      try clear c48
      try clear c48b0
      try clear c49
      try clear c49b0
      try clear c50
      try clear c50b0
      try clear c51
      try clear c51b0
      try clear c53
      try clear c53b0
      try clear c53b1
      try clear p54
      try clear q54
      try clear p55
      try clear q55
      try clear c64
      try clear hcz20_0
      try clear hcz20_1
      try clear hcz24_0
      try clear hcz24_1
      try clear hcz27_0
      try clear hcz27_1
      try clear hcz29_0
      try clear hcz29_1
      try clear hfz20_0
      try clear hfz20_1
      try clear hfz24_0
      try clear hfz24_1
      try clear hfz27_0
      try clear hfz27_1
      try clear hfz29_0
      try clear hfz29_1
      try clear hx54_0
      try clear hx55_0
      try clear hx602_0
      try clear hx603_0
      try clear hx605_0
      try clear hx607_0
      try clear p54
      try clear p55
      try clear p602
      try clear p603
      try clear p605
      try clear p607
      try clear q54
      try clear q55
      try clear q602
      try clear q603
      try clear q605
      try clear q607
      obtain ⟨kq,x82_61,rfl,HA,HJ61,HO_11,HO_12,BK583,BK584,BK585,BK586,BK587,HB⟩:=hcut
      cases kq with
      | zero=>exact absurd HA.out (by simp [aJ.j2])
      | succ kj61=>
       have H:=HA.out
       clear HA
       simp only [aJ.j2] at H
       by_cases c67:x82_61=true
       ·
        subst c67
        rw [if_pos rfl] at H
        try dsimp only at H
        simp only [Option.some.injEq,Prod.mk.injEq] at H
        obtain ⟨rfl,rfl,rfl⟩:=H
        have hnb68:=LT583_587.out
        have hnb69:=LT584_587.out
        have hnb70:=LT585_587.out
        have hnb71:=LT586_587.out
        obtain ⟨hcz72_0,hcz72_1,hfz72_0,hfz72_1⟩:=cz2 BK587
        go_wp2
        refine bodyPost_ret (bC rfl _ _ gb587 28 #[.int .i64 0,.int .i64 0] (0,0) _ rfl (bpA BK587) Try.underlying28 rfl (by kernel_rfl)) rfl ?_
        exact bU blA
       ·
        replace c67:=Bool.eq_false_iff.mpr c67
        subst c67
        rw [if_neg (show ¬ (false=true) by decide)] at H
        try dsimp only at H
        by_cases c73:0<(x11_1.length:Int)
        rotate_left
        ·
         rw [if_neg c73] at H
         exact absurd H (by simp)
        rw [if_pos c73] at H
        have c73b0:=decide_eq_true c73
        try (have c73b9_0:=c73b0;simp only [hl11_1] at c73b9_0)
        have c73b1:decide (0<x11_1.length)=true:=decide_eq_true (by omega)
        clear c73
        by_cases c74:1<(x11_1.length:Int)
        rotate_left
        ·
         rw [if_neg c74] at H
         exact absurd H (by simp)
        rw [if_pos c74] at H
        have c74b0:=decide_eq_true c74
        try (have c74b9_0:=c74b0;simp only [hl11_1] at c74b9_0)
        have c74b1:decide (1<x11_1.length)=true:=decide_eq_true (by omega)
        clear c74
        by_cases c75:0<(x12_1.length:Int)
        rotate_left
        ·
         rw [if_neg c75] at H
         exact absurd H (by simp)
        rw [if_pos c75] at H
        have c75b0:=decide_eq_true c75
        try (have c75b9_0:=c75b0;simp only [hl11_1] at c75b9_0)
        have c75b1:decide (0<x12_1.length)=true:=decide_eq_true (by omega)
        clear c75
        by_cases c76:1<(x12_1.length:Int)
        rotate_left
        ·
         rw [if_neg c76] at H
         exact absurd H (by simp)
        rw [if_pos c76] at H
        have c76b0:=decide_eq_true c76
        try (have c76b9_0:=c76b0;simp only [hl11_1] at c76b9_0)
        have c76b1:decide (1<x12_1.length)=true:=decide_eq_true (by omega)
        clear c76
        replace H:=bS H
        obtain ⟨⟨t615,t616,t617⟩,A77,H⟩:=H
        try dsimp only at H
        replace H:=bS H
        obtain ⟨⟨t618,t619,t620⟩,A78,H⟩:=H
        try dsimp only at H
        simp only [Option.some.injEq,Prod.mk.injEq] at H
        obtain ⟨rfl,rfl,rfl⟩:=H
        try go_wp2
        have n0_:=aA.mk (Kd.R_drew HO_11.out)
        have n1_:=aA.mk (Kd.R_drew HO_12.out)
        have n2_:=aA.mk (aK BK583.out)
        have n3_:=aA.mk (aK BK584.out)
        have n4_:=aA.mk (aK BK585.out)
        have n5_:=aA.mk (aK BK586.out)
        have n6_:=aA.mk (aK BK587.out)
        have n7_:=aA.mk (aV HB.out)
        clear HO_11
        clear HO_12
        clear BK583
        clear BK584
        clear BK585
        clear BK586
        clear BK587
        clear HB
        have HO_11:=n0_
        have HO_12:=n1_
        have BK583:=n2_
        have BK584:=n3_
        have BK585:=n4_
        have BK586:=n5_
        have BK587:=n6_
        have HB:=n7_
        clear n0_ n1_ n2_ n3_ n4_ n5_ n6_ n7_
        have p611:0≤(0:Int):=(by omega)
        have q611:0<(x11_1.length:Int):=dA
        obtain ⟨ad611,e611,hx611_0⟩:=Kd.at_int (Kd.R_reads' HO_11.out).2.2 0 p611 q611
        cases e611
        have qi611:(0<x11_1.length)=True:=eq_true (by omega)
        (try rw [show ((0:Int)).toNat=0 from rfl] at hx611_0)
        (try rw [Addr.add_zero'] at hx611_0)
        replace p611:=eq_true p611
        replace q611:=eq_true q611
        have p612:0≤(1:Int):=(by omega)
        have q612:1<(x11_1.length:Int):=dA
        obtain ⟨ad612,e612,hx612_0⟩:=Kd.at_int (Kd.R_reads' HO_11.out).2.2 1 p612 q612
        obtain rfl:ad611=ad612:=(by injection e612)
        (try simp only [show (1:Int).toNat=1 from rfl,Nat.reduceMul,Nat.reduceEqDiff,Go.Addr.add,↓reduceIte] at hx612_0)
        have qi612:(1<x11_1.length)=True:=eq_true (by omega)
        (try rw [show ((1:Int)).toNat=1 from rfl] at hx612_0)
        replace p612:=eq_true p612
        replace q612:=eq_true q612
        obtain ⟨Ao80,co80,eo80⟩:=Kd.R_slice HO_12.out
        (first|subst eo80|(injection eo80 with f1_ f2_ f3_;have f4_:=f1_.symm;have f5_:=f3_.symm;clear f1_ f2_ f3_;subst f4_;subst f5_))
        have p613:0≤(0:Int):=(by omega)
        have q613:0<(x12_1.length:Int):=dA
        obtain ⟨ad613,e613,hx613_0⟩:=Kd.at_int (Kd.R_reads' HO_12.out).2.2 0 p613 q613
        cases e613
        have qi613:(0<x12_1.length)=True:=eq_true (by omega)
        (try rw [show ((0:Int)).toNat=0 from rfl] at hx613_0)
        (try rw [Addr.add_zero'] at hx613_0)
        replace p613:=eq_true p613
        replace q613:=eq_true q613
        have p614:0≤(1:Int):=(by omega)
        have q614:1<(x12_1.length:Int):=dA
        obtain ⟨ad614,e614,hx614_0⟩:=Kd.at_int (Kd.R_reads' HO_12.out).2.2 1 p614 q614
        obtain rfl:ad613=ad614:=(by injection e614)
        (try simp only [show (1:Int).toNat=1 from rfl,Nat.reduceMul,Nat.reduceEqDiff,Go.Addr.add,↓reduceIte] at hx614_0)
        have qi614:(1<x12_1.length)=True:=eq_true (by omega)
        (try rw [show ((1:Int)).toNat=1 from rfl] at hx614_0)
        replace p614:=eq_true p614
        replace q614:=eq_true q614
        refine bf (n:=22) (S:=fun w'=>w'.cell? ad611=some (.int .i64 (rd x11_1 0))∧w'.cell? ⟨ad611.block,ad611.off+1,none⟩=some (.int .i64 (rd x11_1 1))∧w'.cell? ad613=some (.int .i64 (rd x12_1 0))∧w'.cell? ⟨ad613.block,ad613.off+1,none⟩=some (.int .i64 (rd x12_1 1))) (ds:=[]) #[Z,Z,Z,Z,Z,Z,Z,Z,Z,Z,Z,Z,Z,Z,Z,Z,Z,Z,Z,Z,Z,Z] (by kernel_rfl) rfl rfl ⟨hx611_0,hx612_0,hx613_0,hx614_0⟩ (fun hHeld=>?_);refine bH aJ.tab19 aJ.bits19 (fun HT_ HW_=>?_)
        generalize wc.drew=w79 at HO_11 HO_12 BK583 BK584 BK585 BK586 BK587 HB hx611_0 hx612_0 hx613_0 hx614_0 hHeld ⊢
        refine puA (i:=0) (N:=some 84) #[Y,Z,Z,Z,Z,Z,Z,Z,Z,Z,Z,Z,Z,Z,Z,Z,Z,Z,Z,Z,Z,Z] rfl rfl HT_ ?_
        refine puA (i:=1) (N:=some 85) #[Y,Y,Z,Z,Z,Z,Z,Z,Z,Z,Z,Z,Z,Z,Z,Z,Z,Z,Z,Z,Z,Z] rfl rfl HT_ ?_
        refine puA (i:=3) (N:=some 87) #[Y,Y,Z,Y,Z,Z,Z,Z,Z,Z,Z,Z,Z,Z,Z,Z,Z,Z,Z,Z,Z,Z] rfl rfl HT_ ?_
        refine puA (i:=4) (N:=some 88) #[Y,Y,Z,Y,Y,Z,Z,Z,Z,Z,Z,Z,Z,Z,Z,Z,Z,Z,Z,Z,Z,Z] rfl rfl HT_ ?_
        refine puA (i:=7) (N:=some 91) #[Y,Y,Z,Y,Y,Z,Z,Y,Z,Z,Z,Z,Z,Z,Z,Z,Z,Z,Z,Z,Z,Z] rfl rfl HT_ ?_
        refine puA (i:=8) (N:=some 92) #[Y,Y,Z,Y,Y,Z,Z,Y,Y,Z,Z,Z,Z,Z,Z,Z,Z,Z,Z,Z,Z,Z] rfl rfl HT_ ?_
        refine puA (i:=10) (N:=some 94) #[Y,Y,Z,Y,Y,Z,Z,Y,Y,Z,Y,Z,Z,Z,Z,Z,Z,Z,Z,Z,Z,Z] rfl rfl HT_ ?_
        refine puA (i:=11) (N:=some 95) #[Y,Y,Z,Y,Y,Z,Z,Y,Y,Z,Y,Y,Z,Z,Z,Z,Z,Z,Z,Z,Z,Z] rfl rfl HT_ ?_
        refine taA (i:=2) (N:=some 86) #[Y,Y,Y,Y,Y,Z,Z,Y,Y,Z,Y,Y,Z,Z,Z,Z,Z,Z,Z,Z,Z,Z] rfl rfl HT_ HW_ hHeld ?_
        refine taA (i:=5) (N:=some 89) #[Y,Y,Y,Y,Y,Y,Z,Y,Y,Z,Y,Y,Z,Z,Z,Z,Z,Z,Z,Z,Z,Z] rfl rfl HT_ HW_ hHeld ?_
        refine puA (i:=6) (N:=some 90) #[Y,Y,Y,Y,Y,Y,Y,Y,Y,Z,Y,Y,Z,Z,Z,Z,Z,Z,Z,Z,Z,Z] rfl rfl HT_ ?_
        refine taA (i:=9) (N:=some 93) #[Y,Y,Y,Y,Y,Y,Y,Y,Y,Y,Y,Y,Z,Z,Z,Z,Z,Z,Z,Z,Z,Z] rfl rfl HT_ HW_ hHeld ?_
        refine taA (i:=12) (N:=some 96) #[Y,Y,Y,Y,Y,Y,Y,Y,Y,Y,Y,Y,Y,Z,Z,Z,Z,Z,Z,Z,Z,Z] rfl rfl HT_ HW_ hHeld ?_
        refine puA (i:=13) (N:=some 97) #[Y,Y,Y,Y,Y,Y,Y,Y,Y,Y,Y,Y,Y,Y,Z,Z,Z,Z,Z,Z,Z,Z] rfl rfl HT_ ?_
        refine bg (i:=14) (N:=some 98) #[Y,Y,Y,Y,Y,Y,Y,Y,Y,Y,Y,Y,Y,Y,Y,Z,Z,Z,Z,Z,Z,Z] rfl rfl (az HT_.out (by kernel_rfl)) (by decide) (fun K hK=>?_)
        refine goes_ Try.func61 (by kernel_rfl) rfl #[.int .i64 (wrap64 ((rd x11_1 0)*(rd x11_1 1))),.int .i64 (wrap64 ((rd x12_1 0)*(rd x12_1 1)))] (by rfl) rfl rfl hA ?_
        with_reducible refine (cQ.calls kj61 (wrap64 ((rd x11_1 0)*(rd x11_1 1))) (wrap64 ((rd x12_1 0)*(rd x12_1 1))) t615 t616 t617 _ A77.out).mono ?_
        rintro e w81 ⟨rfl,hb⟩
        have HS0_:=(hb.cell (World.block_lt_of_cell? _ _ (hHeld.1))).trans (hHeld.1)
        have HS1_:=(hb.cell (World.block_lt_of_cell? _ _ (hHeld.2.1))).trans (hHeld.2.1)
        have HS2_:=(hb.cell (World.block_lt_of_cell? _ _ (hHeld.2.2.1))).trans (hHeld.2.2.1)
        have HS3_:=(hb.cell (World.block_lt_of_cell? _ _ (hHeld.2.2.2))).trans (hHeld.2.2.2)
        refine ⟨_,rfl,?_⟩
        replace HO_11:=aA.mk (Kd.R_below (rA HO_11) hb)
        replace HO_12:=aA.mk (Kd.R_below (rA HO_12) hb)
        replace BK583:=kB BK583 hb
        replace BK584:=kB BK584 hb
        replace BK585:=kB BK585 hb
        replace BK586:=kB BK586 hb
        replace BK587:=kB BK587 hb
        replace HB:=lB hb
        (try clear hb)
        (try clear hb2)
        (try clear hk)
        (try clear hi)
        refine hK.out _ _ ⟨HS0_,HS1_,HS2_,HS3_⟩ (fun hHeld=>?_)
        clear hK K
        refine nmA ?_
        refine puA (i:=15) (N:=some 99) #[Y,Y,Y,Y,Y,Y,Y,Y,Y,Y,Y,Y,Y,Y,Y,Y,Z,Z,Z,Z,Z,Z] rfl rfl HT_ ?_
        refine puA (i:=16) (N:=some 100) #[Y,Y,Y,Y,Y,Y,Y,Y,Y,Y,Y,Y,Y,Y,Y,Y,Y,Z,Z,Z,Z,Z] rfl rfl HT_ ?_
        refine bg (i:=17) (N:=some 101) #[Y,Y,Y,Y,Y,Y,Y,Y,Y,Y,Y,Y,Y,Y,Y,Y,Y,Y,Z,Z,Z,Z] rfl rfl (az HT_.out (by kernel_rfl)) (by decide) (fun K hK=>?_)
        refine goes_ Try.func60 (by kernel_rfl) rfl #[.agg #[.int .i64 t615,.int .i64 t616],.bool t617] (by rfl) rfl rfl hA ?_
        with_reducible refine (dO.calls t615 t616 t617 t618 t619 t620 _ A78.out).mono ?_
        rintro e w82 ⟨rfl,hb⟩
        have HS0_:=(hb.cell (World.block_lt_of_cell? _ _ (hHeld.1))).trans (hHeld.1)
        have HS1_:=(hb.cell (World.block_lt_of_cell? _ _ (hHeld.2.1))).trans (hHeld.2.1)
        have HS2_:=(hb.cell (World.block_lt_of_cell? _ _ (hHeld.2.2.1))).trans (hHeld.2.2.1)
        have HS3_:=(hb.cell (World.block_lt_of_cell? _ _ (hHeld.2.2.2))).trans (hHeld.2.2.2)
        refine ⟨_,rfl,?_⟩
        replace HO_11:=aA.mk (Kd.R_below (rA HO_11) hb)
        replace HO_12:=aA.mk (Kd.R_below (rA HO_12) hb)
        replace BK583:=kB BK583 hb
        replace BK584:=kB BK584 hb
        replace BK585:=kB BK585 hb
        replace BK586:=kB BK586 hb
        replace BK587:=kB BK587 hb
        replace HB:=lB hb
        (try clear hb)
        (try clear hb2)
        (try clear hk)
        (try clear hi)
        refine hK.out _ _ ⟨HS0_,HS1_,HS2_,HS3_⟩ (fun hHeld=>?_)
        clear hK K
        refine nmA ?_
        refine puA (i:=18) (N:=some 102) #[Y,Y,Y,Y,Y,Y,Y,Y,Y,Y,Y,Y,Y,Y,Y,Y,Y,Y,Y,Z,Z,Z] rfl rfl HT_ ?_
        refine puA (i:=19) (N:=some 103) #[Y,Y,Y,Y,Y,Y,Y,Y,Y,Y,Y,Y,Y,Y,Y,Y,Y,Y,Y,Y,Z,Z] rfl rfl HT_ ?_
        refine bg (i:=20) (N:=none) #[Y,Y,Y,Y,Y,Y,Y,Y,Y,Y,Y,Y,Y,Y,Y,Y,Y,Y,Y,Y,Y,Z] rfl rfl (az HT_.out (by kernel_rfl)) (by decide) (fun K hK=>?_)
        have hs83:w82.cell? ⟨gb587,0,none⟩=some (.int .i64 0):=cA BK587 0
        have hfs83:=aQ BK587.out 0
        have hns83_0:=NB583_587.out
        have hns83_1:=NB584_587.out
        have hns83_2:=NB585_587.out
        have hns83_3:=NB586_587.out
        have hms83_0:=NB587_583.out
        have hms83_1:=NB587_584.out
        have hms83_2:=NB587_585.out
        have hms83_3:=NB587_586.out
        have hs84:w82.cell? ⟨gb587,1,none⟩=some (.int .i64 0):=cA BK587 1
        have hfs84:=aQ BK587.out 1
        have hns84_0:=NB583_587.out
        have hns84_1:=NB584_587.out
        have hns84_2:=NB585_587.out
        have hns84_3:=NB586_587.out
        have hms84_0:=NB587_583.out
        have hms84_1:=NB587_584.out
        have hms84_2:=NB587_585.out
        have hms84_3:=NB587_586.out
        refine dp (w1:=?_) (by rfl) rfl ?_ ?_
        rotate_left
        ·
         go_simp
         rfl
        refine hK.out _ _ ⟨((de (p:=⟨gb587,_,none⟩) (fB (Kd.own_blk (Kd.R_ne HO_11.out BK587.out (by decide)))) _).trans (((de (p:=⟨gb587,_,none⟩) (fB (Kd.own_blk (Kd.R_ne HO_11.out BK587.out (by decide)))) _).trans (hHeld.1)))),((de (p:=⟨gb587,_,none⟩) (fB (Kd.own_blk (Kd.R_ne HO_11.out BK587.out (by decide)))) _).trans (((de (p:=⟨gb587,_,none⟩) (fB (Kd.own_blk (Kd.R_ne HO_11.out BK587.out (by decide)))) _).trans (hHeld.2.1)))),((de (p:=⟨gb587,_,none⟩) (fB (Kd.own_blk (Kd.R_ne HO_12.out BK587.out (by decide)))) _).trans (((de (p:=⟨gb587,_,none⟩) (fB (Kd.own_blk (Kd.R_ne HO_12.out BK587.out (by decide)))) _).trans (hHeld.2.2.1)))),((de (p:=⟨gb587,_,none⟩) (fB (Kd.own_blk (Kd.R_ne HO_12.out BK587.out (by decide)))) _).trans (((de (p:=⟨gb587,_,none⟩) (fB (Kd.own_blk (Kd.R_ne HO_12.out BK587.out (by decide)))) _).trans (hHeld.2.2.2))))⟩ (fun hHeld=>?_)
        clear hK K
        refine puA (i:=21) (N:=some 9) #[Y,Y,Y,Y,Y,Y,Y,Y,Y,Y,Y,Y,Y,Y,Y,Y,Y,Y,Y,Y,Y,Y] rfl rfl HT_ ?_
        refine cL (bX HT_.out (by kernel_rfl)) ?_
        try go_wp2
        refine bodyPost_ret (bC rfl _ _ gb587 28 #[.int .i64 t618,.int .i64 t619] (0,0) _ rfl (bpA BK587) Try.underlying28 rfl (by kernel_rfl)) rfl ?_
        exact bU blA
 ·
  rw [if_neg c6] at H
  have c6b0:(t591 == 0)=false:=beq_eq_false_iff_ne.mpr c6
  have c6b1:(t591 != 0)=true:=bne_iff_ne.mpr c6
  simp only [Option.some.injEq,Prod.mk.injEq] at H
  obtain ⟨rfl,rfl,rfl⟩:=H
  go_enter Try.func20,Try.ntmps20
  go_wp2_with (first|((with_reducible refine aH (N:=4) rfl ?_);refine bxE (cs:=#[.int .i64 a0_0,.int .i64 a0_1]) (t:=28) ?_;intro gb583 hg w85 hbox hb;have BK583:=aA.mk hbox;have GW583:=sA hg;have GE583:=sA hg;replace HB:=lB hb;clear hb hbox hg)|((with_reducible refine aH (N:=5) rfl ?_);refine bxE (cs:=#[.int .i64 a1_0,.int .i64 a1_1]) (t:=28) ?_;intro gb584 hg w86 hbox hb;have LT583_584:=nL hg BK583;have BK584:=aA.mk hbox;have GW584:=sA hg;have GE584:=sA hg;replace BK583:=kB BK583 hb;replace HB:=lB hb;clear hb hbox hg)|((with_reducible refine aH (N:=6) rfl ?_);refine bxE (cs:=#[.int .i64 a2_0,.int .i64 a2_1]) (t:=28) ?_;intro gb585 hg w87 hbox hb;have LT583_585:=nL hg BK583;have LT584_585:=nL hg BK584;have BK585:=aA.mk hbox;have GW585:=sA hg;have GE585:=sA hg;replace BK583:=kB BK583 hb;replace BK584:=kB BK584 hb;replace HB:=lB hb;clear hb hbox hg)|((with_reducible refine aH (N:=7) rfl ?_);refine bxE (cs:=#[.int .i64 a3_0,.int .i64 a3_1]) (t:=28) ?_;intro gb586 hg w88 hbox hb;have LT583_586:=nL hg BK583;have LT584_586:=nL hg BK584;have LT585_586:=nL hg BK585;have BK586:=aA.mk hbox;have GW586:=sA hg;have GE586:=sA hg;replace BK583:=kB BK583 hb;replace BK584:=kB BK584 hb;replace BK585:=kB BK585 hb;replace HB:=lB hb;clear hb hbox hg)|((with_reducible refine aH (N:=8) rfl ?_);refine bxE (cs:=#[.int .i64 0,.int .i64 0]) (t:=28) ?_;intro gb587 hg w89 hbox hb;have LT583_587:=nL hg BK583;have LT584_587:=nL hg BK584;have LT585_587:=nL hg BK585;have LT586_587:=nL hg BK586;have BK587:=aA.mk hbox;have GW587:=sA hg;have GE587:=sA hg;have NB583_587:=nA hg BK583;have NB587_583:=nB hg BK583;have NB584_587:=nA hg BK584;have NB587_584:=nB hg BK584;have NB585_587:=nA hg BK585;have NB587_585:=nB hg BK585;have NB586_587:=nA hg BK586;have NB587_586:=nB hg BK586;replace BK583:=kB BK583 hb;replace BK584:=kB BK584 hb;replace BK585:=kB BK585 hb;replace BK586:=kB BK586 hb;replace HB:=lB hb;clear hb hbox hg;have hnb90:=LT583_584.out;have hnb91:=LT583_585.out;have hnb92:=LT583_586.out;have hnb93:=LT583_587.out;obtain ⟨hcz94_0,hcz94_1,hfz94_0,hfz94_1⟩:=cz2 BK583;have hnb95:=LT584_585.out;have hnb96:=LT584_586.out;have hnb97:=LT584_587.out;obtain ⟨hcz98_0,hcz98_1,hfz98_0,hfz98_1⟩:=cz2 BK584;have hnb99:=LT585_586.out;have hnb100:=LT585_587.out;obtain ⟨hcz101_0,hcz101_1,hfz101_0,hfz101_1⟩:=cz2 BK585;have hnb102:=LT586_587.out;obtain ⟨hcz103_0,hcz103_1,hfz103_0,hfz103_1⟩:=cz2 BK586)|((with_reducible refine aH (N:=20) rfl ?_);refine Kd.R_lit k28 _ 28 ?hg (N:=20) ?hd (xs:=([(⟨a0_0,a0_1⟩:S28),(⟨a1_0,a1_1⟩:S28),(⟨a2_0,a2_1⟩:S28),(⟨a3_0,a3_1⟩:S28)]:List (S28))) (inner:=[.int .i64 a0_0,.int .i64 a0_1,.int .i64 a1_0,.int .i64 a1_1,.int .i64 a2_0,.int .i64 a2_1,.int .i64 a3_0,.int .i64 a3_1]) (ok:=fun _=>True) (okp:=fun _=>True) ?hr ?hp (fun _ hk=>hk) trivial (Below.refl _ _) (Nat.le_refl _) (by simp) ?_;(case hd=>rfl);(case hg=>rfl);(case hr=>first|(go_simp;done)|(go_simp;rfl));(case hp=>exact (aY.c2 (show Kd.M k28 _ _ _ (⟨a0_0,a0_1⟩:S28) [.int .i64 a0_0,.int .i64 a0_1] from (aw _ _ _ (⟨a0_0,a0_1⟩:S28) )) (aY.c2 (show Kd.M k28 _ _ _ (⟨a1_0,a1_1⟩:S28) [.int .i64 a1_0,.int .i64 a1_1] from (aw _ _ _ (⟨a1_0,a1_1⟩:S28) )) (aY.c2 (show Kd.M k28 _ _ _ (⟨a2_0,a2_1⟩:S28) [.int .i64 a2_0,.int .i64 a2_1] from (aw _ _ _ (⟨a2_0,a2_1⟩:S28) )) (aY.c2 (show Kd.M k28 _ _ _ (⟨a3_0,a3_1⟩:S28) [.int .i64 a3_0,.int .i64 a3_1] from (aw _ _ _ (⟨a3_0,a3_1⟩:S28) )) (aY.none _ _))))));intro v589 w104 ho105 hb hg_ hnew_;clear hg_ hnew_;(first|rw [← Ny588.out] at ho105|(simp only [Int.reduceToNat] at ho105;rw [← Ny588.out] at ho105));have HO590:=aA.mk (Kd.R_lower (Kd.R_newB (Kd.R_newB (Kd.R_newB (Kd.R_newB (Kd.R_newB ho105 (bkA BK583)) (bkA BK584)) (bkA BK585)) (bkA BK586)) (bkA BK587)) (ak blA));replace BK583:=kB BK583 hb;replace BK584:=kB BK584 hb;replace BK585:=kB BK585 hb;replace BK586:=kB BK586 hb;replace BK587:=kB BK587 hb;replace HB:=lB hb;clear hb ho105;obtain ⟨Ao106,co106,eo106⟩:=Kd.R_slice HO590.out;subst eo106)|((with_reducible refine gd 21 rfl ?_);refine gC (some 21) rfl Try.func53 (b6.calls (w:=_) (hr0:=cR (Kd.R_reads' HO590.out).2.2) (hc0:=(Kd.R_reads' HO590.out).2.1) (h:=A5.out)) ?_;intro w107 hb;replace HO590:=aA.mk (Kd.R_below (rA HO590) hb);replace BK583:=kB BK583 hb;replace BK584:=kB BK584 hb;replace BK585:=kB BK585 hb;replace BK586:=kB BK586 hb;replace BK587:=kB BK587 hb;replace HB:=lB hb;clear hb;obtain ⟨hcz108_0,hcz108_1,hfz108_0,hfz108_1⟩:=cz2 BK587))
  refine bodyPost_ret (bC rfl _ _ gb587 28 #[.int .i64 0,.int .i64 0] (0,0) _ rfl (bpA BK587) Try.underlying28 rfl (by kernel_rfl)) rfl ?_
  exact bU blA
end Go.Proofs.Ytpihnmmoahplgaa.PAll
