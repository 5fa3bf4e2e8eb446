-- turned out of the kit's print
import Derived.Test.YtabcckoeilegnaaQx
import Derived.Test.YtabcckoeilegnaaQimplmod
import Derived.Test.YtabcckoeilegnaaQspecl01Is
namespace Go.Proofs.Ytabcckoeilegnaa.PAll
open Go.RowKit Go.Proofs.YtabcckoeilegnaaW.PrintWords Go.Proofs.YtabcckoeilegnaaW.PrintLast Go.Proofs.YtabcckoeilegnaaW.PrintMore
attribute [local go_sem] Go.Proofs.Ytabcckoeilegnaa.Aux.setCell_drewN Go.Proofs.Ytabcckoeilegnaa.Aux.isSome_setCell max2_int min2_int max_two min_two max_three min_three max_four min_four
set_option linter.unusedVariables false
set_option linter.unusedSimpArgs false
def spec_l05Gap.f (k:Nat) (a0 a1_0 a1_1 a2_0 a2_1:Int):Option (Int):=(spec_l05Cross.f a1_0 a1_1 a2_0 a2_1).bind fun t623=>((spec_l01Val.f k a0 t623).bind fun t624=>((spec_l01Val.f k a0 a1_1).bind fun t625=>((spec_l01Val.f k a0 a2_1).bind fun t626=>(some (wrap64 ((wrap64 (t624 - t625)) - t626))))))
theorem spec_l05Gap.mono:∀ a0 a1 a2 a3 a4 k,LeO (spec_l05Gap.f k a0 a1 a2 a3 a4) (spec_l05Gap.f (k+1) a0 a1 a2 a3 a4):=by
 intro a0 a1 a2 a3 a4 k
 unfold spec_l05Gap.f
 repeat' first
   | with_reducible first|exact spec_l01Val.mono ..|exact LeO.refl _|exact LeO.none _|refine LeO.ite ?_ ?_|refine LeO.bind ?_ fun _=>?_
def spec_l05Gap.T1:Bool × List (List Nat × List Nat):=(true,[([],[]),([],[]),([],[]),([1,2],[1,2]),([0,3,3],[0,3]),([],[]),([],[]),([6],[6]),([5,7,4],[5,7]),([4,8],[4,8]),([],[]),([],[]),([11],[11]),([10,12,8],[10,12]),([9,13],[9,13]),([14,13,0,1,2,3,4,5,6,7,8,9,10,11,12,13,14],[14])])
def spec_l05Gap.B1:List Nat:=[0,0,0,6,15,0,0,64,255,511,0,0,2048,7679,16383,32767]
theorem spec_l05Gap.tab1:rtab .any (opsOf Try.f78 1)=spec_l05Gap.T1:=by kernel_rfl
theorem spec_l05Gap.bits1:waitsOk spec_l05Gap.T1.2 spec_l05Gap.B1=true:=by kernel_rfl
set_option maxHeartbeats 8000000 in
set_option maxRecDepth 100000 in
theorem spec_l05Gap.calls (k:Nat) (a0 a1_0 a1_1 a2_0 a2_1 r:Int) (w:World) (h:spec_l05Gap.f k a0 a1_0 a1_1 a2_0 a2_1=some r) :
  Calls Try.prog 78 #[.int .i64 a0,.agg #[.int .i64 a1_0,.int .i64 a1_1],.agg #[.int .i64 a2_0,.int .i64 a2_1]] w fun e w'=>e=.returned (.int .i64 r)∧Below w.heap.size w w':=by
 have hu27:=Try.underlying27
 have HB:=Aside0.mk (Below.refl w.heap.size w)
 have H:=h
 unfold spec_l05Gap.f at H
 clear h
 replace H:=bS H
 obtain ⟨t623,A4,H⟩:=H
 try dsimp only at H
 replace H:=bS H
 obtain ⟨t624,A5,H⟩:=H
 try dsimp only at H
 replace H:=bS H
 obtain ⟨t625,A6,H⟩:=H
 try dsimp only at H
 replace H:=bS H
 obtain ⟨t626,A7,H⟩:=H
 try dsimp only at H
 obtain rfl:=Option.some.inj H
 go_enter Try.func78,Try.ntmps78
 try go_wp2_with (first|((with_reducible refine gate_dst (N:=4) rfl ?_);refine bxE (cs:=#[.int .i64 a1_0,.int .i64 a1_1]) (t:=27) ?_;intro gb621 hg w8 hbox hb;have n0_:=lB hb;have n1_:=Aside0.mk hbox;have n2_:=sA hg;have n3_:=sA hg;clear HB;have HB:=n0_;have BK621:=n1_;have GW621:=n2_;have GE621:=n3_;clear n0_ n1_ n2_ n3_;clear hb hbox hg)|((with_reducible refine gate_dst (N:=5) rfl ?_);refine bxE (cs:=#[.int .i64 a2_0,.int .i64 a2_1]) (t:=27) ?_;intro gb622 hg w9 hbox hb;have n0_:=kB BK621 hb;have n1_:=lB hb;have n2_:=Aside0.mk hbox;have n3_:=sA hg;have n4_:=sA hg;have n5_:=nA hg BK621;have n6_:=nB hg BK621;clear BK621;clear HB;have BK621:=n0_;have HB:=n1_;have BK622:=n2_;have GW622:=n3_;have GE622:=n4_;have NB621_622:=n5_;have NB622_621:=n6_;clear n0_ n1_ n2_ n3_ n4_ n5_ n6_;clear hb hbox hg))
 have n0_:=Aside0.mk (blk_drew BK621.out)
 have n1_:=Aside0.mk (blk_drew BK622.out)
 have n2_:=Aside0.mk (below_drew1 HB.out)
 clear BK621
 clear BK622
 clear HB
 have BK621:=n0_
 have BK622:=n1_
 have HB:=n2_
 clear n0_ n1_ n2_
 refine start_ (n:=16) (S:=fun w'=>w'.cell? ⟨gb621,0,none⟩=some (.int .i64 a1_0)∧w'.cell? ⟨gb621,1,none⟩=some (.int .i64 a1_1)∧w'.cell? ⟨gb622,0,none⟩=some (.int .i64 a2_0)∧w'.cell? ⟨gb622,1,none⟩=some (.int .i64 a2_1)) (ds:=[]) #[Z,Z,Z,Z,Z,Z,Z,Z,Z,Z,Z,Z,Z,Z,Z,Z] (by kernel_rfl) rfl rfl ⟨cA BK621 0,cA BK621 1,cA BK622 0,cA BK622 1⟩ (fun hHeld=>?_);refine with_tabW spec_l05Gap.tab1 spec_l05Gap.bits1 (fun HT_ HW_=>?_)
 generalize w9.drew=w10 at BK621 BK622 HB hHeld ⊢
 refine puA (i:=0) (N:=some 7) #[Y,Z,Z,Z,Z,Z,Z,Z,Z,Z,Z,Z,Z,Z,Z,Z] rfl rfl HT_ ?_
 refine puA (i:=5) (N:=some 12) #[Y,Z,Z,Z,Z,Y,Z,Z,Z,Z,Z,Z,Z,Z,Z,Z] rfl rfl HT_ ?_
 refine puA (i:=6) (N:=some 13) #[Y,Z,Z,Z,Z,Y,Y,Z,Z,Z,Z,Z,Z,Z,Z,Z] rfl rfl HT_ ?_
 refine puA (i:=10) (N:=some 17) #[Y,Z,Z,Z,Z,Y,Y,Z,Z,Z,Y,Z,Z,Z,Z,Z] rfl rfl HT_ ?_
 refine puA (i:=11) (N:=some 18) #[Y,Z,Z,Z,Z,Y,Y,Z,Z,Z,Y,Y,Z,Z,Z,Z] rfl rfl HT_ ?_
 refine taA (i:=1) (N:=some 8) #[Y,Y,Z,Z,Z,Y,Y,Z,Z,Z,Y,Y,Z,Z,Z,Z] rfl rfl HT_ HW_ hHeld ?_
 refine taA (i:=2) (N:=some 9) #[Y,Y,Y,Z,Z,Y,Y,Z,Z,Z,Y,Y,Z,Z,Z,Z] rfl rfl HT_ HW_ hHeld ?_
 refine taA (i:=7) (N:=some 14) #[Y,Y,Y,Z,Z,Y,Y,Y,Z,Z,Y,Y,Z,Z,Z,Z] rfl rfl HT_ HW_ hHeld ?_
 refine taA (i:=12) (N:=some 19) #[Y,Y,Y,Z,Z,Y,Y,Y,Z,Z,Y,Y,Y,Z,Z,Z] rfl rfl HT_ HW_ hHeld ?_
 refine one_ (i:=3) (N:=some 10) #[Y,Y,Y,Y,Z,Y,Y,Y,Z,Z,Y,Y,Y,Z,Z,Z] rfl rfl (one_of HT_.out (by kernel_rfl)) (by decide) (fun K hK=>?_)
 refine goC Try.func88 (spec_l05Cross.calls (w:=_) (h:=A4.out)) ?_
 intro w11 hb
 replace BK621:=kB BK621 hb
 replace BK622:=kB BK622 hb
 replace HB:=lB hb
 (try clear hb)
 (try clear hb2)
 (try clear hk)
 (try clear hi)
 refine hK.out _ _ ⟨cA BK621 0,cA BK621 1,cA BK622 0,cA BK622 1⟩ (fun hHeld=>?_)
 clear hK K
 refine nmA ?_
 refine one_ (i:=4) (N:=some 11) #[Y,Y,Y,Y,Y,Y,Y,Y,Z,Z,Y,Y,Y,Z,Z,Z] rfl rfl (one_of HT_.out (by kernel_rfl)) (by decide) (fun K hK=>?_)
 refine goC Try.func79 (spec_l01Val.calls (w:=_) (h:=A5.out)) ?_
 rintro _ ⟨nd,rfl⟩
 refine hK.out _ _ ⟨cA BK621 0,cA BK621 1,cA BK622 0,cA BK622 1⟩ (fun hHeld=>?_)
 clear hK K
 refine nmA ?_
 refine one_ (i:=8) (N:=some 15) #[Y,Y,Y,Y,Y,Y,Y,Y,Y,Z,Y,Y,Y,Z,Z,Z] rfl rfl (one_of HT_.out (by kernel_rfl)) (by decide) (fun K hK=>?_)
 refine goC Try.func79 (spec_l01Val.calls (w:=_) (h:=A6.out)) ?_
 rintro _ ⟨nd,rfl⟩
 refine hK.out _ _ ⟨cA BK621 0,cA BK621 1,cA BK622 0,cA BK622 1⟩ (fun hHeld=>?_)
 clear hK K
 refine nmA ?_
 refine puA (i:=9) (N:=some 16) #[Y,Y,Y,Y,Y,Y,Y,Y,Y,Y,Y,Y,Y,Z,Z,Z] rfl rfl HT_ ?_
 refine one_ (i:=13) (N:=some 20) #[Y,Y,Y,Y,Y,Y,Y,Y,Y,Y,Y,Y,Y,Y,Z,Z] rfl rfl (one_of HT_.out (by kernel_rfl)) (by decide) (fun K hK=>?_)
 refine goC Try.func79 (spec_l01Val.calls (w:=_) (h:=A7.out)) ?_
 rintro _ ⟨nd,rfl⟩
 refine hK.out _ _ ⟨cA BK621 0,cA BK621 1,cA BK622 0,cA BK622 1⟩ (fun hHeld=>?_)
 clear hK K
 refine nmA ?_
 refine puA (i:=14) (N:=some 21) #[Y,Y,Y,Y,Y,Y,Y,Y,Y,Y,Y,Y,Y,Y,Y,Z] rfl rfl HT_ ?_
 refine puA (i:=15) (N:=some 6) #[Y,Y,Y,Y,Y,Y,Y,Y,Y,Y,Y,Y,Y,Y,Y,Y] rfl rfl HT_ ?_
 refine done_ (done_of HT_.out (by kernel_rfl)) ?_
 try go_wp2
 go_ret
 exact finA blA
def spec_l01DrawPrime.f (s0_0:List Int) (s0_1 s0_2:Int):Option (Int × Int × Int):=(spec_l01Pick.f s0_0 s0_1 s0_2 (([2,2,3,3,5,7]:List Int))).bind fun bt111=>(some (bt111.1,bt111.2.1,bt111.2.2))
set_option maxHeartbeats 8000000 in
set_option maxRecDepth 100000 in
theorem spec_l01DrawPrime.calls (g:Nat) (s0_0:List Int) (s0_1 s0_2 r1 r2 r3:Int) (w0 w:World) (hI:IsS74 w0 w g s0_0 s0_1 s0_2) (hB:Below w0.heap.size w0 w) (h:spec_l01DrawPrime.f s0_0 s0_1 s0_2=some (r1,r2,r3)) :
  Calls Try.prog 47 #[.pointer (some ⟨g,0,none⟩)] w fun e w'=>e=.returned (.int .i64 r1)∧IsS74 w0 w' g s0_0 r2 r3∧Below w0.heap.size w0 w'∧KeepBut w w' g none:=by
 have HI0:=Aside0.mk hI
 have HK:=Aside0.mk (KeepBut.refl w g none)
 have HL:=Aside0.mk hB.size
 clear hI
 have HW0:=Aside0.mk hB.size
 have HB:=Aside0.mk hB
 clear hB
 have H:=h
 unfold spec_l01DrawPrime.f at H
 clear h
 obtain ⟨y108,hy108⟩:∃ y_:List Int,y_=(([2,2,3,3,5,7]:List Int)):=⟨_,rfl⟩
 replace H:((spec_l01Pick.f s0_0 s0_1 s0_2 y108).bind fun bt111=>(some (bt111.1,bt111.2.1,bt111.2.2)))=some (r1,r2,r3):=rH hy108 H
 have Ny108:=Aside0.mk hy108
 clear hy108
 replace H:=bS H
 obtain ⟨⟨t111,t112,t113⟩,A2,H⟩:=H
 try dsimp only at H
 simp only [Option.some.injEq,Prod.mk.injEq] at H
 obtain ⟨rfl,rfl,rfl⟩:=H
 go_enter Try.func47,Try.ntmps47
 go_wp2_with (first|((with_reducible refine gate_dst (N:=4) rfl ?_);refine Kd.R_lit (Kd.int .i64) _ 2 ?hg (N:=4) ?hd (xs:=([2,2,3,3,5,7]:List Int)) (inner:=[.int .i64 2,.int .i64 2,.int .i64 3,.int .i64 3,.int .i64 5,.int .i64 7]) (ok:=fun _=>True) (okp:=fun _=>True) ?hr ?hp (fun _ hk=>hk) trivial (Below.refl _ _) (Nat.le_refl _) (by simp) ?_;(case hd=>rfl);(case hg=>rfl);(case hr=>first|(go_simp;done)|(go_simp;rfl));(case hp=>exact (Reps.one (show Kd.M (Kd.int .i64) _ _ _ 2 [.int .i64 2] from rfl) (Reps.one (show Kd.M (Kd.int .i64) _ _ _ 2 [.int .i64 2] from rfl) (Reps.one (show Kd.M (Kd.int .i64) _ _ _ 3 [.int .i64 3] from rfl) (Reps.one (show Kd.M (Kd.int .i64) _ _ _ 3 [.int .i64 3] from rfl) (Reps.one (show Kd.M (Kd.int .i64) _ _ _ 5 [.int .i64 5] from rfl) (Reps.one (show Kd.M (Kd.int .i64) _ _ _ 7 [.int .i64 7] from rfl) (Reps.none _ _))))))));intro v109 w3 ho4 hb hg_ hnew_;clear hg_ hnew_;(first|rw [← Ny108.out] at ho4|(simp only [Int.reduceToNat] at ho4;rw [← Ny108.out] at ho4));have n0_:=Aside0.mk (Kd.R_lower ho4 (keep_size (w:=w) (g:=g) (row:=none) kpA));have n1_:=Aside0.mk (IsS74.below (iA HI0) hb);have n2_:=kbA HK hb;have n3_:=lI hb;clear HI0;clear HK;clear HB;have HO110:=n0_;have HI0:=n1_;have HK:=n2_;have HB:=n3_;clear n0_ n1_ n2_ n3_;clear hb ho4;obtain ⟨Ao5,co5,eo5⟩:=Kd.R_slice HO110.out;subst eo5)|((with_reducible refine gd 5 rfl ?_);refine gC (some 5) rfl Try.func25 (spec_l01Pick.calls (w:=_) (g:=g) (w0:=w0) (hI:=iA HI0) (hB:=blI) (hr1:=cR (Kd.R_reads' HO110.out).2.2) (hc1:=(Kd.R_reads' HO110.out).2.1) (hf1:=far_slice (IsS74.own_ne HI0.out HO110.out (by decide))) (h:=A2.out)) ?_;rintro w6 ⟨hi,hb,hk⟩;replace HO110:=Aside0.mk (Kd.R_mono (Kd.R_keep (IsS74.apart (show IsS74 w0 _ g s0_0 s0_1 s0_2 from iA HI0) (rA HO110) (by decide)) hk (fun _ h=>h.2)) (fun _ h=>h.1));replace HK:=kkA HK hk;replace HB:=Aside0.mk hb;replace HI0:=Aside0.mk hi;clear hi hb hk))
 go_ret
 exact ⟨eW,iA HI0,blI,kpA⟩
def spec_l01Bad.f (s0_0:List Int) (s0_1 s0_2 a1_0 a1_1 a1_2:Int):Option (Int × Int × Int × Int × Int):=(spec_l01Next.f s0_0 s0_1 s0_2 40).bind fun bt116=>(if bt116.1=0 then ((spec_l01Pick.f s0_0 bt116.2.1 bt116.2.2 (([(-7),7,wrap64 (a1_0 - 1),1099511627776]:List Int))).bind fun bt122=>(some (bt122.1,a1_1,a1_2,bt122.2.1,bt122.2.2))) else (if bt116.1=1 then ((spec_l01Pick.f s0_0 bt116.2.1 bt116.2.2 (([(-1),wrap64 (a1_1*7),1099511627776]:List Int))).bind fun bt128=>(some (a1_0,bt128.1,a1_2,bt128.2.1,bt128.2.2))) else (if bt116.1=2 then ((spec_l01Pick.f s0_0 bt116.2.1 bt116.2.2 (([(-1),wrap64 (a1_2+1),7]:List Int))).bind fun bt134=>(some (a1_0,a1_1,bt134.1,bt134.2.1,bt134.2.2))) else (some (a1_0,a1_1,a1_2,bt116.2.1,bt116.2.2)))))
set_option maxHeartbeats 8000000 in
set_option maxRecDepth 100000 in
theorem spec_l01Bad.calls (g:Nat) (s0_0:List Int) (s0_1 s0_2 a1_0 a1_1 a1_2 r1 r2 r3 r4 r5:Int) (w0 w:World) (hI:IsS74 w0 w g s0_0 s0_1 s0_2) (hB:Below w0.heap.size w0 w) (h:spec_l01Bad.f s0_0 s0_1 s0_2 a1_0 a1_1 a1_2=some (r1,r2,r3,r4,r5)) :
  Calls Try.prog 48 #[.pointer (some ⟨g,0,none⟩),.agg #[.int .i64 a1_0,.int .i64 a1_1,.int .i64 a1_2]] w fun e w'=>e=.returned (.agg #[.int .i64 r1,.int .i64 r2,.int .i64 r3])∧IsS74 w0 w' g s0_0 r4 r5∧Below w0.heap.size w0 w'∧KeepBut w w' g none:=by
 have hu25:=Try.underlying25
 have HI0:=Aside0.mk hI
 have HK:=Aside0.mk (KeepBut.refl w g none)
 have HL:=Aside0.mk hB.size
 clear hI
 have HW0:=Aside0.mk hB.size
 have HB:=Aside0.mk hB
 clear hB
 have H:=h
 unfold spec_l01Bad.f at H
 clear h
 replace H:=bS H
 obtain ⟨⟨t116,t117,t118⟩,A3,H⟩:=H
 try dsimp only at H
 by_cases c4:t116=0
 ·
  rw [if_pos c4] at H
  have c4b0:(t116 == 0)=true:=beq_iff_eq.mpr c4
  have c4b1:(t116 != 0)=false:=bne_eq_false_iff_eq.mpr c4
  clear c4
  obtain ⟨y119,hy119⟩:∃ y_:List Int,y_=(([(-7),7,wrap64 (a1_0 - 1),1099511627776]:List Int)):=⟨_,rfl⟩
  replace H:((spec_l01Pick.f s0_0 t117 t118 y119).bind fun bt122=>(some (bt122.1,a1_1,a1_2,bt122.2.1,bt122.2.2)))=some (r1,r2,r3,r4,r5):=rH hy119 H
  have Ny119:=Aside0.mk hy119
  clear hy119
  replace H:=bS H
  obtain ⟨⟨t122,t123,t124⟩,A5,H⟩:=H
  try dsimp only at H
  simp only [Option.some.injEq,Prod.mk.injEq] at H
  obtain ⟨rfl,rfl,rfl,rfl,rfl⟩:=H
  go_enter Try.func48,Try.ntmps48
  go_wp2_with (first|((with_reducible refine gate_dst (N:=3) rfl ?_);refine bxE (cs:=#[.int .i64 a1_0,.int .i64 a1_1,.int .i64 a1_2]) (t:=25) ?_;intro gb114 hg w6 hbox hb;have n0_:=Aside0.mk (IsS74.below (iA HI0) hb);have n1_:=kbA HK hb;have n2_:=lI hb;have n3_:=Aside0.mk hbox;have n4_:=kzA HK hg;have n5_:=Aside0.mk (Nat.le_trans HW0.out (kzA HK hg).out);have n6_:=inA hg (IsS74.lt (iA HI0));have n7_:=inB hg (IsS74.lt (iA HI0));clear HI0;clear HK;clear HB;have HI0:=n0_;have HK:=n1_;have HB:=n2_;have BK114:=n3_;have GW114:=n4_;have GE114:=n5_;have NB0_114:=n6_;have NB114_0:=n7_;clear n0_ n1_ n2_ n3_ n4_ n5_ n6_ n7_;clear hb hbox hg)|((with_reducible refine gate_dst (N:=4) rfl ?_);refine bxE (cs:=#[.int .i64 0,.int .i64 0,.int .i64 0]) (t:=25) ?_;intro gb115 hg w7 hbox hb;have n0_:=Aside0.mk (IsS74.below (iA HI0) hb);have n1_:=kB BK114 hb;have n2_:=kbA HK hb;have n3_:=lI hb;have n4_:=Aside0.mk hbox;have n5_:=kzA HK hg;have n6_:=Aside0.mk (Nat.le_trans HW0.out (kzA HK hg).out);have n7_:=nA hg BK114;have n8_:=nB hg BK114;have n9_:=inA hg (IsS74.lt (iA HI0));have n10_:=inB hg (IsS74.lt (iA HI0));clear HI0;clear BK114;clear HK;clear HB;have HI0:=n0_;have BK114:=n1_;have HK:=n2_;have HB:=n3_;have BK115:=n4_;have GW115:=n5_;have GE115:=n6_;have NB114_115:=n7_;have NB115_114:=n8_;have NB0_115:=n9_;have NB115_0:=n10_;clear n0_ n1_ n2_ n3_ n4_ n5_ n6_ n7_ n8_ n9_ n10_;clear hb hbox hg)|((with_reducible refine gd 6 rfl ?_);refine gC (some 6) rfl Try.func50 (spec_l01Next.calls (w:=_) (g:=g) (w0:=w0) (hI:=iA HI0) (hB:=blI) (h:=A3.out)) ?_;rintro w8 ⟨hi,hb,hk⟩;replace BK114:=kbk hk BK114 NB114_0;replace BK115:=kbk hk BK115 NB115_0;replace HK:=kkA HK hk;replace HB:=Aside0.mk hb;replace HI0:=Aside0.mk hi;clear hi hb hk;have hnb9:=NB114_115.out;have hnc9:=NB115_114.out;have hnb10:=NB114_0.out;have hnc10:=NB0_114.out;obtain ⟨hcz11_0,hcz11_1,hcz11_2,hfz11_0,hfz11_1,hfz11_2⟩:=cz3 BK114)|((with_reducible refine gate_dst (N:=13) rfl ?_);refine Kd.R_lit (Kd.int .i64) _ 2 ?hg (N:=13) ?hd (xs:=([(-7),7,wrap64 (a1_0 - 1),1099511627776]:List Int)) (inner:=[.int .i64 (-7),.int .i64 7,.int .i64 (wrap64 (a1_0 - 1)),.int .i64 1099511627776]) (ok:=fun _=>True) (okp:=fun _=>True) ?hr ?hp (fun _ hk=>hk) trivial (Below.refl _ _) (Nat.le_refl _) (by simp) ?_;(case hd=>rfl);(case hg=>rfl);(case hr=>first|(go_simp;done)|(go_simp;rfl));(case hp=>exact (Reps.one (show Kd.M (Kd.int .i64) _ _ _ (-7) [.int .i64 (-7)] from rfl) (Reps.one (show Kd.M (Kd.int .i64) _ _ _ 7 [.int .i64 7] from rfl) (Reps.one (show Kd.M (Kd.int .i64) _ _ _ (wrap64 (a1_0 - 1)) [.int .i64 (wrap64 (a1_0 - 1))] from rfl) (Reps.one (show Kd.M (Kd.int .i64) _ _ _ 1099511627776 [.int .i64 1099511627776] from rfl) (Reps.none _ _))))));intro v120 w12 ho13 hb hg_ hnew_;clear hg_ hnew_;(first|rw [← Ny119.out] at ho13|(simp only [Int.reduceToNat] at ho13;rw [← Ny119.out] at ho13));have n0_:=Aside0.mk (Kd.R_lower ho13 (keep_size (w:=w) (g:=g) (row:=none) kpA));have n1_:=Aside0.mk (IsS74.below (iA HI0) hb);have n2_:=kB BK114 hb;have n3_:=kB BK115 hb;have n4_:=kbA HK hb;have n5_:=lI hb;clear HI0;clear BK114;clear BK115;clear HK;clear HB;have HO121:=n0_;have HI0:=n1_;have BK114:=n2_;have BK115:=n3_;have HK:=n4_;have HB:=n5_;clear n0_ n1_ n2_ n3_ n4_ n5_;clear hb ho13;obtain ⟨Ao14,co14,eo14⟩:=Kd.R_slice HO121.out;subst eo14)|((with_reducible refine gd 14 rfl ?_);refine gC (some 14) rfl Try.func25 (spec_l01Pick.calls (w:=_) (g:=g) (w0:=w0) (hI:=iA HI0) (hB:=blI) (hr1:=cR (Kd.R_reads' HO121.out).2.2) (hc1:=(Kd.R_reads' HO121.out).2.1) (hf1:=far_slice (IsS74.own_ne HI0.out HO121.out (by decide))) (h:=A5.out)) ?_;rintro w15 ⟨hi,hb,hk⟩;replace BK114:=kbk hk BK114 NB114_0;replace BK115:=kbk hk BK115 NB115_0;replace HO121:=Aside0.mk (Kd.R_mono (Kd.R_keep (IsS74.apart (show IsS74 w0 _ g s0_0 t117 t118 from iA HI0) (rA HO121) (by decide)) hk (fun _ h=>h.2)) (fun _ h=>h.1));replace HK:=kkA HK hk;replace HB:=Aside0.mk hb;replace HI0:=Aside0.mk hi;clear hi hb hk;obtain ⟨hcz16_0,hcz16_1,hcz16_2,hfz16_0,hfz16_1,hfz16_2⟩:=cz3 BK114;have hnb17:=NB115_0.out;have hnc17:=NB0_115.out;obtain ⟨hcz18_0,hcz18_1,hcz18_2,hfz18_0,hfz18_1,hfz18_2⟩:=cz3 BK115))
  refine bodyPost_ret (results_cell_row rfl _ _ gb115 25 #[.int .i64 t122,.int .i64 a1_1,.int .i64 a1_2] (0,0) _ rfl (bpA BK115) Try.underlying25 rfl (by kernel_rfl)) rfl ?_
  exact ⟨eW,iA HI0,blI,kpA⟩
 ·
  rw [if_neg c4] at H
  have c4b0:(t116 == 0)=false:=beq_eq_false_iff_ne.mpr c4
  have c4b1:(t116 != 0)=true:=bne_iff_ne.mpr c4
  by_cases c19:t116=1
  ·
   rw [if_pos c19] at H
   have c19b0:(t116 == 1)=true:=beq_iff_eq.mpr c19
   have c19b1:(t116 != 1)=false:=bne_eq_false_iff_eq.mpr c19
   clear c19
   obtain ⟨y125,hy125⟩:∃ y_:List Int,y_=(([(-1),wrap64 (a1_1*7),1099511627776]:List Int)):=⟨_,rfl⟩
   replace H:((spec_l01Pick.f s0_0 t117 t118 y125).bind fun bt128=>(some (a1_0,bt128.1,a1_2,bt128.2.1,bt128.2.2)))=some (r1,r2,r3,r4,r5):=rH hy125 H
   have Ny125:=Aside0.mk hy125
   clear hy125
   replace H:=bS H
   obtain ⟨⟨t128,t129,t130⟩,A20,H⟩:=H
   try dsimp only at H
   simp only [Option.some.injEq,Prod.mk.injEq] at H
   obtain ⟨rfl,rfl,rfl,rfl,rfl⟩:=H
   go_enter Try.func48,Try.ntmps48
   go_wp2_with (first|((with_reducible refine gate_dst (N:=3) rfl ?_);refine bxE (cs:=#[.int .i64 a1_0,.int .i64 a1_1,.int .i64 a1_2]) (t:=25) ?_;intro gb114 hg w21 hbox hb;have n0_:=Aside0.mk (IsS74.below (iA HI0) hb);have n1_:=kbA HK hb;have n2_:=lI hb;have n3_:=Aside0.mk hbox;have n4_:=kzA HK hg;have n5_:=Aside0.mk (Nat.le_trans HW0.out (kzA HK hg).out);have n6_:=inA hg (IsS74.lt (iA HI0));have n7_:=inB hg (IsS74.lt (iA HI0));clear HI0;clear HK;clear HB;have HI0:=n0_;have HK:=n1_;have HB:=n2_;have BK114:=n3_;have GW114:=n4_;have GE114:=n5_;have NB0_114:=n6_;have NB114_0:=n7_;clear n0_ n1_ n2_ n3_ n4_ n5_ n6_ n7_;clear hb hbox hg)|((with_reducible refine gate_dst (N:=4) rfl ?_);refine bxE (cs:=#[.int .i64 0,.int .i64 0,.int .i64 0]) (t:=25) ?_;intro gb115 hg w22 hbox hb;have n0_:=Aside0.mk (IsS74.below (iA HI0) hb);have n1_:=kB BK114 hb;have n2_:=kbA HK hb;have n3_:=lI hb;have n4_:=Aside0.mk hbox;have n5_:=kzA HK hg;have n6_:=Aside0.mk (Nat.le_trans HW0.out (kzA HK hg).out);have n7_:=nA hg BK114;have n8_:=nB hg BK114;have n9_:=inA hg (IsS74.lt (iA HI0));have n10_:=inB hg (IsS74.lt (iA HI0));clear HI0;clear BK114;clear HK;clear HB;have HI0:=n0_;have BK114:=n1_;have HK:=n2_;have HB:=n3_;have BK115:=n4_;have GW115:=n5_;have GE115:=n6_;have NB114_115:=n7_;have NB115_114:=n8_;have NB0_115:=n9_;have NB115_0:=n10_;clear n0_ n1_ n2_ n3_ n4_ n5_ n6_ n7_ n8_ n9_ n10_;clear hb hbox hg)|((with_reducible refine gd 6 rfl ?_);refine gC (some 6) rfl Try.func50 (spec_l01Next.calls (w:=_) (g:=g) (w0:=w0) (hI:=iA HI0) (hB:=blI) (h:=A3.out)) ?_;rintro w23 ⟨hi,hb,hk⟩;replace BK114:=kbk hk BK114 NB114_0;replace BK115:=kbk hk BK115 NB115_0;replace HK:=kkA HK hk;replace HB:=Aside0.mk hb;replace HI0:=Aside0.mk hi;clear hi hb hk;have hnb24:=NB114_115.out;have hnc24:=NB115_114.out;have hnb25:=NB114_0.out;have hnc25:=NB0_114.out;obtain ⟨hcz26_0,hcz26_1,hcz26_2,hfz26_0,hfz26_1,hfz26_2⟩:=cz3 BK114)|((with_reducible refine gate_dst (N:=22) rfl ?_);refine Kd.R_lit (Kd.int .i64) _ 2 ?hg (N:=22) ?hd (xs:=([(-1),wrap64 (a1_1*7),1099511627776]:List Int)) (inner:=[.int .i64 (-1),.int .i64 (wrap64 (a1_1*7)),.int .i64 1099511627776]) (ok:=fun _=>True) (okp:=fun _=>True) ?hr ?hp (fun _ hk=>hk) trivial (Below.refl _ _) (Nat.le_refl _) (by simp) ?_;(case hd=>rfl);(case hg=>rfl);(case hr=>first|(go_simp;done)|(go_simp;rfl));(case hp=>exact (Reps.one (show Kd.M (Kd.int .i64) _ _ _ (-1) [.int .i64 (-1)] from rfl) (Reps.one (show Kd.M (Kd.int .i64) _ _ _ (wrap64 (a1_1*7)) [.int .i64 (wrap64 (a1_1*7))] from rfl) (Reps.one (show Kd.M (Kd.int .i64) _ _ _ 1099511627776 [.int .i64 1099511627776] from rfl) (Reps.none _ _)))));intro v126 w27 ho28 hb hg_ hnew_;clear hg_ hnew_;(first|rw [← Ny125.out] at ho28|(simp only [Int.reduceToNat] at ho28;rw [← Ny125.out] at ho28));have n0_:=Aside0.mk (Kd.R_lower ho28 (keep_size (w:=w) (g:=g) (row:=none) kpA));have n1_:=Aside0.mk (IsS74.below (iA HI0) hb);have n2_:=kB BK114 hb;have n3_:=kB BK115 hb;have n4_:=kbA HK hb;have n5_:=lI hb;clear HI0;clear BK114;clear BK115;clear HK;clear HB;have HO127:=n0_;have HI0:=n1_;have BK114:=n2_;have BK115:=n3_;have HK:=n4_;have HB:=n5_;clear n0_ n1_ n2_ n3_ n4_ n5_;clear hb ho28;obtain ⟨Ao29,co29,eo29⟩:=Kd.R_slice HO127.out;subst eo29)|((with_reducible refine gd 23 rfl ?_);refine gC (some 23) rfl Try.func25 (spec_l01Pick.calls (w:=_) (g:=g) (w0:=w0) (hI:=iA HI0) (hB:=blI) (hr1:=cR (Kd.R_reads' HO127.out).2.2) (hc1:=(Kd.R_reads' HO127.out).2.1) (hf1:=far_slice (IsS74.own_ne HI0.out HO127.out (by decide))) (h:=A20.out)) ?_;rintro w30 ⟨hi,hb,hk⟩;replace BK114:=kbk hk BK114 NB114_0;replace BK115:=kbk hk BK115 NB115_0;replace HO127:=Aside0.mk (Kd.R_mono (Kd.R_keep (IsS74.apart (show IsS74 w0 _ g s0_0 t117 t118 from iA HI0) (rA HO127) (by decide)) hk (fun _ h=>h.2)) (fun _ h=>h.1));replace HK:=kkA HK hk;replace HB:=Aside0.mk hb;replace HI0:=Aside0.mk hi;clear hi hb hk;obtain ⟨hcz31_0,hcz31_1,hcz31_2,hfz31_0,hfz31_1,hfz31_2⟩:=cz3 BK114;have hnb32:=NB115_0.out;have hnc32:=NB0_115.out;obtain ⟨hcz33_0,hcz33_1,hcz33_2,hfz33_0,hfz33_1,hfz33_2⟩:=cz3 BK115))
   refine bodyPost_ret (results_cell_row rfl _ _ gb115 25 #[.int .i64 a1_0,.int .i64 t128,.int .i64 a1_2] (0,0) _ rfl (bpA BK115) Try.underlying25 rfl (by kernel_rfl)) rfl ?_
   exact ⟨eW,iA HI0,blI,kpA⟩
  ·
   rw [if_neg c19] at H
   have c19b0:(t116 == 1)=false:=beq_eq_false_iff_ne.mpr c19
   have c19b1:(t116 != 1)=true:=bne_iff_ne.mpr c19
   by_cases c34:t116=2
   focus
    rw [if_pos c34] at H
    have c34b0:(t116 == 2)=true:=beq_iff_eq.mpr c34
    have c34b1:(t116 != 2)=false:=bne_eq_false_iff_eq.mpr c34
    clear c34
    obtain ⟨y131,hy131⟩:∃ y_:List Int,y_=(([(-1),wrap64 (a1_2+1),7]:List Int)):=⟨_,rfl⟩
    replace H:((spec_l01Pick.f s0_0 t117 t118 y131).bind fun bt134=>(some (a1_0,a1_1,bt134.1,bt134.2.1,bt134.2.2)))=some (r1,r2,r3,r4,r5):=rH hy131 H
    have Ny131:=Aside0.mk hy131
    clear hy131
    replace H:=bS H
    obtain ⟨⟨t134,t135,t136⟩,A35,H⟩:=H
    try dsimp only at H
    simp only [Option.some.injEq,Prod.mk.injEq] at H
    obtain ⟨rfl,rfl,rfl,rfl,rfl⟩:=H
   rotate_left
   focus
    rw [if_neg c34] at H
    have c34b0:(t116 == 2)=false:=beq_eq_false_iff_ne.mpr c34
    have c34b1:(t116 != 2)=true:=bne_iff_ne.mpr c34
    simp only [Option.some.injEq,Prod.mk.injEq] at H
    obtain ⟨rfl,rfl,rfl,rfl,rfl⟩:=H
   rotate_left
   all_goals
    go_enter Try.func48,Try.ntmps48
    go_wp2_with (first|((with_reducible refine gate_dst (N:=3) rfl ?_);refine bxE (cs:=#[.int .i64 a1_0,.int .i64 a1_1,.int .i64 a1_2]) (t:=25) ?_;intro gb114 hg w36 hbox hb;have n0_:=Aside0.mk (IsS74.below (iA HI0) hb);have n1_:=kbA HK hb;have n2_:=lI hb;have n3_:=Aside0.mk hbox;have n4_:=kzA HK hg;have n5_:=Aside0.mk (Nat.le_trans HW0.out (kzA HK hg).out);have n6_:=inA hg (IsS74.lt (iA HI0));have n7_:=inB hg (IsS74.lt (iA HI0));clear HI0;clear HK;clear HB;have HI0:=n0_;have HK:=n1_;have HB:=n2_;have BK114:=n3_;have GW114:=n4_;have GE114:=n5_;have NB0_114:=n6_;have NB114_0:=n7_;clear n0_ n1_ n2_ n3_ n4_ n5_ n6_ n7_;clear hb hbox hg)|((with_reducible refine gate_dst (N:=4) rfl ?_);refine bxE (cs:=#[.int .i64 0,.int .i64 0,.int .i64 0]) (t:=25) ?_;intro gb115 hg w37 hbox hb;have n0_:=Aside0.mk (IsS74.below (iA HI0) hb);have n1_:=kB BK114 hb;have n2_:=kbA HK hb;have n3_:=lI hb;have n4_:=Aside0.mk hbox;have n5_:=kzA HK hg;have n6_:=Aside0.mk (Nat.le_trans HW0.out (kzA HK hg).out);have n7_:=nA hg BK114;have n8_:=nB hg BK114;have n9_:=inA hg (IsS74.lt (iA HI0));have n10_:=inB hg (IsS74.lt (iA HI0));clear HI0;clear BK114;clear HK;clear HB;have HI0:=n0_;have BK114:=n1_;have HK:=n2_;have HB:=n3_;have BK115:=n4_;have GW115:=n5_;have GE115:=n6_;have NB114_115:=n7_;have NB115_114:=n8_;have NB0_115:=n9_;have NB115_0:=n10_;clear n0_ n1_ n2_ n3_ n4_ n5_ n6_ n7_ n8_ n9_ n10_;clear hb hbox hg)|((with_reducible refine gd 6 rfl ?_);refine gC (some 6) rfl Try.func50 (spec_l01Next.calls (w:=_) (g:=g) (w0:=w0) (hI:=iA HI0) (hB:=blI) (h:=A3.out)) ?_;rintro w38 ⟨hi,hb,hk⟩;replace BK114:=kbk hk BK114 NB114_0;replace BK115:=kbk hk BK115 NB115_0;replace HK:=kkA HK hk;replace HB:=Aside0.mk hb;replace HI0:=Aside0.mk hi;clear hi hb hk;have hnb39:=NB114_115.out;have hnc39:=NB115_114.out;have hnb40:=NB114_0.out;have hnc40:=NB0_114.out;obtain ⟨hcz41_0,hcz41_1,hcz41_2,hfz41_0,hfz41_1,hfz41_2⟩:=cz3 BK114;have hnb55:=NB115_0.out;have hnc55:=NB0_115.out;obtain ⟨hcz56_0,hcz56_1,hcz56_2,hfz56_0,hfz56_1,hfz56_2⟩:=cz3 BK115)|((with_reducible refine gate_dst (N:=31) rfl ?_);refine Kd.R_lit (Kd.int .i64) _ 2 ?hg (N:=31) ?hd (xs:=([(-1),wrap64 (a1_2+1),7]:List Int)) (inner:=[.int .i64 (-1),.int .i64 (wrap64 (a1_2+1)),.int .i64 7]) (ok:=fun _=>True) (okp:=fun _=>True) ?hr ?hp (fun _ hk=>hk) trivial (Below.refl _ _) (Nat.le_refl _) (by simp) ?_;(case hd=>rfl);(case hg=>rfl);(case hr=>first|(go_simp;done)|(go_simp;rfl));(case hp=>exact (Reps.one (show Kd.M (Kd.int .i64) _ _ _ (-1) [.int .i64 (-1)] from rfl) (Reps.one (show Kd.M (Kd.int .i64) _ _ _ (wrap64 (a1_2+1)) [.int .i64 (wrap64 (a1_2+1))] from rfl) (Reps.one (show Kd.M (Kd.int .i64) _ _ _ 7 [.int .i64 7] from rfl) (Reps.none _ _)))));intro v132 w42 ho43 hb hg_ hnew_;clear hg_ hnew_;(first|rw [← Ny131.out] at ho43|(simp only [Int.reduceToNat] at ho43;rw [← Ny131.out] at ho43));have n0_:=Aside0.mk (Kd.R_lower ho43 (keep_size (w:=w) (g:=g) (row:=none) kpA));have n1_:=Aside0.mk (IsS74.below (iA HI0) hb);have n2_:=kB BK114 hb;have n3_:=kB BK115 hb;have n4_:=kbA HK hb;have n5_:=lI hb;clear HI0;clear BK114;clear BK115;clear HK;clear HB;have HO133:=n0_;have HI0:=n1_;have BK114:=n2_;have BK115:=n3_;have HK:=n4_;have HB:=n5_;clear n0_ n1_ n2_ n3_ n4_ n5_;clear hb ho43;obtain ⟨Ao44,co44,eo44⟩:=Kd.R_slice HO133.out;subst eo44)|((with_reducible refine gd 32 rfl ?_);refine gC (some 32) rfl Try.func25 (spec_l01Pick.calls (w:=_) (g:=g) (w0:=w0) (hI:=iA HI0) (hB:=blI) (hr1:=cR (Kd.R_reads' HO133.out).2.2) (hc1:=(Kd.R_reads' HO133.out).2.1) (hf1:=far_slice (IsS74.own_ne HI0.out HO133.out (by decide))) (h:=A35.out)) ?_;rintro w45 ⟨hi,hb,hk⟩;replace BK114:=kbk hk BK114 NB114_0;replace BK115:=kbk hk BK115 NB115_0;replace HO133:=Aside0.mk (Kd.R_mono (Kd.R_keep (IsS74.apart (show IsS74 w0 _ g s0_0 t117 t118 from iA HI0) (rA HO133) (by decide)) hk (fun _ h=>h.2)) (fun _ h=>h.1));replace HK:=kkA HK hk;replace HB:=Aside0.mk hb;replace HI0:=Aside0.mk hi;clear hi hb hk;obtain ⟨hcz46_0,hcz46_1,hcz46_2,hfz46_0,hfz46_1,hfz46_2⟩:=cz3 BK114;have hnb47:=NB115_0.out;have hnc47:=NB0_115.out;obtain ⟨hcz48_0,hcz48_1,hcz48_2,hfz48_0,hfz48_1,hfz48_2⟩:=cz3 BK115))
   ·
    refine bodyPost_ret (results_cell_row rfl _ _ gb115 25 #[.int .i64 a1_0,.int .i64 a1_1,.int .i64 t134] (0,0) _ rfl (bpA BK115) Try.underlying25 rfl (by kernel_rfl)) rfl ?_
    exact ⟨eW,iA HI0,blI,kpA⟩
   ·
    refine bodyPost_ret (results_cell_row rfl _ _ gb115 25 #[.int .i64 a1_0,.int .i64 a1_1,.int .i64 a1_2] (0,0) _ rfl (bpA BK115) Try.underlying25 rfl (by kernel_rfl)) rfl ?_
    exact ⟨eW,iA HI0,blI,kpA⟩
end Go.Proofs.Ytabcckoeilegnaa.PAll
