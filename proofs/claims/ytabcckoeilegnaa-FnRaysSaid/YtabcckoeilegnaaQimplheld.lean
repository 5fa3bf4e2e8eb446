-- turned out of the kit's print
import Derived.Test.YtabcckoeilegnaaQx
import Derived.Test.YtabcckoeilegnaaQimplmark
import Derived.Test.YtabcckoeilegnaaQimplmod
import Derived.Test.YtabcckoeilegnaaQimpltimes
import Derived.Test.YtabcckoeilegnaaQspecl01Bad
import Derived.Test.YtabcckoeilegnaaQspecl01Draw
import Derived.Test.YtabcckoeilegnaaQspecl01Is
namespace Go.Proofs.Ytabcckoeilegnaa.PAll
open Go.RowKit Go.Proofs.YtabcckoeilegnaaW.PrintWords Go.Proofs.YtabcckoeilegnaaW.PrintLast Go.Proofs.YtabcckoeilegnaaW.PrintMore
attribute [local go_sem] Go.Proofs.Ytabcckoeilegnaa.Aux.setCell_drewN Go.Proofs.Ytabcckoeilegnaa.Aux.isSome_setCell max2_int min2_int max_two min_two max_three min_three max_four min_four
set_option linter.unusedVariables false
set_option linter.unusedSimpArgs false
def spec_l01Spoil.f (k:Nat) (s0_0:List Int) (s0_1 s0_2:Int):Option (Int × Int × Int × Int × Int × Int):=(spec_l01DrawPrime.f s0_0 s0_1 s0_2).bind fun bt190=>((spec_l01Draw.f k s0_0 bt190.2.1 bt190.2.2 bt190.1).bind fun bt193=>((spec_l01Bad.f s0_0 bt193.2.2.2.1 bt193.2.2.2.2 bt193.1 bt193.2.1 bt193.2.2.1).bind fun bt198=>((spec_l01Next.f s0_0 bt198.2.2.2.1 bt198.2.2.2.2 40).bind fun bt204=>(if bt204.1=0 then ((spec_l01Pick.f s0_0 bt204.2.1 bt204.2.2 (([0,1,4,11,(-3)]:List Int))).bind fun bt210=>(some (bt210.1,bt198.1,bt198.2.1,bt198.2.2.1,bt210.2.1,bt210.2.2))) else (some (bt190.1,bt198.1,bt198.2.1,bt198.2.2.1,bt204.2.1,bt204.2.2))))))
theorem spec_l01Spoil.mono:∀ a0 a1 a2 k,LeO (spec_l01Spoil.f k a0 a1 a2) (spec_l01Spoil.f (k+1) a0 a1 a2):=by
 intro a0 a1 a2 k
 unfold spec_l01Spoil.f
 repeat' first
   | with_reducible first|exact spec_l01Draw.mono ..|exact LeO.refl _|exact LeO.none _|refine LeO.ite ?_ ?_|refine LeO.bind ?_ fun _=>?_
set_option maxHeartbeats 8000000 in
set_option maxRecDepth 100000 in
theorem spec_l01Spoil.calls (k g:Nat) (s0_0:List Int) (s0_1 s0_2 r1 r2 r3 r4 r5 r6:Int) (w0 w:World) (hI:IsS74 w0 w g s0_0 s0_1 s0_2) (hB:Below w0.heap.size w0 w) (h:spec_l01Spoil.f k s0_0 s0_1 s0_2=some (r1,r2,r3,r4,r5,r6)) :
  Calls Try.prog 23 #[.pointer (some ⟨g,0,none⟩)] w fun e w'=>e=.returned (.tuple #[.int .i64 r1,.agg #[.int .i64 r2,.int .i64 r3,.int .i64 r4]])∧IsS74 w0 w' g s0_0 r5 r6∧Below w0.heap.size w0 w'∧KeepBut w w' g none:=by
 have hu25:=Try.underlying25
 have HI0:=Aside0.mk hI
 have HK:=Aside0.mk (KeepBut.refl w g none)
 have HL:=Aside0.mk hB.size
 clear hI
 have HW0:=Aside0.mk hB.size
 have HB:=Aside0.mk hB
 clear hB
 have H:=h
 unfold spec_l01Spoil.f at H
 clear h
 replace H:=bS H
 obtain ⟨⟨t190,t191,t192⟩,A2,H⟩:=H
 try dsimp only at H
 replace H:=bS H
 obtain ⟨⟨t193,t194,t195,t196,t197⟩,A3,H⟩:=H
 try dsimp only at H
 replace H:=bS H
 obtain ⟨⟨t198,t199,t200,t201,t202⟩,A4,H⟩:=H
 try dsimp only at H
 replace H:=bS H
 obtain ⟨⟨t204,t205,t206⟩,A5,H⟩:=H
 try dsimp only at H
 by_cases c6:t204=0
 ·
  rw [if_pos c6] at H
  have c6b0:(t204 == 0)=true:=beq_iff_eq.mpr c6
  have c6b1:(t204 != 0)=false:=bne_eq_false_iff_eq.mpr c6
  clear c6
  obtain ⟨y207,hy207⟩:∃ y_:List Int,y_=(([0,1,4,11,(-3)]:List Int)):=⟨_,rfl⟩
  replace H:((spec_l01Pick.f s0_0 t205 t206 y207).bind fun bt210=>(some (bt210.1,t198,t199,t200,bt210.2.1,bt210.2.2)))=some (r1,r2,r3,r4,r5,r6):=rH hy207 H
  have Ny207:=Aside0.mk hy207
  clear hy207
  replace H:=bS H
  obtain ⟨⟨t210,t211,t212⟩,A7,H⟩:=H
  try dsimp only at H
  simp only [Option.some.injEq,Prod.mk.injEq] at H
  obtain ⟨rfl,rfl,rfl,rfl,rfl,rfl⟩:=H
  go_enter Try.func23,Try.ntmps23
  try go_wp2_with (first|((with_reducible refine gate_dst (N:=3) rfl ?_);refine bxE (cs:=#[.int .i64 0,.int .i64 0,.int .i64 0]) (t:=25) ?_;intro gb189 hg w8 hbox hb;have n0_:=Aside0.mk (IsS74.below (iA HI0) hb);have n1_:=kbA HK hb;have n2_:=lI hb;have n3_:=Aside0.mk hbox;have n4_:=kzA HK hg;have n5_:=Aside0.mk (Nat.le_trans HW0.out (kzA HK hg).out);have n6_:=inA hg (IsS74.lt (iA HI0));have n7_:=inB hg (IsS74.lt (iA HI0));clear HI0;clear HK;clear HB;have HI0:=n0_;have HK:=n1_;have HB:=n2_;have BK189:=n3_;have GW189:=n4_;have GE189:=n5_;have NB0_189:=n6_;have NB189_0:=n7_;clear n0_ n1_ n2_ n3_ n4_ n5_ n6_ n7_;clear hb hbox hg)|((with_reducible refine gd 7 rfl ?_);refine gC (some 7) rfl Try.func47 (spec_l01DrawPrime.calls (w:=_) (g:=g) (w0:=w0) (hI:=iA HI0) (hB:=blI) (h:=A2.out)) ?_;rintro w9 ⟨hi,hb,hk⟩;have n0_:=kbk hk BK189 NB189_0;have n1_:=kkA HK hk;have n2_:=Aside0.mk hb;have n3_:=Aside0.mk hi;clear BK189;clear HK;clear HB;clear HI0;have BK189:=n0_;have HK:=n1_;have HB:=n2_;have HI0:=n3_;clear n0_ n1_ n2_ n3_;clear hi hb hk)|((with_reducible refine gd 11 rfl ?_);refine gC (some 11) rfl Try.func49 (spec_l01Draw.calls (w:=_) (g:=g) (w0:=w0) (hI:=iA HI0) (hB:=blI) (h:=A3.out)) ?_;rintro w10 ⟨hi,hb,hk⟩;have n0_:=kbk hk BK189 NB189_0;have n1_:=kkA HK hk;have n2_:=Aside0.mk hb;have n3_:=Aside0.mk hi;clear BK189;clear HK;clear HB;clear HI0;have BK189:=n0_;have HK:=n1_;have HB:=n2_;have HI0:=n3_;clear n0_ n1_ n2_ n3_;clear hi hb hk)|((with_reducible refine gd 12 rfl ?_);refine gC (some 12) rfl Try.func48 (spec_l01Bad.calls (w:=_) (g:=g) (w0:=w0) (hI:=iA HI0) (hB:=blI) (h:=A4.out)) ?_;rintro w11 ⟨hi,hb,hk⟩;have n0_:=kbk hk BK189 NB189_0;have n1_:=kkA HK hk;have n2_:=Aside0.mk hb;have n3_:=Aside0.mk hi;clear BK189;clear HK;clear HB;clear HI0;have BK189:=n0_;have HK:=n1_;have HB:=n2_;have HI0:=n3_;clear n0_ n1_ n2_ n3_;clear hi hb hk)|((with_reducible refine gate_dst (N:=5) rfl ?_);refine bxE (cs:=#[.int .i64 0,.int .i64 0,.int .i64 0]) (t:=25) ?_;intro gb203 hg w12 hbox hb;have n0_:=Aside0.mk (IsS74.below (iA HI0) hb);have n1_:=kB BK189 hb;have n2_:=kbA HK hb;have n3_:=lI hb;have n4_:=Aside0.mk hbox;have n5_:=kzA HK hg;have n6_:=Aside0.mk (Nat.le_trans HW0.out (kzA HK hg).out);have n7_:=nA hg BK189;have n8_:=nB hg BK189;have n9_:=inA hg (IsS74.lt (iA HI0));have n10_:=inB hg (IsS74.lt (iA HI0));clear HI0;clear BK189;clear HK;clear HB;have HI0:=n0_;have BK189:=n1_;have HK:=n2_;have HB:=n3_;have BK203:=n4_;have GW203:=n5_;have GE203:=n6_;have NB189_203:=n7_;have NB203_189:=n8_;have NB0_203:=n9_;have NB203_0:=n10_;clear n0_ n1_ n2_ n3_ n4_ n5_ n6_ n7_ n8_ n9_ n10_;clear hb hbox hg;have hnb13:=NB203_189.out;have hnc13:=NB189_203.out;have hnb14:=NB203_0.out;have hnc14:=NB0_203.out;obtain ⟨hcz15_0,hcz15_1,hcz15_2,hfz15_0,hfz15_1,hfz15_2⟩:=cz3 BK203)|((with_reducible refine gd 14 rfl ?_);refine gC (some 14) rfl Try.func50 (spec_l01Next.calls (w:=_) (g:=g) (w0:=w0) (hI:=iA HI0) (hB:=blI) (h:=A5.out)) ?_;rintro w16 ⟨hi,hb,hk⟩;have n0_:=Aside0.mk (KeepBut.blk hk (g':=gb189) (o:=.cells #[.int .i64 0,.int .i64 0,.int .i64 0] 25 (0,0)) (bkF BK189) NB189_0.out (by simp));have n1_:=Aside0.mk (KeepBut.blk hk (g':=gb203) (o:=.cells #[.int .i64 t198,.int .i64 t199,.int .i64 t200] 25 (0,0)) (bpA BK203) NB203_0.out (by simp));have n2_:=kkA HK hk;have n3_:=Aside0.mk hb;have n4_:=Aside0.mk hi;clear BK189;clear BK203;clear HK;clear HB;clear HI0;have BK189:=n0_;have BK203:=n1_;have HK:=n2_;have HB:=n3_;have HI0:=n4_;clear n0_ n1_ n2_ n3_ n4_;clear hi hb hk)|((with_reducible refine gate_dst (N:=17) rfl ?_);refine Kd.R_lit (Kd.int .i64) _ 2 ?hg (N:=17) ?hd (xs:=([0,1,4,11,(-3)]:List Int)) (inner:=[.int .i64 0,.int .i64 1,.int .i64 4,.int .i64 11,.int .i64 (-3)]) (ok:=fun _=>True) (okp:=fun _=>True) ?hr ?hp (fun _ hk=>hk) trivial (Below.refl _ _) (Nat.le_refl _) (by simp) ?_;(case hd=>rfl);(case hg=>rfl);(case hr=>first|(go_simp;done)|(go_simp;rfl));(case hp=>exact (Reps.one (show Kd.M (Kd.int .i64) _ _ _ 0 [.int .i64 0] from rfl) (Reps.one (show Kd.M (Kd.int .i64) _ _ _ 1 [.int .i64 1] from rfl) (Reps.one (show Kd.M (Kd.int .i64) _ _ _ 4 [.int .i64 4] from rfl) (Reps.one (show Kd.M (Kd.int .i64) _ _ _ 11 [.int .i64 11] from rfl) (Reps.one (show Kd.M (Kd.int .i64) _ _ _ (-3) [.int .i64 (-3)] from rfl) (Reps.none _ _)))))));intro v208 w17 ho18 hb hg_ hnew_;clear hg_ hnew_;(first|rw [← Ny207.out] at ho18|(simp only [Int.reduceToNat] at ho18;rw [← Ny207.out] at ho18));have n0_:=Aside0.mk (Kd.R_lower ho18 (keep_size (w:=w) (g:=g) (row:=none) kpA));have n1_:=Aside0.mk (IsS74.below (iA HI0) hb);have n2_:=kB BK189 hb;have n3_:=kB BK203 hb;have n4_:=kbA HK hb;have n5_:=lI hb;clear HI0;clear BK189;clear BK203;clear HK;clear HB;have HO209:=n0_;have HI0:=n1_;have BK189:=n2_;have BK203:=n3_;have HK:=n4_;have HB:=n5_;clear n0_ n1_ n2_ n3_ n4_ n5_;clear hb ho18;obtain ⟨Ao19,co19,eo19⟩:=Kd.R_slice HO209.out;subst eo19)|((with_reducible refine gd 18 rfl ?_);refine gC (some 18) rfl Try.func25 (spec_l01Pick.calls (w:=_) (g:=g) (w0:=w0) (hI:=iA HI0) (hB:=blI) (hr1:=cR (Kd.R_reads' HO209.out).2.2) (hc1:=(Kd.R_reads' HO209.out).2.1) (hf1:=far_slice (IsS74.own_ne HI0.out HO209.out (by decide))) (h:=A7.out)) ?_;rintro w20 ⟨hi,hb,hk⟩;have n0_:=kbk hk BK189 NB189_0;have n1_:=kbk hk BK203 NB203_0;have n2_:=Aside0.mk (Kd.R_mono (Kd.R_keep (IsS74.apart (show IsS74 w0 _ g s0_0 t205 t206 from iA HI0) (rA HO209) (by decide)) hk (fun _ h=>h.2)) (fun _ h=>h.1));have n3_:=kkA HK hk;have n4_:=Aside0.mk hb;have n5_:=Aside0.mk hi;clear BK189;clear BK203;clear HO209;clear HK;clear HB;clear HI0;have BK189:=n0_;have BK203:=n1_;have HO209:=n2_;have HK:=n3_;have HB:=n4_;have HI0:=n5_;clear n0_ n1_ n2_ n3_ n4_ n5_;clear hi hb hk))
  have n0_:=Aside0.mk (Kd.R_drew HO209.out)
  have n1_:=Aside0.mk (blk_drew BK189.out)
  have n2_:=Aside0.mk (blk_drew BK203.out)
  have n3_:=Aside0.mk (IsS74.drew HI0.out)
  have n4_:=Aside0.mk (keep_drew HK.out)
  have n5_:=Aside0.mk (below_drew1 HB.out)
  clear HO209
  clear BK189
  clear BK203
  clear HI0
  clear HK
  clear HB
  have HO209:=n0_
  have BK189:=n1_
  have BK203:=n2_
  have HI0:=n3_
  have HK:=n4_
  have HB:=n5_
  clear n0_ n1_ n2_ n3_ n4_ n5_
  refine start_ (n:=4) (S:=fun w'=>w'.cell? ⟨gb203,0,none⟩=some (.int .i64 t198)∧w'.cell? ⟨gb203,1,none⟩=some (.int .i64 t199)∧w'.cell? ⟨gb203,2,none⟩=some (.int .i64 t200)) (ds:=[]) #[Z,Z,Z,Z] (by kernel_rfl) rfl rfl ⟨cA BK203 0,cA BK203 1,cA BK203 2⟩ (fun hHeld=>?_)
  generalize w20.drew=w21 at HO209 BK189 BK203 HI0 HK HB hHeld ⊢
  refine pure_ (i:=0) (N:=some 19) (v:=?_) (a':=?_) #[Y,Z,Z,Z] rfl rfl (by kernel_rfl) (fun _ _ _ h=>h) (Or.inl ⟨by rfl,?_⟩) ?_ ?_
  rotate_left
  ·
   intro w'
   go_simp
   with_reducible rfl
  rotate_left
  ·
   simp only [pA]
   rfl
  refine pure_ (i:=2) (N:=some 2) (v:=?_) (a':=?_) #[Y,Z,Y,Z] rfl rfl (by kernel_rfl) (fun _ _ _ h=>h) (Or.inl ⟨by rfl,?_⟩) ?_ ?_
  rotate_left
  ·
   intro w'
   go_simp
   with_reducible rfl
  rotate_left
  ·
   simp only [pA]
   rfl
  refine take_ (i:=1) (N:=some 20) (v:=?_) (a':=?_) #[Y,Y,Y,Z] rfl rfl (by kernel_rfl) (fun _ _ _ h=>h) (Or.inl ⟨by rfl,?_⟩) hHeld ?_ ?_
  rotate_left
  ·
   rintro w' ⟨s0,s1,s2⟩
   go_simp
   with_reducible rfl
  rotate_left
  ·
   simp only [pA]
   rfl
  refine one_ (i:=3) (N:=none) #[Y,Y,Y,Y] rfl rfl (by kernel_rfl) (by decide) (fun K hK=>?_)
  have hs22:w21.cell? ⟨gb189,0,none⟩=some (.int .i64 0):=cA BK189 0
  have hfs22:=blk_frozen BK189.out 0
  have hns22_1:=NB203_189.out
  have hms22_1:=NB189_203.out
  have hs23:w21.cell? ⟨gb189,1,none⟩=some (.int .i64 0):=cA BK189 1
  have hfs23:=blk_frozen BK189.out 1
  have hns23_1:=NB203_189.out
  have hms23_1:=NB189_203.out
  have hs24:w21.cell? ⟨gb189,2,none⟩=some (.int .i64 0):=cA BK189 2
  have hfs24:=blk_frozen BK189.out 2
  have hns24_1:=NB203_189.out
  have hms24_1:=NB189_203.out
  refine skip_ (w1:=?_) (by rfl) rfl ?_ ?_
  rotate_left
  ·
   go_simp
   rfl
  refine hK.out _ _ ⟨cfA hHeld.1,cfA hHeld.2.1,cfA hHeld.2.2⟩ (fun hHeld=>?_)
  clear hK K
  refine done_ (by kernel_rfl) ?_
  try go_wp2
  refine bodyPost_ret (results_tc rfl _ _ gb189 25 #[.int .i64 t198,.int .i64 t199,.int .i64 t200] (0,0) _ rfl (bpA BK189) Try.underlying25 rfl (by kernel_rfl)) rfl ?_
  exact ⟨eW,iA HI0,blI,kpA⟩
 ·
  rw [if_neg c6] at H
  have c6b0:(t204 == 0)=false:=beq_eq_false_iff_ne.mpr c6
  have c6b1:(t204 != 0)=true:=bne_iff_ne.mpr c6
  simp only [Option.some.injEq,Prod.mk.injEq] at H
  obtain ⟨rfl,rfl,rfl,rfl,rfl,rfl⟩:=H
  go_enter Try.func23,Try.ntmps23
  try go_wp2_with (first|((with_reducible refine gate_dst (N:=3) rfl ?_);refine bxE (cs:=#[.int .i64 0,.int .i64 0,.int .i64 0]) (t:=25) ?_;intro gb189 hg w25 hbox hb;have n0_:=Aside0.mk (IsS74.below (iA HI0) hb);have n1_:=kbA HK hb;have n2_:=lI hb;have n3_:=Aside0.mk hbox;have n4_:=kzA HK hg;have n5_:=Aside0.mk (Nat.le_trans HW0.out (kzA HK hg).out);have n6_:=inA hg (IsS74.lt (iA HI0));have n7_:=inB hg (IsS74.lt (iA HI0));clear HI0;clear HK;clear HB;have HI0:=n0_;have HK:=n1_;have HB:=n2_;have BK189:=n3_;have GW189:=n4_;have GE189:=n5_;have NB0_189:=n6_;have NB189_0:=n7_;clear n0_ n1_ n2_ n3_ n4_ n5_ n6_ n7_;clear hb hbox hg)|((with_reducible refine gd 7 rfl ?_);refine gC (some 7) rfl Try.func47 (spec_l01DrawPrime.calls (w:=_) (g:=g) (w0:=w0) (hI:=iA HI0) (hB:=blI) (h:=A2.out)) ?_;rintro w26 ⟨hi,hb,hk⟩;have n0_:=kbk hk BK189 NB189_0;have n1_:=kkA HK hk;have n2_:=Aside0.mk hb;have n3_:=Aside0.mk hi;clear BK189;clear HK;clear HB;clear HI0;have BK189:=n0_;have HK:=n1_;have HB:=n2_;have HI0:=n3_;clear n0_ n1_ n2_ n3_;clear hi hb hk)|((with_reducible refine gd 11 rfl ?_);refine gC (some 11) rfl Try.func49 (spec_l01Draw.calls (w:=_) (g:=g) (w0:=w0) (hI:=iA HI0) (hB:=blI) (h:=A3.out)) ?_;rintro w27 ⟨hi,hb,hk⟩;have n0_:=kbk hk BK189 NB189_0;have n1_:=kkA HK hk;have n2_:=Aside0.mk hb;have n3_:=Aside0.mk hi;clear BK189;clear HK;clear HB;clear HI0;have BK189:=n0_;have HK:=n1_;have HB:=n2_;have HI0:=n3_;clear n0_ n1_ n2_ n3_;clear hi hb hk)|((with_reducible refine gd 12 rfl ?_);refine gC (some 12) rfl Try.func48 (spec_l01Bad.calls (w:=_) (g:=g) (w0:=w0) (hI:=iA HI0) (hB:=blI) (h:=A4.out)) ?_;rintro w28 ⟨hi,hb,hk⟩;have n0_:=kbk hk BK189 NB189_0;have n1_:=kkA HK hk;have n2_:=Aside0.mk hb;have n3_:=Aside0.mk hi;clear BK189;clear HK;clear HB;clear HI0;have BK189:=n0_;have HK:=n1_;have HB:=n2_;have HI0:=n3_;clear n0_ n1_ n2_ n3_;clear hi hb hk)|((with_reducible refine gate_dst (N:=5) rfl ?_);refine bxE (cs:=#[.int .i64 0,.int .i64 0,.int .i64 0]) (t:=25) ?_;intro gb203 hg w29 hbox hb;have n0_:=Aside0.mk (IsS74.below (iA HI0) hb);have n1_:=kB BK189 hb;have n2_:=kbA HK hb;have n3_:=lI hb;have n4_:=Aside0.mk hbox;have n5_:=kzA HK hg;have n6_:=Aside0.mk (Nat.le_trans HW0.out (kzA HK hg).out);have n7_:=nA hg BK189;have n8_:=nB hg BK189;have n9_:=inA hg (IsS74.lt (iA HI0));have n10_:=inB hg (IsS74.lt (iA HI0));clear HI0;clear BK189;clear HK;clear HB;have HI0:=n0_;have BK189:=n1_;have HK:=n2_;have HB:=n3_;have BK203:=n4_;have GW203:=n5_;have GE203:=n6_;have NB189_203:=n7_;have NB203_189:=n8_;have NB0_203:=n9_;have NB203_0:=n10_;clear n0_ n1_ n2_ n3_ n4_ n5_ n6_ n7_ n8_ n9_ n10_;clear hb hbox hg;have hnb30:=NB203_189.out;have hnc30:=NB189_203.out;have hnb31:=NB203_0.out;have hnc31:=NB0_203.out;obtain ⟨hcz32_0,hcz32_1,hcz32_2,hfz32_0,hfz32_1,hfz32_2⟩:=cz3 BK203)|((with_reducible refine gd 14 rfl ?_);refine gC (some 14) rfl Try.func50 (spec_l01Next.calls (w:=_) (g:=g) (w0:=w0) (hI:=iA HI0) (hB:=blI) (h:=A5.out)) ?_;rintro w33 ⟨hi,hb,hk⟩;have n0_:=Aside0.mk (KeepBut.blk hk (g':=gb189) (o:=.cells #[.int .i64 0,.int .i64 0,.int .i64 0] 25 (0,0)) (bkF BK189) NB189_0.out (by simp));have n1_:=Aside0.mk (KeepBut.blk hk (g':=gb203) (o:=.cells #[.int .i64 t198,.int .i64 t199,.int .i64 t200] 25 (0,0)) (bpA BK203) NB203_0.out (by simp));have n2_:=kkA HK hk;have n3_:=Aside0.mk hb;have n4_:=Aside0.mk hi;clear BK189;clear BK203;clear HK;clear HB;clear HI0;have BK189:=n0_;have BK203:=n1_;have HK:=n2_;have HB:=n3_;have HI0:=n4_;clear n0_ n1_ n2_ n3_ n4_;clear hi hb hk))
  have n0_:=Aside0.mk (blk_drew BK189.out)
  have n1_:=Aside0.mk (blk_drew BK203.out)
  have n2_:=Aside0.mk (IsS74.drew HI0.out)
  have n3_:=Aside0.mk (keep_drew HK.out)
  have n4_:=Aside0.mk (below_drew1 HB.out)
  clear BK189
  clear BK203
  clear HI0
  clear HK
  clear HB
  have BK189:=n0_
  have BK203:=n1_
  have HI0:=n2_
  have HK:=n3_
  have HB:=n4_
  clear n0_ n1_ n2_ n3_ n4_
  refine start_ (n:=4) (S:=fun w'=>w'.cell? ⟨gb203,0,none⟩=some (.int .i64 t198)∧w'.cell? ⟨gb203,1,none⟩=some (.int .i64 t199)∧w'.cell? ⟨gb203,2,none⟩=some (.int .i64 t200)) (ds:=[]) #[Z,Z,Z,Z] (by kernel_rfl) rfl rfl ⟨cA BK203 0,cA BK203 1,cA BK203 2⟩ (fun hHeld=>?_)
  generalize w33.drew=w34 at BK189 BK203 HI0 HK HB hHeld ⊢
  refine pure_ (i:=0) (N:=some 19) (v:=?_) (a':=?_) #[Y,Z,Z,Z] rfl rfl (by kernel_rfl) (fun _ _ _ h=>h) (Or.inl ⟨by rfl,?_⟩) ?_ ?_
  rotate_left
  ·
   intro w'
   go_simp
   with_reducible rfl
  rotate_left
  ·
   simp only [pA]
   rfl
  refine pure_ (i:=2) (N:=some 2) (v:=?_) (a':=?_) #[Y,Z,Y,Z] rfl rfl (by kernel_rfl) (fun _ _ _ h=>h) (Or.inl ⟨by rfl,?_⟩) ?_ ?_
  rotate_left
  ·
   intro w'
   go_simp
   with_reducible rfl
  rotate_left
  ·
   simp only [pA]
   rfl
  refine take_ (i:=1) (N:=some 20) (v:=?_) (a':=?_) #[Y,Y,Y,Z] rfl rfl (by kernel_rfl) (fun _ _ _ h=>h) (Or.inl ⟨by rfl,?_⟩) hHeld ?_ ?_
  rotate_left
  ·
   rintro w' ⟨s0,s1,s2⟩
   go_simp
   with_reducible rfl
  rotate_left
  ·
   simp only [pA]
   rfl
  refine one_ (i:=3) (N:=none) #[Y,Y,Y,Y] rfl rfl (by kernel_rfl) (by decide) (fun K hK=>?_)
  have hs35:w34.cell? ⟨gb189,0,none⟩=some (.int .i64 0):=cA BK189 0
  have hfs35:=blk_frozen BK189.out 0
  have hns35_1:=NB203_189.out
  have hms35_1:=NB189_203.out
  have hs36:w34.cell? ⟨gb189,1,none⟩=some (.int .i64 0):=cA BK189 1
  have hfs36:=blk_frozen BK189.out 1
  have hns36_1:=NB203_189.out
  have hms36_1:=NB189_203.out
  have hs37:w34.cell? ⟨gb189,2,none⟩=some (.int .i64 0):=cA BK189 2
  have hfs37:=blk_frozen BK189.out 2
  have hns37_1:=NB203_189.out
  have hms37_1:=NB189_203.out
  refine skip_ (w1:=?_) (by rfl) rfl ?_ ?_
  rotate_left
  ·
   go_simp
   rfl
  refine hK.out _ _ ⟨cfA hHeld.1,cfA hHeld.2.1,cfA hHeld.2.2⟩ (fun hHeld=>?_)
  clear hK K
  refine done_ (by kernel_rfl) ?_
  try go_wp2
  refine bodyPost_ret (results_tc rfl _ _ gb189 25 #[.int .i64 t198,.int .i64 t199,.int .i64 t200] (0,0) _ rfl (bpA BK189) Try.underlying25 rfl (by kernel_rfl)) rfl ?_
  exact ⟨eW,iA HI0,blI,kpA⟩
mutual
def spec_l05End.j0:Nat→Int→Bool→List Int→Int→Int→Int→Int→Int→Option (Int × Int × Int × Int)
 | 0,_,_,_,_,_,_,_,_=>none
 | k+1,x1,x20,x1000,x1001,x1002,x279000,x279001,x279002=>if x20=true then ((spec_l01DrawEnd.f k x1000 x1001 x1002).bind fun bt284=>(some (bt284.1,bt284.2.1,bt284.2.2.1,bt284.2.2.2))) else ((spec_l01Power.f k x1 x279002).bind fun t288=>((spec_l01Next.f x1000 x1001 x1002 4).bind fun bt289=>(if (wrap64 ((wrap64 (x279000+bt289.1)) - 1))≥0 then ((spec_l01Next.f x1000 bt289.2.1 bt289.2.2 x1).bind fun bt292=>((spec_l01Power.f k x1 (wrap64 ((wrap64 (x279000+bt289.1)) - 1))).bind fun t295=>(spec_l05End.j1 k (wrap64 (x279001+(wrap64 ((wrap64 (bt292.1*t295))*t288)))) t288 x1000 bt292.2.1 bt292.2.2))) else (spec_l05End.j1 k x279001 t288 x1000 bt289.2.1 bt289.2.2))))
def spec_l05End.j1:Nat→Int→Int→List Int→Int→Int→Option (Int × Int × Int × Int)
 | 0,_,_,_,_,_=>none
 | k+1,x7,x8,x1000,x1001,x1002=>(spec_l01EndOf.f k x7 x8).bind fun bt296=>(if bt296.2.2=true then (some (bt296.1,bt296.2.1,x1001,x1002)) else ((spec_l01DrawEnd.f k x1000 x1001 x1002).bind fun bt300=>(some (bt300.1,bt300.2.1,bt300.2.2.1,bt300.2.2.2))))
end
def spec_l05End.f (k:Nat) (s0_0:List Int) (s0_1 s0_2 a1 a2_0 a2_1 a2_2:Int):Option (Int × Int × Int × Int):=(spec_l01Is.f k a1 a2_0 a2_1 a2_2).bind fun t280=>(if t280=true then ((spec_l01Next.f s0_0 s0_1 s0_2 3).bind fun bt281=>(spec_l05End.j0 k a1 (bt281.1 == 0) s0_0 bt281.2.1 bt281.2.2 a2_0 a2_1 a2_2)) else (spec_l05End.j0 k a1 true s0_0 s0_1 s0_2 a2_0 a2_1 a2_2))
theorem spec_l05End.mono_l:∀ k,(∀ y0 y1 y2 y3 y4 y5 y6 y7,LeO (spec_l05End.j0 k y0 y1 y2 y3 y4 y5 y6 y7) (spec_l05End.j0 (k+1) y0 y1 y2 y3 y4 y5 y6 y7))∧(∀ y0 y1 y2 y3 y4,LeO (spec_l05End.j1 k y0 y1 y2 y3 y4) (spec_l05End.j1 (k+1) y0 y1 y2 y3 y4))
 | 0=>by refine ⟨?_,?_⟩ <;> (intros;intro r h;simp [spec_l05End.j0,spec_l05End.j1] at h)
 | k+1=>by
  obtain ⟨ih0,ih1⟩:=spec_l05End.mono_l k
  refine ⟨?_,?_⟩ <;> (intros;first|unfold spec_l05End.j0|unfold spec_l05End.j1)
  all_goals repeat' first
  | with_reducible first|exact ih0 ..|exact ih1 ..|exact spec_l01DrawEnd.mono ..|exact spec_l01EndOf.mono ..|exact spec_l01Is.mono ..|exact spec_l01Power.mono ..|exact LeO.refl _|exact LeO.none _|refine LeO.ite ?_ ?_|refine LeO.bind ?_ fun _=>?_
theorem spec_l05End.mono:∀ a0 a1 a2 a3 a4 a5 a6 k,LeO (spec_l05End.f k a0 a1 a2 a3 a4 a5 a6) (spec_l05End.f (k+1) a0 a1 a2 a3 a4 a5 a6):=by
 intro a0 a1 a2 a3 a4 a5 a6 k
 obtain ⟨ih0,ih1⟩:=spec_l05End.mono_l k
 unfold spec_l05End.f
 repeat' first
   | with_reducible first|exact ih0 ..|exact ih1 ..|exact spec_l01DrawEnd.mono ..|exact spec_l01EndOf.mono ..|exact spec_l01Is.mono ..|exact spec_l01Power.mono ..|exact LeO.refl _|exact LeO.none _|refine LeO.ite ?_ ?_|refine LeO.bind ?_ fun _=>?_
def spec_l05End.T3:Bool × List (List Nat × List Nat):=(true,[([],[]),([0],[0]),([],[]),([],[]),([3],[3]),([2,4],[2,4]),([1,5,0,1],[1]),([5,6,0,1,2,3,4,5,6],[5])])
def spec_l05End.B3:List Nat:=[0,1,0,0,8,28,63,127]
theorem spec_l05End.tab3:rtab .any (opsOf Try.f24 3)=spec_l05End.T3:=by kernel_rfl
theorem spec_l05End.bits3:waitsOk spec_l05End.T3.2 spec_l05End.B3=true:=by kernel_rfl
set_option maxHeartbeats 8000000 in
set_option maxRecDepth 100000 in
theorem spec_l05End.calls (k g:Nat) (s0_0:List Int) (s0_1 s0_2 a1 a2_0 a2_1 a2_2 r1 r2 r3 r4:Int) (w0 w:World) (hI:IsS74 w0 w g s0_0 s0_1 s0_2) (hB:Below w0.heap.size w0 w) (h:spec_l05End.f k s0_0 s0_1 s0_2 a1 a2_0 a2_1 a2_2=some (r1,r2,r3,r4)) :
  Calls Try.prog 24 #[.pointer (some ⟨g,0,none⟩),.int .i64 a1,.agg #[.int .i64 a2_0,.int .i64 a2_1,.int .i64 a2_2]] w fun e w'=>e=.returned (.agg #[.int .i64 r1,.int .i64 r2])∧IsS74 w0 w' g s0_0 r3 r4∧Below w0.heap.size w0 w'∧KeepBut w w' g none:=by
 have hu25:=Try.underlying25
 have hu27:=Try.underlying27
 have HI0:=Aside0.mk hI
 have HK:=Aside0.mk (KeepBut.refl w g none)
 have HL:=Aside0.mk hB.size
 clear hI
 have HW0:=Aside0.mk hB.size
 have HB:=Aside0.mk hB
 clear hB
 have H:=h
 unfold spec_l05End.f at H
 clear h
 have HC4:=Aside0.mk H
 clear H
 go_enter Try.func24,Try.ntmps24
 go_upto_region 1 with (first|((with_reducible refine gate_dst (N:=5) rfl ?_);refine bxE (cs:=#[.int .i64 a2_0,.int .i64 a2_1,.int .i64 a2_2]) (t:=25) ?_;intro gb278 hg w5 hbox hb;have n0_:=Aside0.mk (IsS74.below (iA HI0) hb);have n1_:=kbA HK hb;have n2_:=lI hb;have n3_:=Aside0.mk hbox;have n4_:=kzA HK hg;have n5_:=Aside0.mk (Nat.le_trans HW0.out (kzA HK hg).out);have n6_:=inA hg (IsS74.lt (iA HI0));have n7_:=inB hg (IsS74.lt (iA HI0));clear HI0;clear HK;clear HB;have HI0:=n0_;have HK:=n1_;have HB:=n2_;have BK278:=n3_;have GW278:=n4_;have GE278:=n5_;have NB0_278:=n6_;have NB278_0:=n7_;clear n0_ n1_ n2_ n3_ n4_ n5_ n6_ n7_;clear hb hbox hg)|((with_reducible refine gate_dst (N:=6) rfl ?_);refine bxE (cs:=#[.int .i64 0,.int .i64 0]) (t:=27) ?_;intro gb279 hg w6 hbox hb;have n0_:=Aside0.mk (IsS74.below (iA HI0) hb);have n1_:=kB BK278 hb;have n2_:=kbA HK hb;have n3_:=lI hb;have n4_:=Aside0.mk hbox;have n5_:=kzA HK hg;have n6_:=Aside0.mk (Nat.le_trans HW0.out (kzA HK hg).out);have n7_:=nA hg BK278;have n8_:=nB hg BK278;have n9_:=inA hg (IsS74.lt (iA HI0));have n10_:=inB hg (IsS74.lt (iA HI0));clear HI0;clear BK278;clear HK;clear HB;have HI0:=n0_;have BK278:=n1_;have HK:=n2_;have HB:=n3_;have BK279:=n4_;have GW279:=n5_;have GE279:=n6_;have NB278_279:=n7_;have NB279_278:=n8_;have NB0_279:=n9_;have NB279_0:=n10_;clear n0_ n1_ n2_ n3_ n4_ n5_ n6_ n7_ n8_ n9_ n10_;clear hb hbox hg))
 (try simp only [Act.put,List.setIfInBounds_toArray,List.set_cons_zero,List.set_cons_succ])
 go_cut [20] (fun v20 wc=>∃ (kq:Nat) (x20_3:Bool) (x1001_3:Int) (x1002_3:Int),v20=.bool x20_3∧Aside0 (spec_l05End.j0 kq a1 x20_3 s0_0 x1001_3 x1002_3 a2_0 a2_1 a2_2=some (r1,r2,r3,r4))∧Aside0 (kq≤k)∧Aside0 (wc.heap[gb278]?=some (.cells #[.int .i64 a2_0,.int .i64 a2_1,.int .i64 a2_2] 25 (0,0)))∧Aside0 (wc.heap[gb279]?=some (.cells #[.int .i64 0,.int .i64 0] 27 (0,0)))∧Aside0 (IsS74 w0 wc g s0_0 x1001_3 x1002_3)∧Aside0 (KeepBut w wc g none)∧Aside0 (Below w0.heap.size w0 wc))
 case first=>
  have H:=HC4.out
  clear HC4
  replace H:=bS H
  obtain ⟨t280,A7,H⟩:=H
  try dsimp only at H
  by_cases c8:t280=true
  ·
   subst c8
   rw [if_pos rfl] at H
   try dsimp only at H
   replace H:=bS H
   obtain ⟨⟨t281,t282,t283⟩,A9,H⟩:=H
   try dsimp only at H
   have H':=Aside0.mk H
   clear H
   have hnb10:=NB278_279.out
   have hnc10:=NB279_278.out
   have hnb11:=NB278_0.out
   have hnc11:=NB0_278.out
   obtain ⟨hcz12_0,hcz12_1,hcz12_2,hfz12_0,hfz12_1,hfz12_2⟩:=cz3 BK278
   go_wp2_with (first|((with_reducible refine gd 14 rfl ?_);refine gC (some 14) rfl Try.func51 (spec_l01Is.calls (w:=_) (h:=A7.out)) ?_;intro w13 hb;have n0_:=Aside0.mk (IsS74.below (iA HI0) hb);have n1_:=kB BK278 hb;have n2_:=kB BK279 hb;have n3_:=kbA HK hb;have n4_:=lI hb;clear HI0;clear BK278;clear BK279;clear HK;clear HB;have HI0:=n0_;have BK278:=n1_;have BK279:=n2_;have HK:=n3_;have HB:=n4_;clear n0_ n1_ n2_ n3_ n4_;clear hb)|(go_at_call 50;(with_reducible refine (spec_l01Next.calls g s0_0 s0_1 s0_2 3 t281 t282 t283 w0 _ ?side1 ?side2 A9.out).mono ?_);(case side1=>exact iA HI0);(case side2=>exact blI);rintro e w14 ⟨rfl,hi,hb,hk⟩;have n0_:=kbk hk BK278 NB278_0;have n1_:=kbk hk BK279 NB279_0;have n2_:=kkA HK hk;have n3_:=Aside0.mk hb;have n4_:=Aside0.mk hi;clear BK278;clear BK279;clear HK;clear HB;clear HI0;have BK278:=n0_;have BK279:=n1_;have HK:=n2_;have HB:=n3_;have HI0:=n4_;clear n0_ n1_ n2_ n3_ n4_;clear hi hb hk))
   go_meet
   case rel=>exact ⟨_,((t281 == 0)),(t282),(t283),hB,H',⟨by first|omega|exact Nat.le_refl _⟩,⟨bkA BK278⟩,⟨bkA BK279⟩,⟨iA HI0⟩,⟨kpA⟩,⟨blI⟩⟩
  ·
   replace c8:=Bool.eq_false_iff.mpr c8
   subst c8
   rw [if_neg (show ¬ (false=true) by decide)] at H
   try dsimp only at H
   have H':=Aside0.mk H
   clear H
   have hnb15:=NB278_279.out
   have hnc15:=NB279_278.out
   have hnb16:=NB278_0.out
   have hnc16:=NB0_278.out
   obtain ⟨hcz17_0,hcz17_1,hcz17_2,hfz17_0,hfz17_1,hfz17_2⟩:=cz3 BK278
   go_wp2_with (first|((with_reducible refine gd 14 rfl ?_);refine gC (some 14) rfl Try.func51 (spec_l01Is.calls (w:=_) (h:=A7.out)) ?_;intro w18 hb;have n0_:=Aside0.mk (IsS74.below (iA HI0) hb);have n1_:=kB BK278 hb;have n2_:=kB BK279 hb;have n3_:=kbA HK hb;have n4_:=lI hb;clear HI0;clear BK278;clear BK279;clear HK;clear HB;have HI0:=n0_;have BK278:=n1_;have BK279:=n2_;have HK:=n3_;have HB:=n4_;clear n0_ n1_ n2_ n3_ n4_;clear hb))
   go_meet
   case rel=>exact ⟨_,(true),(s0_1),(s0_2),hB,H',⟨by first|omega|exact Nat.le_refl _⟩,⟨bkA BK278⟩,⟨bkA BK279⟩,⟨iA HI0⟩,⟨kpA⟩,⟨blI⟩⟩
 case rest=>
  clear HC4
  try clear c8
  try clear hcz12_0
  try clear hcz12_1
  try clear hcz12_2
  try clear hcz17_0
  try clear hcz17_1
  try clear hcz17_2
  try clear hfz12_0
  try clear hfz12_1
  try clear hfz12_2
  try clear hfz17_0
  try clear hfz17_1
  try clear hfz17_2
  obtain ⟨kq,x20_3,x1001_3,x1002_3,rfl,HA,HJ3,BK278,BK279,HI0,HK,HB⟩:=hcut
  cases kq with
  | zero=>exact absurd HA.out (by simp [spec_l05End.j0])
  | succ kj3=>
   have H:=HA.out
   clear HA
   simp only [spec_l05End.j0] at H
   by_cases c19:x20_3=true
   ·
    subst c19
    rw [if_pos rfl] at H
    try dsimp only at H
    replace H:=bS H
    obtain ⟨⟨t284,t285,t286,t287⟩,A20,H⟩:=H
    try dsimp only at H
    simp only [Option.some.injEq,Prod.mk.injEq] at H
    obtain ⟨rfl,rfl,rfl,rfl⟩:=H
    go_wp2_with (first|((with_reducible refine gd 22 rfl ?_);refine gC (some 22) rfl Try.func52 (spec_l01DrawEnd.calls (w:=_) (g:=g) (w0:=w0) (hI:=iA HI0) (hB:=blI) (h:=A20.out)) ?_;rintro w21 ⟨hi,hb,hk⟩;have n0_:=kbk hk BK278 NB278_0;have n1_:=kbk hk BK279 NB279_0;have n2_:=kkA HK hk;have n3_:=Aside0.mk hb;have n4_:=Aside0.mk hi;clear BK278;clear BK279;clear HK;clear HB;clear HI0;have BK278:=n0_;have BK279:=n1_;have HK:=n2_;have HB:=n3_;have HI0:=n4_;clear n0_ n1_ n2_ n3_ n4_;clear hi hb hk;have hnb22:=NB279_278.out;have hnc22:=NB278_279.out;have hnb23:=NB279_0.out;have hnc23:=NB0_279.out;obtain ⟨hcz24_0,hcz24_1,hfz24_0,hfz24_1⟩:=cz2 BK279))
    refine bodyPost_ret (results_cell_row rfl _ _ gb279 27 #[.int .i64 t284,.int .i64 t285] (0,0) _ rfl (bpA BK279) Try.underlying27 rfl (by kernel_rfl)) rfl ?_
    exact ⟨eW,iA HI0,blI,kpA⟩
   ·
    replace c19:=Bool.eq_false_iff.mpr c19
    subst c19
    rw [if_neg (show ¬ (false=true) by decide)] at H
    try dsimp only at H
    replace H:=bS H
    obtain ⟨t288,A25,H⟩:=H
    try dsimp only at H
    replace H:=bS H
    obtain ⟨⟨t289,t290,t291⟩,A26,H⟩:=H
    try dsimp only at H
    have HC27:=Aside0.mk H
    clear H
    try go_wp2
    have n0_:=Aside0.mk (blk_drew BK278.out)
    have n1_:=Aside0.mk (blk_drew BK279.out)
    have n2_:=Aside0.mk (IsS74.drew HI0.out)
    have n3_:=Aside0.mk (keep_drew HK.out)
    have n4_:=Aside0.mk (below_drew1 HB.out)
    clear BK278
    clear BK279
    clear HI0
    clear HK
    clear HB
    have BK278:=n0_
    have BK279:=n1_
    have HI0:=n2_
    have HK:=n3_
    have HB:=n4_
    clear n0_ n1_ n2_ n3_ n4_
    refine start_ (n:=8) (S:=fun w'=>w'.cell? ⟨gb278,0,none⟩=some (.int .i64 a2_0)∧w'.cell? ⟨gb278,1,none⟩=some (.int .i64 a2_1)∧w'.cell? ⟨gb278,2,none⟩=some (.int .i64 a2_2)) (ds:=[]) #[Z,Z,Z,Z,Z,Z,Z,Z] (by kernel_rfl) rfl rfl ⟨cA BK278 0,cA BK278 1,cA BK278 2⟩ (fun hHeld=>?_);refine with_tabW spec_l05End.tab3 spec_l05End.bits3 (fun HT_ HW_=>?_)
    generalize wc.drew=w28 at BK278 BK279 HI0 HK HB hHeld ⊢
    refine puA (i:=0) (N:=some 23) #[Y,Z,Z,Z,Z,Z,Z,Z] rfl rfl HT_ ?_
    refine puA (i:=2) (N:=some 25) #[Y,Z,Y,Z,Z,Z,Z,Z] rfl rfl HT_ ?_
    refine puA (i:=3) (N:=some 26) #[Y,Z,Y,Y,Z,Z,Z,Z] rfl rfl HT_ ?_
    refine taA (i:=1) (N:=some 24) #[Y,Y,Y,Y,Z,Z,Z,Z] rfl rfl HT_ HW_ hHeld ?_
    refine taA (i:=4) (N:=some 27) #[Y,Y,Y,Y,Y,Z,Z,Z] rfl rfl HT_ HW_ hHeld ?_
    refine one_ (i:=5) (N:=some 28) #[Y,Y,Y,Y,Y,Y,Z,Z] rfl rfl (one_of HT_.out (by kernel_rfl)) (by decide) (fun K hK=>?_)
    refine goC Try.func53 (spec_l01Power.calls (w:=_) (h:=A25.out)) ?_
    rintro _ ⟨nd,rfl⟩
    refine hK.out _ _ ⟨cA BK278 0,cA BK278 1,cA BK278 2⟩ (fun hHeld=>?_)
    clear hK K
    refine nmA ?_
    refine puA (i:=6) (N:=some 7) #[Y,Y,Y,Y,Y,Y,Y,Z] rfl rfl HT_ ?_
    refine puA (i:=7) (N:=some 8) #[Y,Y,Y,Y,Y,Y,Y,Y] rfl rfl HT_ ?_
    refine done_ (done_of HT_.out (by kernel_rfl)) ?_
    try go_wp2
    (try (rw [drewN_self w28];generalize hq_:World.drewN w28 _=w28;have n0_:Aside0 (w28.heap[gb278]?=some (.cells #[.int .i64 a2_0,.int .i64 a2_1,.int .i64 a2_2] 25 (0,0))):=⟨by rw [← hq_];exact (bkA BK278)⟩;have n1_:Aside0 (w28.heap[gb279]?=some (.cells #[.int .i64 0,.int .i64 0] 27 (0,0))):=⟨by rw [← hq_];exact (bkA BK279)⟩;have n2_:Aside0 (IsS74 w0 w28 g s0_0 x1001_3 x1002_3):=⟨by rw [← hq_];exact (iA HI0)⟩;have n3_:Aside0 (KeepBut w w28 g none):=⟨by rw [← hq_];exact kpA⟩;have n4_:Aside0 (Below w0.heap.size w0 w28):=⟨by rw [← hq_];exact blI⟩;clear BK278 BK279 HI0 HK HB hq_;have BK278:=n0_;have BK279:=n1_;have HI0:=n2_;have HK:=n3_;have HB:=n4_;clear n0_ n1_ n2_ n3_ n4_))
    have n0_:=Aside0.mk (blk_drew BK278.out)
    have n1_:=Aside0.mk (blk_drew BK279.out)
    have n2_:=Aside0.mk (IsS74.drew HI0.out)
    have n3_:=Aside0.mk (keep_drew HK.out)
    have n4_:=Aside0.mk (below_drew1 HB.out)
    clear BK278
    clear BK279
    clear HI0
    clear HK
    clear HB
    have BK278:=n0_
    have BK279:=n1_
    have HI0:=n2_
    have HK:=n3_
    have HB:=n4_
    clear n0_ n1_ n2_ n3_ n4_
    refine start_ (n:=7) (S:=fun w'=>w'.cell? ⟨gb278,0,none⟩=some (.int .i64 a2_0)∧w'.cell? ⟨gb278,1,none⟩=some (.int .i64 a2_1)∧w'.cell? ⟨gb278,2,none⟩=some (.int .i64 a2_2)) (ds:=[]) #[Z,Z,Z,Z,Z,Z,Z] (by kernel_rfl) rfl rfl ⟨cA BK278 0,cA BK278 1,cA BK278 2⟩ (fun hHeld=>?_)
    generalize w28.drew=w29 at BK278 BK279 HI0 HK HB hHeld ⊢
    refine pure_ (i:=0) (N:=some 29) (v:=?_) (a':=?_) #[Y,Z,Z,Z,Z,Z,Z] rfl rfl (by kernel_rfl) (fun _ _ _ h=>h) (Or.inl ⟨by rfl,?_⟩) ?_ ?_
    rotate_left
    ·
     intro w'
     go_simp
     with_reducible rfl
    rotate_left
    ·
     simp only [pA]
     rfl
    refine pure_ (i:=2) (N:=some 31) (v:=?_) (a':=?_) #[Y,Z,Y,Z,Z,Z,Z] rfl rfl (by kernel_rfl) (fun _ _ _ h=>h) (Or.inl ⟨by rfl,?_⟩) ?_ ?_
    rotate_left
    ·
     intro w'
     go_simp
     with_reducible rfl
    rotate_left
    ·
     simp only [pA]
     rfl
    refine take_ (i:=1) (N:=some 30) (v:=?_) (a':=?_) #[Y,Y,Y,Z,Z,Z,Z] rfl rfl (by kernel_rfl) (fun _ _ _ h=>h) (Or.inl ⟨by rfl,?_⟩) hHeld ?_ ?_
    rotate_left
    ·
     rintro w' ⟨s0,s1,s2⟩
     go_simp
     with_reducible rfl
    rotate_left
    ·
     simp only [pA]
     rfl
    refine one_ (i:=3) (N:=some 32) #[Y,Y,Y,Y,Z,Z,Z] rfl rfl (by kernel_rfl) (by decide) (fun K hK=>?_)
    refine goC Try.func50 (spec_l01Next.calls (w:=_) (g:=g) (w0:=w0) (hI:=iA HI0) (hB:=blI) (h:=A26.out)) ?_
    rintro w30 ⟨hi,hb,hk⟩
    replace BK278:=kbk hk BK278 NB278_0
    replace BK279:=kbk hk BK279 NB279_0
    replace HK:=kkA HK hk
    replace HB:=Aside0.mk hb
    replace HI0:=Aside0.mk hi
    (try clear hb)
    (try clear hb2)
    (try clear hk)
    (try clear hi)
    refine hK.out _ _ ⟨cA BK278 0,cA BK278 1,cA BK278 2⟩ (fun hHeld=>?_)
    clear hK K
    refine nmA ?_
    refine pure_ (i:=4) (N:=some 33) (v:=?_) (a':=?_) #[Y,Y,Y,Y,Y,Z,Z] rfl rfl (by kernel_rfl) (fun _ _ _ h=>h) (Or.inl ⟨by rfl,?_⟩) ?_ ?_
    rotate_left
    ·
     intro w'
     go_simp
     with_reducible rfl
    rotate_left
    ·
     simp only [pA]
     rfl
    refine pure_ (i:=5) (N:=some 34) (v:=?_) (a':=?_) #[Y,Y,Y,Y,Y,Y,Z] rfl rfl (by kernel_rfl) (fun _ _ _ h=>h) (Or.inl ⟨by rfl,?_⟩) ?_ ?_
    rotate_left
    ·
     intro w'
     go_simp
     with_reducible rfl
    rotate_left
    ·
     simp only [pA]
     rfl
    refine pure_ (i:=6) (N:=some 9) (v:=?_) (a':=?_) #[Y,Y,Y,Y,Y,Y,Y] rfl rfl (by kernel_rfl) (fun _ _ _ h=>h) (Or.inl ⟨by rfl,?_⟩) ?_ ?_
    rotate_left
    ·
     intro w'
     go_simp
     with_reducible rfl
    rotate_left
    ·
     simp only [pA]
     rfl
    refine done_ (by kernel_rfl) ?_
    go_upto_if 36 with (fail)
    go_cut [7] (fun v7 wc=>∃ (kq:Nat) (x7_26:Int) (x1001_26:Int) (x1002_26:Int),v7=.int .i64 x7_26∧Aside0 (spec_l05End.j1 kq x7_26 t288 s0_0 x1001_26 x1002_26=some (r1,r2,r3,r4))∧Aside0 (kq≤kj3)∧Aside0 (wc.heap[gb278]?=some (.cells #[.int .i64 a2_0,.int .i64 a2_1,.int .i64 a2_2] 25 (0,0)))∧Aside0 (wc.heap[gb279]?=some (.cells #[.int .i64 0,.int .i64 0] 27 (0,0)))∧Aside0 (IsS74 w0 wc g s0_0 x1001_26 x1002_26)∧Aside0 (KeepBut w wc g none)∧Aside0 (Below w0.heap.size w0 wc))
    case first=>
     have H:=HC27.out
     clear HC27
     by_cases c31:(wrap64 ((wrap64 (a2_0+t289)) - 1))≥0
     ·
      rw [if_pos c31] at H
      have c31b0:decide (0≤(wrap64 ((wrap64 (a2_0+t289)) - 1)))=true:=decide_eq_true c31
      clear c31
      (first|rw [c31b0]|(simp only [i64_w,i32_w];rw [c31b0])|skip)
      replace H:=bS H
      obtain ⟨⟨t292,t293,t294⟩,A32,H⟩:=H
      try dsimp only at H
      replace H:=bS H
      obtain ⟨t295,A33,H⟩:=H
      try dsimp only at H
      have H':=Aside0.mk H
      clear H
      go_wp2_with (first|((with_reducible refine gd 40 rfl ?_);refine gC (some 40) rfl Try.func50 (spec_l01Next.calls (w:=_) (g:=g) (w0:=w0) (hI:=iA HI0) (hB:=blI) (h:=A32.out)) ?_;rintro w34 ⟨hi,hb,hk⟩;have n0_:=kbk hk BK278 NB278_0;have n1_:=kbk hk BK279 NB279_0;have n2_:=kkA HK hk;have n3_:=Aside0.mk hb;have n4_:=Aside0.mk hi;clear BK278;clear BK279;clear HK;clear HB;clear HI0;have BK278:=n0_;have BK279:=n1_;have HK:=n2_;have HB:=n3_;have HI0:=n4_;clear n0_ n1_ n2_ n3_ n4_;clear hi hb hk)|((with_reducible refine gd 43 rfl ?_);refine gC (some 43) rfl Try.func53 (spec_l01Power.calls (w:=_) (h:=A33.out)) ?_;rintro _ ⟨nd,rfl⟩))
      go_meet
      case rel=>exact ⟨_,(wrap64 (a2_1+(wrap64 ((wrap64 (t292*t295))*t288)))),(t293),(t294),hB,H',⟨by have:=HJ3.out;first|omega|exact Nat.le_refl _⟩,⟨bkA BK278⟩,⟨bkA BK279⟩,⟨iA HI0⟩,⟨kpA⟩,⟨blI⟩⟩
     ·
      rw [if_neg c31] at H
      have c31b0:decide (0≤(wrap64 ((wrap64 (a2_0+t289)) - 1)))=false:=decide_eq_false c31
      clear c31
      (first|rw [c31b0]|(simp only [i64_w,i32_w];rw [c31b0])|skip)
      have H':=Aside0.mk H
      clear H
      go_wp2
      go_meet
      case rel=>exact ⟨_,(a2_1),(t290),(t291),hB,H',⟨by have:=HJ3.out;first|omega|exact Nat.le_refl _⟩,⟨bkA BK278⟩,⟨bkA BK279⟩,⟨iA HI0⟩,⟨kpA⟩,⟨blI⟩⟩
    case rest=>
     clear HC27
     try clear c8
     try clear c19
     try clear c31
     try clear c31b0
     try clear hcz12_0
     try clear hcz12_1
     try clear hcz12_2
     try clear hcz17_0
     try clear hcz17_1
     try clear hcz17_2
     try clear hcz24_0
     try clear hcz24_1
     try clear hfz12_0
     try clear hfz12_1
     try clear hfz12_2
     try clear hfz17_0
     try clear hfz17_1
     try clear hfz17_2
     try clear hfz24_0
     try clear hfz24_1
     obtain ⟨kq,x7_26,x1001_26,x1002_26,rfl,HA,HJ26,BK278,BK279,HI0,HK,HB⟩:=hcut
     cases kq with
     | zero=>exact absurd HA.out (by simp [spec_l05End.j1])
     | succ kj26=>
      have H:=HA.out
      clear HA
      simp only [spec_l05End.j1] at H
      replace H:=bS H
      obtain ⟨⟨t296,t297,t298⟩,A35,H⟩:=H
      try dsimp only at H
      by_cases c36:t298=true
      focus
       subst c36
       rw [if_pos rfl] at H
       try dsimp only at H
       simp only [Option.some.injEq,Prod.mk.injEq] at H
       obtain ⟨rfl,rfl,rfl,rfl⟩:=H
      rotate_left
      focus
       replace c36:=Bool.eq_false_iff.mpr c36
       subst c36
       rw [if_neg (show ¬ (false=true) by decide)] at H
       try dsimp only at H
       replace H:=bS H
       obtain ⟨⟨t300,t301,t302,t303⟩,A46,H⟩:=H
       try dsimp only at H
       simp only [Option.some.injEq,Prod.mk.injEq] at H
       obtain ⟨rfl,rfl,rfl,rfl⟩:=H
      rotate_left
      all_goals
       go_wp2_with (first|((with_reducible refine gd 51 rfl ?_);refine gC (some 51) rfl Try.func54 (spec_l01EndOf.calls (w:=_) (h:=A35.out)) ?_;intro w37 hb;have n0_:=kB BK278 hb;have n1_:=kB BK279 hb;have n2_:=Aside0.mk (IsS74.below (iA HI0) hb);have n3_:=kbA HK hb;have n4_:=lI hb;clear BK278;clear BK279;clear HI0;clear HK;clear HB;have BK278:=n0_;have BK279:=n1_;have HI0:=n2_;have HK:=n3_;have HB:=n4_;clear n0_ n1_ n2_ n3_ n4_;clear hb)|((with_reducible refine gate_dst (N:=10) rfl ?_);refine bxE (cs:=#[.int .i64 0,.int .i64 0]) (t:=27) ?_;intro gb299 hg w38 hbox hb;have n0_:=kB BK278 hb;have n1_:=kB BK279 hb;have n2_:=Aside0.mk (IsS74.below (iA HI0) hb);have n3_:=kbA HK hb;have n4_:=lI hb;have n5_:=Aside0.mk hbox;have n6_:=kzA HK hg;have n7_:=Aside0.mk (Nat.le_trans HW0.out (kzA HK hg).out);have n8_:=nA hg BK278;have n9_:=nB hg BK278;have n10_:=nA hg BK279;have n11_:=nB hg BK279;have n12_:=inA hg (IsS74.lt (iA HI0));have n13_:=inB hg (IsS74.lt (iA HI0));clear BK278;clear BK279;clear HI0;clear HK;clear HB;have BK278:=n0_;have BK279:=n1_;have HI0:=n2_;have HK:=n3_;have HB:=n4_;have BK299:=n5_;have GW299:=n6_;have GE299:=n7_;have NB278_299:=n8_;have NB299_278:=n9_;have NB279_299:=n10_;have NB299_279:=n11_;have NB0_299:=n12_;have NB299_0:=n13_;clear n0_ n1_ n2_ n3_ n4_ n5_ n6_ n7_ n8_ n9_ n10_ n11_ n12_ n13_;clear hb hbox hg;have hnb39:=NB299_278.out;have hnc39:=NB278_299.out;have hnb40:=NB299_279.out;have hnc40:=NB279_299.out;have hnb41:=NB299_0.out;have hnc41:=NB0_299.out;obtain ⟨hcz42_0,hcz42_1,hfz42_0,hfz42_1⟩:=cz2 BK299;have hnb43:=NB279_278.out;have hnc43:=NB278_279.out;have hnb44:=NB279_0.out;have hnc44:=NB0_279.out;obtain ⟨hcz45_0,hcz45_1,hfz45_0,hfz45_1⟩:=cz2 BK279)|((with_reducible refine gd 57 rfl ?_);refine gC (some 57) rfl Try.func52 (spec_l01DrawEnd.calls (w:=_) (g:=g) (w0:=w0) (hI:=iA HI0) (hB:=blI) (h:=A46.out)) ?_;rintro w53 ⟨hi,hb,hk⟩;have n0_:=Aside0.mk (KeepBut.blk hk (g':=gb278) (o:=.cells #[.int .i64 a2_0,.int .i64 a2_1,.int .i64 a2_2] 25 (0,0)) (bkF BK278) NB278_0.out (by simp));have n1_:=Aside0.mk (KeepBut.blk hk (g':=gb279) (o:=.cells #[.int .i64 0,.int .i64 0] 27 (0,0)) (bkF BK279) NB279_0.out (by simp));have n2_:=Aside0.mk (KeepBut.blk hk (g':=gb299) (o:=.cells #[.int .i64 t296,.int .i64 t297] 27 (0,0)) (bpA BK299) NB299_0.out (by simp));have n3_:=kkA HK hk;have n4_:=Aside0.mk hb;have n5_:=Aside0.mk hi;clear BK278;clear BK279;clear BK299;clear HK;clear HB;clear HI0;have BK278:=n0_;have BK279:=n1_;have BK299:=n2_;have HK:=n3_;have HB:=n4_;have HI0:=n5_;clear n0_ n1_ n2_ n3_ n4_ n5_;clear hi hb hk;have hnb54:=NB279_278.out;have hnc54:=NB278_279.out;have hnb55:=NB279_0.out;have hnc55:=NB0_279.out;obtain ⟨hcz56_0,hcz56_1,hfz56_0,hfz56_1⟩:=cz2 BK279))
      ·
       refine bodyPost_ret (results_cell_row rfl _ _ gb279 27 #[.int .i64 t296,.int .i64 t297] (0,0) _ rfl (bpA BK279) Try.underlying27 rfl (by kernel_rfl)) rfl ?_
       exact ⟨eW,iA HI0,blI,kpA⟩
      ·
       refine bodyPost_ret (results_cell_row rfl _ _ gb279 27 #[.int .i64 t300,.int .i64 t301] (0,0) _ rfl (bpA BK279) Try.underlying27 rfl (by kernel_rfl)) rfl ?_
       exact ⟨eW,iA HI0,blI,kpA⟩
def impl_neighbour.f (k:Nat) (a0 a1_0 a1_1 a1_2 a2:Int):Option (Int × Int × Int × Bool):=if a2=0 then ((impl_parent.f k a0 a1_0 a1_1 a1_2).bind fun bt378=>(some (bt378.1,bt378.2.1,bt378.2.2.1,bt378.2.2.2))) else ((impl_child.f k a0 a1_0 a1_1 a1_2 (wrap64 (a2 - 1))).bind fun bt382=>(some (bt382.1,bt382.2.1,bt382.2.2.1,bt382.2.2.2)))
theorem impl_neighbour.mono:∀ a0 a1 a2 a3 a4 k,LeO (impl_neighbour.f k a0 a1 a2 a3 a4) (impl_neighbour.f (k+1) a0 a1 a2 a3 a4):=by
 intro a0 a1 a2 a3 a4 k
 unfold impl_neighbour.f
 repeat' first
   | with_reducible first|exact impl_child.mono ..|exact impl_parent.mono ..|exact LeO.refl _|exact LeO.none _|refine LeO.ite ?_ ?_|refine LeO.bind ?_ fun _=>?_
set_option maxHeartbeats 8000000 in
set_option maxRecDepth 100000 in
theorem impl_neighbour.calls (k:Nat) (a0 a1_0 a1_1 a1_2 a2 r1 r2 r3:Int) (r4:Bool) (w:World) (h:impl_neighbour.f k a0 a1_0 a1_1 a1_2 a2=some (r1,r2,r3,r4)) :
  Calls Try.prog 29 #[.int .i64 a0,.agg #[.int .i64 a1_0,.int .i64 a1_1,.int .i64 a1_2],.int .i64 a2] w fun e w'=>e=.returned (.tuple #[.agg #[.int .i64 r1,.int .i64 r2,.int .i64 r3],.bool r4])∧Below w.heap.size w w':=by
 have hu25:=Try.underlying25
 have HB:=Aside0.mk (Below.refl w.heap.size w)
 have H:=h
 unfold impl_neighbour.f at H
 clear h
 by_cases c4:a2=0
 ·
  rw [if_pos c4] at H
  have c4b0:(a2 == 0)=true:=beq_iff_eq.mpr c4
  have c4b1:(a2 != 0)=false:=bne_eq_false_iff_eq.mpr c4
  clear c4
  replace H:=bS H
  obtain ⟨⟨t378,t379,t380,t381⟩,A5,H⟩:=H
  try dsimp only at H
  simp only [Option.some.injEq,Prod.mk.injEq] at H
  obtain ⟨rfl,rfl,rfl,rfl⟩:=H
  go_enter Try.func29,Try.ntmps29
  go_wp2_with (first|((with_reducible refine gate_dst (N:=4) rfl ?_);refine bxE (cs:=#[.int .i64 a1_0,.int .i64 a1_1,.int .i64 a1_2]) (t:=25) ?_;intro gb376 hg w6 hbox hb;have BK376:=Aside0.mk hbox;have GW376:=sA hg;have GE376:=sA hg;replace HB:=lB hb;clear hb hbox hg)|((with_reducible refine gate_dst (N:=6) rfl ?_);refine bxE (cs:=#[.int .i64 0,.int .i64 0,.int .i64 0]) (t:=25) ?_;intro gb377 hg w7 hbox hb;have BK377:=Aside0.mk hbox;have GW377:=sA hg;have GE377:=sA hg;have NB376_377:=nA hg BK376;have NB377_376:=nB hg BK376;replace BK376:=kB BK376 hb;replace HB:=lB hb;clear hb hbox hg;have hnb8:=NB376_377.out;have hnc8:=NB377_376.out;obtain ⟨hcz9_0,hcz9_1,hcz9_2,hfz9_0,hfz9_1,hfz9_2⟩:=cz3 BK376)|((with_reducible refine gd 12 rfl ?_);refine gC (some 12) rfl Try.func60 (impl_parent.calls (w:=_) (h:=A5.out)) ?_;intro w10 hb;replace BK376:=kB BK376 hb;replace BK377:=kB BK377 hb;replace HB:=lB hb;clear hb;obtain ⟨hcz11_0,hcz11_1,hcz11_2,hfz11_0,hfz11_1,hfz11_2⟩:=cz3 BK377))
  refine bodyPost_ret (results_ct rfl _ _ gb377 25 #[.int .i64 t378,.int .i64 t379,.int .i64 t380] (0,0) _ rfl (bpA BK377) Try.underlying25 rfl (by kernel_rfl)) rfl ?_
  exact finA blA
 ·
  rw [if_neg c4] at H
  have c4b0:(a2 == 0)=false:=beq_eq_false_iff_ne.mpr c4
  have c4b1:(a2 != 0)=true:=bne_iff_ne.mpr c4
  replace H:=bS H
  obtain ⟨⟨t382,t383,t384,t385⟩,A12,H⟩:=H
  try dsimp only at H
  simp only [Option.some.injEq,Prod.mk.injEq] at H
  obtain ⟨rfl,rfl,rfl,rfl⟩:=H
  go_enter Try.func29,Try.ntmps29
  go_wp2_with (first|((with_reducible refine gate_dst (N:=4) rfl ?_);refine bxE (cs:=#[.int .i64 a1_0,.int .i64 a1_1,.int .i64 a1_2]) (t:=25) ?_;intro gb376 hg w13 hbox hb;have BK376:=Aside0.mk hbox;have GW376:=sA hg;have GE376:=sA hg;replace HB:=lB hb;clear hb hbox hg)|((with_reducible refine gate_dst (N:=6) rfl ?_);refine bxE (cs:=#[.int .i64 0,.int .i64 0,.int .i64 0]) (t:=25) ?_;intro gb377 hg w14 hbox hb;have BK377:=Aside0.mk hbox;have GW377:=sA hg;have GE377:=sA hg;have NB376_377:=nA hg BK376;have NB377_376:=nB hg BK376;replace BK376:=kB BK376 hb;replace HB:=lB hb;clear hb hbox hg;have hnb15:=NB376_377.out;have hnc15:=NB377_376.out;obtain ⟨hcz16_0,hcz16_1,hcz16_2,hfz16_0,hfz16_1,hfz16_2⟩:=cz3 BK376)|((with_reducible refine gd 19 rfl ?_);refine gC (some 19) rfl Try.func61 (impl_child.calls (w:=_) (h:=A12.out)) ?_;intro w17 hb;replace BK376:=kB BK376 hb;replace BK377:=kB BK377 hb;replace HB:=lB hb;clear hb;obtain ⟨hcz18_0,hcz18_1,hcz18_2,hfz18_0,hfz18_1,hfz18_2⟩:=cz3 BK377))
  refine bodyPost_ret (results_ct rfl _ _ gb377 25 #[.int .i64 t382,.int .i64 t383,.int .i64 t384] (0,0) _ rfl (bpA BK377) Try.underlying25 rfl (by kernel_rfl)) rfl ?_
  exact finA blA
def impl_held.f (k:Nat) (a0 a1_0 a1_1 a1_2 a2_0 a2_1:Int):Option (Bool):=if a2_1=0 then (some false) else ((impl_nearness.f k a0 a1_0 a1_1 a1_2 a2_0 a2_1).bind fun t393=>(some (decide (t393≥a1_0))))
theorem impl_held.mono:∀ a0 a1 a2 a3 a4 a5 k,LeO (impl_held.f k a0 a1 a2 a3 a4 a5) (impl_held.f (k+1) a0 a1 a2 a3 a4 a5):=by
 intro a0 a1 a2 a3 a4 a5 k
 unfold impl_held.f
 repeat' first
   | with_reducible first|exact impl_nearness.mono ..|exact LeO.refl _|exact LeO.none _|refine LeO.ite ?_ ?_|refine LeO.bind ?_ fun _=>?_
def impl_held.T1:Bool × List (List Nat × List Nat):=(true,[([],[]),([0],[0]),([1],[1]),([2],[2]),([3],[3]),([3],[3]),([3],[3]),([6,3],[3,6]),([3],[3]),([8,3],[3,8]),([4,5,7,9,3,3],[3,4,5,7,9]),([3],[3]),([11,3],[3,11]),([10,12,3],[3,10,12]),([3,13],[3,13]),([14,10,0,1,2,3,4,5,6,7,8,9,10,11,12,13,14],[14])])
def impl_held.B1:List Nat:=[0,1,3,7,15,15,15,79,15,271,1023,15,2063,8191,16383,32767]
theorem impl_held.tab1:rtab .any (opsOf Try.f62 1)=impl_held.T1:=by kernel_rfl
theorem impl_held.bits1:waitsOk impl_held.T1.2 impl_held.B1=true:=by kernel_rfl
set_option maxHeartbeats 8000000 in
set_option maxRecDepth 100000 in
theorem impl_held.calls (k:Nat) (a0 a1_0 a1_1 a1_2 a2_0 a2_1:Int) (r:Bool) (w:World) (h:impl_held.f k a0 a1_0 a1_1 a1_2 a2_0 a2_1=some r) :
  Calls Try.prog 62 #[.int .i64 a0,.agg #[.int .i64 a1_0,.int .i64 a1_1,.int .i64 a1_2],.agg #[.int .i64 a2_0,.int .i64 a2_1]] w fun e w'=>e=.returned (.bool r)∧Below w.heap.size w w':=by
 have hu25:=Try.underlying25
 have hu27:=Try.underlying27
 have HB:=Aside0.mk (Below.refl w.heap.size w)
 have H:=h
 unfold impl_held.f at H
 clear h
 by_cases c4:a2_1=0
 focus
  rw [if_pos c4] at H
  have c4b0:(a2_1 == 0)=true:=beq_iff_eq.mpr c4
  have c4b1:(a2_1 != 0)=false:=bne_eq_false_iff_eq.mpr c4
  clear c4
  obtain rfl:=Option.some.inj H
 rotate_left
 focus
  rw [if_neg c4] at H
  have c4b0:(a2_1 == 0)=false:=beq_eq_false_iff_ne.mpr c4
  have c4b1:(a2_1 != 0)=true:=bne_iff_ne.mpr c4
  replace H:=bS H
  obtain ⟨t393,A8,H⟩:=H
  try dsimp only at H
  obtain rfl:=Option.some.inj H
 rotate_left
 all_goals
  go_enter Try.func62,Try.ntmps62
  try go_wp2_with (first|((with_reducible refine gate_dst (N:=4) rfl ?_);refine bxE (cs:=#[.int .i64 a1_0,.int .i64 a1_1,.int .i64 a1_2]) (t:=25) ?_;intro gb391 hg w5 hbox hb;have n0_:=lB hb;have n1_:=Aside0.mk hbox;have n2_:=sA hg;have n3_:=sA hg;clear HB;have HB:=n0_;have BK391:=n1_;have GW391:=n2_;have GE391:=n3_;clear n0_ n1_ n2_ n3_;clear hb hbox hg)|((with_reducible refine gate_dst (N:=5) rfl ?_);refine bxE (cs:=#[.int .i64 a2_0,.int .i64 a2_1]) (t:=27) ?_;intro gb392 hg w6 hbox hb;have n0_:=kB BK391 hb;have n1_:=lB hb;have n2_:=Aside0.mk hbox;have n3_:=sA hg;have n4_:=sA hg;have n5_:=nA hg BK391;have n6_:=nB hg BK391;clear BK391;clear HB;have BK391:=n0_;have HB:=n1_;have BK392:=n2_;have GW392:=n3_;have GE392:=n4_;have NB391_392:=n5_;have NB392_391:=n6_;clear n0_ n1_ n2_ n3_ n4_ n5_ n6_;clear hb hbox hg))
  have n0_:=Aside0.mk (blk_drew BK391.out)
  have n1_:=Aside0.mk (blk_drew BK392.out)
  have n2_:=Aside0.mk (below_drew1 HB.out)
  clear BK391
  clear BK392
  clear HB
  have BK391:=n0_
  have BK392:=n1_
  have HB:=n2_
  clear n0_ n1_ n2_
 ·
  refine start_ (n:=16) (S:=fun w'=>w'.cell? ⟨gb392,0,none⟩=some (.int .i64 a2_0)∧w'.cell? ⟨gb392,1,none⟩=some (.int .i64 a2_1)) (ds:=[]) #[Z,Z,Z,Z,Z,Z,Z,Z,Z,Z,Z,Z,Z,Z,Z,Z] (by kernel_rfl) rfl rfl ⟨cA BK392 0,cA BK392 1⟩ (fun hHeld=>?_);refine with_tabW impl_held.tab1 impl_held.bits1 (fun HT_ HW_=>?_)
  generalize w6.drew=w7 at BK391 BK392 HB hHeld ⊢
  refine puA (i:=0) (N:=some 7) #[Y,Z,Z,Z,Z,Z,Z,Z,Z,Z,Z,Z,Z,Z,Z,Z] rfl rfl HT_ ?_
  refine taA (i:=1) (N:=some 8) #[Y,Y,Z,Z,Z,Z,Z,Z,Z,Z,Z,Z,Z,Z,Z,Z] rfl rfl HT_ HW_ hHeld ?_
  refine puA (i:=2) (N:=some 9) #[Y,Y,Y,Z,Z,Z,Z,Z,Z,Z,Z,Z,Z,Z,Z,Z] rfl rfl HT_ ?_
  refine puA (i:=3) (N:=some 10) #[Y,Y,Y,Y,Z,Z,Z,Z,Z,Z,Z,Z,Z,Z,Z,Z] rfl rfl HT_ ?_
  refine puU (i:=4) (N:=some 11) #[Y,Y,Y,Y,Y,Z,Z,Z,Z,Z,Z,Z,Z,Z,Z,Z] rfl rfl HT_ ?_
  refine puU (i:=5) (N:=some 12) #[Y,Y,Y,Y,Y,Y,Z,Z,Z,Z,Z,Z,Z,Z,Z,Z] rfl rfl HT_ ?_
  refine puU (i:=6) (N:=some 13) #[Y,Y,Y,Y,Y,Y,Y,Z,Z,Z,Z,Z,Z,Z,Z,Z] rfl rfl HT_ ?_
  refine puU (i:=7) (N:=some 14) #[Y,Y,Y,Y,Y,Y,Y,Y,Z,Z,Z,Z,Z,Z,Z,Z] rfl rfl HT_ ?_
  refine puU (i:=8) (N:=some 15) #[Y,Y,Y,Y,Y,Y,Y,Y,Y,Z,Z,Z,Z,Z,Z,Z] rfl rfl HT_ ?_
  refine puU (i:=9) (N:=some 16) #[Y,Y,Y,Y,Y,Y,Y,Y,Y,Y,Z,Z,Z,Z,Z,Z] rfl rfl HT_ ?_
  refine puU (i:=10) (N:=some 17) #[Y,Y,Y,Y,Y,Y,Y,Y,Y,Y,Y,Z,Z,Z,Z,Z] rfl rfl HT_ ?_
  refine puU (i:=11) (N:=some 18) #[Y,Y,Y,Y,Y,Y,Y,Y,Y,Y,Y,Y,Z,Z,Z,Z] rfl rfl HT_ ?_
  refine puU (i:=12) (N:=some 19) #[Y,Y,Y,Y,Y,Y,Y,Y,Y,Y,Y,Y,Y,Z,Z,Z] rfl rfl HT_ ?_
  refine puU (i:=13) (N:=some 20) #[Y,Y,Y,Y,Y,Y,Y,Y,Y,Y,Y,Y,Y,Y,Z,Z] rfl rfl HT_ ?_
  refine puA (i:=14) (N:=some 21) #[Y,Y,Y,Y,Y,Y,Y,Y,Y,Y,Y,Y,Y,Y,Y,Z] rfl rfl HT_ ?_
  refine puA (i:=15) (N:=some 6) #[Y,Y,Y,Y,Y,Y,Y,Y,Y,Y,Y,Y,Y,Y,Y,Y] rfl rfl HT_ ?_
  refine done_ (done_of HT_.out (by kernel_rfl)) ?_
  try go_wp2
  go_ret
  exact finA blA
 ·
  refine start_ (n:=16) (S:=fun w'=>w'.cell? ⟨gb392,0,none⟩=some (.int .i64 a2_0)∧w'.cell? ⟨gb392,1,none⟩=some (.int .i64 a2_1)∧w'.cell? ⟨gb391,0,none⟩=some (.int .i64 a1_0)∧w'.cell? ⟨gb391,1,none⟩=some (.int .i64 a1_1)∧w'.cell? ⟨gb391,2,none⟩=some (.int .i64 a1_2)) (ds:=[]) #[Z,Z,Z,Z,Z,Z,Z,Z,Z,Z,Z,Z,Z,Z,Z,Z] (by kernel_rfl) rfl rfl ⟨cA BK392 0,cA BK392 1,cA BK391 0,cA BK391 1,cA BK391 2⟩ (fun hHeld=>?_);refine with_tabW impl_held.tab1 impl_held.bits1 (fun HT_ HW_=>?_)
  generalize w6.drew=w11 at BK391 BK392 HB hHeld ⊢
  refine puA (i:=0) (N:=some 7) #[Y,Z,Z,Z,Z,Z,Z,Z,Z,Z,Z,Z,Z,Z,Z,Z] rfl rfl HT_ ?_
  refine taA (i:=1) (N:=some 8) #[Y,Y,Z,Z,Z,Z,Z,Z,Z,Z,Z,Z,Z,Z,Z,Z] rfl rfl HT_ HW_ hHeld ?_
  refine puA (i:=2) (N:=some 9) #[Y,Y,Y,Z,Z,Z,Z,Z,Z,Z,Z,Z,Z,Z,Z,Z] rfl rfl HT_ ?_
  refine puA (i:=3) (N:=some 10) #[Y,Y,Y,Y,Z,Z,Z,Z,Z,Z,Z,Z,Z,Z,Z,Z] rfl rfl HT_ ?_
  refine puA (i:=4) (N:=some 11) #[Y,Y,Y,Y,Y,Z,Z,Z,Z,Z,Z,Z,Z,Z,Z,Z] rfl rfl HT_ ?_
  refine puA (i:=6) (N:=some 13) #[Y,Y,Y,Y,Y,Z,Y,Z,Z,Z,Z,Z,Z,Z,Z,Z] rfl rfl HT_ ?_
  refine puA (i:=8) (N:=some 15) #[Y,Y,Y,Y,Y,Z,Y,Z,Y,Z,Z,Z,Z,Z,Z,Z] rfl rfl HT_ ?_
  refine puA (i:=11) (N:=some 18) #[Y,Y,Y,Y,Y,Z,Y,Z,Y,Z,Z,Y,Z,Z,Z,Z] rfl rfl HT_ ?_
  refine taA (i:=5) (N:=some 12) #[Y,Y,Y,Y,Y,Y,Y,Z,Y,Z,Z,Y,Z,Z,Z,Z] rfl rfl HT_ HW_ hHeld ?_
  refine taA (i:=7) (N:=some 14) #[Y,Y,Y,Y,Y,Y,Y,Y,Y,Z,Z,Y,Z,Z,Z,Z] rfl rfl HT_ HW_ hHeld ?_
  refine taA (i:=9) (N:=some 16) #[Y,Y,Y,Y,Y,Y,Y,Y,Y,Y,Z,Y,Z,Z,Z,Z] rfl rfl HT_ HW_ hHeld ?_
  refine taA (i:=12) (N:=some 19) #[Y,Y,Y,Y,Y,Y,Y,Y,Y,Y,Z,Y,Y,Z,Z,Z] rfl rfl HT_ HW_ hHeld ?_
  refine one_ (i:=10) (N:=some 17) #[Y,Y,Y,Y,Y,Y,Y,Y,Y,Y,Y,Y,Y,Z,Z,Z] rfl rfl (one_of HT_.out (by kernel_rfl)) (by decide) (fun K hK=>?_)
  refine goC Try.func84 (impl_nearness.calls (w:=_) (h:=A8.out)) ?_
  intro w12 hb
  replace BK391:=kB BK391 hb
  replace BK392:=kB BK392 hb
  replace HB:=lB hb
  (try clear hb)
  (try clear hb2)
  (try clear hk)
  (try clear hi)
  refine hK.out _ _ ⟨cA BK392 0,cA BK392 1,cA BK391 0,cA BK391 1,cA BK391 2⟩ (fun hHeld=>?_)
  clear hK K
  refine nmA ?_
  refine puA (i:=13) (N:=some 20) #[Y,Y,Y,Y,Y,Y,Y,Y,Y,Y,Y,Y,Y,Y,Z,Z] rfl rfl HT_ ?_
  refine puA (i:=14) (N:=some 21) #[Y,Y,Y,Y,Y,Y,Y,Y,Y,Y,Y,Y,Y,Y,Y,Z] rfl rfl HT_ ?_
  refine puA (i:=15) (N:=some 6) #[Y,Y,Y,Y,Y,Y,Y,Y,Y,Y,Y,Y,Y,Y,Y,Y] rfl rfl HT_ ?_
  refine done_ (done_of HT_.out (by kernel_rfl)) ?_
  try go_wp2
  go_ret
  exact finA blA
end Go.Proofs.Ytabcckoeilegnaa.PAll
