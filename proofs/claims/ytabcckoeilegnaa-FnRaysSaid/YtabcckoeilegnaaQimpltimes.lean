-- turned out of the kit's print
import Derived.Test.YtabcckoeilegnaaQx
import Derived.Test.YtabcckoeilegnaaQbitsDiv64
import Derived.Test.YtabcckoeilegnaaQimplmark
import Derived.Test.YtabcckoeilegnaaQimplmod
import Derived.Test.YtabcckoeilegnaaQspecl01Is
namespace Go.Proofs.Ytabcckoeilegnaa.PAll
open Go.RowKit Go.Proofs.YtabcckoeilegnaaW.PrintWords Go.Proofs.YtabcckoeilegnaaW.PrintLast Go.Proofs.YtabcckoeilegnaaW.PrintMore
attribute [local go_sem] Go.Proofs.Ytabcckoeilegnaa.Aux.setCell_drewN Go.Proofs.Ytabcckoeilegnaa.Aux.isSome_setCell max2_int min2_int max_two min_two max_three min_three max_four min_four
set_option linter.unusedVariables false
set_option linter.unusedSimpArgs false
def spec_l01DrawEnd.j0:Nat→Int→Bool→List Int→Int→Int→Option (Int × Int × Int × Int)
 | 0,_,_,_,_,_=>none
 | k+1,x8,x9,x1000,x1001,x1002=>if x9=true then (some (1,0,x1001,x1002)) else (if x8=2 then ((spec_l01Pick.f x1000 x1001 x1002 (([2,0,1000001]:List Int))).bind fun bt230=>((spec_l01Pick.f x1000 bt230.2.1 bt230.2.2 (([0,4,(-1)]:List Int))).bind fun bt236=>(some (bt230.1,bt236.1,bt236.2.1,bt236.2.2)))) else ((spec_l01Next.f x1000 x1001 x1002 20).bind fun bt239=>((spec_l01Next.f x1000 bt239.2.1 bt239.2.2 200).bind fun bt242=>((spec_l01Next.f x1000 bt242.2.1 bt242.2.2 2000001).bind fun bt245=>((spec_l01Pick.f x1000 bt245.2.1 bt245.2.2 (([wrap64 (bt239.1 - 10),wrap64 (bt242.1 - 100),wrap64 (bt245.1 - 1000000)]:List Int))).bind fun bt251=>((spec_l01Next.f x1000 bt251.2.1 bt251.2.2 20).bind fun bt254=>((spec_l01Next.f x1000 bt254.2.1 bt254.2.2 8).bind fun bt257=>((spec_l01Power.f k 2 bt257.1).bind fun t260=>((spec_l01Next.f x1000 bt257.2.1 bt257.2.2 6).bind fun bt261=>((spec_l01Power.f k 3 bt261.1).bind fun t264=>((spec_l01Next.f x1000 bt261.2.1 bt261.2.2 1000000).bind fun bt265=>((spec_l01Pick.f x1000 bt265.2.1 bt265.2.2 (([1,1,wrap64 (1+bt254.1),t260,t264,wrap64 (1+bt265.1)]:List Int))).bind fun bt271=>((spec_l01EndOf.f k bt251.1 bt271.1).bind fun bt274=>(some (bt274.1,bt274.2.1,bt271.2.1,bt271.2.2)))))))))))))))
def spec_l01DrawEnd.f (k:Nat) (s0_0:List Int) (s0_1 s0_2:Int):Option (Int × Int × Int × Int):=(spec_l01Next.f s0_0 s0_1 s0_2 30).bind fun bt224=>(if bt224.1=0 then (spec_l01DrawEnd.j0 k bt224.1 (bt224.1 == 0) s0_0 bt224.2.1 bt224.2.2) else (spec_l01DrawEnd.j0 k bt224.1 (bt224.1 == 1) s0_0 bt224.2.1 bt224.2.2))
theorem spec_l01DrawEnd.mono_l:∀ k,(∀ y0 y1 y2 y3 y4,LeO (spec_l01DrawEnd.j0 k y0 y1 y2 y3 y4) (spec_l01DrawEnd.j0 (k+1) y0 y1 y2 y3 y4))
 | 0=>fun _ _ _ _ _ r h=>by simp [spec_l01DrawEnd.j0] at h
 | k+1=>by
  have ih0:=spec_l01DrawEnd.mono_l k
  ·
   intro y0 y1 y2 y3 y4
   unfold spec_l01DrawEnd.j0
   repeat' first
   | with_reducible first|exact ih0 ..|exact spec_l01EndOf.mono ..|exact spec_l01Power.mono ..|exact LeO.refl _|exact LeO.none _|refine LeO.ite ?_ ?_|refine LeO.bind ?_ fun _=>?_
theorem spec_l01DrawEnd.mono:∀ a0 a1 a2 k,LeO (spec_l01DrawEnd.f k a0 a1 a2) (spec_l01DrawEnd.f (k+1) a0 a1 a2):=by
 intro a0 a1 a2 k
 have ih0:=spec_l01DrawEnd.mono_l k
 unfold spec_l01DrawEnd.f
 repeat' first
   | with_reducible first|exact ih0 ..|exact spec_l01EndOf.mono ..|exact spec_l01Power.mono ..|exact LeO.refl _|exact LeO.none _|refine LeO.ite ?_ ?_|refine LeO.bind ?_ fun _=>?_
set_option maxHeartbeats 8000000 in
set_option maxRecDepth 100000 in
theorem spec_l01DrawEnd.calls (k g:Nat) (s0_0:List Int) (s0_1 s0_2 r1 r2 r3 r4:Int) (w0 w:World) (hI:IsS74 w0 w g s0_0 s0_1 s0_2) (hB:Below w0.heap.size w0 w) (h:spec_l01DrawEnd.f k s0_0 s0_1 s0_2=some (r1,r2,r3,r4)) :
  Calls Try.prog 52 #[.pointer (some ⟨g,0,none⟩)] w fun e w'=>e=.returned (.agg #[.int .i64 r1,.int .i64 r2])∧IsS74 w0 w' g s0_0 r3 r4∧Below w0.heap.size w0 w'∧KeepBut w w' g none:=by
 have hu27:=Try.underlying27
 have HI0:=Aside0.mk hI
 have HK:=Aside0.mk (KeepBut.refl w g none)
 have HL:=Aside0.mk hB.size
 clear hI
 have HW0:=Aside0.mk hB.size
 have HB:=Aside0.mk hB
 clear hB
 have H:=h
 unfold spec_l01DrawEnd.f at H
 clear h
 replace H:=bS H
 obtain ⟨⟨t224,t225,t226⟩,A2,H⟩:=H
 try dsimp only at H
 have HC3:=Aside0.mk H
 clear H
 go_enter Try.func52,Try.ntmps52
 go_upto_if 9 with (first|((with_reducible refine gate_dst (N:=2) rfl ?_);refine bxE (cs:=#[.int .i64 0,.int .i64 0]) (t:=27) ?_;intro gb223 hg w4 hbox hb;have n0_:=Aside0.mk (IsS74.below (iA HI0) hb);have n1_:=kbA HK hb;have n2_:=lI hb;have n3_:=Aside0.mk hbox;have n4_:=kzA HK hg;have n5_:=Aside0.mk (Nat.le_trans HW0.out (kzA HK hg).out);have n6_:=inA hg (IsS74.lt (iA HI0));have n7_:=inB hg (IsS74.lt (iA HI0));clear HI0;clear HK;clear HB;have HI0:=n0_;have HK:=n1_;have HB:=n2_;have BK223:=n3_;have GW223:=n4_;have GE223:=n5_;have NB0_223:=n6_;have NB223_0:=n7_;clear n0_ n1_ n2_ n3_ n4_ n5_ n6_ n7_;clear hb hbox hg)|((with_reducible refine gd 8 rfl ?_);refine gC (some 8) rfl Try.func50 (spec_l01Next.calls (w:=_) (g:=g) (w0:=w0) (hI:=iA HI0) (hB:=blI) (h:=A2.out)) ?_;rintro w5 ⟨hi,hb,hk⟩;replace BK223:=kbk hk BK223 NB223_0;replace HK:=kkA HK hk;replace HB:=Aside0.mk hb;replace HI0:=Aside0.mk hi;clear hi hb hk))
 (try simp only [Act.put,List.setIfInBounds_toArray,List.set_cons_zero,List.set_cons_succ])
 go_cut [9] (fun v9 wc=>∃ (kq:Nat) (x9_2:Bool),v9=.bool x9_2∧Aside0 (spec_l01DrawEnd.j0 kq t224 x9_2 s0_0 t225 t226=some (r1,r2,r3,r4))∧Aside0 (kq≤k)∧Aside0 (wc.heap[gb223]?=some (.cells #[.int .i64 0,.int .i64 0] 27 (0,0)))∧Aside0 (IsS74 w0 wc g s0_0 t225 t226)∧Aside0 (KeepBut w wc g none)∧Aside0 (Below w0.heap.size w0 wc))
 case first=>
  have H:=HC3.out
  clear HC3
  by_cases c6:t224=0
  ·
   rw [if_pos c6] at H
   have c6b0:(t224 == 0)=true:=beq_iff_eq.mpr c6
   have c6b1:(t224 != 0)=false:=bne_eq_false_iff_eq.mpr c6
   clear c6
   (first|rw [c6b0]|(simp only [i64_w,i32_w];rw [c6b0])|skip)
   have H':=Aside0.mk H
   clear H
   go_wp2
   go_meet
   case rel=>exact ⟨_,((t224 == 0)),hB,H',⟨by first|omega|exact Nat.le_refl _⟩,⟨bkA BK223⟩,⟨iA HI0⟩,⟨kpA⟩,⟨blI⟩⟩
  ·
   rw [if_neg c6] at H
   have c6b0:(t224 == 0)=false:=beq_eq_false_iff_ne.mpr c6
   have c6b1:(t224 != 0)=true:=bne_iff_ne.mpr c6
   (first|rw [c6b0]|(simp only [i64_w,i32_w];rw [c6b0])|skip)
   have H':=Aside0.mk H
   clear H
   go_wp2
   go_meet
   case rel=>exact ⟨_,((t224 == 1)),hB,H',⟨by first|omega|exact Nat.le_refl _⟩,⟨bkA BK223⟩,⟨iA HI0⟩,⟨kpA⟩,⟨blI⟩⟩
 case rest=>
  clear HC3
  try clear c6
  try clear c6b0
  try clear c6b1
  obtain ⟨kq,x9_2,rfl,HA,HJ2,BK223,HI0,HK,HB⟩:=hcut
  cases kq with
  | zero=>exact absurd HA.out (by simp [spec_l01DrawEnd.j0])
  | succ kj2=>
   have H:=HA.out
   clear HA
   simp only [spec_l01DrawEnd.j0] at H
   by_cases c7:x9_2=true
   ·
    subst c7
    rw [if_pos rfl] at H
    try dsimp only at H
    simp only [Option.some.injEq,Prod.mk.injEq] at H
    obtain ⟨rfl,rfl,rfl,rfl⟩:=H
    have hnb8:=NB223_0.out
    have hnc8:=NB0_223.out
    obtain ⟨hcz9_0,hcz9_1,hfz9_0,hfz9_1⟩:=cz2 BK223
    go_wp2
    refine bodyPost_ret (results_cell_row rfl _ _ gb223 27 #[.int .i64 1,.int .i64 0] (0,0) _ rfl (bpA BK223) Try.underlying27 rfl (by kernel_rfl)) rfl ?_
    exact ⟨eW,iA HI0,blI,kpA⟩
   ·
    replace c7:=Bool.eq_false_iff.mpr c7
    subst c7
    rw [if_neg (show ¬ (false=true) by decide)] at H
    try dsimp only at H
    by_cases c10:t224=2
    ·
     rw [if_pos c10] at H
     have c10b0:(t224 == 2)=true:=beq_iff_eq.mpr c10
     have c10b1:(t224 != 2)=false:=bne_eq_false_iff_eq.mpr c10
     clear c10
     obtain ⟨y227,hy227⟩:∃ y_:List Int,y_=(([2,0,1000001]:List Int)):=⟨_,rfl⟩
     replace H:((spec_l01Pick.f s0_0 t225 t226 y227).bind fun bt230=>((spec_l01Pick.f s0_0 bt230.2.1 bt230.2.2 (([0,4,(-1)]:List Int))).bind fun bt236=>(some (bt230.1,bt236.1,bt236.2.1,bt236.2.2))))=some (r1,r2,r3,r4):=rH hy227 H
     have Ny227:=Aside0.mk hy227
     clear hy227
     replace H:=bS H
     obtain ⟨⟨t230,t231,t232⟩,A11,H⟩:=H
     try dsimp only at H
     obtain ⟨y233,hy233⟩:∃ y_:List Int,y_=(([0,4,(-1)]:List Int)):=⟨_,rfl⟩
     replace H:((spec_l01Pick.f s0_0 t231 t232 y233).bind fun bt236=>(some (t230,bt236.1,bt236.2.1,bt236.2.2)))=some (r1,r2,r3,r4):=rH hy233 H
     have Ny233:=Aside0.mk hy233
     clear hy233
     replace H:=bS H
     obtain ⟨⟨t236,t237,t238⟩,A12,H⟩:=H
     try dsimp only at H
     simp only [Option.some.injEq,Prod.mk.injEq] at H
     obtain ⟨rfl,rfl,rfl,rfl⟩:=H
     go_wp2_with (first|((with_reducible refine gate_dst (N:=16) rfl ?_);refine Kd.R_lit (Kd.int .i64) _ 2 ?hg (N:=16) ?hd (xs:=([2,0,1000001]:List Int)) (inner:=[.int .i64 2,.int .i64 0,.int .i64 1000001]) (ok:=fun _=>True) (okp:=fun _=>True) ?hr ?hp (fun _ hk=>hk) trivial (Below.refl _ _) (Nat.le_refl _) (by simp) ?_;(case hd=>rfl);(case hg=>rfl);(case hr=>first|(go_simp;done)|(go_simp;rfl));(case hp=>exact (Reps.one (show Kd.M (Kd.int .i64) _ _ _ 2 [.int .i64 2] from rfl) (Reps.one (show Kd.M (Kd.int .i64) _ _ _ 0 [.int .i64 0] from rfl) (Reps.one (show Kd.M (Kd.int .i64) _ _ _ 1000001 [.int .i64 1000001] from rfl) (Reps.none _ _)))));intro v228 w13 ho14 hb hg_ hnew_;clear hg_ hnew_;(first|rw [← Ny227.out] at ho14|(simp only [Int.reduceToNat] at ho14;rw [← Ny227.out] at ho14));have n0_:=Aside0.mk (Kd.R_lower ho14 (keep_size (w:=w) (g:=g) (row:=none) kpA));have n1_:=kB BK223 hb;have n2_:=Aside0.mk (IsS74.below (iA HI0) hb);have n3_:=kbA HK hb;have n4_:=lI hb;clear BK223;clear HI0;clear HK;clear HB;have HO229:=n0_;have BK223:=n1_;have HI0:=n2_;have HK:=n3_;have HB:=n4_;clear n0_ n1_ n2_ n3_ n4_;clear hb ho14;obtain ⟨Ao15,co15,eo15⟩:=Kd.R_slice HO229.out;subst eo15)|((with_reducible refine gd 17 rfl ?_);refine gC (some 17) rfl Try.func25 (spec_l01Pick.calls (w:=_) (g:=g) (w0:=w0) (hI:=iA HI0) (hB:=blI) (hr1:=cR (Kd.R_reads' HO229.out).2.2) (hc1:=(Kd.R_reads' HO229.out).2.1) (hf1:=far_slice (IsS74.own_ne HI0.out HO229.out (by decide))) (h:=A11.out)) ?_;rintro w16 ⟨hi,hb,hk⟩;replace BK223:=kbk hk BK223 NB223_0;replace HO229:=Aside0.mk (Kd.R_mono (Kd.R_keep (IsS74.apart (show IsS74 w0 _ g s0_0 t225 t226 from iA HI0) (rA HO229) (by decide)) hk (fun _ h=>h.2)) (fun _ h=>h.1));replace HK:=kkA HK hk;replace HB:=Aside0.mk hb;replace HI0:=Aside0.mk hi;clear hi hb hk)|((with_reducible refine gate_dst (N:=19) rfl ?_);refine Kd.R_lit (Kd.int .i64) _ 2 ?hg (N:=19) ?hd (xs:=([0,4,(-1)]:List Int)) (inner:=[.int .i64 0,.int .i64 4,.int .i64 (-1)]) (ok:=fun _=>True) (okp:=fun _=>True) ?hr ?hp (fun _ hk=>hk) trivial (Below.refl _ _) (Nat.le_refl _) (by simp) ?_;(case hd=>rfl);(case hg=>rfl);(case hr=>first|(go_simp;done)|(go_simp;rfl));(case hp=>exact (Reps.one (show Kd.M (Kd.int .i64) _ _ _ 0 [.int .i64 0] from rfl) (Reps.one (show Kd.M (Kd.int .i64) _ _ _ 4 [.int .i64 4] from rfl) (Reps.one (show Kd.M (Kd.int .i64) _ _ _ (-1) [.int .i64 (-1)] from rfl) (Reps.none _ _)))));intro v234 w17 ho18 hb hg_ hnew_;clear hg_ hnew_;(first|rw [← Ny233.out] at ho18|(simp only [Int.reduceToNat] at ho18;rw [← Ny233.out] at ho18));have n0_:=Aside0.mk (Kd.R_elder' (rA HO229) (Kd.R_base ho18) hb);have n1_:=Aside0.mk (Kd.R_lower (Kd.R_new' ho18 (Kd.R_lt (rA HO229))) (keep_size (w:=w) (g:=g) (row:=none) kpA));have n2_:=kB BK223 hb;have n3_:=Aside0.mk (IsS74.below (iA HI0) hb);have n4_:=kbA HK hb;have n5_:=lI hb;clear HO229;clear BK223;clear HI0;clear HK;clear HB;have HO229:=n0_;have HO235:=n1_;have BK223:=n2_;have HI0:=n3_;have HK:=n4_;have HB:=n5_;clear n0_ n1_ n2_ n3_ n4_ n5_;clear hb ho18;obtain ⟨Ao19,co19,eo19⟩:=Kd.R_slice HO235.out;subst eo19)|((with_reducible refine gd 20 rfl ?_);refine gC (some 20) rfl Try.func25 (spec_l01Pick.calls (w:=_) (g:=g) (w0:=w0) (hI:=iA HI0) (hB:=blI) (hr1:=cR (Kd.R_reads' HO235.out).2.2) (hc1:=(Kd.R_reads' HO235.out).2.1) (hf1:=far_slice (IsS74.own_ne HI0.out HO235.out (by decide))) (h:=A12.out)) ?_;rintro w20 ⟨hi,hb,hk⟩;replace BK223:=kbk hk BK223 NB223_0;replace HO229:=Aside0.mk (Kd.R_mono (Kd.R_keep (IsS74.apart (show IsS74 w0 _ g s0_0 t231 t232 from iA HI0) (rA HO229) (by decide)) hk (fun _ h=>h.2)) (fun _ h=>h.1));replace HO235:=Aside0.mk (Kd.R_mono (Kd.R_keep (IsS74.apart (show IsS74 w0 _ g s0_0 t231 t232 from iA HI0) (rA HO235) (by decide)) hk (fun _ h=>h.2)) (fun _ h=>h.1));replace HK:=kkA HK hk;replace HB:=Aside0.mk hb;replace HI0:=Aside0.mk hi;clear hi hb hk;have hnb21:=NB223_0.out;have hnc21:=NB0_223.out;obtain ⟨hcz22_0,hcz22_1,hfz22_0,hfz22_1⟩:=cz2 BK223))
     refine bodyPost_ret (results_cell_row rfl _ _ gb223 27 #[.int .i64 t230,.int .i64 t236] (0,0) _ rfl (bpA BK223) Try.underlying27 rfl (by kernel_rfl)) rfl ?_
     exact ⟨eW,iA HI0,blI,kpA⟩
    ·
     rw [if_neg c10] at H
     have c10b0:(t224 == 2)=false:=beq_eq_false_iff_ne.mpr c10
     have c10b1:(t224 != 2)=true:=bne_iff_ne.mpr c10
     replace H:=bS H
     obtain ⟨⟨t239,t240,t241⟩,A23,H⟩:=H
     try dsimp only at H
     replace H:=bS H
     obtain ⟨⟨t242,t243,t244⟩,A24,H⟩:=H
     try dsimp only at H
     replace H:=bS H
     obtain ⟨⟨t245,t246,t247⟩,A25,H⟩:=H
     try dsimp only at H
     obtain ⟨y248,hy248⟩:∃ y_:List Int,y_=(([wrap64 (t239 - 10),wrap64 (t242 - 100),wrap64 (t245 - 1000000)]:List Int)):=⟨_,rfl⟩
     replace H:((spec_l01Pick.f s0_0 t246 t247 y248).bind fun bt251=>((spec_l01Next.f s0_0 bt251.2.1 bt251.2.2 20).bind fun bt254=>((spec_l01Next.f s0_0 bt254.2.1 bt254.2.2 8).bind fun bt257=>((spec_l01Power.f kj2 2 bt257.1).bind fun t260=>((spec_l01Next.f s0_0 bt257.2.1 bt257.2.2 6).bind fun bt261=>((spec_l01Power.f kj2 3 bt261.1).bind fun t264=>((spec_l01Next.f s0_0 bt261.2.1 bt261.2.2 1000000).bind fun bt265=>((spec_l01Pick.f s0_0 bt265.2.1 bt265.2.2 (([1,1,wrap64 (1+bt254.1),t260,t264,wrap64 (1+bt265.1)]:List Int))).bind fun bt271=>((spec_l01EndOf.f kj2 bt251.1 bt271.1).bind fun bt274=>(some (bt274.1,bt274.2.1,bt271.2.1,bt271.2.2)))))))))))=some (r1,r2,r3,r4):=rH hy248 H
     have Ny248:=Aside0.mk hy248
     clear hy248
     replace H:=bS H
     obtain ⟨⟨t251,t252,t253⟩,A26,H⟩:=H
     try dsimp only at H
     replace H:=bS H
     obtain ⟨⟨t254,t255,t256⟩,A27,H⟩:=H
     try dsimp only at H
     replace H:=bS H
     obtain ⟨⟨t257,t258,t259⟩,A28,H⟩:=H
     try dsimp only at H
     replace H:=bS H
     obtain ⟨t260,A29,H⟩:=H
     try dsimp only at H
     replace H:=bS H
     obtain ⟨⟨t261,t262,t263⟩,A30,H⟩:=H
     try dsimp only at H
     replace H:=bS H
     obtain ⟨t264,A31,H⟩:=H
     try dsimp only at H
     replace H:=bS H
     obtain ⟨⟨t265,t266,t267⟩,A32,H⟩:=H
     try dsimp only at H
     obtain ⟨y268,hy268⟩:∃ y_:List Int,y_=(([1,1,wrap64 (1+t254),t260,t264,wrap64 (1+t265)]:List Int)):=⟨_,rfl⟩
     replace H:((spec_l01Pick.f s0_0 t266 t267 y268).bind fun bt271=>((spec_l01EndOf.f kj2 t251 bt271.1).bind fun bt274=>(some (bt274.1,bt274.2.1,bt271.2.1,bt271.2.2))))=some (r1,r2,r3,r4):=rH hy268 H
     have Ny268:=Aside0.mk hy268
     clear hy268
     replace H:=bS H
     obtain ⟨⟨t271,t272,t273⟩,A33,H⟩:=H
     try dsimp only at H
     replace H:=bS H
     obtain ⟨⟨t274,t275,t276⟩,A34,H⟩:=H
     try dsimp only at H
     simp only [Option.some.injEq,Prod.mk.injEq] at H
     obtain ⟨rfl,rfl,rfl,rfl⟩:=H
     go_wp2_with (first|((with_reducible refine gd 24 rfl ?_);refine gC (some 24) rfl Try.func50 (spec_l01Next.calls (w:=_) (g:=g) (w0:=w0) (hI:=iA HI0) (hB:=blI) (h:=A23.out)) ?_;rintro w35 ⟨hi,hb,hk⟩;replace BK223:=kbk hk BK223 NB223_0;replace HK:=kkA HK hk;replace HB:=Aside0.mk hb;replace HI0:=Aside0.mk hi;clear hi hb hk)|((with_reducible refine gd 27 rfl ?_);refine gC (some 27) rfl Try.func50 (spec_l01Next.calls (w:=_) (g:=g) (w0:=w0) (hI:=iA HI0) (hB:=blI) (h:=A24.out)) ?_;rintro w36 ⟨hi,hb,hk⟩;replace BK223:=kbk hk BK223 NB223_0;replace HK:=kkA HK hk;replace HB:=Aside0.mk hb;replace HI0:=Aside0.mk hi;clear hi hb hk)|((with_reducible refine gd 30 rfl ?_);refine gC (some 30) rfl Try.func50 (spec_l01Next.calls (w:=_) (g:=g) (w0:=w0) (hI:=iA HI0) (hB:=blI) (h:=A25.out)) ?_;rintro w37 ⟨hi,hb,hk⟩;replace BK223:=kbk hk BK223 NB223_0;replace HK:=kkA HK hk;replace HB:=Aside0.mk hb;replace HI0:=Aside0.mk hi;clear hi hb hk)|((with_reducible refine gate_dst (N:=32) rfl ?_);refine Kd.R_lit (Kd.int .i64) _ 2 ?hg (N:=32) ?hd (xs:=([wrap64 (t239 - 10),wrap64 (t242 - 100),wrap64 (t245 - 1000000)]:List Int)) (inner:=[.int .i64 (wrap64 (t239 - 10)),.int .i64 (wrap64 (t242 - 100)),.int .i64 (wrap64 (t245 - 1000000))]) (ok:=fun _=>True) (okp:=fun _=>True) ?hr ?hp (fun _ hk=>hk) trivial (Below.refl _ _) (Nat.le_refl _) (by simp) ?_;(case hd=>rfl);(case hg=>rfl);(case hr=>first|(go_simp;done)|(go_simp;rfl));(case hp=>exact (Reps.one (show Kd.M (Kd.int .i64) _ _ _ (wrap64 (t239 - 10)) [.int .i64 (wrap64 (t239 - 10))] from rfl) (Reps.one (show Kd.M (Kd.int .i64) _ _ _ (wrap64 (t242 - 100)) [.int .i64 (wrap64 (t242 - 100))] from rfl) (Reps.one (show Kd.M (Kd.int .i64) _ _ _ (wrap64 (t245 - 1000000)) [.int .i64 (wrap64 (t245 - 1000000))] from rfl) (Reps.none _ _)))));intro v249 w38 ho39 hb hg_ hnew_;clear hg_ hnew_;(first|rw [← Ny248.out] at ho39|(simp only [Int.reduceToNat] at ho39;rw [← Ny248.out] at ho39));have n0_:=Aside0.mk (Kd.R_lower ho39 (keep_size (w:=w) (g:=g) (row:=none) kpA));have n1_:=kB BK223 hb;have n2_:=Aside0.mk (IsS74.below (iA HI0) hb);have n3_:=kbA HK hb;have n4_:=lI hb;clear BK223;clear HI0;clear HK;clear HB;have HO250:=n0_;have BK223:=n1_;have HI0:=n2_;have HK:=n3_;have HB:=n4_;clear n0_ n1_ n2_ n3_ n4_;clear hb ho39;obtain ⟨Ao40,co40,eo40⟩:=Kd.R_slice HO250.out;subst eo40)|((with_reducible refine gd 33 rfl ?_);refine gC (some 33) rfl Try.func25 (spec_l01Pick.calls (w:=_) (g:=g) (w0:=w0) (hI:=iA HI0) (hB:=blI) (hr1:=cR (Kd.R_reads' HO250.out).2.2) (hc1:=(Kd.R_reads' HO250.out).2.1) (hf1:=far_slice (IsS74.own_ne HI0.out HO250.out (by decide))) (h:=A26.out)) ?_;rintro w41 ⟨hi,hb,hk⟩;replace BK223:=kbk hk BK223 NB223_0;replace HO250:=Aside0.mk (Kd.R_mono (Kd.R_keep (IsS74.apart (show IsS74 w0 _ g s0_0 t246 t247 from iA HI0) (rA HO250) (by decide)) hk (fun _ h=>h.2)) (fun _ h=>h.1));replace HK:=kkA HK hk;replace HB:=Aside0.mk hb;replace HI0:=Aside0.mk hi;clear hi hb hk)|((with_reducible refine gd 36 rfl ?_);refine gC (some 36) rfl Try.func50 (spec_l01Next.calls (w:=_) (g:=g) (w0:=w0) (hI:=iA HI0) (hB:=blI) (h:=A27.out)) ?_;rintro w42 ⟨hi,hb,hk⟩;replace BK223:=kbk hk BK223 NB223_0;replace HO250:=Aside0.mk (Kd.R_mono (Kd.R_keep (IsS74.apart (show IsS74 w0 _ g s0_0 t252 t253 from iA HI0) (rA HO250) (by decide)) hk (fun _ h=>h.2)) (fun _ h=>h.1));replace HK:=kkA HK hk;replace HB:=Aside0.mk hb;replace HI0:=Aside0.mk hi;clear hi hb hk)|((with_reducible refine gd 39 rfl ?_);refine gC (some 39) rfl Try.func50 (spec_l01Next.calls (w:=_) (g:=g) (w0:=w0) (hI:=iA HI0) (hB:=blI) (h:=A28.out)) ?_;rintro w43 ⟨hi,hb,hk⟩;replace BK223:=kbk hk BK223 NB223_0;replace HO250:=Aside0.mk (Kd.R_mono (Kd.R_keep (IsS74.apart (show IsS74 w0 _ g s0_0 t255 t256 from iA HI0) (rA HO250) (by decide)) hk (fun _ h=>h.2)) (fun _ h=>h.1));replace HK:=kkA HK hk;replace HB:=Aside0.mk hb;replace HI0:=Aside0.mk hi;clear hi hb hk)|((with_reducible refine gd 40 rfl ?_);refine gC (some 40) rfl Try.func53 (spec_l01Power.calls (w:=_) (h:=A29.out)) ?_;rintro _ ⟨nd,rfl⟩;(try (rw [drewN_self w43];generalize hq_:World.drewN w43 _=w43;have n0_:Aside0 (Kd.R (Kd.int .i64) 2 w43 w.heap.size (fun _=>True) (.slice Ao40 y248.length co40) y248):=⟨by rw [← hq_];exact (rA HO250)⟩;have n1_:Aside0 (w43.heap[gb223]?=some (.cells #[.int .i64 0,.int .i64 0] 27 (0,0))):=⟨by rw [← hq_];exact (bkA BK223)⟩;have n2_:Aside0 (IsS74 w0 w43 g s0_0 t258 t259):=⟨by rw [← hq_];exact (iA HI0)⟩;have n3_:Aside0 (KeepBut w w43 g none):=⟨by rw [← hq_];exact kpA⟩;have n4_:Aside0 (Below w0.heap.size w0 w43):=⟨by rw [← hq_];exact blI⟩;clear HO250 BK223 HI0 HK HB hq_;have HO250:=n0_;have BK223:=n1_;have HI0:=n2_;have HK:=n3_;have HB:=n4_;clear n0_ n1_ n2_ n3_ n4_)))|((with_reducible refine gd 42 rfl ?_);refine gC (some 42) rfl Try.func50 (spec_l01Next.calls (w:=_) (g:=g) (w0:=w0) (hI:=iA HI0) (hB:=blI) (h:=A30.out)) ?_;rintro w44 ⟨hi,hb,hk⟩;replace BK223:=kbk hk BK223 NB223_0;replace HO250:=Aside0.mk (Kd.R_mono (Kd.R_keep (IsS74.apart (show IsS74 w0 _ g s0_0 t258 t259 from iA HI0) (rA HO250) (by decide)) hk (fun _ h=>h.2)) (fun _ h=>h.1));replace HK:=kkA HK hk;replace HB:=Aside0.mk hb;replace HI0:=Aside0.mk hi;clear hi hb hk)|((with_reducible refine gd 43 rfl ?_);refine gC (some 43) rfl Try.func53 (spec_l01Power.calls (w:=_) (h:=A31.out)) ?_;rintro _ ⟨nd,rfl⟩;(try (rw [drewN_self w44];generalize hq_:World.drewN w44 _=w44;have n0_:Aside0 (Kd.R (Kd.int .i64) 2 w44 w.heap.size (fun _=>True) (.slice Ao40 y248.length co40) y248):=⟨by rw [← hq_];exact (rA HO250)⟩;have n1_:Aside0 (w44.heap[gb223]?=some (.cells #[.int .i64 0,.int .i64 0] 27 (0,0))):=⟨by rw [← hq_];exact (bkA BK223)⟩;have n2_:Aside0 (IsS74 w0 w44 g s0_0 t262 t263):=⟨by rw [← hq_];exact (iA HI0)⟩;have n3_:Aside0 (KeepBut w w44 g none):=⟨by rw [← hq_];exact kpA⟩;have n4_:Aside0 (Below w0.heap.size w0 w44):=⟨by rw [← hq_];exact blI⟩;clear HO250 BK223 HI0 HK HB hq_;have HO250:=n0_;have BK223:=n1_;have HI0:=n2_;have HK:=n3_;have HB:=n4_;clear n0_ n1_ n2_ n3_ n4_)))|((with_reducible refine gd 45 rfl ?_);refine gC (some 45) rfl Try.func50 (spec_l01Next.calls (w:=_) (g:=g) (w0:=w0) (hI:=iA HI0) (hB:=blI) (h:=A32.out)) ?_;rintro w45 ⟨hi,hb,hk⟩;replace BK223:=kbk hk BK223 NB223_0;replace HO250:=Aside0.mk (Kd.R_mono (Kd.R_keep (IsS74.apart (show IsS74 w0 _ g s0_0 t262 t263 from iA HI0) (rA HO250) (by decide)) hk (fun _ h=>h.2)) (fun _ h=>h.1));replace HK:=kkA HK hk;replace HB:=Aside0.mk hb;replace HI0:=Aside0.mk hi;clear hi hb hk)|((with_reducible refine gate_dst (N:=47) rfl ?_);refine Kd.R_lit (Kd.int .i64) _ 2 ?hg (N:=47) ?hd (xs:=([1,1,wrap64 (1+t254),t260,t264,wrap64 (1+t265)]:List Int)) (inner:=[.int .i64 1,.int .i64 1,.int .i64 (wrap64 (1+t254)),.int .i64 t260,.int .i64 t264,.int .i64 (wrap64 (1+t265))]) (ok:=fun _=>True) (okp:=fun _=>True) ?hr ?hp (fun _ hk=>hk) trivial (Below.refl _ _) (Nat.le_refl _) (by simp) ?_;(case hd=>rfl);(case hg=>rfl);(case hr=>first|(go_simp;done)|(go_simp;rfl));(case hp=>exact (Reps.one (show Kd.M (Kd.int .i64) _ _ _ 1 [.int .i64 1] from rfl) (Reps.one (show Kd.M (Kd.int .i64) _ _ _ 1 [.int .i64 1] from rfl) (Reps.one (show Kd.M (Kd.int .i64) _ _ _ (wrap64 (1+t254)) [.int .i64 (wrap64 (1+t254))] from rfl) (Reps.one (show Kd.M (Kd.int .i64) _ _ _ t260 [.int .i64 t260] from rfl) (Reps.one (show Kd.M (Kd.int .i64) _ _ _ t264 [.int .i64 t264] from rfl) (Reps.one (show Kd.M (Kd.int .i64) _ _ _ (wrap64 (1+t265)) [.int .i64 (wrap64 (1+t265))] from rfl) (Reps.none _ _))))))));intro v269 w46 ho47 hb hg_ hnew_;clear hg_ hnew_;(first|rw [← Ny268.out] at ho47|(simp only [Int.reduceToNat] at ho47;rw [← Ny268.out] at ho47));have n0_:=Aside0.mk (Kd.R_elder' (rA HO250) (Kd.R_base ho47) hb);have n1_:=Aside0.mk (Kd.R_lower (Kd.R_new' ho47 (Kd.R_lt (rA HO250))) (keep_size (w:=w) (g:=g) (row:=none) kpA));have n2_:=kB BK223 hb;have n3_:=Aside0.mk (IsS74.below (iA HI0) hb);have n4_:=kbA HK hb;have n5_:=lI hb;clear HO250;clear BK223;clear HI0;clear HK;clear HB;have HO250:=n0_;have HO270:=n1_;have BK223:=n2_;have HI0:=n3_;have HK:=n4_;have HB:=n5_;clear n0_ n1_ n2_ n3_ n4_ n5_;clear hb ho47;obtain ⟨Ao48,co48,eo48⟩:=Kd.R_slice HO270.out;subst eo48)|((with_reducible refine gd 48 rfl ?_);refine gC (some 48) rfl Try.func25 (spec_l01Pick.calls (w:=_) (g:=g) (w0:=w0) (hI:=iA HI0) (hB:=blI) (hr1:=cR (Kd.R_reads' HO270.out).2.2) (hc1:=(Kd.R_reads' HO270.out).2.1) (hf1:=far_slice (IsS74.own_ne HI0.out HO270.out (by decide))) (h:=A33.out)) ?_;rintro w49 ⟨hi,hb,hk⟩;replace BK223:=kbk hk BK223 NB223_0;replace HO250:=Aside0.mk (Kd.R_mono (Kd.R_keep (IsS74.apart (show IsS74 w0 _ g s0_0 t266 t267 from iA HI0) (rA HO250) (by decide)) hk (fun _ h=>h.2)) (fun _ h=>h.1));replace HO270:=Aside0.mk (Kd.R_mono (Kd.R_keep (IsS74.apart (show IsS74 w0 _ g s0_0 t266 t267 from iA HI0) (rA HO270) (by decide)) hk (fun _ h=>h.2)) (fun _ h=>h.1));replace HK:=kkA HK hk;replace HB:=Aside0.mk hb;replace HI0:=Aside0.mk hi;clear hi hb hk)|((with_reducible refine gd 52 rfl ?_);refine gC (some 52) rfl Try.func54 (spec_l01EndOf.calls (w:=_) (h:=A34.out)) ?_;intro w50 hb;have n0_:=Aside0.mk (Kd.R_below (rA HO250) hb);have n1_:=Aside0.mk (Kd.R_below (rA HO270) hb);have n2_:=kB BK223 hb;have n3_:=Aside0.mk (IsS74.below (iA HI0) hb);have n4_:=kbA HK hb;have n5_:=lI hb;clear HO250;clear HO270;clear BK223;clear HI0;clear HK;clear HB;have HO250:=n0_;have HO270:=n1_;have BK223:=n2_;have HI0:=n3_;have HK:=n4_;have HB:=n5_;clear n0_ n1_ n2_ n3_ n4_ n5_;clear hb)|((with_reducible refine gate_dst (N:=5) rfl ?_);refine bxE (cs:=#[.int .i64 0,.int .i64 0]) (t:=27) ?_;intro gb277 hg w51 hbox hb;have n0_:=Aside0.mk (Kd.R_below (rA HO250) hb);have n1_:=Aside0.mk (Kd.R_below (rA HO270) hb);have n2_:=kB BK223 hb;have n3_:=Aside0.mk (IsS74.below (iA HI0) hb);have n4_:=kbA HK hb;have n5_:=lI hb;have n6_:=Aside0.mk hbox;have n7_:=kzA HK hg;have n8_:=Aside0.mk (Nat.le_trans HW0.out (kzA HK hg).out);have n9_:=nA hg BK223;have n10_:=nB hg BK223;have n11_:=inA hg (IsS74.lt (iA HI0));have n12_:=inB hg (IsS74.lt (iA HI0));clear HO250;clear HO270;clear BK223;clear HI0;clear HK;clear HB;have HO250:=n0_;have HO270:=n1_;have BK223:=n2_;have HI0:=n3_;have HK:=n4_;have HB:=n5_;have BK277:=n6_;have GW277:=n7_;have GE277:=n8_;have NB223_277:=n9_;have NB277_223:=n10_;have NB0_277:=n11_;have NB277_0:=n12_;clear n0_ n1_ n2_ n3_ n4_ n5_ n6_ n7_ n8_ n9_ n10_ n11_ n12_;clear hb hbox hg;have hnb52:=NB277_223.out;have hnc52:=NB223_277.out;have hnb53:=NB277_0.out;have hnc53:=NB0_277.out;obtain ⟨hcz54_0,hcz54_1,hfz54_0,hfz54_1⟩:=cz2 BK277;have hnb55:=NB223_0.out;have hnc55:=NB0_223.out;obtain ⟨hcz56_0,hcz56_1,hfz56_0,hfz56_1⟩:=cz2 BK223))
     refine bodyPost_ret (results_cell_row rfl _ _ gb223 27 #[.int .i64 t274,.int .i64 t275] (0,0) _ rfl (bpA BK223) Try.underlying27 rfl (by kernel_rfl)) rfl ?_
     exact ⟨eW,iA HI0,blI,kpA⟩
def spec_l01Near.f (s0_0:List Int) (s0_1 s0_2 a1:Int):Option (Int × Int × Int):=(spec_l01Next.f s0_0 s0_1 s0_2 14).bind fun bt304=>(if bt304.1=0 then ((spec_l01Pick.f s0_0 bt304.2.1 bt304.2.2 (([(-1),wrap64 (a1+1),1099511627776,(-4611686018427387904)]:List Int))).bind fun bt310=>(some (bt310.1,bt310.2.1,bt310.2.2))) else ((spec_l01Next.f s0_0 bt304.2.1 bt304.2.2 (wrap64 (a1+1))).bind fun bt313=>(some (bt313.1,bt313.2.1,bt313.2.2))))
set_option maxHeartbeats 8000000 in
set_option maxRecDepth 100000 in
theorem spec_l01Near.calls (g:Nat) (s0_0:List Int) (s0_1 s0_2 a1 r1 r2 r3:Int) (w0 w:World) (hI:IsS74 w0 w g s0_0 s0_1 s0_2) (hB:Below w0.heap.size w0 w) (h:spec_l01Near.f s0_0 s0_1 s0_2 a1=some (r1,r2,r3)) :
  Calls Try.prog 26 #[.pointer (some ⟨g,0,none⟩),.int .i64 a1] w fun e w'=>e=.returned (.int .i64 r1)∧IsS74 w0 w' g s0_0 r2 r3∧Below w0.heap.size w0 w'∧KeepBut w w' g none:=by
 have HI0:=Aside0.mk hI
 have HK:=Aside0.mk (KeepBut.refl w g none)
 have HL:=Aside0.mk hB.size
 clear hI
 have HW0:=Aside0.mk hB.size
 have HB:=Aside0.mk hB
 clear hB
 have H:=h
 unfold spec_l01Near.f at H
 clear h
 replace H:=bS H
 obtain ⟨⟨t304,t305,t306⟩,A3,H⟩:=H
 try dsimp only at H
 by_cases c4:t304=0
 ·
  rw [if_pos c4] at H
  have c4b0:(t304 == 0)=true:=beq_iff_eq.mpr c4
  have c4b1:(t304 != 0)=false:=bne_eq_false_iff_eq.mpr c4
  clear c4
  obtain ⟨y307,hy307⟩:∃ y_:List Int,y_=(([(-1),wrap64 (a1+1),1099511627776,(-4611686018427387904)]:List Int)):=⟨_,rfl⟩
  replace H:((spec_l01Pick.f s0_0 t305 t306 y307).bind fun bt310=>(some (bt310.1,bt310.2.1,bt310.2.2)))=some (r1,r2,r3):=rH hy307 H
  have Ny307:=Aside0.mk hy307
  clear hy307
  replace H:=bS H
  obtain ⟨⟨t310,t311,t312⟩,A5,H⟩:=H
  try dsimp only at H
  simp only [Option.some.injEq,Prod.mk.injEq] at H
  obtain ⟨rfl,rfl,rfl⟩:=H
  go_enter Try.func26,Try.ntmps26
  go_wp2_with (first|((with_reducible refine gd 6 rfl ?_);refine gC (some 6) rfl Try.func50 (spec_l01Next.calls (w:=_) (g:=g) (w0:=w0) (hI:=iA HI0) (hB:=blI) (h:=A3.out)) ?_;rintro w6 ⟨hi,hb,hk⟩;replace HK:=kkA HK hk;replace HB:=Aside0.mk hb;replace HI0:=Aside0.mk hi;clear hi hb hk)|((with_reducible refine gate_dst (N:=11) rfl ?_);refine Kd.R_lit (Kd.int .i64) _ 2 ?hg (N:=11) ?hd (xs:=([(-1),wrap64 (a1+1),1099511627776,(-4611686018427387904)]:List Int)) (inner:=[.int .i64 (-1),.int .i64 (wrap64 (a1+1)),.int .i64 1099511627776,.int .i64 (-4611686018427387904)]) (ok:=fun _=>True) (okp:=fun _=>True) ?hr ?hp (fun _ hk=>hk) trivial (Below.refl _ _) (Nat.le_refl _) (by simp) ?_;(case hd=>rfl);(case hg=>rfl);(case hr=>first|(go_simp;done)|(go_simp;rfl));(case hp=>exact (Reps.one (show Kd.M (Kd.int .i64) _ _ _ (-1) [.int .i64 (-1)] from rfl) (Reps.one (show Kd.M (Kd.int .i64) _ _ _ (wrap64 (a1+1)) [.int .i64 (wrap64 (a1+1))] from rfl) (Reps.one (show Kd.M (Kd.int .i64) _ _ _ 1099511627776 [.int .i64 1099511627776] from rfl) (Reps.one (show Kd.M (Kd.int .i64) _ _ _ (-4611686018427387904) [.int .i64 (-4611686018427387904)] from rfl) (Reps.none _ _))))));intro v308 w7 ho8 hb hg_ hnew_;clear hg_ hnew_;(first|rw [← Ny307.out] at ho8|(simp only [Int.reduceToNat] at ho8;rw [← Ny307.out] at ho8));have n0_:=Aside0.mk (Kd.R_lower ho8 (keep_size (w:=w) (g:=g) (row:=none) kpA));have n1_:=Aside0.mk (IsS74.below (iA HI0) hb);have n2_:=kbA HK hb;have n3_:=lI hb;clear HI0;clear HK;clear HB;have HO309:=n0_;have HI0:=n1_;have HK:=n2_;have HB:=n3_;clear n0_ n1_ n2_ n3_;clear hb ho8;obtain ⟨Ao9,co9,eo9⟩:=Kd.R_slice HO309.out;subst eo9)|((with_reducible refine gd 12 rfl ?_);refine gC (some 12) rfl Try.func25 (spec_l01Pick.calls (w:=_) (g:=g) (w0:=w0) (hI:=iA HI0) (hB:=blI) (hr1:=cR (Kd.R_reads' HO309.out).2.2) (hc1:=(Kd.R_reads' HO309.out).2.1) (hf1:=far_slice (IsS74.own_ne HI0.out HO309.out (by decide))) (h:=A5.out)) ?_;rintro w10 ⟨hi,hb,hk⟩;replace HO309:=Aside0.mk (Kd.R_mono (Kd.R_keep (IsS74.apart (show IsS74 w0 _ g s0_0 t305 t306 from iA HI0) (rA HO309) (by decide)) hk (fun _ h=>h.2)) (fun _ h=>h.1));replace HK:=kkA HK hk;replace HB:=Aside0.mk hb;replace HI0:=Aside0.mk hi;clear hi hb hk))
  go_ret
  exact ⟨eW,iA HI0,blI,kpA⟩
 ·
  rw [if_neg c4] at H
  have c4b0:(t304 == 0)=false:=beq_eq_false_iff_ne.mpr c4
  have c4b1:(t304 != 0)=true:=bne_iff_ne.mpr c4
  replace H:=bS H
  obtain ⟨⟨t313,t314,t315⟩,A11,H⟩:=H
  try dsimp only at H
  simp only [Option.some.injEq,Prod.mk.injEq] at H
  obtain ⟨rfl,rfl,rfl⟩:=H
  go_enter Try.func26,Try.ntmps26
  go_wp2_with (first|((with_reducible refine gd 6 rfl ?_);refine gC (some 6) rfl Try.func50 (spec_l01Next.calls (w:=_) (g:=g) (w0:=w0) (hI:=iA HI0) (hB:=blI) (h:=A3.out)) ?_;rintro w12 ⟨hi,hb,hk⟩;replace HK:=kkA HK hk;replace HB:=Aside0.mk hb;replace HI0:=Aside0.mk hi;clear hi hb hk)|((with_reducible refine gd 16 rfl ?_);refine gC (some 16) rfl Try.func50 (spec_l01Next.calls (w:=_) (g:=g) (w0:=w0) (hI:=iA HI0) (hB:=blI) (h:=A11.out)) ?_;rintro w13 ⟨hi,hb,hk⟩;replace HK:=kkA HK hk;replace HB:=Aside0.mk hb;replace HI0:=Aside0.mk hi;clear hi hb hk))
  go_ret
  exact ⟨eW,iA HI0,blI,kpA⟩
def impl_parent.f (k:Nat) (a0 a1_0 a1_1 a1_2:Int):Option (Int × Int × Int × Bool):=(impl_mark.f k a0 a1_0 a1_1 a1_2).bind fun t363=>((impl_ofMark.f k a0 (wrap64 (a1_0 - 1)) t363).bind fun bt364=>(some (bt364.1,bt364.2.1,bt364.2.2.1,bt364.2.2.2)))
theorem impl_parent.mono:∀ a0 a1 a2 a3 k,LeO (impl_parent.f k a0 a1 a2 a3) (impl_parent.f (k+1) a0 a1 a2 a3):=by
 intro a0 a1 a2 a3 k
 unfold impl_parent.f
 repeat' first
   | with_reducible first|exact impl_mark.mono ..|exact impl_ofMark.mono ..|exact LeO.refl _|exact LeO.none _|refine LeO.ite ?_ ?_|refine LeO.bind ?_ fun _=>?_
def impl_parent.T1:Bool × List (List Nat × List Nat):=(true,[([],[]),([],[]),([1],[1]),([2],[2]),([],[]),([],[]),([4,5],[4,5]),([0,3,6,6],[0,3,6]),([7],[7]),([7],[7]),([8,7,0,1,2,3,4,5,6,7,8,9],[8]),([9,10,0,1,2,3,4,5,6,7,8,9,10],[9])])
def impl_parent.B1:List Nat:=[0,0,2,6,0,0,48,127,255,255,1023,2047]
theorem impl_parent.tab1:rtab .any (opsOf Try.f60 1)=impl_parent.T1:=by kernel_rfl
theorem impl_parent.bits1:waitsOk impl_parent.T1.2 impl_parent.B1=true:=by kernel_rfl
set_option maxHeartbeats 8000000 in
set_option maxRecDepth 100000 in
theorem impl_parent.calls (k:Nat) (a0 a1_0 a1_1 a1_2 r1 r2 r3:Int) (r4:Bool) (w:World) (h:impl_parent.f k a0 a1_0 a1_1 a1_2=some (r1,r2,r3,r4)) :
  Calls Try.prog 60 #[.int .i64 a0,.agg #[.int .i64 a1_0,.int .i64 a1_1,.int .i64 a1_2]] w fun e w'=>e=.returned (.tuple #[.agg #[.int .i64 r1,.int .i64 r2,.int .i64 r3],.bool r4])∧Below w.heap.size w w':=by
 have hu25:=Try.underlying25
 have HB:=Aside0.mk (Below.refl w.heap.size w)
 have H:=h
 unfold impl_parent.f at H
 clear h
 replace H:=bS H
 obtain ⟨t363,A3,H⟩:=H
 try dsimp only at H
 replace H:=bS H
 obtain ⟨⟨t364,t365,t366,t367⟩,A4,H⟩:=H
 try dsimp only at H
 simp only [Option.some.injEq,Prod.mk.injEq] at H
 obtain ⟨rfl,rfl,rfl,rfl⟩:=H
 go_enter Try.func60,Try.ntmps60
 try go_wp2_with (first|((with_reducible refine gate_dst (N:=3) rfl ?_);refine bxE (cs:=#[.int .i64 a1_0,.int .i64 a1_1,.int .i64 a1_2]) (t:=25) ?_;intro gb361 hg w5 hbox hb;have n0_:=lB hb;have n1_:=Aside0.mk hbox;have n2_:=sA hg;have n3_:=sA hg;clear HB;have HB:=n0_;have BK361:=n1_;have GW361:=n2_;have GE361:=n3_;clear n0_ n1_ n2_ n3_;clear hb hbox hg)|((with_reducible refine gate_dst (N:=4) rfl ?_);refine bxE (cs:=#[.int .i64 0,.int .i64 0,.int .i64 0]) (t:=25) ?_;intro gb362 hg w6 hbox hb;have n0_:=kB BK361 hb;have n1_:=lB hb;have n2_:=Aside0.mk hbox;have n3_:=sA hg;have n4_:=sA hg;have n5_:=nA hg BK361;have n6_:=nB hg BK361;clear BK361;clear HB;have BK361:=n0_;have HB:=n1_;have BK362:=n2_;have GW362:=n3_;have GE362:=n4_;have NB361_362:=n5_;have NB362_361:=n6_;clear n0_ n1_ n2_ n3_ n4_ n5_ n6_;clear hb hbox hg))
 have n0_:=Aside0.mk (blk_drew BK361.out)
 have n1_:=Aside0.mk (blk_drew BK362.out)
 have n2_:=Aside0.mk (below_drew1 HB.out)
 clear BK361
 clear BK362
 clear HB
 have BK361:=n0_
 have BK362:=n1_
 have HB:=n2_
 clear n0_ n1_ n2_
 refine start_ (n:=12) (S:=fun w'=>w'.cell? ⟨gb361,0,none⟩=some (.int .i64 a1_0)∧w'.cell? ⟨gb361,1,none⟩=some (.int .i64 a1_1)∧w'.cell? ⟨gb361,2,none⟩=some (.int .i64 a1_2)) (ds:=[]) #[Z,Z,Z,Z,Z,Z,Z,Z,Z,Z,Z,Z] (by kernel_rfl) rfl rfl ⟨cA BK361 0,cA BK361 1,cA BK361 2⟩ (fun hHeld=>?_);refine with_tabW impl_parent.tab1 impl_parent.bits1 (fun HT_ HW_=>?_)
 generalize w6.drew=w7 at BK361 BK362 HB hHeld ⊢
 refine puA (i:=0) (N:=some 6) #[Y,Z,Z,Z,Z,Z,Z,Z,Z,Z,Z,Z] rfl rfl HT_ ?_
 refine puA (i:=1) (N:=some 7) #[Y,Y,Z,Z,Z,Z,Z,Z,Z,Z,Z,Z] rfl rfl HT_ ?_
 refine puA (i:=4) (N:=some 10) #[Y,Y,Z,Z,Y,Z,Z,Z,Z,Z,Z,Z] rfl rfl HT_ ?_
 refine taA (i:=2) (N:=some 8) #[Y,Y,Y,Z,Y,Z,Z,Z,Z,Z,Z,Z] rfl rfl HT_ HW_ hHeld ?_
 refine puA (i:=3) (N:=some 9) #[Y,Y,Y,Y,Y,Z,Z,Z,Z,Z,Z,Z] rfl rfl HT_ ?_
 refine taA (i:=5) (N:=some 11) #[Y,Y,Y,Y,Y,Y,Z,Z,Z,Z,Z,Z] rfl rfl HT_ HW_ hHeld ?_
 refine one_ (i:=6) (N:=some 12) #[Y,Y,Y,Y,Y,Y,Y,Z,Z,Z,Z,Z] rfl rfl (one_of HT_.out (by kernel_rfl)) (by decide) (fun K hK=>?_)
 refine goC Try.func43 (impl_mark.calls (w:=_) (h:=A3.out)) ?_
 intro w8 hb
 replace BK361:=kB BK361 hb
 replace BK362:=kB BK362 hb
 replace HB:=lB hb
 (try clear hb)
 (try clear hb2)
 (try clear hk)
 (try clear hi)
 refine hK.out _ _ ⟨cA BK361 0,cA BK361 1,cA BK361 2⟩ (fun hHeld=>?_)
 clear hK K
 refine nmA ?_
 refine one_ (i:=7) (N:=some 13) #[Y,Y,Y,Y,Y,Y,Y,Y,Z,Z,Z,Z] rfl rfl (one_of HT_.out (by kernel_rfl)) (by decide) (fun K hK=>?_)
 refine goC Try.func42 (impl_ofMark.calls (w:=_) (h:=A4.out)) ?_
 intro w9 hb
 replace BK361:=kB BK361 hb
 replace BK362:=kB BK362 hb
 replace HB:=lB hb
 (try clear hb)
 (try clear hb2)
 (try clear hk)
 (try clear hi)
 refine hK.out _ _ ⟨cA BK361 0,cA BK361 1,cA BK361 2⟩ (fun hHeld=>?_)
 clear hK K
 refine nmA ?_
 refine puA (i:=8) (N:=some 14) #[Y,Y,Y,Y,Y,Y,Y,Y,Y,Z,Z,Z] rfl rfl HT_ ?_
 refine puA (i:=9) (N:=some 15) #[Y,Y,Y,Y,Y,Y,Y,Y,Y,Y,Z,Z] rfl rfl HT_ ?_
 refine one_ (i:=10) (N:=none) #[Y,Y,Y,Y,Y,Y,Y,Y,Y,Y,Y,Z] rfl rfl (one_of HT_.out (by kernel_rfl)) (by decide) (fun K hK=>?_)
 have hs10:w9.cell? ⟨gb362,0,none⟩=some (.int .i64 0):=cA BK362 0
 have hfs10:=blk_frozen BK362.out 0
 have hns10_0:=NB361_362.out
 have hms10_0:=NB362_361.out
 have hs11:w9.cell? ⟨gb362,1,none⟩=some (.int .i64 0):=cA BK362 1
 have hfs11:=blk_frozen BK362.out 1
 have hns11_0:=NB361_362.out
 have hms11_0:=NB362_361.out
 have hs12:w9.cell? ⟨gb362,2,none⟩=some (.int .i64 0):=cA BK362 2
 have hfs12:=blk_frozen BK362.out 2
 have hns12_0:=NB361_362.out
 have hms12_0:=NB362_361.out
 refine skip_ (w1:=?_) (by rfl) rfl ?_ ?_
 rotate_left
 ·
  go_simp
  rfl
 refine hK.out _ _ ⟨cfA hHeld.1,cfA hHeld.2.1,cfA hHeld.2.2⟩ (fun hHeld=>?_)
 clear hK K
 refine puA (i:=11) (N:=some 5) #[Y,Y,Y,Y,Y,Y,Y,Y,Y,Y,Y,Y] rfl rfl HT_ ?_
 refine done_ (done_of HT_.out (by kernel_rfl)) ?_
 try go_wp2
 refine bodyPost_ret (results_ct rfl _ _ gb362 25 #[.int .i64 t364,.int .i64 t365,.int .i64 t366] (0,0) _ rfl (bpA BK362) Try.underlying25 rfl (by kernel_rfl)) rfl ?_
 exact finA blA
def impl_child.f (k:Nat) (a0 a1_0 a1_1 a1_2 a2:Int):Option (Int × Int × Int × Bool):=(impl_mark.f k a0 a1_0 a1_1 a1_2).bind fun t370=>((impl_power.f k a0 (wrap64 (a1_0+6))).bind fun t371=>((impl_ofMark.f k a0 (wrap64 (a1_0+1)) (wrap64 (t370+(wrap64 (a2*t371))))).bind fun bt372=>(some (bt372.1,bt372.2.1,bt372.2.2.1,bt372.2.2.2))))
theorem impl_child.mono:∀ a0 a1 a2 a3 a4 k,LeO (impl_child.f k a0 a1 a2 a3 a4) (impl_child.f (k+1) a0 a1 a2 a3 a4):=by
 intro a0 a1 a2 a3 a4 k
 unfold impl_child.f
 repeat' first
   | with_reducible first|exact impl_mark.mono ..|exact impl_ofMark.mono ..|exact impl_power.mono ..|exact LeO.refl _|exact LeO.none _|refine LeO.ite ?_ ?_|refine LeO.bind ?_ fun _=>?_
def impl_child.T1:Bool × List (List Nat × List Nat):=(true,[([],[]),([],[]),([1],[1]),([2],[2]),([],[]),([],[]),([4,5],[4,5]),([],[]),([],[]),([],[]),([9],[9]),([10],[10]),([8,11,6],[8,11]),([7,12],[7,12]),([6,13],[6,13]),([0,3,14,12],[0,3,14]),([15],[15]),([15],[15]),([16,15,0,1,2,3,4,5,6,7,8,9,10,11,12,13,14,15,16,17],[16]),([17,18,0,1,2,3,4,5,6,7,8,9,10,11,12,13,14,15,16,17,18],[17])])
def impl_child.B1:List Nat:=[0,0,2,6,0,0,48,0,0,0,512,1536,3952,8176,16368,32767,65535,65535,262143,524287]
theorem impl_child.tab1:rtab .any (opsOf Try.f61 1)=impl_child.T1:=by kernel_rfl
theorem impl_child.bits1:waitsOk impl_child.T1.2 impl_child.B1=true:=by kernel_rfl
set_option maxHeartbeats 8000000 in
set_option maxRecDepth 100000 in
theorem impl_child.calls (k:Nat) (a0 a1_0 a1_1 a1_2 a2 r1 r2 r3:Int) (r4:Bool) (w:World) (h:impl_child.f k a0 a1_0 a1_1 a1_2 a2=some (r1,r2,r3,r4)) :
  Calls Try.prog 61 #[.int .i64 a0,.agg #[.int .i64 a1_0,.int .i64 a1_1,.int .i64 a1_2],.int .i64 a2] w fun e w'=>e=.returned (.tuple #[.agg #[.int .i64 r1,.int .i64 r2,.int .i64 r3],.bool r4])∧Below w.heap.size w w':=by
 have hu25:=Try.underlying25
 have HB:=Aside0.mk (Below.refl w.heap.size w)
 have H:=h
 unfold impl_child.f at H
 clear h
 replace H:=bS H
 obtain ⟨t370,A4,H⟩:=H
 try dsimp only at H
 replace H:=bS H
 obtain ⟨t371,A5,H⟩:=H
 try dsimp only at H
 replace H:=bS H
 obtain ⟨⟨t372,t373,t374,t375⟩,A6,H⟩:=H
 try dsimp only at H
 simp only [Option.some.injEq,Prod.mk.injEq] at H
 obtain ⟨rfl,rfl,rfl,rfl⟩:=H
 go_enter Try.func61,Try.ntmps61
 try go_wp2_with (first|((with_reducible refine gate_dst (N:=4) rfl ?_);refine bxE (cs:=#[.int .i64 a1_0,.int .i64 a1_1,.int .i64 a1_2]) (t:=25) ?_;intro gb368 hg w7 hbox hb;have n0_:=lB hb;have n1_:=Aside0.mk hbox;have n2_:=sA hg;have n3_:=sA hg;clear HB;have HB:=n0_;have BK368:=n1_;have GW368:=n2_;have GE368:=n3_;clear n0_ n1_ n2_ n3_;clear hb hbox hg)|((with_reducible refine gate_dst (N:=6) rfl ?_);refine bxE (cs:=#[.int .i64 0,.int .i64 0,.int .i64 0]) (t:=25) ?_;intro gb369 hg w8 hbox hb;have n0_:=kB BK368 hb;have n1_:=lB hb;have n2_:=Aside0.mk hbox;have n3_:=sA hg;have n4_:=sA hg;have n5_:=nA hg BK368;have n6_:=nB hg BK368;clear BK368;clear HB;have BK368:=n0_;have HB:=n1_;have BK369:=n2_;have GW369:=n3_;have GE369:=n4_;have NB368_369:=n5_;have NB369_368:=n6_;clear n0_ n1_ n2_ n3_ n4_ n5_ n6_;clear hb hbox hg))
 have n0_:=Aside0.mk (blk_drew BK368.out)
 have n1_:=Aside0.mk (blk_drew BK369.out)
 have n2_:=Aside0.mk (below_drew1 HB.out)
 clear BK368
 clear BK369
 clear HB
 have BK368:=n0_
 have BK369:=n1_
 have HB:=n2_
 clear n0_ n1_ n2_
 refine start_ (n:=20) (S:=fun w'=>w'.cell? ⟨gb368,0,none⟩=some (.int .i64 a1_0)∧w'.cell? ⟨gb368,1,none⟩=some (.int .i64 a1_1)∧w'.cell? ⟨gb368,2,none⟩=some (.int .i64 a1_2)) (ds:=[]) #[Z,Z,Z,Z,Z,Z,Z,Z,Z,Z,Z,Z,Z,Z,Z,Z,Z,Z,Z,Z] (by kernel_rfl) rfl rfl ⟨cA BK368 0,cA BK368 1,cA BK368 2⟩ (fun hHeld=>?_);refine with_tabW impl_child.tab1 impl_child.bits1 (fun HT_ HW_=>?_)
 generalize w8.drew=w9 at BK368 BK369 HB hHeld ⊢
 refine puA (i:=0) (N:=some 8) #[Y,Z,Z,Z,Z,Z,Z,Z,Z,Z,Z,Z,Z,Z,Z,Z,Z,Z,Z,Z] rfl rfl HT_ ?_
 refine puA (i:=1) (N:=some 9) #[Y,Y,Z,Z,Z,Z,Z,Z,Z,Z,Z,Z,Z,Z,Z,Z,Z,Z,Z,Z] rfl rfl HT_ ?_
 refine puA (i:=4) (N:=some 12) #[Y,Y,Z,Z,Y,Z,Z,Z,Z,Z,Z,Z,Z,Z,Z,Z,Z,Z,Z,Z] rfl rfl HT_ ?_
 refine puA (i:=7) (N:=some 15) #[Y,Y,Z,Z,Y,Z,Z,Y,Z,Z,Z,Z,Z,Z,Z,Z,Z,Z,Z,Z] rfl rfl HT_ ?_
 refine puA (i:=8) (N:=some 16) #[Y,Y,Z,Z,Y,Z,Z,Y,Y,Z,Z,Z,Z,Z,Z,Z,Z,Z,Z,Z] rfl rfl HT_ ?_
 refine puA (i:=9) (N:=some 17) #[Y,Y,Z,Z,Y,Z,Z,Y,Y,Y,Z,Z,Z,Z,Z,Z,Z,Z,Z,Z] rfl rfl HT_ ?_
 refine taA (i:=2) (N:=some 10) #[Y,Y,Y,Z,Y,Z,Z,Y,Y,Y,Z,Z,Z,Z,Z,Z,Z,Z,Z,Z] rfl rfl HT_ HW_ hHeld ?_
 refine puA (i:=3) (N:=some 11) #[Y,Y,Y,Y,Y,Z,Z,Y,Y,Y,Z,Z,Z,Z,Z,Z,Z,Z,Z,Z] rfl rfl HT_ ?_
 refine taA (i:=5) (N:=some 13) #[Y,Y,Y,Y,Y,Y,Z,Y,Y,Y,Z,Z,Z,Z,Z,Z,Z,Z,Z,Z] rfl rfl HT_ HW_ hHeld ?_
 refine taA (i:=10) (N:=some 18) #[Y,Y,Y,Y,Y,Y,Z,Y,Y,Y,Y,Z,Z,Z,Z,Z,Z,Z,Z,Z] rfl rfl HT_ HW_ hHeld ?_
 refine puA (i:=11) (N:=some 19) #[Y,Y,Y,Y,Y,Y,Z,Y,Y,Y,Y,Y,Z,Z,Z,Z,Z,Z,Z,Z] rfl rfl HT_ ?_
 refine one_ (i:=6) (N:=some 14) #[Y,Y,Y,Y,Y,Y,Y,Y,Y,Y,Y,Y,Z,Z,Z,Z,Z,Z,Z,Z] rfl rfl (one_of HT_.out (by kernel_rfl)) (by decide) (fun K hK=>?_)
 refine goC Try.func43 (impl_mark.calls (w:=_) (h:=A4.out)) ?_
 intro w10 hb
 replace BK368:=kB BK368 hb
 replace BK369:=kB BK369 hb
 replace HB:=lB hb
 (try clear hb)
 (try clear hb2)
 (try clear hk)
 (try clear hi)
 refine hK.out _ _ ⟨cA BK368 0,cA BK368 1,cA BK368 2⟩ (fun hHeld=>?_)
 clear hK K
 refine nmA ?_
 refine one_ (i:=12) (N:=some 20) #[Y,Y,Y,Y,Y,Y,Y,Y,Y,Y,Y,Y,Y,Z,Z,Z,Z,Z,Z,Z] rfl rfl (one_of HT_.out (by kernel_rfl)) (by decide) (fun K hK=>?_)
 refine goC Try.func57 (impl_power.calls (w:=_) (h:=A5.out)) ?_
 rintro _ ⟨nd,rfl⟩
 refine hK.out _ _ ⟨cA BK368 0,cA BK368 1,cA BK368 2⟩ (fun hHeld=>?_)
 clear hK K
 refine nmA ?_
 refine puA (i:=13) (N:=some 21) #[Y,Y,Y,Y,Y,Y,Y,Y,Y,Y,Y,Y,Y,Y,Z,Z,Z,Z,Z,Z] rfl rfl HT_ ?_
 refine puA (i:=14) (N:=some 22) #[Y,Y,Y,Y,Y,Y,Y,Y,Y,Y,Y,Y,Y,Y,Y,Z,Z,Z,Z,Z] rfl rfl HT_ ?_
 refine one_ (i:=15) (N:=some 23) #[Y,Y,Y,Y,Y,Y,Y,Y,Y,Y,Y,Y,Y,Y,Y,Y,Z,Z,Z,Z] rfl rfl (one_of HT_.out (by kernel_rfl)) (by decide) (fun K hK=>?_)
 refine goC Try.func42 (impl_ofMark.calls (w:=_) (h:=A6.out)) ?_
 intro w11 hb
 replace BK368:=kB BK368 hb
 replace BK369:=kB BK369 hb
 replace HB:=lB hb
 (try clear hb)
 (try clear hb2)
 (try clear hk)
 (try clear hi)
 refine hK.out _ _ ⟨cA BK368 0,cA BK368 1,cA BK368 2⟩ (fun hHeld=>?_)
 clear hK K
 refine nmA ?_
 refine puA (i:=16) (N:=some 24) #[Y,Y,Y,Y,Y,Y,Y,Y,Y,Y,Y,Y,Y,Y,Y,Y,Y,Z,Z,Z] rfl rfl HT_ ?_
 refine puA (i:=17) (N:=some 25) #[Y,Y,Y,Y,Y,Y,Y,Y,Y,Y,Y,Y,Y,Y,Y,Y,Y,Y,Z,Z] rfl rfl HT_ ?_
 refine one_ (i:=18) (N:=none) #[Y,Y,Y,Y,Y,Y,Y,Y,Y,Y,Y,Y,Y,Y,Y,Y,Y,Y,Y,Z] rfl rfl (one_of HT_.out (by kernel_rfl)) (by decide) (fun K hK=>?_)
 have hs12:w11.cell? ⟨gb369,0,none⟩=some (.int .i64 0):=cA BK369 0
 have hfs12:=blk_frozen BK369.out 0
 have hns12_0:=NB368_369.out
 have hms12_0:=NB369_368.out
 have hs13:w11.cell? ⟨gb369,1,none⟩=some (.int .i64 0):=cA BK369 1
 have hfs13:=blk_frozen BK369.out 1
 have hns13_0:=NB368_369.out
 have hms13_0:=NB369_368.out
 have hs14:w11.cell? ⟨gb369,2,none⟩=some (.int .i64 0):=cA BK369 2
 have hfs14:=blk_frozen BK369.out 2
 have hns14_0:=NB368_369.out
 have hms14_0:=NB369_368.out
 refine skip_ (w1:=?_) (by rfl) rfl ?_ ?_
 rotate_left
 ·
  go_simp
  rfl
 refine hK.out _ _ ⟨cfA hHeld.1,cfA hHeld.2.1,cfA hHeld.2.2⟩ (fun hHeld=>?_)
 clear hK K
 refine puA (i:=19) (N:=some 7) #[Y,Y,Y,Y,Y,Y,Y,Y,Y,Y,Y,Y,Y,Y,Y,Y,Y,Y,Y,Y] rfl rfl HT_ ?_
 refine done_ (done_of HT_.out (by kernel_rfl)) ?_
 try go_wp2
 refine bodyPost_ret (results_ct rfl _ _ gb369 25 #[.int .i64 t372,.int .i64 t373,.int .i64 t374] (0,0) _ rfl (bpA BK369) Try.underlying25 rfl (by kernel_rfl)) rfl ?_
 exact finA blA
def impl_nearness.f (k:Nat) (a0 a1_0 a1_1 a1_2 a2 a3:Int):Option (Int):=(impl_power.f k a0 6).bind fun t387=>((impl_mark.f k a0 a1_0 a1_1 a1_2).bind fun t388=>(if (wrap64 ((wrap64 (a2*t387)) - (wrap64 (t388*a3))))=0 then (some 1000) else ((impl_valuation.f k a0 (wrap64 ((wrap64 (a2*t387)) - (wrap64 (t388*a3))))).bind fun t389=>((impl_valuation.f k a0 a3).bind fun t390=>(some (wrap64 ((wrap64 (t389 - t390)) - 6)))))))
theorem impl_nearness.mono:∀ a0 a1 a2 a3 a4 a5 k,LeO (impl_nearness.f k a0 a1 a2 a3 a4 a5) (impl_nearness.f (k+1) a0 a1 a2 a3 a4 a5):=by
 intro a0 a1 a2 a3 a4 a5 k
 unfold impl_nearness.f
 repeat' first
   | with_reducible first|exact impl_mark.mono ..|exact impl_power.mono ..|exact impl_valuation.mono ..|exact LeO.refl _|exact LeO.none _|refine LeO.ite ?_ ?_|refine LeO.bind ?_ fun _=>?_
def impl_nearness.T1:Bool × List (List Nat × List Nat):=(true,[([],[]),([],[]),([1],[1]),([0,2],[0,2]),([],[]),([],[]),([4,5,2],[4,5]),([],[]),([6,7],[6,7]),([3,8],[3,8]),([9,6,0,1,2,3,4,5,6,7,8,9],[9])])
def impl_nearness.B1:List Nat:=[0,0,2,7,0,0,54,0,246,511,1023]
theorem impl_nearness.tab1:rtab .any (opsOf Try.f84 1)=impl_nearness.T1:=by kernel_rfl
theorem impl_nearness.bits1:waitsOk impl_nearness.T1.2 impl_nearness.B1=true:=by kernel_rfl
set_option maxHeartbeats 8000000 in
set_option maxRecDepth 100000 in
theorem impl_nearness.calls (k:Nat) (a0 a1_0 a1_1 a1_2 a2 a3 r:Int) (w:World) (h:impl_nearness.f k a0 a1_0 a1_1 a1_2 a2 a3=some r) :
  Calls Try.prog 84 #[.int .i64 a0,.agg #[.int .i64 a1_0,.int .i64 a1_1,.int .i64 a1_2],.int .i64 a2,.int .i64 a3] w fun e w'=>e=.returned (.int .i64 r)∧Below w.heap.size w w':=by
 have hu25:=Try.underlying25
 have HB:=Aside0.mk (Below.refl w.heap.size w)
 have H:=h
 unfold impl_nearness.f at H
 clear h
 replace H:=bS H
 obtain ⟨t387,A5,H⟩:=H
 try dsimp only at H
 replace H:=bS H
 obtain ⟨t388,A6,H⟩:=H
 try dsimp only at H
 by_cases c7:(wrap64 ((wrap64 (a2*t387)) - (wrap64 (t388*a3))))=0
 focus
  rw [if_pos c7] at H
  have c7b0:((wrap64 ((wrap64 (a2*t387)) - (wrap64 (t388*a3)))) == 0)=true:=beq_iff_eq.mpr c7
  have c7b1:((wrap64 ((wrap64 (a2*t387)) - (wrap64 (t388*a3)))) != 0)=false:=bne_eq_false_iff_eq.mpr c7
  clear c7
  obtain rfl:=Option.some.inj H
 rotate_left
 focus
  rw [if_neg c7] at H
  have c7b0:((wrap64 ((wrap64 (a2*t387)) - (wrap64 (t388*a3)))) == 0)=false:=beq_eq_false_iff_ne.mpr c7
  have c7b1:((wrap64 ((wrap64 (a2*t387)) - (wrap64 (t388*a3)))) != 0)=true:=bne_iff_ne.mpr c7
  replace H:=bS H
  obtain ⟨t389,A11,H⟩:=H
  try dsimp only at H
  replace H:=bS H
  obtain ⟨t390,A12,H⟩:=H
  try dsimp only at H
  obtain rfl:=Option.some.inj H
 rotate_left
 all_goals
  go_enter Try.func84,Try.ntmps84
  try go_wp2_with (first|((with_reducible refine gate_dst (N:=5) rfl ?_);refine bxE (cs:=#[.int .i64 a1_0,.int .i64 a1_1,.int .i64 a1_2]) (t:=25) ?_;intro gb386 hg w8 hbox hb;have n0_:=lB hb;have n1_:=Aside0.mk hbox;have n2_:=sA hg;have n3_:=sA hg;clear HB;have HB:=n0_;have BK386:=n1_;have GW386:=n2_;have GE386:=n3_;clear n0_ n1_ n2_ n3_;clear hb hbox hg))
  have n0_:=Aside0.mk (blk_drew BK386.out)
  have n1_:=Aside0.mk (below_drew1 HB.out)
  clear BK386
  clear HB
  have BK386:=n0_
  have HB:=n1_
  clear n0_ n1_
  refine start_ (n:=11) (S:=fun w'=>w'.cell? ⟨gb386,0,none⟩=some (.int .i64 a1_0)∧w'.cell? ⟨gb386,1,none⟩=some (.int .i64 a1_1)∧w'.cell? ⟨gb386,2,none⟩=some (.int .i64 a1_2)) (ds:=[]) #[Z,Z,Z,Z,Z,Z,Z,Z,Z,Z,Z] (by kernel_rfl) rfl rfl ⟨cA BK386 0,cA BK386 1,cA BK386 2⟩ (fun hHeld=>?_);refine with_tabW impl_nearness.tab1 impl_nearness.bits1 (fun HT_ HW_=>?_)
  generalize w8.drew=w9 at BK386 HB hHeld ⊢
  refine puA (i:=0) (N:=some 10) #[Y,Z,Z,Z,Z,Z,Z,Z,Z,Z,Z] rfl rfl HT_ ?_
  refine puA (i:=1) (N:=some 11) #[Y,Y,Z,Z,Z,Z,Z,Z,Z,Z,Z] rfl rfl HT_ ?_
  refine puA (i:=4) (N:=some 14) #[Y,Y,Z,Z,Y,Z,Z,Z,Z,Z,Z] rfl rfl HT_ ?_
  refine puA (i:=7) (N:=some 17) #[Y,Y,Z,Z,Y,Z,Z,Y,Z,Z,Z] rfl rfl HT_ ?_
  refine taA (i:=5) (N:=some 15) #[Y,Y,Z,Z,Y,Y,Z,Y,Z,Z,Z] rfl rfl HT_ HW_ hHeld ?_
  refine one_ (i:=2) (N:=some 12) #[Y,Y,Y,Z,Y,Y,Z,Y,Z,Z,Z] rfl rfl (one_of HT_.out (by kernel_rfl)) (by decide) (fun K hK=>?_)
  refine goC Try.func57 (impl_power.calls (w:=_) (h:=A5.out)) ?_
  rintro _ ⟨nd,rfl⟩
  refine hK.out _ _ ⟨cA BK386 0,cA BK386 1,cA BK386 2⟩ (fun hHeld=>?_)
  clear hK K
  refine nmA ?_
  refine puA (i:=3) (N:=some 13) #[Y,Y,Y,Y,Y,Y,Z,Y,Z,Z,Z] rfl rfl HT_ ?_
  refine one_ (i:=6) (N:=some 16) #[Y,Y,Y,Y,Y,Y,Y,Y,Z,Z,Z] rfl rfl (one_of HT_.out (by kernel_rfl)) (by decide) (fun K hK=>?_)
  refine goC Try.func43 (impl_mark.calls (w:=_) (h:=A6.out)) ?_
  intro w10 hb
  replace BK386:=kB BK386 hb
  replace HB:=lB hb
  (try clear hb)
  (try clear hb2)
  (try clear hk)
  (try clear hi)
  refine hK.out _ _ ⟨cA BK386 0,cA BK386 1,cA BK386 2⟩ (fun hHeld=>?_)
  clear hK K
  refine nmA ?_
  refine puA (i:=8) (N:=some 18) #[Y,Y,Y,Y,Y,Y,Y,Y,Y,Z,Z] rfl rfl HT_ ?_
  refine puA (i:=9) (N:=some 19) #[Y,Y,Y,Y,Y,Y,Y,Y,Y,Y,Z] rfl rfl HT_ ?_
  refine puA (i:=10) (N:=some 9) #[Y,Y,Y,Y,Y,Y,Y,Y,Y,Y,Y] rfl rfl HT_ ?_
  refine done_ (done_of HT_.out (by kernel_rfl)) ?_
  try go_wp2_with (first|((with_reducible refine gd 24 rfl ?_);refine gC (some 24) rfl Try.func63 (impl_valuation.calls (w:=_) (h:=A11.out)) ?_;rintro _ ⟨nd,rfl⟩)|((with_reducible refine gd 27 rfl ?_);refine gC (some 27) rfl Try.func63 (impl_valuation.calls (w:=_) (h:=A12.out)) ?_;rintro _ ⟨nd,rfl⟩))
 ·
  go_ret
  exact finA blA
 ·
  go_ret
  exact finA blA
def impl_times.f (k:Nat) (a0 a1 a2:Int):Option (Int):=(impl_mod.f a0 a2).bind fun t395=>((impl_mod.f a1 a2).bind fun t396=>((bits_Mul64.f (IntKind.u64.wrap (t395)) (IntKind.u64.wrap (t396))).bind fun bt397=>(if (IntKind.u64.wrap (a2))=0 then (none) else ((bits_Div64.f k (Int.tmod bt397.1 (IntKind.u64.wrap (a2))) bt397.2 (IntKind.u64.wrap (a2))).bind fun bt399=>(some (wrap64 (bt399.2)))))))
theorem impl_times.mono:∀ a0 a1 a2 k,LeO (impl_times.f k a0 a1 a2) (impl_times.f (k+1) a0 a1 a2):=by
 intro a0 a1 a2 k
 unfold impl_times.f
 repeat' first
   | with_reducible first|exact bits_Div64.mono ..|exact LeO.refl _|exact LeO.none _|refine LeO.ite ?_ ?_|refine LeO.bind ?_ fun _=>?_
set_option maxHeartbeats 8000000 in
set_option maxRecDepth 100000 in
theorem impl_times.calls (k:Nat) (a0 a1 a2 r:Int) (w:World) (h:impl_times.f k a0 a1 a2=some r) :
  Calls Try.prog 64 #[.int .i64 a0,.int .i64 a1,.int .i64 a2] w fun e w'=>e=.returned (.int .i64 r)∧Drawn0 w w':=by
 have H:=h
 unfold impl_times.f at H
 clear h
 replace H:=bS H
 obtain ⟨t395,A4,H⟩:=H
 try dsimp only at H
 replace H:=bS H
 obtain ⟨t396,A5,H⟩:=H
 try dsimp only at H
 replace H:=bS H
 obtain ⟨⟨t397,t398⟩,A6,H⟩:=H
 try dsimp only at H
 by_cases c7:(IntKind.u64.wrap (a2))=0
 ·
  rw [if_pos c7] at H
  exact absurd H (by simp)
 rw [if_neg c7] at H
 have c7b0:((IntKind.u64.wrap (a2)) == 0)=false:=beq_eq_false_iff_ne.mpr c7
 have c7b1:((IntKind.u64.wrap (a2)) != 0)=true:=bne_iff_ne.mpr c7
 replace H:=bS H
 obtain ⟨⟨t399,t400⟩,A8,H⟩:=H
 try dsimp only at H
 obtain rfl:=Option.some.inj H
 go_enter Try.func64,Try.ntmps64
 go_wp2_with (first|((with_reducible refine gd 14 rfl ?_);refine gC (some 14) rfl Try.func77 (impl_mod.calls (w:=_) (h:=A4.out)) ?_;rintro _ ⟨nd,rfl⟩)|((with_reducible refine gd 18 rfl ?_);refine gC (some 18) rfl Try.func77 (impl_mod.calls (w:=_) (h:=A5.out)) ?_;rintro _ ⟨nd,rfl⟩)|((with_reducible refine gd 20 rfl ?_);refine gC (some 20) rfl Try.func85 (bits_Mul64.calls (w:=_) (h:=A6.out)) ?_;rintro _ ⟨nd,rfl⟩)|((with_reducible refine gd 31 rfl ?_);refine gC (some 31) rfl Try.func86 (bits_Div64.calls (w:=_) (h:=A8.out)) ?_;rintro _ ⟨nd,rfl⟩))
 go_ret
 exact ⟨by first|rfl|(simp;done)|(simp [*];done),by repeat (first|exact Drawn0.refl _|apply Drawn0.step)⟩
end Go.Proofs.Ytabcckoeilegnaa.PAll
