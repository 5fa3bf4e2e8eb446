-- turned out of the kit's print
import Derived.Test.YtlpmefmaplhfdaaQx
import Derived.Test.YtlpmefmaplhfdaaQbitsLeadingZeros64
import Derived.Test.YtlpmefmaplhfdaaQimplofMark
import Derived.Test.YtlpmefmaplhfdaaQspecl01End
namespace Go.Proofs.Ytlpmefmaplhfdaa.PAll
open Go.RowKit Go.Proofs.YtlpmefmaplhfdaaW.PrintWords Go.Proofs.YtlpmefmaplhfdaaW.PrintLast Go.Proofs.YtlpmefmaplhfdaaW.PrintMore
attribute [local go_sem] Go.Proofs.Ytlpmefmaplhfdaa.Aux.setCell_drewN Go.Proofs.Ytlpmefmaplhfdaa.Aux.isSome_setCell max2_int min2_int max_two min_two max_three min_three max_four min_four
set_option linter.unusedVariables false
set_option linter.unusedSimpArgs false
def spec_l01DrawEnd.j0:Nat→Int→Bool→List Int→Int→Int→Option (Int × Int × Int × Int)
 | 0,_,_,_,_,_=>none
 | k+1,x8,x9,x1000,x1001,x1002=>if x9=true then (some (1,0,x1001,x1002)) else (if x8=2 then ((spec_l01Pick.f x1000 x1001 x1002 (([2,0,1000001]:List Int))).bind fun bt439=>((spec_l01Pick.f x1000 bt439.2.1 bt439.2.2 (([0,4,(-1)]:List Int))).bind fun bt445=>(some (bt439.1,bt445.1,bt445.2.1,bt445.2.2)))) else ((spec_l01Next.f x1000 x1001 x1002 20).bind fun bt448=>((spec_l01Next.f x1000 bt448.2.1 bt448.2.2 200).bind fun bt451=>((spec_l01Next.f x1000 bt451.2.1 bt451.2.2 2000001).bind fun bt454=>((spec_l01Pick.f x1000 bt454.2.1 bt454.2.2 (([wrap64 (bt448.1 - 10),wrap64 (bt451.1 - 100),wrap64 (bt454.1 - 1000000)]:List Int))).bind fun bt460=>((spec_l01Next.f x1000 bt460.2.1 bt460.2.2 20).bind fun bt463=>((spec_l01Next.f x1000 bt463.2.1 bt463.2.2 8).bind fun bt466=>((spec_l01Power.f k 2 bt466.1).bind fun t469=>((spec_l01Next.f x1000 bt466.2.1 bt466.2.2 6).bind fun bt470=>((spec_l01Power.f k 3 bt470.1).bind fun t473=>((spec_l01Next.f x1000 bt470.2.1 bt470.2.2 1000000).bind fun bt474=>((spec_l01Pick.f x1000 bt474.2.1 bt474.2.2 (([1,1,wrap64 (1+bt463.1),t469,t473,wrap64 (1+bt474.1)]:List Int))).bind fun bt480=>((spec_l01EndOf.f k bt460.1 bt480.1).bind fun bt483=>(some (bt483.1,bt483.2.1,bt480.2.1,bt480.2.2)))))))))))))))
def spec_l01DrawEnd.f (k:Nat) (s0_0:List Int) (s0_1 s0_2:Int):Option (Int × Int × Int × Int):=(spec_l01Next.f s0_0 s0_1 s0_2 30).bind fun bt433=>(if bt433.1=0 then (spec_l01DrawEnd.j0 k bt433.1 (bt433.1 == 0) s0_0 bt433.2.1 bt433.2.2) else (spec_l01DrawEnd.j0 k bt433.1 (bt433.1 == 1) s0_0 bt433.2.1 bt433.2.2))
theorem spec_l01DrawEnd.mono_l:∀ k,(∀ y0 y1 y2 y3 y4,LeO (spec_l01DrawEnd.j0 k y0 y1 y2 y3 y4) (spec_l01DrawEnd.j0 (k+1) y0 y1 y2 y3 y4))
 | 0=>fun _ _ _ _ _ r h=>by simp [spec_l01DrawEnd.j0] at h
 | k+1=>by
  have ih0:=spec_l01DrawEnd.mono_l k
  ·
   intro y0 y1 y2 y3 y4
   unfold spec_l01DrawEnd.j0
   repeat' first
   | with_reducible first|exact ih0 ..|exact spec_l01EndOf.mono ..|exact spec_l01Power.mono ..|exact LeO.refl _|exact LeO.none _|refine LeO.ite ?_ ?_|refine LeO.bind ?_ fun _=>?_
theorem spec_l01DrawEnd.mono:∀ a0 a1 a2 k,LeO (spec_l01DrawEnd.f k a0 a1 a2) (spec_l01DrawEnd.f (k+1) a0 a1 a2):=by
 intro a0 a1 a2 k
 have ih0:=spec_l01DrawEnd.mono_l k
 unfold spec_l01DrawEnd.f
 repeat' first
   | with_reducible first|exact ih0 ..|exact spec_l01EndOf.mono ..|exact spec_l01Power.mono ..|exact LeO.refl _|exact LeO.none _|refine LeO.ite ?_ ?_|refine LeO.bind ?_ fun _=>?_
set_option maxHeartbeats 8000000 in
set_option maxRecDepth 100000 in
theorem spec_l01DrawEnd.calls (k g:Nat) (s0_0:List Int) (s0_1 s0_2 r1 r2 r3 r4:Int) (w0 w:World) (hI:IsS116 w0 w g s0_0 s0_1 s0_2) (hB:Below w0.heap.size w0 w) (h:spec_l01DrawEnd.f k s0_0 s0_1 s0_2=some (r1,r2,r3,r4)) :
  Calls Try.prog 49 #[.pointer (some ⟨g,0,none⟩)] w fun e w'=>e=.returned (.agg #[.int .i64 r1,.int .i64 r2])∧IsS116 w0 w' g s0_0 r3 r4∧Below w0.heap.size w0 w'∧KeepBut w w' g none:=by
 have hu34:=Try.underlying34
 have HI0:=Aside0.mk hI
 have HK:=Aside0.mk (KeepBut.refl w g none)
 have HL:=Aside0.mk hB.size
 clear hI
 have HW0:=Aside0.mk hB.size
 have HB:=Aside0.mk hB
 clear hB
 have H:=h
 unfold spec_l01DrawEnd.f at H
 clear h
 replace H:=bS H
 obtain ⟨⟨t433,t434,t435⟩,A2,H⟩:=H
 try dsimp only at H
 have HC3:=Aside0.mk H
 clear H
 go_enter Try.func49,Try.ntmps49
 go_upto_if 9 with (first|((with_reducible refine gate_dst (N:=2) rfl ?_);refine bxE (cs:=#[.int .i64 0,.int .i64 0]) (t:=34) ?_;intro gb432 hg w4 hbox hb;have n0_:=Aside0.mk (IsS116.below (iA HI0) hb);have n1_:=kbA HK hb;have n2_:=lI hb;have n3_:=Aside0.mk hbox;have n4_:=kzA HK hg;have n5_:=Aside0.mk (Nat.le_trans HW0.out (kzA HK hg).out);have n6_:=inA hg (IsS116.lt (iA HI0));have n7_:=inB hg (IsS116.lt (iA HI0));clear HI0;clear HK;clear HB;have HI0:=n0_;have HK:=n1_;have HB:=n2_;have BK432:=n3_;have GW432:=n4_;have GE432:=n5_;have NB0_432:=n6_;have NB432_0:=n7_;clear n0_ n1_ n2_ n3_ n4_ n5_ n6_ n7_;clear hb hbox hg)|((with_reducible refine gd 8 rfl ?_);refine gC (some 8) rfl Try.func82 (spec_l01Next.calls (w:=_) (g:=g) (w0:=w0) (hI:=iA HI0) (hB:=blI) (h:=A2.out)) ?_;rintro w5 ⟨hi,hb,hk⟩;replace BK432:=kbk hk BK432 NB432_0;replace HK:=kkA HK hk;replace HB:=Aside0.mk hb;replace HI0:=Aside0.mk hi;clear hi hb hk))
 (try simp only [Act.put,List.setIfInBounds_toArray,List.set_cons_zero,List.set_cons_succ])
 go_cut [9] (fun v9 wc=>∃ (kq:Nat) (x9_2:Bool),v9=.bool x9_2∧Aside0 (spec_l01DrawEnd.j0 kq t433 x9_2 s0_0 t434 t435=some (r1,r2,r3,r4))∧Aside0 (kq≤k)∧Aside0 (wc.heap[gb432]?=some (.cells #[.int .i64 0,.int .i64 0] 34 (0,0)))∧Aside0 (IsS116 w0 wc g s0_0 t434 t435)∧Aside0 (KeepBut w wc g none)∧Aside0 (Below w0.heap.size w0 wc))
 case first=>
  have H:=HC3.out
  clear HC3
  by_cases c6:t433=0
  ·
   rw [if_pos c6] at H
   have c6b0:(t433 == 0)=true:=beq_iff_eq.mpr c6
   have c6b1:(t433 != 0)=false:=bne_eq_false_iff_eq.mpr c6
   clear c6
   (first|rw [c6b0]|(simp only [i64_w,i32_w];rw [c6b0])|skip)
   have H':=Aside0.mk H
   clear H
   go_wp2
   go_meet
   case rel=>exact ⟨_,((t433 == 0)),hB,H',⟨by first|omega|exact Nat.le_refl _⟩,⟨bkA BK432⟩,⟨iA HI0⟩,⟨kpA⟩,⟨blI⟩⟩
  ·
   rw [if_neg c6] at H
   have c6b0:(t433 == 0)=false:=beq_eq_false_iff_ne.mpr c6
   have c6b1:(t433 != 0)=true:=bne_iff_ne.mpr c6
   (first|rw [c6b0]|(simp only [i64_w,i32_w];rw [c6b0])|skip)
   have H':=Aside0.mk H
   clear H
   go_wp2
   go_meet
   case rel=>exact ⟨_,((t433 == 1)),hB,H',⟨by first|omega|exact Nat.le_refl _⟩,⟨bkA BK432⟩,⟨iA HI0⟩,⟨kpA⟩,⟨blI⟩⟩
 case rest=>
  clear HC3
  try clear c6
  try clear c6b0
  try clear c6b1
  obtain ⟨kq,x9_2,rfl,HA,HJ2,BK432,HI0,HK,HB⟩:=hcut
  cases kq with
  | zero=>exact absurd HA.out (by simp [spec_l01DrawEnd.j0])
  | succ kj2=>
   have H:=HA.out
   clear HA
   simp only [spec_l01DrawEnd.j0] at H
   by_cases c7:x9_2=true
   ·
    subst c7
    rw [if_pos rfl] at H
    try dsimp only at H
    simp only [Option.some.injEq,Prod.mk.injEq] at H
    obtain ⟨rfl,rfl,rfl,rfl⟩:=H
    have hnb8:=NB432_0.out
    have hnc8:=NB0_432.out
    obtain ⟨hcz9_0,hcz9_1,hfz9_0,hfz9_1⟩:=cz2 BK432
    go_wp2
    refine bodyPost_ret (results_cell_row rfl _ _ gb432 34 #[.int .i64 1,.int .i64 0] (0,0) _ rfl (bpA BK432) Try.underlying34 rfl (by kernel_rfl)) rfl ?_
    exact ⟨eW,iA HI0,blI,kpA⟩
   ·
    replace c7:=Bool.eq_false_iff.mpr c7
    subst c7
    rw [if_neg (show ¬ (false=true) by decide)] at H
    try dsimp only at H
    by_cases c10:t433=2
    ·
     rw [if_pos c10] at H
     have c10b0:(t433 == 2)=true:=beq_iff_eq.mpr c10
     have c10b1:(t433 != 2)=false:=bne_eq_false_iff_eq.mpr c10
     clear c10
     obtain ⟨y436,hy436⟩:∃ y_:List Int,y_=(([2,0,1000001]:List Int)):=⟨_,rfl⟩
     replace H:((spec_l01Pick.f s0_0 t434 t435 y436).bind fun bt439=>((spec_l01Pick.f s0_0 bt439.2.1 bt439.2.2 (([0,4,(-1)]:List Int))).bind fun bt445=>(some (bt439.1,bt445.1,bt445.2.1,bt445.2.2))))=some (r1,r2,r3,r4):=rH hy436 H
     have Ny436:=Aside0.mk hy436
     clear hy436
     replace H:=bS H
     obtain ⟨⟨t439,t440,t441⟩,A11,H⟩:=H
     try dsimp only at H
     obtain ⟨y442,hy442⟩:∃ y_:List Int,y_=(([0,4,(-1)]:List Int)):=⟨_,rfl⟩
     replace H:((spec_l01Pick.f s0_0 t440 t441 y442).bind fun bt445=>(some (t439,bt445.1,bt445.2.1,bt445.2.2)))=some (r1,r2,r3,r4):=rH hy442 H
     have Ny442:=Aside0.mk hy442
     clear hy442
     replace H:=bS H
     obtain ⟨⟨t445,t446,t447⟩,A12,H⟩:=H
     try dsimp only at H
     simp only [Option.some.injEq,Prod.mk.injEq] at H
     obtain ⟨rfl,rfl,rfl,rfl⟩:=H
     go_wp2_with (first|((with_reducible refine gate_dst (N:=16) rfl ?_);refine Kd.R_lit (Kd.int .i64) _ 2 ?hg (N:=16) ?hd (xs:=([2,0,1000001]:List Int)) (inner:=[.int .i64 2,.int .i64 0,.int .i64 1000001]) (ok:=fun _=>True) (okp:=fun _=>True) ?hr ?hp (fun _ hk=>hk) trivial (Below.refl _ _) (Nat.le_refl _) (by simp) ?_;(case hd=>rfl);(case hg=>rfl);(case hr=>first|(go_simp;done)|(go_simp;rfl));(case hp=>exact (Reps.one (show Kd.M (Kd.int .i64) _ _ _ 2 [.int .i64 2] from rfl) (Reps.one (show Kd.M (Kd.int .i64) _ _ _ 0 [.int .i64 0] from rfl) (Reps.one (show Kd.M (Kd.int .i64) _ _ _ 1000001 [.int .i64 1000001] from rfl) (Reps.none _ _)))));intro v437 w13 ho14 hb hg_ hnew_;clear hg_ hnew_;(first|rw [← Ny436.out] at ho14|(simp only [Int.reduceToNat] at ho14;rw [← Ny436.out] at ho14));have n0_:=Aside0.mk (Kd.R_lower ho14 (keep_size (w:=w) (g:=g) (row:=none) kpA));have n1_:=kB BK432 hb;have n2_:=Aside0.mk (IsS116.below (iA HI0) hb);have n3_:=kbA HK hb;have n4_:=lI hb;clear BK432;clear HI0;clear HK;clear HB;have HO438:=n0_;have BK432:=n1_;have HI0:=n2_;have HK:=n3_;have HB:=n4_;clear n0_ n1_ n2_ n3_ n4_;clear hb ho14;obtain ⟨Ao15,co15,eo15⟩:=Kd.R_slice HO438.out;subst eo15)|((with_reducible refine gd 17 rfl ?_);refine gC (some 17) rfl Try.func81 (spec_l01Pick.calls (w:=_) (g:=g) (w0:=w0) (hI:=iA HI0) (hB:=blI) (hr1:=cR (Kd.R_reads' HO438.out).2.2) (hc1:=(Kd.R_reads' HO438.out).2.1) (hf1:=far_slice (IsS116.own_ne HI0.out HO438.out (by decide))) (h:=A11.out)) ?_;rintro w16 ⟨hi,hb,hk⟩;replace BK432:=kbk hk BK432 NB432_0;replace HO438:=Aside0.mk (Kd.R_mono (Kd.R_keep (IsS116.apart (show IsS116 w0 _ g s0_0 t434 t435 from iA HI0) (rA HO438) (by decide)) hk (fun _ h=>h.2)) (fun _ h=>h.1));replace HK:=kkA HK hk;replace HB:=Aside0.mk hb;replace HI0:=Aside0.mk hi;clear hi hb hk)|((with_reducible refine gate_dst (N:=19) rfl ?_);refine Kd.R_lit (Kd.int .i64) _ 2 ?hg (N:=19) ?hd (xs:=([0,4,(-1)]:List Int)) (inner:=[.int .i64 0,.int .i64 4,.int .i64 (-1)]) (ok:=fun _=>True) (okp:=fun _=>True) ?hr ?hp (fun _ hk=>hk) trivial (Below.refl _ _) (Nat.le_refl _) (by simp) ?_;(case hd=>rfl);(case hg=>rfl);(case hr=>first|(go_simp;done)|(go_simp;rfl));(case hp=>exact (Reps.one (show Kd.M (Kd.int .i64) _ _ _ 0 [.int .i64 0] from rfl) (Reps.one (show Kd.M (Kd.int .i64) _ _ _ 4 [.int .i64 4] from rfl) (Reps.one (show Kd.M (Kd.int .i64) _ _ _ (-1) [.int .i64 (-1)] from rfl) (Reps.none _ _)))));intro v443 w17 ho18 hb hg_ hnew_;clear hg_ hnew_;(first|rw [← Ny442.out] at ho18|(simp only [Int.reduceToNat] at ho18;rw [← Ny442.out] at ho18));have n0_:=Aside0.mk (Kd.R_elder' (rA HO438) (Kd.R_base ho18) hb);have n1_:=Aside0.mk (Kd.R_lower (Kd.R_new' ho18 (Kd.R_lt (rA HO438))) (keep_size (w:=w) (g:=g) (row:=none) kpA));have n2_:=kB BK432 hb;have n3_:=Aside0.mk (IsS116.below (iA HI0) hb);have n4_:=kbA HK hb;have n5_:=lI hb;clear HO438;clear BK432;clear HI0;clear HK;clear HB;have HO438:=n0_;have HO444:=n1_;have BK432:=n2_;have HI0:=n3_;have HK:=n4_;have HB:=n5_;clear n0_ n1_ n2_ n3_ n4_ n5_;clear hb ho18;obtain ⟨Ao19,co19,eo19⟩:=Kd.R_slice HO444.out;subst eo19)|((with_reducible refine gd 20 rfl ?_);refine gC (some 20) rfl Try.func81 (spec_l01Pick.calls (w:=_) (g:=g) (w0:=w0) (hI:=iA HI0) (hB:=blI) (hr1:=cR (Kd.R_reads' HO444.out).2.2) (hc1:=(Kd.R_reads' HO444.out).2.1) (hf1:=far_slice (IsS116.own_ne HI0.out HO444.out (by decide))) (h:=A12.out)) ?_;rintro w20 ⟨hi,hb,hk⟩;replace BK432:=kbk hk BK432 NB432_0;replace HO438:=Aside0.mk (Kd.R_mono (Kd.R_keep (IsS116.apart (show IsS116 w0 _ g s0_0 t440 t441 from iA HI0) (rA HO438) (by decide)) hk (fun _ h=>h.2)) (fun _ h=>h.1));replace HO444:=Aside0.mk (Kd.R_mono (Kd.R_keep (IsS116.apart (show IsS116 w0 _ g s0_0 t440 t441 from iA HI0) (rA HO444) (by decide)) hk (fun _ h=>h.2)) (fun _ h=>h.1));replace HK:=kkA HK hk;replace HB:=Aside0.mk hb;replace HI0:=Aside0.mk hi;clear hi hb hk;have hnb21:=NB432_0.out;have hnc21:=NB0_432.out;obtain ⟨hcz22_0,hcz22_1,hfz22_0,hfz22_1⟩:=cz2 BK432))
     refine bodyPost_ret (results_cell_row rfl _ _ gb432 34 #[.int .i64 t439,.int .i64 t445] (0,0) _ rfl (bpA BK432) Try.underlying34 rfl (by kernel_rfl)) rfl ?_
     exact ⟨eW,iA HI0,blI,kpA⟩
    ·
     rw [if_neg c10] at H
     have c10b0:(t433 == 2)=false:=beq_eq_false_iff_ne.mpr c10
     have c10b1:(t433 != 2)=true:=bne_iff_ne.mpr c10
     replace H:=bS H
     obtain ⟨⟨t448,t449,t450⟩,A23,H⟩:=H
     try dsimp only at H
     replace H:=bS H
     obtain ⟨⟨t451,t452,t453⟩,A24,H⟩:=H
     try dsimp only at H
     replace H:=bS H
     obtain ⟨⟨t454,t455,t456⟩,A25,H⟩:=H
     try dsimp only at H
     obtain ⟨y457,hy457⟩:∃ y_:List Int,y_=(([wrap64 (t448 - 10),wrap64 (t451 - 100),wrap64 (t454 - 1000000)]:List Int)):=⟨_,rfl⟩
     replace H:((spec_l01Pick.f s0_0 t455 t456 y457).bind fun bt460=>((spec_l01Next.f s0_0 bt460.2.1 bt460.2.2 20).bind fun bt463=>((spec_l01Next.f s0_0 bt463.2.1 bt463.2.2 8).bind fun bt466=>((spec_l01Power.f kj2 2 bt466.1).bind fun t469=>((spec_l01Next.f s0_0 bt466.2.1 bt466.2.2 6).bind fun bt470=>((spec_l01Power.f kj2 3 bt470.1).bind fun t473=>((spec_l01Next.f s0_0 bt470.2.1 bt470.2.2 1000000).bind fun bt474=>((spec_l01Pick.f s0_0 bt474.2.1 bt474.2.2 (([1,1,wrap64 (1+bt463.1),t469,t473,wrap64 (1+bt474.1)]:List Int))).bind fun bt480=>((spec_l01EndOf.f kj2 bt460.1 bt480.1).bind fun bt483=>(some (bt483.1,bt483.2.1,bt480.2.1,bt480.2.2)))))))))))=some (r1,r2,r3,r4):=rH hy457 H
     have Ny457:=Aside0.mk hy457
     clear hy457
     replace H:=bS H
     obtain ⟨⟨t460,t461,t462⟩,A26,H⟩:=H
     try dsimp only at H
     replace H:=bS H
     obtain ⟨⟨t463,t464,t465⟩,A27,H⟩:=H
     try dsimp only at H
     replace H:=bS H
     obtain ⟨⟨t466,t467,t468⟩,A28,H⟩:=H
     try dsimp only at H
     replace H:=bS H
     obtain ⟨t469,A29,H⟩:=H
     try dsimp only at H
     replace H:=bS H
     obtain ⟨⟨t470,t471,t472⟩,A30,H⟩:=H
     try dsimp only at H
     replace H:=bS H
     obtain ⟨t473,A31,H⟩:=H
     try dsimp only at H
     replace H:=bS H
     obtain ⟨⟨t474,t475,t476⟩,A32,H⟩:=H
     try dsimp only at H
     obtain ⟨y477,hy477⟩:∃ y_:List Int,y_=(([1,1,wrap64 (1+t463),t469,t473,wrap64 (1+t474)]:List Int)):=⟨_,rfl⟩
     replace H:((spec_l01Pick.f s0_0 t475 t476 y477).bind fun bt480=>((spec_l01EndOf.f kj2 t460 bt480.1).bind fun bt483=>(some (bt483.1,bt483.2.1,bt480.2.1,bt480.2.2))))=some (r1,r2,r3,r4):=rH hy477 H
     have Ny477:=Aside0.mk hy477
     clear hy477
     replace H:=bS H
     obtain ⟨⟨t480,t481,t482⟩,A33,H⟩:=H
     try dsimp only at H
     replace H:=bS H
     obtain ⟨⟨t483,t484,t485⟩,A34,H⟩:=H
     try dsimp only at H
     simp only [Option.some.injEq,Prod.mk.injEq] at H
     obtain ⟨rfl,rfl,rfl,rfl⟩:=H
     go_wp2_with (first|((with_reducible refine gd 24 rfl ?_);refine gC (some 24) rfl Try.func82 (spec_l01Next.calls (w:=_) (g:=g) (w0:=w0) (hI:=iA HI0) (hB:=blI) (h:=A23.out)) ?_;rintro w35 ⟨hi,hb,hk⟩;replace BK432:=kbk hk BK432 NB432_0;replace HK:=kkA HK hk;replace HB:=Aside0.mk hb;replace HI0:=Aside0.mk hi;clear hi hb hk)|((with_reducible refine gd 27 rfl ?_);refine gC (some 27) rfl Try.func82 (spec_l01Next.calls (w:=_) (g:=g) (w0:=w0) (hI:=iA HI0) (hB:=blI) (h:=A24.out)) ?_;rintro w36 ⟨hi,hb,hk⟩;replace BK432:=kbk hk BK432 NB432_0;replace HK:=kkA HK hk;replace HB:=Aside0.mk hb;replace HI0:=Aside0.mk hi;clear hi hb hk)|((with_reducible refine gd 30 rfl ?_);refine gC (some 30) rfl Try.func82 (spec_l01Next.calls (w:=_) (g:=g) (w0:=w0) (hI:=iA HI0) (hB:=blI) (h:=A25.out)) ?_;rintro w37 ⟨hi,hb,hk⟩;replace BK432:=kbk hk BK432 NB432_0;replace HK:=kkA HK hk;replace HB:=Aside0.mk hb;replace HI0:=Aside0.mk hi;clear hi hb hk)|((with_reducible refine gate_dst (N:=32) rfl ?_);refine Kd.R_lit (Kd.int .i64) _ 2 ?hg (N:=32) ?hd (xs:=([wrap64 (t448 - 10),wrap64 (t451 - 100),wrap64 (t454 - 1000000)]:List Int)) (inner:=[.int .i64 (wrap64 (t448 - 10)),.int .i64 (wrap64 (t451 - 100)),.int .i64 (wrap64 (t454 - 1000000))]) (ok:=fun _=>True) (okp:=fun _=>True) ?hr ?hp (fun _ hk=>hk) trivial (Below.refl _ _) (Nat.le_refl _) (by simp) ?_;(case hd=>rfl);(case hg=>rfl);(case hr=>first|(go_simp;done)|(go_simp;rfl));(case hp=>exact (Reps.one (show Kd.M (Kd.int .i64) _ _ _ (wrap64 (t448 - 10)) [.int .i64 (wrap64 (t448 - 10))] from rfl) (Reps.one (show Kd.M (Kd.int .i64) _ _ _ (wrap64 (t451 - 100)) [.int .i64 (wrap64 (t451 - 100))] from rfl) (Reps.one (show Kd.M (Kd.int .i64) _ _ _ (wrap64 (t454 - 1000000)) [.int .i64 (wrap64 (t454 - 1000000))] from rfl) (Reps.none _ _)))));intro v458 w38 ho39 hb hg_ hnew_;clear hg_ hnew_;(first|rw [← Ny457.out] at ho39|(simp only [Int.reduceToNat] at ho39;rw [← Ny457.out] at ho39));have n0_:=Aside0.mk (Kd.R_lower ho39 (keep_size (w:=w) (g:=g) (row:=none) kpA));have n1_:=kB BK432 hb;have n2_:=Aside0.mk (IsS116.below (iA HI0) hb);have n3_:=kbA HK hb;have n4_:=lI hb;clear BK432;clear HI0;clear HK;clear HB;have HO459:=n0_;have BK432:=n1_;have HI0:=n2_;have HK:=n3_;have HB:=n4_;clear n0_ n1_ n2_ n3_ n4_;clear hb ho39;obtain ⟨Ao40,co40,eo40⟩:=Kd.R_slice HO459.out;subst eo40)|((with_reducible refine gd 33 rfl ?_);refine gC (some 33) rfl Try.func81 (spec_l01Pick.calls (w:=_) (g:=g) (w0:=w0) (hI:=iA HI0) (hB:=blI) (hr1:=cR (Kd.R_reads' HO459.out).2.2) (hc1:=(Kd.R_reads' HO459.out).2.1) (hf1:=far_slice (IsS116.own_ne HI0.out HO459.out (by decide))) (h:=A26.out)) ?_;rintro w41 ⟨hi,hb,hk⟩;replace BK432:=kbk hk BK432 NB432_0;replace HO459:=Aside0.mk (Kd.R_mono (Kd.R_keep (IsS116.apart (show IsS116 w0 _ g s0_0 t455 t456 from iA HI0) (rA HO459) (by decide)) hk (fun _ h=>h.2)) (fun _ h=>h.1));replace HK:=kkA HK hk;replace HB:=Aside0.mk hb;replace HI0:=Aside0.mk hi;clear hi hb hk)|((with_reducible refine gd 36 rfl ?_);refine gC (some 36) rfl Try.func82 (spec_l01Next.calls (w:=_) (g:=g) (w0:=w0) (hI:=iA HI0) (hB:=blI) (h:=A27.out)) ?_;rintro w42 ⟨hi,hb,hk⟩;replace BK432:=kbk hk BK432 NB432_0;replace HO459:=Aside0.mk (Kd.R_mono (Kd.R_keep (IsS116.apart (show IsS116 w0 _ g s0_0 t461 t462 from iA HI0) (rA HO459) (by decide)) hk (fun _ h=>h.2)) (fun _ h=>h.1));replace HK:=kkA HK hk;replace HB:=Aside0.mk hb;replace HI0:=Aside0.mk hi;clear hi hb hk)|((with_reducible refine gd 39 rfl ?_);refine gC (some 39) rfl Try.func82 (spec_l01Next.calls (w:=_) (g:=g) (w0:=w0) (hI:=iA HI0) (hB:=blI) (h:=A28.out)) ?_;rintro w43 ⟨hi,hb,hk⟩;replace BK432:=kbk hk BK432 NB432_0;replace HO459:=Aside0.mk (Kd.R_mono (Kd.R_keep (IsS116.apart (show IsS116 w0 _ g s0_0 t464 t465 from iA HI0) (rA HO459) (by decide)) hk (fun _ h=>h.2)) (fun _ h=>h.1));replace HK:=kkA HK hk;replace HB:=Aside0.mk hb;replace HI0:=Aside0.mk hi;clear hi hb hk)|((with_reducible refine gd 40 rfl ?_);refine gC (some 40) rfl Try.func94 (spec_l01Power.calls (w:=_) (h:=A29.out)) ?_;rintro _ ⟨nd,rfl⟩;(try (rw [drewN_self w43];generalize hq_:World.drewN w43 _=w43;have n0_:Aside0 (Kd.R (Kd.int .i64) 2 w43 w.heap.size (fun _=>True) (.slice Ao40 y457.length co40) y457):=⟨by rw [← hq_];exact (rA HO459)⟩;have n1_:Aside0 (w43.heap[gb432]?=some (.cells #[.int .i64 0,.int .i64 0] 34 (0,0))):=⟨by rw [← hq_];exact (bkA BK432)⟩;have n2_:Aside0 (IsS116 w0 w43 g s0_0 t467 t468):=⟨by rw [← hq_];exact (iA HI0)⟩;have n3_:Aside0 (KeepBut w w43 g none):=⟨by rw [← hq_];exact kpA⟩;have n4_:Aside0 (Below w0.heap.size w0 w43):=⟨by rw [← hq_];exact blI⟩;clear HO459 BK432 HI0 HK HB hq_;have HO459:=n0_;have BK432:=n1_;have HI0:=n2_;have HK:=n3_;have HB:=n4_;clear n0_ n1_ n2_ n3_ n4_)))|((with_reducible refine gd 42 rfl ?_);refine gC (some 42) rfl Try.func82 (spec_l01Next.calls (w:=_) (g:=g) (w0:=w0) (hI:=iA HI0) (hB:=blI) (h:=A30.out)) ?_;rintro w44 ⟨hi,hb,hk⟩;replace BK432:=kbk hk BK432 NB432_0;replace HO459:=Aside0.mk (Kd.R_mono (Kd.R_keep (IsS116.apart (show IsS116 w0 _ g s0_0 t467 t468 from iA HI0) (rA HO459) (by decide)) hk (fun _ h=>h.2)) (fun _ h=>h.1));replace HK:=kkA HK hk;replace HB:=Aside0.mk hb;replace HI0:=Aside0.mk hi;clear hi hb hk)|((with_reducible refine gd 43 rfl ?_);refine gC (some 43) rfl Try.func94 (spec_l01Power.calls (w:=_) (h:=A31.out)) ?_;rintro _ ⟨nd,rfl⟩;(try (rw [drewN_self w44];generalize hq_:World.drewN w44 _=w44;have n0_:Aside0 (Kd.R (Kd.int .i64) 2 w44 w.heap.size (fun _=>True) (.slice Ao40 y457.length co40) y457):=⟨by rw [← hq_];exact (rA HO459)⟩;have n1_:Aside0 (w44.heap[gb432]?=some (.cells #[.int .i64 0,.int .i64 0] 34 (0,0))):=⟨by rw [← hq_];exact (bkA BK432)⟩;have n2_:Aside0 (IsS116 w0 w44 g s0_0 t471 t472):=⟨by rw [← hq_];exact (iA HI0)⟩;have n3_:Aside0 (KeepBut w w44 g none):=⟨by rw [← hq_];exact kpA⟩;have n4_:Aside0 (Below w0.heap.size w0 w44):=⟨by rw [← hq_];exact blI⟩;clear HO459 BK432 HI0 HK HB hq_;have HO459:=n0_;have BK432:=n1_;have HI0:=n2_;have HK:=n3_;have HB:=n4_;clear n0_ n1_ n2_ n3_ n4_)))|((with_reducible refine gd 45 rfl ?_);refine gC (some 45) rfl Try.func82 (spec_l01Next.calls (w:=_) (g:=g) (w0:=w0) (hI:=iA HI0) (hB:=blI) (h:=A32.out)) ?_;rintro w45 ⟨hi,hb,hk⟩;replace BK432:=kbk hk BK432 NB432_0;replace HO459:=Aside0.mk (Kd.R_mono (Kd.R_keep (IsS116.apart (show IsS116 w0 _ g s0_0 t471 t472 from iA HI0) (rA HO459) (by decide)) hk (fun _ h=>h.2)) (fun _ h=>h.1));replace HK:=kkA HK hk;replace HB:=Aside0.mk hb;replace HI0:=Aside0.mk hi;clear hi hb hk)|((with_reducible refine gate_dst (N:=47) rfl ?_);refine Kd.R_lit (Kd.int .i64) _ 2 ?hg (N:=47) ?hd (xs:=([1,1,wrap64 (1+t463),t469,t473,wrap64 (1+t474)]:List Int)) (inner:=[.int .i64 1,.int .i64 1,.int .i64 (wrap64 (1+t463)),.int .i64 t469,.int .i64 t473,.int .i64 (wrap64 (1+t474))]) (ok:=fun _=>True) (okp:=fun _=>True) ?hr ?hp (fun _ hk=>hk) trivial (Below.refl _ _) (Nat.le_refl _) (by simp) ?_;(case hd=>rfl);(case hg=>rfl);(case hr=>first|(go_simp;done)|(go_simp;rfl));(case hp=>exact (Reps.one (show Kd.M (Kd.int .i64) _ _ _ 1 [.int .i64 1] from rfl) (Reps.one (show Kd.M (Kd.int .i64) _ _ _ 1 [.int .i64 1] from rfl) (Reps.one (show Kd.M (Kd.int .i64) _ _ _ (wrap64 (1+t463)) [.int .i64 (wrap64 (1+t463))] from rfl) (Reps.one (show Kd.M (Kd.int .i64) _ _ _ t469 [.int .i64 t469] from rfl) (Reps.one (show Kd.M (Kd.int .i64) _ _ _ t473 [.int .i64 t473] from rfl) (Reps.one (show Kd.M (Kd.int .i64) _ _ _ (wrap64 (1+t474)) [.int .i64 (wrap64 (1+t474))] from rfl) (Reps.none _ _))))))));intro v478 w46 ho47 hb hg_ hnew_;clear hg_ hnew_;(first|rw [← Ny477.out] at ho47|(simp only [Int.reduceToNat] at ho47;rw [← Ny477.out] at ho47));have n0_:=Aside0.mk (Kd.R_elder' (rA HO459) (Kd.R_base ho47) hb);have n1_:=Aside0.mk (Kd.R_lower (Kd.R_new' ho47 (Kd.R_lt (rA HO459))) (keep_size (w:=w) (g:=g) (row:=none) kpA));have n2_:=kB BK432 hb;have n3_:=Aside0.mk (IsS116.below (iA HI0) hb);have n4_:=kbA HK hb;have n5_:=lI hb;clear HO459;clear BK432;clear HI0;clear HK;clear HB;have HO459:=n0_;have HO479:=n1_;have BK432:=n2_;have HI0:=n3_;have HK:=n4_;have HB:=n5_;clear n0_ n1_ n2_ n3_ n4_ n5_;clear hb ho47;obtain ⟨Ao48,co48,eo48⟩:=Kd.R_slice HO479.out;subst eo48)|((with_reducible refine gd 48 rfl ?_);refine gC (some 48) rfl Try.func81 (spec_l01Pick.calls (w:=_) (g:=g) (w0:=w0) (hI:=iA HI0) (hB:=blI) (hr1:=cR (Kd.R_reads' HO479.out).2.2) (hc1:=(Kd.R_reads' HO479.out).2.1) (hf1:=far_slice (IsS116.own_ne HI0.out HO479.out (by decide))) (h:=A33.out)) ?_;rintro w49 ⟨hi,hb,hk⟩;replace BK432:=kbk hk BK432 NB432_0;replace HO459:=Aside0.mk (Kd.R_mono (Kd.R_keep (IsS116.apart (show IsS116 w0 _ g s0_0 t475 t476 from iA HI0) (rA HO459) (by decide)) hk (fun _ h=>h.2)) (fun _ h=>h.1));replace HO479:=Aside0.mk (Kd.R_mono (Kd.R_keep (IsS116.apart (show IsS116 w0 _ g s0_0 t475 t476 from iA HI0) (rA HO479) (by decide)) hk (fun _ h=>h.2)) (fun _ h=>h.1));replace HK:=kkA HK hk;replace HB:=Aside0.mk hb;replace HI0:=Aside0.mk hi;clear hi hb hk)|((with_reducible refine gd 52 rfl ?_);refine gC (some 52) rfl Try.func98 (spec_l01EndOf.calls (w:=_) (h:=A34.out)) ?_;intro w50 hb;have n0_:=Aside0.mk (Kd.R_below (rA HO459) hb);have n1_:=Aside0.mk (Kd.R_below (rA HO479) hb);have n2_:=kB BK432 hb;have n3_:=Aside0.mk (IsS116.below (iA HI0) hb);have n4_:=kbA HK hb;have n5_:=lI hb;clear HO459;clear HO479;clear BK432;clear HI0;clear HK;clear HB;have HO459:=n0_;have HO479:=n1_;have BK432:=n2_;have HI0:=n3_;have HK:=n4_;have HB:=n5_;clear n0_ n1_ n2_ n3_ n4_ n5_;clear hb)|((with_reducible refine gate_dst (N:=5) rfl ?_);refine bxE (cs:=#[.int .i64 0,.int .i64 0]) (t:=34) ?_;intro gb486 hg w51 hbox hb;have n0_:=Aside0.mk (Kd.R_below (rA HO459) hb);have n1_:=Aside0.mk (Kd.R_below (rA HO479) hb);have n2_:=kB BK432 hb;have n3_:=Aside0.mk (IsS116.below (iA HI0) hb);have n4_:=kbA HK hb;have n5_:=lI hb;have n6_:=Aside0.mk hbox;have n7_:=kzA HK hg;have n8_:=Aside0.mk (Nat.le_trans HW0.out (kzA HK hg).out);have n9_:=nA hg BK432;have n10_:=nB hg BK432;have n11_:=inA hg (IsS116.lt (iA HI0));have n12_:=inB hg (IsS116.lt (iA HI0));clear HO459;clear HO479;clear BK432;clear HI0;clear HK;clear HB;have HO459:=n0_;have HO479:=n1_;have BK432:=n2_;have HI0:=n3_;have HK:=n4_;have HB:=n5_;have BK486:=n6_;have GW486:=n7_;have GE486:=n8_;have NB432_486:=n9_;have NB486_432:=n10_;have NB0_486:=n11_;have NB486_0:=n12_;clear n0_ n1_ n2_ n3_ n4_ n5_ n6_ n7_ n8_ n9_ n10_ n11_ n12_;clear hb hbox hg;have hnb52:=NB486_432.out;have hnc52:=NB432_486.out;have hnb53:=NB486_0.out;have hnc53:=NB0_486.out;obtain ⟨hcz54_0,hcz54_1,hfz54_0,hfz54_1⟩:=cz2 BK486;have hnb55:=NB432_0.out;have hnc55:=NB0_432.out;obtain ⟨hcz56_0,hcz56_1,hfz56_0,hfz56_1⟩:=cz2 BK432))
     refine bodyPost_ret (results_cell_row rfl _ _ gb432 34 #[.int .i64 t483,.int .i64 t484] (0,0) _ rfl (bpA BK432) Try.underlying34 rfl (by kernel_rfl)) rfl ?_
     exact ⟨eW,iA HI0,blI,kpA⟩
def impl_endAt.f (k:Nat) (a0 a1:Int):Option (Int × Int × Bool):=if a1=0 then (some (1,0,true)) else ((impl_gcd.f k a0 a1).bind fun t512=>(if a1<0 then (if (wrap64 (-t512))=0 then (none) else ((impl_IsEnd.f k (wrap64 (Int.tdiv a0 (wrap64 (-t512)))) (wrap64 (Int.tdiv a1 (wrap64 (-t512))))).bind fun t514=>(some (wrap64 (Int.tdiv a0 (wrap64 (-t512))),wrap64 (Int.tdiv a1 (wrap64 (-t512))),t514)))) else (if t512=0 then (none) else ((impl_IsEnd.f k (wrap64 (Int.tdiv a0 t512)) (wrap64 (Int.tdiv a1 t512))).bind fun t516=>(some (wrap64 (Int.tdiv a0 t512),wrap64 (Int.tdiv a1 t512),t516))))))
theorem impl_endAt.mono:∀ a0 a1 k,LeO (impl_endAt.f k a0 a1) (impl_endAt.f (k+1) a0 a1):=by
 intro a0 a1 k
 unfold impl_endAt.f
 repeat' first
   | with_reducible first|exact impl_IsEnd.mono ..|exact impl_gcd.mono ..|exact LeO.refl _|exact LeO.none _|refine LeO.ite ?_ ?_|refine LeO.bind ?_ fun _=>?_
def impl_endAt.T6:Bool × List (List Nat × List Nat):=(true,[([],[]),([],[]),([0,1],[0,1]),([],[]),([],[]),([3,4],[3,4]),([2,5],[2,5]),([],[]),([7,6,0,1,2,3,4,5,6,7],[6,7])])
def impl_endAt.B6:List Nat:=[0,0,3,0,0,24,63,0,255]
theorem impl_endAt.tab6:rtab .any (opsOf Try.f100 6)=impl_endAt.T6:=by kernel_rfl
theorem impl_endAt.bits6:waitsOk impl_endAt.T6.2 impl_endAt.B6=true:=by kernel_rfl
set_option maxHeartbeats 8000000 in
set_option maxRecDepth 100000 in
theorem impl_endAt.calls (k:Nat) (a0 a1 r1 r2:Int) (r3:Bool) (w:World) (h:impl_endAt.f k a0 a1=some (r1,r2,r3)) :
  Calls Try.prog 100 #[.int .i64 a0,.int .i64 a1] w fun e w'=>e=.returned (.tuple #[.agg #[.int .i64 r1,.int .i64 r2],.bool r3])∧Below w.heap.size w w':=by
 have hu34:=Try.underlying34
 have HB:=Aside0.mk (Below.refl w.heap.size w)
 have H:=h
 unfold impl_endAt.f at H
 clear h
 by_cases c3:a1=0
 focus
  rw [if_pos c3] at H
  have c3b0:(a1 == 0)=true:=beq_iff_eq.mpr c3
  have c3b1:(a1 != 0)=false:=bne_eq_false_iff_eq.mpr c3
  clear c3
  simp only [Option.some.injEq,Prod.mk.injEq] at H
  obtain ⟨rfl,rfl,rfl⟩:=H
 rotate_left
 focus
  rw [if_neg c3] at H
  have c3b0:(a1 == 0)=false:=beq_eq_false_iff_ne.mpr c3
  have c3b1:(a1 != 0)=true:=bne_iff_ne.mpr c3
  replace H:=bS H
  obtain ⟨t512,A6,H⟩:=H
  try dsimp only at H
  by_cases c7:a1<0
  focus
   rw [if_pos c7] at H
   have c7b0:=decide_eq_true c7
   clear c7
   by_cases c8:(wrap64 (-t512))=0
   ·
    rw [if_pos c8] at H
    exact absurd H (by simp)
   rw [if_neg c8] at H
   have c8b0:((wrap64 (-t512)) == 0)=false:=beq_eq_false_iff_ne.mpr c8
   have c8b1:((wrap64 (-t512)) != 0)=true:=bne_iff_ne.mpr c8
   replace H:=bS H
   obtain ⟨t514,A9,H⟩:=H
   try dsimp only at H
   simp only [Option.some.injEq,Prod.mk.injEq] at H
   obtain ⟨rfl,rfl,rfl⟩:=H
  rotate_left
  focus
   rw [if_neg c7] at H
   have c7b0:=decide_eq_false c7
   clear c7
   by_cases c21:t512=0
   ·
    rw [if_pos c21] at H
    exact absurd H (by simp)
   rw [if_neg c21] at H
   have c21b0:(t512 == 0)=false:=beq_eq_false_iff_ne.mpr c21
   have c21b1:(t512 != 0)=true:=bne_iff_ne.mpr c21
   replace H:=bS H
   obtain ⟨t516,A22,H⟩:=H
   try dsimp only at H
   simp only [Option.some.injEq,Prod.mk.injEq] at H
   obtain ⟨rfl,rfl,rfl⟩:=H
  rotate_left
 rotate_left 2
 all_goals
  go_enter Try.func100,Try.ntmps100
 ·
  go_wp2_with (first|((with_reducible refine gate_dst (N:=4) rfl ?_);refine bxE (cs:=#[.int .i64 0,.int .i64 0]) (t:=34) ?_;intro gb511 hg w4 hbox hb;have n0_:=lB hb;have n1_:=Aside0.mk hbox;have n2_:=sA hg;have n3_:=sA hg;clear HB;have HB:=n0_;have BK511:=n1_;have GW511:=n2_;have GE511:=n3_;clear n0_ n1_ n2_ n3_;clear hb hbox hg;obtain ⟨hcz5_0,hcz5_1,hfz5_0,hfz5_1⟩:=cz2 BK511))
  refine bodyPost_ret (results_ct rfl _ _ gb511 34 #[.int .i64 1,.int .i64 0] (0,0) _ rfl (bpA BK511) Try.underlying34 rfl (by kernel_rfl)) rfl ?_
  exact finA blA
 rotate_left 2
 all_goals
  try go_wp2_with (first|((with_reducible refine gate_dst (N:=4) rfl ?_);refine bxE (cs:=#[.int .i64 0,.int .i64 0]) (t:=34) ?_;intro gb511 hg w10 hbox hb;have n0_:=lB hb;have n1_:=Aside0.mk hbox;have n2_:=sA hg;have n3_:=sA hg;clear HB;have HB:=n0_;have BK511:=n1_;have GW511:=n2_;have GE511:=n3_;clear n0_ n1_ n2_ n3_;clear hb hbox hg)|((with_reducible refine gd 13 rfl ?_);refine gC (some 13) rfl Try.func99 (impl_gcd.calls (w:=_) (h:=A6.out)) ?_;intro w11 hb;have n0_:=kB BK511 hb;have n1_:=lB hb;clear BK511;clear HB;have BK511:=n0_;have HB:=n1_;clear n0_ n1_;clear hb))
  have n0_:=Aside0.mk (blk_drew BK511.out)
  have n1_:=Aside0.mk (below_drew1 HB.out)
  clear BK511
  clear HB
  have BK511:=n0_
  have HB:=n1_
  clear n0_ n1_
  refine start_ (n:=9) (S:=fun w'=>True) (ds:=[]) #[Z,Z,Z,Z,Z,Z,Z,Z,Z] (by kernel_rfl) rfl rfl trivial (fun hHeld=>?_);refine with_tabW impl_endAt.tab6 impl_endAt.bits6 (fun HT_ HW_=>?_)
  generalize w11.drew=w12 at BK511 HB hHeld ⊢
  refine puA (i:=0) (N:=some 18) #[Y,Z,Z,Z,Z,Z,Z,Z,Z] rfl rfl HT_ ?_
  refine puA (i:=1) (N:=some 19) #[Y,Y,Z,Z,Z,Z,Z,Z,Z] rfl rfl HT_ ?_
  refine puA (i:=2) (N:=some 20) #[Y,Y,Y,Z,Z,Z,Z,Z,Z] rfl rfl HT_ ?_
  refine puA (i:=3) (N:=some 21) #[Y,Y,Y,Y,Z,Z,Z,Z,Z] rfl rfl HT_ ?_
  refine puA (i:=4) (N:=some 22) #[Y,Y,Y,Y,Y,Z,Z,Z,Z] rfl rfl HT_ ?_
  refine puA (i:=5) (N:=some 23) #[Y,Y,Y,Y,Y,Y,Z,Z,Z] rfl rfl HT_ ?_
  refine puA (i:=6) (N:=some 24) #[Y,Y,Y,Y,Y,Y,Y,Z,Z] rfl rfl HT_ ?_
  refine one_ (i:=7) (N:=some 7) #[Y,Y,Y,Y,Y,Y,Y,Y,Z] rfl rfl (one_of HT_.out (by kernel_rfl)) (by decide) (fun K hK=>?_)
  refine box_step ?hg (N:=7) ?hd (cs:=#[.int .i64 0,.int .i64 0]) (t:=34) ?hr ?_;(case hd=>rfl);(case hg=>rfl);(case hr=>first|(go_simp;done)|(go_simp;rfl))
  intro gb513 hg w13 hbox hb
  have BK513:=Aside0.mk hbox
  have GW513:=sA hg
  have GE513:=sA hg
  have NB511_513:=nA hg BK511
  have NB513_511:=nB hg BK511
  replace BK511:=kB BK511 hb
  replace HB:=lB hb
  clear hb hbox hg
  refine hK.out _ _ trivial (fun hHeld=>?_)
  clear hK K
  refine nmA ?_
  refine one_ (i:=8) (N:=none) #[Y,Y,Y,Y,Y,Y,Y,Y,Y] rfl rfl (one_of HT_.out (by kernel_rfl)) (by decide) (fun K hK=>?_)
  have hs14:w13.cell? ⟨gb513,0,none⟩=some (.int .i64 0):=cA BK513 0
  have hfs14:=blk_frozen BK513.out 0
  have hns14_0:=NB511_513.out
  have hms14_0:=NB513_511.out
  have hs15:w13.cell? ⟨gb513,1,none⟩=some (.int .i64 0):=cA BK513 1
  have hfs15:=blk_frozen BK513.out 1
  have hns15_0:=NB511_513.out
  have hms15_0:=NB513_511.out
  refine skip_ (w1:=?_) (by rfl) rfl ?_ ?_
  rotate_left
  ·
   go_simp
   rfl
  refine hK.out _ _ trivial (fun hHeld=>?_)
  clear hK K
  refine done_ (done_of HT_.out (by kernel_rfl)) ?_
 ·
  try go_wp2
  have n0_:Aside0 (((w13.setCell ⟨gb513,0,none⟩ (.int .i64 (wrap64 (Int.tdiv a0 (wrap64 (-t512)))))).setCell ⟨gb513,1,none⟩ (.int .i64 (wrap64 (Int.tdiv a1 (wrap64 (-t512)))))).heap[gb511]?=some (.cells #[.int .i64 0,.int .i64 0] 34 (0,0))):=⟨bkF BK511⟩
  have n1_:Aside0 (((w13.setCell ⟨gb513,0,none⟩ (.int .i64 (wrap64 (Int.tdiv a0 (wrap64 (-t512)))))).setCell ⟨gb513,1,none⟩ (.int .i64 (wrap64 (Int.tdiv a1 (wrap64 (-t512)))))).heap[gb513]?=some (.cells #[.int .i64 (wrap64 (Int.tdiv a0 (wrap64 (-t512)))),.int .i64 (wrap64 (Int.tdiv a1 (wrap64 (-t512))))] 34 (0,0))):=⟨bpA BK513⟩
  have n2_:Aside0 (Below w.heap.size w ((w13.setCell ⟨gb513,0,none⟩ (.int .i64 (wrap64 (Int.tdiv a0 (wrap64 (-t512)))))).setCell ⟨gb513,1,none⟩ (.int .i64 (wrap64 (Int.tdiv a1 (wrap64 (-t512))))))):=⟨blA⟩
  (try clear BK511)
  (try clear BK513)
  (try clear HB)
  generalize ((w13.setCell ⟨gb513,0,none⟩ (.int .i64 (wrap64 (Int.tdiv a0 (wrap64 (-t512)))))).setCell ⟨gb513,1,none⟩ (.int .i64 (wrap64 (Int.tdiv a1 (wrap64 (-t512))))))=w16 at n0_ n1_ n2_ ⊢
  have BK511:=n0_
  have BK513:=n1_
  have HB:=n2_
  clear n0_ n1_ n2_
  have n0_:=Aside0.mk (blk_drew BK511.out)
  have n1_:=Aside0.mk (blk_drew BK513.out)
  have n2_:=Aside0.mk (below_drew1 HB.out)
  clear BK511
  clear BK513
  clear HB
  have BK511:=n0_
  have BK513:=n1_
  have HB:=n2_
  clear n0_ n1_ n2_
  refine start_ (n:=5) (S:=fun w'=>w'.cell? ⟨gb513,0,none⟩=some (.int .i64 (wrap64 (Int.tdiv a0 (wrap64 (-t512)))))∧w'.cell? ⟨gb513,1,none⟩=some (.int .i64 (wrap64 (Int.tdiv a1 (wrap64 (-t512)))))) (ds:=[]) #[Z,Z,Z,Z,Z] (by kernel_rfl) rfl rfl ⟨cA BK513 0,cA BK513 1⟩ (fun hHeld=>?_)
  generalize w16.drew=w17 at BK511 BK513 HB hHeld ⊢
  refine take_ (i:=0) (N:=some 25) (v:=?_) (a':=?_) #[Y,Z,Z,Z,Z] rfl rfl (by kernel_rfl) (fun _ _ _ h=>h) (Or.inl ⟨by rfl,?_⟩) hHeld ?_ ?_
  rotate_left
  ·
   rintro w' ⟨s0,s1⟩
   go_simp
   with_reducible rfl
  rotate_left
  ·
   simp only [pA]
   rfl
  refine take_ (i:=1) (N:=some 26) (v:=?_) (a':=?_) #[Y,Y,Z,Z,Z] rfl rfl (by kernel_rfl) (fun _ _ _ h=>h) (Or.inl ⟨by rfl,?_⟩) hHeld ?_ ?_
  rotate_left
  ·
   rintro w' ⟨s0,s1⟩
   go_simp
   with_reducible rfl
  rotate_left
  ·
   simp only [pA]
   rfl
  refine one_ (i:=2) (N:=some 27) #[Y,Y,Y,Z,Z] rfl rfl (by kernel_rfl) (by decide) (fun K hK=>?_)
  refine goC Try.func50 (impl_IsEnd.calls (w:=_) (h:=A9.out)) ?_
  intro w18 hb
  replace BK511:=kB BK511 hb
  replace BK513:=kB BK513 hb
  replace HB:=lB hb
  (try clear hb)
  (try clear hb2)
  (try clear hk)
  (try clear hi)
  refine hK.out _ _ ⟨cA BK513 0,cA BK513 1⟩ (fun hHeld=>?_)
  clear hK K
  refine nmA ?_
  refine one_ (i:=3) (N:=none) #[Y,Y,Y,Y,Z] rfl rfl (by kernel_rfl) (by decide) (fun K hK=>?_)
  have hs19:w18.cell? ⟨gb511,0,none⟩=some (.int .i64 0):=cA BK511 0
  have hfs19:=blk_frozen BK511.out 0
  have hns19_1:=NB513_511.out
  have hms19_1:=NB511_513.out
  have hs20:w18.cell? ⟨gb511,1,none⟩=some (.int .i64 0):=cA BK511 1
  have hfs20:=blk_frozen BK511.out 1
  have hns20_1:=NB513_511.out
  have hms20_1:=NB511_513.out
  refine skip_ (w1:=?_) (by rfl) rfl ?_ ?_
  rotate_left
  ·
   go_simp
   rfl
  refine hK.out _ _ ⟨cfA hHeld.1,cfA hHeld.2⟩ (fun hHeld=>?_)
  clear hK K
  refine pure_ (i:=4) (N:=some 5) (v:=?_) (a':=?_) #[Y,Y,Y,Y,Y] rfl rfl (by kernel_rfl) (fun _ _ _ h=>h) (Or.inl ⟨by rfl,?_⟩) ?_ ?_
  rotate_left
  ·
   intro w'
   go_simp
   with_reducible rfl
  rotate_left
  ·
   simp only [pA]
   rfl
  refine done_ (by kernel_rfl) ?_
  try go_wp2
  refine bodyPost_ret (results_ct rfl _ _ gb511 34 #[.int .i64 (wrap64 (Int.tdiv a0 (wrap64 (-t512)))),.int .i64 (wrap64 (Int.tdiv a1 (wrap64 (-t512))))] (0,0) _ rfl (bpA BK511) Try.underlying34 rfl (by kernel_rfl)) rfl ?_
  exact finA blA
 ·
  try go_wp2
  have n0_:Aside0 (((w13.setCell ⟨gb513,0,none⟩ (.int .i64 (wrap64 (Int.tdiv a0 t512)))).setCell ⟨gb513,1,none⟩ (.int .i64 (wrap64 (Int.tdiv a1 t512)))).heap[gb511]?=some (.cells #[.int .i64 0,.int .i64 0] 34 (0,0))):=⟨bkF BK511⟩
  have n1_:Aside0 (((w13.setCell ⟨gb513,0,none⟩ (.int .i64 (wrap64 (Int.tdiv a0 t512)))).setCell ⟨gb513,1,none⟩ (.int .i64 (wrap64 (Int.tdiv a1 t512)))).heap[gb513]?=some (.cells #[.int .i64 (wrap64 (Int.tdiv a0 t512)),.int .i64 (wrap64 (Int.tdiv a1 t512))] 34 (0,0))):=⟨bpA BK513⟩
  have n2_:Aside0 (Below w.heap.size w ((w13.setCell ⟨gb513,0,none⟩ (.int .i64 (wrap64 (Int.tdiv a0 t512)))).setCell ⟨gb513,1,none⟩ (.int .i64 (wrap64 (Int.tdiv a1 t512))))):=⟨blA⟩
  (try clear BK511)
  (try clear BK513)
  (try clear HB)
  generalize ((w13.setCell ⟨gb513,0,none⟩ (.int .i64 (wrap64 (Int.tdiv a0 t512)))).setCell ⟨gb513,1,none⟩ (.int .i64 (wrap64 (Int.tdiv a1 t512))))=w29 at n0_ n1_ n2_ ⊢
  have BK511:=n0_
  have BK513:=n1_
  have HB:=n2_
  clear n0_ n1_ n2_
  have n0_:=Aside0.mk (blk_drew BK511.out)
  have n1_:=Aside0.mk (blk_drew BK513.out)
  have n2_:=Aside0.mk (below_drew1 HB.out)
  clear BK511
  clear BK513
  clear HB
  have BK511:=n0_
  have BK513:=n1_
  have HB:=n2_
  clear n0_ n1_ n2_
  refine start_ (n:=5) (S:=fun w'=>w'.cell? ⟨gb513,0,none⟩=some (.int .i64 (wrap64 (Int.tdiv a0 t512)))∧w'.cell? ⟨gb513,1,none⟩=some (.int .i64 (wrap64 (Int.tdiv a1 t512)))) (ds:=[]) #[Z,Z,Z,Z,Z] (by kernel_rfl) rfl rfl ⟨cA BK513 0,cA BK513 1⟩ (fun hHeld=>?_)
  generalize w29.drew=w30 at BK511 BK513 HB hHeld ⊢
  refine take_ (i:=0) (N:=some 25) (v:=?_) (a':=?_) #[Y,Z,Z,Z,Z] rfl rfl (by kernel_rfl) (fun _ _ _ h=>h) (Or.inl ⟨by rfl,?_⟩) hHeld ?_ ?_
  rotate_left
  ·
   rintro w' ⟨s0,s1⟩
   go_simp
   with_reducible rfl
  rotate_left
  ·
   simp only [pA]
   rfl
  refine take_ (i:=1) (N:=some 26) (v:=?_) (a':=?_) #[Y,Y,Z,Z,Z] rfl rfl (by kernel_rfl) (fun _ _ _ h=>h) (Or.inl ⟨by rfl,?_⟩) hHeld ?_ ?_
  rotate_left
  ·
   rintro w' ⟨s0,s1⟩
   go_simp
   with_reducible rfl
  rotate_left
  ·
   simp only [pA]
   rfl
  refine one_ (i:=2) (N:=some 27) #[Y,Y,Y,Z,Z] rfl rfl (by kernel_rfl) (by decide) (fun K hK=>?_)
  refine goC Try.func50 (impl_IsEnd.calls (w:=_) (h:=A22.out)) ?_
  intro w31 hb
  replace BK511:=kB BK511 hb
  replace BK513:=kB BK513 hb
  replace HB:=lB hb
  (try clear hb)
  (try clear hb2)
  (try clear hk)
  (try clear hi)
  refine hK.out _ _ ⟨cA BK513 0,cA BK513 1⟩ (fun hHeld=>?_)
  clear hK K
  refine nmA ?_
  refine one_ (i:=3) (N:=none) #[Y,Y,Y,Y,Z] rfl rfl (by kernel_rfl) (by decide) (fun K hK=>?_)
  have hs32:w31.cell? ⟨gb511,0,none⟩=some (.int .i64 0):=cA BK511 0
  have hfs32:=blk_frozen BK511.out 0
  have hns32_1:=NB513_511.out
  have hms32_1:=NB511_513.out
  have hs33:w31.cell? ⟨gb511,1,none⟩=some (.int .i64 0):=cA BK511 1
  have hfs33:=blk_frozen BK511.out 1
  have hns33_1:=NB513_511.out
  have hms33_1:=NB511_513.out
  refine skip_ (w1:=?_) (by rfl) rfl ?_ ?_
  rotate_left
  ·
   go_simp
   rfl
  refine hK.out _ _ ⟨cfA hHeld.1,cfA hHeld.2⟩ (fun hHeld=>?_)
  clear hK K
  refine pure_ (i:=4) (N:=some 5) (v:=?_) (a':=?_) #[Y,Y,Y,Y,Y] rfl rfl (by kernel_rfl) (fun _ _ _ h=>h) (Or.inl ⟨by rfl,?_⟩) ?_ ?_
  rotate_left
  ·
   intro w'
   go_simp
   with_reducible rfl
  rotate_left
  ·
   simp only [pA]
   rfl
  refine done_ (by kernel_rfl) ?_
  try go_wp2
  refine bodyPost_ret (results_ct rfl _ _ gb511 34 #[.int .i64 (wrap64 (Int.tdiv a0 t512)),.int .i64 (wrap64 (Int.tdiv a1 t512))] (0,0) _ rfl (bpA BK511) Try.underlying34 rfl (by kernel_rfl)) rfl ?_
  exact finA blA
def spec_l04End.f (k:Nat) (a0_0 a0_1 a0_2 a0_3 a1_0 a1_1:Int):Option (Int × Int × Bool):=(spec_l01EndOf.f k (wrap64 ((wrap64 (a0_0*a1_0))+(wrap64 (a0_1*a1_1)))) (wrap64 ((wrap64 (a0_2*a1_0))+(wrap64 (a0_3*a1_1))))).bind fun bt541=>(some (bt541.1,bt541.2.1,bt541.2.2))
theorem spec_l04End.mono:∀ a0 a1 a2 a3 a4 a5 k,LeO (spec_l04End.f k a0 a1 a2 a3 a4 a5) (spec_l04End.f (k+1) a0 a1 a2 a3 a4 a5):=by
 intro a0 a1 a2 a3 a4 a5 k
 unfold spec_l04End.f
 repeat' first
   | with_reducible first|exact spec_l01EndOf.mono ..|exact LeO.refl _|exact LeO.none _|refine LeO.ite ?_ ?_|refine LeO.bind ?_ fun _=>?_
set_option maxHeartbeats 8000000 in
set_option maxRecDepth 100000 in
theorem spec_l04End.calls (k:Nat) (a0_0 a0_1 a0_2 a0_3 a1_0 a1_1 r1 r2:Int) (r3:Bool) (w:World) (h:spec_l04End.f k a0_0 a0_1 a0_2 a0_3 a1_0 a1_1=some (r1,r2,r3)) :
  Calls Try.prog 55 #[.agg #[.int .i64 a0_0,.int .i64 a0_1,.int .i64 a0_2,.int .i64 a0_3],.agg #[.int .i64 a1_0,.int .i64 a1_1]] w fun e w'=>e=.returned (.tuple #[.agg #[.int .i64 r1,.int .i64 r2],.bool r3])∧Below w.heap.size w w':=by
 have hu26:=Try.underlying26
 have hu34:=Try.underlying34
 have HB:=Aside0.mk (Below.refl w.heap.size w)
 have H:=h
 unfold spec_l04End.f at H
 clear h
 replace H:=bS H
 obtain ⟨⟨t541,t542,t543⟩,A3,H⟩:=H
 try dsimp only at H
 simp only [Option.some.injEq,Prod.mk.injEq] at H
 obtain ⟨rfl,rfl,rfl⟩:=H
 go_enter Try.func55,Try.ntmps55
 go_wp2_with (first|((with_reducible refine gate_dst (N:=2) rfl ?_);refine bxE (cs:=#[.int .i64 a0_0,.int .i64 a0_1,.int .i64 a0_2,.int .i64 a0_3]) (t:=26) ?_;intro gb538 hg w4 hbox hb;have BK538:=Aside0.mk hbox;have GW538:=sA hg;have GE538:=sA hg;replace HB:=lB hb;clear hb hbox hg)|((with_reducible refine gate_dst (N:=3) rfl ?_);refine bxE (cs:=#[.int .i64 a1_0,.int .i64 a1_1]) (t:=34) ?_;intro gb539 hg w5 hbox hb;have BK539:=Aside0.mk hbox;have GW539:=sA hg;have GE539:=sA hg;have NB538_539:=nA hg BK538;have NB539_538:=nB hg BK538;replace BK538:=kB BK538 hb;replace HB:=lB hb;clear hb hbox hg)|((with_reducible refine gate_dst (N:=4) rfl ?_);refine bxE (cs:=#[.int .i64 0,.int .i64 0]) (t:=34) ?_;intro gb540 hg w6 hbox hb;have BK540:=Aside0.mk hbox;have GW540:=sA hg;have GE540:=sA hg;have NB538_540:=nA hg BK538;have NB540_538:=nB hg BK538;have NB539_540:=nA hg BK539;have NB540_539:=nB hg BK539;replace BK538:=kB BK538 hb;replace BK539:=kB BK539 hb;replace HB:=lB hb;clear hb hbox hg;have hnb7:=NB538_539.out;have hnc7:=NB539_538.out;have hnb8:=NB538_540.out;have hnc8:=NB540_538.out;obtain ⟨hcz9_0,hcz9_1,hcz9_2,hcz9_3,hfz9_0,hfz9_1,hfz9_2,hfz9_3⟩:=cz4 BK538;have hnb10:=NB539_540.out;have hnc10:=NB540_539.out;obtain ⟨hcz11_0,hcz11_1,hfz11_0,hfz11_1⟩:=cz2 BK539)|((with_reducible refine gd 32 rfl ?_);refine gC (some 32) rfl Try.func98 (spec_l01EndOf.calls (w:=_) (h:=A3.out)) ?_;intro w12 hb;replace BK538:=kB BK538 hb;replace BK539:=kB BK539 hb;replace BK540:=kB BK540 hb;replace HB:=lB hb;clear hb;obtain ⟨hcz13_0,hcz13_1,hfz13_0,hfz13_1⟩:=cz2 BK540))
 refine bodyPost_ret (results_ct rfl _ _ gb540 34 #[.int .i64 t541,.int .i64 t542] (0,0) _ rfl (bpA BK540) Try.underlying34 rfl (by kernel_rfl)) rfl ?_
 exact finA blA
def impl_areBalls.l0:Nat→Int→List (S28)→Int→Int→Option (Bool)
 | 0,_,_,_,_=>none
 | k+1,x0,x7,x8,x9=>if x9<x8 then (if 0≤x9 then (if x9<(x7.length:Int) then ((impl_IsBall.f k x0 ((rd_T28 x7 x9).f0) ((rd_T28 x7 x9).f1) ((rd_T28 x7 x9).f2)).bind fun t594=>(if t594=true then (impl_areBalls.l0 k x0 x7 x8 (wrap64 (x9+1))) else (some false))) else (none)) else (none)) else ((impl_isPrime.f x0).bind fun t595=>(some t595))
def impl_areBalls.f (k:Nat) (a0:Int) (l1:List (S28)):Option (Bool):=impl_areBalls.l0 k a0 l1 (l1.length:Int) 0
theorem impl_areBalls.mono_l:∀ k,(∀ y0 y1 y2 y3,LeO (impl_areBalls.l0 k y0 y1 y2 y3) (impl_areBalls.l0 (k+1) y0 y1 y2 y3))
 | 0=>fun _ _ _ _ r h=>by simp [impl_areBalls.l0] at h
 | k+1=>by
  have ih0:=impl_areBalls.mono_l k
  ·
   intro y0 y1 y2 y3
   unfold impl_areBalls.l0
   repeat' first
   | with_reducible first|exact ih0 ..|exact impl_IsBall.mono ..|exact LeO.refl _|exact LeO.none _|refine LeO.ite ?_ ?_|refine LeO.bind ?_ fun _=>?_
theorem impl_areBalls.mono:∀ a0 a1 k,LeO (impl_areBalls.f k a0 a1) (impl_areBalls.f (k+1) a0 a1):=by
 intro a0 a1 k
 have ih0:=impl_areBalls.mono_l k
 unfold impl_areBalls.f
 repeat' first
   | with_reducible first|exact ih0 ..|exact impl_IsBall.mono ..|exact LeO.refl _|exact LeO.none _|refine LeO.ite ?_ ?_|refine LeO.bind ?_ fun _=>?_
set_option maxHeartbeats 8000000 in
set_option maxRecDepth 100000 in
theorem impl_areBalls.calls (k:Nat) (a0:Int) (A1:Option Addr) (c1:Nat) (l1:List (S28)) (r:Bool) (w:World) (hr1:Kd.C k28 w A1 l1.length l1) (hc1:l1.length≤c1) (h:impl_areBalls.f k a0 l1=some r) :
  Calls Try.prog 61 #[.int .i64 a0,.slice A1 l1.length c1] w fun e w'=>e=.returned (.bool r)∧Below w.heap.size w w':=by
 have hu28:=Try.underlying28
 have HR1:=Aside0.mk hr1
 have HC1:=Aside0.mk hc1
 clear hr1 hc1
 have HB:=Aside0.mk (Below.refl w.heap.size w)
 have H:=h
 unfold impl_areBalls.f at H
 clear h
 have H':=Aside0.mk H
 clear H
 go_enter Try.func61,Try.ntmps61
 go_wp2
 go_loopg [9] k (fun kq v9 w'=>∃ (x9_1:Int),v9=.int .i64 x9_1∧Aside0 (impl_areBalls.l0 kq a0 l1 (l1.length:Int) x9_1=some r)∧Aside0 (kq≤k)∧Aside0 (Below w.heap.size w w'))
 case atStart=>exact ⟨(0),hB,H',⟨Nat.le_refl _⟩,⟨blA⟩⟩
 case round=>
  clear H'
  try clear c1
  obtain ⟨x9_1,rfl,HA,HK1,HB⟩:=hrel
  cases gk with
  | zero=>exact absurd HA.out (by simp [impl_areBalls.l0])
  | succ k1=>
   have H:=HA.out
   clear HA
   simp only [impl_areBalls.l0] at H
   by_cases c3:x9_1<(l1.length:Int)
   ·
    rw [if_pos c3] at H
    have c3b0:=decide_eq_true c3
    clear c3
    by_cases c4:0≤x9_1
    rotate_left
    ·
     rw [if_neg c4] at H
     exact absurd H (by simp)
    rw [if_pos c4] at H
    have c4b0:=decide_eq_true c4
    clear c4
    by_cases c5:x9_1<(l1.length:Int)
    rotate_left
    ·
     rw [if_neg c5] at H
     exact absurd H (by simp)
    rw [if_pos c5] at H
    have c5b0:=decide_eq_true c5
    clear c5
    replace H:=bS H
    obtain ⟨t594,A6,H⟩:=H
    try dsimp only at H
    by_cases c7:t594=true
    focus
     subst c7
     rw [if_pos rfl] at H
     try dsimp only at H
     have H':=Aside0.mk H
     clear H
     have p592:0≤(x9_1:Int):=dA
     have q592:x9_1<(l1.length:Int):=dA
     obtain ⟨ad592,e592,hx592_0,hx592_1,hx592_2⟩:=at_T28 HR1.out x9_1 p592 q592
     cases e592
     replace hx592_0:=(HB.out.cell (World.block_lt_of_cell? w _ hx592_0)).trans hx592_0
     replace hx592_1:=(HB.out.cell (World.block_lt_of_cell? w _ hx592_1)).trans hx592_1
     replace hx592_2:=(HB.out.cell (World.block_lt_of_cell? w _ hx592_2)).trans hx592_2
     replace p592:=eq_true p592
     replace q592:=eq_true q592
    rotate_left
    focus
     replace c7:=Bool.eq_false_iff.mpr c7
     subst c7
     rw [if_neg (show ¬ (false=true) by decide)] at H
     try dsimp only at H
     obtain rfl:=Option.some.inj H
     have p592:0≤(x9_1:Int):=dA
     have q592:x9_1<(l1.length:Int):=dA
     obtain ⟨ad592,e592,hx592_0,hx592_1,hx592_2⟩:=at_T28 HR1.out x9_1 p592 q592
     cases e592
     replace hx592_0:=(HB.out.cell (World.block_lt_of_cell? w _ hx592_0)).trans hx592_0
     replace hx592_1:=(HB.out.cell (World.block_lt_of_cell? w _ hx592_1)).trans hx592_1
     replace hx592_2:=(HB.out.cell (World.block_lt_of_cell? w _ hx592_2)).trans hx592_2
     replace p592:=eq_true p592
     replace q592:=eq_true q592
    rotate_left
    all_goals
     go_wp2_with (first|((with_reducible refine gate_dst (N:=6) rfl ?_);refine bxE (cs:=#[.int .i64 0,.int .i64 0,.int .i64 0]) (t:=28) ?_;intro gb593 hg w8 hbox hb;have BK593:=Aside0.mk hbox;have GW593:=sA hg;have GE593:=sA hg;replace HB:=lB hb;clear hb hbox hg;obtain ⟨hcz9_0,hcz9_1,hcz9_2,hfz9_0,hfz9_1,hfz9_2⟩:=cz3 BK593)|((with_reducible refine gd 15 rfl ?_);refine gC (some 15) rfl Try.func14 (impl_IsBall.calls (w:=_) (h:=A6.out)) ?_;intro w10 hb;have n0_:=Aside0.mk (blk_below (g:=gb593) (o:=.cells #[.int .i64 ((rd_T28 l1 x9_1).f0),.int .i64 ((rd_T28 l1 x9_1).f1),.int .i64 ((rd_T28 l1 x9_1).f2)] 28 (0,0)) (bpA BK593) hb);have n1_:=lB hb;clear BK593;clear HB;have BK593:=n0_;have HB:=n1_;clear n0_ n1_;clear hb))
    ·
     go_roundg k1
     case measure=>have:=HK1.out;omega
     case rel=>exact ⟨(wrap64 (x9_1+1)),hB,H',⟨by have:=HK1.out;omega⟩,⟨blA⟩⟩
    ·
     go_ret
     exact finA blA
   ·
    rw [if_neg c3] at H
    have c3b0:=decide_eq_false c3
    clear c3
    replace H:=bS H
    obtain ⟨t595,A14,H⟩:=H
    try dsimp only at H
    obtain rfl:=Option.some.inj H
    go_wp2_with (first|((with_reducible refine gd 19 rfl ?_);refine gC (some 19) rfl Try.func57 (impl_isPrime.calls (w:=_) (h:=A14.out)) ?_;rintro _ ⟨nd,rfl⟩))
    go_ret
    exact finA blA
def impl_areMatrices.l0:Nat→List (S26)→Int→Int→Option (Bool)
 | 0,_,_,_=>none
 | k+1,x5,x6,x7=>if x7<x6 then (if 0≤x7 then (if x7<(x5.length:Int) then ((impl_IsMatrix.f k ((rd_T26 x5 x7).f0.f0) ((rd_T26 x5 x7).f0.f1) ((rd_T26 x5 x7).f1.f0) ((rd_T26 x5 x7).f1.f1)).bind fun t613=>(if t613=true then (impl_areMatrices.l0 k x5 x6 (wrap64 (x7+1))) else (some false))) else (none)) else (none)) else (some true)
def impl_areMatrices.f (k:Nat) (l0:List (S26)):Option (Bool):=impl_areMatrices.l0 k l0 (l0.length:Int) 0
theorem impl_areMatrices.mono_l:∀ k,(∀ y0 y1 y2,LeO (impl_areMatrices.l0 k y0 y1 y2) (impl_areMatrices.l0 (k+1) y0 y1 y2))
 | 0=>fun _ _ _ r h=>by simp [impl_areMatrices.l0] at h
 | k+1=>by
  have ih0:=impl_areMatrices.mono_l k
  ·
   intro y0 y1 y2
   unfold impl_areMatrices.l0
   repeat' first
   | with_reducible first|exact ih0 ..|exact impl_IsMatrix.mono ..|exact LeO.refl _|exact LeO.none _|refine LeO.ite ?_ ?_|refine LeO.bind ?_ fun _=>?_
theorem impl_areMatrices.mono:∀ a0 k,LeO (impl_areMatrices.f k a0) (impl_areMatrices.f (k+1) a0):=by
 intro a0 k
 have ih0:=impl_areMatrices.mono_l k
 unfold impl_areMatrices.f
 repeat' first
   | with_reducible first|exact ih0 ..|exact impl_IsMatrix.mono ..|exact LeO.refl _|exact LeO.none _|refine LeO.ite ?_ ?_|refine LeO.bind ?_ fun _=>?_
set_option maxHeartbeats 8000000 in
set_option maxRecDepth 100000 in
theorem impl_areMatrices.calls (k:Nat) (A0:Option Addr) (c0:Nat) (l0:List (S26)) (r:Bool) (w:World) (hr0:Kd.C k26 w A0 l0.length l0) (hc0:l0.length≤c0) (h:impl_areMatrices.f k l0=some r) :
  Calls Try.prog 63 #[.slice A0 l0.length c0] w fun e w'=>e=.returned (.bool r)∧Below w.heap.size w w':=by
 have hu26:=Try.underlying26
 have HR0:=Aside0.mk hr0
 have HC0:=Aside0.mk hc0
 clear hr0 hc0
 have HB:=Aside0.mk (Below.refl w.heap.size w)
 have H:=h
 unfold impl_areMatrices.f at H
 clear h
 have H':=Aside0.mk H
 clear H
 go_enter Try.func63,Try.ntmps63
 go_wp2
 go_loopg [7] k (fun kq v7 w'=>∃ (x7_1:Int),v7=.int .i64 x7_1∧Aside0 (impl_areMatrices.l0 kq l0 (l0.length:Int) x7_1=some r)∧Aside0 (kq≤k)∧Aside0 (Below w.heap.size w w'))
 case atStart=>exact ⟨(0),hB,H',⟨Nat.le_refl _⟩,⟨blA⟩⟩
 case round=>
  clear H'
  obtain ⟨x7_1,rfl,HA,HK1,HB⟩:=hrel
  cases gk with
  | zero=>exact absurd HA.out (by simp [impl_areMatrices.l0])
  | succ k1=>
   have H:=HA.out
   clear HA
   simp only [impl_areMatrices.l0] at H
   by_cases c2:x7_1<(l0.length:Int)
   ·
    rw [if_pos c2] at H
    have c2b0:=decide_eq_true c2
    clear c2
    by_cases c3:0≤x7_1
    rotate_left
    ·
     rw [if_neg c3] at H
     exact absurd H (by simp)
    rw [if_pos c3] at H
    have c3b0:=decide_eq_true c3
    clear c3
    by_cases c4:x7_1<(l0.length:Int)
    rotate_left
    ·
     rw [if_neg c4] at H
     exact absurd H (by simp)
    rw [if_pos c4] at H
    have c4b0:=decide_eq_true c4
    clear c4
    replace H:=bS H
    obtain ⟨t613,A5,H⟩:=H
    try dsimp only at H
    by_cases c6:t613=true
    focus
     subst c6
     rw [if_pos rfl] at H
     try dsimp only at H
     have H':=Aside0.mk H
     clear H
     have p611:0≤(x7_1:Int):=dA
     have q611:x7_1<(l0.length:Int):=dA
     obtain ⟨ad611,e611,hx611_0,hx611_1,hx611_2,hx611_3⟩:=at_T26 HR0.out x7_1 p611 q611
     cases e611
     replace hx611_0:=(HB.out.cell (World.block_lt_of_cell? w _ hx611_0)).trans hx611_0
     replace hx611_1:=(HB.out.cell (World.block_lt_of_cell? w _ hx611_1)).trans hx611_1
     replace hx611_2:=(HB.out.cell (World.block_lt_of_cell? w _ hx611_2)).trans hx611_2
     replace hx611_3:=(HB.out.cell (World.block_lt_of_cell? w _ hx611_3)).trans hx611_3
     replace p611:=eq_true p611
     replace q611:=eq_true q611
    rotate_left
    focus
     replace c6:=Bool.eq_false_iff.mpr c6
     subst c6
     rw [if_neg (show ¬ (false=true) by decide)] at H
     try dsimp only at H
     obtain rfl:=Option.some.inj H
     have p611:0≤(x7_1:Int):=dA
     have q611:x7_1<(l0.length:Int):=dA
     obtain ⟨ad611,e611,hx611_0,hx611_1,hx611_2,hx611_3⟩:=at_T26 HR0.out x7_1 p611 q611
     cases e611
     replace hx611_0:=(HB.out.cell (World.block_lt_of_cell? w _ hx611_0)).trans hx611_0
     replace hx611_1:=(HB.out.cell (World.block_lt_of_cell? w _ hx611_1)).trans hx611_1
     replace hx611_2:=(HB.out.cell (World.block_lt_of_cell? w _ hx611_2)).trans hx611_2
     replace hx611_3:=(HB.out.cell (World.block_lt_of_cell? w _ hx611_3)).trans hx611_3
     replace p611:=eq_true p611
     replace q611:=eq_true q611
    rotate_left
    all_goals
     go_wp2_with (first|((with_reducible refine gate_dst (N:=4) rfl ?_);refine bxE (cs:=#[.int .i64 0,.int .i64 0,.int .i64 0,.int .i64 0]) (t:=26) ?_;intro gb612 hg w7 hbox hb;have BK612:=Aside0.mk hbox;have GW612:=sA hg;have GE612:=sA hg;replace HB:=lB hb;clear hb hbox hg;obtain ⟨hcz8_0,hcz8_1,hcz8_2,hcz8_3,hfz8_0,hfz8_1,hfz8_2,hfz8_3⟩:=cz4 BK612)|((with_reducible refine gd 12 rfl ?_);refine gC (some 12) rfl Try.func42 (impl_IsMatrix.calls (w:=_) (h:=A5.out)) ?_;intro w9 hb;have n0_:=Aside0.mk (blk_below (g:=gb612) (o:=.cells #[.int .i64 ((rd_T26 l0 x7_1).f0.f0),.int .i64 ((rd_T26 l0 x7_1).f0.f1),.int .i64 ((rd_T26 l0 x7_1).f1.f0),.int .i64 ((rd_T26 l0 x7_1).f1.f1)] 26 (0,0)) (bpA BK612) hb);have n1_:=lB hb;clear BK612;clear HB;have BK612:=n0_;have HB:=n1_;clear n0_ n1_;clear hb))
    ·
     go_roundg k1
     case measure=>have:=HK1.out;omega
     case rel=>exact ⟨(wrap64 (x7_1+1)),hB,H',⟨by have:=HK1.out;omega⟩,⟨blA⟩⟩
    ·
     go_ret
     exact finA blA
   ·
    rw [if_neg c2] at H
    have c2b0:=decide_eq_false c2
    clear c2
    obtain rfl:=Option.some.inj H
    go_wp2
    go_ret
    exact finA blA
end Go.Proofs.Ytlpmefmaplhfdaa.PAll
