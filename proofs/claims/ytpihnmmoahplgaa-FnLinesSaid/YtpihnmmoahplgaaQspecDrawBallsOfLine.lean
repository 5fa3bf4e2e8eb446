import Derived.Test.YtpihnmmoahplgaaQx
import Derived.Test.YtpihnmmoahplgaaQimplIsEnd
import Derived.Test.YtpihnmmoahplgaaQspecl01End
import Derived.Test.YtpihnmmoahplgaaQspecl01EndOf
import Derived.Test.YtpihnmmoahplgaaQspecl01Near
import Derived.Test.YtpihnmmoahplgaaQspecl05Small
namespace Go.Proofs.Ytpihnmmoahplgaa.PAll
open Go.RowKit Go.Proofs.YtpihnmmoahplgaaW.PrintWords Go.Proofs.YtpihnmmoahplgaaW.PrintLast Go.Proofs.YtpihnmmoahplgaaW.PrintMore
attribute [local go_sem] Go.Proofs.Ytpihnmmoahplgaa.Aux.setCell_drewN Go.Proofs.Ytpihnmmoahplgaa.Aux.isSome_setCell Go.Proofs.Ytpihnmmoahplgaa.Aux.max_eight bq bo cG cF ba bZ bp bm
set_option linter.unusedVariables false
set_option linter.unusedSimpArgs false
def ac.j0:Nat→Int→Bool→List Int→Int→Int→Option (Int × Int × Int × Int)
 | 0,_,_,_,_,_=>none
 | k+1,x8,x9,x1000,x1001,x1002=>if x9=true then (some (1,0,x1001,x1002)) else (if x8=2 then ((ag.f x1000 x1001 x1002 (([2,0,1000001]:List Int))).bind fun bt409=>((ag.f x1000 bt409.2.1 bt409.2.2 (([0,4,(-1)]:List Int))).bind fun bt415=>(some (bt409.1,bt415.1,bt415.2.1,bt415.2.2)))) else ((ae.f x1000 x1001 x1002 20).bind fun bt418=>((ae.f x1000 bt418.2.1 bt418.2.2 200).bind fun bt421=>((ae.f x1000 bt421.2.1 bt421.2.2 2000001).bind fun bt424=>((ag.f x1000 bt424.2.1 bt424.2.2 (([wrap64 (bt418.1 - 10),wrap64 (bt421.1 - 100),wrap64 (bt424.1 - 1000000)]:List Int))).bind fun bt430=>((ae.f x1000 bt430.2.1 bt430.2.2 20).bind fun bt433=>((ae.f x1000 bt433.2.1 bt433.2.2 8).bind fun bt436=>((aa.f k 2 bt436.1).bind fun t439=>((ae.f x1000 bt436.2.1 bt436.2.2 6).bind fun bt440=>((aa.f k 3 bt440.1).bind fun t443=>((ae.f x1000 bt440.2.1 bt440.2.2 1000000).bind fun bt444=>((ag.f x1000 bt444.2.1 bt444.2.2 (([1,1,wrap64 (1+bt433.1),t439,t443,wrap64 (1+bt444.1)]:List Int))).bind fun bt450=>((aZ.f k bt430.1 bt450.1).bind fun bt453=>(some (bt453.1,bt453.2.1,bt450.2.1,bt450.2.2)))))))))))))))
def ac.f (k:Nat) (s0_0:List Int) (s0_1 s0_2:Int):Option (Int × Int × Int × Int):=(ae.f s0_0 s0_1 s0_2 30).bind fun bt403=>(if bt403.1=0 then (ac.j0 k bt403.1 (bt403.1 == 0) s0_0 bt403.2.1 bt403.2.2) else (ac.j0 k bt403.1 (bt403.1 == 1) s0_0 bt403.2.1 bt403.2.2))
set_option maxHeartbeats 8000000 in
set_option maxRecDepth 100000 in
theorem ac.calls (k g:Nat) (s0_0:List Int) (s0_1 s0_2 r1 r2 r3 r4:Int) (w0 w:World) (hI:aW w0 w g s0_0 s0_1 s0_2) (hB:Below w0.heap.size w0 w) (h:ac.f k s0_0 s0_1 s0_2=some (r1,r2,r3,r4)) :
  Calls Try.prog 51 #[.pointer (some ⟨g,0,none⟩)] w fun e w'=>e=.returned (.agg #[.int .i64 r1,.int .i64 r2])∧aW w0 w' g s0_0 r3 r4∧Below w0.heap.size w0 w'∧a7 w w' g none:=by
 have hu28:=Try.underlying28
 have HI0:=aA.mk hI
 have HK:=aA.mk (a7.refl w g none)
 have HL:=aA.mk hB.size
 clear hI
 have HW0:=aA.mk hB.size
 have HB:=aA.mk hB
 clear hB
 have H:=h
 unfold ac.f at H
 clear h
 replace H:=bS H
 obtain ⟨⟨t403,t404,t405⟩,A2,H⟩:=H
 try dsimp only at H
 have HC3:=aA.mk H
 clear H
 go_enter Try.func51,Try.ntmps51
 go_upto_if 9 with (first|((with_reducible refine aH (N:=2) rfl ?_);refine bxE (cs:=#[.int .i64 0,.int .i64 0]) (t:=28) ?_;intro gb402 hg w4 hbox hb;have BK402:=aA.mk hbox;have GW402:=kzA HK hg;have GE402:=aA.mk (Nat.le_trans HW0.out (kzA HK hg).out);have NB0_402:=inA hg (aW.lt (iA HI0));have NB402_0:=inB hg (aW.lt (iA HI0));replace HI0:=aA.mk (aW.below (iA HI0) hb);replace HK:=kbA HK hb;replace HB:=lI hb;clear hb hbox hg)|((with_reducible refine gd 8 rfl ?_);refine gC (some 8) rfl Try.func50 (ae.calls (w:=_) (g:=g) (w0:=w0) (hI:=iA HI0) (hB:=blI) (h:=A2.out)) ?_;rintro w5 ⟨hi,hb,hk⟩;replace BK402:=kbk hk BK402 NB402_0;replace HK:=kkA HK hk;replace HB:=aA.mk hb;replace HI0:=aA.mk hi;clear hi hb hk))
 (try simp only [Act.put,List.setIfInBounds_toArray,List.set_cons_zero,List.set_cons_succ])
 go_cut [9] (fun v9 wc=>∃ (kq:Nat) (x9_2:Bool),v9=.bool x9_2∧aA (ac.j0 kq t403 x9_2 s0_0 t404 t405=some (r1,r2,r3,r4))∧aA (kq≤k)∧aA (wc.heap[gb402]?=some (.cells #[.int .i64 0,.int .i64 0] 28 (0,0)))∧aA (aW w0 wc g s0_0 t404 t405)∧aA (a7 w wc g none)∧aA (Below w0.heap.size w0 wc))
 case first=>
  have H:=HC3.out
  clear HC3
  by_cases c6:t403=0
  ·
   rw [if_pos c6] at H
   have c6b0:(t403 == 0)=true:=beq_iff_eq.mpr c6
   have c6b1:(t403 != 0)=false:=bne_eq_false_iff_eq.mpr c6
   clear c6
   (first|rw [c6b0]|(simp only [cl,co];rw [c6b0])|skip)
   have H':=aA.mk H
   clear H
   go_wp2
   go_meet
   case rel=>exact ⟨_,((t403 == 0)),hB,H',⟨by first|omega|exact Nat.le_refl _⟩,⟨bkA BK402⟩,⟨iA HI0⟩,⟨kpA⟩,⟨blI⟩⟩
  ·
   rw [if_neg c6] at H
   have c6b0:(t403 == 0)=false:=beq_eq_false_iff_ne.mpr c6
   have c6b1:(t403 != 0)=true:=bne_iff_ne.mpr c6
   (first|rw [c6b0]|(simp only [cl,co];rw [c6b0])|skip)
   have H':=aA.mk H
   clear H
   go_wp2
   go_meet
   case rel=>exact ⟨_,((t403 == 1)),hB,H',⟨by first|omega|exact Nat.le_refl _⟩,⟨bkA BK402⟩,⟨iA HI0⟩,⟨kpA⟩,⟨blI⟩⟩
 case rest=>
  clear HC3
  try clear c6
  try clear c6b0
  try clear c6b1
  obtain ⟨kq,x9_2,rfl,HA,HJ2,BK402,HI0,HK,HB⟩:=hcut
  cases kq with
  | zero=>exact absurd HA.out (by simp [ac.j0])
  | succ kj2=>
   have H:=HA.out
   clear HA
   simp only [ac.j0] at H
   by_cases c7:x9_2=true
   ·
    subst c7
    rw [if_pos rfl] at H
    try dsimp only at H
    simp only [Option.some.injEq,Prod.mk.injEq] at H
    obtain ⟨rfl,rfl,rfl,rfl⟩:=H
    have hnb8:=NB402_0.out
    obtain ⟨hcz9_0,hcz9_1,hfz9_0,hfz9_1⟩:=cz2 BK402
    go_wp2
    refine bodyPost_ret (results_cell_row rfl _ _ gb402 28 #[.int .i64 1,.int .i64 0] (0,0) _ rfl (bpA BK402) Try.underlying28 rfl (by kernel_rfl)) rfl ?_
    exact ⟨eW,iA HI0,blI,kpA⟩
   ·
    replace c7:=Bool.eq_false_iff.mpr c7
    subst c7
    rw [if_neg (show ¬ (false=true) by decide)] at H
    try dsimp only at H
    by_cases c10:t403=2
    ·
     rw [if_pos c10] at H
     have c10b0:(t403 == 2)=true:=beq_iff_eq.mpr c10
     have c10b1:(t403 != 2)=false:=bne_eq_false_iff_eq.mpr c10
     clear c10
     obtain ⟨y406,hy406⟩:∃ y_:List Int,y_=(([2,0,1000001]:List Int)):=⟨_,rfl⟩
     replace H:((ag.f s0_0 t404 t405 y406).bind fun bt409=>((ag.f s0_0 bt409.2.1 bt409.2.2 (([0,4,(-1)]:List Int))).bind fun bt415=>(some (bt409.1,bt415.1,bt415.2.1,bt415.2.2))))=some (r1,r2,r3,r4):=rH hy406 H
     have Ny406:=aA.mk hy406
     clear hy406
     replace H:=bS H
     obtain ⟨⟨t409,t410,t411⟩,A11,H⟩:=H
     try dsimp only at H
     obtain ⟨y412,hy412⟩:∃ y_:List Int,y_=(([0,4,(-1)]:List Int)):=⟨_,rfl⟩
     replace H:((ag.f s0_0 t410 t411 y412).bind fun bt415=>(some (t409,bt415.1,bt415.2.1,bt415.2.2)))=some (r1,r2,r3,r4):=rH hy412 H
     have Ny412:=aA.mk hy412
     clear hy412
     replace H:=bS H
     obtain ⟨⟨t415,t416,t417⟩,A12,H⟩:=H
     try dsimp only at H
     simp only [Option.some.injEq,Prod.mk.injEq] at H
     obtain ⟨rfl,rfl,rfl,rfl⟩:=H
     go_wp2_with (first|((with_reducible refine aH (N:=16) rfl ?_);refine Kd.R_lit (Kd.int .i64) _ 2 ?hg (N:=16) ?hd (xs:=([2,0,1000001]:List Int)) (inner:=[.int .i64 2,.int .i64 0,.int .i64 1000001]) (ok:=fun _=>True) (okp:=fun _=>True) ?hr ?hp (fun _ hk=>hk) trivial (Below.refl _ _) (Nat.le_refl _) (by simp) ?_;(case hd=>rfl);(case hg=>rfl);(case hr=>first|(go_simp;done)|(go_simp;rfl));(case hp=>exact (aY.one (show Kd.M (Kd.int .i64) _ _ _ 2 [.int .i64 2] from rfl) (aY.one (show Kd.M (Kd.int .i64) _ _ _ 0 [.int .i64 0] from rfl) (aY.one (show Kd.M (Kd.int .i64) _ _ _ 1000001 [.int .i64 1000001] from rfl) (aY.none _ _)))));intro v407 w13 ho14 hb hg_ hnew_;clear hg_ hnew_;(first|rw [← Ny406.out] at ho14|(simp only [Int.reduceToNat] at ho14;rw [← Ny406.out] at ho14));have HO408:=aA.mk (Kd.R_lower ho14 (dw (w:=w) (g:=g) (row:=none) kpA));replace BK402:=kB BK402 hb;replace HI0:=aA.mk (aW.below (iA HI0) hb);replace HK:=kbA HK hb;replace HB:=lI hb;clear hb ho14;obtain ⟨Ao15,co15,eo15⟩:=Kd.R_slice HO408.out;subst eo15)|((with_reducible refine gd 17 rfl ?_);refine gC (some 17) rfl Try.func40 (ag.calls (w:=_) (g:=g) (w0:=w0) (hI:=iA HI0) (hB:=blI) (hr1:=cR (Kd.R_reads' HO408.out).2.2) (hc1:=(Kd.R_reads' HO408.out).2.1) (hf1:=cw (aW.own_ne HI0.out HO408.out (by decide))) (h:=A11.out)) ?_;rintro w16 ⟨hi,hb,hk⟩;replace BK402:=kbk hk BK402 NB402_0;replace HO408:=aA.mk (Kd.R_mono (Kd.R_keep (aW.apart (show aW w0 _ g s0_0 t404 t405 from iA HI0) (rA HO408) (by decide)) hk (fun _ h=>h.2)) (fun _ h=>h.1));replace HK:=kkA HK hk;replace HB:=aA.mk hb;replace HI0:=aA.mk hi;clear hi hb hk)|((with_reducible refine aH (N:=19) rfl ?_);refine Kd.R_lit (Kd.int .i64) _ 2 ?hg (N:=19) ?hd (xs:=([0,4,(-1)]:List Int)) (inner:=[.int .i64 0,.int .i64 4,.int .i64 (-1)]) (ok:=fun _=>True) (okp:=fun _=>True) ?hr ?hp (fun _ hk=>hk) trivial (Below.refl _ _) (Nat.le_refl _) (by simp) ?_;(case hd=>rfl);(case hg=>rfl);(case hr=>first|(go_simp;done)|(go_simp;rfl));(case hp=>exact (aY.one (show Kd.M (Kd.int .i64) _ _ _ 0 [.int .i64 0] from rfl) (aY.one (show Kd.M (Kd.int .i64) _ _ _ 4 [.int .i64 4] from rfl) (aY.one (show Kd.M (Kd.int .i64) _ _ _ (-1) [.int .i64 (-1)] from rfl) (aY.none _ _)))));intro v413 w17 ho18 hb hg_ hnew_;clear hg_ hnew_;(first|rw [← Ny412.out] at ho18|(simp only [Int.reduceToNat] at ho18;rw [← Ny412.out] at ho18));have HO414:=aA.mk (Kd.R_lower (Kd.R_new' ho18 (Kd.R_lt (rA HO408))) (dw (w:=w) (g:=g) (row:=none) kpA));replace HO408:=aA.mk (Kd.R_elder' (rA HO408) (Kd.R_base ho18) hb);replace BK402:=kB BK402 hb;replace HI0:=aA.mk (aW.below (iA HI0) hb);replace HK:=kbA HK hb;replace HB:=lI hb;clear hb ho18;obtain ⟨Ao19,co19,eo19⟩:=Kd.R_slice HO414.out;subst eo19)|((with_reducible refine gd 20 rfl ?_);refine gC (some 20) rfl Try.func40 (ag.calls (w:=_) (g:=g) (w0:=w0) (hI:=iA HI0) (hB:=blI) (hr1:=cR (Kd.R_reads' HO414.out).2.2) (hc1:=(Kd.R_reads' HO414.out).2.1) (hf1:=cw (aW.own_ne HI0.out HO414.out (by decide))) (h:=A12.out)) ?_;rintro w20 ⟨hi,hb,hk⟩;replace BK402:=kbk hk BK402 NB402_0;replace HO408:=aA.mk (Kd.R_mono (Kd.R_keep (aW.apart (show aW w0 _ g s0_0 t410 t411 from iA HI0) (rA HO408) (by decide)) hk (fun _ h=>h.2)) (fun _ h=>h.1));replace HO414:=aA.mk (Kd.R_mono (Kd.R_keep (aW.apart (show aW w0 _ g s0_0 t410 t411 from iA HI0) (rA HO414) (by decide)) hk (fun _ h=>h.2)) (fun _ h=>h.1));replace HK:=kkA HK hk;replace HB:=aA.mk hb;replace HI0:=aA.mk hi;clear hi hb hk;have hnb21:=NB402_0.out;obtain ⟨hcz22_0,hcz22_1,hfz22_0,hfz22_1⟩:=cz2 BK402))
     refine bodyPost_ret (results_cell_row rfl _ _ gb402 28 #[.int .i64 t409,.int .i64 t415] (0,0) _ rfl (bpA BK402) Try.underlying28 rfl (by kernel_rfl)) rfl ?_
     exact ⟨eW,iA HI0,blI,kpA⟩
    ·
     rw [if_neg c10] at H
     have c10b0:(t403 == 2)=false:=beq_eq_false_iff_ne.mpr c10
     have c10b1:(t403 != 2)=true:=bne_iff_ne.mpr c10
     replace H:=bS H
     obtain ⟨⟨t418,t419,t420⟩,A23,H⟩:=H
     try dsimp only at H
     replace H:=bS H
     obtain ⟨⟨t421,t422,t423⟩,A24,H⟩:=H
     try dsimp only at H
     replace H:=bS H
     obtain ⟨⟨t424,t425,t426⟩,A25,H⟩:=H
     try dsimp only at H
     obtain ⟨y427,hy427⟩:∃ y_:List Int,y_=(([wrap64 (t418 - 10),wrap64 (t421 - 100),wrap64 (t424 - 1000000)]:List Int)):=⟨_,rfl⟩
     replace H:((ag.f s0_0 t425 t426 y427).bind fun bt430=>((ae.f s0_0 bt430.2.1 bt430.2.2 20).bind fun bt433=>((ae.f s0_0 bt433.2.1 bt433.2.2 8).bind fun bt436=>((aa.f kj2 2 bt436.1).bind fun t439=>((ae.f s0_0 bt436.2.1 bt436.2.2 6).bind fun bt440=>((aa.f kj2 3 bt440.1).bind fun t443=>((ae.f s0_0 bt440.2.1 bt440.2.2 1000000).bind fun bt444=>((ag.f s0_0 bt444.2.1 bt444.2.2 (([1,1,wrap64 (1+bt433.1),t439,t443,wrap64 (1+bt444.1)]:List Int))).bind fun bt450=>((aZ.f kj2 bt430.1 bt450.1).bind fun bt453=>(some (bt453.1,bt453.2.1,bt450.2.1,bt450.2.2)))))))))))=some (r1,r2,r3,r4):=rH hy427 H
     have Ny427:=aA.mk hy427
     clear hy427
     replace H:=bS H
     obtain ⟨⟨t430,t431,t432⟩,A26,H⟩:=H
     try dsimp only at H
     replace H:=bS H
     obtain ⟨⟨t433,t434,t435⟩,A27,H⟩:=H
     try dsimp only at H
     replace H:=bS H
     obtain ⟨⟨t436,t437,t438⟩,A28,H⟩:=H
     try dsimp only at H
     replace H:=bS H
     obtain ⟨t439,A29,H⟩:=H
     try dsimp only at H
     replace H:=bS H
     obtain ⟨⟨t440,t441,t442⟩,A30,H⟩:=H
     try dsimp only at H
     replace H:=bS H
     obtain ⟨t443,A31,H⟩:=H
     try dsimp only at H
     replace H:=bS H
     obtain ⟨⟨t444,t445,t446⟩,A32,H⟩:=H
     try dsimp only at H
     obtain ⟨y447,hy447⟩:∃ y_:List Int,y_=(([1,1,wrap64 (1+t433),t439,t443,wrap64 (1+t444)]:List Int)):=⟨_,rfl⟩
     replace H:((ag.f s0_0 t445 t446 y447).bind fun bt450=>((aZ.f kj2 t430 bt450.1).bind fun bt453=>(some (bt453.1,bt453.2.1,bt450.2.1,bt450.2.2))))=some (r1,r2,r3,r4):=rH hy447 H
     have Ny447:=aA.mk hy447
     clear hy447
     replace H:=bS H
     obtain ⟨⟨t450,t451,t452⟩,A33,H⟩:=H
     try dsimp only at H
     replace H:=bS H
     obtain ⟨⟨t453,t454,t455⟩,A34,H⟩:=H
     try dsimp only at H
     simp only [Option.some.injEq,Prod.mk.injEq] at H
     obtain ⟨rfl,rfl,rfl,rfl⟩:=H
     go_wp2_with (first|((with_reducible refine gd 24 rfl ?_);refine gC (some 24) rfl Try.func50 (ae.calls (w:=_) (g:=g) (w0:=w0) (hI:=iA HI0) (hB:=blI) (h:=A23.out)) ?_;rintro w35 ⟨hi,hb,hk⟩;replace BK402:=kbk hk BK402 NB402_0;replace HK:=kkA HK hk;replace HB:=aA.mk hb;replace HI0:=aA.mk hi;clear hi hb hk)|((with_reducible refine gd 27 rfl ?_);refine gC (some 27) rfl Try.func50 (ae.calls (w:=_) (g:=g) (w0:=w0) (hI:=iA HI0) (hB:=blI) (h:=A24.out)) ?_;rintro w36 ⟨hi,hb,hk⟩;replace BK402:=kbk hk BK402 NB402_0;replace HK:=kkA HK hk;replace HB:=aA.mk hb;replace HI0:=aA.mk hi;clear hi hb hk)|((with_reducible refine gd 30 rfl ?_);refine gC (some 30) rfl Try.func50 (ae.calls (w:=_) (g:=g) (w0:=w0) (hI:=iA HI0) (hB:=blI) (h:=A25.out)) ?_;rintro w37 ⟨hi,hb,hk⟩;replace BK402:=kbk hk BK402 NB402_0;replace HK:=kkA HK hk;replace HB:=aA.mk hb;replace HI0:=aA.mk hi;clear hi hb hk)|((with_reducible refine aH (N:=32) rfl ?_);refine Kd.R_lit (Kd.int .i64) _ 2 ?hg (N:=32) ?hd (xs:=([wrap64 (t418 - 10),wrap64 (t421 - 100),wrap64 (t424 - 1000000)]:List Int)) (inner:=[.int .i64 (wrap64 (t418 - 10)),.int .i64 (wrap64 (t421 - 100)),.int .i64 (wrap64 (t424 - 1000000))]) (ok:=fun _=>True) (okp:=fun _=>True) ?hr ?hp (fun _ hk=>hk) trivial (Below.refl _ _) (Nat.le_refl _) (by simp) ?_;(case hd=>rfl);(case hg=>rfl);(case hr=>first|(go_simp;done)|(go_simp;rfl));(case hp=>exact (aY.one (show Kd.M (Kd.int .i64) _ _ _ (wrap64 (t418 - 10)) [.int .i64 (wrap64 (t418 - 10))] from rfl) (aY.one (show Kd.M (Kd.int .i64) _ _ _ (wrap64 (t421 - 100)) [.int .i64 (wrap64 (t421 - 100))] from rfl) (aY.one (show Kd.M (Kd.int .i64) _ _ _ (wrap64 (t424 - 1000000)) [.int .i64 (wrap64 (t424 - 1000000))] from rfl) (aY.none _ _)))));intro v428 w38 ho39 hb hg_ hnew_;clear hg_ hnew_;(first|rw [← Ny427.out] at ho39|(simp only [Int.reduceToNat] at ho39;rw [← Ny427.out] at ho39));have HO429:=aA.mk (Kd.R_lower ho39 (dw (w:=w) (g:=g) (row:=none) kpA));replace BK402:=kB BK402 hb;replace HI0:=aA.mk (aW.below (iA HI0) hb);replace HK:=kbA HK hb;replace HB:=lI hb;clear hb ho39;obtain ⟨Ao40,co40,eo40⟩:=Kd.R_slice HO429.out;subst eo40)|((with_reducible refine gd 33 rfl ?_);refine gC (some 33) rfl Try.func40 (ag.calls (w:=_) (g:=g) (w0:=w0) (hI:=iA HI0) (hB:=blI) (hr1:=cR (Kd.R_reads' HO429.out).2.2) (hc1:=(Kd.R_reads' HO429.out).2.1) (hf1:=cw (aW.own_ne HI0.out HO429.out (by decide))) (h:=A26.out)) ?_;rintro w41 ⟨hi,hb,hk⟩;replace BK402:=kbk hk BK402 NB402_0;replace HO429:=aA.mk (Kd.R_mono (Kd.R_keep (aW.apart (show aW w0 _ g s0_0 t425 t426 from iA HI0) (rA HO429) (by decide)) hk (fun _ h=>h.2)) (fun _ h=>h.1));replace HK:=kkA HK hk;replace HB:=aA.mk hb;replace HI0:=aA.mk hi;clear hi hb hk)|((with_reducible refine gd 36 rfl ?_);refine gC (some 36) rfl Try.func50 (ae.calls (w:=_) (g:=g) (w0:=w0) (hI:=iA HI0) (hB:=blI) (h:=A27.out)) ?_;rintro w42 ⟨hi,hb,hk⟩;replace BK402:=kbk hk BK402 NB402_0;replace HO429:=aA.mk (Kd.R_mono (Kd.R_keep (aW.apart (show aW w0 _ g s0_0 t431 t432 from iA HI0) (rA HO429) (by decide)) hk (fun _ h=>h.2)) (fun _ h=>h.1));replace HK:=kkA HK hk;replace HB:=aA.mk hb;replace HI0:=aA.mk hi;clear hi hb hk)|((with_reducible refine gd 39 rfl ?_);refine gC (some 39) rfl Try.func50 (ae.calls (w:=_) (g:=g) (w0:=w0) (hI:=iA HI0) (hB:=blI) (h:=A28.out)) ?_;rintro w43 ⟨hi,hb,hk⟩;replace BK402:=kbk hk BK402 NB402_0;replace HO429:=aA.mk (Kd.R_mono (Kd.R_keep (aW.apart (show aW w0 _ g s0_0 t434 t435 from iA HI0) (rA HO429) (by decide)) hk (fun _ h=>h.2)) (fun _ h=>h.1));replace HK:=kkA HK hk;replace HB:=aA.mk hb;replace HI0:=aA.mk hi;clear hi hb hk)|((with_reducible refine gd 40 rfl ?_);refine gC (some 40) rfl Try.func69 (aa.calls (w:=_) (h:=A29.out)) ?_;rintro _ ⟨nd,rfl⟩;(try (rw [cB w43];generalize hq_:World.drewN w43 _=w43;have n0_:aA (Kd.R (Kd.int .i64) 2 w43 w.heap.size (fun _=>True) (.slice Ao40 y427.length co40) y427):=⟨by rw [← hq_];exact (rA HO429)⟩;have n1_:aA (w43.heap[gb402]?=some (.cells #[.int .i64 0,.int .i64 0] 28 (0,0))):=⟨by rw [← hq_];exact (bkA BK402)⟩;have n2_:aA (aW w0 w43 g s0_0 t437 t438):=⟨by rw [← hq_];exact (iA HI0)⟩;have n3_:aA (a7 w w43 g none):=⟨by rw [← hq_];exact kpA⟩;have n4_:aA (Below w0.heap.size w0 w43):=⟨by rw [← hq_];exact blI⟩;clear HO429 BK402 HI0 HK HB hq_;have HO429:=n0_;have BK402:=n1_;have HI0:=n2_;have HK:=n3_;have HB:=n4_;clear n0_ n1_ n2_ n3_ n4_)))|((with_reducible refine gd 42 rfl ?_);refine gC (some 42) rfl Try.func50 (ae.calls (w:=_) (g:=g) (w0:=w0) (hI:=iA HI0) (hB:=blI) (h:=A30.out)) ?_;rintro w44 ⟨hi,hb,hk⟩;replace BK402:=kbk hk BK402 NB402_0;replace HO429:=aA.mk (Kd.R_mono (Kd.R_keep (aW.apart (show aW w0 _ g s0_0 t437 t438 from iA HI0) (rA HO429) (by decide)) hk (fun _ h=>h.2)) (fun _ h=>h.1));replace HK:=kkA HK hk;replace HB:=aA.mk hb;replace HI0:=aA.mk hi;clear hi hb hk)|((with_reducible refine gd 43 rfl ?_);refine gC (some 43) rfl Try.func69 (aa.calls (w:=_) (h:=A31.out)) ?_;rintro _ ⟨nd,rfl⟩;(try (rw [cB w44];generalize hq_:World.drewN w44 _=w44;have n0_:aA (Kd.R (Kd.int .i64) 2 w44 w.heap.size (fun _=>True) (.slice Ao40 y427.length co40) y427):=⟨by rw [← hq_];exact (rA HO429)⟩;have n1_:aA (w44.heap[gb402]?=some (.cells #[.int .i64 0,.int .i64 0] 28 (0,0))):=⟨by rw [← hq_];exact (bkA BK402)⟩;have n2_:aA (aW w0 w44 g s0_0 t441 t442):=⟨by rw [← hq_];exact (iA HI0)⟩;have n3_:aA (a7 w w44 g none):=⟨by rw [← hq_];exact kpA⟩;have n4_:aA (Below w0.heap.size w0 w44):=⟨by rw [← hq_];exact blI⟩;clear HO429 BK402 HI0 HK HB hq_;have HO429:=n0_;have BK402:=n1_;have HI0:=n2_;have HK:=n3_;have HB:=n4_;clear n0_ n1_ n2_ n3_ n4_)))|((with_reducible refine gd 45 rfl ?_);refine gC (some 45) rfl Try.func50 (ae.calls (w:=_) (g:=g) (w0:=w0) (hI:=iA HI0) (hB:=blI) (h:=A32.out)) ?_;rintro w45 ⟨hi,hb,hk⟩;replace BK402:=kbk hk BK402 NB402_0;replace HO429:=aA.mk (Kd.R_mono (Kd.R_keep (aW.apart (show aW w0 _ g s0_0 t441 t442 from iA HI0) (rA HO429) (by decide)) hk (fun _ h=>h.2)) (fun _ h=>h.1));replace HK:=kkA HK hk;replace HB:=aA.mk hb;replace HI0:=aA.mk hi;clear hi hb hk)|((with_reducible refine aH (N:=47) rfl ?_);refine Kd.R_lit (Kd.int .i64) _ 2 ?hg (N:=47) ?hd (xs:=([1,1,wrap64 (1+t433),t439,t443,wrap64 (1+t444)]:List Int)) (inner:=[.int .i64 1,.int .i64 1,.int .i64 (wrap64 (1+t433)),.int .i64 t439,.int .i64 t443,.int .i64 (wrap64 (1+t444))]) (ok:=fun _=>True) (okp:=fun _=>True) ?hr ?hp (fun _ hk=>hk) trivial (Below.refl _ _) (Nat.le_refl _) (by simp) ?_;(case hd=>rfl);(case hg=>rfl);(case hr=>first|(go_simp;done)|(go_simp;rfl));(case hp=>exact (aY.one (show Kd.M (Kd.int .i64) _ _ _ 1 [.int .i64 1] from rfl) (aY.one (show Kd.M (Kd.int .i64) _ _ _ 1 [.int .i64 1] from rfl) (aY.one (show Kd.M (Kd.int .i64) _ _ _ (wrap64 (1+t433)) [.int .i64 (wrap64 (1+t433))] from rfl) (aY.one (show Kd.M (Kd.int .i64) _ _ _ t439 [.int .i64 t439] from rfl) (aY.one (show Kd.M (Kd.int .i64) _ _ _ t443 [.int .i64 t443] from rfl) (aY.one (show Kd.M (Kd.int .i64) _ _ _ (wrap64 (1+t444)) [.int .i64 (wrap64 (1+t444))] from rfl) (aY.none _ _))))))));intro v448 w46 ho47 hb hg_ hnew_;clear hg_ hnew_;(first|rw [← Ny447.out] at ho47|(simp only [Int.reduceToNat] at ho47;rw [← Ny447.out] at ho47));have HO449:=aA.mk (Kd.R_lower (Kd.R_new' ho47 (Kd.R_lt (rA HO429))) (dw (w:=w) (g:=g) (row:=none) kpA));replace HO429:=aA.mk (Kd.R_elder' (rA HO429) (Kd.R_base ho47) hb);replace BK402:=kB BK402 hb;replace HI0:=aA.mk (aW.below (iA HI0) hb);replace HK:=kbA HK hb;replace HB:=lI hb;clear hb ho47;obtain ⟨Ao48,co48,eo48⟩:=Kd.R_slice HO449.out;subst eo48)|((with_reducible refine gd 48 rfl ?_);refine gC (some 48) rfl Try.func40 (ag.calls (w:=_) (g:=g) (w0:=w0) (hI:=iA HI0) (hB:=blI) (hr1:=cR (Kd.R_reads' HO449.out).2.2) (hc1:=(Kd.R_reads' HO449.out).2.1) (hf1:=cw (aW.own_ne HI0.out HO449.out (by decide))) (h:=A33.out)) ?_;rintro w49 ⟨hi,hb,hk⟩;replace BK402:=kbk hk BK402 NB402_0;replace HO429:=aA.mk (Kd.R_mono (Kd.R_keep (aW.apart (show aW w0 _ g s0_0 t445 t446 from iA HI0) (rA HO429) (by decide)) hk (fun _ h=>h.2)) (fun _ h=>h.1));replace HO449:=aA.mk (Kd.R_mono (Kd.R_keep (aW.apart (show aW w0 _ g s0_0 t445 t446 from iA HI0) (rA HO449) (by decide)) hk (fun _ h=>h.2)) (fun _ h=>h.1));replace HK:=kkA HK hk;replace HB:=aA.mk hb;replace HI0:=aA.mk hi;clear hi hb hk)|((with_reducible refine gd 52 rfl ?_);refine gC (some 52) rfl Try.func63 (aZ.calls (w:=_) (h:=A34.out)) ?_;intro w50 hb;replace HO429:=aA.mk (Kd.R_below (rA HO429) hb);replace HO449:=aA.mk (Kd.R_below (rA HO449) hb);replace BK402:=kB BK402 hb;replace HI0:=aA.mk (aW.below (iA HI0) hb);replace HK:=kbA HK hb;replace HB:=lI hb;clear hb)|((with_reducible refine aH (N:=5) rfl ?_);refine bxE (cs:=#[.int .i64 0,.int .i64 0]) (t:=28) ?_;intro gb456 hg w51 hbox hb;have LT402_456:=nL hg BK402;have BK456:=aA.mk hbox;have GW456:=kzA HK hg;have GE456:=aA.mk (Nat.le_trans HW0.out (kzA HK hg).out);have NB0_456:=inA hg (aW.lt (iA HI0));have NB456_0:=inB hg (aW.lt (iA HI0));replace HO429:=aA.mk (Kd.R_below (rA HO429) hb);replace HO449:=aA.mk (Kd.R_below (rA HO449) hb);replace BK402:=kB BK402 hb;replace HI0:=aA.mk (aW.below (iA HI0) hb);replace HK:=kbA HK hb;replace HB:=lI hb;clear hb hbox hg;have hnb52:=LT402_456.out;have hnb53:=NB456_0.out;obtain ⟨hcz54_0,hcz54_1,hfz54_0,hfz54_1⟩:=cz2 BK456;have hnb55:=NB402_0.out;obtain ⟨hcz56_0,hcz56_1,hfz56_0,hfz56_1⟩:=cz2 BK402))
     refine bodyPost_ret (results_cell_row rfl _ _ gb402 28 #[.int .i64 t453,.int .i64 t454] (0,0) _ rfl (bpA BK402) Try.underlying28 rfl (by kernel_rfl)) rfl ?_
     exact ⟨eW,iA HI0,blI,kpA⟩
def cQ.f (k:Nat) (a0 a1:Int):Option (Int × Int × Bool):=if a1=0 then (some (1,0,true)) else ((cW.f k a0 a1).bind fun t578=>(if a1<0 then (if (wrap64 (-t578))=0 then (none) else ((cj.f k (wrap64 (Int.tdiv a0 (wrap64 (-t578)))) (wrap64 (Int.tdiv a1 (wrap64 (-t578))))).bind fun t580=>(some (wrap64 (Int.tdiv a0 (wrap64 (-t578))),wrap64 (Int.tdiv a1 (wrap64 (-t578))),t580)))) else (if t578=0 then (none) else ((cj.f k (wrap64 (Int.tdiv a0 t578)) (wrap64 (Int.tdiv a1 t578))).bind fun t582=>(some (wrap64 (Int.tdiv a0 t578),wrap64 (Int.tdiv a1 t578),t582))))))
def cQ.T6:Bool × List (List Nat × List Nat):=(true,[([],[]),([],[]),([0,1],[0,1]),([],[]),([],[]),([3,4],[3,4]),([2,5],[2,5]),([],[]),([7,6,0,1,2,3,4,5,6,7],[6,7])])
def cQ.B6:List Nat:=[0,0,3,0,0,24,63,0,255]
theorem cQ.tab6:ck .any (dC Try.f61 6)=cQ.T6:=by kernel_rfl
theorem cQ.bits6:br cQ.T6.2 cQ.B6=true:=by kernel_rfl
set_option maxHeartbeats 8000000 in
set_option maxRecDepth 100000 in
theorem cQ.calls (k:Nat) (a0 a1 r1 r2:Int) (r3:Bool) (w:World) (h:cQ.f k a0 a1=some (r1,r2,r3)) :
  Calls Try.prog 61 #[.int .i64 a0,.int .i64 a1] w fun e w'=>e=.returned (.tuple #[.agg #[.int .i64 r1,.int .i64 r2],.bool r3])∧Below w.heap.size w w':=by
 have hu28:=Try.underlying28
 have HB:=aA.mk (Below.refl w.heap.size w)
 have H:=h
 unfold cQ.f at H
 clear h
 by_cases c3:a1=0
 focus
  rw [if_pos c3] at H
  have c3b0:(a1 == 0)=true:=beq_iff_eq.mpr c3
  have c3b1:(a1 != 0)=false:=bne_eq_false_iff_eq.mpr c3
  clear c3
  simp only [Option.some.injEq,Prod.mk.injEq] at H
  obtain ⟨rfl,rfl,rfl⟩:=H
 rotate_left
 focus
  rw [if_neg c3] at H
  have c3b0:(a1 == 0)=false:=beq_eq_false_iff_ne.mpr c3
  have c3b1:(a1 != 0)=true:=bne_iff_ne.mpr c3
  replace H:=bS H
  obtain ⟨t578,A6,H⟩:=H
  try dsimp only at H
  by_cases c7:a1<0
  focus
   rw [if_pos c7] at H
   have c7b0:=decide_eq_true c7
   clear c7
   by_cases c8:(wrap64 (-t578))=0
   ·
    rw [if_pos c8] at H
    exact absurd H (by simp)
   rw [if_neg c8] at H
   have c8b0:((wrap64 (-t578)) == 0)=false:=beq_eq_false_iff_ne.mpr c8
   have c8b1:((wrap64 (-t578)) != 0)=true:=bne_iff_ne.mpr c8
   replace H:=bS H
   obtain ⟨t580,A9,H⟩:=H
   try dsimp only at H
   simp only [Option.some.injEq,Prod.mk.injEq] at H
   obtain ⟨rfl,rfl,rfl⟩:=H
  rotate_left
  focus
   rw [if_neg c7] at H
   have c7b0:=decide_eq_false c7
   clear c7
   by_cases c21:t578=0
   ·
    rw [if_pos c21] at H
    exact absurd H (by simp)
   rw [if_neg c21] at H
   have c21b0:(t578 == 0)=false:=beq_eq_false_iff_ne.mpr c21
   have c21b1:(t578 != 0)=true:=bne_iff_ne.mpr c21
   replace H:=bS H
   obtain ⟨t582,A22,H⟩:=H
   try dsimp only at H
   simp only [Option.some.injEq,Prod.mk.injEq] at H
   obtain ⟨rfl,rfl,rfl⟩:=H
  rotate_left
 rotate_left 2
 all_goals
  go_enter Try.func61,Try.ntmps61
 ·
  go_wp2_with (first|((with_reducible refine aH (N:=4) rfl ?_);refine bxE (cs:=#[.int .i64 0,.int .i64 0]) (t:=28) ?_;intro gb577 hg w4 hbox hb;have BK577:=aA.mk hbox;have GW577:=sA hg;have GE577:=sA hg;replace HB:=lB hb;clear hb hbox hg;obtain ⟨hcz5_0,hcz5_1,hfz5_0,hfz5_1⟩:=cz2 BK577))
  refine bodyPost_ret (bC rfl _ _ gb577 28 #[.int .i64 1,.int .i64 0] (0,0) _ rfl (bpA BK577) Try.underlying28 rfl (by kernel_rfl)) rfl ?_
  exact bU blA
 rotate_left 2
 all_goals
  try go_wp2_with (first|((with_reducible refine aH (N:=4) rfl ?_);refine bxE (cs:=#[.int .i64 0,.int .i64 0]) (t:=28) ?_;intro gb577 hg w10 hbox hb;have BK577:=aA.mk hbox;have GW577:=sA hg;have GE577:=sA hg;replace HB:=lB hb;clear hb hbox hg)|((with_reducible refine gd 13 rfl ?_);refine gC (some 13) rfl Try.func58 (cW.calls (w:=_) (h:=A6.out)) ?_;intro w11 hb;replace BK577:=kB BK577 hb;replace HB:=lB hb;clear hb))
  have n0_:=aA.mk (aK BK577.out)
  have n1_:=aA.mk (aV HB.out)
  clear BK577
  clear HB
  have BK577:=n0_
  have HB:=n1_
  clear n0_ n1_
  refine bf (n:=9) (S:=fun w'=>True) (ds:=[]) #[Z,Z,Z,Z,Z,Z,Z,Z,Z] (by kernel_rfl) rfl rfl trivial (fun hHeld=>?_);refine bH cQ.tab6 cQ.bits6 (fun HT_ HW_=>?_)
  generalize w11.drew=w12 at BK577 HB hHeld ⊢
  refine puA (i:=0) (N:=some 18) #[Y,Z,Z,Z,Z,Z,Z,Z,Z] rfl rfl HT_ ?_
  refine puA (i:=1) (N:=some 19) #[Y,Y,Z,Z,Z,Z,Z,Z,Z] rfl rfl HT_ ?_
  refine puA (i:=2) (N:=some 20) #[Y,Y,Y,Z,Z,Z,Z,Z,Z] rfl rfl HT_ ?_
  refine puA (i:=3) (N:=some 21) #[Y,Y,Y,Y,Z,Z,Z,Z,Z] rfl rfl HT_ ?_
  refine puA (i:=4) (N:=some 22) #[Y,Y,Y,Y,Y,Z,Z,Z,Z] rfl rfl HT_ ?_
  refine puA (i:=5) (N:=some 23) #[Y,Y,Y,Y,Y,Y,Z,Z,Z] rfl rfl HT_ ?_
  refine puA (i:=6) (N:=some 24) #[Y,Y,Y,Y,Y,Y,Y,Z,Z] rfl rfl HT_ ?_
  refine bg (i:=7) (N:=some 7) #[Y,Y,Y,Y,Y,Y,Y,Y,Z] rfl rfl (az HT_.out (by kernel_rfl)) (by decide) (fun K hK=>?_)
  refine df ?hg (N:=7) ?hd (cs:=#[.int .i64 0,.int .i64 0]) (t:=28) ?hr ?_;(case hd=>rfl);(case hg=>rfl);(case hr=>first|(go_simp;done)|(go_simp;rfl))
  intro gb579 hg w13 hbox hb
  have BK579:=aA.mk hbox
  have GW579:=sA hg
  have GE579:=sA hg
  have NB577_579:=nA hg BK577
  have NB579_577:=nB hg BK577
  have LT577_579:=nL hg BK577
  replace BK577:=kB BK577 hb
  replace HB:=lB hb
  clear hb hbox hg
  refine hK.out _ _ trivial (fun hHeld=>?_)
  clear hK K
  refine nmA ?_
  refine bg (i:=8) (N:=none) #[Y,Y,Y,Y,Y,Y,Y,Y,Y] rfl rfl (az HT_.out (by kernel_rfl)) (by decide) (fun K hK=>?_)
  have hs14:w13.cell? ⟨gb579,0,none⟩=some (.int .i64 0):=cA BK579 0
  have hfs14:=aQ BK579.out 0
  have hns14_0:=NB577_579.out
  have hms14_0:=NB579_577.out
  have hs15:w13.cell? ⟨gb579,1,none⟩=some (.int .i64 0):=cA BK579 1
  have hfs15:=aQ BK579.out 1
  have hns15_0:=NB577_579.out
  have hms15_0:=NB579_577.out
  refine dp (w1:=?_) (by rfl) rfl ?_ ?_
  rotate_left
  ·
   go_simp
   rfl
  refine hK.out _ _ trivial (fun hHeld=>?_)
  clear hK K
  refine cL (bX HT_.out (by kernel_rfl)) ?_
 ·
  try go_wp2
  have n0_:aA (((w13.setCell ⟨gb579,0,none⟩ (.int .i64 (wrap64 (Int.tdiv a0 (wrap64 (-t578)))))).setCell ⟨gb579,1,none⟩ (.int .i64 (wrap64 (Int.tdiv a1 (wrap64 (-t578)))))).heap[gb577]?=some (.cells #[.int .i64 0,.int .i64 0] 28 (0,0))):=⟨bkF BK577⟩
  have n1_:aA (((w13.setCell ⟨gb579,0,none⟩ (.int .i64 (wrap64 (Int.tdiv a0 (wrap64 (-t578)))))).setCell ⟨gb579,1,none⟩ (.int .i64 (wrap64 (Int.tdiv a1 (wrap64 (-t578)))))).heap[gb579]?=some (.cells #[.int .i64 (wrap64 (Int.tdiv a0 (wrap64 (-t578)))),.int .i64 (wrap64 (Int.tdiv a1 (wrap64 (-t578))))] 28 (0,0))):=⟨bpA BK579⟩
  have n2_:aA (Below w.heap.size w ((w13.setCell ⟨gb579,0,none⟩ (.int .i64 (wrap64 (Int.tdiv a0 (wrap64 (-t578)))))).setCell ⟨gb579,1,none⟩ (.int .i64 (wrap64 (Int.tdiv a1 (wrap64 (-t578))))))):=⟨blA⟩
  (try clear BK577)
  (try clear BK579)
  (try clear HB)
  generalize ((w13.setCell ⟨gb579,0,none⟩ (.int .i64 (wrap64 (Int.tdiv a0 (wrap64 (-t578)))))).setCell ⟨gb579,1,none⟩ (.int .i64 (wrap64 (Int.tdiv a1 (wrap64 (-t578))))))=w16 at n0_ n1_ n2_ ⊢
  have BK577:=n0_
  have BK579:=n1_
  have HB:=n2_
  clear n0_ n1_ n2_
  have n0_:=aA.mk (aK BK577.out)
  have n1_:=aA.mk (aK BK579.out)
  have n2_:=aA.mk (aV HB.out)
  clear BK577
  clear BK579
  clear HB
  have BK577:=n0_
  have BK579:=n1_
  have HB:=n2_
  clear n0_ n1_ n2_
  refine bf (n:=5) (S:=fun w'=>w'.cell? ⟨gb579,0,none⟩=some (.int .i64 (wrap64 (Int.tdiv a0 (wrap64 (-t578)))))∧w'.cell? ⟨gb579,1,none⟩=some (.int .i64 (wrap64 (Int.tdiv a1 (wrap64 (-t578)))))) (ds:=[]) #[Z,Z,Z,Z,Z] (by kernel_rfl) rfl rfl ⟨cA BK579 0,cA BK579 1⟩ (fun hHeld=>?_)
  generalize w16.drew=w17 at BK577 BK579 HB hHeld ⊢
  refine take_ (i:=0) (N:=some 25) (v:=?_) (a':=?_) #[Y,Z,Z,Z,Z] rfl rfl (by kernel_rfl) (fun _ _ _ h=>h) (Or.inl ⟨by rfl,?_⟩) hHeld ?_ ?_
  rotate_left
  ·
   rintro w' ⟨s0,s1⟩
   go_simp
   with_reducible rfl
  rotate_left
  ·
   simp only [pA]
   rfl
  refine take_ (i:=1) (N:=some 26) (v:=?_) (a':=?_) #[Y,Y,Z,Z,Z] rfl rfl (by kernel_rfl) (fun _ _ _ h=>h) (Or.inl ⟨by rfl,?_⟩) hHeld ?_ ?_
  rotate_left
  ·
   rintro w' ⟨s0,s1⟩
   go_simp
   with_reducible rfl
  rotate_left
  ·
   simp only [pA]
   rfl
  refine bg (i:=2) (N:=some 27) #[Y,Y,Y,Z,Z] rfl rfl (by kernel_rfl) (by decide) (fun K hK=>?_)
  refine goC Try.func72 (cj.calls (w:=_) (h:=A9.out)) ?_
  intro w18 hb
  replace BK577:=kB BK577 hb
  replace BK579:=kB BK579 hb
  replace HB:=lB hb
  (try clear hb)
  (try clear hb2)
  (try clear hk)
  (try clear hi)
  refine hK.out _ _ ⟨cA BK579 0,cA BK579 1⟩ (fun hHeld=>?_)
  clear hK K
  refine nmA ?_
  refine bg (i:=3) (N:=none) #[Y,Y,Y,Y,Z] rfl rfl (by kernel_rfl) (by decide) (fun K hK=>?_)
  have hs19:w18.cell? ⟨gb577,0,none⟩=some (.int .i64 0):=cA BK577 0
  have hfs19:=aQ BK577.out 0
  have hns19_1:=NB579_577.out
  have hms19_1:=NB577_579.out
  have hs20:w18.cell? ⟨gb577,1,none⟩=some (.int .i64 0):=cA BK577 1
  have hfs20:=aQ BK577.out 1
  have hns20_1:=NB579_577.out
  have hms20_1:=NB577_579.out
  refine dp (w1:=?_) (by rfl) rfl ?_ ?_
  rotate_left
  ·
   go_simp
   rfl
  refine hK.out _ _ ⟨cfA hHeld.1,cfA hHeld.2⟩ (fun hHeld=>?_)
  clear hK K
  refine fT (i:=4) (N:=some 5) (v:=?_) (a':=?_) #[Y,Y,Y,Y,Y] rfl rfl (by kernel_rfl) (fun _ _ _ h=>h) (Or.inl ⟨by rfl,?_⟩) ?_ ?_
  rotate_left
  ·
   intro w'
   go_simp
   with_reducible rfl
  rotate_left
  ·
   simp only [pA]
   rfl
  refine cL (by kernel_rfl) ?_
  try go_wp2
  refine bodyPost_ret (bC rfl _ _ gb577 28 #[.int .i64 (wrap64 (Int.tdiv a0 (wrap64 (-t578)))),.int .i64 (wrap64 (Int.tdiv a1 (wrap64 (-t578))))] (0,0) _ rfl (bpA BK577) Try.underlying28 rfl (by kernel_rfl)) rfl ?_
  exact bU blA
 ·
  try go_wp2
  have n0_:aA (((w13.setCell ⟨gb579,0,none⟩ (.int .i64 (wrap64 (Int.tdiv a0 t578)))).setCell ⟨gb579,1,none⟩ (.int .i64 (wrap64 (Int.tdiv a1 t578)))).heap[gb577]?=some (.cells #[.int .i64 0,.int .i64 0] 28 (0,0))):=⟨bkF BK577⟩
  have n1_:aA (((w13.setCell ⟨gb579,0,none⟩ (.int .i64 (wrap64 (Int.tdiv a0 t578)))).setCell ⟨gb579,1,none⟩ (.int .i64 (wrap64 (Int.tdiv a1 t578)))).heap[gb579]?=some (.cells #[.int .i64 (wrap64 (Int.tdiv a0 t578)),.int .i64 (wrap64 (Int.tdiv a1 t578))] 28 (0,0))):=⟨bpA BK579⟩
  have n2_:aA (Below w.heap.size w ((w13.setCell ⟨gb579,0,none⟩ (.int .i64 (wrap64 (Int.tdiv a0 t578)))).setCell ⟨gb579,1,none⟩ (.int .i64 (wrap64 (Int.tdiv a1 t578))))):=⟨blA⟩
  (try clear BK577)
  (try clear BK579)
  (try clear HB)
  generalize ((w13.setCell ⟨gb579,0,none⟩ (.int .i64 (wrap64 (Int.tdiv a0 t578)))).setCell ⟨gb579,1,none⟩ (.int .i64 (wrap64 (Int.tdiv a1 t578))))=w29 at n0_ n1_ n2_ ⊢
  have BK577:=n0_
  have BK579:=n1_
  have HB:=n2_
  clear n0_ n1_ n2_
  have n0_:=aA.mk (aK BK577.out)
  have n1_:=aA.mk (aK BK579.out)
  have n2_:=aA.mk (aV HB.out)
  clear BK577
  clear BK579
  clear HB
  have BK577:=n0_
  have BK579:=n1_
  have HB:=n2_
  clear n0_ n1_ n2_
  refine bf (n:=5) (S:=fun w'=>w'.cell? ⟨gb579,0,none⟩=some (.int .i64 (wrap64 (Int.tdiv a0 t578)))∧w'.cell? ⟨gb579,1,none⟩=some (.int .i64 (wrap64 (Int.tdiv a1 t578)))) (ds:=[]) #[Z,Z,Z,Z,Z] (by kernel_rfl) rfl rfl ⟨cA BK579 0,cA BK579 1⟩ (fun hHeld=>?_)
  generalize w29.drew=w30 at BK577 BK579 HB hHeld ⊢
  refine take_ (i:=0) (N:=some 25) (v:=?_) (a':=?_) #[Y,Z,Z,Z,Z] rfl rfl (by kernel_rfl) (fun _ _ _ h=>h) (Or.inl ⟨by rfl,?_⟩) hHeld ?_ ?_
  rotate_left
  ·
   rintro w' ⟨s0,s1⟩
   go_simp
   with_reducible rfl
  rotate_left
  ·
   simp only [pA]
   rfl
  refine take_ (i:=1) (N:=some 26) (v:=?_) (a':=?_) #[Y,Y,Z,Z,Z] rfl rfl (by kernel_rfl) (fun _ _ _ h=>h) (Or.inl ⟨by rfl,?_⟩) hHeld ?_ ?_
  rotate_left
  ·
   rintro w' ⟨s0,s1⟩
   go_simp
   with_reducible rfl
  rotate_left
  ·
   simp only [pA]
   rfl
  refine bg (i:=2) (N:=some 27) #[Y,Y,Y,Z,Z] rfl rfl (by kernel_rfl) (by decide) (fun K hK=>?_)
  refine goC Try.func72 (cj.calls (w:=_) (h:=A22.out)) ?_
  intro w31 hb
  replace BK577:=kB BK577 hb
  replace BK579:=kB BK579 hb
  replace HB:=lB hb
  (try clear hb)
  (try clear hb2)
  (try clear hk)
  (try clear hi)
  refine hK.out _ _ ⟨cA BK579 0,cA BK579 1⟩ (fun hHeld=>?_)
  clear hK K
  refine nmA ?_
  refine bg (i:=3) (N:=none) #[Y,Y,Y,Y,Z] rfl rfl (by kernel_rfl) (by decide) (fun K hK=>?_)
  have hs32:w31.cell? ⟨gb577,0,none⟩=some (.int .i64 0):=cA BK577 0
  have hfs32:=aQ BK577.out 0
  have hns32_1:=NB579_577.out
  have hms32_1:=NB577_579.out
  have hs33:w31.cell? ⟨gb577,1,none⟩=some (.int .i64 0):=cA BK577 1
  have hfs33:=aQ BK577.out 1
  have hns33_1:=NB579_577.out
  have hms33_1:=NB577_579.out
  refine dp (w1:=?_) (by rfl) rfl ?_ ?_
  rotate_left
  ·
   go_simp
   rfl
  refine hK.out _ _ ⟨cfA hHeld.1,cfA hHeld.2⟩ (fun hHeld=>?_)
  clear hK K
  refine fT (i:=4) (N:=some 5) (v:=?_) (a':=?_) #[Y,Y,Y,Y,Y] rfl rfl (by kernel_rfl) (fun _ _ _ h=>h) (Or.inl ⟨by rfl,?_⟩) ?_ ?_
  rotate_left
  ·
   intro w'
   go_simp
   with_reducible rfl
  rotate_left
  ·
   simp only [pA]
   rfl
  refine cL (by kernel_rfl) ?_
  try go_wp2
  refine bodyPost_ret (bC rfl _ _ gb577 28 #[.int .i64 (wrap64 (Int.tdiv a0 t578)),.int .i64 (wrap64 (Int.tdiv a1 t578))] (0,0) _ rfl (bpA BK577) Try.underlying28 rfl (by kernel_rfl)) rfl ?_
  exact bU blA
def cP.f (k:Nat) (l0:List Int):Option (Int × Int × Int × Int × Int × Int):=(ao.f k l0).bind fun bt276=>((ag.f bt276.1 bt276.2.1 bt276.2.2 (([2,3,5,7,2,3,4]:List Int))).bind fun bt283=>((au.f k bt276.1 bt283.2.1 bt283.2.2).bind fun bt286=>((au.f k bt276.1 bt286.2.2.1 bt286.2.2.2).bind fun bt290=>((dE.f bt276.1 bt290.2.2.1 bt290.2.2.2 6).bind fun bt294=>((ag.f bt276.1 bt294.2.1 bt294.2.2 (([0,1,2,3,bt294.1]:List Int))).bind fun bt300=>(some (bt283.1,bt286.1,bt286.2.1,bt290.1,bt290.2.1,bt300.1)))))))
set_option maxHeartbeats 8000000 in
set_option maxRecDepth 100000 in
theorem cP.calls (k:Nat) (A0:Option Addr) (c0:Nat) (l0:List Int) (r1 r2 r3 r4 r5 r6:Int) (w:World) (hr0:Kd.C (Kd.int .u8) w A0 l0.length l0) (hc0:l0.length≤c0) (h:cP.f k l0=some (r1,r2,r3,r4,r5,r6)) :
  Calls Try.prog 10 #[.slice A0 l0.length c0] w fun e w'=>e=.returned (.tuple #[.int .i64 r1,.agg #[.int .i64 r2,.int .i64 r3],.agg #[.int .i64 r4,.int .i64 r5],.int .i64 r6])∧Below w.heap.size w w':=by
 have hu28:=Try.underlying28
 have HR0:=aA.mk hr0
 have HC0:=aA.mk hc0
 clear hr0 hc0
 have HB:=aA.mk (Below.refl w.heap.size w)
 have H:=h
 unfold cP.f at H
 clear h
 replace H:=bS H
 obtain ⟨⟨t276,t277,t278⟩,A2,H⟩:=H
 try dsimp only at H
 obtain ⟨y280,hy280⟩:∃ y_:List Int,y_=(([2,3,5,7,2,3,4]:List Int)):=⟨_,rfl⟩
 replace H:((ag.f t276 t277 t278 y280).bind fun bt283=>((au.f k t276 bt283.2.1 bt283.2.2).bind fun bt286=>((au.f k t276 bt286.2.2.1 bt286.2.2.2).bind fun bt290=>((dE.f t276 bt290.2.2.1 bt290.2.2.2 6).bind fun bt294=>((ag.f t276 bt294.2.1 bt294.2.2 (([0,1,2,3,bt294.1]:List Int))).bind fun bt300=>(some (bt283.1,bt286.1,bt286.2.1,bt290.1,bt290.2.1,bt300.1)))))))=some (r1,r2,r3,r4,r5,r6):=rH hy280 H
 have Ny280:=aA.mk hy280
 clear hy280
 replace H:=bS H
 obtain ⟨⟨t283,t284,t285⟩,A3,H⟩:=H
 try dsimp only at H
 replace H:=bS H
 obtain ⟨⟨t286,t287,t288,t289⟩,A4,H⟩:=H
 try dsimp only at H
 replace H:=bS H
 obtain ⟨⟨t290,t291,t292,t293⟩,A5,H⟩:=H
 try dsimp only at H
 replace H:=bS H
 obtain ⟨⟨t294,t295,t296⟩,A6,H⟩:=H
 try dsimp only at H
 obtain ⟨y297,hy297⟩:∃ y_:List Int,y_=(([0,1,2,3,t294]:List Int)):=⟨_,rfl⟩
 replace H:((ag.f t276 t295 t296 y297).bind fun bt300=>(some (t283,t286,t287,t290,t291,bt300.1)))=some (r1,r2,r3,r4,r5,r6):=rH hy297 H
 have Ny297:=aA.mk hy297
 clear hy297
 replace H:=bS H
 obtain ⟨⟨t300,t301,t302⟩,A7,H⟩:=H
 try dsimp only at H
 simp only [Option.some.injEq,Prod.mk.injEq] at H
 obtain ⟨rfl,rfl,rfl,rfl,rfl,rfl⟩:=H
 go_enter Try.func10,Try.ntmps10
 go_wp2_with (first|((with_reducible refine aH (N:=3) rfl ?_);refine bxE (cs:=#[.int .i64 0,.int .i64 0]) (t:=28) ?_;intro gb274 hg w8 hbox hb;have BK274:=aA.mk hbox;have GW274:=sA hg;have GE274:=sA hg;replace HB:=lB hb;clear hb hbox hg)|((with_reducible refine aH (N:=4) rfl ?_);refine bxE (cs:=#[.int .i64 0,.int .i64 0]) (t:=28) ?_;intro gb275 hg w9 hbox hb;have BK275:=aA.mk hbox;have GW275:=sA hg;have GE275:=sA hg;have NB274_275:=nA hg BK274;have NB275_274:=nB hg BK274;have LT274_275:=nL hg BK274;replace BK274:=kB BK274 hb;replace HB:=lB hb;clear hb hbox hg)|((with_reducible refine bK (f:=39) rfl ?_);refine gL (some 9) rfl Try.func39 #[.slice A0 l0.length c0] ?_;(with_reducible refine (ao.calls k _ _ l0 t276 t277 t278 w _ ?side1 ?side2 ?side3 A2.out).mono ?_);(case side1=>exact blI);(case side2=>exact HR0.out);(case side3=>exact HC0.out);rintro e w10 ⟨g279,rfl,hi,hb,hb2⟩;refine ⟨_,rfl,?_⟩;have HI279:=aA.mk hi;have NB279_274:=aA.mk (aW.ne_blk hi (aE (bkA BK274) hb2) (by decide));have NB274_279:=aA.mk (Ne.symm (aW.ne_blk hi (aE (bkA BK274) hb2) (by decide)));have NB279_275:=aA.mk (aW.ne_blk hi (aE (bkA BK275) hb2) (by decide));have NB275_279:=aA.mk (Ne.symm (aW.ne_blk hi (aE (bkA BK275) hb2) (by decide)));replace BK274:=kB BK274 hb2;replace BK275:=kB BK275 hb2;replace HB:=aA.mk hb;clear hi hb hb2)|((with_reducible refine aH (N:=11) rfl ?_);refine Kd.R_lit (Kd.int .i64) _ 2 ?hg (N:=11) ?hd (xs:=([2,3,5,7,2,3,4]:List Int)) (inner:=[.int .i64 2,.int .i64 3,.int .i64 5,.int .i64 7,.int .i64 2,.int .i64 3,.int .i64 4]) (ok:=fun _=>True) (okp:=fun _=>True) ?hr ?hp (fun _ hk=>hk) trivial (Below.refl _ _) (Nat.le_refl _) (by simp) ?_;(case hd=>rfl);(case hg=>rfl);(case hr=>first|(go_simp;done)|(go_simp;rfl));(case hp=>exact (aY.one (show Kd.M (Kd.int .i64) _ _ _ 2 [.int .i64 2] from rfl) (aY.one (show Kd.M (Kd.int .i64) _ _ _ 3 [.int .i64 3] from rfl) (aY.one (show Kd.M (Kd.int .i64) _ _ _ 5 [.int .i64 5] from rfl) (aY.one (show Kd.M (Kd.int .i64) _ _ _ 7 [.int .i64 7] from rfl) (aY.one (show Kd.M (Kd.int .i64) _ _ _ 2 [.int .i64 2] from rfl) (aY.one (show Kd.M (Kd.int .i64) _ _ _ 3 [.int .i64 3] from rfl) (aY.one (show Kd.M (Kd.int .i64) _ _ _ 4 [.int .i64 4] from rfl) (aY.none _ _)))))))));intro v281 w11 ho12 hb hg_ hnew_;clear hg_ hnew_;(first|rw [← Ny280.out] at ho12|(simp only [Int.reduceToNat] at ho12;rw [← Ny280.out] at ho12));have HO282:=aA.mk (Kd.R_lower ho12 (ak blI));replace BK274:=kB BK274 hb;replace BK275:=kB BK275 hb;replace HI279:=aA.mk (aW.below (iA HI279) hb);replace HB:=lI hb;clear hb ho12;obtain ⟨Ao13,co13,eo13⟩:=Kd.R_slice HO282.out;subst eo13)|((with_reducible refine gd 12 rfl ?_);refine gC (some 12) rfl Try.func40 (ag.calls (w:=_) (g:=g279) (w0:=w) (hI:=iA HI279) (hB:=blI) (hr1:=cR (Kd.R_reads' HO282.out).2.2) (hc1:=(Kd.R_reads' HO282.out).2.1) (hf1:=cw (aW.own_ne HI279.out HO282.out (by decide))) (h:=A3.out)) ?_;rintro w14 ⟨hi,hb,hk⟩;replace BK274:=kbk hk BK274 NB274_279;replace BK275:=kbk hk BK275 NB275_279;replace HO282:=aA.mk (Kd.R_mono (Kd.R_keep (aW.apart (show aW w _ g279 t276 t277 t278 from iA HI279) (rA HO282) (by decide)) hk (fun _ h=>h.2)) (fun _ h=>h.1));replace HB:=aA.mk hb;replace HI279:=aA.mk hi;clear hi hb hk)|((with_reducible refine gd 15 rfl ?_);refine gC (some 15) rfl Try.func41 (au.calls (w:=_) (g:=g279) (w0:=w) (hI:=iA HI279) (hB:=blI) (h:=A4.out)) ?_;rintro w15 ⟨hi,hb,hk⟩;replace BK274:=kbk hk BK274 NB274_279;replace BK275:=kbk hk BK275 NB275_279;replace HO282:=aA.mk (Kd.R_mono (Kd.R_keep (aW.apart (show aW w _ g279 t276 t284 t285 from iA HI279) (rA HO282) (by decide)) hk (fun _ h=>h.2)) (fun _ h=>h.1));replace HB:=aA.mk hb;replace HI279:=aA.mk hi;clear hi hb hk)|((with_reducible refine gd 17 rfl ?_);refine gC (some 17) rfl Try.func41 (au.calls (w:=_) (g:=g279) (w0:=w) (hI:=iA HI279) (hB:=blI) (h:=A5.out)) ?_;rintro w16 ⟨hi,hb,hk⟩;replace BK274:=kbk hk BK274 NB274_279;replace BK275:=kbk hk BK275 NB275_279;replace HO282:=aA.mk (Kd.R_mono (Kd.R_keep (aW.apart (show aW w _ g279 t276 t288 t289 from iA HI279) (rA HO282) (by decide)) hk (fun _ h=>h.2)) (fun _ h=>h.1));replace HB:=aA.mk hb;replace HI279:=aA.mk hi;clear hi hb hk)|((with_reducible refine gd 20 rfl ?_);refine gC (some 20) rfl Try.func42 (dE.calls (w:=_) (g:=g279) (w0:=w) (hI:=iA HI279) (hB:=blI) (h:=A6.out)) ?_;rintro w17 ⟨hi,hb,hk⟩;replace BK274:=kbk hk BK274 NB274_279;replace BK275:=kbk hk BK275 NB275_279;replace HO282:=aA.mk (Kd.R_mono (Kd.R_keep (aW.apart (show aW w _ g279 t276 t292 t293 from iA HI279) (rA HO282) (by decide)) hk (fun _ h=>h.2)) (fun _ h=>h.1));replace HB:=aA.mk hb;replace HI279:=aA.mk hi;clear hi hb hk)|((with_reducible refine aH (N:=21) rfl ?_);refine Kd.R_lit (Kd.int .i64) _ 2 ?hg (N:=21) ?hd (xs:=([0,1,2,3,t294]:List Int)) (inner:=[.int .i64 0,.int .i64 1,.int .i64 2,.int .i64 3,.int .i64 t294]) (ok:=fun _=>True) (okp:=fun _=>True) ?hr ?hp (fun _ hk=>hk) trivial (Below.refl _ _) (Nat.le_refl _) (by simp) ?_;(case hd=>rfl);(case hg=>rfl);(case hr=>first|(go_simp;done)|(go_simp;rfl));(case hp=>exact (aY.one (show Kd.M (Kd.int .i64) _ _ _ 0 [.int .i64 0] from rfl) (aY.one (show Kd.M (Kd.int .i64) _ _ _ 1 [.int .i64 1] from rfl) (aY.one (show Kd.M (Kd.int .i64) _ _ _ 2 [.int .i64 2] from rfl) (aY.one (show Kd.M (Kd.int .i64) _ _ _ 3 [.int .i64 3] from rfl) (aY.one (show Kd.M (Kd.int .i64) _ _ _ t294 [.int .i64 t294] from rfl) (aY.none _ _)))))));intro v298 w18 ho19 hb hg_ hnew_;clear hg_ hnew_;(first|rw [← Ny297.out] at ho19|(simp only [Int.reduceToNat] at ho19;rw [← Ny297.out] at ho19));have HO299:=aA.mk (Kd.R_lower (Kd.R_new' ho19 (Kd.R_lt (rA HO282))) (ak blI));replace HO282:=aA.mk (Kd.R_elder' (rA HO282) (Kd.R_base ho19) hb);replace BK274:=kB BK274 hb;replace BK275:=kB BK275 hb;replace HI279:=aA.mk (aW.below (iA HI279) hb);replace HB:=lI hb;clear hb ho19;obtain ⟨Ao20,co20,eo20⟩:=Kd.R_slice HO299.out;subst eo20)|((with_reducible refine gd 22 rfl ?_);refine gC (some 22) rfl Try.func40 (ag.calls (w:=_) (g:=g279) (w0:=w) (hI:=iA HI279) (hB:=blI) (hr1:=cR (Kd.R_reads' HO299.out).2.2) (hc1:=(Kd.R_reads' HO299.out).2.1) (hf1:=cw (aW.own_ne HI279.out HO299.out (by decide))) (h:=A7.out)) ?_;rintro w21 ⟨hi,hb,hk⟩;replace BK274:=kbk hk BK274 NB274_279;replace BK275:=kbk hk BK275 NB275_279;replace HO282:=aA.mk (Kd.R_mono (Kd.R_keep (aW.apart (show aW w _ g279 t276 t295 t296 from iA HI279) (rA HO282) (by decide)) hk (fun _ h=>h.2)) (fun _ h=>h.1));replace HO299:=aA.mk (Kd.R_mono (Kd.R_keep (aW.apart (show aW w _ g279 t276 t295 t296 from iA HI279) (rA HO299) (by decide)) hk (fun _ h=>h.2)) (fun _ h=>h.1));replace HB:=aA.mk hb;replace HI279:=aA.mk hi;clear hi hb hk;have hnb22:=LT274_275.out;have hnb23:=NB274_279.out;obtain ⟨hcz24_0,hcz24_1,hfz24_0,hfz24_1⟩:=cz2 BK274;have hnb25:=NB275_279.out;obtain ⟨hcz26_0,hcz26_1,hfz26_0,hfz26_1⟩:=cz2 BK275))
 refine bodyPost_ret (dF (rs:=[.tmp 2,.cell 3 28,.cell 4 28,.tmp 5]) rfl (by simp) (.tmp (.cell gb274 28 #[.int .i64 t286,.int .i64 t287] (0,0) _ rfl (bpA BK274) Try.underlying28 rfl (by kernel_rfl) (.cell gb275 28 #[.int .i64 t290,.int .i64 t291] (0,0) _ rfl (bpA BK275) Try.underlying28 rfl (by kernel_rfl) (.tmp .nil))))) rfl ?_
 exact rf0 blI
end Go.Proofs.Ytpihnmmoahplgaa.PAll
