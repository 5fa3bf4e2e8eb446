import Derived.Test.YtpihnmmoahplgaaQx
import Derived.Test.YtpihnmmoahplgaaQspecl01EndOf
namespace Go.Proofs.Ytpihnmmoahplgaa.PAll
open Go.RowKit Go.Proofs.YtpihnmmoahplgaaW.PrintWords Go.Proofs.YtpihnmmoahplgaaW.PrintLast Go.Proofs.YtpihnmmoahplgaaW.PrintMore
attribute [local go_sem] Go.Proofs.Ytpihnmmoahplgaa.Aux.setCell_drewN Go.Proofs.Ytpihnmmoahplgaa.Aux.isSome_setCell Go.Proofs.Ytpihnmmoahplgaa.Aux.max_eight bq bo cG cF ba bZ bp bm
set_option linter.unusedVariables false
set_option linter.unusedSimpArgs false
def au.f (k:Nat) (s0_0:List Int) (s0_1 s0_2:Int):Option (Int × Int × Int × Int):=(ae.f s0_0 s0_1 s0_2 9).bind fun bt246=>(if bt246.1=0 then (some (1,0,bt246.2.1,bt246.2.2)) else ((ae.f s0_0 bt246.2.1 bt246.2.2 41).bind fun bt249=>((ag.f s0_0 bt249.2.1 bt249.2.2 (([1,1,2,3,4,9,5,7]:List Int))).bind fun bt255=>((aZ.f k (wrap64 (bt249.1 - 20)) bt255.1).bind fun bt258=>(some (bt258.1,bt258.2.1,bt255.2.1,bt255.2.2))))))
set_option maxHeartbeats 8000000 in
set_option maxRecDepth 100000 in
theorem au.calls (k g:Nat) (s0_0:List Int) (s0_1 s0_2 r1 r2 r3 r4:Int) (w0 w:World) (hI:aW w0 w g s0_0 s0_1 s0_2) (hB:Below w0.heap.size w0 w) (h:au.f k s0_0 s0_1 s0_2=some (r1,r2,r3,r4)) :
  Calls Try.prog 41 #[.pointer (some ⟨g,0,none⟩)] w fun e w'=>e=.returned (.agg #[.int .i64 r1,.int .i64 r2])∧aW w0 w' g s0_0 r3 r4∧Below w0.heap.size w0 w'∧a7 w w' g none:=by
 have hu28:=Try.underlying28
 have HI0:=aA.mk hI
 have HK:=aA.mk (a7.refl w g none)
 have HL:=aA.mk hB.size
 clear hI
 have HW0:=aA.mk hB.size
 have HB:=aA.mk hB
 clear hB
 have H:=h
 unfold au.f at H
 clear h
 replace H:=bS H
 obtain ⟨⟨t246,t247,t248⟩,A2,H⟩:=H
 try dsimp only at H
 by_cases c3:t246=0
 focus
  rw [if_pos c3] at H
  have c3b0:(t246 == 0)=true:=beq_iff_eq.mpr c3
  have c3b1:(t246 != 0)=false:=bne_eq_false_iff_eq.mpr c3
  clear c3
  simp only [Option.some.injEq,Prod.mk.injEq] at H
  obtain ⟨rfl,rfl,rfl,rfl⟩:=H
 rotate_left
 focus
  rw [if_neg c3] at H
  have c3b0:(t246 == 0)=false:=beq_eq_false_iff_ne.mpr c3
  have c3b1:(t246 != 0)=true:=bne_iff_ne.mpr c3
  replace H:=bS H
  obtain ⟨⟨t249,t250,t251⟩,A8,H⟩:=H
  try dsimp only at H
  obtain ⟨y252,hy252⟩:∃ y_:List Int,y_=(([1,1,2,3,4,9,5,7]:List Int)):=⟨_,rfl⟩
  replace H:((ag.f s0_0 t250 t251 y252).bind fun bt255=>((aZ.f k (wrap64 (t249 - 20)) bt255.1).bind fun bt258=>(some (bt258.1,bt258.2.1,bt255.2.1,bt255.2.2))))=some (r1,r2,r3,r4):=rH hy252 H
  have Ny252:=aA.mk hy252
  clear hy252
  replace H:=bS H
  obtain ⟨⟨t255,t256,t257⟩,A9,H⟩:=H
  try dsimp only at H
  replace H:=bS H
  obtain ⟨⟨t258,t259,t260⟩,A10,H⟩:=H
  try dsimp only at H
  simp only [Option.some.injEq,Prod.mk.injEq] at H
  obtain ⟨rfl,rfl,rfl,rfl⟩:=H
 rotate_left
 all_goals
  go_enter Try.func41,Try.ntmps41
  go_wp2_with (first|((with_reducible refine aH (N:=2) rfl ?_);refine bxE (cs:=#[.int .i64 0,.int .i64 0]) (t:=28) ?_;intro gb245 hg w4 hbox hb;have BK245:=aA.mk hbox;have GW245:=kzA HK hg;have GE245:=aA.mk (Nat.le_trans HW0.out (kzA HK hg).out);have NB0_245:=inA hg (aW.lt (iA HI0));have NB245_0:=inB hg (aW.lt (iA HI0));replace HI0:=aA.mk (aW.below (iA HI0) hb);replace HK:=kbA HK hb;replace HB:=lI hb;clear hb hbox hg)|((with_reducible refine gd 6 rfl ?_);refine gC (some 6) rfl Try.func50 (ae.calls (w:=_) (g:=g) (w0:=w0) (hI:=iA HI0) (hB:=blI) (h:=A2.out)) ?_;rintro w5 ⟨hi,hb,hk⟩;replace BK245:=kbk hk BK245 NB245_0;replace HK:=kkA HK hk;replace HB:=aA.mk hb;replace HI0:=aA.mk hi;clear hi hb hk;have hnb6:=NB245_0.out;obtain ⟨hcz7_0,hcz7_1,hfz7_0,hfz7_1⟩:=cz2 BK245)|((with_reducible refine gd 11 rfl ?_);refine gC (some 11) rfl Try.func50 (ae.calls (w:=_) (g:=g) (w0:=w0) (hI:=iA HI0) (hB:=blI) (h:=A8.out)) ?_;rintro w13 ⟨hi,hb,hk⟩;replace BK245:=kbk hk BK245 NB245_0;replace HK:=kkA HK hk;replace HB:=aA.mk hb;replace HI0:=aA.mk hi;clear hi hb hk)|((with_reducible refine aH (N:=14) rfl ?_);refine Kd.R_lit (Kd.int .i64) _ 2 ?hg (N:=14) ?hd (xs:=([1,1,2,3,4,9,5,7]:List Int)) (inner:=[.int .i64 1,.int .i64 1,.int .i64 2,.int .i64 3,.int .i64 4,.int .i64 9,.int .i64 5,.int .i64 7]) (ok:=fun _=>True) (okp:=fun _=>True) ?hr ?hp (fun _ hk=>hk) trivial (Below.refl _ _) (Nat.le_refl _) (by simp) ?_;(case hd=>rfl);(case hg=>rfl);(case hr=>first|(go_simp;done)|(go_simp;rfl));(case hp=>exact (aY.one (show Kd.M (Kd.int .i64) _ _ _ 1 [.int .i64 1] from rfl) (aY.one (show Kd.M (Kd.int .i64) _ _ _ 1 [.int .i64 1] from rfl) (aY.one (show Kd.M (Kd.int .i64) _ _ _ 2 [.int .i64 2] from rfl) (aY.one (show Kd.M (Kd.int .i64) _ _ _ 3 [.int .i64 3] from rfl) (aY.one (show Kd.M (Kd.int .i64) _ _ _ 4 [.int .i64 4] from rfl) (aY.one (show Kd.M (Kd.int .i64) _ _ _ 9 [.int .i64 9] from rfl) (aY.one (show Kd.M (Kd.int .i64) _ _ _ 5 [.int .i64 5] from rfl) (aY.one (show Kd.M (Kd.int .i64) _ _ _ 7 [.int .i64 7] from rfl) (aY.none _ _))))))))));intro v253 w14 ho15 hb hg_ hnew_;clear hg_ hnew_;(first|rw [← Ny252.out] at ho15|(simp only [Int.reduceToNat] at ho15;rw [← Ny252.out] at ho15));have HO254:=aA.mk (Kd.R_lower ho15 (dw (w:=w) (g:=g) (row:=none) kpA));replace HI0:=aA.mk (aW.below (iA HI0) hb);replace BK245:=kB BK245 hb;replace HK:=kbA HK hb;replace HB:=lI hb;clear hb ho15;obtain ⟨Ao16,co16,eo16⟩:=Kd.R_slice HO254.out;subst eo16)|((with_reducible refine gd 15 rfl ?_);refine gC (some 15) rfl Try.func40 (ag.calls (w:=_) (g:=g) (w0:=w0) (hI:=iA HI0) (hB:=blI) (hr1:=cR (Kd.R_reads' HO254.out).2.2) (hc1:=(Kd.R_reads' HO254.out).2.1) (hf1:=cw (aW.own_ne HI0.out HO254.out (by decide))) (h:=A9.out)) ?_;rintro w17 ⟨hi,hb,hk⟩;replace BK245:=kbk hk BK245 NB245_0;replace HO254:=aA.mk (Kd.R_mono (Kd.R_keep (aW.apart (show aW w0 _ g s0_0 t250 t251 from iA HI0) (rA HO254) (by decide)) hk (fun _ h=>h.2)) (fun _ h=>h.1));replace HK:=kkA HK hk;replace HB:=aA.mk hb;replace HI0:=aA.mk hi;clear hi hb hk)|((with_reducible refine gd 16 rfl ?_);refine gC (some 16) rfl Try.func63 (aZ.calls (w:=_) (h:=A10.out)) ?_;intro w18 hb;replace HO254:=aA.mk (Kd.R_below (rA HO254) hb);replace HI0:=aA.mk (aW.below (iA HI0) hb);replace BK245:=kB BK245 hb;replace HK:=kbA HK hb;replace HB:=lI hb;clear hb)|((with_reducible refine aH (N:=3) rfl ?_);refine bxE (cs:=#[.int .i64 0,.int .i64 0]) (t:=28) ?_;intro gb261 hg w19 hbox hb;have LT245_261:=nL hg BK245;have BK261:=aA.mk hbox;have GW261:=kzA HK hg;have GE261:=aA.mk (Nat.le_trans HW0.out (kzA HK hg).out);have NB0_261:=inA hg (aW.lt (iA HI0));have NB261_0:=inB hg (aW.lt (iA HI0));replace HO254:=aA.mk (Kd.R_below (rA HO254) hb);replace HI0:=aA.mk (aW.below (iA HI0) hb);replace BK245:=kB BK245 hb;replace HK:=kbA HK hb;replace HB:=lI hb;clear hb hbox hg;have hnb20:=LT245_261.out;have hnb21:=NB261_0.out;obtain ⟨hcz22_0,hcz22_1,hfz22_0,hfz22_1⟩:=cz2 BK261;have hnb23:=NB245_0.out;obtain ⟨hcz24_0,hcz24_1,hfz24_0,hfz24_1⟩:=cz2 BK245))
 ·
  refine bodyPost_ret (results_cell_row rfl _ _ gb245 28 #[.int .i64 1,.int .i64 0] (0,0) _ rfl (bpA BK245) Try.underlying28 rfl (by kernel_rfl)) rfl ?_
  exact ⟨eW,iA HI0,blI,kpA⟩
 ·
  refine bodyPost_ret (results_cell_row rfl _ _ gb245 28 #[.int .i64 t258,.int .i64 t259] (0,0) _ rfl (bpA BK245) Try.underlying28 rfl (by kernel_rfl)) rfl ?_
  exact ⟨eW,iA HI0,blI,kpA⟩
end Go.Proofs.Ytpihnmmoahplgaa.PAll
