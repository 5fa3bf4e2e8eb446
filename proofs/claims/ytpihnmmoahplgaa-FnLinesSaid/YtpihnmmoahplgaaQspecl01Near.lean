import Derived.Test.YtpihnmmoahplgaaQx
import Derived.Test.YtpihnmmoahplgaaQspecl01EndOf
namespace Go.Proofs.Ytpihnmmoahplgaa.PAll
open Go.RowKit Go.Proofs.YtpihnmmoahplgaaW.PrintWords Go.Proofs.YtpihnmmoahplgaaW.PrintLast Go.Proofs.YtpihnmmoahplgaaW.PrintMore
attribute [local go_sem] Go.Proofs.Ytpihnmmoahplgaa.Aux.setCell_drewN Go.Proofs.Ytpihnmmoahplgaa.Aux.isSome_setCell Go.Proofs.Ytpihnmmoahplgaa.Aux.max_eight bq bo cG cF ba bZ bp bm
set_option linter.unusedVariables false
set_option linter.unusedSimpArgs false
def dE.f (s0_0:List Int) (s0_1 s0_2 a1:Int):Option (Int × Int × Int):=(ae.f s0_0 s0_1 s0_2 14).bind fun bt262=>(if bt262.1=0 then ((ag.f s0_0 bt262.2.1 bt262.2.2 (([(-1),wrap64 (a1+1),1099511627776,(-4611686018427387904)]:List Int))).bind fun bt268=>(some (bt268.1,bt268.2.1,bt268.2.2))) else ((ae.f s0_0 bt262.2.1 bt262.2.2 (wrap64 (a1+1))).bind fun bt271=>(some (bt271.1,bt271.2.1,bt271.2.2))))
set_option maxHeartbeats 8000000 in
set_option maxRecDepth 100000 in
theorem dE.calls (g:Nat) (s0_0:List Int) (s0_1 s0_2 a1 r1 r2 r3:Int) (w0 w:World) (hI:aW w0 w g s0_0 s0_1 s0_2) (hB:Below w0.heap.size w0 w) (h:dE.f s0_0 s0_1 s0_2 a1=some (r1,r2,r3)) :
  Calls Try.prog 42 #[.pointer (some ⟨g,0,none⟩),.int .i64 a1] w fun e w'=>e=.returned (.int .i64 r1)∧aW w0 w' g s0_0 r2 r3∧Below w0.heap.size w0 w'∧a7 w w' g none:=by
 have HI0:=aA.mk hI
 have HK:=aA.mk (a7.refl w g none)
 have HL:=aA.mk hB.size
 clear hI
 have HW0:=aA.mk hB.size
 have HB:=aA.mk hB
 clear hB
 have H:=h
 unfold dE.f at H
 clear h
 replace H:=bS H
 obtain ⟨⟨t262,t263,t264⟩,A3,H⟩:=H
 try dsimp only at H
 by_cases c4:t262=0
 ·
  rw [if_pos c4] at H
  have c4b0:(t262 == 0)=true:=beq_iff_eq.mpr c4
  have c4b1:(t262 != 0)=false:=bne_eq_false_iff_eq.mpr c4
  clear c4
  obtain ⟨y265,hy265⟩:∃ y_:List Int,y_=(([(-1),wrap64 (a1+1),1099511627776,(-4611686018427387904)]:List Int)):=⟨_,rfl⟩
  replace H:((ag.f s0_0 t263 t264 y265).bind fun bt268=>(some (bt268.1,bt268.2.1,bt268.2.2)))=some (r1,r2,r3):=rH hy265 H
  have Ny265:=aA.mk hy265
  clear hy265
  replace H:=bS H
  obtain ⟨⟨t268,t269,t270⟩,A5,H⟩:=H
  try dsimp only at H
  simp only [Option.some.injEq,Prod.mk.injEq] at H
  obtain ⟨rfl,rfl,rfl⟩:=H
  go_enter Try.func42,Try.ntmps42
  go_wp2_with (first|((with_reducible refine gd 6 rfl ?_);refine gC (some 6) rfl Try.func50 (ae.calls (w:=_) (g:=g) (w0:=w0) (hI:=iA HI0) (hB:=blI) (h:=A3.out)) ?_;rintro w6 ⟨hi,hb,hk⟩;replace HK:=kkA HK hk;replace HB:=aA.mk hb;replace HI0:=aA.mk hi;clear hi hb hk)|((with_reducible refine aH (N:=11) rfl ?_);refine Kd.R_lit (Kd.int .i64) _ 2 ?hg (N:=11) ?hd (xs:=([(-1),wrap64 (a1+1),1099511627776,(-4611686018427387904)]:List Int)) (inner:=[.int .i64 (-1),.int .i64 (wrap64 (a1+1)),.int .i64 1099511627776,.int .i64 (-4611686018427387904)]) (ok:=fun _=>True) (okp:=fun _=>True) ?hr ?hp (fun _ hk=>hk) trivial (Below.refl _ _) (Nat.le_refl _) (by simp) ?_;(case hd=>rfl);(case hg=>rfl);(case hr=>first|(go_simp;done)|(go_simp;rfl));(case hp=>exact (aY.one (show Kd.M (Kd.int .i64) _ _ _ (-1) [.int .i64 (-1)] from rfl) (aY.one (show Kd.M (Kd.int .i64) _ _ _ (wrap64 (a1+1)) [.int .i64 (wrap64 (a1+1))] from rfl) (aY.one (show Kd.M (Kd.int .i64) _ _ _ 1099511627776 [.int .i64 1099511627776] from rfl) (aY.one (show Kd.M (Kd.int .i64) _ _ _ (-4611686018427387904) [.int .i64 (-4611686018427387904)] from rfl) (aY.none _ _))))));intro v266 w7 ho8 hb hg_ hnew_;clear hg_ hnew_;(first|rw [← Ny265.out] at ho8|(simp only [Int.reduceToNat] at ho8;rw [← Ny265.out] at ho8));have HO267:=aA.mk (Kd.R_lower ho8 (dw (w:=w) (g:=g) (row:=none) kpA));replace HI0:=aA.mk (aW.below (iA HI0) hb);replace HK:=kbA HK hb;replace HB:=lI hb;clear hb ho8;obtain ⟨Ao9,co9,eo9⟩:=Kd.R_slice HO267.out;subst eo9)|((with_reducible refine gd 12 rfl ?_);refine gC (some 12) rfl Try.func40 (ag.calls (w:=_) (g:=g) (w0:=w0) (hI:=iA HI0) (hB:=blI) (hr1:=cR (Kd.R_reads' HO267.out).2.2) (hc1:=(Kd.R_reads' HO267.out).2.1) (hf1:=cw (aW.own_ne HI0.out HO267.out (by decide))) (h:=A5.out)) ?_;rintro w10 ⟨hi,hb,hk⟩;replace HO267:=aA.mk (Kd.R_mono (Kd.R_keep (aW.apart (show aW w0 _ g s0_0 t263 t264 from iA HI0) (rA HO267) (by decide)) hk (fun _ h=>h.2)) (fun _ h=>h.1));replace HK:=kkA HK hk;replace HB:=aA.mk hb;replace HI0:=aA.mk hi;clear hi hb hk))
  go_ret
  exact ⟨eW,iA HI0,blI,kpA⟩
 ·
  rw [if_neg c4] at H
  have c4b0:(t262 == 0)=false:=beq_eq_false_iff_ne.mpr c4
  have c4b1:(t262 != 0)=true:=bne_iff_ne.mpr c4
  replace H:=bS H
  obtain ⟨⟨t271,t272,t273⟩,A11,H⟩:=H
  try dsimp only at H
  simp only [Option.some.injEq,Prod.mk.injEq] at H
  obtain ⟨rfl,rfl,rfl⟩:=H
  go_enter Try.func42,Try.ntmps42
  go_wp2_with (first|((with_reducible refine gd 6 rfl ?_);refine gC (some 6) rfl Try.func50 (ae.calls (w:=_) (g:=g) (w0:=w0) (hI:=iA HI0) (hB:=blI) (h:=A3.out)) ?_;rintro w12 ⟨hi,hb,hk⟩;replace HK:=kkA HK hk;replace HB:=aA.mk hb;replace HI0:=aA.mk hi;clear hi hb hk)|((with_reducible refine gd 16 rfl ?_);refine gC (some 16) rfl Try.func50 (ae.calls (w:=_) (g:=g) (w0:=w0) (hI:=iA HI0) (hB:=blI) (h:=A11.out)) ?_;rintro w13 ⟨hi,hb,hk⟩;replace HK:=kkA HK hk;replace HB:=aA.mk hb;replace HI0:=aA.mk hi;clear hi hb hk))
  go_ret
  exact ⟨eW,iA HI0,blI,kpA⟩
end Go.Proofs.Ytpihnmmoahplgaa.PAll
