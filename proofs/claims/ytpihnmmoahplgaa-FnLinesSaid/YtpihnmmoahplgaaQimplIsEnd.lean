import Derived.Test.YtpihnmmoahplgaaQx
import Derived.Test.YtpihnmmoahplgaaQspecl01End
namespace Go.Proofs.Ytpihnmmoahplgaa.PAll
open Go.RowKit Go.Proofs.YtpihnmmoahplgaaW.PrintWords Go.Proofs.YtpihnmmoahplgaaW.PrintLast Go.Proofs.YtpihnmmoahplgaaW.PrintMore
attribute [local go_sem] Go.Proofs.Ytpihnmmoahplgaa.Aux.setCell_drewN Go.Proofs.Ytpihnmmoahplgaa.Aux.isSome_setCell Go.Proofs.Ytpihnmmoahplgaa.Aux.max_eight bq bo cG cF ba bZ bp bm
set_option linter.unusedVariables false
set_option linter.unusedSimpArgs false
def cj.f (k:Nat) (a0_0 a0_1:Int):Option (Bool):=if a0_1=0 then (some (a0_0 == 1)) else ((bQ.f k 1000000 (([a0_0,a0_1]:List Int))).bind fun t148=>(if t148=true then (if a0_1>0 then ((cW.f k a0_0 a0_1).bind fun t149=>(some (t149 == 1))) else (some false)) else (some false)))
set_option maxHeartbeats 8000000 in
set_option maxRecDepth 100000 in
theorem cj.calls (k:Nat) (a0_0 a0_1:Int) (r:Bool) (w:World) (h:cj.f k a0_0 a0_1=some r) :
  Calls Try.prog 72 #[.agg #[.int .i64 a0_0,.int .i64 a0_1]] w fun e w'=>e=.returned (.bool r)∧Below w.heap.size w w':=by
 have hu28:=Try.underlying28
 have HB:=aA.mk (Below.refl w.heap.size w)
 have H:=h
 unfold cj.f at H
 clear h
 by_cases c2:a0_1=0
 ·
  rw [if_pos c2] at H
  have c2b0:(a0_1 == 0)=true:=beq_iff_eq.mpr c2
  have c2b1:(a0_1 != 0)=false:=bne_eq_false_iff_eq.mpr c2
  clear c2
  obtain rfl:=Option.some.inj H
  go_enter Try.func72,Try.ntmps72
  go_wp2_with (first|((with_reducible refine aH (N:=1) rfl ?_);refine bxE (cs:=#[.int .i64 a0_0,.int .i64 a0_1]) (t:=28) ?_;intro gb144 hg w3 hbox hb;have BK144:=aA.mk hbox;have GW144:=sA hg;have GE144:=sA hg;replace HB:=lB hb;clear hb hbox hg;obtain ⟨hcz4_0,hcz4_1,hfz4_0,hfz4_1⟩:=cz2 BK144))
  go_ret
  exact bU blA
 ·
  rw [if_neg c2] at H
  have c2b0:(a0_1 == 0)=false:=beq_eq_false_iff_ne.mpr c2
  have c2b1:(a0_1 != 0)=true:=bne_iff_ne.mpr c2
  obtain ⟨y145,hy145⟩:∃ y_:List Int,y_=(([a0_0,a0_1]:List Int)):=⟨_,rfl⟩
  replace H:((bQ.f k 1000000 y145).bind fun t148=>(if t148=true then (if a0_1>0 then ((cW.f k a0_0 a0_1).bind fun t149=>(some (t149 == 1))) else (some false)) else (some false)))=some r:=rH hy145 H
  have Ny145:=aA.mk hy145
  clear hy145
  replace H:=bS H
  obtain ⟨t148,A5,H⟩:=H
  try dsimp only at H
  by_cases c6:t148=true
  ·
   subst c6
   rw [if_pos rfl] at H
   try dsimp only at H
   by_cases c7:a0_1>0
   ·
    rw [if_pos c7] at H
    have c7b0:decide (0<a0_1)=true:=decide_eq_true c7
    clear c7
    replace H:=bS H
    obtain ⟨t149,A8,H⟩:=H
    try dsimp only at H
    obtain rfl:=Option.some.inj H
    go_enter Try.func72,Try.ntmps72
    go_wp2_with (first|((with_reducible refine aH (N:=1) rfl ?_);refine bxE (cs:=#[.int .i64 a0_0,.int .i64 a0_1]) (t:=28) ?_;intro gb144 hg w9 hbox hb;have BK144:=aA.mk hbox;have GW144:=sA hg;have GE144:=sA hg;replace HB:=lB hb;clear hb hbox hg;obtain ⟨hcz10_0,hcz10_1,hfz10_0,hfz10_1⟩:=cz2 BK144)|((with_reducible refine aH (N:=13) rfl ?_);refine Kd.R_lit (Kd.int .i64) _ 2 ?hg (N:=13) ?hd (xs:=([a0_0,a0_1]:List Int)) (inner:=[.int .i64 a0_0,.int .i64 a0_1]) (ok:=fun _=>True) (okp:=fun _=>True) ?hr ?hp (fun _ hk=>hk) trivial (Below.refl _ _) (Nat.le_refl _) (by simp) ?_;(case hd=>rfl);(case hg=>rfl);(case hr=>first|(go_simp;done)|(go_simp;rfl));(case hp=>exact (aY.one (show Kd.M (Kd.int .i64) _ _ _ a0_0 [.int .i64 a0_0] from rfl) (aY.one (show Kd.M (Kd.int .i64) _ _ _ a0_1 [.int .i64 a0_1] from rfl) (aY.none _ _))));intro v146 w11 ho12 hb hg_ hnew_;clear hg_ hnew_;(first|rw [← Ny145.out] at ho12|(simp only [Int.reduceToNat] at ho12;rw [← Ny145.out] at ho12));have HO147:=aA.mk (Kd.R_lower ho12 (ak blA));replace BK144:=kB BK144 hb;replace HB:=lB hb;clear hb ho12;obtain ⟨Ao13,co13,eo13⟩:=Kd.R_slice HO147.out;subst eo13)|((with_reducible refine gd 14 rfl ?_);refine gC (some 14) rfl Try.func59 (bQ.calls (w:=_) (hr1:=cR (Kd.R_reads' HO147.out).2.2) (hc1:=(Kd.R_reads' HO147.out).2.1) (h:=A5.out)) ?_;rintro _ ⟨nd,rfl⟩;obtain ⟨hcz14_0,hcz14_1,hfz14_0,hfz14_1⟩:=cz2 BK144)|(go_at_call 58;(with_reducible refine (cW.calls k a0_0 a0_1 t149 _ A8.out).mono ?_);rintro e w15 ⟨rfl,hb⟩;replace HO147:=aA.mk (Kd.R_below (rA HO147) hb);replace BK144:=kB BK144 hb;replace HB:=lB hb;clear hb))
    go_ret
    exact bU blA
   ·
    rw [if_neg c7] at H
    have c7b0:decide (0<a0_1)=false:=decide_eq_false c7
    clear c7
    obtain rfl:=Option.some.inj H
    go_enter Try.func72,Try.ntmps72
    go_wp2_with (first|((with_reducible refine aH (N:=1) rfl ?_);refine bxE (cs:=#[.int .i64 a0_0,.int .i64 a0_1]) (t:=28) ?_;intro gb144 hg w16 hbox hb;have BK144:=aA.mk hbox;have GW144:=sA hg;have GE144:=sA hg;replace HB:=lB hb;clear hb hbox hg;obtain ⟨hcz17_0,hcz17_1,hfz17_0,hfz17_1⟩:=cz2 BK144)|((with_reducible refine aH (N:=13) rfl ?_);refine Kd.R_lit (Kd.int .i64) _ 2 ?hg (N:=13) ?hd (xs:=([a0_0,a0_1]:List Int)) (inner:=[.int .i64 a0_0,.int .i64 a0_1]) (ok:=fun _=>True) (okp:=fun _=>True) ?hr ?hp (fun _ hk=>hk) trivial (Below.refl _ _) (Nat.le_refl _) (by simp) ?_;(case hd=>rfl);(case hg=>rfl);(case hr=>first|(go_simp;done)|(go_simp;rfl));(case hp=>exact (aY.one (show Kd.M (Kd.int .i64) _ _ _ a0_0 [.int .i64 a0_0] from rfl) (aY.one (show Kd.M (Kd.int .i64) _ _ _ a0_1 [.int .i64 a0_1] from rfl) (aY.none _ _))));intro v146 w18 ho19 hb hg_ hnew_;clear hg_ hnew_;(first|rw [← Ny145.out] at ho19|(simp only [Int.reduceToNat] at ho19;rw [← Ny145.out] at ho19));have HO147:=aA.mk (Kd.R_lower ho19 (ak blA));replace BK144:=kB BK144 hb;replace HB:=lB hb;clear hb ho19;obtain ⟨Ao20,co20,eo20⟩:=Kd.R_slice HO147.out;subst eo20)|((with_reducible refine gd 14 rfl ?_);refine gC (some 14) rfl Try.func59 (bQ.calls (w:=_) (hr1:=cR (Kd.R_reads' HO147.out).2.2) (hc1:=(Kd.R_reads' HO147.out).2.1) (h:=A5.out)) ?_;rintro _ ⟨nd,rfl⟩;obtain ⟨hcz21_0,hcz21_1,hfz21_0,hfz21_1⟩:=cz2 BK144))
    go_ret
    exact bU blA
  ·
   replace c6:=Bool.eq_false_iff.mpr c6
   subst c6
   rw [if_neg (show ¬ (false=true) by decide)] at H
   try dsimp only at H
   obtain rfl:=Option.some.inj H
   go_enter Try.func72,Try.ntmps72
   go_wp2_with (first|((with_reducible refine aH (N:=1) rfl ?_);refine bxE (cs:=#[.int .i64 a0_0,.int .i64 a0_1]) (t:=28) ?_;intro gb144 hg w22 hbox hb;have BK144:=aA.mk hbox;have GW144:=sA hg;have GE144:=sA hg;replace HB:=lB hb;clear hb hbox hg;obtain ⟨hcz23_0,hcz23_1,hfz23_0,hfz23_1⟩:=cz2 BK144)|((with_reducible refine aH (N:=13) rfl ?_);refine Kd.R_lit (Kd.int .i64) _ 2 ?hg (N:=13) ?hd (xs:=([a0_0,a0_1]:List Int)) (inner:=[.int .i64 a0_0,.int .i64 a0_1]) (ok:=fun _=>True) (okp:=fun _=>True) ?hr ?hp (fun _ hk=>hk) trivial (Below.refl _ _) (Nat.le_refl _) (by simp) ?_;(case hd=>rfl);(case hg=>rfl);(case hr=>first|(go_simp;done)|(go_simp;rfl));(case hp=>exact (aY.one (show Kd.M (Kd.int .i64) _ _ _ a0_0 [.int .i64 a0_0] from rfl) (aY.one (show Kd.M (Kd.int .i64) _ _ _ a0_1 [.int .i64 a0_1] from rfl) (aY.none _ _))));intro v146 w24 ho25 hb hg_ hnew_;clear hg_ hnew_;(first|rw [← Ny145.out] at ho25|(simp only [Int.reduceToNat] at ho25;rw [← Ny145.out] at ho25));have HO147:=aA.mk (Kd.R_lower ho25 (ak blA));replace BK144:=kB BK144 hb;replace HB:=lB hb;clear hb ho25;obtain ⟨Ao26,co26,eo26⟩:=Kd.R_slice HO147.out;subst eo26)|((with_reducible refine gd 14 rfl ?_);refine gC (some 14) rfl Try.func59 (bQ.calls (w:=_) (hr1:=cR (Kd.R_reads' HO147.out).2.2) (hc1:=(Kd.R_reads' HO147.out).2.1) (h:=A5.out)) ?_;rintro _ ⟨nd,rfl⟩))
   go_ret
   exact bU blA
end Go.Proofs.Ytpihnmmoahplgaa.PAll
