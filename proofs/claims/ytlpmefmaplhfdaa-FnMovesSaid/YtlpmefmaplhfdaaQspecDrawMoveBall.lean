-- turned out of the kit's print
import Derived.Test.YtlpmefmaplhfdaaQx
import Derived.Test.YtlpmefmaplhfdaaQimplareMatrices
import Derived.Test.YtlpmefmaplhfdaaQimplofMark
import Derived.Test.YtlpmefmaplhfdaaQimplproduct
import Derived.Test.YtlpmefmaplhfdaaQspecl01End
import Derived.Test.YtlpmefmaplhfdaaQspecl04Move
import Derived.Test.YtlpmefmaplhfdaaQspecl04With
namespace Go.Proofs.Ytlpmefmaplhfdaa.PAll
open Go.RowKit Go.Proofs.YtlpmefmaplhfdaaW.PrintWords Go.Proofs.YtlpmefmaplhfdaaW.PrintLast Go.Proofs.YtlpmefmaplhfdaaW.PrintMore
attribute [local go_sem] Go.Proofs.Ytlpmefmaplhfdaa.Aux.setCell_drewN Go.Proofs.Ytlpmefmaplhfdaa.Aux.isSome_setCell max2_int min2_int max_two min_two max_three min_three max_four min_four
set_option linter.unusedVariables false
set_option linter.unusedSimpArgs false
def spec_MoveBall.f (k:Nat) (a0 a1_0 a1_1 a1_2 a1_3 a2_0 a2_1 a2_2:Int):Option (Int × Int × Int × Int):=(spec_l04Code.f k a0 a1_0 a1_1 a1_2 a1_3 (([(⟨a2_0,a2_1,a2_2⟩:S28)]:List (S28)))).bind fun t422=>(if t422=0 then ((spec_l04Move.f k a0 a1_0 a1_1 a1_2 a1_3 a2_0 a2_1 a2_2).bind fun bt423=>(if bt423.2.2.2=true then (some (bt423.1,bt423.2.1,bt423.2.2.1,0)) else (some (0,0,0,3)))) else (some (0,0,0,t422)))
theorem spec_MoveBall.mono:∀ a0 a1 a2 a3 a4 a5 a6 a7 k,LeO (spec_MoveBall.f k a0 a1 a2 a3 a4 a5 a6 a7) (spec_MoveBall.f (k+1) a0 a1 a2 a3 a4 a5 a6 a7):=by
 intro a0 a1 a2 a3 a4 a5 a6 a7 k
 unfold spec_MoveBall.f
 repeat' first
   | with_reducible first|exact spec_l04Code.mono ..|exact spec_l04Move.mono ..|exact LeO.refl _|exact LeO.none _|refine LeO.ite ?_ ?_|refine LeO.bind ?_ fun _=>?_
set_option maxHeartbeats 8000000 in
set_option maxRecDepth 100000 in
theorem spec_MoveBall.calls (k:Nat) (a0 a1_0 a1_1 a1_2 a1_3 a2_0 a2_1 a2_2 r1 r2 r3 r4:Int) (w:World) (h:spec_MoveBall.f k a0 a1_0 a1_1 a1_2 a1_3 a2_0 a2_1 a2_2=some (r1,r2,r3,r4)) :
  Calls Try.prog 9 #[.int .i64 a0,.agg #[.int .i64 a1_0,.int .i64 a1_1,.int .i64 a1_2,.int .i64 a1_3],.agg #[.int .i64 a2_0,.int .i64 a2_1,.int .i64 a2_2]] w fun e w'=>e=.returned (.tuple #[.agg #[.int .i64 r1,.int .i64 r2,.int .i64 r3],.int .i64 r4])∧Below w.heap.size w w':=by
 have hu26:=Try.underlying26
 have hu28:=Try.underlying28
 have HB:=Aside0.mk (Below.refl w.heap.size w)
 have H:=h
 unfold spec_MoveBall.f at H
 clear h
 obtain ⟨y419,hy419⟩:∃ y_:List (S28),y_=(([(⟨a2_0,a2_1,a2_2⟩:S28)]:List (S28))):=⟨_,rfl⟩
 replace H:((spec_l04Code.f k a0 a1_0 a1_1 a1_2 a1_3 y419).bind fun t422=>(if t422=0 then ((spec_l04Move.f k a0 a1_0 a1_1 a1_2 a1_3 a2_0 a2_1 a2_2).bind fun bt423=>(if bt423.2.2.2=true then (some (bt423.1,bt423.2.1,bt423.2.2.1,0)) else (some (0,0,0,3)))) else (some (0,0,0,t422))))=some (r1,r2,r3,r4):=rH hy419 H
 have Ny419:=Aside0.mk hy419
 clear hy419
 replace H:=bS H
 obtain ⟨t422,A4,H⟩:=H
 try dsimp only at H
 by_cases c5:t422=0
 ·
  rw [if_pos c5] at H
  have c5b0:(t422 == 0)=true:=beq_iff_eq.mpr c5
  have c5b1:(t422 != 0)=false:=bne_eq_false_iff_eq.mpr c5
  clear c5
  replace H:=bS H
  obtain ⟨⟨t423,t424,t425,t426⟩,A6,H⟩:=H
  try dsimp only at H
  by_cases c7:t426=true
  ·
   subst c7
   rw [if_pos rfl] at H
   try dsimp only at H
   simp only [Option.some.injEq,Prod.mk.injEq] at H
   obtain ⟨rfl,rfl,rfl,rfl⟩:=H
   go_enter Try.func9,Try.ntmps9
   go_wp2_with (first|((with_reducible refine gate_dst (N:=4) rfl ?_);refine bxE (cs:=#[.int .i64 a1_0,.int .i64 a1_1,.int .i64 a1_2,.int .i64 a1_3]) (t:=26) ?_;intro gb416 hg w8 hbox hb;have BK416:=Aside0.mk hbox;have GW416:=sA hg;have GE416:=sA hg;replace HB:=lB hb;clear hb hbox hg)|((with_reducible refine gate_dst (N:=5) rfl ?_);refine bxE (cs:=#[.int .i64 a2_0,.int .i64 a2_1,.int .i64 a2_2]) (t:=28) ?_;intro gb417 hg w9 hbox hb;have BK417:=Aside0.mk hbox;have GW417:=sA hg;have GE417:=sA hg;have NB416_417:=nA hg BK416;have NB417_416:=nB hg BK416;replace BK416:=kB BK416 hb;replace HB:=lB hb;clear hb hbox hg)|((with_reducible refine gate_dst (N:=6) rfl ?_);refine bxE (cs:=#[.int .i64 0,.int .i64 0,.int .i64 0]) (t:=28) ?_;intro gb418 hg w10 hbox hb;have BK418:=Aside0.mk hbox;have GW418:=sA hg;have GE418:=sA hg;have NB416_418:=nA hg BK416;have NB418_416:=nB hg BK416;have NB417_418:=nA hg BK417;have NB418_417:=nB hg BK417;replace BK416:=kB BK416 hb;replace BK417:=kB BK417 hb;replace HB:=lB hb;clear hb hbox hg;have hnb11:=NB416_417.out;have hnc11:=NB417_416.out;have hnb12:=NB416_418.out;have hnc12:=NB418_416.out;obtain ⟨hcz13_0,hcz13_1,hcz13_2,hcz13_3,hfz13_0,hfz13_1,hfz13_2,hfz13_3⟩:=cz4 BK416;have hnb14:=NB417_418.out;have hnc14:=NB418_417.out;obtain ⟨hcz15_0,hcz15_1,hcz15_2,hfz15_0,hfz15_1,hfz15_2⟩:=cz3 BK417)|((with_reducible refine gate_dst (N:=14) rfl ?_);refine Kd.R_lit k28 _ 28 ?hg (N:=14) ?hd (xs:=([(⟨a2_0,a2_1,a2_2⟩:S28)]:List (S28))) (inner:=[.int .i64 a2_0,.int .i64 a2_1,.int .i64 a2_2]) (ok:=fun _=>True) (okp:=fun _=>True) ?hr ?hp (fun _ hk=>hk) trivial (Below.refl _ _) (Nat.le_refl _) (by simp) ?_;(case hd=>rfl);(case hg=>rfl);(case hr=>first|(go_simp;done)|(go_simp;rfl));(case hp=>exact (Reps.c3 (show Kd.M k28 _ _ _ (⟨a2_0,a2_1,a2_2⟩:S28) [.int .i64 a2_0,.int .i64 a2_1,.int .i64 a2_2] from (k28_mkM _ _ _ (⟨a2_0,a2_1,a2_2⟩:S28) )) (Reps.none _ _)));intro v420 w16 ho17 hb hg_ hnew_;clear hg_ hnew_;(first|rw [← Ny419.out] at ho17|(simp only [Int.reduceToNat] at ho17;rw [← Ny419.out] at ho17));have HO421:=Aside0.mk (Kd.R_lower (Kd.R_newB (Kd.R_newB ho17 (bkA BK417)) (bkA BK418)) (below_size blA));replace BK416:=kB BK416 hb;replace BK417:=kB BK417 hb;replace BK418:=kB BK418 hb;replace HB:=lB hb;clear hb ho17;obtain ⟨Ao18,co18,eo18⟩:=Kd.R_slice HO421.out;subst eo18)|((with_reducible refine gd 15 rfl ?_);refine gC (some 15) rfl Try.func45 (spec_l04Code.calls (w:=_) (hr2:=cR (Kd.R_reads' HO421.out).2.2) (hc2:=(Kd.R_reads' HO421.out).2.1) (h:=A4.out)) ?_;intro w19 hb;replace HO421:=Aside0.mk (Kd.R_below (rA HO421) hb);replace BK416:=kB BK416 hb;replace BK417:=kB BK417 hb;replace BK418:=kB BK418 hb;replace HB:=lB hb;clear hb;obtain ⟨hcz20_0,hcz20_1,hcz20_2,hcz20_3,hfz20_0,hfz20_1,hfz20_2,hfz20_3⟩:=cz4 BK416;obtain ⟨hcz21_0,hcz21_1,hcz21_2,hfz21_0,hfz21_1,hfz21_2⟩:=cz3 BK417)|((with_reducible refine gd 24 rfl ?_);refine gC (some 24) rfl Try.func46 (spec_l04Move.calls (w:=_) (h:=A6.out)) ?_;intro w22 hb;replace HO421:=Aside0.mk (Kd.R_below (rA HO421) hb);replace BK416:=kB BK416 hb;replace BK417:=kB BK417 hb;replace BK418:=kB BK418 hb;replace HB:=lB hb;clear hb)|((with_reducible refine gate_dst (N:=9) rfl ?_);refine bxE (cs:=#[.int .i64 0,.int .i64 0,.int .i64 0]) (t:=28) ?_;intro gb427 hg w23 hbox hb;have BK427:=Aside0.mk hbox;have GW427:=sA hg;have GE427:=sA hg;have NB416_427:=nA hg BK416;have NB427_416:=nB hg BK416;have NB417_427:=nA hg BK417;have NB427_417:=nB hg BK417;have NB418_427:=nA hg BK418;have NB427_418:=nB hg BK418;replace HO421:=Aside0.mk (Kd.R_below (Kd.R_elderB (rA HO421) gb427 (Nat.le_of_eq hg.symm)) hb);replace BK416:=kB BK416 hb;replace BK417:=kB BK417 hb;replace BK418:=kB BK418 hb;replace HB:=lB hb;clear hb hbox hg;have hnb24:=NB427_416.out;have hnc24:=NB416_427.out;have hnb25:=NB427_417.out;have hnc25:=NB417_427.out;have hnb26:=NB427_418.out;have hnc26:=NB418_427.out;obtain ⟨hcz27_0,hcz27_1,hcz27_2,hfz27_0,hfz27_1,hfz27_2⟩:=cz3 BK427;obtain ⟨hcz28_0,hcz28_1,hcz28_2,hfz28_0,hfz28_1,hfz28_2⟩:=cz3 BK418))
   refine bodyPost_ret (results_ct rfl _ _ gb418 28 #[.int .i64 t423,.int .i64 t424,.int .i64 t425] (0,0) _ rfl (bpA BK418) Try.underlying28 rfl (by kernel_rfl)) rfl ?_
   exact finA blA
  ·
   replace c7:=Bool.eq_false_iff.mpr c7
   subst c7
   rw [if_neg (show ¬ (false=true) by decide)] at H
   try dsimp only at H
   simp only [Option.some.injEq,Prod.mk.injEq] at H
   obtain ⟨rfl,rfl,rfl,rfl⟩:=H
   go_enter Try.func9,Try.ntmps9
   go_wp2_with (first|((with_reducible refine gate_dst (N:=4) rfl ?_);refine bxE (cs:=#[.int .i64 a1_0,.int .i64 a1_1,.int .i64 a1_2,.int .i64 a1_3]) (t:=26) ?_;intro gb416 hg w29 hbox hb;have BK416:=Aside0.mk hbox;have GW416:=sA hg;have GE416:=sA hg;replace HB:=lB hb;clear hb hbox hg)|((with_reducible refine gate_dst (N:=5) rfl ?_);refine bxE (cs:=#[.int .i64 a2_0,.int .i64 a2_1,.int .i64 a2_2]) (t:=28) ?_;intro gb417 hg w30 hbox hb;have BK417:=Aside0.mk hbox;have GW417:=sA hg;have GE417:=sA hg;have NB416_417:=nA hg BK416;have NB417_416:=nB hg BK416;replace BK416:=kB BK416 hb;replace HB:=lB hb;clear hb hbox hg)|((with_reducible refine gate_dst (N:=6) rfl ?_);refine bxE (cs:=#[.int .i64 0,.int .i64 0,.int .i64 0]) (t:=28) ?_;intro gb418 hg w31 hbox hb;have BK418:=Aside0.mk hbox;have GW418:=sA hg;have GE418:=sA hg;have NB416_418:=nA hg BK416;have NB418_416:=nB hg BK416;have NB417_418:=nA hg BK417;have NB418_417:=nB hg BK417;replace BK416:=kB BK416 hb;replace BK417:=kB BK417 hb;replace HB:=lB hb;clear hb hbox hg;have hnb32:=NB416_417.out;have hnc32:=NB417_416.out;have hnb33:=NB416_418.out;have hnc33:=NB418_416.out;obtain ⟨hcz34_0,hcz34_1,hcz34_2,hcz34_3,hfz34_0,hfz34_1,hfz34_2,hfz34_3⟩:=cz4 BK416;have hnb35:=NB417_418.out;have hnc35:=NB418_417.out;obtain ⟨hcz36_0,hcz36_1,hcz36_2,hfz36_0,hfz36_1,hfz36_2⟩:=cz3 BK417)|((with_reducible refine gate_dst (N:=14) rfl ?_);refine Kd.R_lit k28 _ 28 ?hg (N:=14) ?hd (xs:=([(⟨a2_0,a2_1,a2_2⟩:S28)]:List (S28))) (inner:=[.int .i64 a2_0,.int .i64 a2_1,.int .i64 a2_2]) (ok:=fun _=>True) (okp:=fun _=>True) ?hr ?hp (fun _ hk=>hk) trivial (Below.refl _ _) (Nat.le_refl _) (by simp) ?_;(case hd=>rfl);(case hg=>rfl);(case hr=>first|(go_simp;done)|(go_simp;rfl));(case hp=>exact (Reps.c3 (show Kd.M k28 _ _ _ (⟨a2_0,a2_1,a2_2⟩:S28) [.int .i64 a2_0,.int .i64 a2_1,.int .i64 a2_2] from (k28_mkM _ _ _ (⟨a2_0,a2_1,a2_2⟩:S28) )) (Reps.none _ _)));intro v420 w37 ho38 hb hg_ hnew_;clear hg_ hnew_;(first|rw [← Ny419.out] at ho38|(simp only [Int.reduceToNat] at ho38;rw [← Ny419.out] at ho38));have HO421:=Aside0.mk (Kd.R_lower (Kd.R_newB (Kd.R_newB ho38 (bkA BK417)) (bkA BK418)) (below_size blA));replace BK416:=kB BK416 hb;replace BK417:=kB BK417 hb;replace BK418:=kB BK418 hb;replace HB:=lB hb;clear hb ho38;obtain ⟨Ao39,co39,eo39⟩:=Kd.R_slice HO421.out;subst eo39)|((with_reducible refine gd 15 rfl ?_);refine gC (some 15) rfl Try.func45 (spec_l04Code.calls (w:=_) (hr2:=cR (Kd.R_reads' HO421.out).2.2) (hc2:=(Kd.R_reads' HO421.out).2.1) (h:=A4.out)) ?_;intro w40 hb;replace HO421:=Aside0.mk (Kd.R_below (rA HO421) hb);replace BK416:=kB BK416 hb;replace BK417:=kB BK417 hb;replace BK418:=kB BK418 hb;replace HB:=lB hb;clear hb;obtain ⟨hcz41_0,hcz41_1,hcz41_2,hcz41_3,hfz41_0,hfz41_1,hfz41_2,hfz41_3⟩:=cz4 BK416;obtain ⟨hcz42_0,hcz42_1,hcz42_2,hfz42_0,hfz42_1,hfz42_2⟩:=cz3 BK417)|((with_reducible refine gd 24 rfl ?_);refine gC (some 24) rfl Try.func46 (spec_l04Move.calls (w:=_) (h:=A6.out)) ?_;intro w43 hb;replace HO421:=Aside0.mk (Kd.R_below (rA HO421) hb);replace BK416:=kB BK416 hb;replace BK417:=kB BK417 hb;replace BK418:=kB BK418 hb;replace HB:=lB hb;clear hb)|((with_reducible refine gate_dst (N:=9) rfl ?_);refine bxE (cs:=#[.int .i64 0,.int .i64 0,.int .i64 0]) (t:=28) ?_;intro gb427 hg w44 hbox hb;have BK427:=Aside0.mk hbox;have GW427:=sA hg;have GE427:=sA hg;have NB416_427:=nA hg BK416;have NB427_416:=nB hg BK416;have NB417_427:=nA hg BK417;have NB427_417:=nB hg BK417;have NB418_427:=nA hg BK418;have NB427_418:=nB hg BK418;replace HO421:=Aside0.mk (Kd.R_below (Kd.R_elderB (rA HO421) gb427 (Nat.le_of_eq hg.symm)) hb);replace BK416:=kB BK416 hb;replace BK417:=kB BK417 hb;replace BK418:=kB BK418 hb;replace HB:=lB hb;clear hb hbox hg;have hnb45:=NB427_416.out;have hnc45:=NB416_427.out;have hnb46:=NB427_417.out;have hnc46:=NB417_427.out;have hnb47:=NB427_418.out;have hnc47:=NB418_427.out;obtain ⟨hcz48_0,hcz48_1,hcz48_2,hfz48_0,hfz48_1,hfz48_2⟩:=cz3 BK427;obtain ⟨hcz49_0,hcz49_1,hcz49_2,hfz49_0,hfz49_1,hfz49_2⟩:=cz3 BK418))
   refine bodyPost_ret (results_ct rfl _ _ gb418 28 #[.int .i64 0,.int .i64 0,.int .i64 0] (0,0) _ rfl (bpA BK418) Try.underlying28 rfl (by kernel_rfl)) rfl ?_
   exact finA blA
 ·
  rw [if_neg c5] at H
  have c5b0:(t422 == 0)=false:=beq_eq_false_iff_ne.mpr c5
  have c5b1:(t422 != 0)=true:=bne_iff_ne.mpr c5
  simp only [Option.some.injEq,Prod.mk.injEq] at H
  obtain ⟨rfl,rfl,rfl,rfl⟩:=H
  go_enter Try.func9,Try.ntmps9
  go_wp2_with (first|((with_reducible refine gate_dst (N:=4) rfl ?_);refine bxE (cs:=#[.int .i64 a1_0,.int .i64 a1_1,.int .i64 a1_2,.int .i64 a1_3]) (t:=26) ?_;intro gb416 hg w50 hbox hb;have BK416:=Aside0.mk hbox;have GW416:=sA hg;have GE416:=sA hg;replace HB:=lB hb;clear hb hbox hg)|((with_reducible refine gate_dst (N:=5) rfl ?_);refine bxE (cs:=#[.int .i64 a2_0,.int .i64 a2_1,.int .i64 a2_2]) (t:=28) ?_;intro gb417 hg w51 hbox hb;have BK417:=Aside0.mk hbox;have GW417:=sA hg;have GE417:=sA hg;have NB416_417:=nA hg BK416;have NB417_416:=nB hg BK416;replace BK416:=kB BK416 hb;replace HB:=lB hb;clear hb hbox hg)|((with_reducible refine gate_dst (N:=6) rfl ?_);refine bxE (cs:=#[.int .i64 0,.int .i64 0,.int .i64 0]) (t:=28) ?_;intro gb418 hg w52 hbox hb;have BK418:=Aside0.mk hbox;have GW418:=sA hg;have GE418:=sA hg;have NB416_418:=nA hg BK416;have NB418_416:=nB hg BK416;have NB417_418:=nA hg BK417;have NB418_417:=nB hg BK417;replace BK416:=kB BK416 hb;replace BK417:=kB BK417 hb;replace HB:=lB hb;clear hb hbox hg;have hnb53:=NB416_417.out;have hnc53:=NB417_416.out;have hnb54:=NB416_418.out;have hnc54:=NB418_416.out;obtain ⟨hcz55_0,hcz55_1,hcz55_2,hcz55_3,hfz55_0,hfz55_1,hfz55_2,hfz55_3⟩:=cz4 BK416;have hnb56:=NB417_418.out;have hnc56:=NB418_417.out;obtain ⟨hcz57_0,hcz57_1,hcz57_2,hfz57_0,hfz57_1,hfz57_2⟩:=cz3 BK417)|((with_reducible refine gate_dst (N:=14) rfl ?_);refine Kd.R_lit k28 _ 28 ?hg (N:=14) ?hd (xs:=([(⟨a2_0,a2_1,a2_2⟩:S28)]:List (S28))) (inner:=[.int .i64 a2_0,.int .i64 a2_1,.int .i64 a2_2]) (ok:=fun _=>True) (okp:=fun _=>True) ?hr ?hp (fun _ hk=>hk) trivial (Below.refl _ _) (Nat.le_refl _) (by simp) ?_;(case hd=>rfl);(case hg=>rfl);(case hr=>first|(go_simp;done)|(go_simp;rfl));(case hp=>exact (Reps.c3 (show Kd.M k28 _ _ _ (⟨a2_0,a2_1,a2_2⟩:S28) [.int .i64 a2_0,.int .i64 a2_1,.int .i64 a2_2] from (k28_mkM _ _ _ (⟨a2_0,a2_1,a2_2⟩:S28) )) (Reps.none _ _)));intro v420 w58 ho59 hb hg_ hnew_;clear hg_ hnew_;(first|rw [← Ny419.out] at ho59|(simp only [Int.reduceToNat] at ho59;rw [← Ny419.out] at ho59));have HO421:=Aside0.mk (Kd.R_lower (Kd.R_newB (Kd.R_newB ho59 (bkA BK417)) (bkA BK418)) (below_size blA));replace BK416:=kB BK416 hb;replace BK417:=kB BK417 hb;replace BK418:=kB BK418 hb;replace HB:=lB hb;clear hb ho59;obtain ⟨Ao60,co60,eo60⟩:=Kd.R_slice HO421.out;subst eo60)|((with_reducible refine gd 15 rfl ?_);refine gC (some 15) rfl Try.func45 (spec_l04Code.calls (w:=_) (hr2:=cR (Kd.R_reads' HO421.out).2.2) (hc2:=(Kd.R_reads' HO421.out).2.1) (h:=A4.out)) ?_;intro w61 hb;replace HO421:=Aside0.mk (Kd.R_below (rA HO421) hb);replace BK416:=kB BK416 hb;replace BK417:=kB BK417 hb;replace BK418:=kB BK418 hb;replace HB:=lB hb;clear hb;obtain ⟨hcz62_0,hcz62_1,hcz62_2,hfz62_0,hfz62_1,hfz62_2⟩:=cz3 BK418))
  refine bodyPost_ret (results_ct rfl _ _ gb418 28 #[.int .i64 0,.int .i64 0,.int .i64 0] (0,0) _ rfl (bpA BK418) Try.underlying28 rfl (by kernel_rfl)) rfl ?_
  exact finA blA
def impl_MoveEnd.j0:Nat→Bool→Int→Int→Int→Int→Int→Int→Option (Int × Int × Int)
 | 0,_,_,_,_,_,_,_=>none
 | k+1,x13,x524000,x524001,x524002,x524003,x525000,x525001=>if x13=true then (some (0,0,1)) else ((impl_moveEnd.f k x524000 x524001 x524002 x524003 x525000 x525001).bind fun bt528=>((impl_fittedEnd.f bt528.1 bt528.2.1 bt528.2.2).bind fun bt531=>(some (bt531.1,bt531.2.1,bt531.2.2))))
def impl_MoveEnd.f (k:Nat) (a0_0 a0_1 a0_2 a0_3 a1_0 a1_1:Int):Option (Int × Int × Int):=(impl_IsMatrix.f k a0_0 a0_1 a0_2 a0_3).bind fun t526=>(if t526=true then ((impl_IsEnd.f k a1_0 a1_1).bind fun t527=>(impl_MoveEnd.j0 k (!t527) a0_0 a0_1 a0_2 a0_3 a1_0 a1_1)) else (impl_MoveEnd.j0 k true a0_0 a0_1 a0_2 a0_3 a1_0 a1_1))
theorem impl_MoveEnd.mono_l:∀ k,(∀ y0 y1 y2 y3 y4 y5 y6,LeO (impl_MoveEnd.j0 k y0 y1 y2 y3 y4 y5 y6) (impl_MoveEnd.j0 (k+1) y0 y1 y2 y3 y4 y5 y6))
 | 0=>fun _ _ _ _ _ _ _ r h=>by simp [impl_MoveEnd.j0] at h
 | k+1=>by
  have ih0:=impl_MoveEnd.mono_l k
  ·
   intro y0 y1 y2 y3 y4 y5 y6
   unfold impl_MoveEnd.j0
   repeat' first
   | with_reducible first|exact ih0 ..|exact impl_IsEnd.mono ..|exact impl_IsMatrix.mono ..|exact impl_moveEnd.mono ..|exact LeO.refl _|exact LeO.none _|refine LeO.ite ?_ ?_|refine LeO.bind ?_ fun _=>?_
theorem impl_MoveEnd.mono:∀ a0 a1 a2 a3 a4 a5 k,LeO (impl_MoveEnd.f k a0 a1 a2 a3 a4 a5) (impl_MoveEnd.f (k+1) a0 a1 a2 a3 a4 a5):=by
 intro a0 a1 a2 a3 a4 a5 k
 have ih0:=impl_MoveEnd.mono_l k
 unfold impl_MoveEnd.f
 repeat' first
   | with_reducible first|exact ih0 ..|exact impl_IsEnd.mono ..|exact impl_IsMatrix.mono ..|exact impl_moveEnd.mono ..|exact LeO.refl _|exact LeO.none _|refine LeO.ite ?_ ?_|refine LeO.bind ?_ fun _=>?_
set_option maxHeartbeats 8000000 in
set_option maxRecDepth 100000 in
theorem impl_MoveEnd.calls (k:Nat) (a0_0 a0_1 a0_2 a0_3 a1_0 a1_1 r1 r2 r3:Int) (w:World) (h:impl_MoveEnd.f k a0_0 a0_1 a0_2 a0_3 a1_0 a1_1=some (r1,r2,r3)) :
  Calls Try.prog 11 #[.agg #[.int .i64 a0_0,.int .i64 a0_1,.int .i64 a0_2,.int .i64 a0_3],.agg #[.int .i64 a1_0,.int .i64 a1_1]] w fun e w'=>e=.returned (.tuple #[.agg #[.int .i64 r1,.int .i64 r2],.int .i64 r3])∧Below w.heap.size w w':=by
 have hu26:=Try.underlying26
 have hu34:=Try.underlying34
 have HB:=Aside0.mk (Below.refl w.heap.size w)
 have H:=h
 unfold impl_MoveEnd.f at H
 clear h
 have HC3:=Aside0.mk H
 clear H
 go_enter Try.func11,Try.ntmps11
 go_upto_region 1 with (first|((with_reducible refine gate_dst (N:=2) rfl ?_);refine bxE (cs:=#[.int .i64 a0_0,.int .i64 a0_1,.int .i64 a0_2,.int .i64 a0_3]) (t:=26) ?_;intro gb523 hg w4 hbox hb;have BK523:=Aside0.mk hbox;have GW523:=sA hg;have GE523:=sA hg;replace HB:=lB hb;clear hb hbox hg)|((with_reducible refine gate_dst (N:=3) rfl ?_);refine bxE (cs:=#[.int .i64 a1_0,.int .i64 a1_1]) (t:=34) ?_;intro gb524 hg w5 hbox hb;have BK524:=Aside0.mk hbox;have GW524:=sA hg;have GE524:=sA hg;have NB523_524:=nA hg BK523;have NB524_523:=nB hg BK523;replace BK523:=kB BK523 hb;replace HB:=lB hb;clear hb hbox hg)|((with_reducible refine gate_dst (N:=4) rfl ?_);refine bxE (cs:=#[.int .i64 0,.int .i64 0]) (t:=34) ?_;intro gb525 hg w6 hbox hb;have BK525:=Aside0.mk hbox;have GW525:=sA hg;have GE525:=sA hg;have NB523_525:=nA hg BK523;have NB525_523:=nB hg BK523;have NB524_525:=nA hg BK524;have NB525_524:=nB hg BK524;replace BK523:=kB BK523 hb;replace BK524:=kB BK524 hb;replace HB:=lB hb;clear hb hbox hg))
 (try simp only [Act.put,List.setIfInBounds_toArray,List.set_cons_zero,List.set_cons_succ])
 go_cut [13] (fun v13 wc=>∃ (kq:Nat) (x13_2:Bool),v13=.bool x13_2∧Aside0 (impl_MoveEnd.j0 kq x13_2 a0_0 a0_1 a0_2 a0_3 a1_0 a1_1=some (r1,r2,r3))∧Aside0 (kq≤k)∧Aside0 (wc.heap[gb523]?=some (.cells #[.int .i64 a0_0,.int .i64 a0_1,.int .i64 a0_2,.int .i64 a0_3] 26 (0,0)))∧Aside0 (wc.heap[gb524]?=some (.cells #[.int .i64 a1_0,.int .i64 a1_1] 34 (0,0)))∧Aside0 (wc.heap[gb525]?=some (.cells #[.int .i64 0,.int .i64 0] 34 (0,0)))∧Aside0 (Below w.heap.size w wc))
 case first=>
  have H:=HC3.out
  clear HC3
  replace H:=bS H
  obtain ⟨t526,A7,H⟩:=H
  try dsimp only at H
  by_cases c8:t526=true
  ·
   subst c8
   rw [if_pos rfl] at H
   try dsimp only at H
   replace H:=bS H
   obtain ⟨t527,A9,H⟩:=H
   try dsimp only at H
   have H':=Aside0.mk H
   clear H
   have hnb10:=NB523_524.out
   have hnc10:=NB524_523.out
   have hnb11:=NB523_525.out
   have hnc11:=NB525_523.out
   obtain ⟨hcz12_0,hcz12_1,hcz12_2,hcz12_3,hfz12_0,hfz12_1,hfz12_2,hfz12_3⟩:=cz4 BK523
   go_wp2_with (first|((with_reducible refine gd 7 rfl ?_);refine gC (some 7) rfl Try.func42 (impl_IsMatrix.calls (w:=_) (h:=A7.out)) ?_;intro w13 hb;replace BK523:=kB BK523 hb;replace BK524:=kB BK524 hb;replace BK525:=kB BK525 hb;replace HB:=lB hb;clear hb;have hnb14:=NB524_525.out;have hnc14:=NB525_524.out;obtain ⟨hcz15_0,hcz15_1,hfz15_0,hfz15_1⟩:=cz2 BK524)|(go_at_call 50;(with_reducible refine (impl_IsEnd.calls k a1_0 a1_1 t527 _ A9.out).mono ?_);rintro e w16 ⟨rfl,hb⟩;replace BK523:=kB BK523 hb;replace BK524:=kB BK524 hb;replace BK525:=kB BK525 hb;replace HB:=lB hb;clear hb))
   go_meet
   case rel=>exact ⟨_,(!t527),hB,H',⟨by first|omega|exact Nat.le_refl _⟩,⟨bkA BK523⟩,⟨bkA BK524⟩,⟨bkA BK525⟩,⟨blA⟩⟩
  ·
   replace c8:=Bool.eq_false_iff.mpr c8
   subst c8
   rw [if_neg (show ¬ (false=true) by decide)] at H
   try dsimp only at H
   have H':=Aside0.mk H
   clear H
   have hnb17:=NB523_524.out
   have hnc17:=NB524_523.out
   have hnb18:=NB523_525.out
   have hnc18:=NB525_523.out
   obtain ⟨hcz19_0,hcz19_1,hcz19_2,hcz19_3,hfz19_0,hfz19_1,hfz19_2,hfz19_3⟩:=cz4 BK523
   go_wp2_with (first|((with_reducible refine gd 7 rfl ?_);refine gC (some 7) rfl Try.func42 (impl_IsMatrix.calls (w:=_) (h:=A7.out)) ?_;intro w20 hb;replace BK523:=kB BK523 hb;replace BK524:=kB BK524 hb;replace BK525:=kB BK525 hb;replace HB:=lB hb;clear hb))
   go_meet
   case rel=>exact ⟨_,(true),hB,H',⟨by first|omega|exact Nat.le_refl _⟩,⟨bkA BK523⟩,⟨bkA BK524⟩,⟨bkA BK525⟩,⟨blA⟩⟩
 case rest=>
  clear HC3
  try clear c8
  try clear hcz12_0
  try clear hcz12_1
  try clear hcz12_2
  try clear hcz12_3
  try clear hcz15_0
  try clear hcz15_1
  try clear hcz19_0
  try clear hcz19_1
  try clear hcz19_2
  try clear hcz19_3
  try clear hfz12_0
  try clear hfz12_1
  try clear hfz12_2
  try clear hfz12_3
  try clear hfz15_0
  try clear hfz15_1
  try clear hfz19_0
  try clear hfz19_1
  try clear hfz19_2
  try clear hfz19_3
  obtain ⟨kq,x13_2,rfl,HA,HJ2,BK523,BK524,BK525,HB⟩:=hcut
  cases kq with
  | zero=>exact absurd HA.out (by simp [impl_MoveEnd.j0])
  | succ kj2=>
   have H:=HA.out
   clear HA
   simp only [impl_MoveEnd.j0] at H
   by_cases c21:x13_2=true
   ·
    subst c21
    rw [if_pos rfl] at H
    try dsimp only at H
    simp only [Option.some.injEq,Prod.mk.injEq] at H
    obtain ⟨rfl,rfl,rfl⟩:=H
    have hnb22:=NB525_523.out
    have hnc22:=NB523_525.out
    have hnb23:=NB525_524.out
    have hnc23:=NB524_525.out
    obtain ⟨hcz24_0,hcz24_1,hfz24_0,hfz24_1⟩:=cz2 BK525
    go_wp2
    refine bodyPost_ret (results_ct rfl _ _ gb525 34 #[.int .i64 0,.int .i64 0] (0,0) _ rfl (bpA BK525) Try.underlying34 rfl (by kernel_rfl)) rfl ?_
    exact finA blA
   ·
    replace c21:=Bool.eq_false_iff.mpr c21
    subst c21
    rw [if_neg (show ¬ (false=true) by decide)] at H
    try dsimp only at H
    replace H:=bS H
    obtain ⟨⟨t528,t529,t530⟩,A25,H⟩:=H
    try dsimp only at H
    replace H:=bS H
    obtain ⟨⟨t531,t532,t533⟩,A26,H⟩:=H
    try dsimp only at H
    simp only [Option.some.injEq,Prod.mk.injEq] at H
    obtain ⟨rfl,rfl,rfl⟩:=H
    have hnb27:=NB523_524.out
    have hnc27:=NB524_523.out
    have hnb28:=NB523_525.out
    have hnc28:=NB525_523.out
    obtain ⟨hcz29_0,hcz29_1,hcz29_2,hcz29_3,hfz29_0,hfz29_1,hfz29_2,hfz29_3⟩:=cz4 BK523
    have hnb30:=NB524_525.out
    have hnc30:=NB525_524.out
    obtain ⟨hcz31_0,hcz31_1,hfz31_0,hfz31_1⟩:=cz2 BK524
    go_wp2_with (first|((with_reducible refine gd 17 rfl ?_);refine gC (some 17) rfl Try.func52 (impl_moveEnd.calls (w:=_) (h:=A25.out)) ?_;intro w32 hb;replace BK523:=kB BK523 hb;replace BK524:=kB BK524 hb;replace BK525:=kB BK525 hb;replace HB:=lB hb;clear hb)|((with_reducible refine gd 20 rfl ?_);refine gC (some 20) rfl Try.func51 (impl_fittedEnd.calls (w:=_) (h:=A26.out)) ?_;intro w33 hb;replace BK523:=kB BK523 hb;replace BK524:=kB BK524 hb;replace BK525:=kB BK525 hb;replace HB:=lB hb;clear hb;obtain ⟨hcz34_0,hcz34_1,hfz34_0,hfz34_1⟩:=cz2 BK525))
    refine bodyPost_ret (results_ct rfl _ _ gb525 34 #[.int .i64 t531,.int .i64 t532] (0,0) _ rfl (bpA BK525) Try.underlying34 rfl (by kernel_rfl)) rfl ?_
    exact finA blA
def impl_TreeDistance.f (k:Nat) (a0 a1_0 a1_1 a1_2 a2_0 a2_1 a2_2:Int):Option (Int × Int):=(impl_areBalls.f k a0 (([(⟨a1_0,a1_1,a1_2⟩:S28),(⟨a2_0,a2_1,a2_2⟩:S28)]:List (S28)))).bind fun t609=>(if t609=true then ((impl_distance.f k a0 a1_0 a1_1 a1_2 a2_0 a2_1 a2_2).bind fun t610=>(some (t610,0))) else (some (0,1)))
theorem impl_TreeDistance.mono:∀ a0 a1 a2 a3 a4 a5 a6 k,LeO (impl_TreeDistance.f k a0 a1 a2 a3 a4 a5 a6) (impl_TreeDistance.f (k+1) a0 a1 a2 a3 a4 a5 a6):=by
 intro a0 a1 a2 a3 a4 a5 a6 k
 unfold impl_TreeDistance.f
 repeat' first
   | with_reducible first|exact impl_areBalls.mono ..|exact impl_distance.mono ..|exact LeO.refl _|exact LeO.none _|refine LeO.ite ?_ ?_|refine LeO.bind ?_ fun _=>?_
set_option maxHeartbeats 8000000 in
set_option maxRecDepth 100000 in
theorem impl_TreeDistance.calls (k:Nat) (a0 a1_0 a1_1 a1_2 a2_0 a2_1 a2_2 r1 r2:Int) (w:World) (h:impl_TreeDistance.f k a0 a1_0 a1_1 a1_2 a2_0 a2_1 a2_2=some (r1,r2)) :
  Calls Try.prog 16 #[.int .i64 a0,.agg #[.int .i64 a1_0,.int .i64 a1_1,.int .i64 a1_2],.agg #[.int .i64 a2_0,.int .i64 a2_1,.int .i64 a2_2]] w fun e w'=>e=.returned (.tuple #[.int .i64 r1,.int .i64 r2])∧Below w.heap.size w w':=by
 have hu28:=Try.underlying28
 have HB:=Aside0.mk (Below.refl w.heap.size w)
 have H:=h
 unfold impl_TreeDistance.f at H
 clear h
 obtain ⟨y606,hy606⟩:∃ y_:List (S28),y_=(([(⟨a1_0,a1_1,a1_2⟩:S28),(⟨a2_0,a2_1,a2_2⟩:S28)]:List (S28))):=⟨_,rfl⟩
 replace H:((impl_areBalls.f k a0 y606).bind fun t609=>(if t609=true then ((impl_distance.f k a0 a1_0 a1_1 a1_2 a2_0 a2_1 a2_2).bind fun t610=>(some (t610,0))) else (some (0,1))))=some (r1,r2):=rH hy606 H
 have Ny606:=Aside0.mk hy606
 clear hy606
 replace H:=bS H
 obtain ⟨t609,A4,H⟩:=H
 try dsimp only at H
 by_cases c5:t609=true
 ·
  subst c5
  rw [if_pos rfl] at H
  try dsimp only at H
  replace H:=bS H
  obtain ⟨t610,A6,H⟩:=H
  try dsimp only at H
  simp only [Option.some.injEq,Prod.mk.injEq] at H
  obtain ⟨rfl,rfl⟩:=H
  go_enter Try.func16,Try.ntmps16
  go_wp2_with (first|((with_reducible refine gate_dst (N:=4) rfl ?_);refine bxE (cs:=#[.int .i64 a1_0,.int .i64 a1_1,.int .i64 a1_2]) (t:=28) ?_;intro gb604 hg w7 hbox hb;have BK604:=Aside0.mk hbox;have GW604:=sA hg;have GE604:=sA hg;replace HB:=lB hb;clear hb hbox hg)|((with_reducible refine gate_dst (N:=5) rfl ?_);refine bxE (cs:=#[.int .i64 a2_0,.int .i64 a2_1,.int .i64 a2_2]) (t:=28) ?_;intro gb605 hg w8 hbox hb;have BK605:=Aside0.mk hbox;have GW605:=sA hg;have GE605:=sA hg;have NB604_605:=nA hg BK604;have NB605_604:=nB hg BK604;replace BK604:=kB BK604 hb;replace HB:=lB hb;clear hb hbox hg;have hnb9:=NB604_605.out;have hnc9:=NB605_604.out;obtain ⟨hcz10_0,hcz10_1,hcz10_2,hfz10_0,hfz10_1,hfz10_2⟩:=cz3 BK604;obtain ⟨hcz11_0,hcz11_1,hcz11_2,hfz11_0,hfz11_1,hfz11_2⟩:=cz3 BK605)|((with_reducible refine gate_dst (N:=11) rfl ?_);refine Kd.R_lit k28 _ 28 ?hg (N:=11) ?hd (xs:=([(⟨a1_0,a1_1,a1_2⟩:S28),(⟨a2_0,a2_1,a2_2⟩:S28)]:List (S28))) (inner:=[.int .i64 a1_0,.int .i64 a1_1,.int .i64 a1_2,.int .i64 a2_0,.int .i64 a2_1,.int .i64 a2_2]) (ok:=fun _=>True) (okp:=fun _=>True) ?hr ?hp (fun _ hk=>hk) trivial (Below.refl _ _) (Nat.le_refl _) (by simp) ?_;(case hd=>rfl);(case hg=>rfl);(case hr=>first|(go_simp;done)|(go_simp;rfl));(case hp=>exact (Reps.c3 (show Kd.M k28 _ _ _ (⟨a1_0,a1_1,a1_2⟩:S28) [.int .i64 a1_0,.int .i64 a1_1,.int .i64 a1_2] from (k28_mkM _ _ _ (⟨a1_0,a1_1,a1_2⟩:S28) )) (Reps.c3 (show Kd.M k28 _ _ _ (⟨a2_0,a2_1,a2_2⟩:S28) [.int .i64 a2_0,.int .i64 a2_1,.int .i64 a2_2] from (k28_mkM _ _ _ (⟨a2_0,a2_1,a2_2⟩:S28) )) (Reps.none _ _))));intro v607 w12 ho13 hb hg_ hnew_;clear hg_ hnew_;(first|rw [← Ny606.out] at ho13|(simp only [Int.reduceToNat] at ho13;rw [← Ny606.out] at ho13));have HO608:=Aside0.mk (Kd.R_lower (Kd.R_newB (Kd.R_newB ho13 (bkA BK604)) (bkA BK605)) (below_size blA));replace BK604:=kB BK604 hb;replace BK605:=kB BK605 hb;replace HB:=lB hb;clear hb ho13;obtain ⟨Ao14,co14,eo14⟩:=Kd.R_slice HO608.out;subst eo14)|((with_reducible refine gd 12 rfl ?_);refine gC (some 12) rfl Try.func61 (impl_areBalls.calls (w:=_) (hr1:=cR (Kd.R_reads' HO608.out).2.2) (hc1:=(Kd.R_reads' HO608.out).2.1) (h:=A4.out)) ?_;intro w15 hb;replace HO608:=Aside0.mk (Kd.R_below (rA HO608) hb);replace BK604:=kB BK604 hb;replace BK605:=kB BK605 hb;replace HB:=lB hb;clear hb;obtain ⟨hcz16_0,hcz16_1,hcz16_2,hfz16_0,hfz16_1,hfz16_2⟩:=cz3 BK604;obtain ⟨hcz17_0,hcz17_1,hcz17_2,hfz17_0,hfz17_1,hfz17_2⟩:=cz3 BK605)|((with_reducible refine gd 17 rfl ?_);refine gC (some 17) rfl Try.func62 (impl_distance.calls (w:=_) (h:=A6.out)) ?_;intro w18 hb;replace HO608:=Aside0.mk (Kd.R_below (rA HO608) hb);replace BK604:=kB BK604 hb;replace BK605:=kB BK605 hb;replace HB:=lB hb;clear hb))
  go_ret2
  exact finA blA
 ·
  replace c5:=Bool.eq_false_iff.mpr c5
  subst c5
  rw [if_neg (show ¬ (false=true) by decide)] at H
  try dsimp only at H
  simp only [Option.some.injEq,Prod.mk.injEq] at H
  obtain ⟨rfl,rfl⟩:=H
  go_enter Try.func16,Try.ntmps16
  go_wp2_with (first|((with_reducible refine gate_dst (N:=4) rfl ?_);refine bxE (cs:=#[.int .i64 a1_0,.int .i64 a1_1,.int .i64 a1_2]) (t:=28) ?_;intro gb604 hg w19 hbox hb;have BK604:=Aside0.mk hbox;have GW604:=sA hg;have GE604:=sA hg;replace HB:=lB hb;clear hb hbox hg)|((with_reducible refine gate_dst (N:=5) rfl ?_);refine bxE (cs:=#[.int .i64 a2_0,.int .i64 a2_1,.int .i64 a2_2]) (t:=28) ?_;intro gb605 hg w20 hbox hb;have BK605:=Aside0.mk hbox;have GW605:=sA hg;have GE605:=sA hg;have NB604_605:=nA hg BK604;have NB605_604:=nB hg BK604;replace BK604:=kB BK604 hb;replace HB:=lB hb;clear hb hbox hg;have hnb21:=NB604_605.out;have hnc21:=NB605_604.out;obtain ⟨hcz22_0,hcz22_1,hcz22_2,hfz22_0,hfz22_1,hfz22_2⟩:=cz3 BK604;obtain ⟨hcz23_0,hcz23_1,hcz23_2,hfz23_0,hfz23_1,hfz23_2⟩:=cz3 BK605)|((with_reducible refine gate_dst (N:=11) rfl ?_);refine Kd.R_lit k28 _ 28 ?hg (N:=11) ?hd (xs:=([(⟨a1_0,a1_1,a1_2⟩:S28),(⟨a2_0,a2_1,a2_2⟩:S28)]:List (S28))) (inner:=[.int .i64 a1_0,.int .i64 a1_1,.int .i64 a1_2,.int .i64 a2_0,.int .i64 a2_1,.int .i64 a2_2]) (ok:=fun _=>True) (okp:=fun _=>True) ?hr ?hp (fun _ hk=>hk) trivial (Below.refl _ _) (Nat.le_refl _) (by simp) ?_;(case hd=>rfl);(case hg=>rfl);(case hr=>first|(go_simp;done)|(go_simp;rfl));(case hp=>exact (Reps.c3 (show Kd.M k28 _ _ _ (⟨a1_0,a1_1,a1_2⟩:S28) [.int .i64 a1_0,.int .i64 a1_1,.int .i64 a1_2] from (k28_mkM _ _ _ (⟨a1_0,a1_1,a1_2⟩:S28) )) (Reps.c3 (show Kd.M k28 _ _ _ (⟨a2_0,a2_1,a2_2⟩:S28) [.int .i64 a2_0,.int .i64 a2_1,.int .i64 a2_2] from (k28_mkM _ _ _ (⟨a2_0,a2_1,a2_2⟩:S28) )) (Reps.none _ _))));intro v607 w24 ho25 hb hg_ hnew_;clear hg_ hnew_;(first|rw [← Ny606.out] at ho25|(simp only [Int.reduceToNat] at ho25;rw [← Ny606.out] at ho25));have HO608:=Aside0.mk (Kd.R_lower (Kd.R_newB (Kd.R_newB ho25 (bkA BK604)) (bkA BK605)) (below_size blA));replace BK604:=kB BK604 hb;replace BK605:=kB BK605 hb;replace HB:=lB hb;clear hb ho25;obtain ⟨Ao26,co26,eo26⟩:=Kd.R_slice HO608.out;subst eo26)|((with_reducible refine gd 12 rfl ?_);refine gC (some 12) rfl Try.func61 (impl_areBalls.calls (w:=_) (hr1:=cR (Kd.R_reads' HO608.out).2.2) (hc1:=(Kd.R_reads' HO608.out).2.1) (h:=A4.out)) ?_;intro w27 hb;replace HO608:=Aside0.mk (Kd.R_below (rA HO608) hb);replace BK604:=kB BK604 hb;replace BK605:=kB BK605 hb;replace HB:=lB hb;clear hb))
  go_ret2
  exact finA blA
def impl_MultiplyMatrices.f (k:Nat) (a0_0 a0_1 a0_2 a0_3 a1_0 a1_1 a1_2 a1_3:Int):Option (Int × Int × Int × Int × Int):=(impl_areMatrices.f k (([(⟨(⟨a0_0,a0_1⟩:S24),(⟨a0_2,a0_3⟩:S24)⟩:S26),(⟨(⟨a1_0,a1_1⟩:S24),(⟨a1_2,a1_3⟩:S24)⟩:S26)]:List (S26)))).bind fun t622=>(if t622=true then ((impl_product.f k a0_0 a0_1 a0_2 a0_3 a1_0 a1_1 a1_2 a1_3).bind fun bt623=>((impl_fittedMatrix.f bt623.1 bt623.2.1 bt623.2.2.1 bt623.2.2.2.1 bt623.2.2.2.2).bind fun bt628=>(some (bt628.1,bt628.2.1,bt628.2.2.1,bt628.2.2.2.1,bt628.2.2.2.2)))) else (some (0,0,0,0,1)))
theorem impl_MultiplyMatrices.mono:∀ a0 a1 a2 a3 a4 a5 a6 a7 k,LeO (impl_MultiplyMatrices.f k a0 a1 a2 a3 a4 a5 a6 a7) (impl_MultiplyMatrices.f (k+1) a0 a1 a2 a3 a4 a5 a6 a7):=by
 intro a0 a1 a2 a3 a4 a5 a6 a7 k
 unfold impl_MultiplyMatrices.f
 repeat' first
   | with_reducible first|exact impl_areMatrices.mono ..|exact impl_product.mono ..|exact LeO.refl _|exact LeO.none _|refine LeO.ite ?_ ?_|refine LeO.bind ?_ fun _=>?_
set_option maxHeartbeats 8000000 in
set_option maxRecDepth 100000 in
theorem impl_MultiplyMatrices.calls (k:Nat) (a0_0 a0_1 a0_2 a0_3 a1_0 a1_1 a1_2 a1_3 r1 r2 r3 r4 r5:Int) (w:World) (h:impl_MultiplyMatrices.f k a0_0 a0_1 a0_2 a0_3 a1_0 a1_1 a1_2 a1_3=some (r1,r2,r3,r4,r5)) :
  Calls Try.prog 17 #[.agg #[.int .i64 a0_0,.int .i64 a0_1,.int .i64 a0_2,.int .i64 a0_3],.agg #[.int .i64 a1_0,.int .i64 a1_1,.int .i64 a1_2,.int .i64 a1_3]] w fun e w'=>e=.returned (.tuple #[.agg #[.int .i64 r1,.int .i64 r2,.int .i64 r3,.int .i64 r4],.int .i64 r5])∧Below w.heap.size w w':=by
 have hu26:=Try.underlying26
 have HB:=Aside0.mk (Below.refl w.heap.size w)
 have H:=h
 unfold impl_MultiplyMatrices.f at H
 clear h
 obtain ⟨y619,hy619⟩:∃ y_:List (S26),y_=(([(⟨(⟨a0_0,a0_1⟩:S24),(⟨a0_2,a0_3⟩:S24)⟩:S26),(⟨(⟨a1_0,a1_1⟩:S24),(⟨a1_2,a1_3⟩:S24)⟩:S26)]:List (S26))):=⟨_,rfl⟩
 replace H:((impl_areMatrices.f k y619).bind fun t622=>(if t622=true then ((impl_product.f k a0_0 a0_1 a0_2 a0_3 a1_0 a1_1 a1_2 a1_3).bind fun bt623=>((impl_fittedMatrix.f bt623.1 bt623.2.1 bt623.2.2.1 bt623.2.2.2.1 bt623.2.2.2.2).bind fun bt628=>(some (bt628.1,bt628.2.1,bt628.2.2.1,bt628.2.2.2.1,bt628.2.2.2.2)))) else (some (0,0,0,0,1))))=some (r1,r2,r3,r4,r5):=rH hy619 H
 have Ny619:=Aside0.mk hy619
 clear hy619
 replace H:=bS H
 obtain ⟨t622,A3,H⟩:=H
 try dsimp only at H
 by_cases c4:t622=true
 ·
  subst c4
  rw [if_pos rfl] at H
  try dsimp only at H
  replace H:=bS H
  obtain ⟨⟨t623,t624,t625,t626,t627⟩,A5,H⟩:=H
  try dsimp only at H
  replace H:=bS H
  obtain ⟨⟨t628,t629,t630,t631,t632⟩,A6,H⟩:=H
  try dsimp only at H
  simp only [Option.some.injEq,Prod.mk.injEq] at H
  obtain ⟨rfl,rfl,rfl,rfl,rfl⟩:=H
  go_enter Try.func17,Try.ntmps17
  go_wp2_with (first|((with_reducible refine gate_dst (N:=2) rfl ?_);refine bxE (cs:=#[.int .i64 a0_0,.int .i64 a0_1,.int .i64 a0_2,.int .i64 a0_3]) (t:=26) ?_;intro gb616 hg w7 hbox hb;have BK616:=Aside0.mk hbox;have GW616:=sA hg;have GE616:=sA hg;replace HB:=lB hb;clear hb hbox hg)|((with_reducible refine gate_dst (N:=3) rfl ?_);refine bxE (cs:=#[.int .i64 a1_0,.int .i64 a1_1,.int .i64 a1_2,.int .i64 a1_3]) (t:=26) ?_;intro gb617 hg w8 hbox hb;have BK617:=Aside0.mk hbox;have GW617:=sA hg;have GE617:=sA hg;have NB616_617:=nA hg BK616;have NB617_616:=nB hg BK616;replace BK616:=kB BK616 hb;replace HB:=lB hb;clear hb hbox hg)|((with_reducible refine gate_dst (N:=4) rfl ?_);refine bxE (cs:=#[.int .i64 0,.int .i64 0,.int .i64 0,.int .i64 0]) (t:=26) ?_;intro gb618 hg w9 hbox hb;have BK618:=Aside0.mk hbox;have GW618:=sA hg;have GE618:=sA hg;have NB616_618:=nA hg BK616;have NB618_616:=nB hg BK616;have NB617_618:=nA hg BK617;have NB618_617:=nB hg BK617;replace BK616:=kB BK616 hb;replace BK617:=kB BK617 hb;replace HB:=lB hb;clear hb hbox hg;have hnb10:=NB616_617.out;have hnc10:=NB617_616.out;have hnb11:=NB616_618.out;have hnc11:=NB618_616.out;obtain ⟨hcz12_0,hcz12_1,hcz12_2,hcz12_3,hfz12_0,hfz12_1,hfz12_2,hfz12_3⟩:=cz4 BK616;have hnb13:=NB617_618.out;have hnc13:=NB618_617.out;obtain ⟨hcz14_0,hcz14_1,hcz14_2,hcz14_3,hfz14_0,hfz14_1,hfz14_2,hfz14_3⟩:=cz4 BK617)|((with_reducible refine gate_dst (N:=8) rfl ?_);refine Kd.R_lit k26 _ 26 ?hg (N:=8) ?hd (xs:=([(⟨(⟨a0_0,a0_1⟩:S24),(⟨a0_2,a0_3⟩:S24)⟩:S26),(⟨(⟨a1_0,a1_1⟩:S24),(⟨a1_2,a1_3⟩:S24)⟩:S26)]:List (S26))) (inner:=[.int .i64 a0_0,.int .i64 a0_1,.int .i64 a0_2,.int .i64 a0_3,.int .i64 a1_0,.int .i64 a1_1,.int .i64 a1_2,.int .i64 a1_3]) (ok:=fun _=>True) (okp:=fun _=>True) ?hr ?hp (fun _ hk=>hk) trivial (Below.refl _ _) (Nat.le_refl _) (by simp) ?_;(case hd=>rfl);(case hg=>rfl);(case hr=>first|(go_simp;done)|(go_simp;rfl));(case hp=>exact (Reps.c4 (show Kd.M k26 _ _ _ (⟨(⟨a0_0,a0_1⟩:S24),(⟨a0_2,a0_3⟩:S24)⟩:S26) [.int .i64 a0_0,.int .i64 a0_1,.int .i64 a0_2,.int .i64 a0_3] from (k26_mkM _ _ _ (⟨(⟨a0_0,a0_1⟩:S24),(⟨a0_2,a0_3⟩:S24)⟩:S26) )) (Reps.c4 (show Kd.M k26 _ _ _ (⟨(⟨a1_0,a1_1⟩:S24),(⟨a1_2,a1_3⟩:S24)⟩:S26) [.int .i64 a1_0,.int .i64 a1_1,.int .i64 a1_2,.int .i64 a1_3] from (k26_mkM _ _ _ (⟨(⟨a1_0,a1_1⟩:S24),(⟨a1_2,a1_3⟩:S24)⟩:S26) )) (Reps.none _ _))));intro v620 w15 ho16 hb hg_ hnew_;clear hg_ hnew_;(first|rw [← Ny619.out] at ho16|(simp only [Int.reduceToNat] at ho16;rw [← Ny619.out] at ho16));have HO621:=Aside0.mk (Kd.R_lower (Kd.R_newB (Kd.R_newB (Kd.R_newB ho16 (bkA BK616)) (bkA BK617)) (bkA BK618)) (below_size blA));replace BK616:=kB BK616 hb;replace BK617:=kB BK617 hb;replace BK618:=kB BK618 hb;replace HB:=lB hb;clear hb ho16;obtain ⟨Ao17,co17,eo17⟩:=Kd.R_slice HO621.out;subst eo17)|((with_reducible refine gd 9 rfl ?_);refine gC (some 9) rfl Try.func63 (impl_areMatrices.calls (w:=_) (hr0:=cR (Kd.R_reads' HO621.out).2.2) (hc0:=(Kd.R_reads' HO621.out).2.1) (h:=A3.out)) ?_;intro w18 hb;replace HO621:=Aside0.mk (Kd.R_below (rA HO621) hb);replace BK616:=kB BK616 hb;replace BK617:=kB BK617 hb;replace BK618:=kB BK618 hb;replace HB:=lB hb;clear hb;obtain ⟨hcz19_0,hcz19_1,hcz19_2,hcz19_3,hfz19_0,hfz19_1,hfz19_2,hfz19_3⟩:=cz4 BK616;obtain ⟨hcz20_0,hcz20_1,hcz20_2,hcz20_3,hfz20_0,hfz20_1,hfz20_2,hfz20_3⟩:=cz4 BK617)|((with_reducible refine gd 14 rfl ?_);refine gC (some 14) rfl Try.func65 (impl_product.calls (w:=_) (h:=A5.out)) ?_;intro w21 hb;replace HO621:=Aside0.mk (Kd.R_below (rA HO621) hb);replace BK616:=kB BK616 hb;replace BK617:=kB BK617 hb;replace BK618:=kB BK618 hb;replace HB:=lB hb;clear hb)|((with_reducible refine gd 17 rfl ?_);refine gC (some 17) rfl Try.func64 (impl_fittedMatrix.calls (w:=_) (h:=A6.out)) ?_;intro w22 hb;replace HO621:=Aside0.mk (Kd.R_below (rA HO621) hb);replace BK616:=kB BK616 hb;replace BK617:=kB BK617 hb;replace BK618:=kB BK618 hb;replace HB:=lB hb;clear hb;obtain ⟨hcz23_0,hcz23_1,hcz23_2,hcz23_3,hfz23_0,hfz23_1,hfz23_2,hfz23_3⟩:=cz4 BK618))
  refine bodyPost_ret (results_ct rfl _ _ gb618 26 #[.int .i64 t628,.int .i64 t629,.int .i64 t630,.int .i64 t631] (0,0) _ rfl (bpA BK618) Try.underlying26 rfl (by kernel_rfl)) rfl ?_
  exact finA blA
 ·
  replace c4:=Bool.eq_false_iff.mpr c4
  subst c4
  rw [if_neg (show ¬ (false=true) by decide)] at H
  try dsimp only at H
  simp only [Option.some.injEq,Prod.mk.injEq] at H
  obtain ⟨rfl,rfl,rfl,rfl,rfl⟩:=H
  go_enter Try.func17,Try.ntmps17
  go_wp2_with (first|((with_reducible refine gate_dst (N:=2) rfl ?_);refine bxE (cs:=#[.int .i64 a0_0,.int .i64 a0_1,.int .i64 a0_2,.int .i64 a0_3]) (t:=26) ?_;intro gb616 hg w24 hbox hb;have BK616:=Aside0.mk hbox;have GW616:=sA hg;have GE616:=sA hg;replace HB:=lB hb;clear hb hbox hg)|((with_reducible refine gate_dst (N:=3) rfl ?_);refine bxE (cs:=#[.int .i64 a1_0,.int .i64 a1_1,.int .i64 a1_2,.int .i64 a1_3]) (t:=26) ?_;intro gb617 hg w25 hbox hb;have BK617:=Aside0.mk hbox;have GW617:=sA hg;have GE617:=sA hg;have NB616_617:=nA hg BK616;have NB617_616:=nB hg BK616;replace BK616:=kB BK616 hb;replace HB:=lB hb;clear hb hbox hg)|((with_reducible refine gate_dst (N:=4) rfl ?_);refine bxE (cs:=#[.int .i64 0,.int .i64 0,.int .i64 0,.int .i64 0]) (t:=26) ?_;intro gb618 hg w26 hbox hb;have BK618:=Aside0.mk hbox;have GW618:=sA hg;have GE618:=sA hg;have NB616_618:=nA hg BK616;have NB618_616:=nB hg BK616;have NB617_618:=nA hg BK617;have NB618_617:=nB hg BK617;replace BK616:=kB BK616 hb;replace BK617:=kB BK617 hb;replace HB:=lB hb;clear hb hbox hg;have hnb27:=NB616_617.out;have hnc27:=NB617_616.out;have hnb28:=NB616_618.out;have hnc28:=NB618_616.out;obtain ⟨hcz29_0,hcz29_1,hcz29_2,hcz29_3,hfz29_0,hfz29_1,hfz29_2,hfz29_3⟩:=cz4 BK616;have hnb30:=NB617_618.out;have hnc30:=NB618_617.out;obtain ⟨hcz31_0,hcz31_1,hcz31_2,hcz31_3,hfz31_0,hfz31_1,hfz31_2,hfz31_3⟩:=cz4 BK617)|((with_reducible refine gate_dst (N:=8) rfl ?_);refine Kd.R_lit k26 _ 26 ?hg (N:=8) ?hd (xs:=([(⟨(⟨a0_0,a0_1⟩:S24),(⟨a0_2,a0_3⟩:S24)⟩:S26),(⟨(⟨a1_0,a1_1⟩:S24),(⟨a1_2,a1_3⟩:S24)⟩:S26)]:List (S26))) (inner:=[.int .i64 a0_0,.int .i64 a0_1,.int .i64 a0_2,.int .i64 a0_3,.int .i64 a1_0,.int .i64 a1_1,.int .i64 a1_2,.int .i64 a1_3]) (ok:=fun _=>True) (okp:=fun _=>True) ?hr ?hp (fun _ hk=>hk) trivial (Below.refl _ _) (Nat.le_refl _) (by simp) ?_;(case hd=>rfl);(case hg=>rfl);(case hr=>first|(go_simp;done)|(go_simp;rfl));(case hp=>exact (Reps.c4 (show Kd.M k26 _ _ _ (⟨(⟨a0_0,a0_1⟩:S24),(⟨a0_2,a0_3⟩:S24)⟩:S26) [.int .i64 a0_0,.int .i64 a0_1,.int .i64 a0_2,.int .i64 a0_3] from (k26_mkM _ _ _ (⟨(⟨a0_0,a0_1⟩:S24),(⟨a0_2,a0_3⟩:S24)⟩:S26) )) (Reps.c4 (show Kd.M k26 _ _ _ (⟨(⟨a1_0,a1_1⟩:S24),(⟨a1_2,a1_3⟩:S24)⟩:S26) [.int .i64 a1_0,.int .i64 a1_1,.int .i64 a1_2,.int .i64 a1_3] from (k26_mkM _ _ _ (⟨(⟨a1_0,a1_1⟩:S24),(⟨a1_2,a1_3⟩:S24)⟩:S26) )) (Reps.none _ _))));intro v620 w32 ho33 hb hg_ hnew_;clear hg_ hnew_;(first|rw [← Ny619.out] at ho33|(simp only [Int.reduceToNat] at ho33;rw [← Ny619.out] at ho33));have HO621:=Aside0.mk (Kd.R_lower (Kd.R_newB (Kd.R_newB (Kd.R_newB ho33 (bkA BK616)) (bkA BK617)) (bkA BK618)) (below_size blA));replace BK616:=kB BK616 hb;replace BK617:=kB BK617 hb;replace BK618:=kB BK618 hb;replace HB:=lB hb;clear hb ho33;obtain ⟨Ao34,co34,eo34⟩:=Kd.R_slice HO621.out;subst eo34)|((with_reducible refine gd 9 rfl ?_);refine gC (some 9) rfl Try.func63 (impl_areMatrices.calls (w:=_) (hr0:=cR (Kd.R_reads' HO621.out).2.2) (hc0:=(Kd.R_reads' HO621.out).2.1) (h:=A3.out)) ?_;intro w35 hb;replace HO621:=Aside0.mk (Kd.R_below (rA HO621) hb);replace BK616:=kB BK616 hb;replace BK617:=kB BK617 hb;replace BK618:=kB BK618 hb;replace HB:=lB hb;clear hb;obtain ⟨hcz36_0,hcz36_1,hcz36_2,hcz36_3,hfz36_0,hfz36_1,hfz36_2,hfz36_3⟩:=cz4 BK618))
  refine bodyPost_ret (results_ct rfl _ _ gb618 26 #[.int .i64 0,.int .i64 0,.int .i64 0,.int .i64 0] (0,0) _ rfl (bpA BK618) Try.underlying26 rfl (by kernel_rfl)) rfl ?_
  exact finA blA
def spec_DrawMoveBall.f (k:Nat) (l0:List Int):Option (Int × Int × Int × Int × Int × Int × Int × Int):=(spec_l04With.f k l0).bind fun bt301=>(some (bt301.1,bt301.2.1,bt301.2.2.1,bt301.2.2.2.1,bt301.2.2.2.2.1,bt301.2.2.2.2.2.1,bt301.2.2.2.2.2.2.1,bt301.2.2.2.2.2.2.2))
theorem spec_DrawMoveBall.mono:∀ a0 k,LeO (spec_DrawMoveBall.f k a0) (spec_DrawMoveBall.f (k+1) a0):=by
 intro a0 k
 unfold spec_DrawMoveBall.f
 repeat' first
   | with_reducible first|exact spec_l04With.mono ..|exact LeO.refl _|exact LeO.none _|refine LeO.ite ?_ ?_|refine LeO.bind ?_ fun _=>?_
set_option maxHeartbeats 8000000 in
set_option maxRecDepth 100000 in
theorem spec_DrawMoveBall.calls (k:Nat) (A0:Option Addr) (c0:Nat) (l0:List Int) (r1 r2 r3 r4 r5 r6 r7 r8:Int) (w:World) (hr0:Kd.C (Kd.int .u8) w A0 l0.length l0) (hc0:l0.length≤c0) (h:spec_DrawMoveBall.f k l0=some (r1,r2,r3,r4,r5,r6,r7,r8)) :
  Calls Try.prog 7 #[.slice A0 l0.length c0] w fun e w'=>e=.returned (.tuple #[.int .i64 r1,.agg #[.int .i64 r2,.int .i64 r3,.int .i64 r4,.int .i64 r5],.agg #[.int .i64 r6,.int .i64 r7,.int .i64 r8]])∧Below w.heap.size w w':=by
 have hu26:=Try.underlying26
 have hu28:=Try.underlying28
 have HR0:=Aside0.mk hr0
 have HC0:=Aside0.mk hc0
 clear hr0 hc0
 have HB:=Aside0.mk (Below.refl w.heap.size w)
 have H:=h
 unfold spec_DrawMoveBall.f at H
 clear h
 replace H:=bS H
 obtain ⟨⟨t301,t302,t303,t304,t305,t306,t307,t308⟩,A2,H⟩:=H
 try dsimp only at H
 simp only [Option.some.injEq,Prod.mk.injEq] at H
 obtain ⟨rfl,rfl,rfl,rfl,rfl,rfl,rfl,rfl⟩:=H
 go_enter Try.func7,Try.ntmps7
 go_wp2_with (first|((with_reducible refine gate_dst (N:=3) rfl ?_);refine bxE (cs:=#[.int .i64 0,.int .i64 0,.int .i64 0,.int .i64 0]) (t:=26) ?_;intro gb299 hg w3 hbox hb;have BK299:=Aside0.mk hbox;have GW299:=sA hg;have GE299:=sA hg;replace HB:=lB hb;clear hb hbox hg)|((with_reducible refine gate_dst (N:=4) rfl ?_);refine bxE (cs:=#[.int .i64 0,.int .i64 0,.int .i64 0]) (t:=28) ?_;intro gb300 hg w4 hbox hb;have BK300:=Aside0.mk hbox;have GW300:=sA hg;have GE300:=sA hg;have NB299_300:=nA hg BK299;have NB300_299:=nB hg BK299;replace BK299:=kB BK299 hb;replace HB:=lB hb;clear hb hbox hg)|((with_reducible refine gd 6 rfl ?_);refine gC (some 6) rfl Try.func41 (spec_l04With.calls (w:=_) (hr0:=cR (Kd.C_below HR0.out HB.out)) (hc0:=HC0.out) (h:=A2.out)) ?_;intro w5 hb;replace BK299:=kB BK299 hb;replace BK300:=kB BK300 hb;replace HB:=lB hb;clear hb;have hnb6:=NB299_300.out;have hnc6:=NB300_299.out;obtain ⟨hcz7_0,hcz7_1,hcz7_2,hcz7_3,hfz7_0,hfz7_1,hfz7_2,hfz7_3⟩:=cz4 BK299;obtain ⟨hcz8_0,hcz8_1,hcz8_2,hfz8_0,hfz8_1,hfz8_2⟩:=cz3 BK300))
 refine bodyPost_ret (results_list (rs:=[.tmp 2,.cell 3 26,.cell 4 28]) rfl (by simp) (.tmp (.cell gb299 26 #[.int .i64 t302,.int .i64 t303,.int .i64 t304,.int .i64 t305] (0,0) _ rfl (bpA BK299) Try.underlying26 rfl (by kernel_rfl) (.cell gb300 28 #[.int .i64 t306,.int .i64 t307,.int .i64 t308] (0,0) _ rfl (bpA BK300) Try.underlying28 rfl (by kernel_rfl) .nil)))) rfl ?_
 exact finA blA
end Go.Proofs.Ytlpmefmaplhfdaa.PAll
