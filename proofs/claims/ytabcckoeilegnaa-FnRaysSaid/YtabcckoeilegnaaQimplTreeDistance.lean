-- turned out of the kit's print
import Derived.Test.YtabcckoeilegnaaQx
import Derived.Test.YtabcckoeilegnaaQimplareBalls
import Derived.Test.YtabcckoeilegnaaQspecDrawRayOf
namespace Go.Proofs.Ytabcckoeilegnaa.PAll
open Go.RowKit Go.Proofs.YtabcckoeilegnaaW.PrintWords Go.Proofs.YtabcckoeilegnaaW.PrintLast Go.Proofs.YtabcckoeilegnaaW.PrintMore
attribute [local go_sem] Go.Proofs.Ytabcckoeilegnaa.Aux.setCell_drewN Go.Proofs.Ytabcckoeilegnaa.Aux.isSome_setCell max2_int min2_int max_two min_two max_three min_three max_four min_four
set_option linter.unusedVariables false
set_option linter.unusedSimpArgs false
def impl_TreeDistance.f (k:Nat) (a0 a1_0 a1_1 a1_2 a2_0 a2_1 a2_2:Int):Option (Int × Int):=(impl_areBalls.f k a0 (([(⟨a1_0,a1_1,a1_2⟩:S25),(⟨a2_0,a2_1,a2_2⟩:S25)]:List (S25)))).bind fun t540=>(if t540=true then ((impl_distance.f k a0 a1_0 a1_1 a1_2 a2_0 a2_1 a2_2).bind fun t541=>(some (t541,0))) else (some (0,1)))
theorem impl_TreeDistance.mono:∀ a0 a1 a2 a3 a4 a5 a6 k,LeO (impl_TreeDistance.f k a0 a1 a2 a3 a4 a5 a6) (impl_TreeDistance.f (k+1) a0 a1 a2 a3 a4 a5 a6):=by
 intro a0 a1 a2 a3 a4 a5 a6 k
 unfold impl_TreeDistance.f
 repeat' first
   | with_reducible first|exact impl_areBalls.mono ..|exact impl_distance.mono ..|exact LeO.refl _|exact LeO.none _|refine LeO.ite ?_ ?_|refine LeO.bind ?_ fun _=>?_
set_option maxHeartbeats 8000000 in
set_option maxRecDepth 100000 in
theorem impl_TreeDistance.calls (k:Nat) (a0 a1_0 a1_1 a1_2 a2_0 a2_1 a2_2 r1 r2:Int) (w:World) (h:impl_TreeDistance.f k a0 a1_0 a1_1 a1_2 a2_0 a2_1 a2_2=some (r1,r2)) :
  Calls Try.prog 9 #[.int .i64 a0,.agg #[.int .i64 a1_0,.int .i64 a1_1,.int .i64 a1_2],.agg #[.int .i64 a2_0,.int .i64 a2_1,.int .i64 a2_2]] w fun e w'=>e=.returned (.tuple #[.int .i64 r1,.int .i64 r2])∧Below w.heap.size w w':=by
 have hu25:=Try.underlying25
 have HB:=Aside0.mk (Below.refl w.heap.size w)
 have H:=h
 unfold impl_TreeDistance.f at H
 clear h
 obtain ⟨y537,hy537⟩:∃ y_:List (S25),y_=(([(⟨a1_0,a1_1,a1_2⟩:S25),(⟨a2_0,a2_1,a2_2⟩:S25)]:List (S25))):=⟨_,rfl⟩
 replace H:((impl_areBalls.f k a0 y537).bind fun t540=>(if t540=true then ((impl_distance.f k a0 a1_0 a1_1 a1_2 a2_0 a2_1 a2_2).bind fun t541=>(some (t541,0))) else (some (0,1))))=some (r1,r2):=rH hy537 H
 have Ny537:=Aside0.mk hy537
 clear hy537
 replace H:=bS H
 obtain ⟨t540,A4,H⟩:=H
 try dsimp only at H
 by_cases c5:t540=true
 ·
  subst c5
  rw [if_pos rfl] at H
  try dsimp only at H
  replace H:=bS H
  obtain ⟨t541,A6,H⟩:=H
  try dsimp only at H
  simp only [Option.some.injEq,Prod.mk.injEq] at H
  obtain ⟨rfl,rfl⟩:=H
  go_enter Try.func9,Try.ntmps9
  go_wp2_with (first|((with_reducible refine gate_dst (N:=4) rfl ?_);refine bxE (cs:=#[.int .i64 a1_0,.int .i64 a1_1,.int .i64 a1_2]) (t:=25) ?_;intro gb535 hg w7 hbox hb;have BK535:=Aside0.mk hbox;have GW535:=sA hg;have GE535:=sA hg;replace HB:=lB hb;clear hb hbox hg)|((with_reducible refine gate_dst (N:=5) rfl ?_);refine bxE (cs:=#[.int .i64 a2_0,.int .i64 a2_1,.int .i64 a2_2]) (t:=25) ?_;intro gb536 hg w8 hbox hb;have BK536:=Aside0.mk hbox;have GW536:=sA hg;have GE536:=sA hg;have NB535_536:=nA hg BK535;have NB536_535:=nB hg BK535;replace BK535:=kB BK535 hb;replace HB:=lB hb;clear hb hbox hg;have hnb9:=NB535_536.out;have hnc9:=NB536_535.out;obtain ⟨hcz10_0,hcz10_1,hcz10_2,hfz10_0,hfz10_1,hfz10_2⟩:=cz3 BK535;obtain ⟨hcz11_0,hcz11_1,hcz11_2,hfz11_0,hfz11_1,hfz11_2⟩:=cz3 BK536)|((with_reducible refine gate_dst (N:=11) rfl ?_);refine Kd.R_lit k25 _ 25 ?hg (N:=11) ?hd (xs:=([(⟨a1_0,a1_1,a1_2⟩:S25),(⟨a2_0,a2_1,a2_2⟩:S25)]:List (S25))) (inner:=[.int .i64 a1_0,.int .i64 a1_1,.int .i64 a1_2,.int .i64 a2_0,.int .i64 a2_1,.int .i64 a2_2]) (ok:=fun _=>True) (okp:=fun _=>True) ?hr ?hp (fun _ hk=>hk) trivial (Below.refl _ _) (Nat.le_refl _) (by simp) ?_;(case hd=>rfl);(case hg=>rfl);(case hr=>first|(go_simp;done)|(go_simp;rfl));(case hp=>exact (Reps.c3 (show Kd.M k25 _ _ _ (⟨a1_0,a1_1,a1_2⟩:S25) [.int .i64 a1_0,.int .i64 a1_1,.int .i64 a1_2] from (k25_mkM _ _ _ (⟨a1_0,a1_1,a1_2⟩:S25) )) (Reps.c3 (show Kd.M k25 _ _ _ (⟨a2_0,a2_1,a2_2⟩:S25) [.int .i64 a2_0,.int .i64 a2_1,.int .i64 a2_2] from (k25_mkM _ _ _ (⟨a2_0,a2_1,a2_2⟩:S25) )) (Reps.none _ _))));intro v538 w12 ho13 hb hg_ hnew_;clear hg_ hnew_;(first|rw [← Ny537.out] at ho13|(simp only [Int.reduceToNat] at ho13;rw [← Ny537.out] at ho13));have HO539:=Aside0.mk (Kd.R_lower (Kd.R_newB (Kd.R_newB ho13 (bkA BK535)) (bkA BK536)) (below_size blA));replace BK535:=kB BK535 hb;replace BK536:=kB BK536 hb;replace HB:=lB hb;clear hb ho13;obtain ⟨Ao14,co14,eo14⟩:=Kd.R_slice HO539.out;subst eo14)|((with_reducible refine gd 12 rfl ?_);refine gC (some 12) rfl Try.func34 (impl_areBalls.calls (w:=_) (hr1:=cR (Kd.R_reads' HO539.out).2.2) (hc1:=(Kd.R_reads' HO539.out).2.1) (h:=A4.out)) ?_;intro w15 hb;replace HO539:=Aside0.mk (Kd.R_below (rA HO539) hb);replace BK535:=kB BK535 hb;replace BK536:=kB BK536 hb;replace HB:=lB hb;clear hb;obtain ⟨hcz16_0,hcz16_1,hcz16_2,hfz16_0,hfz16_1,hfz16_2⟩:=cz3 BK535;obtain ⟨hcz17_0,hcz17_1,hcz17_2,hfz17_0,hfz17_1,hfz17_2⟩:=cz3 BK536)|((with_reducible refine gd 17 rfl ?_);refine gC (some 17) rfl Try.func35 (impl_distance.calls (w:=_) (h:=A6.out)) ?_;intro w18 hb;replace HO539:=Aside0.mk (Kd.R_below (rA HO539) hb);replace BK535:=kB BK535 hb;replace BK536:=kB BK536 hb;replace HB:=lB hb;clear hb))
  go_ret2
  exact finA blA
 ·
  replace c5:=Bool.eq_false_iff.mpr c5
  subst c5
  rw [if_neg (show ¬ (false=true) by decide)] at H
  try dsimp only at H
  simp only [Option.some.injEq,Prod.mk.injEq] at H
  obtain ⟨rfl,rfl⟩:=H
  go_enter Try.func9,Try.ntmps9
  go_wp2_with (first|((with_reducible refine gate_dst (N:=4) rfl ?_);refine bxE (cs:=#[.int .i64 a1_0,.int .i64 a1_1,.int .i64 a1_2]) (t:=25) ?_;intro gb535 hg w19 hbox hb;have BK535:=Aside0.mk hbox;have GW535:=sA hg;have GE535:=sA hg;replace HB:=lB hb;clear hb hbox hg)|((with_reducible refine gate_dst (N:=5) rfl ?_);refine bxE (cs:=#[.int .i64 a2_0,.int .i64 a2_1,.int .i64 a2_2]) (t:=25) ?_;intro gb536 hg w20 hbox hb;have BK536:=Aside0.mk hbox;have GW536:=sA hg;have GE536:=sA hg;have NB535_536:=nA hg BK535;have NB536_535:=nB hg BK535;replace BK535:=kB BK535 hb;replace HB:=lB hb;clear hb hbox hg;have hnb21:=NB535_536.out;have hnc21:=NB536_535.out;obtain ⟨hcz22_0,hcz22_1,hcz22_2,hfz22_0,hfz22_1,hfz22_2⟩:=cz3 BK535;obtain ⟨hcz23_0,hcz23_1,hcz23_2,hfz23_0,hfz23_1,hfz23_2⟩:=cz3 BK536)|((with_reducible refine gate_dst (N:=11) rfl ?_);refine Kd.R_lit k25 _ 25 ?hg (N:=11) ?hd (xs:=([(⟨a1_0,a1_1,a1_2⟩:S25),(⟨a2_0,a2_1,a2_2⟩:S25)]:List (S25))) (inner:=[.int .i64 a1_0,.int .i64 a1_1,.int .i64 a1_2,.int .i64 a2_0,.int .i64 a2_1,.int .i64 a2_2]) (ok:=fun _=>True) (okp:=fun _=>True) ?hr ?hp (fun _ hk=>hk) trivial (Below.refl _ _) (Nat.le_refl _) (by simp) ?_;(case hd=>rfl);(case hg=>rfl);(case hr=>first|(go_simp;done)|(go_simp;rfl));(case hp=>exact (Reps.c3 (show Kd.M k25 _ _ _ (⟨a1_0,a1_1,a1_2⟩:S25) [.int .i64 a1_0,.int .i64 a1_1,.int .i64 a1_2] from (k25_mkM _ _ _ (⟨a1_0,a1_1,a1_2⟩:S25) )) (Reps.c3 (show Kd.M k25 _ _ _ (⟨a2_0,a2_1,a2_2⟩:S25) [.int .i64 a2_0,.int .i64 a2_1,.int .i64 a2_2] from (k25_mkM _ _ _ (⟨a2_0,a2_1,a2_2⟩:S25) )) (Reps.none _ _))));intro v538 w24 ho25 hb hg_ hnew_;clear hg_ hnew_;(first|rw [← Ny537.out] at ho25|(simp only [Int.reduceToNat] at ho25;rw [← Ny537.out] at ho25));have HO539:=Aside0.mk (Kd.R_lower (Kd.R_newB (Kd.R_newB ho25 (bkA BK535)) (bkA BK536)) (below_size blA));replace BK535:=kB BK535 hb;replace BK536:=kB BK536 hb;replace HB:=lB hb;clear hb ho25;obtain ⟨Ao26,co26,eo26⟩:=Kd.R_slice HO539.out;subst eo26)|((with_reducible refine gd 12 rfl ?_);refine gC (some 12) rfl Try.func34 (impl_areBalls.calls (w:=_) (hr1:=cR (Kd.R_reads' HO539.out).2.2) (hc1:=(Kd.R_reads' HO539.out).2.1) (h:=A4.out)) ?_;intro w27 hb;replace HO539:=Aside0.mk (Kd.R_below (rA HO539) hb);replace BK535:=kB BK535 hb;replace BK536:=kB BK536 hb;replace HB:=lB hb;clear hb))
  go_ret2
  exact finA blA
end Go.Proofs.Ytabcckoeilegnaa.PAll
