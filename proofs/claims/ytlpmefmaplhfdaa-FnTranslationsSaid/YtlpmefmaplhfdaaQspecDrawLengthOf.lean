-- turned out of the kit's print
import Derived.Test.YtlpmefmaplhfdaaQx
import Derived.Test.YtlpmefmaplhfdaaQimplchild
import Derived.Test.YtlpmefmaplhfdaaQspecl02Children
import Derived.Test.YtlpmefmaplhfdaaQspecl04Move
import Derived.Test.YtlpmefmaplhfdaaQspecl04With
namespace Go.Proofs.Ytlpmefmaplhfdaa.PAll
open Go.RowKit Go.Proofs.YtlpmefmaplhfdaaW.PrintWords Go.Proofs.YtlpmefmaplhfdaaW.PrintLast Go.Proofs.YtlpmefmaplhfdaaW.PrintMore
attribute [local go_sem] Go.Proofs.Ytlpmefmaplhfdaa.Aux.setCell_drewN Go.Proofs.Ytlpmefmaplhfdaa.Aux.isSome_setCell max2_int min2_int max_two min_two max_three min_three max_four min_four
set_option linter.unusedVariables false
set_option linter.unusedSimpArgs false
theorem cfF {A B:Prop} (h0:B) (h:B→A:=by intro h_;repeat (first|(with_reducible exact h_)|refine (cell_far (Aside0.out (by assumption)) _).trans ?_)):A:=h h0
def spec_DisplacementOf.f (k:Nat) (a0 a1_0 a1_1 a1_2 a1_3 a2_0 a2_1 a2_2:Int):Option (Int × Int):=(spec_l04Code.f k a0 a1_0 a1_1 a1_2 a1_3 (([(⟨a2_0,a2_1,a2_2⟩:S28)]:List (S28)))).bind fun t771=>(if t771=0 then ((spec_l04Move.f k a0 a1_0 a1_1 a1_2 a1_3 a2_0 a2_1 a2_2).bind fun bt772=>(if bt772.2.2.2=true then ((spec_l02Distance.f k a0 a2_0 a2_1 a2_2 bt772.1 bt772.2.1 bt772.2.2.1).bind fun t777=>(some (t777,0))) else (some (0,3)))) else (some (0,t771)))
theorem spec_DisplacementOf.mono:∀ a0 a1 a2 a3 a4 a5 a6 a7 k,LeO (spec_DisplacementOf.f k a0 a1 a2 a3 a4 a5 a6 a7) (spec_DisplacementOf.f (k+1) a0 a1 a2 a3 a4 a5 a6 a7):=by
 intro a0 a1 a2 a3 a4 a5 a6 a7 k
 unfold spec_DisplacementOf.f
 repeat' first
   | with_reducible first|exact spec_l02Distance.mono ..|exact spec_l04Code.mono ..|exact spec_l04Move.mono ..|exact LeO.refl _|exact LeO.none _|refine LeO.ite ?_ ?_|refine LeO.bind ?_ fun _=>?_
set_option maxHeartbeats 8000000 in
set_option maxRecDepth 100000 in
theorem spec_DisplacementOf.calls (k:Nat) (a0 a1_0 a1_1 a1_2 a1_3 a2_0 a2_1 a2_2 r1 r2:Int) (w:World) (h:spec_DisplacementOf.f k a0 a1_0 a1_1 a1_2 a1_3 a2_0 a2_1 a2_2=some (r1,r2)) :
  Calls Try.prog 29 #[.int .i64 a0,.agg #[.int .i64 a1_0,.int .i64 a1_1,.int .i64 a1_2,.int .i64 a1_3],.agg #[.int .i64 a2_0,.int .i64 a2_1,.int .i64 a2_2]] w fun e w'=>e=.returned (.tuple #[.int .i64 r1,.int .i64 r2])∧Below w.heap.size w w':=by
 have hu26:=Try.underlying26
 have hu28:=Try.underlying28
 have HB:=Aside0.mk (Below.refl w.heap.size w)
 have H:=h
 unfold spec_DisplacementOf.f at H
 clear h
 obtain ⟨y768,hy768⟩:∃ y_:List (S28),y_=(([(⟨a2_0,a2_1,a2_2⟩:S28)]:List (S28))):=⟨_,rfl⟩
 replace H:((spec_l04Code.f k a0 a1_0 a1_1 a1_2 a1_3 y768).bind fun t771=>(if t771=0 then ((spec_l04Move.f k a0 a1_0 a1_1 a1_2 a1_3 a2_0 a2_1 a2_2).bind fun bt772=>(if bt772.2.2.2=true then ((spec_l02Distance.f k a0 a2_0 a2_1 a2_2 bt772.1 bt772.2.1 bt772.2.2.1).bind fun t777=>(some (t777,0))) else (some (0,3)))) else (some (0,t771))))=some (r1,r2):=rH hy768 H
 have Ny768:=Aside0.mk hy768
 clear hy768
 replace H:=bS H
 obtain ⟨t771,A4,H⟩:=H
 try dsimp only at H
 by_cases c5:t771=0
 ·
  rw [if_pos c5] at H
  have c5b0:(t771 == 0)=true:=beq_iff_eq.mpr c5
  have c5b1:(t771 != 0)=false:=bne_eq_false_iff_eq.mpr c5
  clear c5
  replace H:=bS H
  obtain ⟨⟨t772,t773,t774,t775⟩,A6,H⟩:=H
  try dsimp only at H
  by_cases c7:t775=true
  ·
   subst c7
   rw [if_pos rfl] at H
   try dsimp only at H
   replace H:=bS H
   obtain ⟨t777,A8,H⟩:=H
   try dsimp only at H
   simp only [Option.some.injEq,Prod.mk.injEq] at H
   obtain ⟨rfl,rfl⟩:=H
   go_enter Try.func29,Try.ntmps29
   go_wp2_with (first|((with_reducible refine gate_dst (N:=4) rfl ?_);refine bxE (cs:=#[.int .i64 a1_0,.int .i64 a1_1,.int .i64 a1_2,.int .i64 a1_3]) (t:=26) ?_;intro gb766 hg w9 hbox hb;have BK766:=Aside0.mk hbox;have GW766:=sA hg;have GE766:=sA hg;replace HB:=lB hb;clear hb hbox hg)|((with_reducible refine gate_dst (N:=5) rfl ?_);refine bxE (cs:=#[.int .i64 a2_0,.int .i64 a2_1,.int .i64 a2_2]) (t:=28) ?_;intro gb767 hg w10 hbox hb;have BK767:=Aside0.mk hbox;have GW767:=sA hg;have GE767:=sA hg;have NB766_767:=nA hg BK766;have NB767_766:=nB hg BK766;replace BK766:=kB BK766 hb;replace HB:=lB hb;clear hb hbox hg;have hnb11:=NB766_767.out;have hnc11:=NB767_766.out;obtain ⟨hcz12_0,hcz12_1,hcz12_2,hcz12_3,hfz12_0,hfz12_1,hfz12_2,hfz12_3⟩:=cz4 BK766;obtain ⟨hcz13_0,hcz13_1,hcz13_2,hfz13_0,hfz13_1,hfz13_2⟩:=cz3 BK767)|((with_reducible refine gate_dst (N:=14) rfl ?_);refine Kd.R_lit k28 _ 28 ?hg (N:=14) ?hd (xs:=([(⟨a2_0,a2_1,a2_2⟩:S28)]:List (S28))) (inner:=[.int .i64 a2_0,.int .i64 a2_1,.int .i64 a2_2]) (ok:=fun _=>True) (okp:=fun _=>True) ?hr ?hp (fun _ hk=>hk) trivial (Below.refl _ _) (Nat.le_refl _) (by simp) ?_;(case hd=>rfl);(case hg=>rfl);(case hr=>first|(go_simp;done)|(go_simp;rfl));(case hp=>exact (Reps.c3 (show Kd.M k28 _ _ _ (⟨a2_0,a2_1,a2_2⟩:S28) [.int .i64 a2_0,.int .i64 a2_1,.int .i64 a2_2] from (k28_mkM _ _ _ (⟨a2_0,a2_1,a2_2⟩:S28) )) (Reps.none _ _)));intro v769 w14 ho15 hb hg_ hnew_;clear hg_ hnew_;(first|rw [← Ny768.out] at ho15|(simp only [Int.reduceToNat] at ho15;rw [← Ny768.out] at ho15));have HO770:=Aside0.mk (Kd.R_lower (Kd.R_newB ho15 (bkA BK767)) (below_size blA));replace BK766:=kB BK766 hb;replace BK767:=kB BK767 hb;replace HB:=lB hb;clear hb ho15;obtain ⟨Ao16,co16,eo16⟩:=Kd.R_slice HO770.out;subst eo16)|((with_reducible refine gd 15 rfl ?_);refine gC (some 15) rfl Try.func45 (spec_l04Code.calls (w:=_) (hr2:=cR (Kd.R_reads' HO770.out).2.2) (hc2:=(Kd.R_reads' HO770.out).2.1) (h:=A4.out)) ?_;intro w17 hb;replace HO770:=Aside0.mk (Kd.R_below (rA HO770) hb);replace BK766:=kB BK766 hb;replace BK767:=kB BK767 hb;replace HB:=lB hb;clear hb;obtain ⟨hcz18_0,hcz18_1,hcz18_2,hcz18_3,hfz18_0,hfz18_1,hfz18_2,hfz18_3⟩:=cz4 BK766;obtain ⟨hcz19_0,hcz19_1,hcz19_2,hfz19_0,hfz19_1,hfz19_2⟩:=cz3 BK767)|((with_reducible refine gd 23 rfl ?_);refine gC (some 23) rfl Try.func46 (spec_l04Move.calls (w:=_) (h:=A6.out)) ?_;intro w20 hb;replace HO770:=Aside0.mk (Kd.R_below (rA HO770) hb);replace BK766:=kB BK766 hb;replace BK767:=kB BK767 hb;replace HB:=lB hb;clear hb)|((with_reducible refine gate_dst (N:=9) rfl ?_);refine bxE (cs:=#[.int .i64 0,.int .i64 0,.int .i64 0]) (t:=28) ?_;intro gb776 hg w21 hbox hb;have BK776:=Aside0.mk hbox;have GW776:=sA hg;have GE776:=sA hg;have NB766_776:=nA hg BK766;have NB776_766:=nB hg BK766;have NB767_776:=nA hg BK767;have NB776_767:=nB hg BK767;replace HO770:=Aside0.mk (Kd.R_below (Kd.R_elderB (rA HO770) gb776 (Nat.le_of_eq hg.symm)) hb);replace BK766:=kB BK766 hb;replace BK767:=kB BK767 hb;replace HB:=lB hb;clear hb hbox hg;have hnb22:=NB776_766.out;have hnc22:=NB766_776.out;have hnb23:=NB776_767.out;have hnc23:=NB767_776.out;obtain ⟨hcz24_0,hcz24_1,hcz24_2,hfz24_0,hfz24_1,hfz24_2⟩:=cz3 BK776;obtain ⟨hcz25_0,hcz25_1,hcz25_2,hfz25_0,hfz25_1,hfz25_2⟩:=cz3 BK767)|((with_reducible refine gd 31 rfl ?_);refine gC (some 31) rfl Try.func78 (spec_l02Distance.calls (w:=_) (h:=A8.out)) ?_;intro w26 hb;have n0_:=Aside0.mk (Kd.R_below (by (with_reducible repeat (first|apply Kd.R_alloc|apply Kd.R_drewN|apply Kd.R_drew));exact (Kd.R_mono (Kd.R_far (p:=⟨gb776,2,none⟩) (Kd.R_far (p:=⟨gb776,1,none⟩) (Kd.R_far (p:=⟨gb776,0,none⟩) (Kd.R_mono HO770.out (fun k_ hk=>(⟨hk,hk.2⟩:_∧k_≠gb776))) (fun _ hk=>hk.2) (.int .i64 t772)) (fun _ hk=>hk.2) (.int .i64 t773)) (fun _ hk=>hk.2) (.int .i64 t774)) (fun _ h_=>h_.1))) hb);have n1_:=Aside0.mk (blk_below (g:=gb766) (o:=.cells #[.int .i64 a1_0,.int .i64 a1_1,.int .i64 a1_2,.int .i64 a1_3] 26 (0,0)) (bkF BK766) hb);have n2_:=Aside0.mk (blk_below (g:=gb767) (o:=.cells #[.int .i64 a2_0,.int .i64 a2_1,.int .i64 a2_2] 28 (0,0)) (bkF BK767) hb);have n3_:=Aside0.mk (blk_below (g:=gb776) (o:=.cells #[.int .i64 t772,.int .i64 t773,.int .i64 t774] 28 (0,0)) (bpA BK776) hb);have n4_:=lB hb;clear HO770;clear BK766;clear BK767;clear BK776;clear HB;have HO770:=n0_;have BK766:=n1_;have BK767:=n2_;have BK776:=n3_;have HB:=n4_;clear n0_ n1_ n2_ n3_ n4_;clear hb))
   go_ret2
   exact finA blA
  ·
   replace c7:=Bool.eq_false_iff.mpr c7
   subst c7
   rw [if_neg (show ¬ (false=true) by decide)] at H
   try dsimp only at H
   simp only [Option.some.injEq,Prod.mk.injEq] at H
   obtain ⟨rfl,rfl⟩:=H
   go_enter Try.func29,Try.ntmps29
   go_wp2_with (first|((with_reducible refine gate_dst (N:=4) rfl ?_);refine bxE (cs:=#[.int .i64 a1_0,.int .i64 a1_1,.int .i64 a1_2,.int .i64 a1_3]) (t:=26) ?_;intro gb766 hg w27 hbox hb;have BK766:=Aside0.mk hbox;have GW766:=sA hg;have GE766:=sA hg;replace HB:=lB hb;clear hb hbox hg)|((with_reducible refine gate_dst (N:=5) rfl ?_);refine bxE (cs:=#[.int .i64 a2_0,.int .i64 a2_1,.int .i64 a2_2]) (t:=28) ?_;intro gb767 hg w28 hbox hb;have BK767:=Aside0.mk hbox;have GW767:=sA hg;have GE767:=sA hg;have NB766_767:=nA hg BK766;have NB767_766:=nB hg BK766;replace BK766:=kB BK766 hb;replace HB:=lB hb;clear hb hbox hg;have hnb29:=NB766_767.out;have hnc29:=NB767_766.out;obtain ⟨hcz30_0,hcz30_1,hcz30_2,hcz30_3,hfz30_0,hfz30_1,hfz30_2,hfz30_3⟩:=cz4 BK766;obtain ⟨hcz31_0,hcz31_1,hcz31_2,hfz31_0,hfz31_1,hfz31_2⟩:=cz3 BK767)|((with_reducible refine gate_dst (N:=14) rfl ?_);refine Kd.R_lit k28 _ 28 ?hg (N:=14) ?hd (xs:=([(⟨a2_0,a2_1,a2_2⟩:S28)]:List (S28))) (inner:=[.int .i64 a2_0,.int .i64 a2_1,.int .i64 a2_2]) (ok:=fun _=>True) (okp:=fun _=>True) ?hr ?hp (fun _ hk=>hk) trivial (Below.refl _ _) (Nat.le_refl _) (by simp) ?_;(case hd=>rfl);(case hg=>rfl);(case hr=>first|(go_simp;done)|(go_simp;rfl));(case hp=>exact (Reps.c3 (show Kd.M k28 _ _ _ (⟨a2_0,a2_1,a2_2⟩:S28) [.int .i64 a2_0,.int .i64 a2_1,.int .i64 a2_2] from (k28_mkM _ _ _ (⟨a2_0,a2_1,a2_2⟩:S28) )) (Reps.none _ _)));intro v769 w32 ho33 hb hg_ hnew_;clear hg_ hnew_;(first|rw [← Ny768.out] at ho33|(simp only [Int.reduceToNat] at ho33;rw [← Ny768.out] at ho33));have HO770:=Aside0.mk (Kd.R_lower (Kd.R_newB ho33 (bkA BK767)) (below_size blA));replace BK766:=kB BK766 hb;replace BK767:=kB BK767 hb;replace HB:=lB hb;clear hb ho33;obtain ⟨Ao34,co34,eo34⟩:=Kd.R_slice HO770.out;subst eo34)|((with_reducible refine gd 15 rfl ?_);refine gC (some 15) rfl Try.func45 (spec_l04Code.calls (w:=_) (hr2:=cR (Kd.R_reads' HO770.out).2.2) (hc2:=(Kd.R_reads' HO770.out).2.1) (h:=A4.out)) ?_;intro w35 hb;replace HO770:=Aside0.mk (Kd.R_below (rA HO770) hb);replace BK766:=kB BK766 hb;replace BK767:=kB BK767 hb;replace HB:=lB hb;clear hb;obtain ⟨hcz36_0,hcz36_1,hcz36_2,hcz36_3,hfz36_0,hfz36_1,hfz36_2,hfz36_3⟩:=cz4 BK766;obtain ⟨hcz37_0,hcz37_1,hcz37_2,hfz37_0,hfz37_1,hfz37_2⟩:=cz3 BK767)|((with_reducible refine gd 23 rfl ?_);refine gC (some 23) rfl Try.func46 (spec_l04Move.calls (w:=_) (h:=A6.out)) ?_;intro w38 hb;replace HO770:=Aside0.mk (Kd.R_below (rA HO770) hb);replace BK766:=kB BK766 hb;replace BK767:=kB BK767 hb;replace HB:=lB hb;clear hb)|((with_reducible refine gate_dst (N:=9) rfl ?_);refine bxE (cs:=#[.int .i64 0,.int .i64 0,.int .i64 0]) (t:=28) ?_;intro gb776 hg w39 hbox hb;have BK776:=Aside0.mk hbox;have GW776:=sA hg;have GE776:=sA hg;have NB766_776:=nA hg BK766;have NB776_766:=nB hg BK766;have NB767_776:=nA hg BK767;have NB776_767:=nB hg BK767;replace HO770:=Aside0.mk (Kd.R_below (Kd.R_elderB (rA HO770) gb776 (Nat.le_of_eq hg.symm)) hb);replace BK766:=kB BK766 hb;replace BK767:=kB BK767 hb;replace HB:=lB hb;clear hb hbox hg;have hnb40:=NB776_766.out;have hnc40:=NB766_776.out;have hnb41:=NB776_767.out;have hnc41:=NB767_776.out;obtain ⟨hcz42_0,hcz42_1,hcz42_2,hfz42_0,hfz42_1,hfz42_2⟩:=cz3 BK776))
   go_ret2
   exact finA blA
 ·
  rw [if_neg c5] at H
  have c5b0:(t771 == 0)=false:=beq_eq_false_iff_ne.mpr c5
  have c5b1:(t771 != 0)=true:=bne_iff_ne.mpr c5
  simp only [Option.some.injEq,Prod.mk.injEq] at H
  obtain ⟨rfl,rfl⟩:=H
  go_enter Try.func29,Try.ntmps29
  go_wp2_with (first|((with_reducible refine gate_dst (N:=4) rfl ?_);refine bxE (cs:=#[.int .i64 a1_0,.int .i64 a1_1,.int .i64 a1_2,.int .i64 a1_3]) (t:=26) ?_;intro gb766 hg w43 hbox hb;have BK766:=Aside0.mk hbox;have GW766:=sA hg;have GE766:=sA hg;replace HB:=lB hb;clear hb hbox hg)|((with_reducible refine gate_dst (N:=5) rfl ?_);refine bxE (cs:=#[.int .i64 a2_0,.int .i64 a2_1,.int .i64 a2_2]) (t:=28) ?_;intro gb767 hg w44 hbox hb;have BK767:=Aside0.mk hbox;have GW767:=sA hg;have GE767:=sA hg;have NB766_767:=nA hg BK766;have NB767_766:=nB hg BK766;replace BK766:=kB BK766 hb;replace HB:=lB hb;clear hb hbox hg;have hnb45:=NB766_767.out;have hnc45:=NB767_766.out;obtain ⟨hcz46_0,hcz46_1,hcz46_2,hcz46_3,hfz46_0,hfz46_1,hfz46_2,hfz46_3⟩:=cz4 BK766;obtain ⟨hcz47_0,hcz47_1,hcz47_2,hfz47_0,hfz47_1,hfz47_2⟩:=cz3 BK767)|((with_reducible refine gate_dst (N:=14) rfl ?_);refine Kd.R_lit k28 _ 28 ?hg (N:=14) ?hd (xs:=([(⟨a2_0,a2_1,a2_2⟩:S28)]:List (S28))) (inner:=[.int .i64 a2_0,.int .i64 a2_1,.int .i64 a2_2]) (ok:=fun _=>True) (okp:=fun _=>True) ?hr ?hp (fun _ hk=>hk) trivial (Below.refl _ _) (Nat.le_refl _) (by simp) ?_;(case hd=>rfl);(case hg=>rfl);(case hr=>first|(go_simp;done)|(go_simp;rfl));(case hp=>exact (Reps.c3 (show Kd.M k28 _ _ _ (⟨a2_0,a2_1,a2_2⟩:S28) [.int .i64 a2_0,.int .i64 a2_1,.int .i64 a2_2] from (k28_mkM _ _ _ (⟨a2_0,a2_1,a2_2⟩:S28) )) (Reps.none _ _)));intro v769 w48 ho49 hb hg_ hnew_;clear hg_ hnew_;(first|rw [← Ny768.out] at ho49|(simp only [Int.reduceToNat] at ho49;rw [← Ny768.out] at ho49));have HO770:=Aside0.mk (Kd.R_lower (Kd.R_newB ho49 (bkA BK767)) (below_size blA));replace BK766:=kB BK766 hb;replace BK767:=kB BK767 hb;replace HB:=lB hb;clear hb ho49;obtain ⟨Ao50,co50,eo50⟩:=Kd.R_slice HO770.out;subst eo50)|((with_reducible refine gd 15 rfl ?_);refine gC (some 15) rfl Try.func45 (spec_l04Code.calls (w:=_) (hr2:=cR (Kd.R_reads' HO770.out).2.2) (hc2:=(Kd.R_reads' HO770.out).2.1) (h:=A4.out)) ?_;intro w51 hb;replace HO770:=Aside0.mk (Kd.R_below (rA HO770) hb);replace BK766:=kB BK766 hb;replace BK767:=kB BK767 hb;replace HB:=lB hb;clear hb))
  go_ret2
  exact finA blA
def spec_LengthOf.f (k:Nat) (a0 a1_0 a1_1 a1_2 a1_3:Int):Option (Int × Int):=(spec_l04Code.f k a0 a1_0 a1_1 a1_2 a1_3 ([]:List (S28))).bind fun t804=>(if t804=0 then ((spec_l04Kind.f k a0 a1_0 a1_1 a1_2 a1_3).bind fun bt805=>(some (bt805.2,0))) else (some (0,t804)))
theorem spec_LengthOf.mono:∀ a0 a1 a2 a3 a4 k,LeO (spec_LengthOf.f k a0 a1 a2 a3 a4) (spec_LengthOf.f (k+1) a0 a1 a2 a3 a4):=by
 intro a0 a1 a2 a3 a4 k
 unfold spec_LengthOf.f
 repeat' first
   | with_reducible first|exact spec_l04Code.mono ..|exact spec_l04Kind.mono ..|exact LeO.refl _|exact LeO.none _|refine LeO.ite ?_ ?_|refine LeO.bind ?_ fun _=>?_
set_option maxHeartbeats 8000000 in
set_option maxRecDepth 100000 in
theorem spec_LengthOf.calls (k:Nat) (a0 a1_0 a1_1 a1_2 a1_3 r1 r2:Int) (w:World) (h:spec_LengthOf.f k a0 a1_0 a1_1 a1_2 a1_3=some (r1,r2)) :
  Calls Try.prog 32 #[.int .i64 a0,.agg #[.int .i64 a1_0,.int .i64 a1_1,.int .i64 a1_2,.int .i64 a1_3]] w fun e w'=>e=.returned (.tuple #[.int .i64 r1,.int .i64 r2])∧Below w.heap.size w w':=by
 have hu26:=Try.underlying26
 have HB:=Aside0.mk (Below.refl w.heap.size w)
 have H:=h
 unfold spec_LengthOf.f at H
 clear h
 replace H:=bS H
 obtain ⟨t804,A3,H⟩:=H
 try dsimp only at H
 by_cases c4:t804=0
 focus
  rw [if_pos c4] at H
  have c4b0:(t804 == 0)=true:=beq_iff_eq.mpr c4
  have c4b1:(t804 != 0)=false:=bne_eq_false_iff_eq.mpr c4
  clear c4
  replace H:=bS H
  obtain ⟨⟨t805,t806⟩,A5,H⟩:=H
  try dsimp only at H
  simp only [Option.some.injEq,Prod.mk.injEq] at H
  obtain ⟨rfl,rfl⟩:=H
 rotate_left
 focus
  rw [if_neg c4] at H
  have c4b0:(t804 == 0)=false:=beq_eq_false_iff_ne.mpr c4
  have c4b1:(t804 != 0)=true:=bne_iff_ne.mpr c4
  simp only [Option.some.injEq,Prod.mk.injEq] at H
  obtain ⟨rfl,rfl⟩:=H
 rotate_left
 all_goals
  go_enter Try.func32,Try.ntmps32
  go_wp2_with (first|((with_reducible refine gate_dst (N:=3) rfl ?_);refine bxE (cs:=#[.int .i64 a1_0,.int .i64 a1_1,.int .i64 a1_2,.int .i64 a1_3]) (t:=26) ?_;intro gb803 hg w6 hbox hb;have BK803:=Aside0.mk hbox;have GW803:=sA hg;have GE803:=sA hg;replace HB:=lB hb;clear hb hbox hg;obtain ⟨hcz7_0,hcz7_1,hcz7_2,hcz7_3,hfz7_0,hfz7_1,hfz7_2,hfz7_3⟩:=cz4 BK803)|((with_reducible refine gate_callee (f:=45) rfl ?_);refine gL (some 11) rfl Try.func45 #[.int .i64 a0,.agg #[.int .i64 a1_0,.int .i64 a1_1,.int .i64 a1_2,.int .i64 a1_3],.slice none 0 0] ?_;(refine (spec_l04Code.calls k a0 a1_0 a1_1 a1_2 a1_3 _ _ ([]:List (S28)) t804 _ ?side1 ?side2 A3.out).mono ?_);(case side1=>exact Kd.C_nil _ _);(case side2=>exact Nat.le_refl _);rintro e w8 ⟨rfl,hb⟩;refine ⟨_,rfl,?_⟩;replace BK803:=kB BK803 hb;replace HB:=lB hb;clear hb;obtain ⟨hcz9_0,hcz9_1,hcz9_2,hcz9_3,hfz9_0,hfz9_1,hfz9_2,hfz9_3⟩:=cz4 BK803)|((with_reducible refine gd 18 rfl ?_);refine gC (some 18) rfl Try.func80 (spec_l04Kind.calls (w:=_) (h:=A5.out)) ?_;intro w10 hb;replace BK803:=kB BK803 hb;replace HB:=lB hb;clear hb))
 ·
  go_ret2
  exact finA blA
 ·
  go_ret2
  exact finA blA
def spec_KindOf.f (k:Nat) (a0 a1_0 a1_1 a1_2 a1_3:Int):Option (Int × Int):=(spec_l04Code.f k a0 a1_0 a1_1 a1_2 a1_3 ([]:List (S28))).bind fun t813=>(if t813=0 then ((spec_l04Kind.f k a0 a1_0 a1_1 a1_2 a1_3).bind fun bt814=>(some (bt814.1,0))) else (some (0,t813)))
theorem spec_KindOf.mono:∀ a0 a1 a2 a3 a4 k,LeO (spec_KindOf.f k a0 a1 a2 a3 a4) (spec_KindOf.f (k+1) a0 a1 a2 a3 a4):=by
 intro a0 a1 a2 a3 a4 k
 unfold spec_KindOf.f
 repeat' first
   | with_reducible first|exact spec_l04Code.mono ..|exact spec_l04Kind.mono ..|exact LeO.refl _|exact LeO.none _|refine LeO.ite ?_ ?_|refine LeO.bind ?_ fun _=>?_
set_option maxHeartbeats 8000000 in
set_option maxRecDepth 100000 in
theorem spec_KindOf.calls (k:Nat) (a0 a1_0 a1_1 a1_2 a1_3 r1 r2:Int) (w:World) (h:spec_KindOf.f k a0 a1_0 a1_1 a1_2 a1_3=some (r1,r2)) :
  Calls Try.prog 34 #[.int .i64 a0,.agg #[.int .i64 a1_0,.int .i64 a1_1,.int .i64 a1_2,.int .i64 a1_3]] w fun e w'=>e=.returned (.tuple #[.int .i64 r1,.int .i64 r2])∧Below w.heap.size w w':=by
 have hu26:=Try.underlying26
 have HB:=Aside0.mk (Below.refl w.heap.size w)
 have H:=h
 unfold spec_KindOf.f at H
 clear h
 replace H:=bS H
 obtain ⟨t813,A3,H⟩:=H
 try dsimp only at H
 by_cases c4:t813=0
 focus
  rw [if_pos c4] at H
  have c4b0:(t813 == 0)=true:=beq_iff_eq.mpr c4
  have c4b1:(t813 != 0)=false:=bne_eq_false_iff_eq.mpr c4
  clear c4
  replace H:=bS H
  obtain ⟨⟨t814,t815⟩,A5,H⟩:=H
  try dsimp only at H
  simp only [Option.some.injEq,Prod.mk.injEq] at H
  obtain ⟨rfl,rfl⟩:=H
 rotate_left
 focus
  rw [if_neg c4] at H
  have c4b0:(t813 == 0)=false:=beq_eq_false_iff_ne.mpr c4
  have c4b1:(t813 != 0)=true:=bne_iff_ne.mpr c4
  simp only [Option.some.injEq,Prod.mk.injEq] at H
  obtain ⟨rfl,rfl⟩:=H
 rotate_left
 all_goals
  go_enter Try.func34,Try.ntmps34
  go_wp2_with (first|((with_reducible refine gate_dst (N:=3) rfl ?_);refine bxE (cs:=#[.int .i64 a1_0,.int .i64 a1_1,.int .i64 a1_2,.int .i64 a1_3]) (t:=26) ?_;intro gb812 hg w6 hbox hb;have BK812:=Aside0.mk hbox;have GW812:=sA hg;have GE812:=sA hg;replace HB:=lB hb;clear hb hbox hg;obtain ⟨hcz7_0,hcz7_1,hcz7_2,hcz7_3,hfz7_0,hfz7_1,hfz7_2,hfz7_3⟩:=cz4 BK812)|((with_reducible refine gate_callee (f:=45) rfl ?_);refine gL (some 11) rfl Try.func45 #[.int .i64 a0,.agg #[.int .i64 a1_0,.int .i64 a1_1,.int .i64 a1_2,.int .i64 a1_3],.slice none 0 0] ?_;(refine (spec_l04Code.calls k a0 a1_0 a1_1 a1_2 a1_3 _ _ ([]:List (S28)) t813 _ ?side1 ?side2 A3.out).mono ?_);(case side1=>exact Kd.C_nil _ _);(case side2=>exact Nat.le_refl _);rintro e w8 ⟨rfl,hb⟩;refine ⟨_,rfl,?_⟩;replace BK812:=kB BK812 hb;replace HB:=lB hb;clear hb;obtain ⟨hcz9_0,hcz9_1,hcz9_2,hcz9_3,hfz9_0,hfz9_1,hfz9_2,hfz9_3⟩:=cz4 BK812)|((with_reducible refine gd 18 rfl ?_);refine gC (some 18) rfl Try.func80 (spec_l04Kind.calls (w:=_) (h:=A5.out)) ?_;intro w10 hb;replace BK812:=kB BK812 hb;replace HB:=lB hb;clear hb))
 ·
  go_ret2
  exact finA blA
 ·
  go_ret2
  exact finA blA
def impl_someNeighbours.l0:Nat→Int→List (S28)→Int→Int→Int→Int→Option ((List (S28)) × Bool)
 | 0,_,_,_,_,_,_=>none
 | k+1,x0,x8,x9,x867000,x867001,x867002=>if x9≤x0 then ((impl_neighbour.f k x0 x867000 x867001 x867002 x9).bind fun bt870=>(if bt870.2.2.2=true then (if x8.length<5864062014805 then (impl_someNeighbours.l0 k x0 (x8 ++ [(⟨bt870.1,bt870.2.1,bt870.2.2.1⟩:S28)]) (wrap64 (x9+1)) x867000 x867001 x867002) else (none)) else (some (([]:List (S28)),false)))) else (some (x8,true))
def impl_someNeighbours.f (k:Nat) (a0 a1_0 a1_1 a1_2 a2:Int):Option ((List (S28)) × Bool):=impl_someNeighbours.l0 k a0 (([]:List (S28))) a2 a1_0 a1_1 a1_2
theorem impl_someNeighbours.mono_l:∀ k,(∀ y0 y1 y2 y3 y4 y5,LeO (impl_someNeighbours.l0 k y0 y1 y2 y3 y4 y5) (impl_someNeighbours.l0 (k+1) y0 y1 y2 y3 y4 y5))
 | 0=>fun _ _ _ _ _ _ r h=>by simp [impl_someNeighbours.l0] at h
 | k+1=>by
  have ih0:=impl_someNeighbours.mono_l k
  ·
   intro y0 y1 y2 y3 y4 y5
   unfold impl_someNeighbours.l0
   repeat' first
   | with_reducible first|exact ih0 ..|exact impl_neighbour.mono ..|exact LeO.refl _|exact LeO.none _|refine LeO.ite ?_ ?_|refine LeO.bind ?_ fun _=>?_
theorem impl_someNeighbours.mono:∀ a0 a1 a2 a3 a4 k,LeO (impl_someNeighbours.f k a0 a1 a2 a3 a4) (impl_someNeighbours.f (k+1) a0 a1 a2 a3 a4):=by
 intro a0 a1 a2 a3 a4 k
 have ih0:=impl_someNeighbours.mono_l k
 unfold impl_someNeighbours.f
 repeat' first
   | with_reducible first|exact ih0 ..|exact impl_neighbour.mono ..|exact LeO.refl _|exact LeO.none _|refine LeO.ite ?_ ?_|refine LeO.bind ?_ fun _=>?_
set_option maxHeartbeats 8000000 in
set_option maxRecDepth 100000 in
theorem impl_someNeighbours.calls (k:Nat) (a0 a1_0 a1_1 a1_2 a2:Int) (r1:List (S28)) (r2:Bool) (w:World) (h:impl_someNeighbours.f k a0 a1_0 a1_1 a1_2 a2=some (r1,r2)) :
  Calls Try.prog 129 #[.int .i64 a0,.agg #[.int .i64 a1_0,.int .i64 a1_1,.int .i64 a1_2],.int .i64 a2] w fun e w'=>∃ v0_:Value,e=.returned (.tuple #[v0_,.bool r2])∧Kd.R k28 28 w' w.heap.size (fun _=>True) v0_ r1∧Below w.heap.size w w':=by
 have hu28:=Try.underlying28
 have HB:=Aside0.mk (Below.refl w.heap.size w)
 have H:=h
 unfold impl_someNeighbours.f at H
 clear h
 obtain ⟨y867,hy867⟩:∃ y_:List (S28),y_=(([]:List (S28))):=⟨_,rfl⟩
 replace H:(impl_someNeighbours.l0 k a0 y867 a2 a1_0 a1_1 a1_2)=some (r1,r2):=rH hy867 H
 have Ny867:=Aside0.mk hy867
 clear hy867
 have H':=Aside0.mk H
 clear H
 go_enter Try.func129,Try.ntmps129
 go_wp2_with (first|((with_reducible refine gate_dst (N:=4) rfl ?_);refine bxE (cs:=#[.int .i64 a1_0,.int .i64 a1_1,.int .i64 a1_2]) (t:=28) ?_;intro gb866 hg w4 hbox hb;have BK866:=Aside0.mk hbox;have GW866:=sA hg;have GE866:=sA hg;replace HB:=lB hb;clear hb hbox hg)|((with_reducible refine gate_dst (N:=12) rfl ?_);refine Kd.R_lit k28 _ 28 ?hg (N:=12) ?hd (xs:=([]:List (S28))) (inner:=[]) (ok:=fun _=>True) (okp:=fun _=>True) ?hr ?hp (fun _ hk=>hk) trivial (Below.refl _ _) (Nat.le_refl _) (by simp) ?_;(case hd=>rfl);(case hg=>rfl);(case hr=>first|(go_simp;done)|(go_simp;rfl));(case hp=>exact (Reps.none _ _));intro v868 w5 ho6 hb hg_ hnew_;clear hg_ hnew_;(first|rw [← Ny867.out] at ho6|(simp only [Int.reduceToNat] at ho6;rw [← Ny867.out] at ho6));have HO869:=Aside0.mk (Kd.R_lower (Kd.R_newB ho6 (bkA BK866)) (below_size blA));replace BK866:=kB BK866 hb;replace HB:=lB hb;clear hb ho6))
 go_loopg [8,9] k (fun kq v8 v9 w'=>∃ (x8_1:List (S28)) (x9_1:Int),v9=.int .i64 x9_1∧Aside0 (impl_someNeighbours.l0 kq a0 x8_1 x9_1 a1_0 a1_1 a1_2=some (r1,r2))∧Aside0 (kq≤k)∧Aside0 (Kd.R k28 28 w' w.heap.size (fun k_=>k_≠gb866) v8 x8_1)∧Aside0 (w'.heap[gb866]?=some (.cells #[.int .i64 a1_0,.int .i64 a1_1,.int .i64 a1_2] 28 (0,0)))∧Aside0 (Below w.heap.size w w'))
 case atStart=>exact ⟨(y867),(a2),hB,H',⟨Nat.le_refl _⟩,⟨by (with_reducible repeat (first|apply Kd.R_alloc|apply Kd.R_drewN|apply Kd.R_drew));exact Kd.R_mono HO869.out (fun _ hk=>hk.2)⟩,⟨bkA BK866⟩,⟨blA⟩⟩
 case round=>
  clear H'
  obtain ⟨x8_1,x9_1,rfl,HA,HK1,HO_8,BK866,HB⟩:=hrel
  cases gk with
  | zero=>exact absurd HA.out (by simp [impl_someNeighbours.l0])
  | succ k1=>
   have H:=HA.out
   clear HA
   simp only [impl_someNeighbours.l0] at H
   by_cases c7:x9_1≤a0
   ·
    rw [if_pos c7] at H
    have c7b0:=decide_eq_true c7
    clear c7
    replace H:=bS H
    obtain ⟨⟨t870,t871,t872,t873⟩,A8,H⟩:=H
    try dsimp only at H
    by_cases c9:t873=true
    focus
     subst c9
     rw [if_pos rfl] at H
     try dsimp only at H
     by_cases c10:x8_1.length<5864062014805
     rotate_left
     ·
      rw [if_neg c10] at H
      exact absurd H (by simp)
     rw [if_pos c10] at H
     have LMc10:=Aside0.mk c10
     clear c10
     obtain ⟨y875,hy875⟩:∃ y_:List (S28),y_=(x8_1 ++ [(⟨t870,t871,t872⟩:S28)]):=⟨_,rfl⟩
     replace H:(impl_someNeighbours.l0 k1 a0 y875 (wrap64 (x9_1+1)) a1_0 a1_1 a1_2)=some (r1,r2):=rH hy875 H
     have Ny875:=Aside0.mk hy875
     clear hy875
     have H':=Aside0.mk H
     clear H
     obtain ⟨hcz11_0,hcz11_1,hcz11_2,hfz11_0,hfz11_1,hfz11_2⟩:=cz3 BK866
    rotate_left
    focus
     replace c9:=Bool.eq_false_iff.mpr c9
     subst c9
     rw [if_neg (show ¬ (false=true) by decide)] at H
     try dsimp only at H
     simp only [Option.some.injEq,Prod.mk.injEq] at H
     obtain ⟨rfl,rfl⟩:=H
     obtain ⟨hcz17_0,hcz17_1,hcz17_2,hfz17_0,hfz17_1,hfz17_2⟩:=cz3 BK866
    rotate_left
    all_goals
     go_wp2_with (first|((with_reducible refine gd 23 rfl ?_);refine gC (some 23) rfl Try.func136 (impl_neighbour.calls (w:=_) (h:=A8.out)) ?_;intro w12 hb;replace HO_8:=Aside0.mk (Kd.R_below (rA HO_8) hb);replace BK866:=kB BK866 hb;replace HB:=lB hb;clear hb)|((with_reducible refine gate_dst (N:=10) rfl ?_);refine bxE (cs:=#[.int .i64 0,.int .i64 0,.int .i64 0]) (t:=28) ?_;intro gb874 hg w13 hbox hb;have BK874:=Aside0.mk hbox;have GW874:=sA hg;have GE874:=sA hg;have NB866_874:=nA hg BK866;have NB874_866:=nB hg BK866;replace HO_8:=Aside0.mk (Kd.R_below (Kd.R_elderB (rA HO_8) gb874 (Nat.le_of_eq hg.symm)) hb);replace BK866:=kB BK866 hb;replace HB:=lB hb;clear hb hbox hg;have hnb14:=NB874_866.out;have hnc14:=NB866_874.out;obtain ⟨hcz15_0,hcz15_1,hcz15_2,hfz15_0,hfz15_1,hfz15_2⟩:=cz3 BK874)|((with_reducible refine gate_builtin (b:=.append) (xs:=#[.tmp 28,.tmp 30]) rfl ?_);at_builtin;refine Kd.R_append k28 (w0:=w) w.heap.size rfl (.tmp 28) (.tmp 30) 64 28 (.agg #[(.int .i64 0),(.int .i64 0),(.int .i64 0)]) 24 rfl Try.underlying64 info28 rfl (by decide) (by omega) u8 x8_1 (⟨t870,t871,t872⟩:S28) [.int .i64 t870,.int .i64 t871,.int .i64 t872] (fun k_=>k_≠gb866∧k_≠gb874) (fun _=>False) rfl (by first|(go_simp;done)|(go_simp;rfl)) ?aP (fun _ hk=>hk.elim) ?aF ?aO ?aB ?aS ?aL ?_;(case aP=>exact k28_mkM _ _ _ (⟨t870,t871,t872⟩:S28));(case aB=>exact blA);(case aF=>exact (fun k_ hk=>⟨Kd.freshB (g:=gb866) (o:=.cells #[.int .i64 a1_0,.int .i64 a1_1,.int .i64 a1_2] 28 (0,0)) (bkF BK866) k_ hk,Kd.freshB (g:=gb874) (o:=.cells #[.int .i64 t870,.int .i64 t871,.int .i64 t872] 28 (0,0)) (bpA BK874) k_ hk⟩));(case aO=>exact (by (with_reducible repeat (first|apply Kd.R_alloc|apply Kd.R_drewN|apply Kd.R_drew));exact Kd.R_mono (Kd.R_far (p:=⟨gb874,2,none⟩) (Kd.R_far (p:=⟨gb874,1,none⟩) (Kd.R_far (p:=⟨gb874,0,none⟩) (Kd.R_mono HO_8.out (fun k_ hk=>(⟨hk,hk.2⟩:_∧k_≠gb874))) (fun _ hk=>hk.2) (.int .i64 t870)) (fun _ hk=>hk.2) (.int .i64 t871)) (fun _ hk=>hk.2) (.int .i64 t872)) (fun _ hk=>⟨hk.1.1,hk.1.2⟩)));(case aS=>exact (below_size blA));(case aL=>have:=LMc10.out;omega);intro v876 w16 ho hb hg hat;rw [← Ny875.out] at ho;have n0_:=Aside0.mk (blk_grown (g:=gb866) (o:=.cells #[.int .i64 a1_0,.int .i64 a1_1,.int .i64 a1_2] 28 (0,0)) (bkF BK866) hg (Kd.R_away HO_8.out (fun _ hk=>hk.1)));have n1_:=Aside0.mk (blk_grown (g:=gb874) (o:=.cells #[.int .i64 t870,.int .i64 t871,.int .i64 t872] 28 (0,0)) (bpA BK874) hg (Kd.R_away HO_8.out (fun _ hk=>hk.2)));have n2_:=Aside0.mk hb;have n3_:=Aside0.mk ho;clear BK866;clear BK874;clear HB;clear HO_8;have BK866:=n0_;have BK874:=n1_;have HB:=n2_;have HO877:=n3_;clear n0_ n1_ n2_ n3_;clear ho hb hg hat))
    ·
     go_roundg k1
     case measure=>have:=HK1.out;omega
     case rel=>exact ⟨(y875),(wrap64 (x9_1+1)),hB,H',⟨by have:=HK1.out;omega⟩,⟨by (with_reducible repeat (first|apply Kd.R_alloc|apply Kd.R_drewN|apply Kd.R_drew));exact Kd.R_mono HO877.out (fun _ hk=>hk.1)⟩,⟨bkA BK866⟩,⟨blA⟩⟩
    ·
     go_ret2
     exact ⟨_,eW,nlA,blA⟩
   ·
    rw [if_neg c7] at H
    have c7b0:=decide_eq_false c7
    clear c7
    simp only [Option.some.injEq,Prod.mk.injEq] at H
    obtain ⟨rfl,rfl⟩:=H
    go_wp2
    go_ret2
    exact ⟨_,eW,by (with_reducible repeat (first|apply Kd.R_alloc|apply Kd.R_drewN|apply Kd.R_drew));exact Kd.R_mono HO_8.out (fun _ hk=>trivial),blA⟩
def spec_l02Near.f (k:Nat) (a0 a1_0 a1_1 a1_2:Int):Option ((List (S28)) × Bool):=(spec_l01Parent.f k a0 a1_0 a1_1 a1_2).bind fun bt969=>((spec_l02Children.f k a0 a1_0 a1_1 a1_2).bind fun bt974=>((some (([(⟨bt969.1,bt969.2.1,bt969.2.2.1⟩:S28)]:List (S28)):List (S28))).bind fun y978=>(if y978.length+bt974.1.length<5864062014805 then ((some (y978 ++ bt974.1:List (S28))).bind fun y981=>(if bt969.2.2.2=true then (some (y981,bt974.2)) else (some (y981,false)))) else (none))))
theorem spec_l02Near.mono:∀ a0 a1 a2 a3 k,LeO (spec_l02Near.f k a0 a1 a2 a3) (spec_l02Near.f (k+1) a0 a1 a2 a3):=by
 intro a0 a1 a2 a3 k
 unfold spec_l02Near.f
 repeat' first
   | with_reducible first|exact spec_l01Parent.mono ..|exact spec_l02Children.mono ..|exact LeO.refl _|exact LeO.none _|refine LeO.ite ?_ ?_|refine LeO.bind ?_ fun _=>?_
set_option maxHeartbeats 8000000 in
set_option maxRecDepth 100000 in
theorem spec_l02Near.calls (k:Nat) (a0 a1_0 a1_1 a1_2:Int) (r1:List (S28)) (r2:Bool) (w:World) (h:spec_l02Near.f k a0 a1_0 a1_1 a1_2=some (r1,r2)) :
  Calls Try.prog 128 #[.int .i64 a0,.agg #[.int .i64 a1_0,.int .i64 a1_1,.int .i64 a1_2]] w fun e w'=>∃ v0_:Value,e=.returned (.tuple #[v0_,.bool r2])∧Kd.R k28 28 w' w.heap.size (fun _=>True) v0_ r1∧Below w.heap.size w w':=by
 have hu28:=Try.underlying28
 have HB:=Aside0.mk (Below.refl w.heap.size w)
 have H:=h
 unfold spec_l02Near.f at H
 clear h
 replace H:=bS H
 obtain ⟨⟨t969,t970,t971,t972⟩,A3,H⟩:=H
 try dsimp only at H
 replace H:=bS H
 obtain ⟨⟨t974,t977⟩,A4,H⟩:=H
 try dsimp only at H
 obtain ⟨y978,hy978⟩:∃ y_:List (S28),y_=(([(⟨t969,t970,t971⟩:S28)]:List (S28))):=⟨_,rfl⟩
 replace H:(if y978.length+t974.length<5864062014805 then ((some (y978 ++ t974:List (S28))).bind fun y981=>(if t972=true then (some (y981,t977)) else (some (y981,false)))) else (none))=some (r1,r2):=rH hy978 H
 have Ny978:=Aside0.mk hy978
 clear hy978
 by_cases c5:y978.length+t974.length<5864062014805
 rotate_left
 ·
  rw [if_neg c5] at H
  exact absurd H (by simp)
 rw [if_pos c5] at H
 have LMc5:=Aside0.mk c5
 clear c5
 obtain ⟨y981,hy981⟩:∃ y_:List (S28),y_=(y978 ++ t974):=⟨_,rfl⟩
 replace H:(if t972=true then (some (y981,t977)) else (some (y981,false)))=some (r1,r2):=rH hy981 H
 have Ny981:=Aside0.mk hy981
 clear hy981
 by_cases c6:t972=true
 ·
  subst c6
  rw [if_pos rfl] at H
  try dsimp only at H
  simp only [Option.some.injEq,Prod.mk.injEq] at H
  obtain ⟨rfl,rfl⟩:=H
  go_enter Try.func128,Try.ntmps128
  go_wp2_with (first|((with_reducible refine gate_dst (N:=3) rfl ?_);refine bxE (cs:=#[.int .i64 a1_0,.int .i64 a1_1,.int .i64 a1_2]) (t:=28) ?_;intro gb968 hg w7 hbox hb;have BK968:=Aside0.mk hbox;have GW968:=sA hg;have GE968:=sA hg;replace HB:=lB hb;clear hb hbox hg;obtain ⟨hcz8_0,hcz8_1,hcz8_2,hfz8_0,hfz8_1,hfz8_2⟩:=cz3 BK968)|((with_reducible refine gd 13 rfl ?_);refine gC (some 13) rfl Try.func134 (spec_l01Parent.calls (w:=_) (h:=A3.out)) ?_;intro w9 hb;replace BK968:=kB BK968 hb;replace HB:=lB hb;clear hb)|((with_reducible refine gate_dst (N:=6) rfl ?_);refine bxE (cs:=#[.int .i64 0,.int .i64 0,.int .i64 0]) (t:=28) ?_;intro gb973 hg w10 hbox hb;have BK973:=Aside0.mk hbox;have GW973:=sA hg;have GE973:=sA hg;have NB968_973:=nA hg BK968;have NB973_968:=nB hg BK968;replace BK968:=kB BK968 hb;replace HB:=lB hb;clear hb hbox hg;have hnb11:=NB973_968.out;have hnc11:=NB968_973.out;obtain ⟨hcz12_0,hcz12_1,hcz12_2,hfz12_0,hfz12_1,hfz12_2⟩:=cz3 BK973;obtain ⟨hcz13_0,hcz13_1,hcz13_2,hfz13_0,hfz13_1,hfz13_2⟩:=cz3 BK968)|((with_reducible refine gate_callee (f:=135) rfl ?_);refine gL (some 19) rfl Try.func135 #[.int .i64 a0,.agg #[.int .i64 a1_0,.int .i64 a1_1,.int .i64 a1_2]] ?_;(with_reducible refine (spec_l02Children.calls k a0 a1_0 a1_1 a1_2 t974 t977 _ A4.out).mono ?_);rintro e w14 ⟨v975,rfl,ho0,hb⟩;refine ⟨_,rfl,?_⟩;have n0_:=Aside0.mk (Kd.R_lower (Kd.R_newB (Kd.R_newB ho0 (g:=gb968) (o:=.cells #[.int .i64 a1_0,.int .i64 a1_1,.int .i64 a1_2] 28 (0,0)) (bkF BK968)) (g:=gb973) (o:=.cells #[.int .i64 t969,.int .i64 t970,.int .i64 t971] 28 (0,0)) (bpA BK973)) (below_size blA));have n1_:=Aside0.mk (blk_below (g:=gb968) (o:=.cells #[.int .i64 a1_0,.int .i64 a1_1,.int .i64 a1_2] 28 (0,0)) (bkF BK968) hb);have n2_:=Aside0.mk (blk_below (g:=gb973) (o:=.cells #[.int .i64 t969,.int .i64 t970,.int .i64 t971] 28 (0,0)) (bpA BK973) hb);have n3_:=lB hb;clear BK968;clear BK973;clear HB;have HO976:=n0_;have BK968:=n1_;have BK973:=n2_;have HB:=n3_;clear n0_ n1_ n2_ n3_;clear ho0 hb;obtain ⟨hcz15_0,hcz15_1,hcz15_2,hfz15_0,hfz15_1,hfz15_2⟩:=cz3 BK973)|((with_reducible refine gate_dst (N:=23) rfl ?_);refine Kd.R_lit k28 _ 28 ?hg (N:=23) ?hd (xs:=([(⟨t969,t970,t971⟩:S28)]:List (S28))) (inner:=[.int .i64 t969,.int .i64 t970,.int .i64 t971]) (ok:=fun _=>True) (okp:=fun _=>True) ?hr ?hp (fun _ hk=>hk) trivial (Below.refl _ _) (Nat.le_refl _) (by simp) ?_;(case hd=>rfl);(case hg=>rfl);(case hr=>first|(go_simp;done)|(go_simp;rfl));(case hp=>exact (Reps.c3 (show Kd.M k28 _ _ _ (⟨t969,t970,t971⟩:S28) [.int .i64 t969,.int .i64 t970,.int .i64 t971] from (k28_mkM _ _ _ (⟨t969,t970,t971⟩:S28) )) (Reps.none _ _)));intro v979 w16 ho17 hb hg_ hnew_;clear hg_ hnew_;(first|rw [← Ny978.out] at ho17|(simp only [Int.reduceToNat] at ho17;rw [← Ny978.out] at ho17));have HO980:=Aside0.mk (Kd.R_lower (Kd.R_newB (Kd.R_newB (Kd.R_new' ho17 (Kd.R_lt (rA HO976))) (bkA BK968)) (bkA BK973)) (below_size blA));replace HO976:=Aside0.mk (Kd.R_elder' (rA HO976) (Kd.R_base ho17) hb);replace BK968:=kB BK968 hb;replace BK973:=kB BK973 hb;replace HB:=lB hb;clear hb ho17;obtain ⟨Ao19,co19,eo19⟩:=Kd.R_slice HO976.out;subst eo19)|((with_reducible refine gate_builtin (b:=.append) (xs:=#[.tmp 23,.tmp 24]) rfl ?_);at_builtin;refine Kd.R_append_rows k28 (w0:=w) w.heap.size rfl (.tmp 23) (.tmp 24) 64 28 (.agg #[(.int .i64 0),(.int .i64 0),(.int .i64 0)]) 24 rfl Try.underlying64 info28 rfl (by decide) (by omega) v979 y978 t974 _ _ _ (fun k_=>some k_≠(.slice Ao19 t974.length co19:Value).ownBlock∧k_≠gb968∧k_≠gb973) (fun _=>False) rfl rfl ?aO ?aR (fun _ _ h=>h) (fun _ h=>h.elim) ?aF ?aB ?aS ?aL ?_;(case aR=>exact cR (Kd.R_reads' HO976.out).2.2);(case aB=>exact blA);(case aF=>exact (fun k_ hk=>⟨Kd.fresh' (Kd.R_lt (rA HO976)) k_ hk,Kd.freshB (bkA BK968) k_ hk,Kd.freshB (bkA BK973) k_ hk⟩));(case aO=>exact (by (with_reducible repeat (first|apply Kd.R_alloc|apply Kd.R_drewN|apply Kd.R_drew));exact Kd.R_mono HO980.out (fun _ hk=>⟨hk.1.1.2,⟨hk.1.2,hk.2⟩⟩)));(case aS=>exact (below_size blA));(case aL=>have:=LMc5.out;omega);intro v982 w18 ho hb hg hat;rw [← Ny981.out] at ho;have HO983:=Aside0.mk ho;replace BK968:=Aside0.mk (blk_grown (bkA BK968) hg (Kd.R_away HO980.out (fun _ hk=>hk.1.2)));replace BK973:=Aside0.mk (blk_grown (bkA BK973) hg (Kd.R_away HO980.out (fun _ hk=>hk.2)));replace HO976:=Aside0.mk (Kd.R_after (ok:=(fun k_=>k_≠gb968∧k_≠gb973)) (by (with_reducible repeat (first|apply Kd.R_alloc|apply Kd.R_drewN|apply Kd.R_drew));exact Kd.R_mono HO976.out (fun _ hk=>⟨⟨hk.1.1.2,hk.1.2⟩,hk.2⟩)) hg hat);replace HB:=Aside0.mk hb;clear HO980;clear ho hb hg hat))
  go_ret2
  exact ⟨_,eW,by (with_reducible repeat (first|apply Kd.R_alloc|apply Kd.R_drewN|apply Kd.R_drew));exact Kd.R_mono HO983.out (fun _ hk=>trivial),blA⟩
 ·
  replace c6:=Bool.eq_false_iff.mpr c6
  subst c6
  rw [if_neg (show ¬ (false=true) by decide)] at H
  try dsimp only at H
  simp only [Option.some.injEq,Prod.mk.injEq] at H
  obtain ⟨rfl,rfl⟩:=H
  go_enter Try.func128,Try.ntmps128
  go_wp2_with (first|((with_reducible refine gate_dst (N:=3) rfl ?_);refine bxE (cs:=#[.int .i64 a1_0,.int .i64 a1_1,.int .i64 a1_2]) (t:=28) ?_;intro gb968 hg w20 hbox hb;have BK968:=Aside0.mk hbox;have GW968:=sA hg;have GE968:=sA hg;replace HB:=lB hb;clear hb hbox hg;obtain ⟨hcz21_0,hcz21_1,hcz21_2,hfz21_0,hfz21_1,hfz21_2⟩:=cz3 BK968)|((with_reducible refine gd 13 rfl ?_);refine gC (some 13) rfl Try.func134 (spec_l01Parent.calls (w:=_) (h:=A3.out)) ?_;intro w22 hb;replace BK968:=kB BK968 hb;replace HB:=lB hb;clear hb)|((with_reducible refine gate_dst (N:=6) rfl ?_);refine bxE (cs:=#[.int .i64 0,.int .i64 0,.int .i64 0]) (t:=28) ?_;intro gb973 hg w23 hbox hb;have BK973:=Aside0.mk hbox;have GW973:=sA hg;have GE973:=sA hg;have NB968_973:=nA hg BK968;have NB973_968:=nB hg BK968;replace BK968:=kB BK968 hb;replace HB:=lB hb;clear hb hbox hg;have hnb24:=NB973_968.out;have hnc24:=NB968_973.out;obtain ⟨hcz25_0,hcz25_1,hcz25_2,hfz25_0,hfz25_1,hfz25_2⟩:=cz3 BK973;obtain ⟨hcz26_0,hcz26_1,hcz26_2,hfz26_0,hfz26_1,hfz26_2⟩:=cz3 BK968)|((with_reducible refine gate_callee (f:=135) rfl ?_);refine gL (some 19) rfl Try.func135 #[.int .i64 a0,.agg #[.int .i64 a1_0,.int .i64 a1_1,.int .i64 a1_2]] ?_;(with_reducible refine (spec_l02Children.calls k a0 a1_0 a1_1 a1_2 t974 t977 _ A4.out).mono ?_);rintro e w27 ⟨v975,rfl,ho0,hb⟩;refine ⟨_,rfl,?_⟩;have n0_:=Aside0.mk (Kd.R_lower (Kd.R_newB (Kd.R_newB ho0 (g:=gb968) (o:=.cells #[.int .i64 a1_0,.int .i64 a1_1,.int .i64 a1_2] 28 (0,0)) (bkF BK968)) (g:=gb973) (o:=.cells #[.int .i64 t969,.int .i64 t970,.int .i64 t971] 28 (0,0)) (bpA BK973)) (below_size blA));have n1_:=Aside0.mk (blk_below (g:=gb968) (o:=.cells #[.int .i64 a1_0,.int .i64 a1_1,.int .i64 a1_2] 28 (0,0)) (bkF BK968) hb);have n2_:=Aside0.mk (blk_below (g:=gb973) (o:=.cells #[.int .i64 t969,.int .i64 t970,.int .i64 t971] 28 (0,0)) (bpA BK973) hb);have n3_:=lB hb;clear BK968;clear BK973;clear HB;have HO976:=n0_;have BK968:=n1_;have BK973:=n2_;have HB:=n3_;clear n0_ n1_ n2_ n3_;clear ho0 hb;obtain ⟨hcz28_0,hcz28_1,hcz28_2,hfz28_0,hfz28_1,hfz28_2⟩:=cz3 BK973)|((with_reducible refine gate_dst (N:=23) rfl ?_);refine Kd.R_lit k28 _ 28 ?hg (N:=23) ?hd (xs:=([(⟨t969,t970,t971⟩:S28)]:List (S28))) (inner:=[.int .i64 t969,.int .i64 t970,.int .i64 t971]) (ok:=fun _=>True) (okp:=fun _=>True) ?hr ?hp (fun _ hk=>hk) trivial (Below.refl _ _) (Nat.le_refl _) (by simp) ?_;(case hd=>rfl);(case hg=>rfl);(case hr=>first|(go_simp;done)|(go_simp;rfl));(case hp=>exact (Reps.c3 (show Kd.M k28 _ _ _ (⟨t969,t970,t971⟩:S28) [.int .i64 t969,.int .i64 t970,.int .i64 t971] from (k28_mkM _ _ _ (⟨t969,t970,t971⟩:S28) )) (Reps.none _ _)));intro v979 w29 ho30 hb hg_ hnew_;clear hg_ hnew_;(first|rw [← Ny978.out] at ho30|(simp only [Int.reduceToNat] at ho30;rw [← Ny978.out] at ho30));have HO980:=Aside0.mk (Kd.R_lower (Kd.R_newB (Kd.R_newB (Kd.R_new' ho30 (Kd.R_lt (rA HO976))) (bkA BK968)) (bkA BK973)) (below_size blA));replace HO976:=Aside0.mk (Kd.R_elder' (rA HO976) (Kd.R_base ho30) hb);replace BK968:=kB BK968 hb;replace BK973:=kB BK973 hb;replace HB:=lB hb;clear hb ho30;obtain ⟨Ao32,co32,eo32⟩:=Kd.R_slice HO976.out;subst eo32)|((with_reducible refine gate_builtin (b:=.append) (xs:=#[.tmp 23,.tmp 24]) rfl ?_);at_builtin;refine Kd.R_append_rows k28 (w0:=w) w.heap.size rfl (.tmp 23) (.tmp 24) 64 28 (.agg #[(.int .i64 0),(.int .i64 0),(.int .i64 0)]) 24 rfl Try.underlying64 info28 rfl (by decide) (by omega) v979 y978 t974 _ _ _ (fun k_=>some k_≠(.slice Ao32 t974.length co32:Value).ownBlock∧k_≠gb968∧k_≠gb973) (fun _=>False) rfl rfl ?aO ?aR (fun _ _ h=>h) (fun _ h=>h.elim) ?aF ?aB ?aS ?aL ?_;(case aR=>exact cR (Kd.R_reads' HO976.out).2.2);(case aB=>exact blA);(case aF=>exact (fun k_ hk=>⟨Kd.fresh' (Kd.R_lt (rA HO976)) k_ hk,Kd.freshB (bkA BK968) k_ hk,Kd.freshB (bkA BK973) k_ hk⟩));(case aO=>exact (by (with_reducible repeat (first|apply Kd.R_alloc|apply Kd.R_drewN|apply Kd.R_drew));exact Kd.R_mono HO980.out (fun _ hk=>⟨hk.1.1.2,⟨hk.1.2,hk.2⟩⟩)));(case aS=>exact (below_size blA));(case aL=>have:=LMc5.out;omega);intro v982 w31 ho hb hg hat;rw [← Ny981.out] at ho;have HO983:=Aside0.mk ho;replace BK968:=Aside0.mk (blk_grown (bkA BK968) hg (Kd.R_away HO980.out (fun _ hk=>hk.1.2)));replace BK973:=Aside0.mk (blk_grown (bkA BK973) hg (Kd.R_away HO980.out (fun _ hk=>hk.2)));replace HO976:=Aside0.mk (Kd.R_after (ok:=(fun k_=>k_≠gb968∧k_≠gb973)) (by (with_reducible repeat (first|apply Kd.R_alloc|apply Kd.R_drewN|apply Kd.R_drew));exact Kd.R_mono HO976.out (fun _ hk=>⟨⟨hk.1.1.2,hk.1.2⟩,hk.2⟩)) hg hat);replace HB:=Aside0.mk hb;clear HO980;clear ho hb hg hat))
  go_ret2
  exact ⟨_,eW,by (with_reducible repeat (first|apply Kd.R_alloc|apply Kd.R_drewN|apply Kd.R_drew));exact Kd.R_mono HO983.out (fun _ hk=>trivial),blA⟩
def spec_DrawDisplacementOf.f (k:Nat) (l0:List Int):Option (Int × Int × Int × Int × Int × Int × Int × Int):=(spec_l04With.f k l0).bind fun bt738=>(some (bt738.1,bt738.2.1,bt738.2.2.1,bt738.2.2.2.1,bt738.2.2.2.2.1,bt738.2.2.2.2.2.1,bt738.2.2.2.2.2.2.1,bt738.2.2.2.2.2.2.2))
theorem spec_DrawDisplacementOf.mono:∀ a0 k,LeO (spec_DrawDisplacementOf.f k a0) (spec_DrawDisplacementOf.f (k+1) a0):=by
 intro a0 k
 unfold spec_DrawDisplacementOf.f
 repeat' first
   | with_reducible first|exact spec_l04With.mono ..|exact LeO.refl _|exact LeO.none _|refine LeO.ite ?_ ?_|refine LeO.bind ?_ fun _=>?_
set_option maxHeartbeats 8000000 in
set_option maxRecDepth 100000 in
theorem spec_DrawDisplacementOf.calls (k:Nat) (A0:Option Addr) (c0:Nat) (l0:List Int) (r1 r2 r3 r4 r5 r6 r7 r8:Int) (w:World) (hr0:Kd.C (Kd.int .u8) w A0 l0.length l0) (hc0:l0.length≤c0) (h:spec_DrawDisplacementOf.f k l0=some (r1,r2,r3,r4,r5,r6,r7,r8)) :
  Calls Try.prog 27 #[.slice A0 l0.length c0] w fun e w'=>e=.returned (.tuple #[.int .i64 r1,.agg #[.int .i64 r2,.int .i64 r3,.int .i64 r4,.int .i64 r5],.agg #[.int .i64 r6,.int .i64 r7,.int .i64 r8]])∧Below w.heap.size w w':=by
 have hu26:=Try.underlying26
 have hu28:=Try.underlying28
 have HR0:=Aside0.mk hr0
 have HC0:=Aside0.mk hc0
 clear hr0 hc0
 have HB:=Aside0.mk (Below.refl w.heap.size w)
 have H:=h
 unfold spec_DrawDisplacementOf.f at H
 clear h
 replace H:=bS H
 obtain ⟨⟨t738,t739,t740,t741,t742,t743,t744,t745⟩,A2,H⟩:=H
 try dsimp only at H
 simp only [Option.some.injEq,Prod.mk.injEq] at H
 obtain ⟨rfl,rfl,rfl,rfl,rfl,rfl,rfl,rfl⟩:=H
 go_enter Try.func27,Try.ntmps27
 go_wp2_with (first|((with_reducible refine gate_dst (N:=3) rfl ?_);refine bxE (cs:=#[.int .i64 0,.int .i64 0,.int .i64 0,.int .i64 0]) (t:=26) ?_;intro gb736 hg w3 hbox hb;have BK736:=Aside0.mk hbox;have GW736:=sA hg;have GE736:=sA hg;replace HB:=lB hb;clear hb hbox hg)|((with_reducible refine gate_dst (N:=4) rfl ?_);refine bxE (cs:=#[.int .i64 0,.int .i64 0,.int .i64 0]) (t:=28) ?_;intro gb737 hg w4 hbox hb;have BK737:=Aside0.mk hbox;have GW737:=sA hg;have GE737:=sA hg;have NB736_737:=nA hg BK736;have NB737_736:=nB hg BK736;replace BK736:=kB BK736 hb;replace HB:=lB hb;clear hb hbox hg)|((with_reducible refine gd 6 rfl ?_);refine gC (some 6) rfl Try.func41 (spec_l04With.calls (w:=_) (hr0:=cR (Kd.C_below HR0.out HB.out)) (hc0:=HC0.out) (h:=A2.out)) ?_;intro w5 hb;replace BK736:=kB BK736 hb;replace BK737:=kB BK737 hb;replace HB:=lB hb;clear hb;have hnb6:=NB736_737.out;have hnc6:=NB737_736.out;obtain ⟨hcz7_0,hcz7_1,hcz7_2,hcz7_3,hfz7_0,hfz7_1,hfz7_2,hfz7_3⟩:=cz4 BK736;obtain ⟨hcz8_0,hcz8_1,hcz8_2,hfz8_0,hfz8_1,hfz8_2⟩:=cz3 BK737))
 refine bodyPost_ret (results_list (rs:=[.tmp 2,.cell 3 26,.cell 4 28]) rfl (by simp) (.tmp (.cell gb736 26 #[.int .i64 t739,.int .i64 t740,.int .i64 t741,.int .i64 t742] (0,0) _ rfl (bpA BK736) Try.underlying26 rfl (by kernel_rfl) (.cell gb737 28 #[.int .i64 t743,.int .i64 t744,.int .i64 t745] (0,0) _ rfl (bpA BK737) Try.underlying28 rfl (by kernel_rfl) .nil)))) rfl ?_
 exact finA blA
def spec_DrawLengthOf.f (k:Nat) (l0:List Int):Option (Int × Int × Int × Int × Int):=(spec_l04With.f k l0).bind fun bt779=>(some (bt779.1,bt779.2.1,bt779.2.2.1,bt779.2.2.2.1,bt779.2.2.2.2.1))
theorem spec_DrawLengthOf.mono:∀ a0 k,LeO (spec_DrawLengthOf.f k a0) (spec_DrawLengthOf.f (k+1) a0):=by
 intro a0 k
 unfold spec_DrawLengthOf.f
 repeat' first
   | with_reducible first|exact spec_l04With.mono ..|exact LeO.refl _|exact LeO.none _|refine LeO.ite ?_ ?_|refine LeO.bind ?_ fun _=>?_
set_option maxHeartbeats 8000000 in
set_option maxRecDepth 100000 in
theorem spec_DrawLengthOf.calls (k:Nat) (A0:Option Addr) (c0:Nat) (l0:List Int) (r1 r2 r3 r4 r5:Int) (w:World) (hr0:Kd.C (Kd.int .u8) w A0 l0.length l0) (hc0:l0.length≤c0) (h:spec_DrawLengthOf.f k l0=some (r1,r2,r3,r4,r5)) :
  Calls Try.prog 30 #[.slice A0 l0.length c0] w fun e w'=>e=.returned (.tuple #[.int .i64 r1,.agg #[.int .i64 r2,.int .i64 r3,.int .i64 r4,.int .i64 r5]])∧Below w.heap.size w w':=by
 have hu26:=Try.underlying26
 have hu28:=Try.underlying28
 have HR0:=Aside0.mk hr0
 have HC0:=Aside0.mk hc0
 clear hr0 hc0
 have HB:=Aside0.mk (Below.refl w.heap.size w)
 have H:=h
 unfold spec_DrawLengthOf.f at H
 clear h
 replace H:=bS H
 obtain ⟨⟨t779,t780,t781,t782,t783,t784,t785,t786⟩,A2,H⟩:=H
 try dsimp only at H
 simp only [Option.some.injEq,Prod.mk.injEq] at H
 obtain ⟨rfl,rfl,rfl,rfl,rfl⟩:=H
 go_enter Try.func30,Try.ntmps30
 try go_wp2_with (first|((with_reducible refine gate_dst (N:=3) rfl ?_);refine bxE (cs:=#[.int .i64 0,.int .i64 0,.int .i64 0,.int .i64 0]) (t:=26) ?_;intro gb778 hg w3 hbox hb;have n0_:=lB hb;have n1_:=Aside0.mk hbox;have n2_:=sA hg;have n3_:=sA hg;clear HB;have HB:=n0_;have BK778:=n1_;have GW778:=n2_;have GE778:=n3_;clear n0_ n1_ n2_ n3_;clear hb hbox hg)|((with_reducible refine gd 9 rfl ?_);refine gC (some 9) rfl Try.func41 (spec_l04With.calls (w:=_) (hr0:=cR (Kd.C_below HR0.out HB.out)) (hc0:=HC0.out) (h:=A2.out)) ?_;intro w4 hb;have n0_:=kB BK778 hb;have n1_:=lB hb;clear BK778;clear HB;have BK778:=n0_;have HB:=n1_;clear n0_ n1_;clear hb)|((with_reducible refine gate_dst (N:=5) rfl ?_);refine bxE (cs:=#[.int .i64 0,.int .i64 0,.int .i64 0,.int .i64 0]) (t:=26) ?_;intro gb787 hg w5 hbox hb;have n0_:=kB BK778 hb;have n1_:=lB hb;have n2_:=Aside0.mk hbox;have n3_:=sA hg;have n4_:=sA hg;have n5_:=nA hg BK778;have n6_:=nB hg BK778;clear BK778;clear HB;have BK778:=n0_;have HB:=n1_;have BK787:=n2_;have GW787:=n3_;have GE787:=n4_;have NB778_787:=n5_;have NB787_778:=n6_;clear n0_ n1_ n2_ n3_ n4_ n5_ n6_;clear hb hbox hg)|((with_reducible refine gate_dst (N:=6) rfl ?_);refine bxE (cs:=#[.int .i64 0,.int .i64 0,.int .i64 0]) (t:=28) ?_;intro gb788 hg w6 hbox hb;have n0_:=kB BK778 hb;have n1_:=kB BK787 hb;have n2_:=lB hb;have n3_:=Aside0.mk hbox;have n4_:=sA hg;have n5_:=sA hg;have n6_:=nA hg BK778;have n7_:=nB hg BK778;have n8_:=nA hg BK787;have n9_:=nB hg BK787;clear BK778;clear BK787;clear HB;have BK778:=n0_;have BK787:=n1_;have HB:=n2_;have BK788:=n3_;have GW788:=n4_;have GE788:=n5_;have NB778_788:=n6_;have NB788_778:=n7_;have NB787_788:=n8_;have NB788_787:=n9_;clear n0_ n1_ n2_ n3_ n4_ n5_ n6_ n7_ n8_ n9_;clear hb hbox hg;have hnb7:=NB787_778.out;have hnc7:=NB778_787.out;have hnb8:=NB787_788.out;have hnc8:=NB788_787.out;obtain ⟨hcz9_0,hcz9_1,hcz9_2,hcz9_3,hfz9_0,hfz9_1,hfz9_2,hfz9_3⟩:=cz4 BK787;have hnb10:=NB788_778.out;have hnc10:=NB778_788.out;obtain ⟨hcz11_0,hcz11_1,hcz11_2,hfz11_0,hfz11_1,hfz11_2⟩:=cz3 BK788))
 have n0_:Aside0 ((((((((w6.setCell ⟨gb787,0,none⟩ (.int .i64 t780)).setCell ⟨gb787,1,none⟩ (.int .i64 t781)).setCell ⟨gb787,2,none⟩ (.int .i64 t782)).setCell ⟨gb787,3,none⟩ (.int .i64 t783)).setCell ⟨gb788,0,none⟩ (.int .i64 t784)).setCell ⟨gb788,1,none⟩ (.int .i64 t785)).setCell ⟨gb788,2,none⟩ (.int .i64 t786)).heap[gb778]?=some (.cells #[.int .i64 0,.int .i64 0,.int .i64 0,.int .i64 0] 26 (0,0))):=⟨bkF BK778⟩
 have n1_:Aside0 ((((((((w6.setCell ⟨gb787,0,none⟩ (.int .i64 t780)).setCell ⟨gb787,1,none⟩ (.int .i64 t781)).setCell ⟨gb787,2,none⟩ (.int .i64 t782)).setCell ⟨gb787,3,none⟩ (.int .i64 t783)).setCell ⟨gb788,0,none⟩ (.int .i64 t784)).setCell ⟨gb788,1,none⟩ (.int .i64 t785)).setCell ⟨gb788,2,none⟩ (.int .i64 t786)).heap[gb787]?=some (.cells #[.int .i64 t780,.int .i64 t781,.int .i64 t782,.int .i64 t783] 26 (0,0))):=⟨bpA BK787⟩
 have n2_:Aside0 ((((((((w6.setCell ⟨gb787,0,none⟩ (.int .i64 t780)).setCell ⟨gb787,1,none⟩ (.int .i64 t781)).setCell ⟨gb787,2,none⟩ (.int .i64 t782)).setCell ⟨gb787,3,none⟩ (.int .i64 t783)).setCell ⟨gb788,0,none⟩ (.int .i64 t784)).setCell ⟨gb788,1,none⟩ (.int .i64 t785)).setCell ⟨gb788,2,none⟩ (.int .i64 t786)).heap[gb788]?=some (.cells #[.int .i64 t784,.int .i64 t785,.int .i64 t786] 28 (0,0))):=⟨bpA BK788⟩
 have n3_:Aside0 (Below w.heap.size w (((((((w6.setCell ⟨gb787,0,none⟩ (.int .i64 t780)).setCell ⟨gb787,1,none⟩ (.int .i64 t781)).setCell ⟨gb787,2,none⟩ (.int .i64 t782)).setCell ⟨gb787,3,none⟩ (.int .i64 t783)).setCell ⟨gb788,0,none⟩ (.int .i64 t784)).setCell ⟨gb788,1,none⟩ (.int .i64 t785)).setCell ⟨gb788,2,none⟩ (.int .i64 t786))):=⟨blA⟩
 (try clear BK778)
 (try clear BK787)
 (try clear BK788)
 (try clear HB)
 generalize (((((((w6.setCell ⟨gb787,0,none⟩ (.int .i64 t780)).setCell ⟨gb787,1,none⟩ (.int .i64 t781)).setCell ⟨gb787,2,none⟩ (.int .i64 t782)).setCell ⟨gb787,3,none⟩ (.int .i64 t783)).setCell ⟨gb788,0,none⟩ (.int .i64 t784)).setCell ⟨gb788,1,none⟩ (.int .i64 t785)).setCell ⟨gb788,2,none⟩ (.int .i64 t786))=w12 at n0_ n1_ n2_ n3_ ⊢
 have BK778:=n0_
 have BK787:=n1_
 have BK788:=n2_
 have HB:=n3_
 clear n0_ n1_ n2_ n3_
 have n0_:=Aside0.mk (blk_drew BK778.out)
 have n1_:=Aside0.mk (blk_drew BK787.out)
 have n2_:=Aside0.mk (blk_drew BK788.out)
 have n3_:=Aside0.mk (below_drew1 HB.out)
 clear BK778
 clear BK787
 clear BK788
 clear HB
 have BK778:=n0_
 have BK787:=n1_
 have BK788:=n2_
 have HB:=n3_
 clear n0_ n1_ n2_ n3_
 refine start_ (n:=4) (S:=fun w'=>w'.cell? ⟨gb787,0,none⟩=some (.int .i64 t780)∧w'.cell? ⟨gb787,1,none⟩=some (.int .i64 t781)∧w'.cell? ⟨gb787,2,none⟩=some (.int .i64 t782)∧w'.cell? ⟨gb787,3,none⟩=some (.int .i64 t783)) (ds:=[]) #[Z,Z,Z,Z] (by kernel_rfl) rfl rfl ⟨cA BK787 0,cA BK787 1,cA BK787 2,cA BK787 3⟩ (fun hHeld=>?_)
 generalize w12.drew=w13 at BK778 BK787 BK788 HB hHeld ⊢
 refine pure_ (i:=0) (N:=some 13) (v:=?_) (a':=?_) #[Y,Z,Z,Z] rfl rfl (by kernel_rfl) (fun _ _ _ h=>h) (Or.inl ⟨by rfl,?_⟩) ?_ ?_
 rotate_left
 ·
  intro w'
  go_simp
  with_reducible rfl
 rotate_left
 ·
  simp only [pA]
  rfl
 refine pure_ (i:=2) (N:=some 2) (v:=?_) (a':=?_) #[Y,Z,Y,Z] rfl rfl (by kernel_rfl) (fun _ _ _ h=>h) (Or.inl ⟨by rfl,?_⟩) ?_ ?_
 rotate_left
 ·
  intro w'
  go_simp
  with_reducible rfl
 rotate_left
 ·
  simp only [pA]
  rfl
 refine take_ (i:=1) (N:=some 14) (v:=?_) (a':=?_) #[Y,Y,Y,Z] rfl rfl (by kernel_rfl) (fun _ _ _ h=>h) (Or.inl ⟨by rfl,?_⟩) hHeld ?_ ?_
 rotate_left
 ·
  rintro w' ⟨s0,s1,s2,s3⟩
  go_simp
  with_reducible rfl
 rotate_left
 ·
  simp only [pA]
  rfl
 refine one_ (i:=3) (N:=none) #[Y,Y,Y,Y] rfl rfl (by kernel_rfl) (by decide) (fun K hK=>?_)
 have hs14:w13.cell? ⟨gb778,0,none⟩=some (.int .i64 0):=cA BK778 0
 have hfs14:=blk_frozen BK778.out 0
 have hns14_1:=NB787_778.out
 have hns14_2:=NB788_778.out
 have hms14_1:=NB778_787.out
 have hms14_2:=NB778_788.out
 have hs15:w13.cell? ⟨gb778,1,none⟩=some (.int .i64 0):=cA BK778 1
 have hfs15:=blk_frozen BK778.out 1
 have hns15_1:=NB787_778.out
 have hns15_2:=NB788_778.out
 have hms15_1:=NB778_787.out
 have hms15_2:=NB778_788.out
 have hs16:w13.cell? ⟨gb778,2,none⟩=some (.int .i64 0):=cA BK778 2
 have hfs16:=blk_frozen BK778.out 2
 have hns16_1:=NB787_778.out
 have hns16_2:=NB788_778.out
 have hms16_1:=NB778_787.out
 have hms16_2:=NB778_788.out
 have hs17:w13.cell? ⟨gb778,3,none⟩=some (.int .i64 0):=cA BK778 3
 have hfs17:=blk_frozen BK778.out 3
 have hns17_1:=NB787_778.out
 have hns17_2:=NB788_778.out
 have hms17_1:=NB778_787.out
 have hms17_2:=NB778_788.out
 refine skip_ (w1:=?_) (by rfl) rfl ?_ ?_
 rotate_left
 ·
  go_simp
  rfl
 refine hK.out _ _ ⟨cfF hHeld.1,cfF hHeld.2.1,cfF hHeld.2.2.1,cfF hHeld.2.2.2⟩ (fun hHeld=>?_)
 clear hK K
 refine done_ (by kernel_rfl) ?_
 try go_wp2
 refine bodyPost_ret (results_tc rfl _ _ gb778 26 #[.int .i64 t780,.int .i64 t781,.int .i64 t782,.int .i64 t783] (0,0) _ rfl (bpA BK778) Try.underlying26 rfl (by kernel_rfl)) rfl ?_
 exact finA blA
end Go.Proofs.Ytlpmefmaplhfdaa.PAll
