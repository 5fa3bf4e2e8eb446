import Derived.Test.YtpihnmmoahplgaaQx
import Derived.Test.YtpihnmmoahplgaaQimplTreeDistance
import Derived.Test.YtpihnmmoahplgaaQimplfractionsCode
import Derived.Test.YtpihnmmoahplgaaQimplgap
import Derived.Test.YtpihnmmoahplgaaQspecMeetingOf
import Derived.Test.YtpihnmmoahplgaaQspecl01End
import Derived.Test.YtpihnmmoahplgaaQspecl05Code
import Derived.Test.YtpihnmmoahplgaaQspecl05Gap
namespace Go.Proofs.Ytpihnmmoahplgaa.PAll
open Go.RowKit Go.Proofs.YtpihnmmoahplgaaW.PrintWords Go.Proofs.YtpihnmmoahplgaaW.PrintLast Go.Proofs.YtpihnmmoahplgaaW.PrintMore
attribute [local go_sem] Go.Proofs.Ytpihnmmoahplgaa.Aux.setCell_drewN Go.Proofs.Ytpihnmmoahplgaa.Aux.isSome_setCell Go.Proofs.Ytpihnmmoahplgaa.Aux.max_eight bq bo cG cF ba bZ bp bm
set_option linter.unusedVariables false
set_option linter.unusedSimpArgs false
def dB.f (k:Nat) (a0 a1_0 a1_1 a2_0 a2_1:Int):Option (Int × Int):=(af.f k a0 a1_0 a1_1 a2_0 a2_1).bind fun t689=>(if t689=0 then ((bh.f k a0 a1_0 a1_1 a2_0 a2_1).bind fun t690=>(some (t690,0))) else (some (0,t689)))
set_option maxHeartbeats 8000000 in
set_option maxRecDepth 100000 in
theorem dB.calls (k:Nat) (a0 a1_0 a1_1 a2_0 a2_1 r1 r2:Int) (w:World) (h:dB.f k a0 a1_0 a1_1 a2_0 a2_1=some (r1,r2)) :
  Calls Try.prog 24 #[.int .i64 a0,.agg #[.int .i64 a1_0,.int .i64 a1_1],.agg #[.int .i64 a2_0,.int .i64 a2_1]] w fun e w'=>e=.returned (.tuple #[.int .i64 r1,.int .i64 r2])∧Below w.heap.size w w':=by
 have hu28:=Try.underlying28
 have HB:=aA.mk (Below.refl w.heap.size w)
 have H:=h
 unfold dB.f at H
 clear h
 replace H:=bS H
 obtain ⟨t689,A4,H⟩:=H
 try dsimp only at H
 by_cases c5:t689=0
 focus
  rw [if_pos c5] at H
  have c5b0:(t689 == 0)=true:=beq_iff_eq.mpr c5
  have c5b1:(t689 != 0)=false:=bne_eq_false_iff_eq.mpr c5
  clear c5
  replace H:=bS H
  obtain ⟨t690,A6,H⟩:=H
  try dsimp only at H
  simp only [Option.some.injEq,Prod.mk.injEq] at H
  obtain ⟨rfl,rfl⟩:=H
 rotate_left
 focus
  rw [if_neg c5] at H
  have c5b0:(t689 == 0)=false:=beq_eq_false_iff_ne.mpr c5
  have c5b1:(t689 != 0)=true:=bne_iff_ne.mpr c5
  simp only [Option.some.injEq,Prod.mk.injEq] at H
  obtain ⟨rfl,rfl⟩:=H
 rotate_left
 all_goals
  go_enter Try.func24,Try.ntmps24
  go_wp2_with (first|((with_reducible refine aH (N:=4) rfl ?_);refine bxE (cs:=#[.int .i64 a1_0,.int .i64 a1_1]) (t:=28) ?_;intro gb687 hg w7 hbox hb;have BK687:=aA.mk hbox;have GW687:=sA hg;have GE687:=sA hg;replace HB:=lB hb;clear hb hbox hg)|((with_reducible refine aH (N:=5) rfl ?_);refine bxE (cs:=#[.int .i64 a2_0,.int .i64 a2_1]) (t:=28) ?_;intro gb688 hg w8 hbox hb;have BK688:=aA.mk hbox;have GW688:=sA hg;have GE688:=sA hg;have NB687_688:=nA hg BK687;have NB688_687:=nB hg BK687;have LT687_688:=nL hg BK687;replace BK687:=kB BK687 hb;replace HB:=lB hb;clear hb hbox hg;have hnb9:=LT687_688.out;obtain ⟨hcz10_0,hcz10_1,hfz10_0,hfz10_1⟩:=cz2 BK687;obtain ⟨hcz11_0,hcz11_1,hfz11_0,hfz11_1⟩:=cz2 BK688)|((with_reducible refine gd 12 rfl ?_);refine gC (some 12) rfl Try.func64 (af.calls (w:=_) (h:=A4.out)) ?_;intro w12 hb;replace BK687:=kB BK687 hb;replace BK688:=kB BK688 hb;replace HB:=lB hb;clear hb;obtain ⟨hcz13_0,hcz13_1,hfz13_0,hfz13_1⟩:=cz2 BK687;obtain ⟨hcz14_0,hcz14_1,hfz14_0,hfz14_1⟩:=cz2 BK688)|((with_reducible refine gd 19 rfl ?_);refine gC (some 19) rfl Try.func36 (bh.calls (w:=_) (h:=A6.out)) ?_;intro w15 hb;replace BK687:=kB BK687 hb;replace BK688:=kB BK688 hb;replace HB:=lB hb;clear hb))
 ·
  go_ret2
  exact bU blA
 ·
  go_ret2
  exact bU blA
def bu.f (k:Nat) (a0 a1_0 a1_1 a2_0 a2_1:Int):Option (Int):=(ax.f k a0 ([]:List (S25)) (([(⟨a1_0,a1_1⟩:S28),(⟨a2_0,a2_1⟩:S28)]:List (S28)))).bind fun t696=>(if t696=0 then (if a1_1=0 then (some 5) else (if a2_1=0 then (some 5) else (some t696))) else (some t696))
set_option maxHeartbeats 8000000 in
set_option maxRecDepth 100000 in
theorem bu.calls (k:Nat) (a0 a1_0 a1_1 a2_0 a2_1 r:Int) (w:World) (h:bu.f k a0 a1_0 a1_1 a2_0 a2_1=some r) :
  Calls Try.prog 65 #[.int .i64 a0,.agg #[.int .i64 a1_0,.int .i64 a1_1],.agg #[.int .i64 a2_0,.int .i64 a2_1]] w fun e w'=>e=.returned (.int .i64 r)∧Below w.heap.size w w':=by
 have hu28:=Try.underlying28
 have HB:=aA.mk (Below.refl w.heap.size w)
 have H:=h
 unfold bu.f at H
 clear h
 obtain ⟨y693,hy693⟩:∃ y_:List (S28),y_=(([(⟨a1_0,a1_1⟩:S28),(⟨a2_0,a2_1⟩:S28)]:List (S28))):=⟨_,rfl⟩
 replace H:((ax.f k a0 ([]:List (S25)) y693).bind fun t696=>(if t696=0 then (if a1_1=0 then (some 5) else (if a2_1=0 then (some 5) else (some t696))) else (some t696)))=some r:=rH hy693 H
 have Ny693:=aA.mk hy693
 clear hy693
 replace H:=bS H
 obtain ⟨t696,A4,H⟩:=H
 try dsimp only at H
 by_cases c5:t696=0
 ·
  rw [if_pos c5] at H
  have c5b0:(t696 == 0)=true:=beq_iff_eq.mpr c5
  have c5b1:(t696 != 0)=false:=bne_eq_false_iff_eq.mpr c5
  clear c5
  by_cases c6:a1_1=0
  ·
   rw [if_pos c6] at H
   have c6b0:(a1_1 == 0)=true:=beq_iff_eq.mpr c6
   have c6b1:(a1_1 != 0)=false:=bne_eq_false_iff_eq.mpr c6
   clear c6
   obtain rfl:=Option.some.inj H
   go_enter Try.func65,Try.ntmps65
   go_wp2_with (first|((with_reducible refine aH (N:=4) rfl ?_);refine bxE (cs:=#[.int .i64 a1_0,.int .i64 a1_1]) (t:=28) ?_;intro gb691 hg w7 hbox hb;have BK691:=aA.mk hbox;have GW691:=sA hg;have GE691:=sA hg;replace HB:=lB hb;clear hb hbox hg)|((with_reducible refine aH (N:=5) rfl ?_);refine bxE (cs:=#[.int .i64 a2_0,.int .i64 a2_1]) (t:=28) ?_;intro gb692 hg w8 hbox hb;have BK692:=aA.mk hbox;have GW692:=sA hg;have GE692:=sA hg;have NB691_692:=nA hg BK691;have NB692_691:=nB hg BK691;have LT691_692:=nL hg BK691;replace BK691:=kB BK691 hb;replace HB:=lB hb;clear hb hbox hg;have hnb9:=LT691_692.out;obtain ⟨hcz10_0,hcz10_1,hfz10_0,hfz10_1⟩:=cz2 BK691;obtain ⟨hcz11_0,hcz11_1,hfz11_0,hfz11_1⟩:=cz2 BK692)|((with_reducible refine aH (N:=11) rfl ?_);refine Kd.R_lit k28 _ 28 ?hg (N:=11) ?hd (xs:=([(⟨a1_0,a1_1⟩:S28),(⟨a2_0,a2_1⟩:S28)]:List (S28))) (inner:=[.int .i64 a1_0,.int .i64 a1_1,.int .i64 a2_0,.int .i64 a2_1]) (ok:=fun _=>True) (okp:=fun _=>True) ?hr ?hp (fun _ hk=>hk) trivial (Below.refl _ _) (Nat.le_refl _) (by simp) ?_;(case hd=>rfl);(case hg=>rfl);(case hr=>first|(go_simp;done)|(go_simp;rfl));(case hp=>exact (aY.c2 (show Kd.M k28 _ _ _ (⟨a1_0,a1_1⟩:S28) [.int .i64 a1_0,.int .i64 a1_1] from (aw _ _ _ (⟨a1_0,a1_1⟩:S28) )) (aY.c2 (show Kd.M k28 _ _ _ (⟨a2_0,a2_1⟩:S28) [.int .i64 a2_0,.int .i64 a2_1] from (aw _ _ _ (⟨a2_0,a2_1⟩:S28) )) (aY.none _ _))));intro v694 w12 ho13 hb hg_ hnew_;clear hg_ hnew_;(first|rw [← Ny693.out] at ho13|(simp only [Int.reduceToNat] at ho13;rw [← Ny693.out] at ho13));have HO695:=aA.mk (Kd.R_lower (Kd.R_newB (Kd.R_newB ho13 (bkA BK691)) (bkA BK692)) (ak blA));replace BK691:=kB BK691 hb;replace BK692:=kB BK692 hb;replace HB:=lB hb;clear hb ho13;obtain ⟨Ao14,co14,eo14⟩:=Kd.R_slice HO695.out;subst eo14)|((with_reducible refine bK (f:=28) rfl ?_);refine gL (some 12) rfl Try.func28 #[.int .i64 a0,.slice none 0 0,.slice Ao14 y693.length co14] ?_;(refine (ax.calls k a0 _ _ ([]:List (S25)) _ _ y693 t696 _ ?side1 ?side2 ?side3 ?side4 A4.out).mono ?_);(case side1=>exact Kd.C_nil _ _);(case side2=>exact Nat.le_refl _);(case side3=>exact cR (Kd.R_reads' HO695.out).2.2);(case side4=>exact (Kd.R_reads' HO695.out).2.1);rintro e w15 ⟨rfl,hb⟩;refine ⟨_,rfl,?_⟩;replace HO695:=aA.mk (Kd.R_below (rA HO695) hb);replace BK691:=kB BK691 hb;replace BK692:=kB BK692 hb;replace HB:=lB hb;clear hb;obtain ⟨hcz16_0,hcz16_1,hfz16_0,hfz16_1⟩:=cz2 BK691))
   go_ret
   exact bU blA
  ·
   rw [if_neg c6] at H
   have c6b0:(a1_1 == 0)=false:=beq_eq_false_iff_ne.mpr c6
   have c6b1:(a1_1 != 0)=true:=bne_iff_ne.mpr c6
   by_cases c17:a2_1=0
   ·
    rw [if_pos c17] at H
    have c17b0:(a2_1 == 0)=true:=beq_iff_eq.mpr c17
    have c17b1:(a2_1 != 0)=false:=bne_eq_false_iff_eq.mpr c17
    clear c17
    obtain rfl:=Option.some.inj H
    go_enter Try.func65,Try.ntmps65
    go_wp2_with (first|((with_reducible refine aH (N:=4) rfl ?_);refine bxE (cs:=#[.int .i64 a1_0,.int .i64 a1_1]) (t:=28) ?_;intro gb691 hg w18 hbox hb;have BK691:=aA.mk hbox;have GW691:=sA hg;have GE691:=sA hg;replace HB:=lB hb;clear hb hbox hg)|((with_reducible refine aH (N:=5) rfl ?_);refine bxE (cs:=#[.int .i64 a2_0,.int .i64 a2_1]) (t:=28) ?_;intro gb692 hg w19 hbox hb;have BK692:=aA.mk hbox;have GW692:=sA hg;have GE692:=sA hg;have NB691_692:=nA hg BK691;have NB692_691:=nB hg BK691;have LT691_692:=nL hg BK691;replace BK691:=kB BK691 hb;replace HB:=lB hb;clear hb hbox hg;have hnb20:=LT691_692.out;obtain ⟨hcz21_0,hcz21_1,hfz21_0,hfz21_1⟩:=cz2 BK691;obtain ⟨hcz22_0,hcz22_1,hfz22_0,hfz22_1⟩:=cz2 BK692)|((with_reducible refine aH (N:=11) rfl ?_);refine Kd.R_lit k28 _ 28 ?hg (N:=11) ?hd (xs:=([(⟨a1_0,a1_1⟩:S28),(⟨a2_0,a2_1⟩:S28)]:List (S28))) (inner:=[.int .i64 a1_0,.int .i64 a1_1,.int .i64 a2_0,.int .i64 a2_1]) (ok:=fun _=>True) (okp:=fun _=>True) ?hr ?hp (fun _ hk=>hk) trivial (Below.refl _ _) (Nat.le_refl _) (by simp) ?_;(case hd=>rfl);(case hg=>rfl);(case hr=>first|(go_simp;done)|(go_simp;rfl));(case hp=>exact (aY.c2 (show Kd.M k28 _ _ _ (⟨a1_0,a1_1⟩:S28) [.int .i64 a1_0,.int .i64 a1_1] from (aw _ _ _ (⟨a1_0,a1_1⟩:S28) )) (aY.c2 (show Kd.M k28 _ _ _ (⟨a2_0,a2_1⟩:S28) [.int .i64 a2_0,.int .i64 a2_1] from (aw _ _ _ (⟨a2_0,a2_1⟩:S28) )) (aY.none _ _))));intro v694 w23 ho24 hb hg_ hnew_;clear hg_ hnew_;(first|rw [← Ny693.out] at ho24|(simp only [Int.reduceToNat] at ho24;rw [← Ny693.out] at ho24));have HO695:=aA.mk (Kd.R_lower (Kd.R_newB (Kd.R_newB ho24 (bkA BK691)) (bkA BK692)) (ak blA));replace BK691:=kB BK691 hb;replace BK692:=kB BK692 hb;replace HB:=lB hb;clear hb ho24;obtain ⟨Ao25,co25,eo25⟩:=Kd.R_slice HO695.out;subst eo25)|((with_reducible refine bK (f:=28) rfl ?_);refine gL (some 12) rfl Try.func28 #[.int .i64 a0,.slice none 0 0,.slice Ao25 y693.length co25] ?_;(refine (ax.calls k a0 _ _ ([]:List (S25)) _ _ y693 t696 _ ?side1 ?side2 ?side3 ?side4 A4.out).mono ?_);(case side1=>exact Kd.C_nil _ _);(case side2=>exact Nat.le_refl _);(case side3=>exact cR (Kd.R_reads' HO695.out).2.2);(case side4=>exact (Kd.R_reads' HO695.out).2.1);rintro e w26 ⟨rfl,hb⟩;refine ⟨_,rfl,?_⟩;replace HO695:=aA.mk (Kd.R_below (rA HO695) hb);replace BK691:=kB BK691 hb;replace BK692:=kB BK692 hb;replace HB:=lB hb;clear hb;obtain ⟨hcz27_0,hcz27_1,hfz27_0,hfz27_1⟩:=cz2 BK691;obtain ⟨hcz28_0,hcz28_1,hfz28_0,hfz28_1⟩:=cz2 BK692))
    go_ret
    exact bU blA
   ·
    rw [if_neg c17] at H
    have c17b0:(a2_1 == 0)=false:=beq_eq_false_iff_ne.mpr c17
    have c17b1:(a2_1 != 0)=true:=bne_iff_ne.mpr c17
    obtain rfl:=Option.some.inj H
    go_enter Try.func65,Try.ntmps65
    go_wp2_with (first|((with_reducible refine aH (N:=4) rfl ?_);refine bxE (cs:=#[.int .i64 a1_0,.int .i64 a1_1]) (t:=28) ?_;intro gb691 hg w29 hbox hb;have BK691:=aA.mk hbox;have GW691:=sA hg;have GE691:=sA hg;replace HB:=lB hb;clear hb hbox hg)|((with_reducible refine aH (N:=5) rfl ?_);refine bxE (cs:=#[.int .i64 a2_0,.int .i64 a2_1]) (t:=28) ?_;intro gb692 hg w30 hbox hb;have BK692:=aA.mk hbox;have GW692:=sA hg;have GE692:=sA hg;have NB691_692:=nA hg BK691;have NB692_691:=nB hg BK691;have LT691_692:=nL hg BK691;replace BK691:=kB BK691 hb;replace HB:=lB hb;clear hb hbox hg;have hnb31:=LT691_692.out;obtain ⟨hcz32_0,hcz32_1,hfz32_0,hfz32_1⟩:=cz2 BK691;obtain ⟨hcz33_0,hcz33_1,hfz33_0,hfz33_1⟩:=cz2 BK692)|((with_reducible refine aH (N:=11) rfl ?_);refine Kd.R_lit k28 _ 28 ?hg (N:=11) ?hd (xs:=([(⟨a1_0,a1_1⟩:S28),(⟨a2_0,a2_1⟩:S28)]:List (S28))) (inner:=[.int .i64 a1_0,.int .i64 a1_1,.int .i64 a2_0,.int .i64 a2_1]) (ok:=fun _=>True) (okp:=fun _=>True) ?hr ?hp (fun _ hk=>hk) trivial (Below.refl _ _) (Nat.le_refl _) (by simp) ?_;(case hd=>rfl);(case hg=>rfl);(case hr=>first|(go_simp;done)|(go_simp;rfl));(case hp=>exact (aY.c2 (show Kd.M k28 _ _ _ (⟨a1_0,a1_1⟩:S28) [.int .i64 a1_0,.int .i64 a1_1] from (aw _ _ _ (⟨a1_0,a1_1⟩:S28) )) (aY.c2 (show Kd.M k28 _ _ _ (⟨a2_0,a2_1⟩:S28) [.int .i64 a2_0,.int .i64 a2_1] from (aw _ _ _ (⟨a2_0,a2_1⟩:S28) )) (aY.none _ _))));intro v694 w34 ho35 hb hg_ hnew_;clear hg_ hnew_;(first|rw [← Ny693.out] at ho35|(simp only [Int.reduceToNat] at ho35;rw [← Ny693.out] at ho35));have HO695:=aA.mk (Kd.R_lower (Kd.R_newB (Kd.R_newB ho35 (bkA BK691)) (bkA BK692)) (ak blA));replace BK691:=kB BK691 hb;replace BK692:=kB BK692 hb;replace HB:=lB hb;clear hb ho35;obtain ⟨Ao36,co36,eo36⟩:=Kd.R_slice HO695.out;subst eo36)|((with_reducible refine bK (f:=28) rfl ?_);refine gL (some 12) rfl Try.func28 #[.int .i64 a0,.slice none 0 0,.slice Ao36 y693.length co36] ?_;(refine (ax.calls k a0 _ _ ([]:List (S25)) _ _ y693 t696 _ ?side1 ?side2 ?side3 ?side4 A4.out).mono ?_);(case side1=>exact Kd.C_nil _ _);(case side2=>exact Nat.le_refl _);(case side3=>exact cR (Kd.R_reads' HO695.out).2.2);(case side4=>exact (Kd.R_reads' HO695.out).2.1);rintro e w37 ⟨rfl,hb⟩;refine ⟨_,rfl,?_⟩;replace HO695:=aA.mk (Kd.R_below (rA HO695) hb);replace BK691:=kB BK691 hb;replace BK692:=kB BK692 hb;replace HB:=lB hb;clear hb;obtain ⟨hcz38_0,hcz38_1,hfz38_0,hfz38_1⟩:=cz2 BK691;obtain ⟨hcz39_0,hcz39_1,hfz39_0,hfz39_1⟩:=cz2 BK692))
    go_ret
    exact bU blA
 ·
  rw [if_neg c5] at H
  have c5b0:(t696 == 0)=false:=beq_eq_false_iff_ne.mpr c5
  have c5b1:(t696 != 0)=true:=bne_iff_ne.mpr c5
  obtain rfl:=Option.some.inj H
  go_enter Try.func65,Try.ntmps65
  go_wp2_with (first|((with_reducible refine aH (N:=4) rfl ?_);refine bxE (cs:=#[.int .i64 a1_0,.int .i64 a1_1]) (t:=28) ?_;intro gb691 hg w40 hbox hb;have BK691:=aA.mk hbox;have GW691:=sA hg;have GE691:=sA hg;replace HB:=lB hb;clear hb hbox hg)|((with_reducible refine aH (N:=5) rfl ?_);refine bxE (cs:=#[.int .i64 a2_0,.int .i64 a2_1]) (t:=28) ?_;intro gb692 hg w41 hbox hb;have BK692:=aA.mk hbox;have GW692:=sA hg;have GE692:=sA hg;have NB691_692:=nA hg BK691;have NB692_691:=nB hg BK691;have LT691_692:=nL hg BK691;replace BK691:=kB BK691 hb;replace HB:=lB hb;clear hb hbox hg;have hnb42:=LT691_692.out;obtain ⟨hcz43_0,hcz43_1,hfz43_0,hfz43_1⟩:=cz2 BK691;obtain ⟨hcz44_0,hcz44_1,hfz44_0,hfz44_1⟩:=cz2 BK692)|((with_reducible refine aH (N:=11) rfl ?_);refine Kd.R_lit k28 _ 28 ?hg (N:=11) ?hd (xs:=([(⟨a1_0,a1_1⟩:S28),(⟨a2_0,a2_1⟩:S28)]:List (S28))) (inner:=[.int .i64 a1_0,.int .i64 a1_1,.int .i64 a2_0,.int .i64 a2_1]) (ok:=fun _=>True) (okp:=fun _=>True) ?hr ?hp (fun _ hk=>hk) trivial (Below.refl _ _) (Nat.le_refl _) (by simp) ?_;(case hd=>rfl);(case hg=>rfl);(case hr=>first|(go_simp;done)|(go_simp;rfl));(case hp=>exact (aY.c2 (show Kd.M k28 _ _ _ (⟨a1_0,a1_1⟩:S28) [.int .i64 a1_0,.int .i64 a1_1] from (aw _ _ _ (⟨a1_0,a1_1⟩:S28) )) (aY.c2 (show Kd.M k28 _ _ _ (⟨a2_0,a2_1⟩:S28) [.int .i64 a2_0,.int .i64 a2_1] from (aw _ _ _ (⟨a2_0,a2_1⟩:S28) )) (aY.none _ _))));intro v694 w45 ho46 hb hg_ hnew_;clear hg_ hnew_;(first|rw [← Ny693.out] at ho46|(simp only [Int.reduceToNat] at ho46;rw [← Ny693.out] at ho46));have HO695:=aA.mk (Kd.R_lower (Kd.R_newB (Kd.R_newB ho46 (bkA BK691)) (bkA BK692)) (ak blA));replace BK691:=kB BK691 hb;replace BK692:=kB BK692 hb;replace HB:=lB hb;clear hb ho46;obtain ⟨Ao47,co47,eo47⟩:=Kd.R_slice HO695.out;subst eo47)|((with_reducible refine bK (f:=28) rfl ?_);refine gL (some 12) rfl Try.func28 #[.int .i64 a0,.slice none 0 0,.slice Ao47 y693.length co47] ?_;(refine (ax.calls k a0 _ _ ([]:List (S25)) _ _ y693 t696 _ ?side1 ?side2 ?side3 ?side4 A4.out).mono ?_);(case side1=>exact Kd.C_nil _ _);(case side2=>exact Nat.le_refl _);(case side3=>exact cR (Kd.R_reads' HO695.out).2.2);(case side4=>exact (Kd.R_reads' HO695.out).2.1);rintro e w48 ⟨rfl,hb⟩;refine ⟨_,rfl,?_⟩;replace HO695:=aA.mk (Kd.R_below (rA HO695) hb);replace BK691:=kB BK691 hb;replace BK692:=kB BK692 hb;replace HB:=lB hb;clear hb))
  go_ret
  exact bU blA
def bk.f (k:Nat) (a0 a1_0 a1_1 a2_0 a2_1:Int):Option (Int × Int × Int × Int):=(af.f k a0 a1_0 a1_1 a2_0 a2_1).bind fun t704=>(if t704=0 then ((bh.f k a0 a1_0 a1_1 a2_0 a2_1).bind fun t705=>((bz.f k a0 a1_0 a1_1 t705).bind fun bt706=>((dH.f bt706.1 bt706.2.1 bt706.2.2.1 bt706.2.2.2).bind fun bt710=>(some (bt710.1,bt710.2.1,bt710.2.2.1,bt710.2.2.2))))) else (some (0,0,0,t704)))
def bk.T4:Bool × List (List Nat × List Nat):=(true,[([],[]),([],[]),([1],[1]),([],[]),([3],[3]),([],[]),([],[]),([],[]),([5,6,7],[5,6,7]),([0,2,4,8,8],[0,2,4,8]),([9],[9]),([9],[9]),([10,11,9],[10,11]),([12],[12]),([12],[12]),([13,12,0,1,2,3,4,5,6,7,8,9,10,11,12,13,14],[13]),([14,15,0,1,2,3,4,5,6,7,8,9,10,11,12,13,14,15],[14])])
def bk.B4:List Nat:=[0,0,2,0,8,0,0,0,224,511,1023,1023,4095,8191,8191,32767,65535]
theorem bk.tab4:ck .any (dC Try.f26 4)=bk.T4:=by kernel_rfl
theorem bk.bits4:br bk.T4.2 bk.B4=true:=by kernel_rfl
set_option maxHeartbeats 8000000 in
set_option maxRecDepth 100000 in
theorem bk.calls (k:Nat) (a0 a1_0 a1_1 a2_0 a2_1 r1 r2 r3 r4:Int) (w:World) (h:bk.f k a0 a1_0 a1_1 a2_0 a2_1=some (r1,r2,r3,r4)) :
  Calls Try.prog 26 #[.int .i64 a0,.agg #[.int .i64 a1_0,.int .i64 a1_1],.agg #[.int .i64 a2_0,.int .i64 a2_1]] w fun e w'=>e=.returned (.tuple #[.agg #[.int .i64 r1,.int .i64 r2,.int .i64 r3],.int .i64 r4])∧Below w.heap.size w w':=by
 have hu28:=Try.underlying28
 have hu25:=Try.underlying25
 have HB:=aA.mk (Below.refl w.heap.size w)
 have H:=h
 unfold bk.f at H
 clear h
 replace H:=bS H
 obtain ⟨t704,A4,H⟩:=H
 try dsimp only at H
 by_cases c5:t704=0
 ·
  rw [if_pos c5] at H
  have c5b0:(t704 == 0)=true:=beq_iff_eq.mpr c5
  have c5b1:(t704 != 0)=false:=bne_eq_false_iff_eq.mpr c5
  clear c5
  replace H:=bS H
  obtain ⟨t705,A6,H⟩:=H
  try dsimp only at H
  replace H:=bS H
  obtain ⟨⟨t706,t707,t708,t709⟩,A7,H⟩:=H
  try dsimp only at H
  replace H:=bS H
  obtain ⟨⟨t710,t711,t712,t713⟩,A8,H⟩:=H
  try dsimp only at H
  simp only [Option.some.injEq,Prod.mk.injEq] at H
  obtain ⟨rfl,rfl,rfl,rfl⟩:=H
  go_enter Try.func26,Try.ntmps26
  try go_wp2_with (first|((with_reducible refine aH (N:=4) rfl ?_);refine bxE (cs:=#[.int .i64 a1_0,.int .i64 a1_1]) (t:=28) ?_;intro gb701 hg w9 hbox hb;have BK701:=aA.mk hbox;have GW701:=sA hg;have GE701:=sA hg;replace HB:=lB hb;clear hb hbox hg)|((with_reducible refine aH (N:=5) rfl ?_);refine bxE (cs:=#[.int .i64 a2_0,.int .i64 a2_1]) (t:=28) ?_;intro gb702 hg w10 hbox hb;have LT701_702:=nL hg BK701;have BK702:=aA.mk hbox;have GW702:=sA hg;have GE702:=sA hg;replace BK701:=kB BK701 hb;replace HB:=lB hb;clear hb hbox hg)|((with_reducible refine aH (N:=6) rfl ?_);refine bxE (cs:=#[.int .i64 0,.int .i64 0,.int .i64 0]) (t:=25) ?_;intro gb703 hg w11 hbox hb;have LT701_703:=nL hg BK701;have LT702_703:=nL hg BK702;have BK703:=aA.mk hbox;have GW703:=sA hg;have GE703:=sA hg;have NB701_703:=nA hg BK701;have NB703_701:=nB hg BK701;have NB702_703:=nA hg BK702;have NB703_702:=nB hg BK702;replace BK701:=kB BK701 hb;replace BK702:=kB BK702 hb;replace HB:=lB hb;clear hb hbox hg;have hnb12:=LT701_702.out;have hnb13:=LT701_703.out;obtain ⟨hcz14_0,hcz14_1,hfz14_0,hfz14_1⟩:=cz2 BK701;have hnb15:=LT702_703.out;obtain ⟨hcz16_0,hcz16_1,hfz16_0,hfz16_1⟩:=cz2 BK702)|((with_reducible refine gd 12 rfl ?_);refine gC (some 12) rfl Try.func64 (af.calls (w:=_) (h:=A4.out)) ?_;intro w17 hb;replace BK701:=kB BK701 hb;replace BK702:=kB BK702 hb;replace BK703:=kB BK703 hb;replace HB:=lB hb;clear hb))
  have n0_:=aA.mk (aK BK701.out)
  have n1_:=aA.mk (aK BK702.out)
  have n2_:=aA.mk (aK BK703.out)
  have n3_:=aA.mk (aV HB.out)
  clear BK701
  clear BK702
  clear BK703
  clear HB
  have BK701:=n0_
  have BK702:=n1_
  have BK703:=n2_
  have HB:=n3_
  clear n0_ n1_ n2_ n3_
  refine bf (n:=17) (S:=fun w'=>w'.cell? ⟨gb701,0,none⟩=some (.int .i64 a1_0)∧w'.cell? ⟨gb701,1,none⟩=some (.int .i64 a1_1)∧w'.cell? ⟨gb702,0,none⟩=some (.int .i64 a2_0)∧w'.cell? ⟨gb702,1,none⟩=some (.int .i64 a2_1)) (ds:=[]) #[Z,Z,Z,Z,Z,Z,Z,Z,Z,Z,Z,Z,Z,Z,Z,Z,Z] (by kernel_rfl) rfl rfl ⟨cA BK701 0,cA BK701 1,cA BK702 0,cA BK702 1⟩ (fun hHeld=>?_);refine bH bk.tab4 bk.bits4 (fun HT_ HW_=>?_)
  generalize w17.drew=w18 at BK701 BK702 BK703 HB hHeld ⊢
  refine puA (i:=0) (N:=some 17) #[Y,Z,Z,Z,Z,Z,Z,Z,Z,Z,Z,Z,Z,Z,Z,Z,Z] rfl rfl HT_ ?_
  refine puA (i:=1) (N:=some 18) #[Y,Y,Z,Z,Z,Z,Z,Z,Z,Z,Z,Z,Z,Z,Z,Z,Z] rfl rfl HT_ ?_
  refine puA (i:=3) (N:=some 20) #[Y,Y,Z,Y,Z,Z,Z,Z,Z,Z,Z,Z,Z,Z,Z,Z,Z] rfl rfl HT_ ?_
  refine puA (i:=5) (N:=some 22) #[Y,Y,Z,Y,Z,Y,Z,Z,Z,Z,Z,Z,Z,Z,Z,Z,Z] rfl rfl HT_ ?_
  refine taA (i:=2) (N:=some 19) #[Y,Y,Y,Y,Z,Y,Z,Z,Z,Z,Z,Z,Z,Z,Z,Z,Z] rfl rfl HT_ HW_ hHeld ?_
  refine taA (i:=4) (N:=some 21) #[Y,Y,Y,Y,Y,Y,Z,Z,Z,Z,Z,Z,Z,Z,Z,Z,Z] rfl rfl HT_ HW_ hHeld ?_
  refine taA (i:=6) (N:=some 23) #[Y,Y,Y,Y,Y,Y,Y,Z,Z,Z,Z,Z,Z,Z,Z,Z,Z] rfl rfl HT_ HW_ hHeld ?_
  refine taA (i:=7) (N:=some 24) #[Y,Y,Y,Y,Y,Y,Y,Y,Z,Z,Z,Z,Z,Z,Z,Z,Z] rfl rfl HT_ HW_ hHeld ?_
  refine bg (i:=8) (N:=some 25) #[Y,Y,Y,Y,Y,Y,Y,Y,Y,Z,Z,Z,Z,Z,Z,Z,Z] rfl rfl (az HT_.out (by kernel_rfl)) (by decide) (fun K hK=>?_)
  refine goC Try.func36 (bh.calls (w:=_) (h:=A6.out)) ?_
  intro w19 hb
  replace BK701:=kB BK701 hb
  replace BK702:=kB BK702 hb
  replace BK703:=kB BK703 hb
  replace HB:=lB hb
  (try clear hb)
  (try clear hb2)
  (try clear hk)
  (try clear hi)
  refine hK.out _ _ ⟨cA BK701 0,cA BK701 1,cA BK702 0,cA BK702 1⟩ (fun hHeld=>?_)
  clear hK K
  refine nmA ?_
  refine bg (i:=9) (N:=some 26) #[Y,Y,Y,Y,Y,Y,Y,Y,Y,Y,Z,Z,Z,Z,Z,Z,Z] rfl rfl (az HT_.out (by kernel_rfl)) (by decide) (fun K hK=>?_)
  refine goC Try.func38 (bz.calls (w:=_) (h:=A7.out)) ?_
  intro w20 hb
  replace BK701:=kB BK701 hb
  replace BK702:=kB BK702 hb
  replace BK703:=kB BK703 hb
  replace HB:=lB hb
  (try clear hb)
  (try clear hb2)
  (try clear hk)
  (try clear hi)
  refine hK.out _ _ ⟨cA BK701 0,cA BK701 1,cA BK702 0,cA BK702 1⟩ (fun hHeld=>?_)
  clear hK K
  refine nmA ?_
  refine puA (i:=10) (N:=some 27) #[Y,Y,Y,Y,Y,Y,Y,Y,Y,Y,Y,Z,Z,Z,Z,Z,Z] rfl rfl HT_ ?_
  refine puA (i:=11) (N:=some 28) #[Y,Y,Y,Y,Y,Y,Y,Y,Y,Y,Y,Y,Z,Z,Z,Z,Z] rfl rfl HT_ ?_
  refine bg (i:=12) (N:=some 29) #[Y,Y,Y,Y,Y,Y,Y,Y,Y,Y,Y,Y,Y,Z,Z,Z,Z] rfl rfl (az HT_.out (by kernel_rfl)) (by decide) (fun K hK=>?_)
  refine goC Try.func37 (dH.calls (w:=_) (h:=A8.out)) ?_
  intro w21 hb
  replace BK701:=kB BK701 hb
  replace BK702:=kB BK702 hb
  replace BK703:=kB BK703 hb
  replace HB:=lB hb
  (try clear hb)
  (try clear hb2)
  (try clear hk)
  (try clear hi)
  refine hK.out _ _ ⟨cA BK701 0,cA BK701 1,cA BK702 0,cA BK702 1⟩ (fun hHeld=>?_)
  clear hK K
  refine nmA ?_
  refine puA (i:=13) (N:=some 30) #[Y,Y,Y,Y,Y,Y,Y,Y,Y,Y,Y,Y,Y,Y,Z,Z,Z] rfl rfl HT_ ?_
  refine puA (i:=14) (N:=some 31) #[Y,Y,Y,Y,Y,Y,Y,Y,Y,Y,Y,Y,Y,Y,Y,Z,Z] rfl rfl HT_ ?_
  refine bg (i:=15) (N:=none) #[Y,Y,Y,Y,Y,Y,Y,Y,Y,Y,Y,Y,Y,Y,Y,Y,Z] rfl rfl (az HT_.out (by kernel_rfl)) (by decide) (fun K hK=>?_)
  have hs22:w21.cell? ⟨gb703,0,none⟩=some (.int .i64 0):=cA BK703 0
  have hfs22:=aQ BK703.out 0
  have hns22_0:=NB701_703.out
  have hns22_1:=NB702_703.out
  have hms22_0:=NB703_701.out
  have hms22_1:=NB703_702.out
  have hs23:w21.cell? ⟨gb703,1,none⟩=some (.int .i64 0):=cA BK703 1
  have hfs23:=aQ BK703.out 1
  have hns23_0:=NB701_703.out
  have hns23_1:=NB702_703.out
  have hms23_0:=NB703_701.out
  have hms23_1:=NB703_702.out
  have hs24:w21.cell? ⟨gb703,2,none⟩=some (.int .i64 0):=cA BK703 2
  have hfs24:=aQ BK703.out 2
  have hns24_0:=NB701_703.out
  have hns24_1:=NB702_703.out
  have hms24_0:=NB703_701.out
  have hms24_1:=NB703_702.out
  refine dp (w1:=?_) (by rfl) rfl ?_ ?_
  rotate_left
  ·
   go_simp
   rfl
  refine hK.out _ _ ⟨cfA hHeld.1,cfA hHeld.2.1,cfA hHeld.2.2.1,cfA hHeld.2.2.2⟩ (fun hHeld=>?_)
  clear hK K
  refine puA (i:=16) (N:=some 7) #[Y,Y,Y,Y,Y,Y,Y,Y,Y,Y,Y,Y,Y,Y,Y,Y,Y] rfl rfl HT_ ?_
  refine cL (bX HT_.out (by kernel_rfl)) ?_
  try go_wp2
  refine bodyPost_ret (bC rfl _ _ gb703 25 #[.int .i64 t710,.int .i64 t711,.int .i64 t712] (0,0) _ rfl (bpA BK703) Try.underlying25 rfl (by kernel_rfl)) rfl ?_
  exact bU blA
 ·
  rw [if_neg c5] at H
  have c5b0:(t704 == 0)=false:=beq_eq_false_iff_ne.mpr c5
  have c5b1:(t704 != 0)=true:=bne_iff_ne.mpr c5
  simp only [Option.some.injEq,Prod.mk.injEq] at H
  obtain ⟨rfl,rfl,rfl,rfl⟩:=H
  go_enter Try.func26,Try.ntmps26
  go_wp2_with (first|((with_reducible refine aH (N:=4) rfl ?_);refine bxE (cs:=#[.int .i64 a1_0,.int .i64 a1_1]) (t:=28) ?_;intro gb701 hg w25 hbox hb;have BK701:=aA.mk hbox;have GW701:=sA hg;have GE701:=sA hg;replace HB:=lB hb;clear hb hbox hg)|((with_reducible refine aH (N:=5) rfl ?_);refine bxE (cs:=#[.int .i64 a2_0,.int .i64 a2_1]) (t:=28) ?_;intro gb702 hg w26 hbox hb;have LT701_702:=nL hg BK701;have BK702:=aA.mk hbox;have GW702:=sA hg;have GE702:=sA hg;replace BK701:=kB BK701 hb;replace HB:=lB hb;clear hb hbox hg)|((with_reducible refine aH (N:=6) rfl ?_);refine bxE (cs:=#[.int .i64 0,.int .i64 0,.int .i64 0]) (t:=25) ?_;intro gb703 hg w27 hbox hb;have LT701_703:=nL hg BK701;have LT702_703:=nL hg BK702;have BK703:=aA.mk hbox;have GW703:=sA hg;have GE703:=sA hg;have NB701_703:=nA hg BK701;have NB703_701:=nB hg BK701;have NB702_703:=nA hg BK702;have NB703_702:=nB hg BK702;replace BK701:=kB BK701 hb;replace BK702:=kB BK702 hb;replace HB:=lB hb;clear hb hbox hg;have hnb28:=LT701_702.out;have hnb29:=LT701_703.out;obtain ⟨hcz30_0,hcz30_1,hfz30_0,hfz30_1⟩:=cz2 BK701;have hnb31:=LT702_703.out;obtain ⟨hcz32_0,hcz32_1,hfz32_0,hfz32_1⟩:=cz2 BK702)|((with_reducible refine gd 12 rfl ?_);refine gC (some 12) rfl Try.func64 (af.calls (w:=_) (h:=A4.out)) ?_;intro w33 hb;replace BK701:=kB BK701 hb;replace BK702:=kB BK702 hb;replace BK703:=kB BK703 hb;replace HB:=lB hb;clear hb;obtain ⟨hcz34_0,hcz34_1,hcz34_2,hfz34_0,hfz34_1,hfz34_2⟩:=cz3 BK703))
  refine bodyPost_ret (bC rfl _ _ gb703 25 #[.int .i64 0,.int .i64 0,.int .i64 0] (0,0) _ rfl (bpA BK703) Try.underlying25 rfl (by kernel_rfl)) rfl ?_
  exact bU blA
def bP.f (k:Nat) (a0 a1_0 a1_1 a1_2 a2_0 a2_1 a3_0 a3_1:Int):Option (Bool × Int):=(bY.f k a0 a1_0 a1_1 a1_2 a2_0 a2_1 a3_0 a3_1).bind fun t380=>(if t380=0 then ((bR.f k a0 a1_0 a1_1 a1_2 a2_0 a2_1).bind fun t381=>((bR.f k a0 a1_0 a1_1 a1_2 a3_0 a3_1).bind fun t382=>(some ((t381 != t382),0)))) else (some (false,t380)))
def bP.T4:Bool × List (List Nat × List Nat):=(true,[([],[]),([],[]),([],[]),([0,1,2],[0,1,2]),([],[]),([],[]),([],[]),([4,5,6,3],[4,5,6]),([3,7],[3,7]),([8,7,0,1,2,3,4,5,6,7,8],[8]),([9,0,1,2,3,4,5,6,7,8,9],[])])
def bP.B4:List Nat:=[0,0,0,7,0,0,0,127,255,511,1023]
theorem bP.tab4:ck .any (dC Try.f14 4)=bP.T4:=by kernel_rfl
theorem bP.bits4:br bP.T4.2 bP.B4=true:=by kernel_rfl
set_option maxHeartbeats 8000000 in
set_option maxRecDepth 100000 in
theorem bP.calls (k:Nat) (a0 a1_0 a1_1 a1_2 a2_0 a2_1 a3_0 a3_1:Int) (r1:Bool) (r2:Int) (w:World) (h:bP.f k a0 a1_0 a1_1 a1_2 a2_0 a2_1 a3_0 a3_1=some (r1,r2)) :
  Calls Try.prog 14 #[.int .i64 a0,.agg #[.int .i64 a1_0,.int .i64 a1_1,.int .i64 a1_2],.agg #[.int .i64 a2_0,.int .i64 a2_1],.agg #[.int .i64 a3_0,.int .i64 a3_1]] w fun e w'=>e=.returned (.tuple #[.bool r1,.int .i64 r2])∧Below w.heap.size w w':=by
 have hu25:=Try.underlying25
 have hu28:=Try.underlying28
 have HB:=aA.mk (Below.refl w.heap.size w)
 have H:=h
 unfold bP.f at H
 clear h
 replace H:=bS H
 obtain ⟨t380,A5,H⟩:=H
 try dsimp only at H
 by_cases c6:t380=0
 ·
  rw [if_pos c6] at H
  have c6b0:(t380 == 0)=true:=beq_iff_eq.mpr c6
  have c6b1:(t380 != 0)=false:=bne_eq_false_iff_eq.mpr c6
  clear c6
  replace H:=bS H
  obtain ⟨t381,A7,H⟩:=H
  try dsimp only at H
  replace H:=bS H
  obtain ⟨t382,A8,H⟩:=H
  try dsimp only at H
  simp only [Option.some.injEq,Prod.mk.injEq] at H
  obtain ⟨rfl,rfl⟩:=H
  go_enter Try.func14,Try.ntmps14
  try go_wp2_with (first|((with_reducible refine aH (N:=5) rfl ?_);refine bxE (cs:=#[.int .i64 a1_0,.int .i64 a1_1,.int .i64 a1_2]) (t:=25) ?_;intro gb377 hg w9 hbox hb;have BK377:=aA.mk hbox;have GW377:=sA hg;have GE377:=sA hg;replace HB:=lB hb;clear hb hbox hg)|((with_reducible refine aH (N:=6) rfl ?_);refine bxE (cs:=#[.int .i64 a2_0,.int .i64 a2_1]) (t:=28) ?_;intro gb378 hg w10 hbox hb;have LT377_378:=nL hg BK377;have BK378:=aA.mk hbox;have GW378:=sA hg;have GE378:=sA hg;replace BK377:=kB BK377 hb;replace HB:=lB hb;clear hb hbox hg)|((with_reducible refine aH (N:=7) rfl ?_);refine bxE (cs:=#[.int .i64 a3_0,.int .i64 a3_1]) (t:=28) ?_;intro gb379 hg w11 hbox hb;have LT377_379:=nL hg BK377;have LT378_379:=nL hg BK378;have BK379:=aA.mk hbox;have GW379:=sA hg;have GE379:=sA hg;replace BK377:=kB BK377 hb;replace BK378:=kB BK378 hb;replace HB:=lB hb;clear hb hbox hg;have hnb12:=LT377_378.out;have hnb13:=LT377_379.out;obtain ⟨hcz14_0,hcz14_1,hcz14_2,hfz14_0,hfz14_1,hfz14_2⟩:=cz3 BK377;have hnb15:=LT378_379.out;obtain ⟨hcz16_0,hcz16_1,hfz16_0,hfz16_1⟩:=cz2 BK378;obtain ⟨hcz17_0,hcz17_1,hfz17_0,hfz17_1⟩:=cz2 BK379)|((with_reducible refine gd 15 rfl ?_);refine gC (some 15) rfl Try.func46 (bY.calls (w:=_) (h:=A5.out)) ?_;intro w18 hb;replace BK377:=kB BK377 hb;replace BK378:=kB BK378 hb;replace BK379:=kB BK379 hb;replace HB:=lB hb;clear hb))
  have n0_:=aA.mk (aK BK377.out)
  have n1_:=aA.mk (aK BK378.out)
  have n2_:=aA.mk (aK BK379.out)
  have n3_:=aA.mk (aV HB.out)
  clear BK377
  clear BK378
  clear BK379
  clear HB
  have BK377:=n0_
  have BK378:=n1_
  have BK379:=n2_
  have HB:=n3_
  clear n0_ n1_ n2_ n3_
  refine bf (n:=11) (S:=fun w'=>w'.cell? ⟨gb377,0,none⟩=some (.int .i64 a1_0)∧w'.cell? ⟨gb377,1,none⟩=some (.int .i64 a1_1)∧w'.cell? ⟨gb377,2,none⟩=some (.int .i64 a1_2)∧w'.cell? ⟨gb378,0,none⟩=some (.int .i64 a2_0)∧w'.cell? ⟨gb378,1,none⟩=some (.int .i64 a2_1)∧w'.cell? ⟨gb379,0,none⟩=some (.int .i64 a3_0)∧w'.cell? ⟨gb379,1,none⟩=some (.int .i64 a3_1)) (ds:=[]) #[Z,Z,Z,Z,Z,Z,Z,Z,Z,Z,Z] (by kernel_rfl) rfl rfl ⟨cA BK377 0,cA BK377 1,cA BK377 2,cA BK378 0,cA BK378 1,cA BK379 0,cA BK379 1⟩ (fun hHeld=>?_);refine bH bP.tab4 bP.bits4 (fun HT_ HW_=>?_)
  generalize w18.drew=w19 at BK377 BK378 BK379 HB hHeld ⊢
  refine puA (i:=0) (N:=some 19) #[Y,Z,Z,Z,Z,Z,Z,Z,Z,Z,Z] rfl rfl HT_ ?_
  refine puA (i:=4) (N:=some 23) #[Y,Z,Z,Z,Y,Z,Z,Z,Z,Z,Z] rfl rfl HT_ ?_
  refine taA (i:=1) (N:=some 20) #[Y,Y,Z,Z,Y,Z,Z,Z,Z,Z,Z] rfl rfl HT_ HW_ hHeld ?_
  refine taA (i:=2) (N:=some 21) #[Y,Y,Y,Z,Y,Z,Z,Z,Z,Z,Z] rfl rfl HT_ HW_ hHeld ?_
  refine taA (i:=5) (N:=some 24) #[Y,Y,Y,Z,Y,Y,Z,Z,Z,Z,Z] rfl rfl HT_ HW_ hHeld ?_
  refine taA (i:=6) (N:=some 25) #[Y,Y,Y,Z,Y,Y,Y,Z,Z,Z,Z] rfl rfl HT_ HW_ hHeld ?_
  refine bg (i:=3) (N:=some 22) #[Y,Y,Y,Y,Y,Y,Y,Z,Z,Z,Z] rfl rfl (az HT_.out (by kernel_rfl)) (by decide) (fun K hK=>?_)
  refine goC Try.func47 (bR.calls (w:=_) (h:=A7.out)) ?_
  intro w20 hb
  replace BK377:=kB BK377 hb
  replace BK378:=kB BK378 hb
  replace BK379:=kB BK379 hb
  replace HB:=lB hb
  (try clear hb)
  (try clear hb2)
  (try clear hk)
  (try clear hi)
  refine hK.out _ _ ⟨cA BK377 0,cA BK377 1,cA BK377 2,cA BK378 0,cA BK378 1,cA BK379 0,cA BK379 1⟩ (fun hHeld=>?_)
  clear hK K
  refine nmA ?_
  refine bg (i:=7) (N:=some 26) #[Y,Y,Y,Y,Y,Y,Y,Y,Z,Z,Z] rfl rfl (az HT_.out (by kernel_rfl)) (by decide) (fun K hK=>?_)
  refine goC Try.func47 (bR.calls (w:=_) (h:=A8.out)) ?_
  intro w21 hb
  replace BK377:=kB BK377 hb
  replace BK378:=kB BK378 hb
  replace BK379:=kB BK379 hb
  replace HB:=lB hb
  (try clear hb)
  (try clear hb2)
  (try clear hk)
  (try clear hi)
  refine hK.out _ _ ⟨cA BK377 0,cA BK377 1,cA BK377 2,cA BK378 0,cA BK378 1,cA BK379 0,cA BK379 1⟩ (fun hHeld=>?_)
  clear hK K
  refine nmA ?_
  refine puA (i:=8) (N:=some 27) #[Y,Y,Y,Y,Y,Y,Y,Y,Y,Z,Z] rfl rfl HT_ ?_
  refine puA (i:=9) (N:=some 8) #[Y,Y,Y,Y,Y,Y,Y,Y,Y,Y,Z] rfl rfl HT_ ?_
  refine puA (i:=10) (N:=some 9) #[Y,Y,Y,Y,Y,Y,Y,Y,Y,Y,Y] rfl rfl HT_ ?_
  refine cL (bX HT_.out (by kernel_rfl)) ?_
  try go_wp2
  go_ret2
  exact bU blA
 ·
  rw [if_neg c6] at H
  have c6b0:(t380 == 0)=false:=beq_eq_false_iff_ne.mpr c6
  have c6b1:(t380 != 0)=true:=bne_iff_ne.mpr c6
  simp only [Option.some.injEq,Prod.mk.injEq] at H
  obtain ⟨rfl,rfl⟩:=H
  go_enter Try.func14,Try.ntmps14
  go_wp2_with (first|((with_reducible refine aH (N:=5) rfl ?_);refine bxE (cs:=#[.int .i64 a1_0,.int .i64 a1_1,.int .i64 a1_2]) (t:=25) ?_;intro gb377 hg w22 hbox hb;have BK377:=aA.mk hbox;have GW377:=sA hg;have GE377:=sA hg;replace HB:=lB hb;clear hb hbox hg)|((with_reducible refine aH (N:=6) rfl ?_);refine bxE (cs:=#[.int .i64 a2_0,.int .i64 a2_1]) (t:=28) ?_;intro gb378 hg w23 hbox hb;have LT377_378:=nL hg BK377;have BK378:=aA.mk hbox;have GW378:=sA hg;have GE378:=sA hg;replace BK377:=kB BK377 hb;replace HB:=lB hb;clear hb hbox hg)|((with_reducible refine aH (N:=7) rfl ?_);refine bxE (cs:=#[.int .i64 a3_0,.int .i64 a3_1]) (t:=28) ?_;intro gb379 hg w24 hbox hb;have LT377_379:=nL hg BK377;have LT378_379:=nL hg BK378;have BK379:=aA.mk hbox;have GW379:=sA hg;have GE379:=sA hg;replace BK377:=kB BK377 hb;replace BK378:=kB BK378 hb;replace HB:=lB hb;clear hb hbox hg;have hnb25:=LT377_378.out;have hnb26:=LT377_379.out;obtain ⟨hcz27_0,hcz27_1,hcz27_2,hfz27_0,hfz27_1,hfz27_2⟩:=cz3 BK377;have hnb28:=LT378_379.out;obtain ⟨hcz29_0,hcz29_1,hfz29_0,hfz29_1⟩:=cz2 BK378;obtain ⟨hcz30_0,hcz30_1,hfz30_0,hfz30_1⟩:=cz2 BK379)|((with_reducible refine gd 15 rfl ?_);refine gC (some 15) rfl Try.func46 (bY.calls (w:=_) (h:=A5.out)) ?_;intro w31 hb;replace BK377:=kB BK377 hb;replace BK378:=kB BK378 hb;replace BK379:=kB BK379 hb;replace HB:=lB hb;clear hb))
  go_ret2
  exact bU blA
def cx.f (k:Nat) (a0 a1_0 a1_1 a2_0 a2_1:Int):Option (Int × Int):=(bu.f k a0 a1_0 a1_1 a2_0 a2_1).bind fun t699=>(if t699=0 then ((bN.f k a0 a1_0 a1_1 a2_0 a2_1).bind fun t700=>(some (t700,0))) else (some (0,t699)))
set_option maxHeartbeats 8000000 in
set_option maxRecDepth 100000 in
theorem cx.calls (k:Nat) (a0 a1_0 a1_1 a2_0 a2_1 r1 r2:Int) (w:World) (h:cx.f k a0 a1_0 a1_1 a2_0 a2_1=some (r1,r2)) :
  Calls Try.prog 25 #[.int .i64 a0,.agg #[.int .i64 a1_0,.int .i64 a1_1],.agg #[.int .i64 a2_0,.int .i64 a2_1]] w fun e w'=>e=.returned (.tuple #[.int .i64 r1,.int .i64 r2])∧Below w.heap.size w w':=by
 have hu28:=Try.underlying28
 have HB:=aA.mk (Below.refl w.heap.size w)
 have H:=h
 unfold cx.f at H
 clear h
 replace H:=bS H
 obtain ⟨t699,A4,H⟩:=H
 try dsimp only at H
 by_cases c5:t699=0
 focus
  rw [if_pos c5] at H
  have c5b0:(t699 == 0)=true:=beq_iff_eq.mpr c5
  have c5b1:(t699 != 0)=false:=bne_eq_false_iff_eq.mpr c5
  clear c5
  replace H:=bS H
  obtain ⟨t700,A6,H⟩:=H
  try dsimp only at H
  simp only [Option.some.injEq,Prod.mk.injEq] at H
  obtain ⟨rfl,rfl⟩:=H
 rotate_left
 focus
  rw [if_neg c5] at H
  have c5b0:(t699 == 0)=false:=beq_eq_false_iff_ne.mpr c5
  have c5b1:(t699 != 0)=true:=bne_iff_ne.mpr c5
  simp only [Option.some.injEq,Prod.mk.injEq] at H
  obtain ⟨rfl,rfl⟩:=H
 rotate_left
 all_goals
  go_enter Try.func25,Try.ntmps25
  go_wp2_with (first|((with_reducible refine aH (N:=4) rfl ?_);refine bxE (cs:=#[.int .i64 a1_0,.int .i64 a1_1]) (t:=28) ?_;intro gb697 hg w7 hbox hb;have BK697:=aA.mk hbox;have GW697:=sA hg;have GE697:=sA hg;replace HB:=lB hb;clear hb hbox hg)|((with_reducible refine aH (N:=5) rfl ?_);refine bxE (cs:=#[.int .i64 a2_0,.int .i64 a2_1]) (t:=28) ?_;intro gb698 hg w8 hbox hb;have BK698:=aA.mk hbox;have GW698:=sA hg;have GE698:=sA hg;have NB697_698:=nA hg BK697;have NB698_697:=nB hg BK697;have LT697_698:=nL hg BK697;replace BK697:=kB BK697 hb;replace HB:=lB hb;clear hb hbox hg;have hnb9:=LT697_698.out;obtain ⟨hcz10_0,hcz10_1,hfz10_0,hfz10_1⟩:=cz2 BK697;obtain ⟨hcz11_0,hcz11_1,hfz11_0,hfz11_1⟩:=cz2 BK698)|((with_reducible refine gd 12 rfl ?_);refine gC (some 12) rfl Try.func65 (bu.calls (w:=_) (h:=A4.out)) ?_;intro w12 hb;replace BK697:=kB BK697 hb;replace BK698:=kB BK698 hb;replace HB:=lB hb;clear hb;obtain ⟨hcz13_0,hcz13_1,hfz13_0,hfz13_1⟩:=cz2 BK697;obtain ⟨hcz14_0,hcz14_1,hfz14_0,hfz14_1⟩:=cz2 BK698)|((with_reducible refine gd 19 rfl ?_);refine gC (some 19) rfl Try.func29 (bN.calls (w:=_) (h:=A6.out)) ?_;intro w15 hb;replace BK697:=kB BK697 hb;replace BK698:=kB BK698 hb;replace HB:=lB hb;clear hb))
 ·
  go_ret2
  exact bU blA
 ·
  go_ret2
  exact bU blA
end Go.Proofs.Ytpihnmmoahplgaa.PAll
