import Derived.Test.YtnhiehpbkimaeaaGreatQx
import Derived.Test.YtnhiehpbkimaeaaGreatQcmpisNaNint64
import Derived.Test.YtnhiehpbkimaeaaGreatQimplQuotientOf
import Derived.Test.YtnhiehpbkimaeaaGreatQimplofMark
import Derived.Test.YtnhiehpbkimaeaaGreatQspecQuotientOf
import Derived.Test.YtnhiehpbkimaeaaGreatQspecl01Code
import Derived.Test.YtnhiehpbkimaeaaGreatQspecl02Children
import Derived.Test.YtnhiehpbkimaeaaGreatQspecl02Valuation
namespace Go.Proofs.YtnhiehpbkimaeaaGreat.PAll
open Go.RowKit Go.Proofs.YtnhiehpbkimaeaaGreatW.PrintWords Go.Proofs.YtnhiehpbkimaeaaGreatW.PrintLast Go.Proofs.YtnhiehpbkimaeaaGreatW.PrintMore
attribute [local go_sem] Go.Proofs.YtnhiehpbkimaeaaGreat.Aux.setCell_drewN Go.Proofs.YtnhiehpbkimaeaaGreat.Aux.isSome_setCell cC b9 cQ cP bm bl cB b8
set_option linter.unusedVariables false
set_option linter.unusedSimpArgs false
mutual
def laws_FnExactQuotientOf.j0:Nat→Int→List (S58)→Int→List (List Int)→Int→List (S59)→List (List Int)→Int→Bool→Option (Bool)
 | 0,_,_,_,_,_,_,_,_,_=>none
 | k+1,x0,x1,x2,x8,x9,x10,x11,x12,x48=>if x48=true then (none) else ((ao.f k x1).bind fun t607=>((am.f k x10 t607).bind fun t610=>(if t610=true then ((bJ.f k x10 1).bind fun t611=>(if t611<0 then (laws_FnExactQuotientOf.j1 k x0 x1 x2 x8 x9 x11 true) else ((ap.f k x11 x8).bind fun t612=>(if t612=true then (laws_FnExactQuotientOf.j1 k x0 x1 x2 x8 x9 x11 (x12 != x9)) else (laws_FnExactQuotientOf.j1 k x0 x1 x2 x8 x9 x11 true))))) else (none))))
def laws_FnExactQuotientOf.j1:Nat→Int→List (S58)→Int→List (List Int)→Int→List (List Int)→Bool→Option (Bool)
 | 0,_,_,_,_,_,_,_=>none
 | k+1,x0,x1,x2,x8,x9,x11,x69=>if x69=true then (none) else ((bK.f k x11 1).bind fun bt613=>((bC.f k bt613.2 1).bind fun t614=>(if t614<0 then (none) else (if t614=bt613.1 then ((ao.f k x1).bind fun t615=>((aU.f k x0 t615 x2).bind fun bt618=>((ap.f k bt618.1 x8).bind fun t622=>(if t622=true then (laws_FnExactQuotientOf.j2 k bt613.2 bt613.1 (bt618.2 != x9)) else (laws_FnExactQuotientOf.j2 k bt613.2 bt613.1 true))))) else (none)))))
def laws_FnExactQuotientOf.j2:Nat→List (List Int)→Int→Bool→Option (Bool)
 | 0,_,_,_=>none
 | k+1,x11,x14,x97=>if x97=true then (none) else ((bC.f k x11 1).bind fun t623=>(if t623<0 then (none) else (if t623=x14 then (some true) else (none))))
end
def laws_FnExactQuotientOf.f (k:Nat) (a0:Int) (l1:List (S58)) (a2:Int):Option (Bool):=(bz.f l1 1048576).bind fun t591=>(if t591<0 then (some true) else ((ao.f k l1).bind fun t592=>((aC.f k a0 t592 a2).bind fun bt595=>((ao.f k l1).bind fun t599=>((aU.f k a0 t599 a2).bind fun bt602=>((ap.f k bt602.1 bt595.1).bind fun t606=>(if t606=true then (laws_FnExactQuotientOf.j0 k a0 l1 a2 bt595.1 bt595.2 t599 bt602.1 bt602.2 (bt602.2 != bt595.2)) else (laws_FnExactQuotientOf.j0 k a0 l1 a2 bt595.1 bt595.2 t599 bt602.1 bt602.2 true))))))))
set_option maxHeartbeats 8000000 in
set_option maxRecDepth 100000 in
theorem laws_FnExactQuotientOf.calls (k:Nat) (a0:Int) (A1:Option Addr) (c1:Nat) (l1:List (S58)) (a2:Int) (r:Bool) (w:World) (hr1:Kd.C k58 w A1 l1.length l1) (hc1:l1.length≤c1) (h:laws_FnExactQuotientOf.f k a0 l1 a2=some r) :
  Calls Tryz.prog 3 #[.int .i64 a0,.slice A1 l1.length c1,.int .i64 a2] w fun e w'=>e=.returned (.bool r)∧Below w.heap.size w w':=by
 have HR1:=aA.mk hr1
 have HC1:=aA.mk hc1
 clear hr1 hc1
 have HB:=aA.mk (Below.refl w.heap.size w)
 have H:=h
 unfold laws_FnExactQuotientOf.f at H
 clear h
 replace H:=bS H
 obtain ⟨t591,A4,H⟩:=H
 try dsimp only at H
 by_cases c5:t591<0
 ·
  rw [if_pos c5] at H
  have c5b0:=decide_eq_true c5
  clear c5
  obtain rfl:=Option.some.inj H
  go_enter Tryz.func3,Tryz.ntmps3
  go_wp2_with (first|((with_reducible refine gd 20 rfl ?_);refine gC (some 20) rfl Tryz.func5 (bz.calls (w:=_) (hr0:=cR HR1.out) (hc0:=HC1.out) (h:=A4.out)) ?_;rintro _ ⟨nd,rfl⟩))
  go_ret
  exact cE blA
 ·
  rw [if_neg c5] at H
  have c5b0:=decide_eq_false c5
  clear c5
  replace H:=bS H
  obtain ⟨t592,A6,H⟩:=H
  try dsimp only at H
  replace H:=bS H
  obtain ⟨⟨t595,t596⟩,A7,H⟩:=H
  try dsimp only at H
  replace H:=bS H
  obtain ⟨t599,A8,H⟩:=H
  try dsimp only at H
  replace H:=bS H
  obtain ⟨⟨t602,t603⟩,A9,H⟩:=H
  try dsimp only at H
  have HC10:=aA.mk H
  clear H
  go_enter Tryz.func3,Tryz.ntmps3
  go_upto_region 8 with (first|((with_reducible refine gd 20 rfl ?_);refine gC (some 20) rfl Tryz.func5 (bz.calls (w:=_) (hr0:=cR HR1.out) (hc0:=HC1.out) (h:=A4.out)) ?_;rintro _ ⟨nd,rfl⟩)|((with_reducible refine a6 (f:=7) rfl ?_);refine gL (some 26) rfl Tryz.func7 #[.slice A1 l1.length c1] ?_;(with_reducible refine (ao.calls k _ _ l1 t592 _ ?side1 ?side2 A6.out).mono ?_);(case side1=>exact cR HR1.out);(case side2=>exact HC1.out);rintro e w11 ⟨v593,rfl,ho0,hb⟩;refine ⟨_,rfl,?_⟩;have HO594:=aA.mk (Kd.R_lower ho0 (aQ blA));replace HB:=lB hb;clear ho0 hb;obtain ⟨Ao12,co12,eo12⟩:=Kd.R_slice HO594.out;subst eo12)|((with_reducible refine a6 (f:=6) rfl ?_);refine gL (some 28) rfl Tryz.func6 #[.int .i64 a0,.slice Ao12 t592.length co12,.int .i64 a2] ?_;(with_reducible refine (aC.calls k a0 _ _ t592 a2 t595 t596 _ ?side1 ?side2 A7.out).mono ?_);(case side1=>exact cR (Kd.R_reads' HO594.out).2.2);(case side2=>exact (Kd.R_reads' HO594.out).2.1);rintro e w13 ⟨v597,rfl,ho0,hb⟩;refine ⟨_,rfl,?_⟩;have HO598:=aA.mk (Kd.S_lower ho0 (aQ blA));replace HO594:=aA.mk (Kd.R_below (rA HO594) hb);replace HB:=lB hb;clear ho0 hb)|((with_reducible refine a6 (f:=7) rfl ?_);refine gL (some 32) rfl Tryz.func7 #[.slice A1 l1.length c1] ?_;(with_reducible refine (ao.calls k _ _ l1 t599 _ ?side1 ?side2 A8.out).mono ?_);(case side1=>exact cR (Kd.C_below HR1.out HB.out));(case side2=>exact HC1.out);rintro e w14 ⟨v600,rfl,ho0,hb⟩;refine ⟨_,rfl,?_⟩;have HO601:=aA.mk (Kd.R_lower (Kd.R_new' ho0 (Kd.R_lt (rA HO594))) (aQ blA));replace HO594:=aA.mk (Kd.R_elder' (rA HO594) (Kd.R_base ho0) hb);replace HO598:=aA.mk (Kd.S_below (by (with_reducible repeat (first|apply Kd.S_alloc|apply Kd.S_drewN|apply Kd.S_drew));exact HO598.out) hb);replace HB:=lB hb;clear ho0 hb;obtain ⟨Ao15,co15,eo15⟩:=Kd.R_slice HO601.out;subst eo15)|((with_reducible refine a6 (f:=8) rfl ?_);refine gL (some 37) rfl Tryz.func8 #[.int .i64 a0,.slice Ao15 t599.length co15,.int .i64 a2] ?_;(with_reducible refine (aU.calls k a0 _ _ t599 a2 t602 t603 _ ?side1 ?side2 A9.out).mono ?_);(case side1=>exact cR (Kd.R_reads' HO601.out).2.2);(case side2=>exact (Kd.R_reads' HO601.out).2.1);rintro e w16 ⟨v604,rfl,ho0,hb⟩;refine ⟨_,rfl,?_⟩;obtain ⟨B_,hs1_,hs2_⟩:∃ B_:Nat,Kd.S (Kd.slice 2 (Kd.int .i64)) 50 w16 w.heap.size (fun k_=>k_<B_) v597 t595∧Kd.S (Kd.slice 2 (Kd.int .i64)) 50 w16 w.heap.size (fun k_=>B_≤k_) v604 t602:=⟨_,Kd.S_mono (Kd.S_old (by (with_reducible repeat (first|apply Kd.S_alloc|apply Kd.S_drewN|apply Kd.S_drew));exact HO598.out) hb) (fun k_ hk=>hk.2),Kd.S_lower (Kd.S_mono (Kd.S_bound ho0) (fun k_ hk=>hk.2.1)) (aQ blA)⟩;have n0_:=aA.mk (Kd.R_below (rA HO594) hb);have n1_:=aA.mk hs1_;have n2_:=aA.mk (Kd.R_below (rA HO601) hb);have n3_:=aA.mk hs2_;clear hs1_ hs2_;have n4_:=lB hb;clear HO594;clear HO598;clear HO601;clear HB;have HO594:=n0_;have HO598:=n1_;have HO601:=n2_;have HO605:=n3_;have HB:=n4_;clear n0_ n1_ n2_ n3_ n4_;clear ho0 hb))
  (try simp only [Act.put,List.setIfInBounds_toArray,List.set_cons_zero,List.set_cons_succ])
  go_cut [48] (fun v48 wc=>∃ (kq:Nat) (x48_9:Bool),v48=.bool x48_9∧aA (laws_FnExactQuotientOf.j0 kq a0 l1 a2 t595 t596 t599 t602 t603 x48_9=some r)∧aA (kq≤k)∧aA (Kd.S (Kd.slice 2 (Kd.int .i64)) 50 wc w.heap.size (fun k_=>k_<B_) v597 t595)∧aA (Kd.R k59 59 wc w.heap.size (fun _=>True) (.slice Ao15 t599.length co15) t599)∧aA (Kd.S (Kd.slice 2 (Kd.int .i64)) 50 wc w.heap.size (fun k_=>B_≤k_) v604 t602)∧aA (Below w.heap.size w wc))
  case first=>
   have H:=HC10.out
   clear HC10
   replace H:=bS H
   obtain ⟨t606,A17,H⟩:=H
   try dsimp only at H
   by_cases c18:t606=true
   ·
    subst c18
    rw [if_pos rfl] at H
    try dsimp only at H
    have H':=aA.mk H
    clear H
    obtain ⟨Ao19,co19,eo19⟩:=Kd.S_slice HO605.out
    subst eo19
    obtain ⟨Ao20,co20,eo20⟩:=Kd.S_slice HO598.out
    subst eo20
    go_wp2_with (first|((with_reducible refine gd 42 rfl ?_);refine gC (some 42) rfl Tryz.func9 (ap.calls (w:=_) (hr0:=cR (Kd.S_reads' HO605.out).2.2) (hc0:=(Kd.S_reads' HO605.out).2.1) (hr1:=cR (Kd.S_reads' HO598.out).2.2) (hc1:=(Kd.S_reads' HO598.out).2.1) (h:=A17.out)) ?_;rintro _ ⟨nd,rfl⟩))
    go_meet
    case rel=>exact ⟨_,((t603 != t596)),hB,H',⟨by first|omega|exact Nat.le_refl _⟩,⟨by (with_reducible repeat (first|apply Kd.S_alloc|apply Kd.S_drewN|apply Kd.S_drew));exact HO598.out⟩,⟨by (with_reducible repeat (first|apply Kd.R_alloc|apply Kd.R_drewN|apply Kd.R_drew));exact Kd.R_mono HO601.out (fun _ hk=>trivial)⟩,⟨by (with_reducible repeat (first|apply Kd.S_alloc|apply Kd.S_drewN|apply Kd.S_drew));exact HO605.out⟩,⟨blA⟩⟩
   ·
    replace c18:=Bool.eq_false_iff.mpr c18
    subst c18
    rw [if_neg (show ¬ (false=true) by decide)] at H
    try dsimp only at H
    have H':=aA.mk H
    clear H
    obtain ⟨Ao21,co21,eo21⟩:=Kd.S_slice HO605.out
    subst eo21
    obtain ⟨Ao22,co22,eo22⟩:=Kd.S_slice HO598.out
    subst eo22
    go_wp2_with (first|((with_reducible refine gd 42 rfl ?_);refine gC (some 42) rfl Tryz.func9 (ap.calls (w:=_) (hr0:=cR (Kd.S_reads' HO605.out).2.2) (hc0:=(Kd.S_reads' HO605.out).2.1) (hr1:=cR (Kd.S_reads' HO598.out).2.2) (hc1:=(Kd.S_reads' HO598.out).2.1) (h:=A17.out)) ?_;rintro _ ⟨nd,rfl⟩))
    go_meet
    case rel=>exact ⟨_,(true),hB,H',⟨by first|omega|exact Nat.le_refl _⟩,⟨by (with_reducible repeat (first|apply Kd.S_alloc|apply Kd.S_drewN|apply Kd.S_drew));exact HO598.out⟩,⟨by (with_reducible repeat (first|apply Kd.R_alloc|apply Kd.R_drewN|apply Kd.R_drew));exact Kd.R_mono HO601.out (fun _ hk=>trivial)⟩,⟨by (with_reducible repeat (first|apply Kd.S_alloc|apply Kd.S_drewN|apply Kd.S_drew));exact HO605.out⟩,⟨blA⟩⟩
  case rest=>
   clear HC10
   try clear c1
   try clear c5
   try clear c5b0
   try clear c18
   obtain ⟨kq,x48_9,rfl,HA,HJ9,HO_8,HO_10,HO_11,HB⟩:=hcut
   cases kq with
   | zero=>exact absurd HA.out (by simp [laws_FnExactQuotientOf.j0])
   | succ kj9=>
    have H:=HA.out
    clear HA
    simp only [laws_FnExactQuotientOf.j0] at H
    by_cases c23:x48_9=true
    ·
     subst c23
     rw [if_pos rfl] at H
     try dsimp only at H
     exact absurd H (by simp)
    replace c23:=Bool.eq_false_iff.mpr c23
    subst c23
    rw [if_neg (show ¬ (false=true) by decide)] at H
    try dsimp only at H
    replace H:=bS H
    obtain ⟨t607,A24,H⟩:=H
    try dsimp only at H
    replace H:=bS H
    obtain ⟨t610,A25,H⟩:=H
    try dsimp only at H
    by_cases c26:t610=true
    rotate_left
    ·
     replace c26:=Bool.eq_false_iff.mpr c26
     subst c26
     rw [if_neg (show ¬ (false=true) by decide)] at H
     try dsimp only at H
     exact absurd H (by simp)
    subst c26
    rw [if_pos rfl] at H
    try dsimp only at H
    replace H:=bS H
    obtain ⟨t611,A27,H⟩:=H
    try dsimp only at H
    have HC28:=aA.mk H
    clear H
    go_upto_region 14 with (first|((with_reducible refine a6 (f:=7) rfl ?_);refine gL (some 51) rfl Tryz.func7 #[.slice A1 l1.length c1] ?_;(with_reducible refine (ao.calls kj9 _ _ l1 t607 _ ?side1 ?side2 A24.out).mono ?_);(case side1=>exact cR (Kd.C_below HR1.out HB.out));(case side2=>exact HC1.out);rintro e w29 ⟨v608,rfl,ho0,hb⟩;refine ⟨_,rfl,?_⟩;have HO609:=aA.mk (Kd.R_lower (Kd.R_new' ho0 (Kd.R_lt (rA HO_10))) (aQ blA));replace HO_8:=aA.mk (Kd.S_below (by (with_reducible repeat (first|apply Kd.S_alloc|apply Kd.S_drewN|apply Kd.S_drew));exact HO_8.out) hb);replace HO_10:=aA.mk (Kd.R_elder' (rA HO_10) (Kd.R_base ho0) hb);replace HO_11:=aA.mk (Kd.S_below (by (with_reducible repeat (first|apply Kd.S_alloc|apply Kd.S_drewN|apply Kd.S_drew));exact HO_11.out) hb);replace HB:=lB hb;clear ho0 hb;obtain ⟨Ao30,co30,eo30⟩:=Kd.R_slice HO609.out;subst eo30)|((with_reducible refine gd 52 rfl ?_);refine gC (some 52) rfl Tryz.func10 (am.calls (w:=_) (hr0:=cR (Kd.R_reads' HO_10.out).2.2) (hc0:=(Kd.R_reads' HO_10.out).2.1) (hr1:=cR (Kd.R_reads' HO609.out).2.2) (hc1:=(Kd.R_reads' HO609.out).2.1) (h:=A25.out)) ?_;intro w31 hb;replace HO_8:=aA.mk (Kd.S_below (by (with_reducible repeat (first|apply Kd.S_alloc|apply Kd.S_drewN|apply Kd.S_drew));exact HO_8.out) hb);replace HO_10:=aA.mk (Kd.R_below (rA HO_10) hb);replace HO_11:=aA.mk (Kd.S_below (by (with_reducible repeat (first|apply Kd.S_alloc|apply Kd.S_drewN|apply Kd.S_drew));exact HO_11.out) hb);replace HO609:=aA.mk (Kd.R_below (rA HO609) hb);replace HB:=lB hb;clear hb)|((with_reducible refine gd 56 rfl ?_);refine gC (some 56) rfl Tryz.func11 (bJ.calls (w:=_) (hr0:=cR (Kd.R_reads' HO_10.out).2.2) (hc0:=(Kd.R_reads' HO_10.out).2.1) (h:=A27.out)) ?_;rintro _ ⟨nd,rfl⟩))
    (try simp only [Act.put,List.setIfInBounds_toArray,List.set_cons_zero,List.set_cons_succ])
    go_cut [69] (fun v69 wc=>∃ (kq:Nat) (x69_27:Bool),v69=.bool x69_27∧aA (laws_FnExactQuotientOf.j1 kq a0 l1 a2 t595 t596 t602 x69_27=some r)∧aA (kq≤kj9)∧aA (Kd.S (Kd.slice 2 (Kd.int .i64)) 50 wc w.heap.size (fun k_=>k_<B_) v597 t595)∧aA (Kd.S (Kd.slice 2 (Kd.int .i64)) 50 wc w.heap.size (fun k_=>B_≤k_) v604 t602)∧aA (Below w.heap.size w wc))
    case first=>
     have H:=HC28.out
     clear HC28
     by_cases c32:t611<0
     ·
      rw [if_pos c32] at H
      have c32b0:=decide_eq_true c32
      clear c32
      (first|rw [c32b0]|(simp only [dh,di];rw [c32b0])|skip)
      have H':=aA.mk H
      clear H
      go_wp2
      go_meet
      case rel=>exact ⟨_,(true),hB,H',⟨by have:=HJ9.out;first|omega|exact Nat.le_refl _⟩,⟨by (with_reducible repeat (first|apply Kd.S_alloc|apply Kd.S_drewN|apply Kd.S_drew));exact HO_8.out⟩,⟨by (with_reducible repeat (first|apply Kd.S_alloc|apply Kd.S_drewN|apply Kd.S_drew));exact HO_11.out⟩,⟨blA⟩⟩
     ·
      rw [if_neg c32] at H
      have c32b0:=decide_eq_false c32
      clear c32
      (first|rw [c32b0]|(simp only [dh,di];rw [c32b0])|skip)
      replace H:=bS H
      obtain ⟨t612,A33,H⟩:=H
      try dsimp only at H
      by_cases c34:t612=true
      ·
       subst c34
       rw [if_pos rfl] at H
       try dsimp only at H
       have H':=aA.mk H
       clear H
       obtain ⟨Ao35,co35,eo35⟩:=Kd.S_slice HO_11.out
       subst eo35
       obtain ⟨Ao36,co36,eo36⟩:=Kd.S_slice HO_8.out
       subst eo36
       go_wp2_with (first|(go_at_call 9;(with_reducible refine (ap.calls kj9 _ _ t602 _ _ t595 true _ ?side1 ?side2 ?side3 ?side4 A33.out).mono ?_);(case side1=>exact cR (Kd.S_reads' HO_11.out).2.2);(case side2=>exact (Kd.S_reads' HO_11.out).2.1);(case side3=>exact cR (Kd.S_reads' HO_8.out).2.2);(case side4=>exact (Kd.S_reads' HO_8.out).2.1);rintro e w' ⟨rfl,⟨nd,rfl⟩⟩))
       go_meet
       case rel=>exact ⟨_,((t603 != t596)),hB,H',⟨by have:=HJ9.out;first|omega|exact Nat.le_refl _⟩,⟨by (with_reducible repeat (first|apply Kd.S_alloc|apply Kd.S_drewN|apply Kd.S_drew));exact HO_8.out⟩,⟨by (with_reducible repeat (first|apply Kd.S_alloc|apply Kd.S_drewN|apply Kd.S_drew));exact HO_11.out⟩,⟨blA⟩⟩
      ·
       replace c34:=Bool.eq_false_iff.mpr c34
       subst c34
       rw [if_neg (show ¬ (false=true) by decide)] at H
       try dsimp only at H
       have H':=aA.mk H
       clear H
       obtain ⟨Ao37,co37,eo37⟩:=Kd.S_slice HO_11.out
       subst eo37
       obtain ⟨Ao38,co38,eo38⟩:=Kd.S_slice HO_8.out
       subst eo38
       go_wp2_with (first|(go_at_call 9;(with_reducible refine (ap.calls kj9 _ _ t602 _ _ t595 false _ ?side1 ?side2 ?side3 ?side4 A33.out).mono ?_);(case side1=>exact cR (Kd.S_reads' HO_11.out).2.2);(case side2=>exact (Kd.S_reads' HO_11.out).2.1);(case side3=>exact cR (Kd.S_reads' HO_8.out).2.2);(case side4=>exact (Kd.S_reads' HO_8.out).2.1);rintro e w' ⟨rfl,⟨nd,rfl⟩⟩))
       go_meet
       case rel=>exact ⟨_,(true),hB,H',⟨by have:=HJ9.out;first|omega|exact Nat.le_refl _⟩,⟨by (with_reducible repeat (first|apply Kd.S_alloc|apply Kd.S_drewN|apply Kd.S_drew));exact HO_8.out⟩,⟨by (with_reducible repeat (first|apply Kd.S_alloc|apply Kd.S_drewN|apply Kd.S_drew));exact HO_11.out⟩,⟨blA⟩⟩
    case rest=>
     clear HC28
     try clear c1
     try clear c5
     try clear c5b0
     try clear c18
     try clear c23
     try clear c26
     try clear c32
     try clear c32b0
     try clear c34
     obtain ⟨kq,x69_27,rfl,HA,HJ27,HO_8,HO_11,HB⟩:=hcut
     cases kq with
     | zero=>exact absurd HA.out (by simp [laws_FnExactQuotientOf.j1])
     | succ kj27=>
      have H:=HA.out
      clear HA
      simp only [laws_FnExactQuotientOf.j1] at H
      by_cases c39:x69_27=true
      ·
       subst c39
       rw [if_pos rfl] at H
       try dsimp only at H
       exact absurd H (by simp)
      replace c39:=Bool.eq_false_iff.mpr c39
      subst c39
      rw [if_neg (show ¬ (false=true) by decide)] at H
      try dsimp only at H
      replace H:=bS H
      obtain ⟨⟨t613,y613⟩,A40,H⟩:=H
      try dsimp only at H
      replace H:=bS H
      obtain ⟨t614,A41,H⟩:=H
      try dsimp only at H
      by_cases c42:t614<0
      ·
       rw [if_pos c42] at H
       exact absurd H (by simp)
      rw [if_neg c42] at H
      have c42b0:=decide_eq_false c42
      clear c42
      by_cases c43:t614=t613
      rotate_left
      ·
       rw [if_neg c43] at H
       exact absurd H (by simp)
      rw [if_pos c43] at H
      have c43b0:(t614 == t613)=true:=beq_iff_eq.mpr c43
      have c43b1:(t614 != t613)=false:=bne_eq_false_iff_eq.mpr c43
      clear c43
      replace H:=bS H
      obtain ⟨t615,A44,H⟩:=H
      try dsimp only at H
      replace H:=bS H
      obtain ⟨⟨t618,t619⟩,A45,H⟩:=H
      try dsimp only at H
      have HC46:=aA.mk H
      clear H
      obtain ⟨Ao47,co47,eo47⟩:=Kd.S_slice HO_11.out
      subst eo47
      go_upto_region 25 with (first|((with_reducible refine a6 (f:=12) rfl ?_);refine gL (some 72) rfl Tryz.func12 #[.slice Ao47 t602.length co47,.int .i64 1] ?_;(refine (bK.calls kj27 (fun k_=>B_≤k_) _ t602 1 t613 y613 w _ blA (by (with_reducible repeat (first|apply Kd.S_alloc|apply Kd.S_drewN|apply Kd.S_drew));exact HO_11.out) A40.out).mono ?_);rintro e w9 ⟨rfl,hs9,hb9,hk9⟩;refine ⟨_,rfl,?_⟩;have hl9:=(Kd.S_reads' hs9).1;rw [hl9] at hs9;simp only [hl9];replace HO_8:=aA.mk (Kd.S_kept (by (with_reducible repeat (first|apply Kd.S_alloc|apply Kd.S_drewN|apply Kd.S_drew));exact HO_8.out) hk9 (fun k_ h1_ h2_=>absurd h2_ (Nat.not_le_of_lt h1_)));replace HO_11:=aA.mk hs9;replace HB:=aA.mk hb9;clear hs9 hb9 hk9 hl9)|((with_reducible refine gd 75 rfl ?_);refine gC (some 75) rfl Tryz.func13 (bC.calls (w:=_) (hr0:=cR (Kd.S_reads' HO_11.out).2.2) (hc0:=(Kd.S_reads' HO_11.out).2.1) (h:=A41.out)) ?_;rintro _ ⟨nd,rfl⟩)|((with_reducible refine a6 (f:=7) rfl ?_);refine gL (some 84) rfl Tryz.func7 #[.slice A1 l1.length c1] ?_;(with_reducible refine (ao.calls kj27 _ _ l1 t615 _ ?side1 ?side2 A44.out).mono ?_);(case side1=>exact cR (Kd.C_below HR1.out blA));(case side2=>exact HC1.out);rintro e w48 ⟨v616,rfl,ho0,hb⟩;refine ⟨_,rfl,?_⟩;have HO617:=aA.mk (Kd.R_lower ho0 (aQ blA));replace HO_8:=aA.mk (Kd.S_below (by (with_reducible repeat (first|apply Kd.S_alloc|apply Kd.S_drewN|apply Kd.S_drew));exact HO_8.out) hb);replace HO_11:=aA.mk (Kd.S_below (by (with_reducible repeat (first|apply Kd.S_alloc|apply Kd.S_drewN|apply Kd.S_drew));exact HO_11.out) hb);replace HB:=lB hb;clear ho0 hb;obtain ⟨Ao49,co49,eo49⟩:=Kd.R_slice HO617.out;subst eo49)|((with_reducible refine a6 (f:=8) rfl ?_);refine gL (some 86) rfl Tryz.func8 #[.int .i64 a0,.slice Ao49 t615.length co49,.int .i64 a2] ?_;(with_reducible refine (aU.calls kj27 a0 _ _ t615 a2 t618 t619 _ ?side1 ?side2 A45.out).mono ?_);(case side1=>exact cR (Kd.R_reads' HO617.out).2.2);(case side2=>exact (Kd.R_reads' HO617.out).2.1);rintro e w50 ⟨v620,rfl,ho0,hb⟩;refine ⟨_,rfl,?_⟩;have HO621:=aA.mk (Kd.S_lower (Kd.S_new' (Kd.S_new' ho0 (Kd.S_lt (by (with_reducible repeat (first|apply Kd.S_alloc|apply Kd.S_drewN|apply Kd.S_drew));exact HO_8.out))) (Kd.S_lt (by (with_reducible repeat (first|apply Kd.S_alloc|apply Kd.S_drewN|apply Kd.S_drew));exact HO_11.out))) (aQ blA));replace HO_8:=aA.mk (Kd.S_elder' (by (with_reducible repeat (first|apply Kd.S_alloc|apply Kd.S_drewN|apply Kd.S_drew));exact HO_8.out) (Kd.S_base ho0) hb);replace HO_11:=aA.mk (Kd.S_elder' (by (with_reducible repeat (first|apply Kd.S_alloc|apply Kd.S_drewN|apply Kd.S_drew));exact HO_11.out) (Kd.S_base ho0) hb);replace HO617:=aA.mk (Kd.R_below (rA HO617) hb);replace HB:=lB hb;clear ho0 hb))
      (try simp only [Act.put,List.setIfInBounds_toArray,List.set_cons_zero,List.set_cons_succ])
      go_cut [97] (fun v97 wc=>∃ (kq:Nat) (x97_45:Bool),v97=.bool x97_45∧aA (laws_FnExactQuotientOf.j2 kq y613 t613 x97_45=some r)∧aA (kq≤kj27)∧aA (Kd.S (Kd.slice 2 (Kd.int .i64)) 50 wc w.heap.size (fun _=>True) (.slice Ao47 y613.length co47) y613)∧aA (Below w.heap.size w wc))
      case first=>
       have H:=HC46.out
       clear HC46
       replace H:=bS H
       obtain ⟨t622,A51,H⟩:=H
       try dsimp only at H
       by_cases c52:t622=true
       ·
        subst c52
        rw [if_pos rfl] at H
        try dsimp only at H
        have H':=aA.mk H
        clear H
        obtain ⟨Ao53,co53,eo53⟩:=Kd.S_slice HO621.out
        subst eo53
        obtain ⟨Ao54,co54,eo54⟩:=Kd.S_slice HO_8.out
        subst eo54
        go_wp2_with (first|((with_reducible refine gd 91 rfl ?_);refine gC (some 91) rfl Tryz.func9 (ap.calls (w:=_) (hr0:=cR (Kd.S_reads' HO621.out).2.2) (hc0:=(Kd.S_reads' HO621.out).2.1) (hr1:=cR (Kd.S_reads' HO_8.out).2.2) (hc1:=(Kd.S_reads' HO_8.out).2.1) (h:=A51.out)) ?_;rintro _ ⟨nd,rfl⟩))
        go_meet
        case rel=>exact ⟨_,((t619 != t596)),hB,H',⟨by have:=HJ9.out;have:=HJ27.out;first|omega|exact Nat.le_refl _⟩,⟨by (with_reducible repeat (first|apply Kd.S_alloc|apply Kd.S_drewN|apply Kd.S_drew));exact Kd.S_mono HO_11.out (fun _ hk=>trivial)⟩,⟨blA⟩⟩
       ·
        replace c52:=Bool.eq_false_iff.mpr c52
        subst c52
        rw [if_neg (show ¬ (false=true) by decide)] at H
        try dsimp only at H
        have H':=aA.mk H
        clear H
        obtain ⟨Ao55,co55,eo55⟩:=Kd.S_slice HO621.out
        subst eo55
        obtain ⟨Ao56,co56,eo56⟩:=Kd.S_slice HO_8.out
        subst eo56
        go_wp2_with (first|((with_reducible refine gd 91 rfl ?_);refine gC (some 91) rfl Tryz.func9 (ap.calls (w:=_) (hr0:=cR (Kd.S_reads' HO621.out).2.2) (hc0:=(Kd.S_reads' HO621.out).2.1) (hr1:=cR (Kd.S_reads' HO_8.out).2.2) (hc1:=(Kd.S_reads' HO_8.out).2.1) (h:=A51.out)) ?_;rintro _ ⟨nd,rfl⟩))
        go_meet
        case rel=>exact ⟨_,(true),hB,H',⟨by have:=HJ9.out;have:=HJ27.out;first|omega|exact Nat.le_refl _⟩,⟨by (with_reducible repeat (first|apply Kd.S_alloc|apply Kd.S_drewN|apply Kd.S_drew));exact Kd.S_mono HO_11.out (fun _ hk=>trivial)⟩,⟨blA⟩⟩
      case rest=>
       clear HC46
       try clear c1
       try clear c5
       try clear c5b0
       try clear c18
       try clear c23
       try clear c26
       try clear c32
       try clear c32b0
       try clear c34
       try clear c39
       try clear c42
       try clear c42b0
       try clear c43
       try clear c43b0
       try clear c43b1
       try clear c52
       obtain ⟨kq,x97_45,rfl,HA,HJ45,HO_11,HB⟩:=hcut
       cases kq with
       | zero=>exact absurd HA.out (by simp [laws_FnExactQuotientOf.j2])
       | succ kj45=>
        have H:=HA.out
        clear HA
        simp only [laws_FnExactQuotientOf.j2] at H
        by_cases c57:x97_45=true
        ·
         subst c57
         rw [if_pos rfl] at H
         try dsimp only at H
         exact absurd H (by simp)
        replace c57:=Bool.eq_false_iff.mpr c57
        subst c57
        rw [if_neg (show ¬ (false=true) by decide)] at H
        try dsimp only at H
        replace H:=bS H
        obtain ⟨t623,A58,H⟩:=H
        try dsimp only at H
        by_cases c59:t623<0
        ·
         rw [if_pos c59] at H
         exact absurd H (by simp)
        rw [if_neg c59] at H
        have c59b0:=decide_eq_false c59
        clear c59
        by_cases c60:t623=t613
        rotate_left
        ·
         rw [if_neg c60] at H
         exact absurd H (by simp)
        rw [if_pos c60] at H
        have c60b0:(t623 == t613)=true:=beq_iff_eq.mpr c60
        have c60b1:(t623 != t613)=false:=bne_eq_false_iff_eq.mpr c60
        clear c60
        obtain rfl:=Option.some.inj H
        go_wp2_with (first|((with_reducible refine gd 100 rfl ?_);refine gC (some 100) rfl Tryz.func13 (bC.calls (w:=_) (hr0:=cR (Kd.S_reads' HO_11.out).2.2) (hc0:=(Kd.S_reads' HO_11.out).2.1) (h:=A58.out)) ?_;rintro _ ⟨nd,rfl⟩))
        go_ret
        exact cE blA
end Go.Proofs.YtnhiehpbkimaeaaGreat.PAll
