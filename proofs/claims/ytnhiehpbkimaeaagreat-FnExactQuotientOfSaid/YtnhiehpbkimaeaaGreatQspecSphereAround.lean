import Derived.Test.YtnhiehpbkimaeaaGreatQx
import Derived.Test.YtnhiehpbkimaeaaGreatQcmpisNaNint64
import Derived.Test.YtnhiehpbkimaeaaGreatQimplregionCode
import Derived.Test.YtnhiehpbkimaeaaGreatQspecl01Code
import Derived.Test.YtnhiehpbkimaeaaGreatQspecl02Children
namespace Go.Proofs.YtnhiehpbkimaeaaGreat.PAll
open Go.RowKit Go.Proofs.YtnhiehpbkimaeaaGreatW.PrintWords Go.Proofs.YtnhiehpbkimaeaaGreatW.PrintLast Go.Proofs.YtnhiehpbkimaeaaGreatW.PrintMore
attribute [local go_sem] Go.Proofs.YtnhiehpbkimaeaaGreat.Aux.setCell_drewN Go.Proofs.YtnhiehpbkimaeaaGreat.Aux.isSome_setCell cC b9 cQ cP bm bl cB b8
set_option linter.unusedVariables false
set_option linter.unusedSimpArgs false
mutual
def aH.j0:Nat→Int→Int→Int→Bool→Int→Int→Int→Option ((List (S43)) × Int)
 | 0,_,_,_,_,_,_,_=>none
 | k+1,x0,x2,x8,x26,x193000,x193001,x193002=>if x26=true then (aH.j1 k x0 x2 2 x193000 x193001 x193002) else (aH.j1 k x0 x2 x8 x193000 x193001 x193002)
def aH.j1:Nat→Int→Int→Int→Int→Int→Int→Option ((List (S43)) × Int)
 | 0,_,_,_,_,_,_=>none
 | k+1,x0,x2,x8,x193000,x193001,x193002=>if x8=0 then (aH.l0 k x0 x2 (([(⟨x193000,x193001,x193002⟩:S43)]:List (S43))) 1 x193000 x193001 x193002) else (some (([]:List (S43)),x8))
def aH.l0:Nat→Int→Int→List (S43)→Int→Int→Int→Int→Option ((List (S43)) × Int)
 | 0,_,_,_,_,_,_,_=>none
 | k+1,x0,x2,x9,x10,x193000,x193001,x193002=>if x10≤x2 then (aH.l1 k x0 x2 x9 x10 (([]:List (S43))) 0 x193000 x193001 x193002) else (some (x9,0))
def aH.l1:Nat→Int→Int→List (S43)→Int→List (S43)→Int→Int→Int→Int→Option ((List (S43)) × Int)
 | 0,_,_,_,_,_,_,_,_,_=>none
 | k+1,x0,x2,x9,x10,x11,x12,x193000,x193001,x193002=>if x12<(x9.length:Int) then (if 0≤x12 then ((cL.f k x0 ((aD x9 x12).f0) ((aD x9 x12).f1) ((aD x9 x12).f2)).bind fun bt205=>(if bt205.2=true then (aH.l2 k x0 x2 x9 x10 x11 x12 bt205.1 0 x193000 x193001 x193002) else (some (([]:List (S43)),3)))) else (none)) else (aH.l0 k x0 x2 x11 (wrap64 (x10+1)) x193000 x193001 x193002)
def aH.l2:Nat→Int→Int→List (S43)→Int→List (S43)→Int→List (S43)→Int→Int→Int→Int→Option ((List (S43)) × Int)
 | 0,_,_,_,_,_,_,_,_,_,_,_=>none
 | k+1,x0,x2,x9,x10,x11,x12,x13,x15,x193000,x193001,x193002=>if x15<(x13.length:Int) then (if 0≤x15 then ((an.f k x0 x193000 x193001 x193002 ((aD x13 x15).f0) ((aD x13 x15).f1) ((aD x13 x15).f2)).bind fun t210=>(if t210=x10 then (if x11.length<5864062014805 then (aH.l2 k x0 x2 x9 x10 (x11 ++ [(⟨(aD x13 x15).f0,(aD x13 x15).f1,(aD x13 x15).f2⟩:S43)]) x12 x13 (wrap64 (x15+1)) x193000 x193001 x193002) else (none)) else (aH.l2 k x0 x2 x9 x10 x11 x12 x13 (wrap64 (x15+1)) x193000 x193001 x193002))) else (none)) else (aH.l1 k x0 x2 x9 x10 x11 (wrap64 (x12+1)) x193000 x193001 x193002)
end
def aH.f (k:Nat) (a0 a1_0 a1_1 a1_2 a2:Int):Option ((List (S43)) × Int):=(bR.f k a0 (([(⟨a1_0,a1_1,a1_2⟩:S43)]:List (S43)))).bind fun t196=>(if t196=0 then ((av.f a2 0 4).bind fun t197=>(aH.j0 k a0 a2 t196 (!t197) a1_0 a1_1 a1_2)) else (aH.j0 k a0 a2 t196 false a1_0 a1_1 a1_2))
def aH.T20:Bool × List (List Nat × List Nat):=(true,[([],[]),([],[]),([],[]),([],[]),([2,3],[2,3]),([4],[4]),([0,1,5],[0,1,5]),([],[]),([6,7],[6,7])])
def aH.B20:List Nat:=[0,0,0,0,12,28,63,0,255]
theorem aH.tab20:cZ .any (dL Tryz.f67 20)=aH.T20:=by kernel_rfl
theorem aH.bits20:bq aH.T20.2 aH.B20=true:=by kernel_rfl
set_option maxHeartbeats 8000000 in
set_option maxRecDepth 100000 in
theorem aH.calls (k:Nat) (a0 a1_0 a1_1 a1_2 a2:Int) (r1:List (S43)) (r2:Int) (w:World) (h:aH.f k a0 a1_0 a1_1 a1_2 a2=some (r1,r2)) :
  Calls Tryz.prog 67 #[.int .i64 a0,.agg #[.int .i64 a1_0,.int .i64 a1_1,.int .i64 a1_2],.int .i64 a2] w fun e w'=>∃ v0_:Value,e=.returned (.tuple #[v0_,.int .i64 r2])∧Kd.R k43 43 w' w.heap.size (fun _=>True) v0_ r1∧Below w.heap.size w w':=by
 have hu43:=Tryz.underlying43
 have HB:=aA.mk (Below.refl w.heap.size w)
 have H:=h
 unfold aH.f at H
 clear h
 obtain ⟨y193,hy193⟩:∃ y_:List (S43),y_=(([(⟨a1_0,a1_1,a1_2⟩:S43)]:List (S43))):=⟨_,rfl⟩
 replace H:((bR.f k a0 y193).bind fun t196=>(if t196=0 then ((av.f a2 0 4).bind fun t197=>(aH.j0 k a0 a2 t196 (!t197) a1_0 a1_1 a1_2)) else (aH.j0 k a0 a2 t196 false a1_0 a1_1 a1_2)))=some (r1,r2):=rH hy193 H
 have Ny193:=aA.mk hy193
 clear hy193
 replace H:=bS H
 obtain ⟨t196,A4,H⟩:=H
 try dsimp only at H
 have HC5:=aA.mk H
 clear H
 go_enter Tryz.func67,Tryz.ntmps67
 go_upto_region 2 with (first|((with_reducible refine aN (N:=4) rfl ?_);refine bxE (cs:=#[.int .i64 a1_0,.int .i64 a1_1,.int .i64 a1_2]) (t:=43) ?_;intro gb192 hg w6 hbox hb;have n0_:=lB hb;have n1_:=aA.mk hbox;have n2_:=sA hg;have n3_:=sA hg;clear HB;have HB:=n0_;have BK192:=n1_;have GW192:=n2_;have GE192:=n3_;clear n0_ n1_ n2_ n3_;clear hb hbox hg;obtain ⟨hcz7_0,hcz7_1,hcz7_2,hfz7_0,hfz7_1,hfz7_2⟩:=cz3 BK192)|((with_reducible refine aN (N:=18) rfl ?_);refine Kd.R_lit k43 _ 43 ?hg (N:=18) ?hd (xs:=([(⟨a1_0,a1_1,a1_2⟩:S43)]:List (S43))) (inner:=[.int .i64 a1_0,.int .i64 a1_1,.int .i64 a1_2]) (ok:=fun _=>True) (okp:=fun _=>True) ?hr ?hp (fun _ hk=>hk) trivial (Below.refl _ _) (Nat.le_refl _) (by simp) ?_;(case hd=>rfl);(case hg=>rfl);(case hr=>first|(go_simp;done)|(go_simp;rfl));(case hp=>exact (bD.c3 (show Kd.M k43 _ _ _ (⟨a1_0,a1_1,a1_2⟩:S43) [.int .i64 a1_0,.int .i64 a1_1,.int .i64 a1_2] from (de _ _ _ (⟨a1_0,a1_1,a1_2⟩:S43) )) (bD.none _ _)));intro v194 w8 ho9 hb hg_ hnew_;clear hg_ hnew_;(first|rw [← Ny193.out] at ho9|(simp only [Int.reduceToNat] at ho9;rw [← Ny193.out] at ho9));have n0_:=aA.mk (Kd.R_lower (Kd.R_newB ho9 (bkA BK192)) (aQ blA));have n1_:=kB BK192 hb;have n2_:=lB hb;clear BK192;clear HB;have HO195:=n0_;have BK192:=n1_;have HB:=n2_;clear n0_ n1_ n2_;clear hb ho9;obtain ⟨Ao10,co10,eo10⟩:=Kd.R_slice HO195.out;subst eo10)|((with_reducible refine gd 19 rfl ?_);refine gC (some 19) rfl Tryz.func61 (bR.calls (w:=_) (hr1:=cR (Kd.R_reads' HO195.out).2.2) (hc1:=(Kd.R_reads' HO195.out).2.1) (h:=A4.out)) ?_;intro w11 hb;have n0_:=aA.mk (Kd.R_below (rA HO195) hb);have n1_:=kB BK192 hb;have n2_:=lB hb;clear HO195;clear BK192;clear HB;have HO195:=n0_;have BK192:=n1_;have HB:=n2_;clear n0_ n1_ n2_;clear hb))
 (try simp only [Act.put,List.setIfInBounds_toArray,List.set_cons_zero,List.set_cons_succ])
 go_cut [26] (fun v26 wc=>∃ (kq:Nat) (x26_4:Bool),v26=.bool x26_4∧aA (aH.j0 kq a0 a2 t196 x26_4 a1_0 a1_1 a1_2=some (r1,r2))∧aA (kq≤k)∧aA (wc.heap[gb192]?=some (.cells #[.int .i64 a1_0,.int .i64 a1_1,.int .i64 a1_2] 43 (0,0)))∧aA (Below w.heap.size w wc))
 case first=>
  have H:=HC5.out
  clear HC5
  by_cases c12:t196=0
  ·
   rw [if_pos c12] at H
   have c12b0:(t196 == 0)=true:=beq_iff_eq.mpr c12
   have c12b1:(t196 != 0)=false:=bne_eq_false_iff_eq.mpr c12
   clear c12
   (first|rw [c12b0]|(simp only [dh,di];rw [c12b0])|skip)
   replace H:=bS H
   obtain ⟨t197,A13,H⟩:=H
   try dsimp only at H
   have H':=aA.mk H
   clear H
   go_wp2_with (first|(go_at_call 52;(with_reducible refine (av.calls a2 0 4 t197 _ A13.out).mono ?_);rintro e w' ⟨rfl,⟨nd,rfl⟩⟩))
   go_meet
   case rel=>exact ⟨_,(!t197),hB,H',⟨by first|omega|exact Nat.le_refl _⟩,⟨bkA BK192⟩,⟨blA⟩⟩
  ·
   rw [if_neg c12] at H
   have c12b0:(t196 == 0)=false:=beq_eq_false_iff_ne.mpr c12
   have c12b1:(t196 != 0)=true:=bne_iff_ne.mpr c12
   (first|rw [c12b0]|(simp only [dh,di];rw [c12b0])|skip)
   have H':=aA.mk H
   clear H
   go_wp2
   go_meet
   case rel=>exact ⟨_,(false),hB,H',⟨by first|omega|exact Nat.le_refl _⟩,⟨bkA BK192⟩,⟨blA⟩⟩
 case rest=>
  clear HC5
  try clear c3
  try clear c12
  try clear c12b0
  try clear c12b1
  try clear hcz7_0
  try clear hcz7_1
  try clear hcz7_2
  try clear hfz7_0
  try clear hfz7_1
  try clear hfz7_2
  obtain ⟨kq,x26_4,rfl,HA,HJ4,BK192,HB⟩:=hcut
  cases kq with
  | zero=>exact absurd HA.out (by simp [aH.j0])
  | succ kj4=>
   have H:=HA.out
   clear HA
   simp only [aH.j0] at H
   have HC14:=aA.mk H
   clear H
   go_upto_if 26 with (fail)
   go_cut [8] (fun v8 wc=>∃ (kq:Nat) (x8_13:Int),v8=.int .i64 x8_13∧aA (aH.j1 kq a0 a2 x8_13 a1_0 a1_1 a1_2=some (r1,r2))∧aA (kq≤kj4)∧aA (wc.heap[gb192]?=some (.cells #[.int .i64 a1_0,.int .i64 a1_1,.int .i64 a1_2] 43 (0,0)))∧aA (Below w.heap.size w wc))
   case first=>
    have H:=HC14.out
    clear HC14
    by_cases c15:x26_4=true
    ·
     subst c15
     rw [if_pos rfl] at H
     try dsimp only at H
     have H':=aA.mk H
     clear H
     go_wp2
     go_meet
     case rel=>exact ⟨_,(2),hB,H',⟨by have:=HJ4.out;first|omega|exact Nat.le_refl _⟩,⟨bkA BK192⟩,⟨blA⟩⟩
    ·
     replace c15:=Bool.eq_false_iff.mpr c15
     subst c15
     rw [if_neg (show ¬ (false=true) by decide)] at H
     try dsimp only at H
     have H':=aA.mk H
     clear H
     go_wp2
     go_meet
     case rel=>exact ⟨_,(t196),hB,H',⟨by have:=HJ4.out;first|omega|exact Nat.le_refl _⟩,⟨bkA BK192⟩,⟨blA⟩⟩
   case rest=>
    clear HC14
    try clear c3
    try clear c12
    try clear c12b0
    try clear c12b1
    try clear c15
    try clear hcz7_0
    try clear hcz7_1
    try clear hcz7_2
    try clear hfz7_0
    try clear hfz7_1
    try clear hfz7_2
    obtain ⟨kq,x8_13,rfl,HA,HJ13,BK192,HB⟩:=hcut
    cases kq with
    | zero=>exact absurd HA.out (by simp [aH.j1])
    | succ kj13=>
     have H:=HA.out
     clear HA
     simp only [aH.j1] at H
     by_cases c16:x8_13=0
     ·
      rw [if_pos c16] at H
      have c16b0:(x8_13 == 0)=true:=beq_iff_eq.mpr c16
      have c16b1:(x8_13 != 0)=false:=bne_eq_false_iff_eq.mpr c16
      clear c16
      obtain ⟨y198,hy198⟩:∃ y_:List (S43),y_=(([(⟨a1_0,a1_1,a1_2⟩:S43)]:List (S43))):=⟨_,rfl⟩
      replace H:(aH.l0 kj13 a0 a2 y198 1 a1_0 a1_1 a1_2)=some (r1,r2):=rH hy198 H
      have Ny198:=aA.mk hy198
      clear hy198
      have H':=aA.mk H
      clear H
      obtain ⟨hcz17_0,hcz17_1,hcz17_2,hfz17_0,hfz17_1,hfz17_2⟩:=cz3 BK192
      go_wp2_with (first|((with_reducible refine aN (N:=31) rfl ?_);refine Kd.R_lit k43 _ 43 ?hg (N:=31) ?hd (xs:=([(⟨a1_0,a1_1,a1_2⟩:S43)]:List (S43))) (inner:=[.int .i64 a1_0,.int .i64 a1_1,.int .i64 a1_2]) (ok:=fun _=>True) (okp:=fun _=>True) ?hr ?hp (fun _ hk=>hk) trivial (Below.refl _ _) (Nat.le_refl _) (by simp) ?_;(case hd=>rfl);(case hg=>rfl);(case hr=>first|(go_simp;done)|(go_simp;rfl));(case hp=>exact (bD.c3 (show Kd.M k43 _ _ _ (⟨a1_0,a1_1,a1_2⟩:S43) [.int .i64 a1_0,.int .i64 a1_1,.int .i64 a1_2] from (de _ _ _ (⟨a1_0,a1_1,a1_2⟩:S43) )) (bD.none _ _)));intro v199 w18 ho19 hb hg_ hnew_;clear hg_ hnew_;(first|rw [← Ny198.out] at ho19|(simp only [Int.reduceToNat] at ho19;rw [← Ny198.out] at ho19));have n0_:=aA.mk (Kd.R_lower (Kd.R_newB ho19 (bkA BK192)) (aQ blA));have n1_:=kB BK192 hb;have n2_:=lB hb;clear BK192;clear HB;have HO200:=n0_;have BK192:=n1_;have HB:=n2_;clear n0_ n1_ n2_;clear hb ho19))
      go_loopg [9,10] kj13 (fun kq v9 v10 w'=>∃ (x9_3:List (S43)) (x10_3:Int),v10=.int .i64 x10_3∧aA (aH.l0 kq a0 a2 x9_3 x10_3 a1_0 a1_1 a1_2=some (r1,r2))∧aA (kq≤kj13)∧aA (Kd.R k43 43 w' w.heap.size (fun k_=>k_≠gb192) v9 x9_3)∧aA (w'.heap[gb192]?=some (.cells #[.int .i64 a1_0,.int .i64 a1_1,.int .i64 a1_2] 43 (0,0)))∧aA (Below w.heap.size w w'))
      case atStart=>exact ⟨(y198),(1),hB,H',⟨Nat.le_refl _⟩,⟨by (with_reducible repeat (first|apply Kd.R_alloc|apply Kd.R_drewN|apply Kd.R_drew));exact Kd.R_mono HO200.out (fun _ hk=>hk.2)⟩,⟨bkA BK192⟩,⟨blA⟩⟩
      case round=>
       clear H'
       try clear c3
       try clear c12
       try clear c12b0
       try clear c12b1
       try clear c15
       try clear c16
       try clear c16b0
       try clear c16b1
       try clear hcz17_0
       try clear hcz17_1
       try clear hcz17_2
       try clear hcz7_0
       try clear hcz7_1
       try clear hcz7_2
       try clear hfz17_0
       try clear hfz17_1
       try clear hfz17_2
       try clear hfz7_0
       try clear hfz7_1
       try clear hfz7_2
       obtain ⟨x9_3,x10_3,rfl,HA,HK3,HO_9,BK192,HB⟩:=hrel
       cases gk with
       | zero=>exact absurd HA.out (by simp [aH.l0])
       | succ k3=>
        have H:=HA.out
        clear HA
        simp only [aH.l0] at H
        by_cases c20:x10_3≤a2
        ·
         rw [if_pos c20] at H
         have c20b0:=decide_eq_true c20
         clear c20
         obtain ⟨y201,hy201⟩:∃ y_:List (S43),y_=(([]:List (S43))):=⟨_,rfl⟩
         replace H:(aH.l1 k3 a0 a2 x9_3 x10_3 y201 0 a1_0 a1_1 a1_2)=some (r1,r2):=rH hy201 H
         have Ny201:=aA.mk hy201
         clear hy201
         have H':=aA.mk H
         clear H
         go_wp2_with (first|((with_reducible refine aN (N:=37) rfl ?_);refine Kd.R_lit k43 _ 43 ?hg (N:=37) ?hd (xs:=([]:List (S43))) (inner:=[]) (ok:=fun _=>True) (okp:=fun _=>True) ?hr ?hp (fun _ hk=>hk) trivial (Below.refl _ _) (Nat.le_refl _) (by simp) ?_;(case hd=>rfl);(case hg=>rfl);(case hr=>first|(go_simp;done)|(go_simp;rfl));(case hp=>exact (bD.none _ _));intro v202 w21 ho22 hb hg_ hnew_;clear hg_ hnew_;(first|rw [← Ny201.out] at ho22|(simp only [Int.reduceToNat] at ho22;rw [← Ny201.out] at ho22));have n0_:=aA.mk (Kd.R_elder' (rA HO_9) (Kd.R_base ho22) hb);have n1_:=aA.mk (Kd.R_lower (Kd.R_newB (Kd.R_new' ho22 (Kd.R_lt (rA HO_9))) (bkA BK192)) (aQ blA));have n2_:=kB BK192 hb;have n3_:=lB hb;clear HO_9;clear BK192;clear HB;have HO_9:=n0_;have HO203:=n1_;have BK192:=n2_;have HB:=n3_;clear n0_ n1_ n2_ n3_;clear hb ho22))
         go_loopg [11,12] k3 (fun kq v11 v12 w'=>∃ (x11_4:List (S43)) (x12_4:Int),v12=.int .i64 x12_4∧aA (aH.l1 kq a0 a2 x9_3 x10_3 x11_4 x12_4 a1_0 a1_1 a1_2=some (r1,r2))∧aA (kq≤k3)∧aA (Kd.R k43 43 w' w.heap.size (fun k_=>some k_≠(v11:Value).ownBlock∧k_≠gb192) u9 x9_3)∧aA (Kd.R k43 43 w' w.heap.size (fun k_=>some k_≠(u9:Value).ownBlock∧k_≠gb192) v11 x11_4)∧aA (w'.heap[gb192]?=some (.cells #[.int .i64 a1_0,.int .i64 a1_1,.int .i64 a1_2] 43 (0,0)))∧aA (Below w.heap.size w w'))
         case atStart=>exact ⟨(y201),(0),hB,H',⟨Nat.le_refl _⟩,⟨by (with_reducible repeat (first|apply Kd.R_alloc|apply Kd.R_drewN|apply Kd.R_drew));exact Kd.R_mono HO_9.out (fun _ hk=>⟨hk.2,hk.1⟩)⟩,⟨by (with_reducible repeat (first|apply Kd.R_alloc|apply Kd.R_drewN|apply Kd.R_drew));exact Kd.R_mono HO203.out (fun _ hk=>⟨hk.1.2,hk.2⟩)⟩,⟨bkA BK192⟩,⟨blA⟩⟩
         case round=>
          clear H'
          try clear c3
          try clear c12
          try clear c12b0
          try clear c12b1
          try clear c15
          try clear c16
          try clear c16b0
          try clear c16b1
          try clear c20
          try clear c20b0
          try clear hcz17_0
          try clear hcz17_1
          try clear hcz17_2
          try clear hcz7_0
          try clear hcz7_1
          try clear hcz7_2
          try clear hfz17_0
          try clear hfz17_1
          try clear hfz17_2
          try clear hfz7_0
          try clear hfz7_1
          try clear hfz7_2
          obtain ⟨x11_4,x12_4,rfl,HA,HK4,HO_9,HO_11,BK192,HB⟩:=hrel
          cases gk with
          | zero=>exact absurd HA.out (by simp [aH.l1])
          | succ k4=>
           have H:=HA.out
           clear HA
           simp only [aH.l1] at H
           by_cases c23:x12_4<(x9_3.length:Int)
           ·
            rw [if_pos c23] at H
            have c23b0:=decide_eq_true c23
            clear c23
            by_cases c24:0≤x12_4
            rotate_left
            ·
             rw [if_neg c24] at H
             exact absurd H (by simp)
            rw [if_pos c24] at H
            have c24b0:=decide_eq_true c24
            clear c24
            replace H:=bS H
            obtain ⟨⟨t205,t208⟩,A25,H⟩:=H
            try dsimp only at H
            by_cases c26:t208=true
            ·
             subst c26
             rw [if_pos rfl] at H
             try dsimp only at H
             have H':=aA.mk H
             clear H
             obtain ⟨Ao27,co27,eo27⟩:=Kd.R_slice HO_9.out
             subst eo27
             have p204:0≤(x12_4:Int):=dA
             have q204:x12_4<(x9_3.length:Int):=dA
             obtain ⟨ad204,e204,hx204_0,hx204_1,hx204_2⟩:=cu (Kd.R_reads' HO_9.out).2.2 x12_4 p204 q204
             cases e204
             replace p204:=eq_true p204
             replace q204:=eq_true q204
             go_wp2_with (first|((with_reducible refine a6 (f:=95) rfl ?_);refine gL (some 50) rfl Tryz.func95 #[.int .i64 a0,.agg #[.int .i64 ((aD x9_3 x12_4).f0),.int .i64 ((aD x9_3 x12_4).f1),.int .i64 ((aD x9_3 x12_4).f2)]] ?_;(with_reducible refine (cL.calls k4 a0 ((aD x9_3 x12_4).f0) ((aD x9_3 x12_4).f1) ((aD x9_3 x12_4).f2) t205 true _ A25.out).mono ?_);rintro e w28 ⟨v206,rfl,ho0,hb⟩;refine ⟨_,rfl,?_⟩;have n0_:=aA.mk (Kd.R_elder' (rA HO_9) (Kd.R_base ho0) hb);have n1_:=aA.mk (Kd.R_elder' (rA HO_11) (Kd.R_base ho0) hb);have n2_:=aA.mk (Kd.R_lower (Kd.R_newB (Kd.R_new' (Kd.R_new' ho0 (Kd.R_lt (rA HO_9))) (Kd.R_lt (rA HO_11))) (bkA BK192)) (aQ blA));have n3_:=kB BK192 hb;have n4_:=lB hb;clear HO_9;clear HO_11;clear BK192;clear HB;have HO_9:=n0_;have HO_11:=n1_;have HO207:=n2_;have BK192:=n3_;have HB:=n4_;clear n0_ n1_ n2_ n3_ n4_;clear ho0 hb))
             go_loopg [11,15] k4 (fun kq v11 v15 w'=>∃ (x11_5:List (S43)) (x15_5:Int),v15=.int .i64 x15_5∧aA (aH.l2 kq a0 a2 x9_3 x10_3 x11_5 x12_4 t205 x15_5 a1_0 a1_1 a1_2=some (r1,r2))∧aA (kq≤k4)∧aA (Kd.R k43 43 w' w.heap.size (fun k_=>some k_≠(v11:Value).ownBlock∧some k_≠(v206:Value).ownBlock∧k_≠gb192) (.slice (some ad204) x9_3.length co27) x9_3)∧aA (Kd.R k43 43 w' w.heap.size (fun k_=>some k_≠((.slice (some ad204) x9_3.length co27):Value).ownBlock∧some k_≠(v206:Value).ownBlock∧k_≠gb192) v11 x11_5)∧aA (Kd.R k43 43 w' w.heap.size (fun k_=>some k_≠((.slice (some ad204) x9_3.length co27):Value).ownBlock∧some k_≠(v11:Value).ownBlock∧k_≠gb192) v206 t205)∧aA (w'.heap[gb192]?=some (.cells #[.int .i64 a1_0,.int .i64 a1_1,.int .i64 a1_2] 43 (0,0)))∧aA (Below w.heap.size w w'))
             case atStart=>exact ⟨(x11_4),(0),hB,H',⟨Nat.le_refl _⟩,⟨by (with_reducible repeat (first|apply Kd.R_alloc|apply Kd.R_drewN|apply Kd.R_drew));exact Kd.R_mono HO_9.out (fun _ hk=>⟨hk.1.1,⟨hk.2,hk.1.2⟩⟩)⟩,⟨by (with_reducible repeat (first|apply Kd.R_alloc|apply Kd.R_drewN|apply Kd.R_drew));exact Kd.R_mono HO_11.out (fun _ hk=>⟨hk.1.1,⟨hk.2,hk.1.2⟩⟩)⟩,⟨by (with_reducible repeat (first|apply Kd.R_alloc|apply Kd.R_drewN|apply Kd.R_drew));exact Kd.R_mono HO207.out (fun _ hk=>⟨hk.1.1.2,⟨hk.1.2,hk.2⟩⟩)⟩,⟨bkA BK192⟩,⟨blA⟩⟩
             case round=>
              clear H'
              try clear c3
              try clear c12
              try clear c12b0
              try clear c12b1
              try clear c15
              try clear c16
              try clear c16b0
              try clear c16b1
              try clear c20
              try clear c20b0
              try clear c23
              try clear c23b0
              try clear c24
              try clear c24b0
              try clear c26
              try clear hcz17_0
              try clear hcz17_1
              try clear hcz17_2
              try clear hcz7_0
              try clear hcz7_1
              try clear hcz7_2
              try clear hfz17_0
              try clear hfz17_1
              try clear hfz17_2
              try clear hfz7_0
              try clear hfz7_1
              try clear hfz7_2
              try clear hx204_0
              try clear hx204_1
              try clear hx204_2
              try clear p204
              try clear q204
              obtain ⟨x11_5,x15_5,rfl,HA,HK5,HO_9,HO_11,HO_13,BK192,HB⟩:=hrel
              cases gk with
              | zero=>exact absurd HA.out (by simp [aH.l2])
              | succ k5=>
               have H:=HA.out
               clear HA
               simp only [aH.l2] at H
               by_cases c29:x15_5<(t205.length:Int)
               ·
                rw [if_pos c29] at H
                have c29b0:=decide_eq_true c29
                clear c29
                by_cases c30:0≤x15_5
                rotate_left
                ·
                 rw [if_neg c30] at H
                 exact absurd H (by simp)
                rw [if_pos c30] at H
                have c30b0:=decide_eq_true c30
                clear c30
                replace H:=bS H
                obtain ⟨t210,A31,H⟩:=H
                try dsimp only at H
                by_cases c32:t210=x10_3
                focus
                 rw [if_pos c32] at H
                 have c32b0:(t210 == x10_3)=true:=beq_iff_eq.mpr c32
                 have c32b1:(t210 != x10_3)=false:=bne_eq_false_iff_eq.mpr c32
                 clear c32
                 by_cases c33:x11_5.length<5864062014805
                 rotate_left
                 ·
                  rw [if_neg c33] at H
                  exact absurd H (by simp)
                 rw [if_pos c33] at H
                 have LMc33:=aA.mk c33
                 clear c33
                 obtain ⟨y212,hy212⟩:∃ y_:List (S43),y_=(x11_5 ++ [(⟨(aD t205 x15_5).f0,(aD t205 x15_5).f1,(aD t205 x15_5).f2⟩:S43)]):=⟨_,rfl⟩
                 replace H:(aH.l2 k5 a0 a2 x9_3 x10_3 y212 x12_4 t205 (wrap64 (x15_5+1)) a1_0 a1_1 a1_2)=some (r1,r2):=rH hy212 H
                 have Ny212:=aA.mk hy212
                 clear hy212
                 have H':=aA.mk H
                 clear H
                 obtain ⟨Ao34,co34,eo34⟩:=Kd.R_slice HO_13.out
                 subst eo34
                rotate_left
                focus
                 rw [if_neg c32] at H
                 have c32b0:(t210 == x10_3)=false:=beq_eq_false_iff_ne.mpr c32
                 have c32b1:(t210 != x10_3)=true:=bne_iff_ne.mpr c32
                 have H':=aA.mk H
                 clear H
                 obtain ⟨Ao38,co38,eo38⟩:=Kd.R_slice HO_13.out
                 subst eo38
                rotate_left
                all_goals
                 try go_wp2
                 have n0_:=aA.mk (Kd.R_drew HO_9.out)
                 have n1_:=aA.mk (Kd.R_drew HO_11.out)
                 have n2_:=aA.mk (Kd.R_drew HO_13.out)
                 have n3_:=aA.mk (ac BK192.out)
                 have n4_:=aA.mk (al HB.out)
                 clear HO_9
                 clear HO_11
                 clear HO_13
                 clear BK192
                 clear HB
                 have HO_9:=n0_
                 have HO_11:=n1_
                 have HO_13:=n2_
                 have BK192:=n3_
                 have HB:=n4_
                 clear n0_ n1_ n2_ n3_ n4_
                 have p209:0≤(x15_5:Int):=dA
                 have q209:x15_5<(t205.length:Int):=dA
                 obtain ⟨ad209,e209,hx209_0,hx209_1,hx209_2⟩:=cu (Kd.R_reads' HO_13.out).2.2 x15_5 p209 q209
                 cases e209
                 replace p209:=eq_true p209
                 replace q209:=eq_true q209
                ·
                 refine b7 (n:=9) (S:=fun w'=>w'.cell? ⟨gb192,0,none⟩=some (.int .i64 a1_0)∧w'.cell? ⟨gb192,1,none⟩=some (.int .i64 a1_1)∧w'.cell? ⟨gb192,2,none⟩=some (.int .i64 a1_2)∧w'.cell? (ad209.add ((x15_5).toNat*3))=some (.int .i64 ((aD t205 x15_5).f0))∧w'.cell? ⟨(ad209.add ((x15_5).toNat*3)).block,(ad209.add ((x15_5).toNat*3)).off+1,none⟩=some (.int .i64 ((aD t205 x15_5).f1))∧w'.cell? ⟨(ad209.add ((x15_5).toNat*3)).block,(ad209.add ((x15_5).toNat*3)).off+2,none⟩=some (.int .i64 ((aD t205 x15_5).f2))) (ds:=[]) #[Z,Z,Z,Z,Z,Z,Z,Z,Z] (by kernel_rfl) rfl rfl ⟨cA BK192 0,cA BK192 1,cA BK192 2,hx209_0,hx209_1,hx209_2⟩ (fun hHeld=>?_);refine bT aH.tab20 aH.bits20 (fun HT_ HW_=>?_)
                 generalize wr.drew=w35 at HO_9 HO_11 HO_13 BK192 HB hx209_0 hx209_1 hx209_2 hHeld ⊢
                 refine puA (i:=0) (N:=some 61) #[Y,Z,Z,Z,Z,Z,Z,Z,Z] rfl rfl HT_ ?_
                 refine puA (i:=2) (N:=some 63) #[Y,Z,Y,Z,Z,Z,Z,Z,Z] rfl rfl HT_ ?_
                 refine puA (i:=3) (N:=some 64) #[Y,Z,Y,Y,Z,Z,Z,Z,Z] rfl rfl HT_ ?_
                 refine puA (i:=4) (N:=some 65) #[Y,Z,Y,Y,Y,Z,Z,Z,Z] rfl rfl HT_ ?_
                 refine puA (i:=7) (N:=some 68) #[Y,Z,Y,Y,Y,Z,Z,Y,Z] rfl rfl HT_ ?_
                 refine taA (i:=1) (N:=some 62) #[Y,Y,Y,Y,Y,Z,Z,Y,Z] rfl rfl HT_ HW_ hHeld ?_
                 refine taA (i:=5) (N:=some 66) #[Y,Y,Y,Y,Y,Y,Z,Y,Z] rfl rfl HT_ HW_ hHeld ?_
                 refine cV (i:=6) (N:=some 67) #[Y,Y,Y,Y,Y,Y,Y,Y,Z] rfl rfl (bX HT_.out (by kernel_rfl)) (by decide) (fun K hK=>?_)
                 refine d9 Tryz.func30 (by kernel_rfl) rfl #[.int .i64 a0,.agg #[.int .i64 a1_0,.int .i64 a1_1,.int .i64 a1_2],.agg #[.int .i64 ((aD t205 x15_5).f0),.int .i64 ((aD t205 x15_5).f1),.int .i64 ((aD t205 x15_5).f2)]] (by rfl) rfl rfl hA ?_
                 with_reducible refine (an.calls k5 a0 a1_0 a1_1 a1_2 ((aD t205 x15_5).f0) ((aD t205 x15_5).f1) ((aD t205 x15_5).f2) t210 _ A31.out).mono ?_
                 rintro e w36 ⟨rfl,hb⟩
                 have HS3_:=(hb.cell (World.block_lt_of_cell? _ _ (hHeld.2.2.2.1))).trans (hHeld.2.2.2.1)
                 have HS4_:=(hb.cell (World.block_lt_of_cell? _ _ (hHeld.2.2.2.2.1))).trans (hHeld.2.2.2.2.1)
                 have HS5_:=(hb.cell (World.block_lt_of_cell? _ _ (hHeld.2.2.2.2.2))).trans (hHeld.2.2.2.2.2)
                 refine ⟨_,rfl,?_⟩
                 replace HO_9:=aA.mk (Kd.R_below (rA HO_9) hb)
                 replace HO_11:=aA.mk (Kd.R_below (rA HO_11) hb)
                 replace HO_13:=aA.mk (Kd.R_below (rA HO_13) hb)
                 replace BK192:=kB BK192 hb
                 replace HB:=lB hb
                 (try clear hb)
                 (try clear hb2)
                 (try clear hk)
                 (try clear hi)
                 refine hK.out _ _ ⟨cA BK192 0,cA BK192 1,cA BK192 2,HS3_,HS4_,HS5_⟩ (fun hHeld=>?_)
                 clear hK K
                 refine nmA ?_
                 refine puA (i:=8) (N:=some 69) #[Y,Y,Y,Y,Y,Y,Y,Y,Y] rfl rfl HT_ ?_
                 refine cg (br HT_.out (by kernel_rfl)) ?_
                 have p211:0≤(x15_5:Int):=dA
                 have q211:x15_5<(t205.length:Int):=dA
                 obtain ⟨ad211,e211,hx211_0,hx211_1,hx211_2⟩:=cu (Kd.R_reads' HO_13.out).2.2 x15_5 p211 q211
                 obtain rfl:ad209=ad211:=(by injection e211)
                 replace p211:=eq_true p211
                 replace q211:=eq_true q211
                 try go_wp2_with (first|((with_reducible refine bY (b:=.append) (xs:=#[.tmp 70,.tmp 75]) rfl ?_);at_builtin;refine Kd.R_append k43 (w0:=w) w.heap.size rfl (.tmp 70) (.tmp 75) 38 43 (.agg #[(.int .i64 0),(.int .i64 0),(.int .i64 0)]) 24 rfl Tryz.underlying38 eE rfl (by decide) (by omega) u11 x11_5 (⟨(aD t205 x15_5).f0,(aD t205 x15_5).f1,(aD t205 x15_5).f2⟩:S43) [.int .i64 ((aD t205 x15_5).f0),.int .i64 ((aD t205 x15_5).f1),.int .i64 ((aD t205 x15_5).f2)] (fun k_=>some k_≠(.slice (some ad204) x9_3.length co27:Value).ownBlock∧some k_≠(.slice (some ad209) t205.length co34:Value).ownBlock∧k_≠gb192) (fun _=>False) rfl rfl ?aP (fun _ hk=>hk.elim) ?aF ?aO ?aB ?aS ?aL ?_;(case aP=>exact de _ _ _ (⟨(aD t205 x15_5).f0,(aD t205 x15_5).f1,(aD t205 x15_5).f2⟩:S43));(case aB=>exact blA);(case aF=>exact (fun k_ hk=>⟨Kd.fresh' (Kd.R_lt (rA HO_9)) k_ hk,Kd.fresh' (Kd.R_lt (rA HO_13)) k_ hk,Kd.freshB (bkA BK192) k_ hk⟩));(case aO=>exact (rA HO_11));(case aS=>exact (aQ blA));(case aL=>have:=LMc33.out;omega);intro v213 w37 ho hb hg hat;rw [← Ny212.out] at ho;have n0_:=aA.mk (Kd.R_after (ok:=(fun k_=>some k_≠(.slice (some ad209) t205.length co34:Value).ownBlock∧k_≠gb192)) (by (with_reducible repeat (first|apply Kd.R_alloc|apply Kd.R_drewN|apply Kd.R_drew));exact Kd.R_mono HO_9.out (fun _ hk=>⟨⟨hk.2.1,hk.2.2⟩,hk.1⟩)) hg hat);have n1_:=aA.mk (Kd.R_after (ok:=(fun k_=>some k_≠(.slice (some ad204) x9_3.length co27:Value).ownBlock∧k_≠gb192)) (by (with_reducible repeat (first|apply Kd.R_alloc|apply Kd.R_drewN|apply Kd.R_drew));exact Kd.R_mono HO_13.out (fun _ hk=>⟨⟨hk.1,hk.2.2⟩,hk.2.1⟩)) hg hat);have n2_:=aA.mk (bu (bkA BK192) hg (Kd.R_away HO_11.out (fun _ hk=>hk.2.2)));have n3_:=aA.mk hb;have n4_:=aA.mk ho;clear HO_9;clear HO_13;clear BK192;clear HB;clear HO_11;have HO_9:=n0_;have HO_13:=n1_;have BK192:=n2_;have HB:=n3_;have HO214:=n4_;clear n0_ n1_ n2_ n3_ n4_;clear ho hb hg hat))
                 go_roundg k5
                 case measure=>have:=HJ4.out;have:=HJ13.out;have:=HK3.out;have:=HK4.out;have:=HK5.out;omega
                 case rel=>exact ⟨(y212),(wrap64 (x15_5+1)),hB,H',⟨by have:=HJ4.out;have:=HJ13.out;have:=HK3.out;have:=HK4.out;have:=HK5.out;omega⟩,⟨by (with_reducible repeat (first|apply Kd.R_alloc|apply Kd.R_drewN|apply Kd.R_drew));exact Kd.R_mono HO_9.out (fun _ hk=>⟨hk.2,⟨hk.1.1,hk.1.2⟩⟩)⟩,⟨rA HO214⟩,⟨by (with_reducible repeat (first|apply Kd.R_alloc|apply Kd.R_drewN|apply Kd.R_drew));exact Kd.R_mono HO_13.out (fun _ hk=>⟨hk.1.1,⟨hk.2,hk.1.2⟩⟩)⟩,⟨bkA BK192⟩,⟨blA⟩⟩
                ·
                 refine b7 (n:=9) (S:=fun w'=>w'.cell? ⟨gb192,0,none⟩=some (.int .i64 a1_0)∧w'.cell? ⟨gb192,1,none⟩=some (.int .i64 a1_1)∧w'.cell? ⟨gb192,2,none⟩=some (.int .i64 a1_2)∧w'.cell? (ad209.add ((x15_5).toNat*3))=some (.int .i64 ((aD t205 x15_5).f0))∧w'.cell? ⟨(ad209.add ((x15_5).toNat*3)).block,(ad209.add ((x15_5).toNat*3)).off+1,none⟩=some (.int .i64 ((aD t205 x15_5).f1))∧w'.cell? ⟨(ad209.add ((x15_5).toNat*3)).block,(ad209.add ((x15_5).toNat*3)).off+2,none⟩=some (.int .i64 ((aD t205 x15_5).f2))) (ds:=[]) #[Z,Z,Z,Z,Z,Z,Z,Z,Z] (by kernel_rfl) rfl rfl ⟨cA BK192 0,cA BK192 1,cA BK192 2,hx209_0,hx209_1,hx209_2⟩ (fun hHeld=>?_);refine bT aH.tab20 aH.bits20 (fun HT_ HW_=>?_)
                 generalize wr.drew=w39 at HO_9 HO_11 HO_13 BK192 HB hx209_0 hx209_1 hx209_2 hHeld ⊢
                 refine puA (i:=0) (N:=some 61) #[Y,Z,Z,Z,Z,Z,Z,Z,Z] rfl rfl HT_ ?_
                 refine puA (i:=2) (N:=some 63) #[Y,Z,Y,Z,Z,Z,Z,Z,Z] rfl rfl HT_ ?_
                 refine puA (i:=3) (N:=some 64) #[Y,Z,Y,Y,Z,Z,Z,Z,Z] rfl rfl HT_ ?_
                 refine puA (i:=4) (N:=some 65) #[Y,Z,Y,Y,Y,Z,Z,Z,Z] rfl rfl HT_ ?_
                 refine puA (i:=7) (N:=some 68) #[Y,Z,Y,Y,Y,Z,Z,Y,Z] rfl rfl HT_ ?_
                 refine taA (i:=1) (N:=some 62) #[Y,Y,Y,Y,Y,Z,Z,Y,Z] rfl rfl HT_ HW_ hHeld ?_
                 refine taA (i:=5) (N:=some 66) #[Y,Y,Y,Y,Y,Y,Z,Y,Z] rfl rfl HT_ HW_ hHeld ?_
                 refine cV (i:=6) (N:=some 67) #[Y,Y,Y,Y,Y,Y,Y,Y,Z] rfl rfl (bX HT_.out (by kernel_rfl)) (by decide) (fun K hK=>?_)
                 refine d9 Tryz.func30 (by kernel_rfl) rfl #[.int .i64 a0,.agg #[.int .i64 a1_0,.int .i64 a1_1,.int .i64 a1_2],.agg #[.int .i64 ((aD t205 x15_5).f0),.int .i64 ((aD t205 x15_5).f1),.int .i64 ((aD t205 x15_5).f2)]] (by rfl) rfl rfl hA ?_
                 with_reducible refine (an.calls k5 a0 a1_0 a1_1 a1_2 ((aD t205 x15_5).f0) ((aD t205 x15_5).f1) ((aD t205 x15_5).f2) t210 _ A31.out).mono ?_
                 rintro e w40 ⟨rfl,hb⟩
                 have HS3_:=(hb.cell (World.block_lt_of_cell? _ _ (hHeld.2.2.2.1))).trans (hHeld.2.2.2.1)
                 have HS4_:=(hb.cell (World.block_lt_of_cell? _ _ (hHeld.2.2.2.2.1))).trans (hHeld.2.2.2.2.1)
                 have HS5_:=(hb.cell (World.block_lt_of_cell? _ _ (hHeld.2.2.2.2.2))).trans (hHeld.2.2.2.2.2)
                 refine ⟨_,rfl,?_⟩
                 replace HO_9:=aA.mk (Kd.R_below (rA HO_9) hb)
                 replace HO_11:=aA.mk (Kd.R_below (rA HO_11) hb)
                 replace HO_13:=aA.mk (Kd.R_below (rA HO_13) hb)
                 replace BK192:=kB BK192 hb
                 replace HB:=lB hb
                 (try clear hb)
                 (try clear hb2)
                 (try clear hk)
                 (try clear hi)
                 refine hK.out _ _ ⟨cA BK192 0,cA BK192 1,cA BK192 2,HS3_,HS4_,HS5_⟩ (fun hHeld=>?_)
                 clear hK K
                 refine nmA ?_
                 refine puA (i:=8) (N:=some 69) #[Y,Y,Y,Y,Y,Y,Y,Y,Y] rfl rfl HT_ ?_
                 refine cg (br HT_.out (by kernel_rfl)) ?_
                 try go_wp2
                 go_roundg k5
                 case measure=>have:=HJ4.out;have:=HJ13.out;have:=HK3.out;have:=HK4.out;have:=HK5.out;omega
                 case rel=>exact ⟨(x11_5),(wrap64 (x15_5+1)),hB,H',⟨by have:=HJ4.out;have:=HJ13.out;have:=HK3.out;have:=HK4.out;have:=HK5.out;omega⟩,⟨rA HO_9⟩,⟨rA HO_11⟩,⟨rA HO_13⟩,⟨bkA BK192⟩,⟨blA⟩⟩
               ·
                rw [if_neg c29] at H
                have c29b0:=decide_eq_false c29
                clear c29
                have H':=aA.mk H
                clear H
                obtain ⟨Ao41,co41,eo41⟩:=Kd.R_slice HO_13.out
                subst eo41
                go_wp2
                go_roundg k5
                case measure=>have:=HJ4.out;have:=HJ13.out;have:=HK3.out;have:=HK4.out;have:=HK5.out;omega
                case rel=>exact ⟨(x11_5),(wrap64 (x12_4+1)),hB,H',⟨by have:=HJ4.out;have:=HJ13.out;have:=HK3.out;have:=HK4.out;have:=HK5.out;omega⟩,⟨by (with_reducible repeat (first|apply Kd.R_alloc|apply Kd.R_drewN|apply Kd.R_drew));exact Kd.R_mono HO_9.out (fun _ hk=>⟨hk.1,hk.2.2⟩)⟩,⟨by (with_reducible repeat (first|apply Kd.R_alloc|apply Kd.R_drewN|apply Kd.R_drew));exact Kd.R_mono HO_11.out (fun _ hk=>⟨hk.1,hk.2.2⟩)⟩,⟨bkA BK192⟩,⟨blA⟩⟩
            ·
             replace c26:=Bool.eq_false_iff.mpr c26
             subst c26
             rw [if_neg (show ¬ (false=true) by decide)] at H
             try dsimp only at H
             simp only [Option.some.injEq,Prod.mk.injEq] at H
             obtain ⟨rfl,rfl⟩:=H
             obtain ⟨Ao42,co42,eo42⟩:=Kd.R_slice HO_9.out
             subst eo42
             have p204:0≤(x12_4:Int):=dA
             have q204:x12_4<(x9_3.length:Int):=dA
             obtain ⟨ad204,e204,hx204_0,hx204_1,hx204_2⟩:=cu (Kd.R_reads' HO_9.out).2.2 x12_4 p204 q204
             cases e204
             replace p204:=eq_true p204
             replace q204:=eq_true q204
             go_wp2_with (first|((with_reducible refine a6 (f:=95) rfl ?_);refine gL (some 50) rfl Tryz.func95 #[.int .i64 a0,.agg #[.int .i64 ((aD x9_3 x12_4).f0),.int .i64 ((aD x9_3 x12_4).f1),.int .i64 ((aD x9_3 x12_4).f2)]] ?_;(with_reducible refine (cL.calls k4 a0 ((aD x9_3 x12_4).f0) ((aD x9_3 x12_4).f1) ((aD x9_3 x12_4).f2) t205 false _ A25.out).mono ?_);rintro e w43 ⟨v206,rfl,ho0,hb⟩;refine ⟨_,rfl,?_⟩;have n0_:=aA.mk (Kd.R_elder' (rA HO_9) (Kd.R_base ho0) hb);have n1_:=aA.mk (Kd.R_elder' (rA HO_11) (Kd.R_base ho0) hb);have n2_:=aA.mk (Kd.R_lower (Kd.R_newB (Kd.R_new' (Kd.R_new' ho0 (Kd.R_lt (rA HO_9))) (Kd.R_lt (rA HO_11))) (bkA BK192)) (aQ blA));have n3_:=kB BK192 hb;have n4_:=lB hb;clear HO_9;clear HO_11;clear BK192;clear HB;have HO_9:=n0_;have HO_11:=n1_;have HO207:=n2_;have BK192:=n3_;have HB:=n4_;clear n0_ n1_ n2_ n3_ n4_;clear ho0 hb))
             go_ret2
             exact ⟨_,eW,nlA,blA⟩
           ·
            rw [if_neg c23] at H
            have c23b0:=decide_eq_false c23
            clear c23
            have H':=aA.mk H
            clear H
            obtain ⟨Ao44,co44,eo44⟩:=Kd.R_slice HO_9.out
            subst eo44
            go_wp2
            go_roundg k4
            case measure=>have:=HJ4.out;have:=HJ13.out;have:=HK3.out;have:=HK4.out;omega
            case rel=>exact ⟨(x11_4),(wrap64 (x10_3+1)),hB,H',⟨by have:=HJ4.out;have:=HJ13.out;have:=HK3.out;have:=HK4.out;omega⟩,⟨by (with_reducible repeat (first|apply Kd.R_alloc|apply Kd.R_drewN|apply Kd.R_drew));exact Kd.R_mono HO_11.out (fun _ hk=>hk.2)⟩,⟨bkA BK192⟩,⟨blA⟩⟩
        ·
         rw [if_neg c20] at H
         have c20b0:=decide_eq_false c20
         clear c20
         simp only [Option.some.injEq,Prod.mk.injEq] at H
         obtain ⟨rfl,rfl⟩:=H
         go_wp2
         go_ret2
         exact ⟨_,eW,by (with_reducible repeat (first|apply Kd.R_alloc|apply Kd.R_drewN|apply Kd.R_drew));exact Kd.R_mono HO_9.out (fun _ hk=>trivial),blA⟩
     ·
      rw [if_neg c16] at H
      have c16b0:(x8_13 == 0)=false:=beq_eq_false_iff_ne.mpr c16
      have c16b1:(x8_13 != 0)=true:=bne_iff_ne.mpr c16
      simp only [Option.some.injEq,Prod.mk.injEq] at H
      obtain ⟨rfl,rfl⟩:=H
      go_wp2
      go_ret2
      exact ⟨_,eW,nlA,blA⟩
end Go.Proofs.YtnhiehpbkimaeaaGreat.PAll
