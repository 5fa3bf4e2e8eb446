import Derived.Test.YtnhiehpbkimaeaaGreatQx
import Derived.Test.YtnhiehpbkimaeaaGreatQimplclasses
import Derived.Test.YtnhiehpbkimaeaaGreatQimplregion
import Derived.Test.YtnhiehpbkimaeaaGreatQimplregionCode
import Derived.Test.YtnhiehpbkimaeaaGreatQspecl01Code
import Derived.Test.YtnhiehpbkimaeaaGreatQspecl02Valuation
namespace Go.Proofs.YtnhiehpbkimaeaaGreat.PAll
open Go.RowKit Go.Proofs.YtnhiehpbkimaeaaGreatW.PrintWords Go.Proofs.YtnhiehpbkimaeaaGreatW.PrintLast Go.Proofs.YtnhiehpbkimaeaaGreatW.PrintMore
attribute [local go_sem] Go.Proofs.YtnhiehpbkimaeaaGreat.Aux.setCell_drewN Go.Proofs.YtnhiehpbkimaeaaGreat.Aux.isSome_setCell cC b9 cQ cP bm bl cB b8
set_option linter.unusedVariables false
set_option linter.unusedSimpArgs false
mutual
def aU.l0:Nat→Int→List (S43)→List Int→List (List Int)→List (S43)→Int→Int→Option ((List (List Int)) × Int)
 | 0,_,_,_,_,_,_,_=>none
 | k+1,x0,x9,x11,x12,x35,x36,x37=>if x37<x36 then (if 0≤x37 then (if x37<(x35.length:Int) then (aU.l1 k x0 x9 x11 x12 x37 x35 x36 x37 x37 0 ((aD x35 x37).f0) ((aD x35 x37).f1) ((aD x35 x37).f2)) else (none)) else (none)) else (if x12.length<4611686018427387904 then (some (au.cdup (au.srt x12),0)) else (none))
def aU.l1:Nat→Int→List (S43)→List Int→List (List Int)→Int→List (S43)→Int→Int→Int→Int→Int→Int→Int→Option ((List (List Int)) × Int)
 | 0,_,_,_,_,_,_,_,_,_,_,_,_,_=>none
 | k+1,x0,x9,x11,x12,x13,x35,x36,x37,x45,x46,x566000,x566001,x566002=>if x46<x45 then (if 0≤x46 then (if x46<(x9.length:Int) then ((bG.f k x0 x566000 x566001 x566002 ((aD x9 x46).f0) ((aD x9 x46).f1) ((aD x9 x46).f2)).bind fun t568=>(if t568=1 then (if 0≤x13 then (if x13<(x11.length:Int) then (if x46<(x11.length:Int) then (if x12.length<5864062014805 then (aU.l1 k x0 x9 x11 (x12 ++ [(([mn (rd x11 x13) (rd x11 x46),mx (rd x11 x13) (rd x11 x46)]:List Int))]) x13 x35 x36 x37 x45 (wrap64 (x46+1)) x566000 x566001 x566002) else (none)) else (none)) else (none)) else (none)) else (aU.l1 k x0 x9 x11 x12 x13 x35 x36 x37 x45 (wrap64 (x46+1)) x566000 x566001 x566002))) else (none)) else (none)) else (aU.l0 k x0 x9 x11 x12 x35 x36 (wrap64 (x37+1)))
end
def aU.f (k:Nat) (a0:Int) (l1:List (S59)) (a2:Int):Option ((List (List Int)) × Int):=(cS.f k a0 l1 a2).bind fun t551=>(if t551=0 then ((dI.f k a0 a2).bind fun t552=>((aK.f k a0 l1 t552).bind fun bt555=>(aU.l0 k a0 t552 bt555.2 (([]:List (List Int))) t552 (t552.length:Int) 0))) else (some (([]:List (List Int)),t551)))
def aU.T14:Bool × List (List Nat × List Nat):=(true,[([],[]),([],[]),([],[]),([1,2],[1,2]),([3],[3]),([],[]),([],[]),([5,6],[5,6]),([7],[7]),([4,8],[4,8]),([],[]),([],[]),([10,11],[10,11]),([12],[12]),([],[]),([],[]),([14,15],[14,15]),([16],[16]),([13,17],[13,17]),([9,18],[9,18]),([19],[19]),([0,20],[0,20]),([21,21,0,1,2,3,4,5,6,7,8,9,10,11,12,13,14,15,16,17,18,19,20,21],[0,21])])
def aU.B14:List Nat:=[0,0,0,6,14,0,0,96,224,510,0,0,3072,7168,0,0,49152,114688,261120,524286,1048574,2097151,4194303]
theorem aU.tab14:cZ .any (dL Tryz.f8 14)=aU.T14:=by kernel_rfl
theorem aU.bits14:bq aU.T14.2 aU.B14=true:=by kernel_rfl
set_option maxHeartbeats 8000000 in
set_option maxRecDepth 100000 in
theorem aU.calls (k:Nat) (a0:Int) (A1:Option Addr) (c1:Nat) (l1:List (S59)) (a2:Int) (r1:List (List Int)) (r2:Int) (w:World) (hr1:Kd.C k59 w A1 l1.length l1) (hc1:l1.length≤c1) (h:aU.f k a0 l1 a2=some (r1,r2)) :
  Calls Tryz.prog 8 #[.int .i64 a0,.slice A1 l1.length c1,.int .i64 a2] w fun e w'=>∃ v0_:Value,e=.returned (.tuple #[v0_,.int .i64 r2])∧Kd.S (Kd.slice 2 (Kd.int .i64)) 50 w' w.heap.size (fun _=>True) v0_ r1∧Below w.heap.size w w':=by
 have hu43:=Tryz.underlying43
 have HR1:=aA.mk hr1
 have HC1:=aA.mk hc1
 clear hr1 hc1
 have HB:=aA.mk (Below.refl w.heap.size w)
 have H:=h
 unfold aU.f at H
 clear h
 replace H:=bS H
 obtain ⟨t551,A4,H⟩:=H
 try dsimp only at H
 by_cases c5:t551=0
 focus
  rw [if_pos c5] at H
  have c5b0:(t551 == 0)=true:=beq_iff_eq.mpr c5
  have c5b1:(t551 != 0)=false:=bne_eq_false_iff_eq.mpr c5
  clear c5
  replace H:=bS H
  obtain ⟨t552,A6,H⟩:=H
  try dsimp only at H
  replace H:=bS H
  obtain ⟨⟨t555,t556⟩,A7,H⟩:=H
  try dsimp only at H
  obtain ⟨y561,hy561⟩:∃ y_:List (List Int),y_=(([]:List (List Int))):=⟨_,rfl⟩
  replace H:(aU.l0 k a0 t552 t556 y561 t552 (t552.length:Int) 0)=some (r1,r2):=rH hy561 H
  have Ny561:=aA.mk hy561
  clear hy561
  have H':=aA.mk H
  clear H
 rotate_left
 focus
  rw [if_neg c5] at H
  have c5b0:(t551 == 0)=false:=beq_eq_false_iff_ne.mpr c5
  have c5b1:(t551 != 0)=true:=bne_iff_ne.mpr c5
  simp only [Option.some.injEq,Prod.mk.injEq] at H
  obtain ⟨rfl,rfl⟩:=H
 rotate_left
 all_goals
  go_enter Tryz.func8,Tryz.ntmps8
  go_wp2_with (first|((with_reducible refine gd 20 rfl ?_);refine gC (some 20) rfl Tryz.func32 (cS.calls (w:=_) (hr1:=cR HR1.out) (hc1:=HC1.out) (h:=A4.out)) ?_;intro w8 hb;have n0_:=lB hb;clear HB;have HB:=n0_;clear n0_;clear hb)|((with_reducible refine a6 (f:=33) rfl ?_);refine gL (some 26) rfl Tryz.func33 #[.int .i64 a0,.int .i64 a2] ?_;(with_reducible refine (dI.calls k a0 a2 t552 _ A6.out).mono ?_);rintro e w9 ⟨v553,rfl,ho0,hb⟩;refine ⟨_,rfl,?_⟩;have n0_:=aA.mk (Kd.R_lower ho0 (aQ blA));have n1_:=lB hb;clear HB;have HO554:=n0_;have HB:=n1_;clear n0_ n1_;clear ho0 hb;obtain ⟨Ao10,co10,eo10⟩:=Kd.R_slice HO554.out;subst eo10)|((with_reducible refine a6 (f:=34) rfl ?_);refine gL (some 31) rfl Tryz.func34 #[.int .i64 a0,.slice A1 l1.length c1,.slice Ao10 t552.length co10] ?_;(with_reducible refine (aK.calls k a0 _ _ l1 _ _ t552 t555 t556 _ ?side1 ?side2 ?side3 ?side4 A7.out).mono ?_);(case side1=>exact cR (Kd.C_below HR1.out HB.out));(case side2=>exact HC1.out);(case side3=>exact cR (Kd.R_reads' HO554.out).2.2);(case side4=>exact (Kd.R_reads' HO554.out).2.1);rintro e w11 ⟨v557,v559,rfl,ho0,ho1,hb⟩;refine ⟨_,rfl,?_⟩;have n0_:=aA.mk (Kd.R_below (rA HO554) hb);have n1_:=aA.mk (Kd.S_lower ho0 (aQ blA));have n2_:=aA.mk (Kd.R_lower ho1 (aQ blA));have n3_:=lB hb;clear HO554;clear HB;have HO554:=n0_;have HO558:=n1_;have HO560:=n2_;have HB:=n3_;clear n0_ n1_ n2_ n3_;clear ho0 ho1 hb)|((with_reducible refine aN (N:=34) rfl ?_);refine Kd.S_lit (Kd.slice 2 (Kd.int .i64)) _ 50 ?hg (N:=34) ?hd (xs:=([]:List (List Int))) (inner:=[]) (ok:=fun _=>True) (okp:=fun _=>True) ?hr ?hp (fun _ hk=>hk) trivial (Below.refl _ _) (Nat.le_refl _) (by simp) ?_;(case hd=>rfl);(case hg=>rfl);(case hr=>first|(go_simp;done)|(go_simp;rfl));(case hp=>exact (bD.none _ _));intro v562 w12 ho13 hb hg_ hnew_;clear hg_ hnew_;(first|rw [← Ny561.out] at ho13|(simp only [Int.reduceToNat] at ho13;rw [← Ny561.out] at ho13));have n0_:=aA.mk (Kd.R_below (rA HO554) hb);have n1_:=aA.mk (Kd.S_elder' (by (with_reducible repeat (first|apply Kd.S_alloc|apply Kd.S_drewN|apply Kd.S_drew));exact HO558.out) (Kd.S_base ho13) hb);have n2_:=aA.mk (Kd.R_below (rA HO560) hb);have n3_:=aA.mk (Kd.S_lower (Kd.S_new' (Kd.S_new' ho13 (Kd.S_lt (by (with_reducible repeat (first|apply Kd.S_alloc|apply Kd.S_drewN|apply Kd.S_drew));exact HO558.out))) (Kd.R_lt (rA HO560))) (aQ blA));have n4_:=lB hb;clear HO554;clear HO558;clear HO560;clear HB;have HO554:=n0_;have HO558:=n1_;have HO560:=n2_;have HO563:=n3_;have HB:=n4_;clear n0_ n1_ n2_ n3_ n4_;clear hb ho13))
 ·
  go_loopg [12,37] k (fun kq v12 v37 w'=>∃ (x12_1:List (List Int)) (x37_1:Int),v37=.int .i64 x37_1∧aA (aU.l0 kq a0 t552 t556 x12_1 t552 (t552.length:Int) x37_1=some (r1,r2))∧aA (kq≤k)∧aA (Kd.R k43 43 w' w.heap.size (fun _=>True) (.slice Ao10 t552.length co10) t552)∧aA (Kd.R (Kd.int .i64) 2 w' w.heap.size (fun _=>True) v559 t556)∧aA (Kd.S (Kd.slice 2 (Kd.int .i64)) 50 w' w.heap.size (fun k_=>some k_≠(v559:Value).ownBlock) v12 x12_1)∧aA (Kd.R k43 43 w' w.heap.size (fun _=>True) (.slice Ao10 t552.length co10) t552)∧aA (Below w.heap.size w w'))
  case atStart=>exact ⟨(y561),(0),hB,H',⟨Nat.le_refl _⟩,⟨rA HO554⟩,⟨rA HO560⟩,⟨by (with_reducible repeat (first|apply Kd.S_alloc|apply Kd.S_drewN|apply Kd.S_drew));exact Kd.S_mono HO563.out (fun _ hk=>hk.2)⟩,⟨rA HO554⟩,⟨blA⟩⟩
  case round=>
   clear H'
   try clear c1
   try clear c5
   try clear c5b0
   try clear c5b1
   obtain ⟨x12_1,x37_1,rfl,HA,HK1,HO_9,HO_11,HO_12,HO_35,HB⟩:=hrel
   cases gk with
   | zero=>exact absurd HA.out (by simp [aU.l0])
   | succ k1=>
    have H:=HA.out
    clear HA
    simp only [aU.l0] at H
    by_cases c14:x37_1<(t552.length:Int)
    ·
     rw [if_pos c14] at H
     have c14b0:=decide_eq_true c14
     clear c14
     by_cases c15:0≤x37_1
     rotate_left
     ·
      rw [if_neg c15] at H
      exact absurd H (by simp)
     rw [if_pos c15] at H
     have c15b0:=decide_eq_true c15
     clear c15
     by_cases c16:x37_1<(t552.length:Int)
     rotate_left
     ·
      rw [if_neg c16] at H
      exact absurd H (by simp)
     rw [if_pos c16] at H
     have c16b0:=decide_eq_true c16
     clear c16
     have H':=aA.mk H
     clear H
     have p564:0≤(x37_1:Int):=dA
     have q564:x37_1<(t552.length:Int):=dA
     obtain ⟨ad564,e564,hx564_0,hx564_1,hx564_2⟩:=cu (Kd.R_reads' HO_35.out).2.2 x37_1 p564 q564
     cases e564
     replace p564:=eq_true p564
     replace q564:=eq_true q564
     have hcp_:x37_1≤(co10:Int):=by have h1_:=(Kd.R_reads' HO_9.out).2.1;have h2_:=of_eq_true q564;omega
     have hmx_:max x37_1 0=x37_1:=by have h2_:=of_eq_true p564;omega
     go_wp2_with (first|((with_reducible refine aN (N:=14) rfl ?_);refine bxE (cs:=#[.int .i64 0,.int .i64 0,.int .i64 0]) (t:=43) ?_;intro gb565 hg w17 hbox hb;have n0_:=aA.mk (Kd.R_below (Kd.R_elderB (rA HO_9) gb565 (Nat.le_of_eq hg.symm)) hb);have n1_:=aA.mk (Kd.R_below (rA HO_11) hb);have n2_:=aA.mk (Kd.S_below (by (with_reducible repeat (first|apply Kd.S_alloc|apply Kd.S_drewN|apply Kd.S_drew));exact HO_12.out) hb);have n3_:=aA.mk (Kd.R_below (Kd.R_elderB (rA HO_35) gb565 (Nat.le_of_eq hg.symm)) hb);have n4_:=lB hb;have n5_:=aA.mk hbox;have n6_:=sA hg;have n7_:=sA hg;clear HO_9;clear HO_11;clear HO_12;clear HO_35;clear HB;have HO_9:=n0_;have HO_11:=n1_;have HO_12:=n2_;have HO_35:=n3_;have HB:=n4_;have BK565:=n5_;have GW565:=n6_;have GE565:=n7_;clear n0_ n1_ n2_ n3_ n4_ n5_ n6_ n7_;clear hb hbox hg;obtain ⟨hcz18_0,hcz18_1,hcz18_2,hfz18_0,hfz18_1,hfz18_2⟩:=cz3 BK565))
     clear hcp_ hmx_
     go_loopg [12,46] k1 (fun kq v12 v46 w'=>∃ (x12_2:List (List Int)) (x46_2:Int),v46=.int .i64 x46_2∧aA (aU.l1 kq a0 t552 t556 x12_2 x37_1 t552 (t552.length:Int) x37_1 x37_1 x46_2 ((aD t552 x37_1).f0) ((aD t552 x37_1).f1) ((aD t552 x37_1).f2)=some (r1,r2))∧aA (kq≤k1)∧aA (Kd.R k43 43 w' w.heap.size (fun k_=>k_≠gb565) (.slice (some ad564) t552.length co10) t552)∧aA (Kd.R (Kd.int .i64) 2 w' w.heap.size (fun _=>True) v559 t556)∧aA (Kd.S (Kd.slice 2 (Kd.int .i64)) 50 w' w.heap.size (fun k_=>some k_≠(v559:Value).ownBlock) v12 x12_2)∧aA (Kd.R k43 43 w' w.heap.size (fun k_=>k_≠gb565) (.slice (some ad564) t552.length co10) t552)∧aA (w'.heap[gb565]?=some (.cells #[.int .i64 ((aD t552 x37_1).f0),.int .i64 ((aD t552 x37_1).f1),.int .i64 ((aD t552 x37_1).f2)] 43 (0,0)))∧aA (Below w.heap.size w w'))
     case atStart=>exact ⟨(x12_1),(0),hB,H',⟨Nat.le_refl _⟩,⟨by (with_reducible repeat (first|apply Kd.R_alloc|apply Kd.R_drewN|apply Kd.R_drew));exact Kd.R_mono (Kd.R_far (p:=⟨gb565,2,none⟩) (Kd.R_far (p:=⟨gb565,1,none⟩) (Kd.R_far (p:=⟨gb565,0,none⟩) (Kd.R_mono HO_9.out (fun k_ hk=>(⟨hk,hk.2⟩:_∧k_≠gb565))) (fun _ hk=>hk.2) (.int .i64 ((aD t552 x37_1).f0))) (fun _ hk=>hk.2) (.int .i64 ((aD t552 x37_1).f1))) (fun _ hk=>hk.2) (.int .i64 ((aD t552 x37_1).f2))) (fun _ hk=>hk.1.2)⟩,⟨by (with_reducible repeat (first|apply Kd.R_alloc|apply Kd.R_drewN|apply Kd.R_drew));exact Kd.R_mono (Kd.R_far (p:=⟨gb565,2,none⟩) (Kd.R_far (p:=⟨gb565,1,none⟩) (Kd.R_far (p:=⟨gb565,0,none⟩) (Kd.R_types HO_11.out BK565.out (by decide)) (fun _ hk=>hk.2) (.int .i64 ((aD t552 x37_1).f0))) (fun _ hk=>hk.2) (.int .i64 ((aD t552 x37_1).f1))) (fun _ hk=>hk.2) (.int .i64 ((aD t552 x37_1).f2))) (fun _ hk=>trivial)⟩,⟨by (with_reducible repeat (first|apply Kd.S_alloc|apply Kd.S_drewN|apply Kd.S_drew));exact Kd.S_mono (Kd.S_far (p:=⟨gb565,2,none⟩) (Kd.S_far (p:=⟨gb565,1,none⟩) (Kd.S_far (p:=⟨gb565,0,none⟩) (Kd.S_types HO_12.out BK565.out (by decide)) (fun _ hk=>hk.2) (.int .i64 ((aD t552 x37_1).f0))) (fun _ hk=>hk.2) (.int .i64 ((aD t552 x37_1).f1))) (fun _ hk=>hk.2) (.int .i64 ((aD t552 x37_1).f2))) (fun _ hk=>hk.1)⟩,⟨by (with_reducible repeat (first|apply Kd.R_alloc|apply Kd.R_drewN|apply Kd.R_drew));exact Kd.R_mono (Kd.R_far (p:=⟨gb565,2,none⟩) (Kd.R_far (p:=⟨gb565,1,none⟩) (Kd.R_far (p:=⟨gb565,0,none⟩) (Kd.R_mono HO_35.out (fun k_ hk=>(⟨hk,hk.2⟩:_∧k_≠gb565))) (fun _ hk=>hk.2) (.int .i64 ((aD t552 x37_1).f0))) (fun _ hk=>hk.2) (.int .i64 ((aD t552 x37_1).f1))) (fun _ hk=>hk.2) (.int .i64 ((aD t552 x37_1).f2))) (fun _ hk=>hk.1.2)⟩,⟨bpA BK565⟩,⟨blA⟩⟩
     case round=>
      clear H'
      try clear c1
      try clear c5
      try clear c5b0
      try clear c5b1
      try clear c14
      try clear c14b0
      try clear c15
      try clear c15b0
      try clear c16
      try clear c16b0
      try clear hcz18_0
      try clear hcz18_1
      try clear hcz18_2
      try clear hfz18_0
      try clear hfz18_1
      try clear hfz18_2
      try clear hx564_0
      try clear hx564_1
      try clear hx564_2
      try clear p564
      try clear q564
      obtain ⟨x12_2,x46_2,rfl,HA,HK2,HO_9,HO_11,HO_12,HO_35,BK565,HB⟩:=hrel
      cases gk with
      | zero=>exact absurd HA.out (by simp [aU.l1])
      | succ k2=>
       have H:=HA.out
       clear HA
       simp only [aU.l1] at H
       by_cases c19:x46_2<x37_1
       ·
        rw [if_pos c19] at H
        have c19b0:=decide_eq_true c19
        clear c19
        by_cases c20:0≤x46_2
        rotate_left
        ·
         rw [if_neg c20] at H
         exact absurd H (by simp)
        rw [if_pos c20] at H
        have c20b0:=decide_eq_true c20
        clear c20
        by_cases c21:x46_2<(t552.length:Int)
        rotate_left
        ·
         rw [if_neg c21] at H
         exact absurd H (by simp)
        rw [if_pos c21] at H
        have c21b0:=decide_eq_true c21
        clear c21
        replace H:=bS H
        obtain ⟨t568,A22,H⟩:=H
        try dsimp only at H
        by_cases c23:t568=1
        ·
         rw [if_pos c23] at H
         have c23b0:(t568 == 1)=true:=beq_iff_eq.mpr c23
         have c23b1:(t568 != 1)=false:=bne_eq_false_iff_eq.mpr c23
         clear c23
         by_cases c24:0≤x37_1
         rotate_left
         ·
          rw [if_neg c24] at H
          exact absurd H (by simp)
         rw [if_pos c24] at H
         have c24b0:=decide_eq_true c24
         clear c24
         by_cases c25:x37_1<(t556.length:Int)
         rotate_left
         ·
          rw [if_neg c25] at H
          exact absurd H (by simp)
         rw [if_pos c25] at H
         have c25b0:=decide_eq_true c25
         clear c25
         by_cases c26:x46_2<(t556.length:Int)
         rotate_left
         ·
          rw [if_neg c26] at H
          exact absurd H (by simp)
         rw [if_pos c26] at H
         have c26b0:=decide_eq_true c26
         clear c26
         obtain ⟨ji27,hji27⟩:∃ j_:Int,(mn (rd t556 x37_1) (rd t556 x46_2))=j_:=⟨_,rfl⟩
         replace H:(if x12_2.length<5864062014805 then (aU.l1 k2 a0 t552 t556 (x12_2 ++ [(([ji27,mx (rd t556 x37_1) (rd t556 x46_2)]:List Int))]) x37_1 t552 (t552.length:Int) x37_1 x37_1 (wrap64 (x46_2+1)) ((aD t552 x37_1).f0) ((aD t552 x37_1).f1) ((aD t552 x37_1).f2)) else (none))=some (r1,r2):=by first|(rw [hji27] at H;exact H)|(simp only [hji27] at H ⊢;exact H)
         (try rw [hji27] at A22)
         have hji27_:(if (rd t556 x46_2)<(rd t556 x37_1) then (rd t556 x46_2) else (rd t556 x37_1))=ji27:=hji27
         obtain ⟨ji28,hji28⟩:∃ j_:Int,(mx (rd t556 x37_1) (rd t556 x46_2))=j_:=⟨_,rfl⟩
         replace H:(if x12_2.length<5864062014805 then (aU.l1 k2 a0 t552 t556 (x12_2 ++ [(([ji27,ji28]:List Int))]) x37_1 t552 (t552.length:Int) x37_1 x37_1 (wrap64 (x46_2+1)) ((aD t552 x37_1).f0) ((aD t552 x37_1).f1) ((aD t552 x37_1).f2)) else (none))=some (r1,r2):=by first|(rw [hji28] at H;exact H)|(simp only [hji28] at H ⊢;exact H)
         (try rw [hji28] at A22)
         have hji28_:(if (rd t556 x37_1)<(rd t556 x46_2) then (rd t556 x46_2) else (rd t556 x37_1))=ji28:=hji28
         obtain ⟨y573,hy573⟩:∃ y_:List Int,y_=(([ji27,ji28]:List Int)):=⟨_,rfl⟩
         replace H:(if x12_2.length<5864062014805 then (aU.l1 k2 a0 t552 t556 (x12_2 ++ [y573]) x37_1 t552 (t552.length:Int) x37_1 x37_1 (wrap64 (x46_2+1)) ((aD t552 x37_1).f0) ((aD t552 x37_1).f1) ((aD t552 x37_1).f2)) else (none))=some (r1,r2):=rH hy573 H
         have Ny573:=aA.mk hy573
         clear hy573
         by_cases c29:x12_2.length<5864062014805
         rotate_left
         ·
          rw [if_neg c29] at H
          exact absurd H (by simp)
         rw [if_pos c29] at H
         have LMc29:=aA.mk c29
         clear c29
         obtain ⟨y576,hy576⟩:∃ y_:List (List Int),y_=(x12_2 ++ [y573]):=⟨_,rfl⟩
         replace H:(aU.l1 k2 a0 t552 t556 y576 x37_1 t552 (t552.length:Int) x37_1 x37_1 (wrap64 (x46_2+1)) ((aD t552 x37_1).f0) ((aD t552 x37_1).f1) ((aD t552 x37_1).f2))=some (r1,r2):=rH hy576 H
         have Ny576:=aA.mk hy576
         clear hy576
         have H':=aA.mk H
         clear H
         have p566:0≤(x46_2:Int):=dA
         have q566:x46_2<(t552.length:Int):=dA
         obtain ⟨ad566,e566,hx566_0,hx566_1,hx566_2⟩:=cu (Kd.R_reads' HO_9.out).2.2 x46_2 p566 q566
         obtain rfl:ad564=ad566:=(by injection e566)
         replace p566:=eq_true p566
         replace q566:=eq_true q566
         have hmy_:x46_2<max x37_1 0:=by have h1_:=of_decide_eq_true c20b0;have h2_:=of_decide_eq_true c19b0;omega
         try go_wp2_with (first|((with_reducible refine aN (N:=16) rfl ?_);refine bxE (cs:=#[.int .i64 0,.int .i64 0,.int .i64 0]) (t:=43) ?_;intro gb567 hg w30 hbox hb;have n0_:=aA.mk (Kd.R_below (Kd.R_elderB (rA HO_9) gb567 (Nat.le_of_eq hg.symm)) hb);have n1_:=aA.mk (Kd.R_below (rA HO_11) hb);have n2_:=aA.mk (Kd.S_below (by (with_reducible repeat (first|apply Kd.S_alloc|apply Kd.S_drewN|apply Kd.S_drew));exact HO_12.out) hb);have n3_:=aA.mk (Kd.R_below (Kd.R_elderB (rA HO_35) gb567 (Nat.le_of_eq hg.symm)) hb);have n4_:=kB BK565 hb;have n5_:=lB hb;have n6_:=aA.mk hbox;have n7_:=sA hg;have n8_:=sA hg;have n9_:=nA hg BK565;have n10_:=nB hg BK565;clear HO_9;clear HO_11;clear HO_12;clear HO_35;clear BK565;clear HB;have HO_9:=n0_;have HO_11:=n1_;have HO_12:=n2_;have HO_35:=n3_;have BK565:=n4_;have HB:=n5_;have BK567:=n6_;have GW567:=n7_;have GE567:=n8_;have NB565_567:=n9_;have NB567_565:=n10_;clear n0_ n1_ n2_ n3_ n4_ n5_ n6_ n7_ n8_ n9_ n10_;clear hb hbox hg;have hnb31:=NB567_565.out;have hnc31:=NB565_567.out;obtain ⟨hcz32_0,hcz32_1,hcz32_2,hfz32_0,hfz32_1,hfz32_2⟩:=cz3 BK567;obtain ⟨hcz33_0,hcz33_1,hcz33_2,hfz33_0,hfz33_1,hfz33_2⟩:=cz3 BK565)|((with_reducible refine gd 54 rfl ?_);refine gC (some 54) rfl Tryz.func35 (bG.calls (w:=_) (h:=A22.out)) ?_;intro w34 hb;have n0_:=aA.mk (Kd.R_below (by (with_reducible repeat (first|apply Kd.R_alloc|apply Kd.R_drewN|apply Kd.R_drew));exact (Kd.R_mono (Kd.R_far (p:=⟨gb567,2,none⟩) (Kd.R_far (p:=⟨gb567,1,none⟩) (Kd.R_far (p:=⟨gb567,0,none⟩) (Kd.R_mono HO_9.out (fun k_ hk=>(⟨hk,hk.2⟩:_∧k_≠gb567))) (fun _ hk=>hk.2) (.int .i64 ((aD t552 x46_2).f0))) (fun _ hk=>hk.2) (.int .i64 ((aD t552 x46_2).f1))) (fun _ hk=>hk.2) (.int .i64 ((aD t552 x46_2).f2))) (fun _ h_=>h_.1))) hb);have n1_:=aA.mk (Kd.R_below (by (with_reducible repeat (first|apply Kd.R_alloc|apply Kd.R_drewN|apply Kd.R_drew));exact (Kd.R_mono (Kd.R_far (p:=⟨gb567,2,none⟩) (Kd.R_far (p:=⟨gb567,1,none⟩) (Kd.R_far (p:=⟨gb567,0,none⟩) (Kd.R_types HO_11.out BK567.out (by decide)) (fun _ hk=>hk.2) (.int .i64 ((aD t552 x46_2).f0))) (fun _ hk=>hk.2) (.int .i64 ((aD t552 x46_2).f1))) (fun _ hk=>hk.2) (.int .i64 ((aD t552 x46_2).f2))) (fun _ h_=>h_.1))) hb);have n2_:=aA.mk (Kd.S_below (by (with_reducible repeat (first|apply Kd.S_alloc|apply Kd.S_drewN|apply Kd.S_drew));exact (Kd.S_mono (Kd.S_far (p:=⟨gb567,2,none⟩) (Kd.S_far (p:=⟨gb567,1,none⟩) (Kd.S_far (p:=⟨gb567,0,none⟩) (Kd.S_types HO_12.out BK567.out (by decide)) (fun _ hk=>hk.2) (.int .i64 ((aD t552 x46_2).f0))) (fun _ hk=>hk.2) (.int .i64 ((aD t552 x46_2).f1))) (fun _ hk=>hk.2) (.int .i64 ((aD t552 x46_2).f2))) (fun _ h_=>h_.1))) hb);have n3_:=aA.mk (Kd.R_below (by (with_reducible repeat (first|apply Kd.R_alloc|apply Kd.R_drewN|apply Kd.R_drew));exact (Kd.R_mono (Kd.R_far (p:=⟨gb567,2,none⟩) (Kd.R_far (p:=⟨gb567,1,none⟩) (Kd.R_far (p:=⟨gb567,0,none⟩) (Kd.R_mono HO_35.out (fun k_ hk=>(⟨hk,hk.2⟩:_∧k_≠gb567))) (fun _ hk=>hk.2) (.int .i64 ((aD t552 x46_2).f0))) (fun _ hk=>hk.2) (.int .i64 ((aD t552 x46_2).f1))) (fun _ hk=>hk.2) (.int .i64 ((aD t552 x46_2).f2))) (fun _ h_=>h_.1))) hb);have n4_:=aA.mk (bL (g:=gb565) (o:=.cells #[.int .i64 ((aD t552 x37_1).f0),.int .i64 ((aD t552 x37_1).f1),.int .i64 ((aD t552 x37_1).f2)] 43 (0,0)) (bkF BK565) hb);have n5_:=aA.mk (bL (g:=gb567) (o:=.cells #[.int .i64 ((aD t552 x46_2).f0),.int .i64 ((aD t552 x46_2).f1),.int .i64 ((aD t552 x46_2).f2)] 43 (0,0)) (bpA BK567) hb);have n6_:=lB hb;clear HO_9;clear HO_11;clear HO_12;clear HO_35;clear BK565;clear BK567;clear HB;have HO_9:=n0_;have HO_11:=n1_;have HO_12:=n2_;have HO_35:=n3_;have BK565:=n4_;have BK567:=n5_;have HB:=n6_;clear n0_ n1_ n2_ n3_ n4_ n5_ n6_;clear hb))
         have n0_:=aA.mk (Kd.R_drew HO_9.out)
         have n1_:=aA.mk (Kd.R_drew HO_11.out)
         have n2_:=aA.mk (Kd.S_drew HO_12.out)
         have n3_:=aA.mk (Kd.R_drew HO_35.out)
         have n4_:=aA.mk (ac BK565.out)
         have n5_:=aA.mk (ac BK567.out)
         have n6_:=aA.mk (al HB.out)
         clear HO_9
         clear HO_11
         clear HO_12
         clear HO_35
         clear BK565
         clear BK567
         clear HB
         have HO_9:=n0_
         have HO_11:=n1_
         have HO_12:=n2_
         have HO_35:=n3_
         have BK565:=n4_
         have BK567:=n5_
         have HB:=n6_
         clear n0_ n1_ n2_ n3_ n4_ n5_ n6_
         obtain ⟨Ao36,co36,eo36⟩:=Kd.R_slice HO_11.out
         (first|subst eo36|(injection eo36 with f1_ f2_ f3_;have f4_:=f1_.symm;have f5_:=f3_.symm;clear f1_ f2_ f3_;subst f4_;subst f5_))
         have p569:0≤(x37_1:Int):=dA
         have q569:x37_1<(t556.length:Int):=dA
         obtain ⟨ad569,e569,hx569_0⟩:=Kd.at_int (Kd.R_reads' HO_11.out).2.2 x37_1 p569 q569
         cases e569
         replace p569:=eq_true p569
         replace q569:=eq_true q569
         have p570:0≤(x46_2:Int):=dA
         have q570:x46_2<(t556.length:Int):=dA
         obtain ⟨ad570,e570,hx570_0⟩:=Kd.at_int (Kd.R_reads' HO_11.out).2.2 x46_2 p570 q570
         obtain rfl:ad569=ad570:=(by injection e570)
         replace p570:=eq_true p570
         replace q570:=eq_true q570
         have p571:0≤(x37_1:Int):=dA
         have q571:x37_1<(t556.length:Int):=dA
         obtain ⟨ad571,e571,hx571_0⟩:=Kd.at_int (Kd.R_reads' HO_11.out).2.2 x37_1 p571 q571
         obtain rfl:ad569=ad571:=(by injection e571)
         replace p571:=eq_true p571
         replace q571:=eq_true q571
         have p572:0≤(x46_2:Int):=dA
         have q572:x46_2<(t556.length:Int):=dA
         obtain ⟨ad572,e572,hx572_0⟩:=Kd.at_int (Kd.R_reads' HO_11.out).2.2 x46_2 p572 q572
         obtain rfl:ad569=ad572:=(by injection e572)
         replace p572:=eq_true p572
         replace q572:=eq_true q572
         refine b7 (n:=23) (S:=fun w'=>w'.cell? (ad569.add (x37_1).toNat)=some (.int .i64 (rd t556 x37_1))∧w'.cell? (ad569.add (x46_2).toNat)=some (.int .i64 (rd t556 x46_2))∧w'.cell? (ad569.add (x37_1).toNat)=some (.int .i64 (rd t556 x37_1))∧w'.cell? (ad569.add (x46_2).toNat)=some (.int .i64 (rd t556 x46_2))) (ds:=[20,21]) #[Z,Z,Z,Z,Z,Z,Z,Z,Z,Z,Z,Z,Z,Z,Z,Z,Z,Z,Z,Z,Z,Z,Z] (by kernel_rfl) rfl rfl ⟨hx569_0,hx570_0,hx571_0,hx572_0⟩ (fun hHeld=>?_);refine bT aU.tab14 aU.bits14 (fun HT_ HW_=>?_)
         generalize w34.drew=w35 at HO_9 HO_11 HO_12 HO_35 BK565 BK567 HB hx569_0 hx570_0 hx571_0 hx572_0 hHeld ⊢
         refine puA (i:=0) (N:=some 56) #[Y,Z,Z,Z,Z,Z,Z,Z,Z,Z,Z,Z,Z,Z,Z,Z,Z,Z,Z,Z,Z,Z,Z] rfl rfl HT_ ?_
         refine puA (i:=1) (N:=some 57) #[Y,Y,Z,Z,Z,Z,Z,Z,Z,Z,Z,Z,Z,Z,Z,Z,Z,Z,Z,Z,Z,Z,Z] rfl rfl HT_ ?_
         refine puA (i:=2) (N:=some 58) #[Y,Y,Y,Z,Z,Z,Z,Z,Z,Z,Z,Z,Z,Z,Z,Z,Z,Z,Z,Z,Z,Z,Z] rfl rfl HT_ ?_
         refine puA (i:=3) (N:=some 59) #[Y,Y,Y,Y,Z,Z,Z,Z,Z,Z,Z,Z,Z,Z,Z,Z,Z,Z,Z,Z,Z,Z,Z] rfl rfl HT_ ?_
         refine puA (i:=5) (N:=some 61) #[Y,Y,Y,Y,Z,Y,Z,Z,Z,Z,Z,Z,Z,Z,Z,Z,Z,Z,Z,Z,Z,Z,Z] rfl rfl HT_ ?_
         refine puA (i:=6) (N:=some 62) #[Y,Y,Y,Y,Z,Y,Y,Z,Z,Z,Z,Z,Z,Z,Z,Z,Z,Z,Z,Z,Z,Z,Z] rfl rfl HT_ ?_
         refine puA (i:=7) (N:=some 63) #[Y,Y,Y,Y,Z,Y,Y,Y,Z,Z,Z,Z,Z,Z,Z,Z,Z,Z,Z,Z,Z,Z,Z] rfl rfl HT_ ?_
         refine puA (i:=10) (N:=some 66) #[Y,Y,Y,Y,Z,Y,Y,Y,Z,Z,Y,Z,Z,Z,Z,Z,Z,Z,Z,Z,Z,Z,Z] rfl rfl HT_ ?_
         refine puA (i:=11) (N:=some 67) #[Y,Y,Y,Y,Z,Y,Y,Y,Z,Z,Y,Y,Z,Z,Z,Z,Z,Z,Z,Z,Z,Z,Z] rfl rfl HT_ ?_
         refine puA (i:=12) (N:=some 68) #[Y,Y,Y,Y,Z,Y,Y,Y,Z,Z,Y,Y,Y,Z,Z,Z,Z,Z,Z,Z,Z,Z,Z] rfl rfl HT_ ?_
         refine puA (i:=14) (N:=some 70) #[Y,Y,Y,Y,Z,Y,Y,Y,Z,Z,Y,Y,Y,Z,Y,Z,Z,Z,Z,Z,Z,Z,Z] rfl rfl HT_ ?_
         refine puA (i:=15) (N:=some 71) #[Y,Y,Y,Y,Z,Y,Y,Y,Z,Z,Y,Y,Y,Z,Y,Y,Z,Z,Z,Z,Z,Z,Z] rfl rfl HT_ ?_
         refine puA (i:=16) (N:=some 72) #[Y,Y,Y,Y,Z,Y,Y,Y,Z,Z,Y,Y,Y,Z,Y,Y,Y,Z,Z,Z,Z,Z,Z] rfl rfl HT_ ?_
         refine taA (i:=4) (N:=some 60) #[Y,Y,Y,Y,Y,Y,Y,Y,Z,Z,Y,Y,Y,Z,Y,Y,Y,Z,Z,Z,Z,Z,Z] rfl rfl HT_ HW_ hHeld ?_
         refine taA (i:=8) (N:=some 64) #[Y,Y,Y,Y,Y,Y,Y,Y,Y,Z,Y,Y,Y,Z,Y,Y,Y,Z,Z,Z,Z,Z,Z] rfl rfl HT_ HW_ hHeld ?_
         refine puA (i:=9) (N:=some 65) #[Y,Y,Y,Y,Y,Y,Y,Y,Y,Y,Y,Y,Y,Z,Y,Y,Y,Z,Z,Z,Z,Z,Z] rfl rfl HT_ ?_
         refine taA (i:=13) (N:=some 69) #[Y,Y,Y,Y,Y,Y,Y,Y,Y,Y,Y,Y,Y,Y,Y,Y,Y,Z,Z,Z,Z,Z,Z] rfl rfl HT_ HW_ hHeld ?_
         refine taA (i:=17) (N:=some 73) #[Y,Y,Y,Y,Y,Y,Y,Y,Y,Y,Y,Y,Y,Y,Y,Y,Y,Y,Z,Z,Z,Z,Z] rfl rfl HT_ HW_ hHeld ?_
         refine puA (i:=18) (N:=some 74) #[Y,Y,Y,Y,Y,Y,Y,Y,Y,Y,Y,Y,Y,Y,Y,Y,Y,Y,Y,Z,Z,Z,Z] rfl rfl HT_ ?_
         refine cV (i:=19) (N:=some 75) #[Y,Y,Y,Y,Y,Y,Y,Y,Y,Y,Y,Y,Y,Y,Y,Y,Y,Y,Y,Y,Z,Z,Z] rfl rfl (bX HT_.out (by kernel_rfl)) (by decide) (fun K hK=>?_)
         refine Kd.R_lit_step (Kd.int .i64) _ 2 ?hg (N:=75) ?hd (xs:=([ji27,ji28]:List Int)) (inner:=[.int .i64 ji27,.int .i64 ji28]) (ok:=fun _=>True) (okp:=fun _=>True) ?hr ?hp (fun _ hk=>hk) trivial (Below.refl _ _) (Nat.le_refl _) (by simp) ?_;(case hd=>rfl);(case hg=>rfl);(case hr=>first|(go_simp;done)|(go_simp;rfl));(case hp=>exact (bD.one (show Kd.M (Kd.int .i64) _ _ _ ji27 [.int .i64 ji27] from rfl) (bD.one (show Kd.M (Kd.int .i64) _ _ _ ji28 [.int .i64 ji28] from rfl) (bD.none _ _))))
         intro v574 w37 ho38 hb hg_ hnew_
         have HS0_:=(hb.cell (World.block_lt_of_cell? _ _ (hHeld.1))).trans (hHeld.1)
         have HS1_:=(hb.cell (World.block_lt_of_cell? _ _ (hHeld.2.1))).trans (hHeld.2.1)
         have HS2_:=(hb.cell (World.block_lt_of_cell? _ _ (hHeld.2.2.1))).trans (hHeld.2.2.1)
         have HS3_:=(hb.cell (World.block_lt_of_cell? _ _ (hHeld.2.2.2))).trans (hHeld.2.2.2)
         clear hg_ hnew_
         (first|rw [← Ny573.out] at ho38|(simp only [Int.reduceToNat] at ho38;rw [← Ny573.out] at ho38))
         have HO575:=aA.mk (Kd.R_lower (Kd.R_new' ho38 (Kd.R_lt (rA HO_11))) (aQ blA))
         replace HO_9:=aA.mk (Kd.R_below (rA HO_9) hb)
         replace HO_11:=aA.mk (Kd.R_elder' (rA HO_11) (Kd.R_base ho38) hb)
         replace HO_12:=aA.mk (Kd.S_elder' (by (with_reducible repeat (first|apply Kd.S_alloc|apply Kd.S_drewN|apply Kd.S_drew));exact HO_12.out) (Kd.R_base ho38) hb)
         replace HO_35:=aA.mk (Kd.R_below (rA HO_35) hb)
         replace BK565:=kB BK565 hb
         replace BK567:=kB BK567 hb
         replace HB:=lB hb
         clear hb ho38
         obtain ⟨Ao40,co40,eo40⟩:=Kd.R_slice HO575.out
         (first|subst eo40|(injection eo40 with f1_ f2_ f3_;have f4_:=f1_.symm;have f5_:=f3_.symm;clear f1_ f2_ f3_;subst f4_;subst f5_))
         refine hK.out _ _ ⟨HS0_,HS1_,HS2_,HS3_⟩ (fun hHeld=>?_)
         clear hK K
         refine nmA ?_
         refine last_ (i:=20) (N:=some 76) #[Y,Y,Y,Y,Y,Y,Y,Y,Y,Y,Y,Y,Y,Y,Y,Y,Y,Y,Y,Y,Y,Z,Z] rfl rfl (bX HT_.out (by kernel_rfl)) (by decide) (fun K hK=>?_)
         refine value_ (w1:=?_) (v:=?_) (by rfl) rfl ?_ ?_
         rotate_left 2
         ·
          go_simp
          constructor
          ·
           rfl
          ·
           rfl
         refine hK.out _ _ ?_
         clear hK K
         refine nmA ?_
         refine last_ (i:=21) (N:=some 77) #[Y,Y,Y,Y,Y,Y,Y,Y,Y,Y,Y,Y,Y,Y,Y,Y,Y,Y,Y,Y,Y,Y,Z] rfl rfl (bX HT_.out (by kernel_rfl)) (by decide) (fun K hK=>?_)
         refine Kd.S_append_step (Kd.slice 2 (Kd.int .i64)) (w0:=w) w.heap.size (by rfl) (.tmp 56) (.tmp 76) 24 50 (.slice none 0 0) 24 rfl Tryz.underlying24 info50 rfl (by decide) (by omega) u12 x12_2 y573 [.slice Ao40 y573.length co40] (fun k_=>some k_≠(.slice (some ad569) t556.length co36:Value).ownBlock) (fun k_=>some k_=(.slice Ao40 y573.length co40:Value).ownBlock) rfl rfl ?aP (fun k_ hk_=>((Kd.R_mono (ok':=fun k_=>((fun k_=>some k_≠(.slice (some ad569) t556.length co36:Value).ownBlock)) k_∧some k_≠(u12:Value).ownBlock) (Kd.R_apart' (HO575.out) (Kd.S_typed HO_12.out) (by decide)) (fun k_ hk=>⟨hk.1.2,hk.2⟩))).1 k_ hk_.symm) ?aF ?aO ?aB ?aS ?aL ?_
         (case aP=>exact Kd.M_row (Kd.R_mono (Kd.R_tight rfl (Kd.R_mono (ok':=fun k_=>((fun k_=>some k_≠(.slice (some ad569) t556.length co36:Value).ownBlock)) k_∧some k_≠(u12:Value).ownBlock) (Kd.R_apart' (HO575.out) (Kd.S_typed HO_12.out) (by decide)) (fun k_ hk=>⟨hk.1.2,hk.2⟩))) (fun _ h_=>h_)))
         (case aB=>exact blA)
         (case aF=>exact (fun k_ hk=>Kd.fresh' (Kd.R_lt (rA HO_11)) k_ hk))
         (case aO=>exact (by (with_reducible repeat (first|apply Kd.S_alloc|apply Kd.S_drewN|apply Kd.S_drew));exact Kd.S_mono HO_12.out (fun k_ hk=>⟨hk.1,fun e_=>hk.2 e_⟩)))
         (case aS=>exact (aQ blA))
         (case aL=>have:=LMc29.out;omega)
         intro v577 w39 ho hb hg hat
         rw [← Ny576.out] at ho
         have HO578:=aA.mk ho
         replace HO_9:=aA.mk (Kd.R_over' (rA HO_9) (Kd.S_typed (by (with_reducible repeat (first|apply Kd.S_alloc|apply Kd.S_drewN|apply Kd.S_drew));exact HO_12.out)) (by decide) hg)
         replace HO_11:=aA.mk (Kd.R_over' (rA HO_11) (Kd.S_typed (by (with_reducible repeat (first|apply Kd.S_alloc|apply Kd.S_drewN|apply Kd.S_drew));exact HO_12.out)) (by decide) hg)
         replace HO_35:=aA.mk (Kd.R_over' (rA HO_35) (Kd.S_typed (by (with_reducible repeat (first|apply Kd.S_alloc|apply Kd.S_drewN|apply Kd.S_drew));exact HO_12.out)) (by decide) hg)
         replace BK565:=aA.mk (bu (bkA BK565) hg (Kd.S_ne HO_12.out BK565.out (by decide)))
         replace BK567:=aA.mk (bu (bkA BK567) hg (Kd.S_ne HO_12.out BK567.out (by decide)))
         replace HB:=aA.mk hb
         clear HO_12 HO575
         clear ho hb hg hat
         refine hK.out _ _ ?_
         clear hK K
         refine nmA ?_
         refine puA (i:=22) (N:=some 12) #[Y,Y,Y,Y,Y,Y,Y,Y,Y,Y,Y,Y,Y,Y,Y,Y,Y,Y,Y,Y,Y,Y,Y] rfl rfl HT_ ?_
         refine cg (br HT_.out (by kernel_rfl)) ?_
         try go_wp2
         go_roundg k2
         case measure=>have:=HK1.out;have:=HK2.out;omega
         case rel=>exact ⟨(y576),(wrap64 (x46_2+1)),hB,H',⟨by have:=HK1.out;have:=HK2.out;omega⟩,⟨by (with_reducible repeat (first|apply Kd.R_alloc|apply Kd.R_drewN|apply Kd.R_drew));exact Kd.R_mono HO_9.out (fun _ hk=>hk.1)⟩,⟨by (with_reducible repeat (first|apply Kd.R_alloc|apply Kd.R_drewN|apply Kd.R_drew));exact Kd.R_mono HO_11.out (fun _ hk=>trivial)⟩,⟨by (with_reducible repeat (first|apply Kd.S_alloc|apply Kd.S_drewN|apply Kd.S_drew));exact HO578.out⟩,⟨by (with_reducible repeat (first|apply Kd.R_alloc|apply Kd.R_drewN|apply Kd.R_drew));exact Kd.R_mono HO_35.out (fun _ hk=>hk.1)⟩,⟨bkA BK565⟩,⟨blA⟩⟩
        ·
         rw [if_neg c23] at H
         have c23b0:(t568 == 1)=false:=beq_eq_false_iff_ne.mpr c23
         have c23b1:(t568 != 1)=true:=bne_iff_ne.mpr c23
         have H':=aA.mk H
         clear H
         have p566:0≤(x46_2:Int):=dA
         have q566:x46_2<(t552.length:Int):=dA
         obtain ⟨ad566,e566,hx566_0,hx566_1,hx566_2⟩:=cu (Kd.R_reads' HO_9.out).2.2 x46_2 p566 q566
         obtain rfl:ad564=ad566:=(by injection e566)
         replace p566:=eq_true p566
         replace q566:=eq_true q566
         have hmy_:x46_2<max x37_1 0:=by have h1_:=of_decide_eq_true c20b0;have h2_:=of_decide_eq_true c19b0;omega
         go_wp2_with (first|((with_reducible refine aN (N:=16) rfl ?_);refine bxE (cs:=#[.int .i64 0,.int .i64 0,.int .i64 0]) (t:=43) ?_;intro gb567 hg w41 hbox hb;have n0_:=aA.mk (Kd.R_below (Kd.R_elderB (rA HO_9) gb567 (Nat.le_of_eq hg.symm)) hb);have n1_:=aA.mk (Kd.R_below (rA HO_11) hb);have n2_:=aA.mk (Kd.S_below (by (with_reducible repeat (first|apply Kd.S_alloc|apply Kd.S_drewN|apply Kd.S_drew));exact HO_12.out) hb);have n3_:=aA.mk (Kd.R_below (Kd.R_elderB (rA HO_35) gb567 (Nat.le_of_eq hg.symm)) hb);have n4_:=kB BK565 hb;have n5_:=lB hb;have n6_:=aA.mk hbox;have n7_:=sA hg;have n8_:=sA hg;have n9_:=nA hg BK565;have n10_:=nB hg BK565;clear HO_9;clear HO_11;clear HO_12;clear HO_35;clear BK565;clear HB;have HO_9:=n0_;have HO_11:=n1_;have HO_12:=n2_;have HO_35:=n3_;have BK565:=n4_;have HB:=n5_;have BK567:=n6_;have GW567:=n7_;have GE567:=n8_;have NB565_567:=n9_;have NB567_565:=n10_;clear n0_ n1_ n2_ n3_ n4_ n5_ n6_ n7_ n8_ n9_ n10_;clear hb hbox hg;have hnb42:=NB567_565.out;have hnc42:=NB565_567.out;obtain ⟨hcz43_0,hcz43_1,hcz43_2,hfz43_0,hfz43_1,hfz43_2⟩:=cz3 BK567;obtain ⟨hcz44_0,hcz44_1,hcz44_2,hfz44_0,hfz44_1,hfz44_2⟩:=cz3 BK565)|((with_reducible refine gd 54 rfl ?_);refine gC (some 54) rfl Tryz.func35 (bG.calls (w:=_) (h:=A22.out)) ?_;intro w45 hb;have n0_:=aA.mk (Kd.R_below (by (with_reducible repeat (first|apply Kd.R_alloc|apply Kd.R_drewN|apply Kd.R_drew));exact (Kd.R_mono (Kd.R_far (p:=⟨gb567,2,none⟩) (Kd.R_far (p:=⟨gb567,1,none⟩) (Kd.R_far (p:=⟨gb567,0,none⟩) (Kd.R_mono HO_9.out (fun k_ hk=>(⟨hk,hk.2⟩:_∧k_≠gb567))) (fun _ hk=>hk.2) (.int .i64 ((aD t552 x46_2).f0))) (fun _ hk=>hk.2) (.int .i64 ((aD t552 x46_2).f1))) (fun _ hk=>hk.2) (.int .i64 ((aD t552 x46_2).f2))) (fun _ h_=>h_.1))) hb);have n1_:=aA.mk (Kd.R_below (by (with_reducible repeat (first|apply Kd.R_alloc|apply Kd.R_drewN|apply Kd.R_drew));exact (Kd.R_mono (Kd.R_far (p:=⟨gb567,2,none⟩) (Kd.R_far (p:=⟨gb567,1,none⟩) (Kd.R_far (p:=⟨gb567,0,none⟩) (Kd.R_types HO_11.out BK567.out (by decide)) (fun _ hk=>hk.2) (.int .i64 ((aD t552 x46_2).f0))) (fun _ hk=>hk.2) (.int .i64 ((aD t552 x46_2).f1))) (fun _ hk=>hk.2) (.int .i64 ((aD t552 x46_2).f2))) (fun _ h_=>h_.1))) hb);have n2_:=aA.mk (Kd.S_below (by (with_reducible repeat (first|apply Kd.S_alloc|apply Kd.S_drewN|apply Kd.S_drew));exact (Kd.S_mono (Kd.S_far (p:=⟨gb567,2,none⟩) (Kd.S_far (p:=⟨gb567,1,none⟩) (Kd.S_far (p:=⟨gb567,0,none⟩) (Kd.S_types HO_12.out BK567.out (by decide)) (fun _ hk=>hk.2) (.int .i64 ((aD t552 x46_2).f0))) (fun _ hk=>hk.2) (.int .i64 ((aD t552 x46_2).f1))) (fun _ hk=>hk.2) (.int .i64 ((aD t552 x46_2).f2))) (fun _ h_=>h_.1))) hb);have n3_:=aA.mk (Kd.R_below (by (with_reducible repeat (first|apply Kd.R_alloc|apply Kd.R_drewN|apply Kd.R_drew));exact (Kd.R_mono (Kd.R_far (p:=⟨gb567,2,none⟩) (Kd.R_far (p:=⟨gb567,1,none⟩) (Kd.R_far (p:=⟨gb567,0,none⟩) (Kd.R_mono HO_35.out (fun k_ hk=>(⟨hk,hk.2⟩:_∧k_≠gb567))) (fun _ hk=>hk.2) (.int .i64 ((aD t552 x46_2).f0))) (fun _ hk=>hk.2) (.int .i64 ((aD t552 x46_2).f1))) (fun _ hk=>hk.2) (.int .i64 ((aD t552 x46_2).f2))) (fun _ h_=>h_.1))) hb);have n4_:=aA.mk (bL (g:=gb565) (o:=.cells #[.int .i64 ((aD t552 x37_1).f0),.int .i64 ((aD t552 x37_1).f1),.int .i64 ((aD t552 x37_1).f2)] 43 (0,0)) (bkF BK565) hb);have n5_:=aA.mk (bL (g:=gb567) (o:=.cells #[.int .i64 ((aD t552 x46_2).f0),.int .i64 ((aD t552 x46_2).f1),.int .i64 ((aD t552 x46_2).f2)] 43 (0,0)) (bpA BK567) hb);have n6_:=lB hb;clear HO_9;clear HO_11;clear HO_12;clear HO_35;clear BK565;clear BK567;clear HB;have HO_9:=n0_;have HO_11:=n1_;have HO_12:=n2_;have HO_35:=n3_;have BK565:=n4_;have BK567:=n5_;have HB:=n6_;clear n0_ n1_ n2_ n3_ n4_ n5_ n6_;clear hb))
         go_roundg k2
         case measure=>have:=HK1.out;have:=HK2.out;omega
         case rel=>exact ⟨(x12_2),(wrap64 (x46_2+1)),hB,H',⟨by have:=HK1.out;have:=HK2.out;omega⟩,⟨by (with_reducible repeat (first|apply Kd.R_alloc|apply Kd.R_drewN|apply Kd.R_drew));exact Kd.R_mono HO_9.out (fun _ hk=>hk.1)⟩,⟨rA HO_11⟩,⟨by (with_reducible repeat (first|apply Kd.S_alloc|apply Kd.S_drewN|apply Kd.S_drew));exact HO_12.out⟩,⟨by (with_reducible repeat (first|apply Kd.R_alloc|apply Kd.R_drewN|apply Kd.R_drew));exact Kd.R_mono HO_35.out (fun _ hk=>hk.1)⟩,⟨bkA BK565⟩,⟨blA⟩⟩
       ·
        rw [if_neg c19] at H
        have c19b0:=decide_eq_false c19
        clear c19
        have H':=aA.mk H
        clear H
        go_wp2
        go_roundg k2
        case measure=>have:=HK1.out;have:=HK2.out;omega
        case rel=>exact ⟨(x12_2),(wrap64 (x37_1+1)),hB,H',⟨by have:=HK1.out;have:=HK2.out;omega⟩,⟨by (with_reducible repeat (first|apply Kd.R_alloc|apply Kd.R_drewN|apply Kd.R_drew));exact Kd.R_mono HO_9.out (fun _ hk=>trivial)⟩,⟨rA HO_11⟩,⟨by (with_reducible repeat (first|apply Kd.S_alloc|apply Kd.S_drewN|apply Kd.S_drew));exact HO_12.out⟩,⟨by (with_reducible repeat (first|apply Kd.R_alloc|apply Kd.R_drewN|apply Kd.R_drew));exact Kd.R_mono HO_35.out (fun _ hk=>trivial)⟩,⟨blA⟩⟩
    ·
     rw [if_neg c14] at H
     have c14b0:=decide_eq_false c14
     clear c14
     by_cases c90:x12_1.length<4611686018427387904
     rotate_left
     ·
      rw [if_neg c90] at H
      exact absurd H (by simp)
     rw [if_pos c90] at H
     have LMc90:=aA.mk c90
     clear c90
     simp only [Option.some.injEq,Prod.mk.injEq] at H
     obtain ⟨rfl,rfl⟩:=H
     go_wp2_with (first|(go_at_call 36;(with_reducible refine (slices_SortFunc.calls _ _ _ _ x12_1 HO_12.out LMc90.out).mono ?_);rintro e w_ ⟨rfl,hs_,hg_⟩;have n1_:=aA.mk (Below.grown HB.out hg_ (aQ HB.out) (Kd.S_base HO_12.out));have n0_:=aA.mk hs_;clear HO_12 HB hs_ hg_;have HO_12:=n0_;have HB:=n1_;clear n0_ n1_)|(go_at_call 38;(with_reducible refine (aG.calls _ _ _ _ (au.srt x12_1) HO_12.out).mono ?_);rintro e w_ ⟨v9_,rfl,hs_,hg_⟩;have n1_:=aA.mk (Below.grown HB.out hg_ (aQ HB.out) (Kd.S_base HO_12.out));have n0_:=aA.mk hs_;clear HO_12 HB hs_ hg_;have HO_12:=n0_;have HB:=n1_;clear n0_ n1_))
     go_ret2
     exact ⟨_,eW,by (with_reducible repeat (first|apply Kd.S_alloc|apply Kd.S_drewN|apply Kd.S_drew));exact Kd.S_mono HO_12.out (fun _ hk=>trivial),blA⟩
 ·
  go_ret2
  exact ⟨_,eW,by first|exact Kd.S_nil _ _ _ _ _|exact Kd.N_nil _ _ _ _ _|exact Kd.V_nil _ _ _ _ _|exact Kd.Q_nil _ _ _ _ _|exact Kd.R_nil _ _ _ _ _,blA⟩
end Go.Proofs.YtnhiehpbkimaeaaGreat.PAll
