import Derived.Test.YtpihnmmoahplgaaQx
import Derived.Test.YtpihnmmoahplgaaQimplareBalls
import Derived.Test.YtpihnmmoahplgaaQimplfourCode
import Derived.Test.YtpihnmmoahplgaaQimplfractionsCode
import Derived.Test.YtpihnmmoahplgaaQimpltimes
import Derived.Test.YtpihnmmoahplgaaQspecl01End
import Derived.Test.YtpihnmmoahplgaaQspecl05Code
import Derived.Test.YtpihnmmoahplgaaQspecl05Gap
import Derived.Test.YtpihnmmoahplgaaQspecl05Side
namespace Go.Proofs.Ytpihnmmoahplgaa.PAll
open Go.RowKit Go.Proofs.YtpihnmmoahplgaaW.PrintWords Go.Proofs.YtpihnmmoahplgaaW.PrintLast Go.Proofs.YtpihnmmoahplgaaW.PrintMore
attribute [local go_sem] Go.Proofs.Ytpihnmmoahplgaa.Aux.setCell_drewN Go.Proofs.Ytpihnmmoahplgaa.Aux.isSome_setCell Go.Proofs.Ytpihnmmoahplgaa.Aux.max_eight bq bo cG cF ba bZ bp bm
set_option linter.unusedVariables false
set_option linter.unusedSimpArgs false
mutual
def aN.j0:Nat→Int→Int→Int→Bool→Int→Int→Int→Int→Option ((List (S25)) × Int)
 | 0,_,_,_,_,_,_,_,_=>none
 | k+1,x0,x3,x10,x28,x316000,x316001,x317000,x317001=>if x28=true then (aN.j1 k x0 x3 2 x316000 x316001 x317000 x317001) else (aN.j1 k x0 x3 x10 x316000 x316001 x317000 x317001)
def aN.j1:Nat→Int→Int→Int→Int→Int→Int→Int→Option ((List (S25)) × Int)
 | 0,_,_,_,_,_,_,_=>none
 | k+1,x0,x3,x10,x316000,x316001,x317000,x317001=>if x10=0 then (if x317001=0 then ((bD.f k x0 x316000 x316001 x3 (wrap64 (-x3))).bind fun bt322=>(aN.j2 k bt322.1 ([]:List (S25)) bt322.2 true)) else (if x316001=0 then ((bD.f k x0 x317000 x317001 (wrap64 (-x3)) x3).bind fun bt326=>(aN.j2 k bt326.1 ([]:List (S25)) bt326.2 true)) else ((bN.f k x0 x316000 x316001 x317000 x317001).bind fun t330=>((bD.f k x0 x316000 x316001 (wrap64 (t330+x3)) t330).bind fun bt331=>((bD.f k x0 x317000 x317001 t330 (wrap64 (t330+x3))).bind fun bt335=>(aN.j2 k bt331.1 bt335.1 bt331.2 bt335.2)))))) else (some (([]:List (S25)),x10))
def aN.j2:Nat→List (S25)→List (S25)→Bool→Bool→Option ((List (S25)) × Int)
 | 0,_,_,_,_=>none
 | k+1,x11,x12,x13,x14=>if x13=true then (aN.j3 k x11 x12 (!x14)) else (aN.j3 k x11 x12 true)
def aN.j3:Nat→List (S25)→List (S25)→Bool→Option ((List (S25)) × Int)
 | 0,_,_,_=>none
 | k+1,x11,x12,x87=>if x87=true then (some (([]:List (S25)),3)) else (aN.l0 k x11 x12 1)
def aN.l0:Nat→List (S25)→List (S25)→Int→Option ((List (S25)) × Int)
 | 0,_,_,_=>none
 | k+1,x11,x12,x16=>if x16<(x12.length:Int) then (if 0≤x16 then (if x11.length<5864062014805 then (aN.l0 k (x11 ++ [(⟨(an x12 x16).f0,(an x12 x16).f1,(an x12 x16).f2⟩:S25)]) x12 (wrap64 (x16+1))) else (none)) else (none)) else (some (x11,0))
end
def aN.f (k:Nat) (a0 a1_0 a1_1 a2_0 a2_1 a3:Int):Option ((List (S25)) × Int):=(ax.f k a0 ([]:List (S25)) (([(⟨a1_0,a1_1⟩:S28),(⟨a2_0,a2_1⟩:S28)]:List (S28)))).bind fun t320=>(if t320=1 then (aN.j0 k a0 a3 t320 false a1_0 a1_1 a2_0 a2_1) else ((bJ.f a3 0 6).bind fun t321=>(aN.j0 k a0 a3 t320 (!t321) a1_0 a1_1 a2_0 a2_1)))
set_option maxHeartbeats 8000000 in
set_option maxRecDepth 100000 in
theorem aN.calls (k:Nat) (a0 a1_0 a1_1 a2_0 a2_1 a3:Int) (r1:List (S25)) (r2:Int) (w:World) (h:aN.f k a0 a1_0 a1_1 a2_0 a2_1 a3=some (r1,r2)) :
  Calls Try.prog 12 #[.int .i64 a0,.agg #[.int .i64 a1_0,.int .i64 a1_1],.agg #[.int .i64 a2_0,.int .i64 a2_1],.int .i64 a3] w fun e w'=>∃ v0_:Value,e=.returned (.tuple #[v0_,.int .i64 r2])∧Kd.R k25 25 w' w.heap.size (fun _=>True) v0_ r1∧Below w.heap.size w w':=by
 have hu28:=Try.underlying28
 have hu25:=Try.underlying25
 have HB:=aA.mk (Below.refl w.heap.size w)
 have H:=h
 unfold aN.f at H
 clear h
 obtain ⟨y317,hy317⟩:∃ y_:List (S28),y_=(([(⟨a1_0,a1_1⟩:S28),(⟨a2_0,a2_1⟩:S28)]:List (S28))):=⟨_,rfl⟩
 replace H:((ax.f k a0 ([]:List (S25)) y317).bind fun t320=>(if t320=1 then (aN.j0 k a0 a3 t320 false a1_0 a1_1 a2_0 a2_1) else ((bJ.f a3 0 6).bind fun t321=>(aN.j0 k a0 a3 t320 (!t321) a1_0 a1_1 a2_0 a2_1))))=some (r1,r2):=rH hy317 H
 have Ny317:=aA.mk hy317
 clear hy317
 replace H:=bS H
 obtain ⟨t320,A5,H⟩:=H
 try dsimp only at H
 have HC6:=aA.mk H
 clear H
 go_enter Try.func12,Try.ntmps12
 go_upto_region 2 with (first|((with_reducible refine aH (N:=5) rfl ?_);refine bxE (cs:=#[.int .i64 a1_0,.int .i64 a1_1]) (t:=28) ?_;intro gb315 hg w7 hbox hb;have BK315:=aA.mk hbox;have GW315:=sA hg;have GE315:=sA hg;replace HB:=lB hb;clear hb hbox hg)|((with_reducible refine aH (N:=6) rfl ?_);refine bxE (cs:=#[.int .i64 a2_0,.int .i64 a2_1]) (t:=28) ?_;intro gb316 hg w8 hbox hb;have BK316:=aA.mk hbox;have GW316:=sA hg;have GE316:=sA hg;have NB315_316:=nA hg BK315;have NB316_315:=nB hg BK315;have LT315_316:=nL hg BK315;replace BK315:=kB BK315 hb;replace HB:=lB hb;clear hb hbox hg;have hnb9:=LT315_316.out;obtain ⟨hcz10_0,hcz10_1,hfz10_0,hfz10_1⟩:=cz2 BK315;obtain ⟨hcz11_0,hcz11_1,hfz11_0,hfz11_1⟩:=cz2 BK316)|((with_reducible refine aH (N:=20) rfl ?_);refine Kd.R_lit k28 _ 28 ?hg (N:=20) ?hd (xs:=([(⟨a1_0,a1_1⟩:S28),(⟨a2_0,a2_1⟩:S28)]:List (S28))) (inner:=[.int .i64 a1_0,.int .i64 a1_1,.int .i64 a2_0,.int .i64 a2_1]) (ok:=fun _=>True) (okp:=fun _=>True) ?hr ?hp (fun _ hk=>hk) trivial (Below.refl _ _) (Nat.le_refl _) (by simp) ?_;(case hd=>rfl);(case hg=>rfl);(case hr=>first|(go_simp;done)|(go_simp;rfl));(case hp=>exact (aY.c2 (show Kd.M k28 _ _ _ (⟨a1_0,a1_1⟩:S28) [.int .i64 a1_0,.int .i64 a1_1] from (aw _ _ _ (⟨a1_0,a1_1⟩:S28) )) (aY.c2 (show Kd.M k28 _ _ _ (⟨a2_0,a2_1⟩:S28) [.int .i64 a2_0,.int .i64 a2_1] from (aw _ _ _ (⟨a2_0,a2_1⟩:S28) )) (aY.none _ _))));intro v318 w12 ho13 hb hg_ hnew_;clear hg_ hnew_;(first|rw [← Ny317.out] at ho13|(simp only [Int.reduceToNat] at ho13;rw [← Ny317.out] at ho13));have HO319:=aA.mk (Kd.R_lower (Kd.R_newB (Kd.R_newB ho13 (bkA BK315)) (bkA BK316)) (ak blA));replace BK315:=kB BK315 hb;replace BK316:=kB BK316 hb;replace HB:=lB hb;clear hb ho13;obtain ⟨Ao14,co14,eo14⟩:=Kd.R_slice HO319.out;subst eo14)|((with_reducible refine bK (f:=28) rfl ?_);refine gL (some 21) rfl Try.func28 #[.int .i64 a0,.slice none 0 0,.slice Ao14 y317.length co14] ?_;(refine (ax.calls k a0 _ _ ([]:List (S25)) _ _ y317 t320 _ ?side1 ?side2 ?side3 ?side4 A5.out).mono ?_);(case side1=>exact Kd.C_nil _ _);(case side2=>exact Nat.le_refl _);(case side3=>exact cR (Kd.R_reads' HO319.out).2.2);(case side4=>exact (Kd.R_reads' HO319.out).2.1);rintro e w15 ⟨rfl,hb⟩;refine ⟨_,rfl,?_⟩;replace HO319:=aA.mk (Kd.R_below (rA HO319) hb);replace BK315:=kB BK315 hb;replace BK316:=kB BK316 hb;replace HB:=lB hb;clear hb))
 (try simp only [Act.put,List.setIfInBounds_toArray,List.set_cons_zero,List.set_cons_succ])
 go_cut [28] (fun v28 wc=>∃ (kq:Nat) (x28_5:Bool),v28=.bool x28_5∧aA (aN.j0 kq a0 a3 t320 x28_5 a1_0 a1_1 a2_0 a2_1=some (r1,r2))∧aA (kq≤k)∧aA (wc.heap[gb315]?=some (.cells #[.int .i64 a1_0,.int .i64 a1_1] 28 (0,0)))∧aA (wc.heap[gb316]?=some (.cells #[.int .i64 a2_0,.int .i64 a2_1] 28 (0,0)))∧aA (Below w.heap.size w wc))
 case first=>
  have H:=HC6.out
  clear HC6
  by_cases c16:t320=1
  ·
   rw [if_pos c16] at H
   have c16b0:(t320 == 1)=true:=beq_iff_eq.mpr c16
   have c16b1:(t320 != 1)=false:=bne_eq_false_iff_eq.mpr c16
   clear c16
   (first|rw [c16b0]|(simp only [cl,co];rw [c16b0])|skip)
   have H':=aA.mk H
   clear H
   go_wp2
   go_meet
   case rel=>exact ⟨_,(false),hB,H',⟨by first|omega|exact Nat.le_refl _⟩,⟨bkA BK315⟩,⟨bkA BK316⟩,⟨blA⟩⟩
  ·
   rw [if_neg c16] at H
   have c16b0:(t320 == 1)=false:=beq_eq_false_iff_ne.mpr c16
   have c16b1:(t320 != 1)=true:=bne_iff_ne.mpr c16
   (first|rw [c16b0]|(simp only [cl,co];rw [c16b0])|skip)
   replace H:=bS H
   obtain ⟨t321,A17,H⟩:=H
   try dsimp only at H
   have H':=aA.mk H
   clear H
   go_wp2_with (first|(go_at_call 44;(with_reducible refine (bJ.calls a3 0 6 t321 _ A17.out).mono ?_);rintro e w' ⟨rfl,⟨nd,rfl⟩⟩))
   go_meet
   case rel=>exact ⟨_,(!t321),hB,H',⟨by first|omega|exact Nat.le_refl _⟩,⟨bkA BK315⟩,⟨bkA BK316⟩,⟨blA⟩⟩
 case rest=>
  clear HC6
  try clear c2
  try clear c16
  try clear c16b0
  try clear c16b1
  try clear hcz10_0
  try clear hcz10_1
  try clear hcz11_0
  try clear hcz11_1
  try clear hfz10_0
  try clear hfz10_1
  try clear hfz11_0
  try clear hfz11_1
  obtain ⟨kq,x28_5,rfl,HA,HJ5,BK315,BK316,HB⟩:=hcut
  cases kq with
  | zero=>exact absurd HA.out (by simp [aN.j0])
  | succ kj5=>
   have H:=HA.out
   clear HA
   simp only [aN.j0] at H
   have HC18:=aA.mk H
   clear H
   go_upto_if 28 with (fail)
   go_cut [10] (fun v10 wc=>∃ (kq:Nat) (x10_17:Int),v10=.int .i64 x10_17∧aA (aN.j1 kq a0 a3 x10_17 a1_0 a1_1 a2_0 a2_1=some (r1,r2))∧aA (kq≤kj5)∧aA (wc.heap[gb315]?=some (.cells #[.int .i64 a1_0,.int .i64 a1_1] 28 (0,0)))∧aA (wc.heap[gb316]?=some (.cells #[.int .i64 a2_0,.int .i64 a2_1] 28 (0,0)))∧aA (Below w.heap.size w wc))
   case first=>
    have H:=HC18.out
    clear HC18
    by_cases c19:x28_5=true
    ·
     subst c19
     rw [if_pos rfl] at H
     try dsimp only at H
     have H':=aA.mk H
     clear H
     go_wp2
     go_meet
     case rel=>exact ⟨_,(2),hB,H',⟨by have:=HJ5.out;first|omega|exact Nat.le_refl _⟩,⟨bkA BK315⟩,⟨bkA BK316⟩,⟨blA⟩⟩
    ·
     replace c19:=Bool.eq_false_iff.mpr c19
     subst c19
     rw [if_neg (show ¬ (false=true) by decide)] at H
     try dsimp only at H
     have H':=aA.mk H
     clear H
     go_wp2
     go_meet
     case rel=>exact ⟨_,(t320),hB,H',⟨by have:=HJ5.out;first|omega|exact Nat.le_refl _⟩,⟨bkA BK315⟩,⟨bkA BK316⟩,⟨blA⟩⟩
   case rest=>
    clear HC18
    try clear c2
    try clear c16
    try clear c16b0
    try clear c16b1
    try clear c19
    try clear hcz10_0
    try clear hcz10_1
    try clear hcz11_0
    try clear hcz11_1
    try clear hfz10_0
    try clear hfz10_1
    try clear hfz11_0
    try clear hfz11_1
    obtain ⟨kq,x10_17,rfl,HA,HJ17,BK315,BK316,HB⟩:=hcut
    cases kq with
    | zero=>exact absurd HA.out (by simp [aN.j1])
    | succ kj17=>
     have H:=HA.out
     clear HA
     simp only [aN.j1] at H
     by_cases c20:x10_17=0
     ·
      rw [if_pos c20] at H
      have c20b0:(x10_17 == 0)=true:=beq_iff_eq.mpr c20
      have c20b1:(x10_17 != 0)=false:=bne_eq_false_iff_eq.mpr c20
      clear c20
      have HC21:=aA.mk H
      clear H
      go_upto_block 0 with (fail)
      go_cut [11,12,13,14] (fun v11 v12 v13 v14 wc=>∃ (kq:Nat) (x11_20:List (S25)) (x12_20:List (S25)) (x13_20:Bool) (x14_20:Bool),v13=.bool x13_20∧v14=.bool x14_20∧aA (aN.j2 kq x11_20 x12_20 x13_20 x14_20=some (r1,r2))∧aA (kq≤kj17)∧aA (Kd.R k25 25 wc w.heap.size (fun k_=>some k_≠(v12:Value).ownBlock) v11 x11_20)∧aA (Kd.R k25 25 wc w.heap.size (fun k_=>some k_≠(v11:Value).ownBlock) v12 x12_20)∧aA (wc.heap[gb315]?=some (.cells #[.int .i64 a1_0,.int .i64 a1_1] 28 (0,0)))∧aA (wc.heap[gb316]?=some (.cells #[.int .i64 a2_0,.int .i64 a2_1] 28 (0,0)))∧aA (Below w.heap.size w wc))
      case first=>
       have H:=HC21.out
       clear HC21
       by_cases c22:a2_1=0
       ·
        rw [if_pos c22] at H
        have c22b0:(a2_1 == 0)=true:=beq_iff_eq.mpr c22
        have c22b1:(a2_1 != 0)=false:=bne_eq_false_iff_eq.mpr c22
        clear c22
        (first|rw [c22b0]|(simp only [cl,co];rw [c22b0])|skip)
        replace H:=bS H
        obtain ⟨⟨t322,t325⟩,A23,H⟩:=H
        try dsimp only at H
        have H':=aA.mk H
        clear H
        try clear hnb9
        have hnb24:=LT315_316.out
        obtain ⟨hcz25_0,hcz25_1,hfz25_0,hfz25_1⟩:=cz2 BK316
        obtain ⟨hcz26_0,hcz26_1,hfz26_0,hfz26_1⟩:=cz2 BK315
        go_wp2_with (first|((with_reducible refine bK (f:=45) rfl ?_);refine gL (some 66) rfl Try.func45 #[.int .i64 a0,.agg #[.int .i64 a1_0,.int .i64 a1_1],.int .i64 a3,.int .i64 (wrap64 (-a3))] ?_;(with_reducible refine (bD.calls kj17 a0 a1_0 a1_1 a3 (wrap64 (-a3)) t322 t325 _ A23.out).mono ?_);rintro e w27 ⟨v323,rfl,ho0,hb⟩;refine ⟨_,rfl,?_⟩;have HO324:=aA.mk (Kd.R_lower ho0 (ak blA));replace BK315:=kB BK315 hb;replace BK316:=kB BK316 hb;replace HB:=lB hb;clear ho0 hb))
        go_meet
        case rel=>exact ⟨_,(t322),(([]:List (S25))),(t325),(true),hB,hB,H',⟨by have:=HJ5.out;have:=HJ17.out;first|omega|exact Nat.le_refl _⟩,⟨by (with_reducible repeat (first|apply Kd.R_alloc|apply Kd.R_drewN|apply Kd.R_drew));exact Kd.R_mono HO324.out (fun _ hk=>(by simp [Value.ownBlock]))⟩,⟨nlA⟩,⟨bkA BK315⟩,⟨bkA BK316⟩,⟨blA⟩⟩
       ·
        rw [if_neg c22] at H
        have c22b0:(a2_1 == 0)=false:=beq_eq_false_iff_ne.mpr c22
        have c22b1:(a2_1 != 0)=true:=bne_iff_ne.mpr c22
        (first|rw [c22b0]|(simp only [cl,co];rw [c22b0])|skip)
        by_cases c28:a1_1=0
        ·
         rw [if_pos c28] at H
         have c28b0:(a1_1 == 0)=true:=beq_iff_eq.mpr c28
         have c28b1:(a1_1 != 0)=false:=bne_eq_false_iff_eq.mpr c28
         clear c28
         replace H:=bS H
         obtain ⟨⟨t326,t329⟩,A29,H⟩:=H
         try dsimp only at H
         have H':=aA.mk H
         clear H
         try clear hnb9
         have hnb30:=LT315_316.out
         obtain ⟨hcz31_0,hcz31_1,hfz31_0,hfz31_1⟩:=cz2 BK316
         obtain ⟨hcz32_0,hcz32_1,hfz32_0,hfz32_1⟩:=cz2 BK315
         go_wp2_with (first|((with_reducible refine bK (f:=45) rfl ?_);refine gL (some 79) rfl Try.func45 #[.int .i64 a0,.agg #[.int .i64 a2_0,.int .i64 a2_1],.int .i64 (wrap64 (-a3)),.int .i64 a3] ?_;(with_reducible refine (bD.calls kj17 a0 a2_0 a2_1 (wrap64 (-a3)) a3 t326 t329 _ A29.out).mono ?_);rintro e w33 ⟨v327,rfl,ho0,hb⟩;refine ⟨_,rfl,?_⟩;have HO328:=aA.mk (Kd.R_lower ho0 (ak blA));replace BK315:=kB BK315 hb;replace BK316:=kB BK316 hb;replace HB:=lB hb;clear ho0 hb))
         go_meet
         case rel=>exact ⟨_,(t326),(([]:List (S25))),(t329),(true),hB,hB,H',⟨by have:=HJ5.out;have:=HJ17.out;first|omega|exact Nat.le_refl _⟩,⟨by (with_reducible repeat (first|apply Kd.R_alloc|apply Kd.R_drewN|apply Kd.R_drew));exact Kd.R_mono HO328.out (fun _ hk=>(by simp [Value.ownBlock]))⟩,⟨nlA⟩,⟨bkA BK315⟩,⟨bkA BK316⟩,⟨blA⟩⟩
        ·
         rw [if_neg c28] at H
         have c28b0:(a1_1 == 0)=false:=beq_eq_false_iff_ne.mpr c28
         have c28b1:(a1_1 != 0)=true:=bne_iff_ne.mpr c28
         replace H:=bS H
         obtain ⟨t330,A34,H⟩:=H
         try dsimp only at H
         replace H:=bS H
         obtain ⟨⟨t331,t334⟩,A35,H⟩:=H
         try dsimp only at H
         replace H:=bS H
         obtain ⟨⟨t335,t338⟩,A36,H⟩:=H
         try dsimp only at H
         have H':=aA.mk H
         clear H
         try clear hnb9
         have hnb37:=LT315_316.out
         obtain ⟨hcz38_0,hcz38_1,hfz38_0,hfz38_1⟩:=cz2 BK316
         obtain ⟨hcz39_0,hcz39_1,hfz39_0,hfz39_1⟩:=cz2 BK315
         go_wp2_with (first|((with_reducible refine gd 35 rfl ?_);refine gC (some 35) rfl Try.func29 (bN.calls (w:=_) (h:=A34.out)) ?_;intro w40 hb;replace BK315:=kB BK315 hb;replace BK316:=kB BK316 hb;replace HB:=lB hb;clear hb;obtain ⟨hcz41_0,hcz41_1,hfz41_0,hfz41_1⟩:=cz2 BK315)|((with_reducible refine bK (f:=45) rfl ?_);refine gL (some 43) rfl Try.func45 #[.int .i64 a0,.agg #[.int .i64 a1_0,.int .i64 a1_1],.int .i64 (wrap64 (t330+a3)),.int .i64 t330] ?_;(with_reducible refine (bD.calls kj17 a0 a1_0 a1_1 (wrap64 (t330+a3)) t330 t331 t334 _ A35.out).mono ?_);rintro e w42 ⟨v332,rfl,ho0,hb⟩;refine ⟨_,rfl,?_⟩;have HO333:=aA.mk (Kd.R_lower ho0 (ak blA));replace BK315:=kB BK315 hb;replace BK316:=kB BK316 hb;replace HB:=lB hb;clear ho0 hb;obtain ⟨hcz43_0,hcz43_1,hfz43_0,hfz43_1⟩:=cz2 BK316)|((with_reducible refine bK (f:=45) rfl ?_);refine gL (some 53) rfl Try.func45 #[.int .i64 a0,.agg #[.int .i64 a2_0,.int .i64 a2_1],.int .i64 t330,.int .i64 (wrap64 (t330+a3))] ?_;(with_reducible refine (bD.calls kj17 a0 a2_0 a2_1 t330 (wrap64 (t330+a3)) t335 t338 _ A36.out).mono ?_);rintro e w44 ⟨v336,rfl,ho0,hb⟩;refine ⟨_,rfl,?_⟩;have HO337:=aA.mk (Kd.R_lower (Kd.R_new' ho0 (Kd.R_lt (rA HO333))) (ak blA));replace HO333:=aA.mk (Kd.R_elder' (rA HO333) (Kd.R_base ho0) hb);replace BK315:=kB BK315 hb;replace BK316:=kB BK316 hb;replace HB:=lB hb;clear ho0 hb))
         go_meet
         case rel=>exact ⟨_,(t331),(t335),(t334),(t338),hB,hB,H',⟨by have:=HJ5.out;have:=HJ17.out;first|omega|exact Nat.le_refl _⟩,⟨by (with_reducible repeat (first|apply Kd.R_alloc|apply Kd.R_drewN|apply Kd.R_drew));exact Kd.R_mono HO333.out (fun _ hk=>hk.2)⟩,⟨by (with_reducible repeat (first|apply Kd.R_alloc|apply Kd.R_drewN|apply Kd.R_drew));exact Kd.R_mono HO337.out (fun _ hk=>hk.2)⟩,⟨bkA BK315⟩,⟨bkA BK316⟩,⟨blA⟩⟩
      case rest=>
       clear HC21
       try clear c2
       try clear c16
       try clear c16b0
       try clear c16b1
       try clear c19
       try clear c20
       try clear c20b0
       try clear c20b1
       try clear c22
       try clear c22b0
       try clear c22b1
       try clear c28
       try clear c28b0
       try clear c28b1
       try clear hcz10_0
       try clear hcz10_1
       try clear hcz11_0
       try clear hcz11_1
       try clear hcz25_0
       try clear hcz25_1
       try clear hcz26_0
       try clear hcz26_1
       try clear hcz31_0
       try clear hcz31_1
       try clear hcz32_0
       try clear hcz32_1
       try clear hcz38_0
       try clear hcz38_1
       try clear hcz39_0
       try clear hcz39_1
       try clear hcz41_0
       try clear hcz41_1
       try clear hcz43_0
       try clear hcz43_1
       try clear hfz10_0
       try clear hfz10_1
       try clear hfz11_0
       try clear hfz11_1
       try clear hfz25_0
       try clear hfz25_1
       try clear hfz26_0
       try clear hfz26_1
       try clear hfz31_0
       try clear hfz31_1
       try clear hfz32_0
       try clear hfz32_1
       try clear hfz38_0
       try clear hfz38_1
       try clear hfz39_0
       try clear hfz39_1
       try clear hfz41_0
       try clear hfz41_1
       try clear hfz43_0
       try clear hfz43_1
       obtain ⟨kq,x11_20,x12_20,x13_20,x14_20,rfl,rfl,HA,HJ20,HO_11,HO_12,BK315,BK316,HB⟩:=hcut
       cases kq with
       | zero=>exact absurd HA.out (by simp [aN.j2])
       | succ kj20=>
        have H:=HA.out
        clear HA
        simp only [aN.j2] at H
        have HC45:=aA.mk H
        clear H
        go_upto_region 15 with (fail)
        go_cut [87] (fun v87 wc=>∃ (kq:Nat) (x87_44:Bool),v87=.bool x87_44∧aA (aN.j3 kq x11_20 x12_20 x87_44=some (r1,r2))∧aA (kq≤kj20)∧aA (Kd.R k25 25 wc w.heap.size (fun k_=>some k_≠(u12:Value).ownBlock) u11 x11_20)∧aA (Kd.R k25 25 wc w.heap.size (fun k_=>some k_≠(u11:Value).ownBlock) u12 x12_20)∧aA (wc.heap[gb315]?=some (.cells #[.int .i64 a1_0,.int .i64 a1_1] 28 (0,0)))∧aA (wc.heap[gb316]?=some (.cells #[.int .i64 a2_0,.int .i64 a2_1] 28 (0,0)))∧aA (Below w.heap.size w wc))
        case first=>
         have H:=HC45.out
         clear HC45
         by_cases c46:x13_20=true
         ·
          subst c46
          rw [if_pos rfl] at H
          try dsimp only at H
          have H':=aA.mk H
          clear H
          go_wp2
          go_meet
          case rel=>exact ⟨_,(!x14_20),hB,H',⟨by have:=HJ5.out;have:=HJ17.out;have:=HJ20.out;first|omega|exact Nat.le_refl _⟩,⟨rA HO_11⟩,⟨rA HO_12⟩,⟨bkA BK315⟩,⟨bkA BK316⟩,⟨blA⟩⟩
         ·
          replace c46:=Bool.eq_false_iff.mpr c46
          subst c46
          rw [if_neg (show ¬ (false=true) by decide)] at H
          try dsimp only at H
          have H':=aA.mk H
          clear H
          go_wp2
          go_meet
          case rel=>exact ⟨_,(true),hB,H',⟨by have:=HJ5.out;have:=HJ17.out;have:=HJ20.out;first|omega|exact Nat.le_refl _⟩,⟨rA HO_11⟩,⟨rA HO_12⟩,⟨bkA BK315⟩,⟨bkA BK316⟩,⟨blA⟩⟩
        case rest=>
         clear HC45
         try clear c2
         try clear c16
         try clear c16b0
         try clear c16b1
         try clear c19
         try clear c20
         try clear c20b0
         try clear c20b1
         try clear c22
         try clear c22b0
         try clear c22b1
         try clear c28
         try clear c28b0
         try clear c28b1
         try clear c46
         try clear hcz10_0
         try clear hcz10_1
         try clear hcz11_0
         try clear hcz11_1
         try clear hcz25_0
         try clear hcz25_1
         try clear hcz26_0
         try clear hcz26_1
         try clear hcz31_0
         try clear hcz31_1
         try clear hcz32_0
         try clear hcz32_1
         try clear hcz38_0
         try clear hcz38_1
         try clear hcz39_0
         try clear hcz39_1
         try clear hcz41_0
         try clear hcz41_1
         try clear hcz43_0
         try clear hcz43_1
         try clear hfz10_0
         try clear hfz10_1
         try clear hfz11_0
         try clear hfz11_1
         try clear hfz25_0
         try clear hfz25_1
         try clear hfz26_0
         try clear hfz26_1
         try clear hfz31_0
         try clear hfz31_1
         try clear hfz32_0
         try clear hfz32_1
         try clear hfz38_0
         try clear hfz38_1
         try clear hfz39_0
         try clear hfz39_1
         try clear hfz41_0
         try clear hfz41_1
         try clear hfz43_0
         try clear hfz43_1
         obtain ⟨kq,x87_44,rfl,HA,HJ44,HO_11,HO_12,BK315,BK316,HB⟩:=hcut
         cases kq with
         | zero=>exact absurd HA.out (by simp [aN.j3])
         | succ kj44=>
          have H:=HA.out
          clear HA
          simp only [aN.j3] at H
          by_cases c47:x87_44=true
          ·
           subst c47
           rw [if_pos rfl] at H
           try dsimp only at H
           simp only [Option.some.injEq,Prod.mk.injEq] at H
           obtain ⟨rfl,rfl⟩:=H
           go_wp2
           go_ret2
           exact ⟨_,eW,nlA,blA⟩
          ·
           replace c47:=Bool.eq_false_iff.mpr c47
           subst c47
           rw [if_neg (show ¬ (false=true) by decide)] at H
           try dsimp only at H
           have H':=aA.mk H
           clear H
           go_wp2
           go_loopg [11,16] kj44 (fun kq v11 v16 w'=>∃ (x11_5:List (S25)) (x16_5:Int),v16=.int .i64 x16_5∧aA (aN.l0 kq x11_5 x12_20 x16_5=some (r1,r2))∧aA (kq≤kj44)∧aA (Kd.R k25 25 w' w.heap.size (fun k_=>some k_≠(u12:Value).ownBlock) v11 x11_5)∧aA (Kd.R k25 25 w' w.heap.size (fun k_=>some k_≠(v11:Value).ownBlock) u12 x12_20)∧aA (w'.heap[gb315]?=some (.cells #[.int .i64 a1_0,.int .i64 a1_1] 28 (0,0)))∧aA (w'.heap[gb316]?=some (.cells #[.int .i64 a2_0,.int .i64 a2_1] 28 (0,0)))∧aA (Below w.heap.size w w'))
           case atStart=>exact ⟨(x11_20),(1),hB,H',⟨Nat.le_refl _⟩,⟨rA HO_11⟩,⟨rA HO_12⟩,⟨bkA BK315⟩,⟨bkA BK316⟩,⟨blA⟩⟩
           case round=>
            clear H'
            try clear c2
            try clear c16
            try clear c16b0
            try clear c16b1
            try clear c19
            try clear c20
            try clear c20b0
            try clear c20b1
            try clear c22
            try clear c22b0
            try clear c22b1
            try clear c28
            try clear c28b0
            try clear c28b1
            try clear c46
            try clear c47
            try clear hcz10_0
            try clear hcz10_1
            try clear hcz11_0
            try clear hcz11_1
            try clear hcz25_0
            try clear hcz25_1
            try clear hcz26_0
            try clear hcz26_1
            try clear hcz31_0
            try clear hcz31_1
            try clear hcz32_0
            try clear hcz32_1
            try clear hcz38_0
            try clear hcz38_1
            try clear hcz39_0
            try clear hcz39_1
            try clear hcz41_0
            try clear hcz41_1
            try clear hcz43_0
            try clear hcz43_1
            try clear hfz10_0
            try clear hfz10_1
            try clear hfz11_0
            try clear hfz11_1
            try clear hfz25_0
            try clear hfz25_1
            try clear hfz26_0
            try clear hfz26_1
            try clear hfz31_0
            try clear hfz31_1
            try clear hfz32_0
            try clear hfz32_1
            try clear hfz38_0
            try clear hfz38_1
            try clear hfz39_0
            try clear hfz39_1
            try clear hfz41_0
            try clear hfz41_1
            try clear hfz43_0
            try clear hfz43_1
            obtain ⟨x11_5,x16_5,rfl,HA,HK5,HO_11,HO_12,BK315,BK316,HB⟩:=hrel
            cases gk with
            | zero=>exact absurd HA.out (by simp [aN.l0])
            | succ k5=>
             have H:=HA.out
             clear HA
             simp only [aN.l0] at H
             by_cases c48:x16_5<(x12_20.length:Int)
             ·
              rw [if_pos c48] at H
              have c48b0:=decide_eq_true c48
              clear c48
              by_cases c49:0≤x16_5
              rotate_left
              ·
               rw [if_neg c49] at H
               exact absurd H (by simp)
              rw [if_pos c49] at H
              have c49b0:=decide_eq_true c49
              clear c49
              by_cases c50:x11_5.length<5864062014805
              rotate_left
              ·
               rw [if_neg c50] at H
               exact absurd H (by simp)
              rw [if_pos c50] at H
              have LMc50:=aA.mk c50
              clear c50
              obtain ⟨y340,hy340⟩:∃ y_:List (S25),y_=(x11_5 ++ [(⟨(an x12_20 x16_5).f0,(an x12_20 x16_5).f1,(an x12_20 x16_5).f2⟩:S25)]):=⟨_,rfl⟩
              replace H:(aN.l0 k5 y340 x12_20 (wrap64 (x16_5+1)))=some (r1,r2):=rH hy340 H
              have Ny340:=aA.mk hy340
              clear hy340
              have H':=aA.mk H
              clear H
              obtain ⟨Ao51,co51,eo51⟩:=Kd.R_slice HO_12.out
              subst eo51
              have p339:0≤(x16_5:Int):=dA
              have q339:x16_5<(x12_20.length:Int):=dA
              obtain ⟨ad339,e339,hx339_0,hx339_1,hx339_2⟩:=eH (Kd.R_reads' HO_12.out).2.2 x16_5 p339 q339
              cases e339
              replace p339:=eq_true p339
              replace q339:=eq_true q339
              go_wp2_with (first|((with_reducible refine eN (b:=.append) (xs:=#[.tmp 94,.tmp 99]) rfl ?_);at_builtin;refine Kd.R_append k25 (w0:=w) w.heap.size rfl (.tmp 94) (.tmp 99) 36 25 (.agg #[(.int .i64 0),(.int .i64 0),(.int .i64 0)]) 24 rfl Try.underlying36 info25 rfl (by decide) (by omega) u11 x11_5 (⟨(an x12_20 x16_5).f0,(an x12_20 x16_5).f1,(an x12_20 x16_5).f2⟩:S25) [.int .i64 ((an x12_20 x16_5).f0),.int .i64 ((an x12_20 x16_5).f1),.int .i64 ((an x12_20 x16_5).f2)] (fun k_=>some k_≠(.slice (some ad339) x12_20.length co51:Value).ownBlock) (fun _=>False) rfl rfl ?aP (fun _ hk=>hk.elim) ?aF ?aO ?aB ?aS ?aL ?_;(case aP=>exact ex _ _ _ (⟨(an x12_20 x16_5).f0,(an x12_20 x16_5).f1,(an x12_20 x16_5).f2⟩:S25));(case aB=>exact blA);(case aF=>exact (fun k_ hk=>Kd.fresh' (Kd.R_lt (rA HO_12)) k_ hk));(case aO=>exact (rA HO_11));(case aS=>exact (ak blA));(case aL=>have:=LMc50.out;omega);intro v341 w52 ho hb hg hat;rw [← Ny340.out] at ho;have HO342:=aA.mk ho;replace HO_12:=aA.mk (Kd.R_after (ok:=(fun _=>True)) (by (with_reducible repeat (first|apply Kd.R_alloc|apply Kd.R_drewN|apply Kd.R_drew));exact Kd.R_mono HO_12.out (fun _ hk=>⟨trivial,hk⟩)) hg hat);replace BK315:=aA.mk (b9 (bkA BK315) hg (Kd.R_ne HO_11.out BK315.out (by decide)));replace BK316:=aA.mk (b9 (bkA BK316) hg (Kd.R_ne HO_11.out BK316.out (by decide)));replace HB:=aA.mk hb;clear HO_11;clear ho hb hg hat))
              go_roundg k5
              case measure=>have:=HJ5.out;have:=HJ17.out;have:=HJ20.out;have:=HJ44.out;have:=HK5.out;omega
              case rel=>exact ⟨(y340),(wrap64 (x16_5+1)),hB,H',⟨by have:=HJ5.out;have:=HJ17.out;have:=HJ20.out;have:=HJ44.out;have:=HK5.out;omega⟩,⟨rA HO342⟩,⟨by (with_reducible repeat (first|apply Kd.R_alloc|apply Kd.R_drewN|apply Kd.R_drew));exact Kd.R_mono HO_12.out (fun _ hk=>hk.2)⟩,⟨bkA BK315⟩,⟨bkA BK316⟩,⟨blA⟩⟩
             ·
              rw [if_neg c48] at H
              have c48b0:=decide_eq_false c48
              clear c48
              simp only [Option.some.injEq,Prod.mk.injEq] at H
              obtain ⟨rfl,rfl⟩:=H
              obtain ⟨Ao53,co53,eo53⟩:=Kd.R_slice HO_12.out
              subst eo53
              go_wp2
              go_ret2
              exact ⟨_,eW,by (with_reducible repeat (first|apply Kd.R_alloc|apply Kd.R_drewN|apply Kd.R_drew));exact Kd.R_mono HO_11.out (fun _ hk=>trivial),blA⟩
     ·
      rw [if_neg c20] at H
      have c20b0:(x10_17 == 0)=false:=beq_eq_false_iff_ne.mpr c20
      have c20b1:(x10_17 != 0)=true:=bne_iff_ne.mpr c20
      simp only [Option.some.injEq,Prod.mk.injEq] at H
      obtain ⟨rfl,rfl⟩:=H
      go_wp2
      go_ret2
      exact ⟨_,eW,nlA,blA⟩
def bR.f (k:Nat) (a0 a1_0 a1_1 a1_2 a2_0 a2_1:Int):Option (Int):=(cT.f k a0 a1_0 a1_1 a1_2 a2_0 a2_1).bind fun t369=>(if t369=true then ((ar.f k a0 6).bind fun t370=>((cu.f k a0 a1_0 a1_1 a1_2).bind fun t371=>((aX.f k a0 a2_1).bind fun t372=>((ar.f k a0 (wrap64 ((wrap64 (a1_0+6))+t372))).bind fun t373=>(if t373=0 then (none) else ((dN.f k a0 a2_1).bind fun t374=>((bw.f k t374 a0).bind fun t375=>((cy.f k (wrap64 (Int.tdiv (wrap64 ((wrap64 (a2_0*t370)) - (wrap64 (t371*a2_1)))) t373)) t375 a0).bind fun t376=>(some (wrap64 (1+t376))))))))))) else (some 0))
def bR.T3:Bool × List (List Nat × List Nat):=(true,[([],[]),([0],[0]),([],[]),([2],[2]),([1,3],[1,3]),([],[]),([],[]),([5,6,3],[5,6]),([],[]),([8],[8]),([7,9],[7,9]),([4,10],[4,10]),([11,7,0,1,2,3,4,5,6,7,8,9,10,11],[11])])
def bR.B3:List Nat:=[0,1,0,4,15,0,0,108,0,256,1004,2047,4095]
theorem bR.tab3:ck .any (dC Try.f47 3)=bR.T3:=by kernel_rfl
theorem bR.bits3:br bR.T3.2 bR.B3=true:=by kernel_rfl
def bR.T4:Bool × List (List Nat × List Nat):=(true,[([],[]),([],[]),([],[]),([2],[2]),([3],[3]),([],[]),([],[]),([6],[6]),([5,7],[5,7]),([4,8],[4,8]),([1,9,8],[1,9]),([0,10],[0,10]),([11,10,0,1,2,3,4,5,6,7,8,9,10,11],[0,11])])
def bR.B4:List Nat:=[0,0,0,4,12,0,0,64,224,508,1022,2047,4095]
theorem bR.tab4:ck .any (dC Try.f47 4)=bR.T4:=by kernel_rfl
theorem bR.bits4:br bR.T4.2 bR.B4=true:=by kernel_rfl
set_option maxHeartbeats 8000000 in
set_option maxRecDepth 100000 in
theorem bR.calls (k:Nat) (a0 a1_0 a1_1 a1_2 a2_0 a2_1 r:Int) (w:World) (h:bR.f k a0 a1_0 a1_1 a1_2 a2_0 a2_1=some r) :
  Calls Try.prog 47 #[.int .i64 a0,.agg #[.int .i64 a1_0,.int .i64 a1_1,.int .i64 a1_2],.agg #[.int .i64 a2_0,.int .i64 a2_1]] w fun e w'=>e=.returned (.int .i64 r)∧Below w.heap.size w w':=by
 have hu25:=Try.underlying25
 have hu28:=Try.underlying28
 have HB:=aA.mk (Below.refl w.heap.size w)
 have H:=h
 unfold bR.f at H
 clear h
 replace H:=bS H
 obtain ⟨t369,A4,H⟩:=H
 try dsimp only at H
 by_cases c5:t369=true
 ·
  subst c5
  rw [if_pos rfl] at H
  try dsimp only at H
  replace H:=bS H
  obtain ⟨t370,A6,H⟩:=H
  try dsimp only at H
  replace H:=bS H
  obtain ⟨t371,A7,H⟩:=H
  try dsimp only at H
  replace H:=bS H
  obtain ⟨t372,A8,H⟩:=H
  try dsimp only at H
  replace H:=bS H
  obtain ⟨t373,A9,H⟩:=H
  try dsimp only at H
  by_cases c10:t373=0
  ·
   rw [if_pos c10] at H
   exact absurd H (by simp)
  rw [if_neg c10] at H
  have c10b0:(t373 == 0)=false:=beq_eq_false_iff_ne.mpr c10
  have c10b1:(t373 != 0)=true:=bne_iff_ne.mpr c10
  replace H:=bS H
  obtain ⟨t374,A11,H⟩:=H
  try dsimp only at H
  replace H:=bS H
  obtain ⟨t375,A12,H⟩:=H
  try dsimp only at H
  replace H:=bS H
  obtain ⟨t376,A13,H⟩:=H
  try dsimp only at H
  obtain rfl:=Option.some.inj H
  go_enter Try.func47,Try.ntmps47
  try go_wp2_with (first|((with_reducible refine aH (N:=4) rfl ?_);refine bxE (cs:=#[.int .i64 a1_0,.int .i64 a1_1,.int .i64 a1_2]) (t:=25) ?_;intro gb367 hg w14 hbox hb;have BK367:=aA.mk hbox;have GW367:=sA hg;have GE367:=sA hg;replace HB:=lB hb;clear hb hbox hg)|((with_reducible refine aH (N:=5) rfl ?_);refine bxE (cs:=#[.int .i64 a2_0,.int .i64 a2_1]) (t:=28) ?_;intro gb368 hg w15 hbox hb;have LT367_368:=nL hg BK367;have BK368:=aA.mk hbox;have GW368:=sA hg;have GE368:=sA hg;replace BK367:=kB BK367 hb;replace HB:=lB hb;clear hb hbox hg;have hnb16:=LT367_368.out;obtain ⟨hcz17_0,hcz17_1,hcz17_2,hfz17_0,hfz17_1,hfz17_2⟩:=cz3 BK367;obtain ⟨hcz18_0,hcz18_1,hfz18_0,hfz18_1⟩:=cz2 BK368)|((with_reducible refine gd 11 rfl ?_);refine gC (some 11) rfl Try.func82 (cT.calls (w:=_) (h:=A4.out)) ?_;intro w19 hb;replace BK367:=kB BK367 hb;replace BK368:=kB BK368 hb;replace HB:=lB hb;clear hb))
  have n0_:=aA.mk (aK BK367.out)
  have n1_:=aA.mk (aK BK368.out)
  have n2_:=aA.mk (aV HB.out)
  clear BK367
  clear BK368
  clear HB
  have BK367:=n0_
  have BK368:=n1_
  have HB:=n2_
  clear n0_ n1_ n2_
  refine bf (n:=13) (S:=fun w'=>w'.cell? ⟨gb368,0,none⟩=some (.int .i64 a2_0)∧w'.cell? ⟨gb368,1,none⟩=some (.int .i64 a2_1)∧w'.cell? ⟨gb367,0,none⟩=some (.int .i64 a1_0)∧w'.cell? ⟨gb367,1,none⟩=some (.int .i64 a1_1)∧w'.cell? ⟨gb367,2,none⟩=some (.int .i64 a1_2)) (ds:=[]) #[Z,Z,Z,Z,Z,Z,Z,Z,Z,Z,Z,Z,Z] (by kernel_rfl) rfl rfl ⟨cA BK368 0,cA BK368 1,cA BK367 0,cA BK367 1,cA BK367 2⟩ (fun hHeld=>?_);refine bH bR.tab3 bR.bits3 (fun HT_ HW_=>?_)
  generalize w19.drew=w20 at BK367 BK368 HB hHeld ⊢
  refine puA (i:=0) (N:=some 13) #[Y,Z,Z,Z,Z,Z,Z,Z,Z,Z,Z,Z,Z] rfl rfl HT_ ?_
  refine puA (i:=2) (N:=some 15) #[Y,Z,Y,Z,Z,Z,Z,Z,Z,Z,Z,Z,Z] rfl rfl HT_ ?_
  refine puA (i:=5) (N:=some 18) #[Y,Z,Y,Z,Z,Y,Z,Z,Z,Z,Z,Z,Z] rfl rfl HT_ ?_
  refine puA (i:=8) (N:=some 21) #[Y,Z,Y,Z,Z,Y,Z,Z,Y,Z,Z,Z,Z] rfl rfl HT_ ?_
  refine taA (i:=1) (N:=some 14) #[Y,Y,Y,Z,Z,Y,Z,Z,Y,Z,Z,Z,Z] rfl rfl HT_ HW_ hHeld ?_
  refine taA (i:=6) (N:=some 19) #[Y,Y,Y,Z,Z,Y,Y,Z,Y,Z,Z,Z,Z] rfl rfl HT_ HW_ hHeld ?_
  refine taA (i:=9) (N:=some 22) #[Y,Y,Y,Z,Z,Y,Y,Z,Y,Y,Z,Z,Z] rfl rfl HT_ HW_ hHeld ?_
  refine bg (i:=3) (N:=some 16) #[Y,Y,Y,Y,Z,Y,Y,Z,Y,Y,Z,Z,Z] rfl rfl (az HT_.out (by kernel_rfl)) (by decide) (fun K hK=>?_)
  refine goC Try.func76 (ar.calls (w:=_) (h:=A6.out)) ?_
  rintro _ ⟨nd,rfl⟩
  refine hK.out _ _ ⟨cA BK368 0,cA BK368 1,cA BK367 0,cA BK367 1,cA BK367 2⟩ (fun hHeld=>?_)
  clear hK K
  refine nmA ?_
  refine puA (i:=4) (N:=some 17) #[Y,Y,Y,Y,Y,Y,Y,Z,Y,Y,Z,Z,Z] rfl rfl HT_ ?_
  refine bg (i:=7) (N:=some 20) #[Y,Y,Y,Y,Y,Y,Y,Y,Y,Y,Z,Z,Z] rfl rfl (az HT_.out (by kernel_rfl)) (by decide) (fun K hK=>?_)
  refine goC Try.func83 (cu.calls (w:=_) (h:=A7.out)) ?_
  intro w21 hb
  replace BK367:=kB BK367 hb
  replace BK368:=kB BK368 hb
  replace HB:=lB hb
  (try clear hb)
  (try clear hb2)
  (try clear hk)
  (try clear hi)
  refine hK.out _ _ ⟨cA BK368 0,cA BK368 1,cA BK367 0,cA BK367 1,cA BK367 2⟩ (fun hHeld=>?_)
  clear hK K
  refine nmA ?_
  refine puA (i:=10) (N:=some 23) #[Y,Y,Y,Y,Y,Y,Y,Y,Y,Y,Y,Z,Z] rfl rfl HT_ ?_
  refine puA (i:=11) (N:=some 24) #[Y,Y,Y,Y,Y,Y,Y,Y,Y,Y,Y,Y,Z] rfl rfl HT_ ?_
  refine puA (i:=12) (N:=some 7) #[Y,Y,Y,Y,Y,Y,Y,Y,Y,Y,Y,Y,Y] rfl rfl HT_ ?_
  refine cL (bX HT_.out (by kernel_rfl)) ?_
  try go_wp2
  have n0_:=aA.mk (aK BK367.out)
  have n1_:=aA.mk (aK BK368.out)
  have n2_:=aA.mk (aV HB.out)
  clear BK367
  clear BK368
  clear HB
  have BK367:=n0_
  have BK368:=n1_
  have HB:=n2_
  clear n0_ n1_ n2_
  refine bf (n:=13) (S:=fun w'=>w'.cell? ⟨gb367,0,none⟩=some (.int .i64 a1_0)∧w'.cell? ⟨gb367,1,none⟩=some (.int .i64 a1_1)∧w'.cell? ⟨gb367,2,none⟩=some (.int .i64 a1_2)∧w'.cell? ⟨gb368,0,none⟩=some (.int .i64 a2_0)∧w'.cell? ⟨gb368,1,none⟩=some (.int .i64 a2_1)) (ds:=[]) #[Z,Z,Z,Z,Z,Z,Z,Z,Z,Z,Z,Z,Z] (by kernel_rfl) rfl rfl ⟨cA BK367 0,cA BK367 1,cA BK367 2,cA BK368 0,cA BK368 1⟩ (fun hHeld=>?_);refine bH bR.tab4 bR.bits4 (fun HT_ HW_=>?_)
  generalize w21.drew=w22 at BK367 BK368 HB hHeld ⊢
  refine puA (i:=0) (N:=some 25) #[Y,Z,Z,Z,Z,Z,Z,Z,Z,Z,Z,Z,Z] rfl rfl HT_ ?_
  refine puA (i:=1) (N:=some 26) #[Y,Y,Z,Z,Z,Z,Z,Z,Z,Z,Z,Z,Z] rfl rfl HT_ ?_
  refine puA (i:=2) (N:=some 27) #[Y,Y,Y,Z,Z,Z,Z,Z,Z,Z,Z,Z,Z] rfl rfl HT_ ?_
  refine puA (i:=5) (N:=some 30) #[Y,Y,Y,Z,Z,Y,Z,Z,Z,Z,Z,Z,Z] rfl rfl HT_ ?_
  refine puA (i:=6) (N:=some 31) #[Y,Y,Y,Z,Z,Y,Y,Z,Z,Z,Z,Z,Z] rfl rfl HT_ ?_
  refine taA (i:=3) (N:=some 28) #[Y,Y,Y,Y,Z,Y,Y,Z,Z,Z,Z,Z,Z] rfl rfl HT_ HW_ hHeld ?_
  refine puA (i:=4) (N:=some 29) #[Y,Y,Y,Y,Y,Y,Y,Z,Z,Z,Z,Z,Z] rfl rfl HT_ ?_
  refine taA (i:=7) (N:=some 32) #[Y,Y,Y,Y,Y,Y,Y,Y,Z,Z,Z,Z,Z] rfl rfl HT_ HW_ hHeld ?_
  refine bg (i:=8) (N:=some 33) #[Y,Y,Y,Y,Y,Y,Y,Y,Y,Z,Z,Z,Z] rfl rfl (az HT_.out (by kernel_rfl)) (by decide) (fun K hK=>?_)
  refine goC Try.func54 (aX.calls (w:=_) (h:=A8.out)) ?_
  rintro _ ⟨nd,rfl⟩
  refine hK.out _ _ ⟨cA BK367 0,cA BK367 1,cA BK367 2,cA BK368 0,cA BK368 1⟩ (fun hHeld=>?_)
  clear hK K
  refine nmA ?_
  refine puA (i:=9) (N:=some 34) #[Y,Y,Y,Y,Y,Y,Y,Y,Y,Y,Z,Z,Z] rfl rfl HT_ ?_
  refine bg (i:=10) (N:=some 35) #[Y,Y,Y,Y,Y,Y,Y,Y,Y,Y,Y,Z,Z] rfl rfl (az HT_.out (by kernel_rfl)) (by decide) (fun K hK=>?_)
  refine goC Try.func76 (ar.calls (w:=_) (h:=A9.out)) ?_
  rintro _ ⟨nd,rfl⟩
  refine hK.out _ _ ⟨cA BK367 0,cA BK367 1,cA BK367 2,cA BK368 0,cA BK368 1⟩ (fun hHeld=>?_)
  clear hK K
  refine nmA ?_
  refine puA (i:=11) (N:=some 36) #[Y,Y,Y,Y,Y,Y,Y,Y,Y,Y,Y,Y,Z] rfl rfl HT_ ?_
  refine puA (i:=12) (N:=some 7) #[Y,Y,Y,Y,Y,Y,Y,Y,Y,Y,Y,Y,Y] rfl rfl HT_ ?_
  refine cL (bX HT_.out (by kernel_rfl)) ?_
  obtain ⟨hcz23_0,hcz23_1,hfz23_0,hfz23_1⟩:=cz2 BK368
  try go_wp2_with (first|((with_reducible refine gd 41 rfl ?_);refine gC (some 41) rfl Try.func78 (dN.calls (w:=_) (h:=A11.out)) ?_;rintro _ ⟨nd,rfl⟩)|((with_reducible refine gd 43 rfl ?_);refine gC (some 43) rfl Try.func79 (bw.calls (w:=_) (h:=A12.out)) ?_;rintro _ ⟨nd,rfl⟩)|((with_reducible refine bK (f:=77) rfl ?_);refine gL (some 45) rfl Try.func77 #[.int .i64 (wrap64 (Int.tdiv (wrap64 ((wrap64 (a2_0*t370)) - (wrap64 (t371*a2_1)))) t373)),.int .i64 t375,.int .i64 a0] ?_;(with_reducible refine (cy.calls k (wrap64 (Int.tdiv (wrap64 ((wrap64 (a2_0*t370)) - (wrap64 (t371*a2_1)))) t373)) t375 a0 t376 _ A13.out).mono ?_);rintro e w' ⟨rfl,⟨nd,rfl⟩⟩;refine ⟨_,rfl,?_⟩))
  go_ret
  exact bU blA
 ·
  replace c5:=Bool.eq_false_iff.mpr c5
  subst c5
  rw [if_neg (show ¬ (false=true) by decide)] at H
  try dsimp only at H
  obtain rfl:=Option.some.inj H
  go_enter Try.func47,Try.ntmps47
  go_wp2_with (first|((with_reducible refine aH (N:=4) rfl ?_);refine bxE (cs:=#[.int .i64 a1_0,.int .i64 a1_1,.int .i64 a1_2]) (t:=25) ?_;intro gb367 hg w24 hbox hb;have BK367:=aA.mk hbox;have GW367:=sA hg;have GE367:=sA hg;replace HB:=lB hb;clear hb hbox hg)|((with_reducible refine aH (N:=5) rfl ?_);refine bxE (cs:=#[.int .i64 a2_0,.int .i64 a2_1]) (t:=28) ?_;intro gb368 hg w25 hbox hb;have LT367_368:=nL hg BK367;have BK368:=aA.mk hbox;have GW368:=sA hg;have GE368:=sA hg;replace BK367:=kB BK367 hb;replace HB:=lB hb;clear hb hbox hg;have hnb26:=LT367_368.out;obtain ⟨hcz27_0,hcz27_1,hcz27_2,hfz27_0,hfz27_1,hfz27_2⟩:=cz3 BK367;obtain ⟨hcz28_0,hcz28_1,hfz28_0,hfz28_1⟩:=cz2 BK368)|((with_reducible refine gd 11 rfl ?_);refine gC (some 11) rfl Try.func82 (cT.calls (w:=_) (h:=A4.out)) ?_;intro w29 hb;replace BK367:=kB BK367 hb;replace BK368:=kB BK368 hb;replace HB:=lB hb;clear hb))
  go_ret
  exact bU blA
def cd.f (k:Nat) (a0 a1_0 a1_1 a1_2 a2_0 a2_1 a2_2:Int):Option (Int × Int):=(b7.f k a0 (([(⟨a1_0,a1_1,a1_2⟩:S25),(⟨a2_0,a2_1,a2_2⟩:S25)]:List (S25)))).bind fun t400=>(if t400=true then ((bi.f k a0 a1_0 a1_1 a1_2 a2_0 a2_1 a2_2).bind fun t401=>(some (t401,0))) else (some (0,1)))
set_option maxHeartbeats 8000000 in
set_option maxRecDepth 100000 in
theorem cd.calls (k:Nat) (a0 a1_0 a1_1 a1_2 a2_0 a2_1 a2_2 r1 r2:Int) (w:World) (h:cd.f k a0 a1_0 a1_1 a1_2 a2_0 a2_1 a2_2=some (r1,r2)) :
  Calls Try.prog 15 #[.int .i64 a0,.agg #[.int .i64 a1_0,.int .i64 a1_1,.int .i64 a1_2],.agg #[.int .i64 a2_0,.int .i64 a2_1,.int .i64 a2_2]] w fun e w'=>e=.returned (.tuple #[.int .i64 r1,.int .i64 r2])∧Below w.heap.size w w':=by
 have hu25:=Try.underlying25
 have HB:=aA.mk (Below.refl w.heap.size w)
 have H:=h
 unfold cd.f at H
 clear h
 obtain ⟨y397,hy397⟩:∃ y_:List (S25),y_=(([(⟨a1_0,a1_1,a1_2⟩:S25),(⟨a2_0,a2_1,a2_2⟩:S25)]:List (S25))):=⟨_,rfl⟩
 replace H:((b7.f k a0 y397).bind fun t400=>(if t400=true then ((bi.f k a0 a1_0 a1_1 a1_2 a2_0 a2_1 a2_2).bind fun t401=>(some (t401,0))) else (some (0,1))))=some (r1,r2):=rH hy397 H
 have Ny397:=aA.mk hy397
 clear hy397
 replace H:=bS H
 obtain ⟨t400,A4,H⟩:=H
 try dsimp only at H
 by_cases c5:t400=true
 ·
  subst c5
  rw [if_pos rfl] at H
  try dsimp only at H
  replace H:=bS H
  obtain ⟨t401,A6,H⟩:=H
  try dsimp only at H
  simp only [Option.some.injEq,Prod.mk.injEq] at H
  obtain ⟨rfl,rfl⟩:=H
  go_enter Try.func15,Try.ntmps15
  go_wp2_with (first|((with_reducible refine aH (N:=4) rfl ?_);refine bxE (cs:=#[.int .i64 a1_0,.int .i64 a1_1,.int .i64 a1_2]) (t:=25) ?_;intro gb395 hg w7 hbox hb;have BK395:=aA.mk hbox;have GW395:=sA hg;have GE395:=sA hg;replace HB:=lB hb;clear hb hbox hg)|((with_reducible refine aH (N:=5) rfl ?_);refine bxE (cs:=#[.int .i64 a2_0,.int .i64 a2_1,.int .i64 a2_2]) (t:=25) ?_;intro gb396 hg w8 hbox hb;have BK396:=aA.mk hbox;have GW396:=sA hg;have GE396:=sA hg;have NB395_396:=nA hg BK395;have NB396_395:=nB hg BK395;have LT395_396:=nL hg BK395;replace BK395:=kB BK395 hb;replace HB:=lB hb;clear hb hbox hg;have hnb9:=LT395_396.out;obtain ⟨hcz10_0,hcz10_1,hcz10_2,hfz10_0,hfz10_1,hfz10_2⟩:=cz3 BK395;obtain ⟨hcz11_0,hcz11_1,hcz11_2,hfz11_0,hfz11_1,hfz11_2⟩:=cz3 BK396)|((with_reducible refine aH (N:=11) rfl ?_);refine Kd.R_lit k25 _ 25 ?hg (N:=11) ?hd (xs:=([(⟨a1_0,a1_1,a1_2⟩:S25),(⟨a2_0,a2_1,a2_2⟩:S25)]:List (S25))) (inner:=[.int .i64 a1_0,.int .i64 a1_1,.int .i64 a1_2,.int .i64 a2_0,.int .i64 a2_1,.int .i64 a2_2]) (ok:=fun _=>True) (okp:=fun _=>True) ?hr ?hp (fun _ hk=>hk) trivial (Below.refl _ _) (Nat.le_refl _) (by simp) ?_;(case hd=>rfl);(case hg=>rfl);(case hr=>first|(go_simp;done)|(go_simp;rfl));(case hp=>exact (aY.c3 (show Kd.M k25 _ _ _ (⟨a1_0,a1_1,a1_2⟩:S25) [.int .i64 a1_0,.int .i64 a1_1,.int .i64 a1_2] from (ex _ _ _ (⟨a1_0,a1_1,a1_2⟩:S25) )) (aY.c3 (show Kd.M k25 _ _ _ (⟨a2_0,a2_1,a2_2⟩:S25) [.int .i64 a2_0,.int .i64 a2_1,.int .i64 a2_2] from (ex _ _ _ (⟨a2_0,a2_1,a2_2⟩:S25) )) (aY.none _ _))));intro v398 w12 ho13 hb hg_ hnew_;clear hg_ hnew_;(first|rw [← Ny397.out] at ho13|(simp only [Int.reduceToNat] at ho13;rw [← Ny397.out] at ho13));have HO399:=aA.mk (Kd.R_lower (Kd.R_newB (Kd.R_newB ho13 (bkA BK395)) (bkA BK396)) (ak blA));replace BK395:=kB BK395 hb;replace BK396:=kB BK396 hb;replace HB:=lB hb;clear hb ho13;obtain ⟨Ao14,co14,eo14⟩:=Kd.R_slice HO399.out;subst eo14)|((with_reducible refine gd 12 rfl ?_);refine gC (some 12) rfl Try.func48 (b7.calls (w:=_) (hr1:=cR (Kd.R_reads' HO399.out).2.2) (hc1:=(Kd.R_reads' HO399.out).2.1) (h:=A4.out)) ?_;intro w15 hb;replace HO399:=aA.mk (Kd.R_below (rA HO399) hb);replace BK395:=kB BK395 hb;replace BK396:=kB BK396 hb;replace HB:=lB hb;clear hb;obtain ⟨hcz16_0,hcz16_1,hcz16_2,hfz16_0,hfz16_1,hfz16_2⟩:=cz3 BK395;obtain ⟨hcz17_0,hcz17_1,hcz17_2,hfz17_0,hfz17_1,hfz17_2⟩:=cz3 BK396)|((with_reducible refine gd 17 rfl ?_);refine gC (some 17) rfl Try.func49 (bi.calls (w:=_) (h:=A6.out)) ?_;intro w18 hb;replace HO399:=aA.mk (Kd.R_below (rA HO399) hb);replace BK395:=kB BK395 hb;replace BK396:=kB BK396 hb;replace HB:=lB hb;clear hb))
  go_ret2
  exact bU blA
 ·
  replace c5:=Bool.eq_false_iff.mpr c5
  subst c5
  rw [if_neg (show ¬ (false=true) by decide)] at H
  try dsimp only at H
  simp only [Option.some.injEq,Prod.mk.injEq] at H
  obtain ⟨rfl,rfl⟩:=H
  go_enter Try.func15,Try.ntmps15
  go_wp2_with (first|((with_reducible refine aH (N:=4) rfl ?_);refine bxE (cs:=#[.int .i64 a1_0,.int .i64 a1_1,.int .i64 a1_2]) (t:=25) ?_;intro gb395 hg w19 hbox hb;have BK395:=aA.mk hbox;have GW395:=sA hg;have GE395:=sA hg;replace HB:=lB hb;clear hb hbox hg)|((with_reducible refine aH (N:=5) rfl ?_);refine bxE (cs:=#[.int .i64 a2_0,.int .i64 a2_1,.int .i64 a2_2]) (t:=25) ?_;intro gb396 hg w20 hbox hb;have BK396:=aA.mk hbox;have GW396:=sA hg;have GE396:=sA hg;have NB395_396:=nA hg BK395;have NB396_395:=nB hg BK395;have LT395_396:=nL hg BK395;replace BK395:=kB BK395 hb;replace HB:=lB hb;clear hb hbox hg;have hnb21:=LT395_396.out;obtain ⟨hcz22_0,hcz22_1,hcz22_2,hfz22_0,hfz22_1,hfz22_2⟩:=cz3 BK395;obtain ⟨hcz23_0,hcz23_1,hcz23_2,hfz23_0,hfz23_1,hfz23_2⟩:=cz3 BK396)|((with_reducible refine aH (N:=11) rfl ?_);refine Kd.R_lit k25 _ 25 ?hg (N:=11) ?hd (xs:=([(⟨a1_0,a1_1,a1_2⟩:S25),(⟨a2_0,a2_1,a2_2⟩:S25)]:List (S25))) (inner:=[.int .i64 a1_0,.int .i64 a1_1,.int .i64 a1_2,.int .i64 a2_0,.int .i64 a2_1,.int .i64 a2_2]) (ok:=fun _=>True) (okp:=fun _=>True) ?hr ?hp (fun _ hk=>hk) trivial (Below.refl _ _) (Nat.le_refl _) (by simp) ?_;(case hd=>rfl);(case hg=>rfl);(case hr=>first|(go_simp;done)|(go_simp;rfl));(case hp=>exact (aY.c3 (show Kd.M k25 _ _ _ (⟨a1_0,a1_1,a1_2⟩:S25) [.int .i64 a1_0,.int .i64 a1_1,.int .i64 a1_2] from (ex _ _ _ (⟨a1_0,a1_1,a1_2⟩:S25) )) (aY.c3 (show Kd.M k25 _ _ _ (⟨a2_0,a2_1,a2_2⟩:S25) [.int .i64 a2_0,.int .i64 a2_1,.int .i64 a2_2] from (ex _ _ _ (⟨a2_0,a2_1,a2_2⟩:S25) )) (aY.none _ _))));intro v398 w24 ho25 hb hg_ hnew_;clear hg_ hnew_;(first|rw [← Ny397.out] at ho25|(simp only [Int.reduceToNat] at ho25;rw [← Ny397.out] at ho25));have HO399:=aA.mk (Kd.R_lower (Kd.R_newB (Kd.R_newB ho25 (bkA BK395)) (bkA BK396)) (ak blA));replace BK395:=kB BK395 hb;replace BK396:=kB BK396 hb;replace HB:=lB hb;clear hb ho25;obtain ⟨Ao26,co26,eo26⟩:=Kd.R_slice HO399.out;subst eo26)|((with_reducible refine gd 12 rfl ?_);refine gC (some 12) rfl Try.func48 (b7.calls (w:=_) (hr1:=cR (Kd.R_reads' HO399.out).2.2) (hc1:=(Kd.R_reads' HO399.out).2.1) (h:=A4.out)) ?_;intro w27 hb;replace HO399:=aA.mk (Kd.R_below (rA HO399) hb);replace BK395:=kB BK395 hb;replace BK396:=kB BK396 hb;replace HB:=lB hb;clear hb))
  go_ret2
  exact bU blA
end Go.Proofs.Ytpihnmmoahplgaa.PAll
