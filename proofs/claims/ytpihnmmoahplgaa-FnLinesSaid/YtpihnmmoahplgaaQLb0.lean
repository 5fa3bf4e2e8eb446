import Derived.Test.YtpihnmmoahplgaaQx
import Derived.Deep.CutRange
import Derived.Test.YtpihnmmoahplgaaQimplBallsOfLine
import Derived.Test.YtpihnmmoahplgaaQimplCrossRatio
import Derived.Test.YtpihnmmoahplgaaQimplIsBall
import Derived.Test.YtpihnmmoahplgaaQimplMeetingOf
import Derived.Test.YtpihnmmoahplgaaQimplTreeDistance
import Derived.Test.YtpihnmmoahplgaaQimplfourCode
import Derived.Test.YtpihnmmoahplgaaQimplfractionsCode
import Derived.Test.YtpihnmmoahplgaaQspecApexOf
import Derived.Test.YtpihnmmoahplgaaQspecCrossRatio
import Derived.Test.YtpihnmmoahplgaaQspecCrossValuation
import Derived.Test.YtpihnmmoahplgaaQspecDrawBallsOfLine
import Derived.Test.YtpihnmmoahplgaaQspecDrawCrossValuation
import Derived.Test.YtpihnmmoahplgaaQspecGapOf
import Derived.Test.YtpihnmmoahplgaaQspecMeetingOf
import Derived.Test.YtpihnmmoahplgaaQspecl01EndOf
namespace Go.Proofs.Ytpihnmmoahplgaa.PAll
open Go.RowKit Go.Proofs.YtpihnmmoahplgaaW.PrintWords Go.Proofs.YtpihnmmoahplgaaW.PrintLast Go.Proofs.YtpihnmmoahplgaaW.PrintMore
attribute [local go_sem] Go.Proofs.Ytpihnmmoahplgaa.Aux.setCell_drewN Go.Proofs.Ytpihnmmoahplgaa.Aux.isSome_setCell Go.Proofs.Ytpihnmmoahplgaa.Aux.max_eight bq bo cG cF ba bZ bp bm
set_option linter.unusedVariables false
set_option linter.unusedSimpArgs false
attribute [local go_sem high] eqA25 eqA28
mutual
def laws_FnLines.j0:Nat→List Int→Int→List (S25)→Bool→Int→Int→Int→Int→Option (Bool)
 | 0,_,_,_,_,_,_,_,_=>none
 | k+1,x0,x3,x7,x93,x732000,x732001,x733000,x733001=>if x93=true then (none) else (laws_FnLines.l0 k x0 x3 x7 0 x732000 x732001 x733000 x733001)
def laws_FnLines.l0:Nat→List Int→Int→List (S25)→Int→Int→Int→Int→Int→Option (Bool)
 | 0,_,_,_,_,_,_,_,_=>none
 | k+1,x0,x3,x7,x11,x732000,x732001,x733000,x733001=>if x11<(x7.length:Int) then (if 0≤x11 then ((bP.f k x3 ((an x7 x11).f0) ((an x7 x11).f1) ((an x7 x11).f2) x732000 x732001 x733000 x733001).bind fun bt743=>(if bt743.2=0 then (laws_FnLines.j2 k x0 x3 x7 x11 (!bt743.1) x732000 x732001 x733000 x733001) else (laws_FnLines.j2 k x0 x3 x7 x11 true x732000 x732001 x733000 x733001))) else (none)) else ((cO.f k x0).bind fun bt749=>((aC.f k bt749.1 bt749.2.1 bt749.2.2.1 bt749.2.2.2.1 bt749.2.2.2.2.1 bt749.2.2.2.2.2.1 bt749.2.2.2.2.2.2).bind fun bt759=>((aI.f k bt749.1 bt749.2.1 bt749.2.2.1 bt749.2.2.2.1 bt749.2.2.2.2.1 bt749.2.2.2.2.2.1 bt749.2.2.2.2.2.2).bind fun bt764=>(if bt759.2.2.2=bt764.2.2.2 then (laws_FnLines.j3 k x0 bt749.1 bt759.2.2.2 (!(bt759.1 == bt764.1) || (!(bt759.2.1 == bt764.2.1) || (!(bt759.2.2.1 == bt764.2.2.1)))) bt749.2.1 bt749.2.2.1 bt749.2.2.2.1 bt749.2.2.2.2.1 bt749.2.2.2.2.2.1 bt749.2.2.2.2.2.2 bt759.1 bt759.2.1 bt759.2.2.1) else (laws_FnLines.j3 k x0 bt749.1 bt759.2.2.2 true bt749.2.1 bt749.2.2.1 bt749.2.2.2.1 bt749.2.2.2.2.1 bt749.2.2.2.2.2.1 bt749.2.2.2.2.2.2 bt759.1 bt759.2.1 bt759.2.2.1)))))
def laws_FnLines.j2:Nat→List Int→Int→List (S25)→Int→Bool→Int→Int→Int→Int→Option (Bool)
 | 0,_,_,_,_,_,_,_,_,_=>none
 | k+1,x0,x3,x7,x11,x116,x732000,x732001,x733000,x733001=>if x116=true then (none) else (if x11>0 then (if 0≤(wrap64 (x11 - 1)) then (if (wrap64 (x11 - 1))<(x7.length:Int) then (if 0≤x11 then (if x11<(x7.length:Int) then ((cd.f k x3 ((an x7 (wrap64 (x11 - 1))).f0) ((an x7 (wrap64 (x11 - 1))).f1) ((an x7 (wrap64 (x11 - 1))).f2) ((an x7 x11).f0) ((an x7 x11).f1) ((an x7 x11).f2)).bind fun bt747=>(if bt747.2=0 then (if bt747.1=1 then (laws_FnLines.l0 k x0 x3 x7 (wrap64 (x11+1)) x732000 x732001 x733000 x733001) else (none)) else (none))) else (none)) else (none)) else (none)) else (none)) else (laws_FnLines.l0 k x0 x3 x7 (wrap64 (x11+1)) x732000 x732001 x733000 x733001))
def laws_FnLines.j3:Nat→List Int→Int→Int→Bool→Int→Int→Int→Int→Int→Int→Int→Int→Int→Option (Bool)
 | 0,_,_,_,_,_,_,_,_,_,_,_,_,_=>none
 | k+1,x0,x16,x21,x169,x757000,x757001,x758000,x758001,x759000,x759001,x764000,x764001,x764002=>if x169=true then (none) else (if x21=0 then ((aC.f k x16 x759000 x759001 x757000 x757001 x758000 x758001).bind fun bt769=>((bP.f k x16 x764000 x764001 x764002 x757000 x757001 x758000 x758001).bind fun bt774=>((bP.f k x16 x764000 x764001 x764002 x758000 x758001 x759000 x759001).bind fun bt776=>((bP.f k x16 x764000 x764001 x764002 x759000 x759001 x757000 x757001).bind fun bt778=>(if bt769.2.2.2=0 then (if bt774.2=0 then (if bt776.2=0 then (if bt778.2=0 then (if (!(bt769.1 == x764000) || (!(bt769.2.1 == x764001) || (!(bt769.2.2.1 == x764002))))=true then (none) else (if bt774.1=true then (if bt776.1=true then (if bt778.1=true then (laws_FnLines.j4 k x0) else (none)) else (none)) else (none))) else (none)) else (none)) else (none)) else (none)))))) else (laws_FnLines.j4 k x0))
def laws_FnLines.j4:Nat→List Int→Option (Bool)
 | 0,_=>none
 | k+1,x0=>(aD.f k x0).bind fun bt780=>((bF.f k bt780.1 bt780.2.1 bt780.2.2.1 bt780.2.2.2.1 bt780.2.2.2.2.1 bt780.2.2.2.2.2.1 bt780.2.2.2.2.2.2.1 bt780.2.2.2.2.2.2.2.1 bt780.2.2.2.2.2.2.2.2).bind fun bt793=>((bM.f k bt780.1 bt780.2.1 bt780.2.2.1 bt780.2.2.2.1 bt780.2.2.2.2.1 bt780.2.2.2.2.2.1 bt780.2.2.2.2.2.2.1 bt780.2.2.2.2.2.2.2.1 bt780.2.2.2.2.2.2.2.2).bind fun bt795=>((aJ.f k bt780.2.1 bt780.2.2.1 bt780.2.2.2.1 bt780.2.2.2.2.1 bt780.2.2.2.2.2.1 bt780.2.2.2.2.2.2.1 bt780.2.2.2.2.2.2.2.1 bt780.2.2.2.2.2.2.2.2).bind fun bt797=>((aM.f k bt780.2.1 bt780.2.2.1 bt780.2.2.2.1 bt780.2.2.2.2.1 bt780.2.2.2.2.2.1 bt780.2.2.2.2.2.2.1 bt780.2.2.2.2.2.2.2.1 bt780.2.2.2.2.2.2.2.2).bind fun bt801=>(if bt793.2=bt795.2 then (if bt793.1=bt795.1 then (if bt797.2.2=bt801.2.2 then (laws_FnLines.j5 k x0 bt780.1 bt793.1 bt793.2 bt797.2.2 (!(bt797.1 == bt801.1) || (!(bt797.2.1 == bt801.2.1))) bt780.2.1 bt780.2.2.1 bt780.2.2.2.1 bt780.2.2.2.2.1 bt780.2.2.2.2.2.1 bt780.2.2.2.2.2.2.1 bt780.2.2.2.2.2.2.2.1 bt780.2.2.2.2.2.2.2.2 bt797.1 bt797.2.1) else (laws_FnLines.j5 k x0 bt780.1 bt793.1 bt793.2 bt797.2.2 true bt780.2.1 bt780.2.2.1 bt780.2.2.2.1 bt780.2.2.2.2.1 bt780.2.2.2.2.2.1 bt780.2.2.2.2.2.2.1 bt780.2.2.2.2.2.2.2.1 bt780.2.2.2.2.2.2.2.2 bt797.1 bt797.2.1)) else (laws_FnLines.j5 k x0 bt780.1 bt793.1 bt793.2 bt797.2.2 true bt780.2.1 bt780.2.2.1 bt780.2.2.2.1 bt780.2.2.2.2.1 bt780.2.2.2.2.2.1 bt780.2.2.2.2.2.2.1 bt780.2.2.2.2.2.2.2.1 bt780.2.2.2.2.2.2.2.2 bt797.1 bt797.2.1)) else (laws_FnLines.j5 k x0 bt780.1 bt793.1 bt793.2 bt797.2.2 true bt780.2.1 bt780.2.2.1 bt780.2.2.2.1 bt780.2.2.2.2.1 bt780.2.2.2.2.2.1 bt780.2.2.2.2.2.2.1 bt780.2.2.2.2.2.2.2.1 bt780.2.2.2.2.2.2.2.2 bt797.1 bt797.2.1))))))
def laws_FnLines.j5:Nat→List Int→Int→Int→Int→Int→Bool→Int→Int→Int→Int→Int→Int→Int→Int→Int→Int→Option (Bool)
 | 0,_,_,_,_,_,_,_,_,_,_,_,_,_,_,_,_=>none
 | k+1,x0,x32,x37,x38,x42,x294,x790000,x790001,x791000,x791001,x792000,x792001,x793000,x793001,x801000,x801001=>if x294=true then (none) else (if x38=0 then ((bF.f k x32 x790000 x790001 x791000 x791001 x793000 x793001 x792000 x792001).bind fun bt805=>(if bt805.2=0 then (laws_FnLines.j6 k x0 x32 x37 x42 (bt805.1 != (wrap64 (-x37))) x801000 x801001) else (laws_FnLines.j6 k x0 x32 x37 x42 true x801000 x801001))) else (laws_FnLines.j7 k x0))
def laws_FnLines.j7:Nat→List Int→Option (Bool)
 | 0,_=>none
 | k+1,x0=>(cD.f k x0).bind fun bt809=>((dB.f k bt809.1 bt809.2.1 bt809.2.2.1 bt809.2.2.2.1 bt809.2.2.2.2).bind fun bt816=>((cx.f k bt809.1 bt809.2.1 bt809.2.2.1 bt809.2.2.2.1 bt809.2.2.2.2).bind fun bt818=>((bk.f k bt809.1 bt809.2.1 bt809.2.2.1 bt809.2.2.2.1 bt809.2.2.2.2).bind fun bt820=>((bb.f k bt809.1 bt809.2.1 bt809.2.2.1 bt809.2.2.2.1 bt809.2.2.2.2).bind fun bt825=>(if bt816.2=bt818.2 then (if bt816.1=bt818.1 then (if bt820.2.2.2=bt825.2.2.2 then (if (bt820.1 == bt825.1 && (bt820.2.1 == bt825.2.1 && (bt820.2.2.1 == bt825.2.2.1)))=true then (if bt820.2.2.2=0 then (some (bt820.1 == bt816.1)) else (some true)) else (some false)) else (some false)) else (some false)) else (some false))))))
def laws_FnLines.j6:Nat→List Int→Int→Int→Int→Bool→Int→Int→Option (Bool)
 | 0,_,_,_,_,_,_,_=>none
 | k+1,x0,x32,x37,x42,x313,x801000,x801001=>if x313=true then (none) else (if x42=0 then ((bT.f k x32 x801000 x801001).bind fun bt807=>(if bt807.2=0 then (if bt807.1=x37 then (laws_FnLines.j7 k x0) else (none)) else (none))) else (laws_FnLines.j7 k x0))
end
def laws_FnLines.f (k:Nat) (l0:List Int):Option (Bool):=(eC.f l0).bind fun t724=>(if t724=true then (some true) else ((cP.f k l0).bind fun bt725=>((aG.f k bt725.1 bt725.2.1 bt725.2.2.1 bt725.2.2.2.1 bt725.2.2.2.2.1 bt725.2.2.2.2.2).bind fun bt733=>((aN.f k bt725.1 bt725.2.1 bt725.2.2.1 bt725.2.2.2.1 bt725.2.2.2.2.1 bt725.2.2.2.2.2).bind fun bt737=>(if bt733.2=bt737.2 then ((cI.f k bt733.1 bt737.1).bind fun t741=>(laws_FnLines.j0 k l0 bt725.1 bt733.1 (!t741) bt725.2.1 bt725.2.2.1 bt725.2.2.2.1 bt725.2.2.2.2.1)) else (laws_FnLines.j0 k l0 bt725.1 bt733.1 true bt725.2.1 bt725.2.2.1 bt725.2.2.2.1 bt725.2.2.2.2.1))))))
def laws_FnLines.T11:Bool × List (List Nat × List Nat):=(true,[([],[]),([],[]),([],[]),([1,2],[1,2]),([3],[3]),([],[]),([],[]),([0,4,5,6],[0,4,5,6]),([7],[7]),([8],[8]),([8],[8]),([9,7,0,1,2,3,4,5,6,7,8,9],[9]),([10,11,0,1,2,3,4,5,6,7,8,9,10,11],[10])])
def laws_FnLines.B11:List Nat:=[0,0,0,6,14,0,0,127,255,511,511,1023,4095]
theorem laws_FnLines.tab11:ck .any (dC Try.f4 11)=laws_FnLines.T11:=by kernel_rfl
theorem laws_FnLines.bits11:br laws_FnLines.T11.2 laws_FnLines.B11=true:=by kernel_rfl
def laws_FnLines.T15:Bool × List (List Nat × List Nat):=(true,[([],[]),([],[]),([],[]),([2],[2]),([1,3],[1,3]),([4],[4]),([],[]),([],[]),([6,7],[6,7]),([8],[8]),([0,5,9],[0,5,9]),([10],[10]),([11],[11]),([11],[11]),([12,10,0,1,2,3,4,5,6,7,8,9,10,11,12],[12]),([13,14,0,1,2,3,4,5,6,7,8,9,10,11,12,13,14],[13])])
def laws_FnLines.B15:List Nat:=[0,0,0,4,14,30,0,0,192,448,1023,2047,4095,4095,8191,32767]
theorem laws_FnLines.tab15:ck .any (dC Try.f4 15)=laws_FnLines.T15:=by kernel_rfl
theorem laws_FnLines.bits15:br laws_FnLines.T15.2 laws_FnLines.B15=true:=by kernel_rfl
set_option maxHeartbeats 8000000 in
set_option maxRecDepth 100000 in
noncomputable def laws_FnLines.cut0:PSigma fun P:Prop=>aA P→(∀ (k:Nat) (A0:Option Addr) (c0:Nat) (l0:List Int) (r:Bool) (w:World) (hr0:Kd.C (Kd.int .u8) w A0 l0.length l0) (hc0:l0.length≤c0) (h:laws_FnLines.f k l0=some r),Calls Try.prog 4 #[.slice A0 l0.length c0] w fun e w'=>e=.returned (.bool r)∧Below w.heap.size w w'):=by
 apply PSigma.mk
 ·
  intro hcutP
  intro k A0 c0 l0 r w hr0 hc0 h
  have hu28:=Try.underlying28
  have hu25:=Try.underlying25
  have HR0:=aA.mk hr0
  have HC0:=aA.mk hc0
  clear hr0 hc0
  have HB:=aA.mk (Below.refl w.heap.size w)
  have H:=h
  unfold laws_FnLines.f at H
  clear h
  replace H:=bS H
  obtain ⟨t724,A2,H⟩:=H
  try dsimp only at H
  by_cases c3:t724=true
  ·
   subst c3
   rw [if_pos rfl] at H
   try dsimp only at H
   obtain rfl:=Option.some.inj H
   go_enter Try.func4,Try.ntmps4
   go_wp2_with (first|((with_reducible refine gd 61 rfl ?_);refine gC (some 61) rfl Try.func9 (eC.calls (w:=_) (hr0:=cR HR0.out) (hc0:=HC0.out) (h:=A2.out)) ?_;rintro _ ⟨nd,rfl⟩))
   go_ret
   exact bU blA
  ·
   replace c3:=Bool.eq_false_iff.mpr c3
   subst c3
   rw [if_neg (show ¬ (false=true) by decide)] at H
   try dsimp only at H
   replace H:=bS H
   obtain ⟨⟨t725,t726,t727,t728,t729,t730⟩,A4,H⟩:=H
   try dsimp only at H
   replace H:=bS H
   obtain ⟨⟨t733,t736⟩,A5,H⟩:=H
   try dsimp only at H
   replace H:=bS H
   obtain ⟨⟨t737,t740⟩,A6,H⟩:=H
   try dsimp only at H
   have HC7:=aA.mk H
   clear H
   go_enter Try.func4,Try.ntmps4
   go_upto_region 6 with (first|((with_reducible refine gd 61 rfl ?_);refine gC (some 61) rfl Try.func9 (eC.calls (w:=_) (hr0:=cR HR0.out) (hc0:=HC0.out) (h:=A2.out)) ?_;rintro _ ⟨nd,rfl⟩)|((with_reducible refine gd 64 rfl ?_);refine gC (some 64) rfl Try.func10 (cP.calls (w:=_) (hr0:=cR HR0.out) (hc0:=HC0.out) (h:=A4.out)) ?_;intro w8 hb;replace HB:=lB hb;clear hb)|((with_reducible refine aH (N:=4) rfl ?_);refine bxE (cs:=#[.int .i64 0,.int .i64 0]) (t:=28) ?_;intro gb731 hg w9 hbox hb;have BK731:=aA.mk hbox;have GW731:=sA hg;have GE731:=sA hg;replace HB:=lB hb;clear hb hbox hg)|((with_reducible refine aH (N:=5) rfl ?_);refine bxE (cs:=#[.int .i64 0,.int .i64 0]) (t:=28) ?_;intro gb732 hg w10 hbox hb;have LT731_732:=nL hg BK731;have BK732:=aA.mk hbox;have GW732:=sA hg;have GE732:=sA hg;replace BK731:=kB BK731 hb;replace HB:=lB hb;clear hb hbox hg;have hnb11:=LT731_732.out;obtain ⟨hcz12_0,hcz12_1,hfz12_0,hfz12_1⟩:=cz2 BK731;obtain ⟨hcz13_0,hcz13_1,hfz13_0,hfz13_1⟩:=cz2 BK732)|((with_reducible refine bK (f:=11) rfl ?_);refine gL (some 74) rfl Try.func11 #[.int .i64 t725,.agg #[.int .i64 t726,.int .i64 t727],.agg #[.int .i64 t728,.int .i64 t729],.int .i64 t730] ?_;(with_reducible refine (aG.calls k t725 t726 t727 t728 t729 t730 t733 t736 _ A5.out).mono ?_);rintro e w14 ⟨v734,rfl,ho0,hb⟩;refine ⟨_,rfl,?_⟩;have HO735:=aA.mk (Kd.R_lower ho0 (ak blA));replace BK731:=aA.mk (aE (g:=gb731) (o:=.cells #[.int .i64 t726,.int .i64 t727] 28 (0,0)) (bpA BK731) hb);replace BK732:=aA.mk (aE (g:=gb732) (o:=.cells #[.int .i64 t728,.int .i64 t729] 28 (0,0)) (bpA BK732) hb);replace HB:=lB hb;clear ho0 hb;obtain ⟨hcz15_0,hcz15_1,hfz15_0,hfz15_1⟩:=cz2 BK731;obtain ⟨hcz16_0,hcz16_1,hfz16_0,hfz16_1⟩:=cz2 BK732)|((with_reducible refine bK (f:=12) rfl ?_);refine gL (some 82) rfl Try.func12 #[.int .i64 t725,.agg #[.int .i64 t726,.int .i64 t727],.agg #[.int .i64 t728,.int .i64 t729],.int .i64 t730] ?_;(with_reducible refine (aN.calls k t725 t726 t727 t728 t729 t730 t737 t740 _ A6.out).mono ?_);rintro e w17 ⟨v738,rfl,ho0,hb⟩;refine ⟨_,rfl,?_⟩;have HO739:=aA.mk (Kd.R_lower (Kd.R_new' ho0 (Kd.R_lt (rA HO735))) (ak blA));replace HO735:=aA.mk (Kd.R_elder' (rA HO735) (Kd.R_base ho0) hb);replace BK731:=kB BK731 hb;replace BK732:=kB BK732 hb;replace HB:=lB hb;clear ho0 hb))
   (try simp only [Act.put,List.setIfInBounds_toArray,List.set_cons_zero,List.set_cons_succ])
   go_cut [93] from 93 to 93 (fun v93 wc=>∃ (kq:Nat) (x93_6:Bool),v93=.bool x93_6∧aA (laws_FnLines.j0 kq l0 t725 t733 x93_6 t726 t727 t728 t729=some r)∧aA (kq≤k)∧aA (Kd.R k25 25 wc w.heap.size (fun _=>True) v734 t733)∧aA (wc.heap[gb731]?=some (.cells #[.int .i64 t726,.int .i64 t727] 28 (0,0)))∧aA (wc.heap[gb732]?=some (.cells #[.int .i64 t728,.int .i64 t729] 28 (0,0)))∧aA (Below w.heap.size w wc))
   case first=>
    have H:=HC7.out
    clear HC7
    by_cases c18:t736=t740
    ·
     rw [if_pos c18] at H
     have c18b0:(t736 == t740)=true:=beq_iff_eq.mpr c18
     have c18b1:(t736 != t740)=false:=bne_eq_false_iff_eq.mpr c18
     clear c18
     (first|rw [c18b0]|(simp only [cl,co];rw [c18b0])|skip)
     replace H:=bS H
     obtain ⟨t741,A19,H⟩:=H
     try dsimp only at H
     have H':=aA.mk H
     clear H
     obtain ⟨Ao20,co20,eo20⟩:=Kd.R_slice HO735.out
     subst eo20
     obtain ⟨Ao21,co21,eo21⟩:=Kd.R_slice HO739.out
     subst eo21
     go_wp2_with (first|(go_at_call 13;(with_reducible refine (cI.calls k _ _ t733 _ _ t737 t741 _ ?side1 ?side2 ?side3 ?side4 A19.out).mono ?_);(case side1=>exact cR (Kd.R_reads' HO735.out).2.2);(case side2=>exact (Kd.R_reads' HO735.out).2.1);(case side3=>exact cR (Kd.R_reads' HO739.out).2.2);(case side4=>exact (Kd.R_reads' HO739.out).2.1);rintro e w' ⟨rfl,⟨nd,rfl⟩⟩))
     go_meet
     case rel=>exact ⟨_,(!t741),hB,H',⟨by first|omega|exact Nat.le_refl _⟩,⟨by (with_reducible repeat (first|apply Kd.R_alloc|apply Kd.R_drewN|apply Kd.R_drew));exact Kd.R_mono HO735.out (fun _ hk=>trivial)⟩,⟨bkA BK731⟩,⟨bkA BK732⟩,⟨blA⟩⟩
    ·
     rw [if_neg c18] at H
     have c18b0:(t736 == t740)=false:=beq_eq_false_iff_ne.mpr c18
     have c18b1:(t736 != t740)=true:=bne_iff_ne.mpr c18
     (first|rw [c18b0]|(simp only [cl,co];rw [c18b0])|skip)
     have H':=aA.mk H
     clear H
     go_wp2
     go_meet
     case rel=>exact ⟨_,(true),hB,H',⟨by first|omega|exact Nat.le_refl _⟩,⟨by (with_reducible repeat (first|apply Kd.R_alloc|apply Kd.R_drewN|apply Kd.R_drew));exact Kd.R_mono HO735.out (fun _ hk=>trivial)⟩,⟨bkA BK731⟩,⟨bkA BK732⟩,⟨blA⟩⟩
   case rest=>
    clear HC7
    try clear c3
    try clear c18
    try clear c18b0
    try clear c18b1
    try clear hcz12_0
    try clear hcz12_1
    try clear hcz13_0
    try clear hcz13_1
    try clear hcz15_0
    try clear hcz15_1
    try clear hcz16_0
    try clear hcz16_1
    try clear hfz12_0
    try clear hfz12_1
    try clear hfz13_0
    try clear hfz13_1
    try clear hfz15_0
    try clear hfz15_1
    try clear hfz16_0
    try clear hfz16_1
    obtain ⟨kq,x93_6,rfl,HA,HJ6,HO_7,BK731,BK732,HB⟩:=hcut
    cases kq with
    | zero=>exact absurd HA.out (by simp [laws_FnLines.j0])
    | succ kj6=>
     have H:=HA.out
     clear HA
     simp only [laws_FnLines.j0] at H
     by_cases c22:x93_6=true
     ·
      subst c22
      rw [if_pos rfl] at H
      try dsimp only at H
      exact absurd H (by simp)
     replace c22:=Bool.eq_false_iff.mpr c22
     subst c22
     rw [if_neg (show ¬ (false=true) by decide)] at H
     try dsimp only at H
     have H':=aA.mk H
     clear H
     go_wp2
     go_loopg [11] kj6 (fun kq v11 w'=>∃ (x11_2:Int),v11=.int .i64 x11_2∧aA (laws_FnLines.l0 kq l0 t725 t733 x11_2 t726 t727 t728 t729=some r)∧aA (kq≤kj6)∧aA (Kd.R k25 25 w' w.heap.size (fun _=>True) v734 t733)∧aA (w'.heap[gb731]?=some (.cells #[.int .i64 t726,.int .i64 t727] 28 (0,0)))∧aA (w'.heap[gb732]?=some (.cells #[.int .i64 t728,.int .i64 t729] 28 (0,0)))∧aA (Below w.heap.size w w'))
     case atStart=>exact ⟨(0),hB,H',⟨Nat.le_refl _⟩,⟨rA HO_7⟩,⟨bkA BK731⟩,⟨bkA BK732⟩,⟨blA⟩⟩
     case round=>
      expose_names
      clear BK731_1 BK732_1 HB_1 H'
      revert k A0 c0 l0 r w hu28 hu25 t725 t726 t727 t728 t729 t730 t733 t736 t737 t740 gb731 gb732 v734 w17 v738 wc u85 u86 u87 u88 u89 u90 u91 u92 kj6 K gk wr u2 u11 u12 u13 u14 u15 u94 u95 u96 u97 u98 u99 u100 u101 u102 u103 u104 u105 u106 u107 u108 u109 u110 u111 u112 u113 u114 u115 u116 u117 u118 u119 u120 u121 u122 u123 u124 u125 u126 u127 u128 u129 u130 u131 u132 u133 u134 u135 u136 u137 u138 J K_1
      exact hcutP.out
end Go.Proofs.Ytpihnmmoahplgaa.PAll
