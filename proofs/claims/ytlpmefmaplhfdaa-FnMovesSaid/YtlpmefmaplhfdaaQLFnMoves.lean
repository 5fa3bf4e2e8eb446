-- turned out of the kit's print
import Derived.Test.YtlpmefmaplhfdaaQx
import Derived.Test.YtlpmefmaplhfdaaQbitsLeadingZeros64
import Derived.Test.YtlpmefmaplhfdaaQimplInverseMatrix
import Derived.Test.YtlpmefmaplhfdaaQimplofMark
import Derived.Test.YtlpmefmaplhfdaaQimplproduct
import Derived.Test.YtlpmefmaplhfdaaQspecDrawMoveBall
namespace Go.Proofs.Ytlpmefmaplhfdaa.PAll
open Go.RowKit Go.Proofs.YtlpmefmaplhfdaaW.PrintWords Go.Proofs.YtlpmefmaplhfdaaW.PrintLast Go.Proofs.YtlpmefmaplhfdaaW.PrintMore
attribute [local go_sem] Go.Proofs.Ytlpmefmaplhfdaa.Aux.setCell_drewN Go.Proofs.Ytlpmefmaplhfdaa.Aux.isSome_setCell max2_int min2_int max_two min_two max_three min_three max_four min_four
set_option linter.unusedVariables false
set_option linter.unusedSimpArgs false
attribute [local go_sem high] eqA28 eqA34
theorem nL {w w1:World} {g g':Nat} {o:Obj} (hg:g'=w1.heap.size) (h0:Aside0 (w.heap[g]?=some o)) (h:w.heap[g]?=some o→w1.heap[g]?=some o:=by intro hb_;(with_reducible repeat (first|refine blk_drewN ?_ _|refine blk_drew ?_|refine blk_alloc ?_ _));exact hb_):Aside0 (g<g'):=⟨by rw [hg];exact (Array.getElem?_eq_some_iff.mp (h h0.out)).1⟩
mutual
def laws_FnMoves.j0:Nat→List Int→Int→Int→Bool→Int→Int→Int→Int→Int→Int→Int→Int→Int→Int→Option (Bool)
 | 0,_,_,_,_,_,_,_,_,_,_,_,_,_,_=>none
 | k+1,x0,x3,x7,x65,x643000,x643001,x643002,x643003,x644000,x644001,x644002,x649000,x649001,x649002=>if x65=true then (none) else ((spec_DrawMoveEnd.f k x0).bind fun bt654=>((impl_MoveEnd.f k bt654.1 bt654.2.1 bt654.2.2.1 bt654.2.2.2.1 bt654.2.2.2.2.1 bt654.2.2.2.2.2).bind fun bt662=>((spec_MoveEnd.f k bt654.1 bt654.2.1 bt654.2.2.1 bt654.2.2.2.1 bt654.2.2.2.2.1 bt654.2.2.2.2.2).bind fun bt666=>(if bt662.2.2=bt666.2.2 then (laws_FnMoves.j1 k x3 x7 bt662.2.2 (!(bt662.1 == bt666.1) || (!(bt662.2.1 == bt666.2.1))) x643000 x643001 x643002 x643003 x644000 x644001 x644002 x649000 x649001 x649002 bt654.1 bt654.2.1 bt654.2.2.1 bt654.2.2.2.1 bt654.2.2.2.2.1 bt654.2.2.2.2.2 bt662.1 bt662.2.1) else (laws_FnMoves.j1 k x3 x7 bt662.2.2 true x643000 x643001 x643002 x643003 x644000 x644001 x644002 x649000 x649001 x649002 bt654.1 bt654.2.1 bt654.2.2.1 bt654.2.2.2.1 bt654.2.2.2.2.1 bt654.2.2.2.2.2 bt662.1 bt662.2.1)))))
def laws_FnMoves.j1:Nat→Int→Int→Int→Bool→Int→Int→Int→Int→Int→Int→Int→Int→Int→Int→Int→Int→Int→Int→Int→Int→Int→Int→Option (Bool)
 | 0,_,_,_,_,_,_,_,_,_,_,_,_,_,_,_,_,_,_,_,_,_,_=>none
 | k+1,x3,x7,x13,x90,x643000,x643001,x643002,x643003,x644000,x644001,x644002,x649000,x649001,x649002,x661000,x661001,x661002,x661003,x662000,x662001,x666000,x666001=>if x90=true then (none) else (if x13=0 then ((impl_InverseMatrix.f k x661000 x661001 x661002 x661003).bind fun bt670=>((impl_MoveEnd.f k bt670.1 bt670.2.1 bt670.2.2.1 bt670.2.2.2.1 x666000 x666001).bind fun bt676=>(if bt670.2.2.2.2=0 then (if bt676.2.2=0 then (if (!(bt676.1 == x662000) || (!(bt676.2.1 == x662001)))=true then (none) else (laws_FnMoves.j2 k x3 x7 x643000 x643001 x643002 x643003 x644000 x644001 x644002 x649000 x649001 x649002 x661000 x661001 x661002 x661003)) else (none)) else (none)))) else (laws_FnMoves.j2 k x3 x7 x643000 x643001 x643002 x643003 x644000 x644001 x644002 x649000 x649001 x649002 x661000 x661001 x661002 x661003))
def laws_FnMoves.j2:Nat→Int→Int→Int→Int→Int→Int→Int→Int→Int→Int→Int→Int→Int→Int→Int→Int→Option (Bool)
 | 0,_,_,_,_,_,_,_,_,_,_,_,_,_,_,_,_=>none
 | k+1,x3,x7,x643000,x643001,x643002,x643003,x644000,x644001,x644002,x649000,x649001,x649002,x661000,x661001,x661002,x661003=>if x7=0 then ((impl_InverseMatrix.f k x643000 x643001 x643002 x643003).bind fun bt680=>((impl_MoveBall.f k x3 bt680.1 bt680.2.1 bt680.2.2.1 bt680.2.2.2.1 x649000 x649001 x649002).bind fun bt686=>(if bt680.2.2.2.2=0 then (if bt686.2.2.2=0 then (if (!(bt686.1 == x644000) || (!(bt686.2.1 == x644001) || (!(bt686.2.2.1 == x644002))))=true then (laws_FnMoves.j3 k x3 true x643000 x643001 x643002 x643003 x644000 x644001 x644002 x649000 x649001 x649002 x661000 x661001 x661002 x661003) else ((impl_IsBall.f k x3 x649000 x649001 x649002).bind fun t691=>(laws_FnMoves.j3 k x3 (!t691) x643000 x643001 x643002 x643003 x644000 x644001 x644002 x649000 x649001 x649002 x661000 x661001 x661002 x661003))) else (laws_FnMoves.j3 k x3 true x643000 x643001 x643002 x643003 x644000 x644001 x644002 x649000 x649001 x649002 x661000 x661001 x661002 x661003)) else (laws_FnMoves.j3 k x3 true x643000 x643001 x643002 x643003 x644000 x644001 x644002 x649000 x649001 x649002 x661000 x661001 x661002 x661003)))) else (some (x649000 == 0 && (x649001 == 0 && (x649002 == 0))))
def laws_FnMoves.j3:Nat→Int→Bool→Int→Int→Int→Int→Int→Int→Int→Int→Int→Int→Int→Int→Int→Int→Option (Bool)
 | 0,_,_,_,_,_,_,_,_,_,_,_,_,_,_,_,_=>none
 | k+1,x3,x148,x643000,x643001,x643002,x643003,x644000,x644001,x644002,x649000,x649001,x649002,x661000,x661001,x661002,x661003=>if x148=true then (none) else ((impl_ParentOf.f k x3 x644000 x644001 x644002).bind fun bt692=>(if bt692.2.2.2=0 then ((impl_MoveBall.f k x3 x643000 x643001 x643002 x643003 bt692.1 bt692.2.1 bt692.2.2.1).bind fun bt697=>((impl_TreeDistance.f k x3 x649000 x649001 x649002 bt697.1 bt697.2.1 bt697.2.2.1).bind fun bt702=>(if bt697.2.2.2=0 then (if bt702.2=0 then (laws_FnMoves.j4 k x3 (bt702.1 != 1) x643000 x643001 x643002 x643003 x644000 x644001 x644002 x649000 x649001 x649002 x661000 x661001 x661002 x661003) else (laws_FnMoves.j4 k x3 true x643000 x643001 x643002 x643003 x644000 x644001 x644002 x649000 x649001 x649002 x661000 x661001 x661002 x661003)) else (laws_FnMoves.j4 k x3 false x643000 x643001 x643002 x643003 x644000 x644001 x644002 x649000 x649001 x649002 x661000 x661001 x661002 x661003)))) else ((impl_MoveBall.f k x3 x661000 x661001 x661002 x661003 x649000 x649001 x649002).bind fun bt720=>((impl_MultiplyMatrices.f k x661000 x661001 x661002 x661003 x643000 x643001 x643002 x643003).bind fun bt725=>((impl_MoveBall.f k x3 bt725.1 bt725.2.1 bt725.2.2.1 bt725.2.2.2.1 x644000 x644001 x644002).bind fun bt731=>(if bt720.2.2.2=0 then (if bt725.2.2.2.2=0 then (if bt731.2.2.2=0 then (some (bt731.1 == bt720.1 && (bt731.2.1 == bt720.2.1 && (bt731.2.2.1 == bt720.2.2.1)))) else (some false)) else (some true)) else (some true)))))))
def laws_FnMoves.j4:Nat→Int→Bool→Int→Int→Int→Int→Int→Int→Int→Int→Int→Int→Int→Int→Int→Int→Option (Bool)
 | 0,_,_,_,_,_,_,_,_,_,_,_,_,_,_,_,_=>none
 | k+1,x3,x180,x643000,x643001,x643002,x643003,x644000,x644001,x644002,x649000,x649001,x649002,x661000,x661001,x661002,x661003=>if x180=true then (none) else ((impl_MoveBall.f k x3 x661000 x661001 x661002 x661003 x649000 x649001 x649002).bind fun bt704=>((impl_MultiplyMatrices.f k x661000 x661001 x661002 x661003 x643000 x643001 x643002 x643003).bind fun bt709=>((impl_MoveBall.f k x3 bt709.1 bt709.2.1 bt709.2.2.1 bt709.2.2.2.1 x644000 x644001 x644002).bind fun bt715=>(if bt704.2.2.2=0 then (if bt709.2.2.2.2=0 then (if bt715.2.2.2=0 then (some (bt715.1 == bt704.1 && (bt715.2.1 == bt704.2.1 && (bt715.2.2.1 == bt704.2.2.1)))) else (some false)) else (some true)) else (some true)))))
end
def laws_FnMoves.f (k:Nat) (l0:List Int):Option (Bool):=(laws_big.f l0).bind fun t633=>(if t633=true then (some true) else ((spec_DrawMoveBall.f k l0).bind fun bt634=>((impl_MoveBall.f k bt634.1 bt634.2.1 bt634.2.2.1 bt634.2.2.2.1 bt634.2.2.2.2.1 bt634.2.2.2.2.2.1 bt634.2.2.2.2.2.2.1 bt634.2.2.2.2.2.2.2).bind fun bt644=>((spec_MoveBall.f k bt634.1 bt634.2.1 bt634.2.2.1 bt634.2.2.2.1 bt634.2.2.2.2.1 bt634.2.2.2.2.2.1 bt634.2.2.2.2.2.2.1 bt634.2.2.2.2.2.2.2).bind fun bt649=>(if bt644.2.2.2=bt649.2.2.2 then (laws_FnMoves.j0 k l0 bt634.1 bt644.2.2.2 (!(bt644.1 == bt649.1) || (!(bt644.2.1 == bt649.2.1) || (!(bt644.2.2.1 == bt649.2.2.1)))) bt634.2.1 bt634.2.2.1 bt634.2.2.2.1 bt634.2.2.2.2.1 bt634.2.2.2.2.2.1 bt634.2.2.2.2.2.2.1 bt634.2.2.2.2.2.2.2 bt644.1 bt644.2.1 bt644.2.2.1) else (laws_FnMoves.j0 k l0 bt634.1 bt644.2.2.2 true bt634.2.1 bt634.2.2.1 bt634.2.2.2.1 bt634.2.2.2.2.1 bt634.2.2.2.2.2.1 bt634.2.2.2.2.2.2.1 bt634.2.2.2.2.2.2.2 bt644.1 bt644.2.1 bt644.2.2.1))))))
theorem laws_FnMoves.mono_l:∀ k,(∀ y0 y1 y2 y3 y4 y5 y6 y7 y8 y9 y10 y11 y12 y13,LeO (laws_FnMoves.j0 k y0 y1 y2 y3 y4 y5 y6 y7 y8 y9 y10 y11 y12 y13) (laws_FnMoves.j0 (k+1) y0 y1 y2 y3 y4 y5 y6 y7 y8 y9 y10 y11 y12 y13))∧(∀ y0 y1 y2 y3 y4 y5 y6 y7 y8 y9 y10 y11 y12 y13 y14 y15 y16 y17 y18 y19 y20 y21,LeO (laws_FnMoves.j1 k y0 y1 y2 y3 y4 y5 y6 y7 y8 y9 y10 y11 y12 y13 y14 y15 y16 y17 y18 y19 y20 y21) (laws_FnMoves.j1 (k+1) y0 y1 y2 y3 y4 y5 y6 y7 y8 y9 y10 y11 y12 y13 y14 y15 y16 y17 y18 y19 y20 y21))∧(∀ y0 y1 y2 y3 y4 y5 y6 y7 y8 y9 y10 y11 y12 y13 y14 y15,LeO (laws_FnMoves.j2 k y0 y1 y2 y3 y4 y5 y6 y7 y8 y9 y10 y11 y12 y13 y14 y15) (laws_FnMoves.j2 (k+1) y0 y1 y2 y3 y4 y5 y6 y7 y8 y9 y10 y11 y12 y13 y14 y15))∧(∀ y0 y1 y2 y3 y4 y5 y6 y7 y8 y9 y10 y11 y12 y13 y14 y15,LeO (laws_FnMoves.j3 k y0 y1 y2 y3 y4 y5 y6 y7 y8 y9 y10 y11 y12 y13 y14 y15) (laws_FnMoves.j3 (k+1) y0 y1 y2 y3 y4 y5 y6 y7 y8 y9 y10 y11 y12 y13 y14 y15))∧(∀ y0 y1 y2 y3 y4 y5 y6 y7 y8 y9 y10 y11 y12 y13 y14 y15,LeO (laws_FnMoves.j4 k y0 y1 y2 y3 y4 y5 y6 y7 y8 y9 y10 y11 y12 y13 y14 y15) (laws_FnMoves.j4 (k+1) y0 y1 y2 y3 y4 y5 y6 y7 y8 y9 y10 y11 y12 y13 y14 y15))
 | 0=>by refine ⟨?_,?_,?_,?_,?_⟩ <;> (intros;intro r h;simp [laws_FnMoves.j0,laws_FnMoves.j1,laws_FnMoves.j2,laws_FnMoves.j3,laws_FnMoves.j4] at h)
 | k+1=>by
  obtain ⟨ih0,ih1,ih2,ih3,ih4⟩:=laws_FnMoves.mono_l k
  refine ⟨?_,?_,?_,?_,?_⟩ <;> (intros;first|unfold laws_FnMoves.j0|unfold laws_FnMoves.j1|unfold laws_FnMoves.j2|unfold laws_FnMoves.j3|unfold laws_FnMoves.j4)
  all_goals repeat' first
  | with_reducible first|exact ih0 ..|exact ih1 ..|exact ih2 ..|exact ih3 ..|exact ih4 ..|exact impl_InverseMatrix.mono ..|exact impl_IsBall.mono ..|exact impl_MoveBall.mono ..|exact impl_MoveEnd.mono ..|exact impl_MultiplyMatrices.mono ..|exact impl_ParentOf.mono ..|exact impl_TreeDistance.mono ..|exact spec_DrawMoveBall.mono ..|exact spec_DrawMoveEnd.mono ..|exact spec_MoveBall.mono ..|exact spec_MoveEnd.mono ..|exact LeO.refl _|exact LeO.none _|refine LeO.ite ?_ ?_|refine LeO.bind ?_ fun _=>?_
theorem laws_FnMoves.mono:∀ a0 k,LeO (laws_FnMoves.f k a0) (laws_FnMoves.f (k+1) a0):=by
 intro a0 k
 obtain ⟨ih0,ih1,ih2,ih3,ih4⟩:=laws_FnMoves.mono_l k
 unfold laws_FnMoves.f
 repeat' first
   | with_reducible first|exact ih0 ..|exact ih1 ..|exact ih2 ..|exact ih3 ..|exact ih4 ..|exact impl_InverseMatrix.mono ..|exact impl_IsBall.mono ..|exact impl_MoveBall.mono ..|exact impl_MoveEnd.mono ..|exact impl_MultiplyMatrices.mono ..|exact impl_ParentOf.mono ..|exact impl_TreeDistance.mono ..|exact spec_DrawMoveBall.mono ..|exact spec_DrawMoveEnd.mono ..|exact spec_MoveBall.mono ..|exact spec_MoveEnd.mono ..|exact LeO.refl _|exact LeO.none _|refine LeO.ite ?_ ?_|refine LeO.bind ?_ fun _=>?_
set_option maxHeartbeats 8000000 in
set_option maxRecDepth 100000 in
noncomputable def laws_FnMoves.cut0:PSigma fun P:Prop=>Aside0 P→(∀ (k:Nat) (A0:Option Addr) (c0:Nat) (l0:List Int) (r:Bool) (w:World) (hr0:Kd.C (Kd.int .u8) w A0 l0.length l0) (hc0:l0.length≤c0) (h:laws_FnMoves.f k l0=some r),Calls Try.prog 3 #[.slice A0 l0.length c0] w fun e w'=>e=.returned (.bool r)∧Below w.heap.size w w'):=by
 apply PSigma.mk
 ·
  intro hcutP
  intro k A0 c0 l0 r w hr0 hc0 h
  have hu26:=Try.underlying26
  have hu28:=Try.underlying28
  have hu34:=Try.underlying34
  have HR0:=Aside0.mk hr0
  have HC0:=Aside0.mk hc0
  clear hr0 hc0
  have HB:=Aside0.mk (Below.refl w.heap.size w)
  have H:=h
  unfold laws_FnMoves.f at H
  clear h
  replace H:=bS H
  obtain ⟨t633,A2,H⟩:=H
  try dsimp only at H
  by_cases c3:t633=true
  ·
   subst c3
   rw [if_pos rfl] at H
   try dsimp only at H
   obtain rfl:=Option.some.inj H
   go_enter Try.func3,Try.ntmps3
   go_wp2_with (first|((with_reducible refine gd 37 rfl ?_);refine gC (some 37) rfl Try.func6 (laws_big.calls (w:=_) (hr0:=cR HR0.out) (hc0:=HC0.out) (h:=A2.out)) ?_;rintro _ ⟨nd,rfl⟩))
   go_ret
   exact finA blA
  ·
   replace c3:=Bool.eq_false_iff.mpr c3
   subst c3
   rw [if_neg (show ¬ (false=true) by decide)] at H
   try dsimp only at H
   replace H:=bS H
   obtain ⟨⟨t634,t635,t636,t637,t638,t639,t640,t641⟩,A4,H⟩:=H
   try dsimp only at H
   replace H:=bS H
   obtain ⟨⟨t644,t645,t646,t647⟩,A5,H⟩:=H
   try dsimp only at H
   replace H:=bS H
   obtain ⟨⟨t649,t650,t651,t652⟩,A6,H⟩:=H
   try dsimp only at H
   have HC7:=Aside0.mk H
   clear H
   go_enter Try.func3,Try.ntmps3
   go_upto_region 6 with (first|((with_reducible refine gd 37 rfl ?_);refine gC (some 37) rfl Try.func6 (laws_big.calls (w:=_) (hr0:=cR HR0.out) (hc0:=HC0.out) (h:=A2.out)) ?_;rintro _ ⟨nd,rfl⟩)|((with_reducible refine gd 40 rfl ?_);refine gC (some 40) rfl Try.func7 (spec_DrawMoveBall.calls (w:=_) (hr0:=cR HR0.out) (hc0:=HC0.out) (h:=A4.out)) ?_;intro w8 hb;replace HB:=lB hb;clear hb)|((with_reducible refine gate_dst (N:=4) rfl ?_);refine bxE (cs:=#[.int .i64 0,.int .i64 0,.int .i64 0,.int .i64 0]) (t:=26) ?_;intro gb642 hg w9 hbox hb;have BK642:=Aside0.mk hbox;have GW642:=sA hg;have GE642:=sA hg;replace HB:=lB hb;clear hb hbox hg)|((with_reducible refine gate_dst (N:=5) rfl ?_);refine bxE (cs:=#[.int .i64 0,.int .i64 0,.int .i64 0]) (t:=28) ?_;intro gb643 hg w10 hbox hb;have BK643:=Aside0.mk hbox;have GW643:=sA hg;have GE643:=sA hg;have NB642_643:=nA hg BK642;have NB643_642:=nB hg BK642;have LT642_643:=nL hg BK642;replace BK642:=kB BK642 hb;replace HB:=lB hb;clear hb hbox hg;have hnb11:=LT642_643.out;obtain ⟨hcz12_0,hcz12_1,hcz12_2,hcz12_3,hfz12_0,hfz12_1,hfz12_2,hfz12_3⟩:=cz4 BK642;obtain ⟨hcz13_0,hcz13_1,hcz13_2,hfz13_0,hfz13_1,hfz13_2⟩:=cz3 BK643)|((with_reducible refine gd 48 rfl ?_);refine gC (some 48) rfl Try.func8 (impl_MoveBall.calls (w:=_) (h:=A5.out)) ?_;intro w14 hb;have n0_:=Aside0.mk (blk_below (g:=gb642) (o:=.cells #[.int .i64 t635,.int .i64 t636,.int .i64 t637,.int .i64 t638] 26 (0,0)) (bpA BK642) hb);have n1_:=Aside0.mk (blk_below (g:=gb643) (o:=.cells #[.int .i64 t639,.int .i64 t640,.int .i64 t641] 28 (0,0)) (bpA BK643) hb);have n2_:=lB hb;clear BK642;clear BK643;clear HB;have BK642:=n0_;have BK643:=n1_;have HB:=n2_;clear n0_ n1_ n2_;clear hb)|((with_reducible refine gate_dst (N:=6) rfl ?_);refine bxE (cs:=#[.int .i64 0,.int .i64 0,.int .i64 0]) (t:=28) ?_;intro gb648 hg w15 hbox hb;have BK648:=Aside0.mk hbox;have GW648:=sA hg;have GE648:=sA hg;have NB642_648:=nA hg BK642;have NB648_642:=nB hg BK642;have LT642_648:=nL hg BK642;have NB643_648:=nA hg BK643;have NB648_643:=nB hg BK643;have LT643_648:=nL hg BK643;replace BK642:=kB BK642 hb;replace BK643:=kB BK643 hb;replace HB:=lB hb;clear hb hbox hg;have hnb16:=LT642_648.out;have hnb17:=LT643_648.out;obtain ⟨hcz18_0,hcz18_1,hcz18_2,hfz18_0,hfz18_1,hfz18_2⟩:=cz3 BK648;obtain ⟨hcz19_0,hcz19_1,hcz19_2,hcz19_3,hfz19_0,hfz19_1,hfz19_2,hfz19_3⟩:=cz4 BK642;obtain ⟨hcz20_0,hcz20_1,hcz20_2,hfz20_0,hfz20_1,hfz20_2⟩:=cz3 BK643)|((with_reducible refine gd 55 rfl ?_);refine gC (some 55) rfl Try.func9 (spec_MoveBall.calls (w:=_) (h:=A6.out)) ?_;intro w21 hb;have n0_:=Aside0.mk (blk_below (g:=gb642) (o:=.cells #[.int .i64 t635,.int .i64 t636,.int .i64 t637,.int .i64 t638] 26 (0,0)) (bkF BK642) hb);have n1_:=Aside0.mk (blk_below (g:=gb643) (o:=.cells #[.int .i64 t639,.int .i64 t640,.int .i64 t641] 28 (0,0)) (bkF BK643) hb);have n2_:=Aside0.mk (blk_below (g:=gb648) (o:=.cells #[.int .i64 t644,.int .i64 t645,.int .i64 t646] 28 (0,0)) (bpA BK648) hb);have n3_:=lB hb;clear BK642;clear BK643;clear BK648;clear HB;have BK642:=n0_;have BK643:=n1_;have BK648:=n2_;have HB:=n3_;clear n0_ n1_ n2_ n3_;clear hb)|((with_reducible refine gate_dst (N:=8) rfl ?_);refine bxE (cs:=#[.int .i64 0,.int .i64 0,.int .i64 0]) (t:=28) ?_;intro gb653 hg w22 hbox hb;have BK653:=Aside0.mk hbox;have GW653:=sA hg;have GE653:=sA hg;have NB642_653:=nA hg BK642;have NB653_642:=nB hg BK642;have LT642_653:=nL hg BK642;have NB643_653:=nA hg BK643;have NB653_643:=nB hg BK643;have LT643_653:=nL hg BK643;have NB648_653:=nA hg BK648;have NB653_648:=nB hg BK648;have LT648_653:=nL hg BK648;replace BK642:=kB BK642 hb;replace BK643:=kB BK643 hb;replace BK648:=kB BK648 hb;replace HB:=lB hb;clear hb hbox hg;have hnb23:=LT642_653.out;have hnb24:=LT643_653.out;have hnb25:=LT648_653.out;obtain ⟨hcz26_0,hcz26_1,hcz26_2,hfz26_0,hfz26_1,hfz26_2⟩:=cz3 BK653))
   (try simp only [Act.put,List.setIfInBounds_toArray,List.set_cons_zero,List.set_cons_succ])
   go_cut [65] (fun v65 wc=>∃ (kq:Nat) (x65_6:Bool),v65=.bool x65_6∧Aside0 (laws_FnMoves.j0 kq l0 t634 t647 x65_6 t635 t636 t637 t638 t639 t640 t641 t644 t645 t646=some r)∧Aside0 (kq≤k)∧Aside0 (wc.heap[gb642]?=some (.cells #[.int .i64 t635,.int .i64 t636,.int .i64 t637,.int .i64 t638] 26 (0,0)))∧Aside0 (wc.heap[gb643]?=some (.cells #[.int .i64 t639,.int .i64 t640,.int .i64 t641] 28 (0,0)))∧Aside0 (wc.heap[gb648]?=some (.cells #[.int .i64 t644,.int .i64 t645,.int .i64 t646] 28 (0,0)))∧Aside0 (wc.heap[gb653]?=some (.cells #[.int .i64 t649,.int .i64 t650,.int .i64 t651] 28 (0,0)))∧Aside0 (Below w.heap.size w wc))
   case first=>
    have H:=HC7.out
    clear HC7
    by_cases c27:t647=t652
    ·
     rw [if_pos c27] at H
     have c27b0:(t647 == t652)=true:=beq_iff_eq.mpr c27
     have c27b1:(t647 != t652)=false:=bne_eq_false_iff_eq.mpr c27
     clear c27
     (first|rw [c27b0]|(simp only [i64_w,i32_w];rw [c27b0])|skip)
     have H':=Aside0.mk H
     clear H
     try clear hnb11
     try clear hnb16 hnb17
     try clear hnb23 hnb24 hnb25
     have hnb28:=LT642_648.out
     have hnb29:=LT643_648.out
     have hnb30:=LT648_653.out
     obtain ⟨hcz31_0,hcz31_1,hcz31_2,hfz31_0,hfz31_1,hfz31_2⟩:=cz3 BK648
     have hnb32:=LT642_653.out
     have hnb33:=LT643_653.out
     obtain ⟨hcz34_0,hcz34_1,hcz34_2,hfz34_0,hfz34_1,hfz34_2⟩:=cz3 BK653
     go_wp2
     go_meet
     case rel=>exact ⟨_,((!(t644 == t649) || (!(t645 == t650) || (!(t646 == t651))))),hB,H',⟨by first|omega|exact Nat.le_refl _⟩,⟨bkF BK642⟩,⟨bkF BK643⟩,⟨bkF BK648⟩,⟨bpA BK653⟩,⟨blA⟩⟩
    ·
     rw [if_neg c27] at H
     have c27b0:(t647 == t652)=false:=beq_eq_false_iff_ne.mpr c27
     have c27b1:(t647 != t652)=true:=bne_iff_ne.mpr c27
     (first|rw [c27b0]|(simp only [i64_w,i32_w];rw [c27b0])|skip)
     have H':=Aside0.mk H
     clear H
     go_wp2
     go_meet
     case rel=>exact ⟨_,(true),hB,H',⟨by first|omega|exact Nat.le_refl _⟩,⟨bkF BK642⟩,⟨bkF BK643⟩,⟨bkF BK648⟩,⟨bpA BK653⟩,⟨blA⟩⟩
   case rest=>
    expose_names
    clear HC7 hcz12_0 hcz12_1 hcz12_2 hcz12_3 hfz12_0 hfz12_1 hfz12_2 hfz12_3 hcz13_0 hcz13_1 hcz13_2 hfz13_0 hfz13_1 hfz13_2 hcz18_0 hcz18_1 hcz18_2 hfz18_0 hfz18_1 hfz18_2 hcz19_0 hcz19_1 hcz19_2 hcz19_3 hfz19_0 hfz19_1 hfz19_2 hfz19_3 hcz20_0 hcz20_1 hcz20_2 hfz20_0 hfz20_1 hfz20_2 hcz26_0 hcz26_1 hcz26_2 hfz26_0 hfz26_1 hfz26_2
    revert k A0 c0 l0 r w hu26 hu28 hu34 t634 t635 t636 t637 t638 t639 t640 t641 t644 t645 t646 t647 t649 t650 t651 t652 gb642 gb643 gb648 K gb653 w22 K_1 wc u36 u37 u38 u39 u40 u41 u42 u43 u44 u45 u46 u47 u48 u49 u50 u51 u52 u53 u54 u55 u56 u57 u58 u59 u60 u61 u62 u63 u64 u65 u66 u67 u68 u69 u70 u71 u72 u73 u74 u75 u76 u77 u78 u79 u80 u81 u82 u83 u84 u85 u86 u87 u88 u89 u90 u91 u92 u93 u94 u95 u96 u97 u98 u99 u100 u101 u102 u103 u104 u105 u106 u107 u108 u109 u110 u111 u112 u113 u114 u115 u116 u117 u118 u119 u120 u121 u122 u123 u124 u125 u126 u127 u128 u129 u130 u131 u132 u133 u134 u135 u136 u137 u138 u139 u140 u141 u142 u143 u144 u145 u146 u147 u148 u149 u150 u151 u152 u153 u154 u155 u156 u157 u158 u159 u160 u161 u162 u163 u164 u165 u166 u167 u168 u169 u170 u171 u172 u173 u174 u175 u176 u177 u178 u179 u180 u181 u182 u183 u184 u185 u186 u187 u188 u189 u190 u191 u192 u193 u194 u195 u196 u197 u198 u199 u200 u201 u202 u203 u204 u205 u206 u207 u208 u209 u210 u211 u212 u213 u214 u215
    exact hcutP.out
set_option maxHeartbeats 8000000 in
set_option maxRecDepth 100000 in
noncomputable def laws_FnMoves.cut1:PSigma fun P:Prop=>Aside0 P→(laws_FnMoves.cut0.1):=by
 apply PSigma.mk
 ·
  intro hcutP
  conv=>whnf
  intro k A0 c0 l0 r w hu26 hu28 hu34 HR0 HC0 A2 t634 t635 t636 t637 t638 t639 t640 t641 A4 t644 t645 t646 t647 A5 t649 t650 t651 t652 A6 _ gb642 GW642 GE642 gb643 GW643 GE643 NB642_643 NB643_642 LT642_643 hnb11 gb648 GW648 GE648 NB642_648 NB648_642 LT642_648 NB643_648 NB648_643 LT643_648 hnb16 hnb17 _ _ gb653 w22 BK653 GW653 GE653 NB642_653 NB653_642 LT642_653 NB643_653 NB653_643 LT643_653 NB648_653 NB653_648 LT648_653 BK642 BK643 BK648 HB hnb23 hnb24 hnb25 _ _ wc _ _ _ _ _ _ _ _ _ _ _ _ _ _ _ _ _ _ _ _ _ _ _ _ _ _ _ _ _ _ _ _ _ _ _ _ _ _ _ _ _ _ _ _ _ _ _ _ _ _ _ _ _ _ _ _ _ _ _ _ _ _ _ _ _ _ _ _ _ _ _ _ _ _ _ _ _ _ _ _ _ _ _ _ _ _ _ _ _ _ _ _ _ _ _ _ _ _ _ _ _ _ _ _ _ _ _ _ _ _ _ _ _ _ _ _ _ _ _ _ _ _ _ _ _ _ _ _ _ _ _ _ _ _ _ _ _ _ _ _ _ _ _ _ _ _ _ _ _ _ _ _ _ _ _ _ _ _ _ _ _ _ _ _ _ _ _ _ _ _ _ _ _ _ _ _ _ _ _ _ hcut
  obtain ⟨kq,x65_6,rfl,HA,HJ6,BK642,BK643,BK648,BK653,HB⟩:=hcut
  cases kq with
  | zero=>exact absurd HA.out (by simp [laws_FnMoves.j0])
  | succ kj6=>
   have H:=HA.out
   clear HA
   simp only [laws_FnMoves.j0] at H
   by_cases c35:x65_6=true
   ·
    subst c35
    rw [if_pos rfl] at H
    try dsimp only at H
    exact absurd H (by simp)
   replace c35:=Bool.eq_false_iff.mpr c35
   subst c35
   rw [if_neg (show ¬ (false=true) by decide)] at H
   try dsimp only at H
   replace H:=bS H
   obtain ⟨⟨t654,t655,t656,t657,t658,t659⟩,A36,H⟩:=H
   try dsimp only at H
   replace H:=bS H
   obtain ⟨⟨t662,t663,t664⟩,A37,H⟩:=H
   try dsimp only at H
   replace H:=bS H
   obtain ⟨⟨t666,t667,t668⟩,A38,H⟩:=H
   try dsimp only at H
   have HC39:=Aside0.mk H
   clear H
   go_upto_region 11 with (first|((with_reducible refine gd 68 rfl ?_);refine gC (some 68) rfl Try.func10 (spec_DrawMoveEnd.calls (w:=_) (hr0:=cR (Kd.C_below HR0.out HB.out)) (hc0:=HC0.out) (h:=A36.out)) ?_;intro w40 hb;replace BK642:=kB BK642 hb;replace BK643:=kB BK643 hb;replace BK648:=kB BK648 hb;replace BK653:=kB BK653 hb;replace HB:=lB hb;clear hb)|((with_reducible refine gate_dst (N:=10) rfl ?_);refine bxE (cs:=#[.int .i64 0,.int .i64 0,.int .i64 0,.int .i64 0]) (t:=26) ?_;intro gb660 hg w41 hbox hb;have BK660:=Aside0.mk hbox;have GW660:=sA hg;have GE660:=sA hg;have NB642_660:=nA hg BK642;have NB660_642:=nB hg BK642;have LT642_660:=nL hg BK642;have NB643_660:=nA hg BK643;have NB660_643:=nB hg BK643;have LT643_660:=nL hg BK643;have NB648_660:=nA hg BK648;have NB660_648:=nB hg BK648;have LT648_660:=nL hg BK648;have NB653_660:=nA hg BK653;have NB660_653:=nB hg BK653;have LT653_660:=nL hg BK653;replace BK642:=kB BK642 hb;replace BK643:=kB BK643 hb;replace BK648:=kB BK648 hb;replace BK653:=kB BK653 hb;replace HB:=lB hb;clear hb hbox hg)|((with_reducible refine gate_dst (N:=11) rfl ?_);refine bxE (cs:=#[.int .i64 0,.int .i64 0]) (t:=34) ?_;intro gb661 hg w42 hbox hb;have BK661:=Aside0.mk hbox;have GW661:=sA hg;have GE661:=sA hg;have NB642_661:=nA hg BK642;have NB661_642:=nB hg BK642;have LT642_661:=nL hg BK642;have NB643_661:=nA hg BK643;have NB661_643:=nB hg BK643;have LT643_661:=nL hg BK643;have NB648_661:=nA hg BK648;have NB661_648:=nB hg BK648;have LT648_661:=nL hg BK648;have NB653_661:=nA hg BK653;have NB661_653:=nB hg BK653;have LT653_661:=nL hg BK653;have NB660_661:=nA hg BK660;have NB661_660:=nB hg BK660;have LT660_661:=nL hg BK660;replace BK642:=kB BK642 hb;replace BK643:=kB BK643 hb;replace BK648:=kB BK648 hb;replace BK653:=kB BK653 hb;replace BK660:=kB BK660 hb;replace HB:=lB hb;clear hb hbox hg;have hnb43:=LT642_660.out;have hnb44:=LT643_660.out;have hnb45:=LT648_660.out;have hnb46:=LT653_660.out;have hnb47:=LT660_661.out;obtain ⟨hcz48_0,hcz48_1,hcz48_2,hcz48_3,hfz48_0,hfz48_1,hfz48_2,hfz48_3⟩:=cz4 BK660;have hnb49:=LT642_661.out;have hnb50:=LT643_661.out;have hnb51:=LT648_661.out;have hnb52:=LT653_661.out;obtain ⟨hcz53_0,hcz53_1,hfz53_0,hfz53_1⟩:=cz2 BK661)|((with_reducible refine gd 74 rfl ?_);refine gC (some 74) rfl Try.func11 (impl_MoveEnd.calls (w:=_) (h:=A37.out)) ?_;intro w54 hb;have n0_:=Aside0.mk (blk_below (g:=gb642) (o:=.cells #[.int .i64 t635,.int .i64 t636,.int .i64 t637,.int .i64 t638] 26 (0,0)) (bkF BK642) hb);have n1_:=Aside0.mk (blk_below (g:=gb643) (o:=.cells #[.int .i64 t639,.int .i64 t640,.int .i64 t641] 28 (0,0)) (bkF BK643) hb);have n2_:=Aside0.mk (blk_below (g:=gb648) (o:=.cells #[.int .i64 t644,.int .i64 t645,.int .i64 t646] 28 (0,0)) (bkF BK648) hb);have n3_:=Aside0.mk (blk_below (g:=gb653) (o:=.cells #[.int .i64 t649,.int .i64 t650,.int .i64 t651] 28 (0,0)) (bkF BK653) hb);have n4_:=Aside0.mk (blk_below (g:=gb660) (o:=.cells #[.int .i64 t654,.int .i64 t655,.int .i64 t656,.int .i64 t657] 26 (0,0)) (bpA BK660) hb);have n5_:=Aside0.mk (blk_below (g:=gb661) (o:=.cells #[.int .i64 t658,.int .i64 t659] 34 (0,0)) (bpA BK661) hb);have n6_:=lB hb;clear BK642;clear BK643;clear BK648;clear BK653;clear BK660;clear BK661;clear HB;have BK642:=n0_;have BK643:=n1_;have BK648:=n2_;have BK653:=n3_;have BK660:=n4_;have BK661:=n5_;have HB:=n6_;clear n0_ n1_ n2_ n3_ n4_ n5_ n6_;clear hb)|((with_reducible refine gate_dst (N:=12) rfl ?_);refine bxE (cs:=#[.int .i64 0,.int .i64 0]) (t:=34) ?_;intro gb665 hg w55 hbox hb;have BK665:=Aside0.mk hbox;have GW665:=sA hg;have GE665:=sA hg;have NB642_665:=nA hg BK642;have NB665_642:=nB hg BK642;have LT642_665:=nL hg BK642;have NB643_665:=nA hg BK643;have NB665_643:=nB hg BK643;have LT643_665:=nL hg BK643;have NB648_665:=nA hg BK648;have NB665_648:=nB hg BK648;have LT648_665:=nL hg BK648;have NB653_665:=nA hg BK653;have NB665_653:=nB hg BK653;have LT653_665:=nL hg BK653;have NB660_665:=nA hg BK660;have NB665_660:=nB hg BK660;have LT660_665:=nL hg BK660;have NB661_665:=nA hg BK661;have NB665_661:=nB hg BK661;have LT661_665:=nL hg BK661;replace BK642:=kB BK642 hb;replace BK643:=kB BK643 hb;replace BK648:=kB BK648 hb;replace BK653:=kB BK653 hb;replace BK660:=kB BK660 hb;replace BK661:=kB BK661 hb;replace HB:=lB hb;clear hb hbox hg;have hnb56:=LT642_665.out;have hnb57:=LT643_665.out;have hnb58:=LT648_665.out;have hnb59:=LT653_665.out;have hnb60:=LT660_665.out;have hnb61:=LT661_665.out;obtain ⟨hcz62_0,hcz62_1,hfz62_0,hfz62_1⟩:=cz2 BK665;obtain ⟨hcz63_0,hcz63_1,hcz63_2,hcz63_3,hfz63_0,hfz63_1,hfz63_2,hfz63_3⟩:=cz4 BK660;obtain ⟨hcz64_0,hcz64_1,hfz64_0,hfz64_1⟩:=cz2 BK661)|((with_reducible refine gd 80 rfl ?_);refine gC (some 80) rfl Try.func12 (spec_MoveEnd.calls (w:=_) (h:=A38.out)) ?_;intro w65 hb;have n0_:=Aside0.mk (blk_below (g:=gb642) (o:=.cells #[.int .i64 t635,.int .i64 t636,.int .i64 t637,.int .i64 t638] 26 (0,0)) (bkF BK642) hb);have n1_:=Aside0.mk (blk_below (g:=gb643) (o:=.cells #[.int .i64 t639,.int .i64 t640,.int .i64 t641] 28 (0,0)) (bkF BK643) hb);have n2_:=Aside0.mk (blk_below (g:=gb648) (o:=.cells #[.int .i64 t644,.int .i64 t645,.int .i64 t646] 28 (0,0)) (bkF BK648) hb);have n3_:=Aside0.mk (blk_below (g:=gb653) (o:=.cells #[.int .i64 t649,.int .i64 t650,.int .i64 t651] 28 (0,0)) (bkF BK653) hb);have n4_:=Aside0.mk (blk_below (g:=gb660) (o:=.cells #[.int .i64 t654,.int .i64 t655,.int .i64 t656,.int .i64 t657] 26 (0,0)) (bkF BK660) hb);have n5_:=Aside0.mk (blk_below (g:=gb661) (o:=.cells #[.int .i64 t658,.int .i64 t659] 34 (0,0)) (bkF BK661) hb);have n6_:=Aside0.mk (blk_below (g:=gb665) (o:=.cells #[.int .i64 t662,.int .i64 t663] 34 (0,0)) (bpA BK665) hb);have n7_:=lB hb;clear BK642;clear BK643;clear BK648;clear BK653;clear BK660;clear BK661;clear BK665;clear HB;have BK642:=n0_;have BK643:=n1_;have BK648:=n2_;have BK653:=n3_;have BK660:=n4_;have BK661:=n5_;have BK665:=n6_;have HB:=n7_;clear n0_ n1_ n2_ n3_ n4_ n5_ n6_ n7_;clear hb)|((with_reducible refine gate_dst (N:=14) rfl ?_);refine bxE (cs:=#[.int .i64 0,.int .i64 0]) (t:=34) ?_;intro gb669 hg w66 hbox hb;have BK669:=Aside0.mk hbox;have GW669:=sA hg;have GE669:=sA hg;have NB642_669:=nA hg BK642;have NB669_642:=nB hg BK642;have LT642_669:=nL hg BK642;have NB643_669:=nA hg BK643;have NB669_643:=nB hg BK643;have LT643_669:=nL hg BK643;have NB648_669:=nA hg BK648;have NB669_648:=nB hg BK648;have LT648_669:=nL hg BK648;have NB653_669:=nA hg BK653;have NB669_653:=nB hg BK653;have LT653_669:=nL hg BK653;have NB660_669:=nA hg BK660;have NB669_660:=nB hg BK660;have LT660_669:=nL hg BK660;have NB661_669:=nA hg BK661;have NB669_661:=nB hg BK661;have LT661_669:=nL hg BK661;have NB665_669:=nA hg BK665;have NB669_665:=nB hg BK665;have LT665_669:=nL hg BK665;replace BK642:=kB BK642 hb;replace BK643:=kB BK643 hb;replace BK648:=kB BK648 hb;replace BK653:=kB BK653 hb;replace BK660:=kB BK660 hb;replace BK661:=kB BK661 hb;replace BK665:=kB BK665 hb;replace HB:=lB hb;clear hb hbox hg;have hnb67:=LT642_669.out;have hnb68:=LT643_669.out;have hnb69:=LT648_669.out;have hnb70:=LT653_669.out;have hnb71:=LT660_669.out;have hnb72:=LT661_669.out;have hnb73:=LT665_669.out;obtain ⟨hcz74_0,hcz74_1,hfz74_0,hfz74_1⟩:=cz2 BK669))
   (try simp only [Act.put,List.setIfInBounds_toArray,List.set_cons_zero,List.set_cons_succ])
   go_cut [90] (fun v90 wc=>∃ (kq:Nat) (x90_38:Bool),v90=.bool x90_38∧Aside0 (laws_FnMoves.j1 kq t634 t647 t664 x90_38 t635 t636 t637 t638 t639 t640 t641 t644 t645 t646 t654 t655 t656 t657 t658 t659 t662 t663=some r)∧Aside0 (kq≤kj6)∧Aside0 (wc.heap[gb642]?=some (.cells #[.int .i64 t635,.int .i64 t636,.int .i64 t637,.int .i64 t638] 26 (0,0)))∧Aside0 (wc.heap[gb643]?=some (.cells #[.int .i64 t639,.int .i64 t640,.int .i64 t641] 28 (0,0)))∧Aside0 (wc.heap[gb648]?=some (.cells #[.int .i64 t644,.int .i64 t645,.int .i64 t646] 28 (0,0)))∧Aside0 (wc.heap[gb653]?=some (.cells #[.int .i64 t649,.int .i64 t650,.int .i64 t651] 28 (0,0)))∧Aside0 (wc.heap[gb660]?=some (.cells #[.int .i64 t654,.int .i64 t655,.int .i64 t656,.int .i64 t657] 26 (0,0)))∧Aside0 (wc.heap[gb661]?=some (.cells #[.int .i64 t658,.int .i64 t659] 34 (0,0)))∧Aside0 (wc.heap[gb665]?=some (.cells #[.int .i64 t662,.int .i64 t663] 34 (0,0)))∧Aside0 (wc.heap[gb669]?=some (.cells #[.int .i64 t666,.int .i64 t667] 34 (0,0)))∧Aside0 (Below w.heap.size w wc))
   case first=>
    have H:=HC39.out
    clear HC39
    by_cases c75:t664=t668
    ·
     rw [if_pos c75] at H
     have c75b0:(t664 == t668)=true:=beq_iff_eq.mpr c75
     have c75b1:(t664 != t668)=false:=bne_eq_false_iff_eq.mpr c75
     clear c75
     (first|rw [c75b0]|(simp only [i64_w,i32_w];rw [c75b0])|skip)
     have H':=Aside0.mk H
     clear H
     try clear hnb11
     try clear hnb16 hnb17
     try clear hnb23 hnb24 hnb25
     try clear hnb43 hnb44 hnb45 hnb46 hnb47 hnb49 hnb50 hnb51 hnb52
     try clear hnb56 hnb57 hnb58 hnb59 hnb60 hnb61
     try clear hnb67 hnb68 hnb69 hnb70 hnb71 hnb72 hnb73
     have hnb76:=LT642_665.out
     have hnb77:=LT643_665.out
     have hnb78:=LT648_665.out
     have hnb79:=LT653_665.out
     have hnb80:=LT660_665.out
     have hnb81:=LT661_665.out
     have hnb82:=LT665_669.out
     obtain ⟨hcz83_0,hcz83_1,hfz83_0,hfz83_1⟩:=cz2 BK665
     have hnb84:=LT642_669.out
     have hnb85:=LT643_669.out
     have hnb86:=LT648_669.out
     have hnb87:=LT653_669.out
     have hnb88:=LT660_669.out
     have hnb89:=LT661_669.out
     obtain ⟨hcz90_0,hcz90_1,hfz90_0,hfz90_1⟩:=cz2 BK669
     go_wp2
     go_meet
     case rel=>exact ⟨_,((!(t662 == t666) || (!(t663 == t667)))),hB,H',⟨by have:=HJ6.out;first|omega|exact Nat.le_refl _⟩,⟨bkF BK642⟩,⟨bkF BK643⟩,⟨bkF BK648⟩,⟨bkF BK653⟩,⟨bkF BK660⟩,⟨bkF BK661⟩,⟨bkF BK665⟩,⟨bpA BK669⟩,⟨blA⟩⟩
    ·
     rw [if_neg c75] at H
     have c75b0:(t664 == t668)=false:=beq_eq_false_iff_ne.mpr c75
     have c75b1:(t664 != t668)=true:=bne_iff_ne.mpr c75
     (first|rw [c75b0]|(simp only [i64_w,i32_w];rw [c75b0])|skip)
     have H':=Aside0.mk H
     clear H
     go_wp2
     go_meet
     case rel=>exact ⟨_,(true),hB,H',⟨by have:=HJ6.out;first|omega|exact Nat.le_refl _⟩,⟨bkF BK642⟩,⟨bkF BK643⟩,⟨bkF BK648⟩,⟨bkF BK653⟩,⟨bkF BK660⟩,⟨bkF BK661⟩,⟨bkF BK665⟩,⟨bpA BK669⟩,⟨blA⟩⟩
   case rest=>
    expose_names
    clear BK653_1 BK642_1 BK643_1 BK648_1 HB_1 HC39 hcz48_0 hcz48_1 hcz48_2 hcz48_3 hfz48_0 hfz48_1 hfz48_2 hfz48_3 hcz53_0 hcz53_1 hfz53_0 hfz53_1 hcz62_0 hcz62_1 hfz62_0 hfz62_1 hcz63_0 hcz63_1 hcz63_2 hcz63_3 hfz63_0 hfz63_1 hfz63_2 hfz63_3 hcz64_0 hcz64_1 hfz64_0 hfz64_1 hcz74_0 hcz74_1 hfz74_0 hfz74_1
    revert k A0 c0 l0 r w hu26 hu28 hu34 t634 t635 t636 t637 t638 t639 t640 t641 t644 t645 t646 t647 t649 t650 t651 t652 gb642 gb643 gb648 gb653 kj6 t654 t655 t656 t657 t658 t659 t662 t663 t664 t666 t667 t668 gb660 gb661 gb665 K gb669 w66 K_1 wc u36 u37 u38 u39 u40 u41 u42 u43 u44 u45 u46 u47 u48 u49 u50 u51 u52 u53 u54 u55 u56 u57 u58 u59 u60 u61 u62 u63 u64 u65 u66 u67 u68 u69 u70 u71 u72 u73 u74 u75 u76 u77 u78 u79 u80 u81 u82 u83 u84 u85 u86 u87 u88 u89 u90 u91 u92 u93 u94 u95 u96 u97 u98 u99 u100 u101 u102 u103 u104 u105 u106 u107 u108 u109 u110 u111 u112 u113 u114 u115 u116 u117 u118 u119 u120 u121 u122 u123 u124 u125 u126 u127 u128 u129 u130 u131 u132 u133 u134 u135 u136 u137 u138 u139 u140 u141 u142 u143 u144 u145 u146 u147 u148 u149 u150 u151 u152 u153 u154 u155 u156 u157 u158 u159 u160 u161 u162 u163 u164 u165 u166 u167 u168 u169 u170 u171 u172 u173 u174 u175 u176 u177 u178 u179 u180 u181 u182 u183 u184 u185 u186 u187 u188 u189 u190 u191 u192 u193 u194 u195 u196 u197 u198 u199 u200 u201 u202 u203 u204 u205 u206 u207 u208 u209 u210 u211 u212 u213 u214 u215
    exact hcutP.out
set_option maxHeartbeats 8000000 in
set_option maxRecDepth 100000 in
noncomputable def laws_FnMoves.cut2:PSigma fun P:Prop=>Aside0 P→(laws_FnMoves.cut1.1):=by
 apply PSigma.mk
 ·
  intro hcutP
  conv=>whnf
  intro k A0 c0 l0 r w hu26 hu28 hu34 HR0 HC0 A2 t634 t635 t636 t637 t638 t639 t640 t641 A4 t644 t645 t646 t647 A5 t649 t650 t651 t652 A6 _ gb642 GW642 GE642 gb643 GW643 GE643 NB642_643 NB643_642 LT642_643 hnb11 gb648 GW648 GE648 NB642_648 NB648_642 LT642_648 NB643_648 NB648_643 LT643_648 hnb16 hnb17 gb653 GW653 GE653 NB642_653 NB653_642 LT642_653 NB643_653 NB653_643 LT643_653 NB648_653 NB653_648 LT648_653 hnb23 hnb24 hnb25 kj6 HJ6 t654 t655 t656 t657 t658 t659 A36 t662 t663 t664 A37 t666 t667 t668 A38 gb660 GW660 GE660 NB642_660 NB660_642 LT642_660 NB643_660 NB660_643 LT643_660 NB648_660 NB660_648 LT648_660 NB653_660 NB660_653 LT653_660 gb661 GW661 GE661 NB642_661 NB661_642 LT642_661 NB643_661 NB661_643 LT643_661 NB648_661 NB661_648 LT648_661 NB653_661 NB661_653 LT653_661 NB660_661 NB661_660 LT660_661 hnb43 hnb44 hnb45 hnb46 hnb47 hnb49 hnb50 hnb51 hnb52 gb665 GW665 GE665 NB642_665 NB665_642 LT642_665 NB643_665 NB665_643 LT643_665 NB648_665 NB665_648 LT648_665 NB653_665 NB665_653 LT653_665 NB660_665 NB665_660 LT660_665 NB661_665 NB665_661 LT661_665 hnb56 hnb57 hnb58 hnb59 hnb60 hnb61 _ _ gb669 w66 BK669 GW669 GE669 NB642_669 NB669_642 LT642_669 NB643_669 NB669_643 LT643_669 NB648_669 NB669_648 LT648_669 NB653_669 NB669_653 LT653_669 NB660_669 NB669_660 LT660_669 NB661_669 NB669_661 LT661_669 NB665_669 NB669_665 LT665_669 BK642 BK643 BK648 BK653 BK660 BK661 BK665 HB hnb67 hnb68 hnb69 hnb70 hnb71 hnb72 hnb73 _ _ wc _ _ _ _ _ _ _ _ _ _ _ _ _ _ _ _ _ _ _ _ _ _ _ _ _ _ _ _ _ _ _ _ _ _ _ _ _ _ _ _ _ _ _ _ _ _ _ _ _ _ _ _ _ _ _ _ _ _ _ _ _ _ _ _ _ _ _ _ _ _ _ _ _ _ _ _ _ _ _ _ _ _ _ _ _ _ _ _ _ _ _ _ _ _ _ _ _ _ _ _ _ _ _ _ _ _ _ _ _ _ _ _ _ _ _ _ _ _ _ _ _ _ _ _ _ _ _ _ _ _ _ _ _ _ _ _ _ _ _ _ _ _ _ _ _ _ _ _ _ _ _ _ _ _ _ _ _ _ _ _ _ _ _ _ _ _ _ _ _ _ _ _ _ _ _ _ _ _ _ _ hcut
  obtain ⟨kq,x90_38,rfl,HA,HJ38,BK642,BK643,BK648,BK653,BK660,BK661,BK665,BK669,HB⟩:=hcut
  cases kq with
  | zero=>exact absurd HA.out (by simp [laws_FnMoves.j1])
  | succ kj38=>
   have H:=HA.out
   clear HA
   simp only [laws_FnMoves.j1] at H
   by_cases c91:x90_38=true
   ·
    subst c91
    rw [if_pos rfl] at H
    try dsimp only at H
    exact absurd H (by simp)
   replace c91:=Bool.eq_false_iff.mpr c91
   subst c91
   rw [if_neg (show ¬ (false=true) by decide)] at H
   try dsimp only at H
   have HC92:=Aside0.mk H
   clear H
   go_upto_if 92 with (fail)
   go_cut [] (fun wc=>∃ (kq:Nat),Aside0 (laws_FnMoves.j2 kq t634 t647 t635 t636 t637 t638 t639 t640 t641 t644 t645 t646 t654 t655 t656 t657=some r)∧Aside0 (kq≤kj38)∧Aside0 (wc.heap[gb642]?=some (.cells #[.int .i64 t635,.int .i64 t636,.int .i64 t637,.int .i64 t638] 26 (0,0)))∧Aside0 (wc.heap[gb643]?=some (.cells #[.int .i64 t639,.int .i64 t640,.int .i64 t641] 28 (0,0)))∧Aside0 (wc.heap[gb648]?=some (.cells #[.int .i64 t644,.int .i64 t645,.int .i64 t646] 28 (0,0)))∧Aside0 (wc.heap[gb653]?=some (.cells #[.int .i64 t649,.int .i64 t650,.int .i64 t651] 28 (0,0)))∧Aside0 (wc.heap[gb660]?=some (.cells #[.int .i64 t654,.int .i64 t655,.int .i64 t656,.int .i64 t657] 26 (0,0)))∧Aside0 (wc.heap[gb661]?=some (.cells #[.int .i64 t658,.int .i64 t659] 34 (0,0)))∧Aside0 (wc.heap[gb665]?=some (.cells #[.int .i64 t662,.int .i64 t663] 34 (0,0)))∧Aside0 (wc.heap[gb669]?=some (.cells #[.int .i64 t666,.int .i64 t667] 34 (0,0)))∧Aside0 (Below w.heap.size w wc))
   case first=>
    have H:=HC92.out
    clear HC92
    by_cases c93:t664=0
    ·
     rw [if_pos c93] at H
     have c93b0:(t664 == 0)=true:=beq_iff_eq.mpr c93
     have c93b1:(t664 != 0)=false:=bne_eq_false_iff_eq.mpr c93
     clear c93
     (first|rw [c93b0]|(simp only [i64_w,i32_w];rw [c93b0])|skip)
     replace H:=bS H
     obtain ⟨⟨t670,t671,t672,t673,t674⟩,A94,H⟩:=H
     try dsimp only at H
     replace H:=bS H
     obtain ⟨⟨t676,t677,t678⟩,A95,H⟩:=H
     try dsimp only at H
     by_cases c96:t674=0
     rotate_left
     ·
      rw [if_neg c96] at H
      exact absurd H (by simp)
     rw [if_pos c96] at H
     have c96b0:(t674 == 0)=true:=beq_iff_eq.mpr c96
     have c96b1:(t674 != 0)=false:=bne_eq_false_iff_eq.mpr c96
     clear c96
     by_cases c97:t678=0
     rotate_left
     ·
      rw [if_neg c97] at H
      exact absurd H (by simp)
     rw [if_pos c97] at H
     have c97b0:(t678 == 0)=true:=beq_iff_eq.mpr c97
     have c97b1:(t678 != 0)=false:=bne_eq_false_iff_eq.mpr c97
     clear c97
     by_cases c98:(!(t676 == t658) || (!(t677 == t659)))=true
     ·
      rw [if_pos c98] at H
      exact absurd H (by simp)
     rw [if_neg c98] at H
     have c98b0:(!(t676 == t658) || (!(t677 == t659)))=false:=by simpa using c98
     clear c98
     have H':=Aside0.mk H
     clear H
     try clear hnb11
     try clear hnb16 hnb17
     try clear hnb23 hnb24 hnb25
     try clear hnb43 hnb44 hnb45 hnb46 hnb47 hnb49 hnb50 hnb51 hnb52
     try clear hnb56 hnb57 hnb58 hnb59 hnb60 hnb61
     try clear hnb67 hnb68 hnb69 hnb70 hnb71 hnb72 hnb73
     have hnb99:=LT642_660.out
     have hnb100:=LT643_660.out
     have hnb101:=LT648_660.out
     have hnb102:=LT653_660.out
     have hnb103:=LT660_661.out
     have hnb104:=LT660_665.out
     have hnb105:=LT660_669.out
     obtain ⟨hcz106_0,hcz106_1,hcz106_2,hcz106_3,hfz106_0,hfz106_1,hfz106_2,hfz106_3⟩:=cz4 BK660
     go_wp2_with (first|((with_reducible refine gd 95 rfl ?_);refine gC (some 95) rfl Try.func13 (impl_InverseMatrix.calls (w:=_) (h:=A94.out)) ?_;intro w107 hb;replace BK642:=kB BK642 hb;replace BK643:=kB BK643 hb;replace BK648:=kB BK648 hb;replace BK653:=kB BK653 hb;replace BK660:=kB BK660 hb;replace BK661:=kB BK661 hb;replace BK665:=kB BK665 hb;replace BK669:=kB BK669 hb;replace HB:=lB hb;clear hb)|((with_reducible refine gate_dst (N:=16) rfl ?_);refine bxE (cs:=#[.int .i64 0,.int .i64 0,.int .i64 0,.int .i64 0]) (t:=26) ?_;intro gb675 hg w108 hbox hb;have BK675:=Aside0.mk hbox;have GW675:=sA hg;have GE675:=sA hg;have NB642_675:=nA hg BK642;have NB675_642:=nB hg BK642;have LT642_675:=nL hg BK642;have NB643_675:=nA hg BK643;have NB675_643:=nB hg BK643;have LT643_675:=nL hg BK643;have NB648_675:=nA hg BK648;have NB675_648:=nB hg BK648;have LT648_675:=nL hg BK648;have NB653_675:=nA hg BK653;have NB675_653:=nB hg BK653;have LT653_675:=nL hg BK653;have NB660_675:=nA hg BK660;have NB675_660:=nB hg BK660;have LT660_675:=nL hg BK660;have NB661_675:=nA hg BK661;have NB675_661:=nB hg BK661;have LT661_675:=nL hg BK661;have NB665_675:=nA hg BK665;have NB675_665:=nB hg BK665;have LT665_675:=nL hg BK665;have NB669_675:=nA hg BK669;have NB675_669:=nB hg BK669;have LT669_675:=nL hg BK669;replace BK642:=kB BK642 hb;replace BK643:=kB BK643 hb;replace BK648:=kB BK648 hb;replace BK653:=kB BK653 hb;replace BK660:=kB BK660 hb;replace BK661:=kB BK661 hb;replace BK665:=kB BK665 hb;replace BK669:=kB BK669 hb;replace HB:=lB hb;clear hb hbox hg;have hnb109:=LT642_675.out;have hnb110:=LT643_675.out;have hnb111:=LT648_675.out;have hnb112:=LT653_675.out;have hnb113:=LT660_675.out;have hnb114:=LT661_675.out;have hnb115:=LT665_675.out;have hnb116:=LT669_675.out;obtain ⟨hcz117_0,hcz117_1,hcz117_2,hcz117_3,hfz117_0,hfz117_1,hfz117_2,hfz117_3⟩:=cz4 BK675;have hnb118:=LT642_665.out;have hnb119:=LT643_665.out;have hnb120:=LT648_665.out;have hnb121:=LT653_665.out;have hnb122:=LT661_665.out;have hnb123:=LT665_669.out;obtain ⟨hcz124_0,hcz124_1,hfz124_0,hfz124_1⟩:=cz2 BK665)|((with_reducible refine gd 101 rfl ?_);refine gC (some 101) rfl Try.func11 (impl_MoveEnd.calls (w:=_) (h:=A95.out)) ?_;intro w125 hb;have n0_:=Aside0.mk (blk_below (g:=gb642) (o:=.cells #[.int .i64 t635,.int .i64 t636,.int .i64 t637,.int .i64 t638] 26 (0,0)) (bkF BK642) hb);have n1_:=Aside0.mk (blk_below (g:=gb643) (o:=.cells #[.int .i64 t639,.int .i64 t640,.int .i64 t641] 28 (0,0)) (bkF BK643) hb);have n2_:=Aside0.mk (blk_below (g:=gb648) (o:=.cells #[.int .i64 t644,.int .i64 t645,.int .i64 t646] 28 (0,0)) (bkF BK648) hb);have n3_:=Aside0.mk (blk_below (g:=gb653) (o:=.cells #[.int .i64 t649,.int .i64 t650,.int .i64 t651] 28 (0,0)) (bkF BK653) hb);have n4_:=Aside0.mk (blk_below (g:=gb660) (o:=.cells #[.int .i64 t654,.int .i64 t655,.int .i64 t656,.int .i64 t657] 26 (0,0)) (bkF BK660) hb);have n5_:=Aside0.mk (blk_below (g:=gb661) (o:=.cells #[.int .i64 t658,.int .i64 t659] 34 (0,0)) (bkF BK661) hb);have n6_:=Aside0.mk (blk_below (g:=gb665) (o:=.cells #[.int .i64 t662,.int .i64 t663] 34 (0,0)) (bkF BK665) hb);have n7_:=Aside0.mk (blk_below (g:=gb669) (o:=.cells #[.int .i64 t666,.int .i64 t667] 34 (0,0)) (bkF BK669) hb);have n8_:=Aside0.mk (blk_below (g:=gb675) (o:=.cells #[.int .i64 t670,.int .i64 t671,.int .i64 t672,.int .i64 t673] 26 (0,0)) (bpA BK675) hb);have n9_:=lB hb;clear BK642;clear BK643;clear BK648;clear BK653;clear BK660;clear BK661;clear BK665;clear BK669;clear BK675;clear HB;have BK642:=n0_;have BK643:=n1_;have BK648:=n2_;have BK653:=n3_;have BK660:=n4_;have BK661:=n5_;have BK665:=n6_;have BK669:=n7_;have BK675:=n8_;have HB:=n9_;clear n0_ n1_ n2_ n3_ n4_ n5_ n6_ n7_ n8_ n9_;clear hb)|((with_reducible refine gate_dst (N:=18) rfl ?_);refine bxE (cs:=#[.int .i64 0,.int .i64 0]) (t:=34) ?_;intro gb679 hg w126 hbox hb;have BK679:=Aside0.mk hbox;have GW679:=sA hg;have GE679:=sA hg;have NB642_679:=nA hg BK642;have NB679_642:=nB hg BK642;have LT642_679:=nL hg BK642;have NB643_679:=nA hg BK643;have NB679_643:=nB hg BK643;have LT643_679:=nL hg BK643;have NB648_679:=nA hg BK648;have NB679_648:=nB hg BK648;have LT648_679:=nL hg BK648;have NB653_679:=nA hg BK653;have NB679_653:=nB hg BK653;have LT653_679:=nL hg BK653;have NB660_679:=nA hg BK660;have NB679_660:=nB hg BK660;have LT660_679:=nL hg BK660;have NB661_679:=nA hg BK661;have NB679_661:=nB hg BK661;have LT661_679:=nL hg BK661;have NB665_679:=nA hg BK665;have NB679_665:=nB hg BK665;have LT665_679:=nL hg BK665;have NB669_679:=nA hg BK669;have NB679_669:=nB hg BK669;have LT669_679:=nL hg BK669;have NB675_679:=nA hg BK675;have NB679_675:=nB hg BK675;have LT675_679:=nL hg BK675;replace BK642:=kB BK642 hb;replace BK643:=kB BK643 hb;replace BK648:=kB BK648 hb;replace BK653:=kB BK653 hb;replace BK660:=kB BK660 hb;replace BK661:=kB BK661 hb;replace BK665:=kB BK665 hb;replace BK669:=kB BK669 hb;replace BK675:=kB BK675 hb;replace HB:=lB hb;clear hb hbox hg;have hnb127:=LT642_679.out;have hnb128:=LT643_679.out;have hnb129:=LT648_679.out;have hnb130:=LT653_679.out;have hnb131:=LT660_679.out;have hnb132:=LT661_679.out;have hnb133:=LT665_679.out;have hnb134:=LT669_679.out;have hnb135:=LT675_679.out;obtain ⟨hcz136_0,hcz136_1,hfz136_0,hfz136_1⟩:=cz2 BK679;have hnb137:=LT642_661.out;have hnb138:=LT643_661.out;have hnb139:=LT648_661.out;have hnb140:=LT653_661.out;have hnb141:=LT661_669.out;obtain ⟨hcz142_0,hcz142_1,hfz142_0,hfz142_1⟩:=cz2 BK661))
     go_meet
     case rel=>exact ⟨_,H',⟨by have:=HJ6.out;have:=HJ38.out;first|omega|exact Nat.le_refl _⟩,⟨bkF BK642⟩,⟨bkF BK643⟩,⟨bkF BK648⟩,⟨bkF BK653⟩,⟨bkF BK660⟩,⟨bkF BK661⟩,⟨bkF BK665⟩,⟨bkF BK669⟩,⟨blA⟩⟩
    ·
     rw [if_neg c93] at H
     have c93b0:(t664 == 0)=false:=beq_eq_false_iff_ne.mpr c93
     have c93b1:(t664 != 0)=true:=bne_iff_ne.mpr c93
     (first|rw [c93b0]|(simp only [i64_w,i32_w];rw [c93b0])|skip)
     have H':=Aside0.mk H
     clear H
     go_wp2
     go_meet
     case rel=>exact ⟨_,H',⟨by have:=HJ6.out;have:=HJ38.out;first|omega|exact Nat.le_refl _⟩,⟨bkA BK642⟩,⟨bkA BK643⟩,⟨bkA BK648⟩,⟨bkA BK653⟩,⟨bkA BK660⟩,⟨bkA BK661⟩,⟨bkA BK665⟩,⟨bkA BK669⟩,⟨blA⟩⟩
   case rest=>
    expose_names
    clear BK669_1 BK642_1 BK643_1 BK648_1 BK653_1 BK660_1 BK661_1 BK665_1 HB_1 HC92
    revert k A0 c0 l0 r w hu26 hu28 hu34 t634 t635 t636 t637 t638 t639 t640 t641 t644 t645 t646 t647 t649 t650 t651 t652 gb642 gb643 gb648 gb653 kj6 t654 t655 t656 t657 t658 t659 t662 t663 t664 t666 t667 t668 gb660 gb661 gb665 gb669 wc_1 kj38 K wc u2 u16 u17 u18 u19 u36 u37 u38 u39 u40 u41 u42 u43 u44 u45 u46 u47 u48 u49 u50 u51 u52 u53 u54 u55 u56 u57 u58 u59 u60 u61 u62 u63 u64 u65 u66 u67 u68 u69 u70 u71 u72 u73 u74 u75 u76 u77 u78 u79 u80 u81 u82 u83 u84 u85 u86 u87 u88 u89 u90 u91 u92 u93 u94 u95 u96 u97 u98 u99 u100 u101 u102 u103 u104 u105 u106 u107 u108 u109 u110 u111 u112 u113 u114 u115 u116 u117 u118 u119 u120 u121 u122 u123 u124 u125 u126 u127 u128 u129 u130 u131 u132 u133 u134 u135 u136 u137 u138 u139 u140 u141 u142 u143 u144 u145 u146 u147 u148 u149 u150 u151 u152 u153 u154 u155 u156 u157 u158 u159 u160 u161 u162 u163 u164 u165 u166 u167 u168 u169 u170 u171 u172 u173 u174 u175 u176 u177 u178 u179 u180 u181 u182 u183 u184 u185 u186 u187 u188 u189 u190 u191 u192 u193 u194 u195 u196 u197 u198 u199 u200 u201 u202 u203 u204 u205 u206 u207 u208 u209 u210 u211 u212 u213 u214 u215
    exact hcutP.out
set_option maxHeartbeats 8000000 in
set_option maxRecDepth 100000 in
noncomputable def laws_FnMoves.cut3:PSigma fun P:Prop=>Aside0 P→(laws_FnMoves.cut2.1):=by
 apply PSigma.mk
 ·
  intro hcutP
  conv=>whnf
  intro k A0 c0 l0 r w hu26 hu28 hu34 HR0 HC0 A2 t634 t635 t636 t637 t638 t639 t640 t641 A4 t644 t645 t646 t647 A5 t649 t650 t651 t652 A6 _ gb642 GW642 GE642 gb643 GW643 GE643 NB642_643 NB643_642 LT642_643 hnb11 gb648 GW648 GE648 NB642_648 NB648_642 LT642_648 NB643_648 NB648_643 LT643_648 hnb16 hnb17 gb653 GW653 GE653 NB642_653 NB653_642 LT642_653 NB643_653 NB653_643 LT643_653 NB648_653 NB653_648 LT648_653 hnb23 hnb24 hnb25 kj6 HJ6 t654 t655 t656 t657 t658 t659 A36 t662 t663 t664 A37 t666 t667 t668 A38 gb660 GW660 GE660 NB642_660 NB660_642 LT642_660 NB643_660 NB660_643 LT643_660 NB648_660 NB660_648 LT648_660 NB653_660 NB660_653 LT653_660 gb661 GW661 GE661 NB642_661 NB661_642 LT642_661 NB643_661 NB661_643 LT643_661 NB648_661 NB661_648 LT648_661 NB653_661 NB661_653 LT653_661 NB660_661 NB661_660 LT660_661 hnb43 hnb44 hnb45 hnb46 hnb47 hnb49 hnb50 hnb51 hnb52 gb665 GW665 GE665 NB642_665 NB665_642 LT642_665 NB643_665 NB665_643 LT643_665 NB648_665 NB665_648 LT648_665 NB653_665 NB665_653 LT653_665 NB660_665 NB665_660 LT660_665 NB661_665 NB665_661 LT661_665 hnb56 hnb57 hnb58 hnb59 hnb60 hnb61 gb669 GW669 GE669 NB642_669 NB669_642 LT642_669 NB643_669 NB669_643 LT643_669 NB648_669 NB669_648 LT648_669 NB653_669 NB669_653 LT653_669 NB660_669 NB669_660 LT660_669 NB661_669 NB669_661 LT661_669 NB665_669 NB669_665 LT665_669 hnb67 hnb68 hnb69 hnb70 hnb71 hnb72 hnb73 _ BK642 BK643 BK648 BK653 BK660 BK661 BK665 BK669 HB kj38 HJ38 _ _ wc _ _ _ _ _ _ _ _ _ _ _ _ _ _ _ _ _ _ _ _ _ _ _ _ _ _ _ _ _ _ _ _ _ _ _ _ _ _ _ _ _ _ _ _ _ _ _ _ _ _ _ _ _ _ _ _ _ _ _ _ _ _ _ _ _ _ _ _ _ _ _ _ _ _ _ _ _ _ _ _ _ _ _ _ _ _ _ _ _ _ _ _ _ _ _ _ _ _ _ _ _ _ _ _ _ _ _ _ _ _ _ _ _ _ _ _ _ _ _ _ _ _ _ _ _ _ _ _ _ _ _ _ _ _ _ _ _ _ _ _ _ _ _ _ _ _ _ _ _ _ _ _ _ _ _ _ _ _ _ _ _ _ _ _ _ _ _ _ _ _ _ _ _ _ _ _ _ _ _ _ _ _ _ _ _ hcut
  obtain ⟨kq,HA,HJ91,BK642,BK643,BK648,BK653,BK660,BK661,BK665,BK669,HB⟩:=hcut
  cases kq with
  | zero=>exact absurd HA.out (by simp [laws_FnMoves.j2])
  | succ kj91=>
   have H:=HA.out
   clear HA
   simp only [laws_FnMoves.j2] at H
   by_cases c143:t647=0
   ·
    rw [if_pos c143] at H
    have c143b0:(t647 == 0)=true:=beq_iff_eq.mpr c143
    have c143b1:(t647 != 0)=false:=bne_eq_false_iff_eq.mpr c143
    clear c143
    replace H:=bS H
    obtain ⟨⟨t680,t681,t682,t683,t684⟩,A144,H⟩:=H
    try dsimp only at H
    replace H:=bS H
    obtain ⟨⟨t686,t687,t688,t689⟩,A145,H⟩:=H
    try dsimp only at H
    have HC146:=Aside0.mk H
    clear H
    try clear hnb11
    try clear hnb16 hnb17
    try clear hnb23 hnb24 hnb25
    try clear hnb43 hnb44 hnb45 hnb46 hnb47 hnb49 hnb50 hnb51 hnb52
    try clear hnb56 hnb57 hnb58 hnb59 hnb60 hnb61
    try clear hnb67 hnb68 hnb69 hnb70 hnb71 hnb72 hnb73
    have hnb147:=LT642_643.out
    have hnb148:=LT642_648.out
    have hnb149:=LT642_653.out
    have hnb150:=LT642_660.out
    have hnb151:=LT642_661.out
    have hnb152:=LT642_665.out
    have hnb153:=LT642_669.out
    obtain ⟨hcz154_0,hcz154_1,hcz154_2,hcz154_3,hfz154_0,hfz154_1,hfz154_2,hfz154_3⟩:=cz4 BK642
    go_upto_region 22 with (first|((with_reducible refine gd 122 rfl ?_);refine gC (some 122) rfl Try.func13 (impl_InverseMatrix.calls (w:=_) (h:=A144.out)) ?_;intro w155 hb;replace BK642:=kB BK642 hb;replace BK643:=kB BK643 hb;replace BK648:=kB BK648 hb;replace BK653:=kB BK653 hb;replace BK660:=kB BK660 hb;replace BK661:=kB BK661 hb;replace BK665:=kB BK665 hb;replace BK669:=kB BK669 hb;replace HB:=lB hb;clear hb)|((with_reducible refine gate_dst (N:=20) rfl ?_);refine bxE (cs:=#[.int .i64 0,.int .i64 0,.int .i64 0,.int .i64 0]) (t:=26) ?_;intro gb685 hg w156 hbox hb;have BK685:=Aside0.mk hbox;have GW685:=sA hg;have GE685:=sA hg;have NB642_685:=nA hg BK642;have NB685_642:=nB hg BK642;have LT642_685:=nL hg BK642;have NB643_685:=nA hg BK643;have NB685_643:=nB hg BK643;have LT643_685:=nL hg BK643;have NB648_685:=nA hg BK648;have NB685_648:=nB hg BK648;have LT648_685:=nL hg BK648;have NB653_685:=nA hg BK653;have NB685_653:=nB hg BK653;have LT653_685:=nL hg BK653;have NB660_685:=nA hg BK660;have NB685_660:=nB hg BK660;have LT660_685:=nL hg BK660;have NB661_685:=nA hg BK661;have NB685_661:=nB hg BK661;have LT661_685:=nL hg BK661;have NB665_685:=nA hg BK665;have NB685_665:=nB hg BK665;have LT665_685:=nL hg BK665;have NB669_685:=nA hg BK669;have NB685_669:=nB hg BK669;have LT669_685:=nL hg BK669;replace BK642:=kB BK642 hb;replace BK643:=kB BK643 hb;replace BK648:=kB BK648 hb;replace BK653:=kB BK653 hb;replace BK660:=kB BK660 hb;replace BK661:=kB BK661 hb;replace BK665:=kB BK665 hb;replace BK669:=kB BK669 hb;replace HB:=lB hb;clear hb hbox hg;have hnb157:=LT642_685.out;have hnb158:=LT643_685.out;have hnb159:=LT648_685.out;have hnb160:=LT653_685.out;have hnb161:=LT660_685.out;have hnb162:=LT661_685.out;have hnb163:=LT665_685.out;have hnb164:=LT669_685.out;obtain ⟨hcz165_0,hcz165_1,hcz165_2,hcz165_3,hfz165_0,hfz165_1,hfz165_2,hfz165_3⟩:=cz4 BK685;have hnb166:=LT643_648.out;have hnb167:=LT648_653.out;have hnb168:=LT648_660.out;have hnb169:=LT648_661.out;have hnb170:=LT648_665.out;have hnb171:=LT648_669.out;obtain ⟨hcz172_0,hcz172_1,hcz172_2,hfz172_0,hfz172_1,hfz172_2⟩:=cz3 BK648)|((with_reducible refine gd 129 rfl ?_);refine gC (some 129) rfl Try.func8 (impl_MoveBall.calls (w:=_) (h:=A145.out)) ?_;intro w173 hb;have n0_:=Aside0.mk (blk_below (g:=gb642) (o:=.cells #[.int .i64 t635,.int .i64 t636,.int .i64 t637,.int .i64 t638] 26 (0,0)) (bkF BK642) hb);have n1_:=Aside0.mk (blk_below (g:=gb643) (o:=.cells #[.int .i64 t639,.int .i64 t640,.int .i64 t641] 28 (0,0)) (bkF BK643) hb);have n2_:=Aside0.mk (blk_below (g:=gb648) (o:=.cells #[.int .i64 t644,.int .i64 t645,.int .i64 t646] 28 (0,0)) (bkF BK648) hb);have n3_:=Aside0.mk (blk_below (g:=gb653) (o:=.cells #[.int .i64 t649,.int .i64 t650,.int .i64 t651] 28 (0,0)) (bkF BK653) hb);have n4_:=Aside0.mk (blk_below (g:=gb660) (o:=.cells #[.int .i64 t654,.int .i64 t655,.int .i64 t656,.int .i64 t657] 26 (0,0)) (bkF BK660) hb);have n5_:=Aside0.mk (blk_below (g:=gb661) (o:=.cells #[.int .i64 t658,.int .i64 t659] 34 (0,0)) (bkF BK661) hb);have n6_:=Aside0.mk (blk_below (g:=gb665) (o:=.cells #[.int .i64 t662,.int .i64 t663] 34 (0,0)) (bkF BK665) hb);have n7_:=Aside0.mk (blk_below (g:=gb669) (o:=.cells #[.int .i64 t666,.int .i64 t667] 34 (0,0)) (bkF BK669) hb);have n8_:=Aside0.mk (blk_below (g:=gb685) (o:=.cells #[.int .i64 t680,.int .i64 t681,.int .i64 t682,.int .i64 t683] 26 (0,0)) (bpA BK685) hb);have n9_:=lB hb;clear BK642;clear BK643;clear BK648;clear BK653;clear BK660;clear BK661;clear BK665;clear BK669;clear BK685;clear HB;have BK642:=n0_;have BK643:=n1_;have BK648:=n2_;have BK653:=n3_;have BK660:=n4_;have BK661:=n5_;have BK665:=n6_;have BK669:=n7_;have BK685:=n8_;have HB:=n9_;clear n0_ n1_ n2_ n3_ n4_ n5_ n6_ n7_ n8_ n9_;clear hb)|((with_reducible refine gate_dst (N:=22) rfl ?_);refine bxE (cs:=#[.int .i64 0,.int .i64 0,.int .i64 0]) (t:=28) ?_;intro gb690 hg w174 hbox hb;have BK690:=Aside0.mk hbox;have GW690:=sA hg;have GE690:=sA hg;have NB642_690:=nA hg BK642;have NB690_642:=nB hg BK642;have LT642_690:=nL hg BK642;have NB643_690:=nA hg BK643;have NB690_643:=nB hg BK643;have LT643_690:=nL hg BK643;have NB648_690:=nA hg BK648;have NB690_648:=nB hg BK648;have LT648_690:=nL hg BK648;have NB653_690:=nA hg BK653;have NB690_653:=nB hg BK653;have LT653_690:=nL hg BK653;have NB660_690:=nA hg BK660;have NB690_660:=nB hg BK660;have LT660_690:=nL hg BK660;have NB661_690:=nA hg BK661;have NB690_661:=nB hg BK661;have LT661_690:=nL hg BK661;have NB665_690:=nA hg BK665;have NB690_665:=nB hg BK665;have LT665_690:=nL hg BK665;have NB669_690:=nA hg BK669;have NB690_669:=nB hg BK669;have LT669_690:=nL hg BK669;have NB685_690:=nA hg BK685;have NB690_685:=nB hg BK685;have LT685_690:=nL hg BK685;replace BK642:=kB BK642 hb;replace BK643:=kB BK643 hb;replace BK648:=kB BK648 hb;replace BK653:=kB BK653 hb;replace BK660:=kB BK660 hb;replace BK661:=kB BK661 hb;replace BK665:=kB BK665 hb;replace BK669:=kB BK669 hb;replace BK685:=kB BK685 hb;replace HB:=lB hb;clear hb hbox hg;have hnb175:=LT642_690.out;have hnb176:=LT643_690.out;have hnb177:=LT648_690.out;have hnb178:=LT653_690.out;have hnb179:=LT660_690.out;have hnb180:=LT661_690.out;have hnb181:=LT665_690.out;have hnb182:=LT669_690.out;have hnb183:=LT685_690.out;obtain ⟨hcz184_0,hcz184_1,hcz184_2,hfz184_0,hfz184_1,hfz184_2⟩:=cz3 BK690))
    (try simp only [Act.put,List.setIfInBounds_toArray,List.set_cons_zero,List.set_cons_succ])
    go_cut [148] (fun v148 wc=>∃ (kq:Nat) (x148_145:Bool),v148=.bool x148_145∧Aside0 (laws_FnMoves.j3 kq t634 x148_145 t635 t636 t637 t638 t639 t640 t641 t644 t645 t646 t654 t655 t656 t657=some r)∧Aside0 (kq≤kj91)∧Aside0 (wc.heap[gb642]?=some (.cells #[.int .i64 t635,.int .i64 t636,.int .i64 t637,.int .i64 t638] 26 (0,0)))∧Aside0 (wc.heap[gb643]?=some (.cells #[.int .i64 t639,.int .i64 t640,.int .i64 t641] 28 (0,0)))∧Aside0 (wc.heap[gb648]?=some (.cells #[.int .i64 t644,.int .i64 t645,.int .i64 t646] 28 (0,0)))∧Aside0 (wc.heap[gb653]?=some (.cells #[.int .i64 t649,.int .i64 t650,.int .i64 t651] 28 (0,0)))∧Aside0 (wc.heap[gb660]?=some (.cells #[.int .i64 t654,.int .i64 t655,.int .i64 t656,.int .i64 t657] 26 (0,0)))∧Aside0 (wc.heap[gb661]?=some (.cells #[.int .i64 t658,.int .i64 t659] 34 (0,0)))∧Aside0 (wc.heap[gb665]?=some (.cells #[.int .i64 t662,.int .i64 t663] 34 (0,0)))∧Aside0 (wc.heap[gb669]?=some (.cells #[.int .i64 t666,.int .i64 t667] 34 (0,0)))∧Aside0 (wc.heap[gb685]?=some (.cells #[.int .i64 t680,.int .i64 t681,.int .i64 t682,.int .i64 t683] 26 (0,0)))∧Aside0 (wc.heap[gb690]?=some (.cells #[.int .i64 t686,.int .i64 t687,.int .i64 t688] 28 (0,0)))∧Aside0 (Below w.heap.size w wc))
    case first=>
     have H:=HC146.out
     clear HC146
     by_cases c185:t684=0
     ·
      rw [if_pos c185] at H
      have c185b0:(t684 == 0)=true:=beq_iff_eq.mpr c185
      have c185b1:(t684 != 0)=false:=bne_eq_false_iff_eq.mpr c185
      clear c185
      (first|rw [c185b0]|(simp only [i64_w,i32_w];rw [c185b0])|skip)
      by_cases c186:t689=0
      ·
       rw [if_pos c186] at H
       have c186b0:(t689 == 0)=true:=beq_iff_eq.mpr c186
       have c186b1:(t689 != 0)=false:=bne_eq_false_iff_eq.mpr c186
       clear c186
       by_cases c187:(!(t686 == t639) || (!(t687 == t640) || (!(t688 == t641))))=true
       ·
        rw [if_pos c187] at H
        have c187b0:(!(t686 == t639) || (!(t687 == t640) || (!(t688 == t641))))=true:=c187
        clear c187
        have H':=Aside0.mk H
        clear H
        try clear hnb147 hnb148 hnb149 hnb150 hnb151 hnb152 hnb153
        try clear hnb157 hnb158 hnb159 hnb160 hnb161 hnb162 hnb163 hnb164 hnb166 hnb167 hnb168 hnb169 hnb170 hnb171
        try clear hnb175 hnb176 hnb177 hnb178 hnb179 hnb180 hnb181 hnb182 hnb183
        have hnb188:=LT642_690.out
        have hnb189:=LT643_690.out
        have hnb190:=LT648_690.out
        have hnb191:=LT653_690.out
        have hnb192:=LT660_690.out
        have hnb193:=LT661_690.out
        have hnb194:=LT665_690.out
        have hnb195:=LT669_690.out
        have hnb196:=LT685_690.out
        obtain ⟨hcz197_0,hcz197_1,hcz197_2,hfz197_0,hfz197_1,hfz197_2⟩:=cz3 BK690
        have hnb198:=LT642_643.out
        have hnb199:=LT643_648.out
        have hnb200:=LT643_653.out
        have hnb201:=LT643_660.out
        have hnb202:=LT643_661.out
        have hnb203:=LT643_665.out
        have hnb204:=LT643_669.out
        have hnb205:=LT643_685.out
        obtain ⟨hcz206_0,hcz206_1,hcz206_2,hfz206_0,hfz206_1,hfz206_2⟩:=cz3 BK643
        go_wp2
        go_meet
        case rel=>exact ⟨_,(true),hB,H',⟨by have:=HJ6.out;have:=HJ38.out;have:=HJ91.out;first|omega|exact Nat.le_refl _⟩,⟨bkF BK642⟩,⟨bkF BK643⟩,⟨bkF BK648⟩,⟨bkF BK653⟩,⟨bkF BK660⟩,⟨bkF BK661⟩,⟨bkF BK665⟩,⟨bkF BK669⟩,⟨bkF BK685⟩,⟨bpA BK690⟩,⟨blA⟩⟩
       ·
        rw [if_neg c187] at H
        have c187b0:(!(t686 == t639) || (!(t687 == t640) || (!(t688 == t641))))=false:=by simpa using c187
        clear c187
        replace H:=bS H
        obtain ⟨t691,A207,H⟩:=H
        try dsimp only at H
        have H':=Aside0.mk H
        clear H
        try clear hnb147 hnb148 hnb149 hnb150 hnb151 hnb152 hnb153
        try clear hnb157 hnb158 hnb159 hnb160 hnb161 hnb162 hnb163 hnb164 hnb166 hnb167 hnb168 hnb169 hnb170 hnb171
        try clear hnb175 hnb176 hnb177 hnb178 hnb179 hnb180 hnb181 hnb182 hnb183
        have hnb208:=LT642_690.out
        have hnb209:=LT643_690.out
        have hnb210:=LT648_690.out
        have hnb211:=LT653_690.out
        have hnb212:=LT660_690.out
        have hnb213:=LT661_690.out
        have hnb214:=LT665_690.out
        have hnb215:=LT669_690.out
        have hnb216:=LT685_690.out
        obtain ⟨hcz217_0,hcz217_1,hcz217_2,hfz217_0,hfz217_1,hfz217_2⟩:=cz3 BK690
        have hnb218:=LT642_643.out
        have hnb219:=LT643_648.out
        have hnb220:=LT643_653.out
        have hnb221:=LT643_660.out
        have hnb222:=LT643_661.out
        have hnb223:=LT643_665.out
        have hnb224:=LT643_669.out
        have hnb225:=LT643_685.out
        obtain ⟨hcz226_0,hcz226_1,hcz226_2,hfz226_0,hfz226_1,hfz226_2⟩:=cz3 BK643
        have hnb227:=LT642_648.out
        have hnb228:=LT648_653.out
        have hnb229:=LT648_660.out
        have hnb230:=LT648_661.out
        have hnb231:=LT648_665.out
        have hnb232:=LT648_669.out
        have hnb233:=LT648_685.out
        obtain ⟨hcz234_0,hcz234_1,hcz234_2,hfz234_0,hfz234_1,hfz234_2⟩:=cz3 BK648
        go_wp2_with (first|(go_at_call 14;(with_reducible refine (impl_IsBall.calls kj91 t634 t644 t645 t646 t691 _ A207.out).mono ?_);rintro e w235 ⟨rfl,hb⟩;have n0_:=Aside0.mk (blk_below (g:=gb642) (o:=.cells #[.int .i64 t635,.int .i64 t636,.int .i64 t637,.int .i64 t638] 26 (0,0)) (bkF BK642) hb);have n1_:=Aside0.mk (blk_below (g:=gb643) (o:=.cells #[.int .i64 t639,.int .i64 t640,.int .i64 t641] 28 (0,0)) (bkF BK643) hb);have n2_:=Aside0.mk (blk_below (g:=gb648) (o:=.cells #[.int .i64 t644,.int .i64 t645,.int .i64 t646] 28 (0,0)) (bkF BK648) hb);have n3_:=Aside0.mk (blk_below (g:=gb653) (o:=.cells #[.int .i64 t649,.int .i64 t650,.int .i64 t651] 28 (0,0)) (bkF BK653) hb);have n4_:=Aside0.mk (blk_below (g:=gb660) (o:=.cells #[.int .i64 t654,.int .i64 t655,.int .i64 t656,.int .i64 t657] 26 (0,0)) (bkF BK660) hb);have n5_:=Aside0.mk (blk_below (g:=gb661) (o:=.cells #[.int .i64 t658,.int .i64 t659] 34 (0,0)) (bkF BK661) hb);have n6_:=Aside0.mk (blk_below (g:=gb665) (o:=.cells #[.int .i64 t662,.int .i64 t663] 34 (0,0)) (bkF BK665) hb);have n7_:=Aside0.mk (blk_below (g:=gb669) (o:=.cells #[.int .i64 t666,.int .i64 t667] 34 (0,0)) (bkF BK669) hb);have n8_:=Aside0.mk (blk_below (g:=gb685) (o:=.cells #[.int .i64 t680,.int .i64 t681,.int .i64 t682,.int .i64 t683] 26 (0,0)) (bkF BK685) hb);have n9_:=Aside0.mk (blk_below (g:=gb690) (o:=.cells #[.int .i64 t686,.int .i64 t687,.int .i64 t688] 28 (0,0)) (bpA BK690) hb);have n10_:=lB hb;clear BK642;clear BK643;clear BK648;clear BK653;clear BK660;clear BK661;clear BK665;clear BK669;clear BK685;clear BK690;clear HB;have BK642:=n0_;have BK643:=n1_;have BK648:=n2_;have BK653:=n3_;have BK660:=n4_;have BK661:=n5_;have BK665:=n6_;have BK669:=n7_;have BK685:=n8_;have BK690:=n9_;have HB:=n10_;clear n0_ n1_ n2_ n3_ n4_ n5_ n6_ n7_ n8_ n9_ n10_;clear hb))
        go_meet
        case rel=>exact ⟨_,(!t691),hB,H',⟨by have:=HJ6.out;have:=HJ38.out;have:=HJ91.out;first|omega|exact Nat.le_refl _⟩,⟨bkA BK642⟩,⟨bkA BK643⟩,⟨bkA BK648⟩,⟨bkA BK653⟩,⟨bkA BK660⟩,⟨bkA BK661⟩,⟨bkA BK665⟩,⟨bkA BK669⟩,⟨bkA BK685⟩,⟨bkA BK690⟩,⟨blA⟩⟩
      ·
       rw [if_neg c186] at H
       have c186b0:(t689 == 0)=false:=beq_eq_false_iff_ne.mpr c186
       have c186b1:(t689 != 0)=true:=bne_iff_ne.mpr c186
       have H':=Aside0.mk H
       clear H
       go_wp2
       go_meet
       case rel=>exact ⟨_,(true),hB,H',⟨by have:=HJ6.out;have:=HJ38.out;have:=HJ91.out;first|omega|exact Nat.le_refl _⟩,⟨bkF BK642⟩,⟨bkF BK643⟩,⟨bkF BK648⟩,⟨bkF BK653⟩,⟨bkF BK660⟩,⟨bkF BK661⟩,⟨bkF BK665⟩,⟨bkF BK669⟩,⟨bkF BK685⟩,⟨bpA BK690⟩,⟨blA⟩⟩
     ·
      rw [if_neg c185] at H
      have c185b0:(t684 == 0)=false:=beq_eq_false_iff_ne.mpr c185
      have c185b1:(t684 != 0)=true:=bne_iff_ne.mpr c185
      (first|rw [c185b0]|(simp only [i64_w,i32_w];rw [c185b0])|skip)
      have H':=Aside0.mk H
      clear H
      go_wp2
      go_meet
      case rel=>exact ⟨_,(true),hB,H',⟨by have:=HJ6.out;have:=HJ38.out;have:=HJ91.out;first|omega|exact Nat.le_refl _⟩,⟨bkF BK642⟩,⟨bkF BK643⟩,⟨bkF BK648⟩,⟨bkF BK653⟩,⟨bkF BK660⟩,⟨bkF BK661⟩,⟨bkF BK665⟩,⟨bkF BK669⟩,⟨bkF BK685⟩,⟨bpA BK690⟩,⟨blA⟩⟩
    case rest=>
     expose_names
     clear BK642_1 BK643_1 BK648_1 BK653_1 BK660_1 BK661_1 BK665_1 BK669_1 HB_1 c143b0 c143b1 HC146 hcz154_0 hcz154_1 hcz154_2 hcz154_3 hfz154_0 hfz154_1 hfz154_2 hfz154_3 hcz165_0 hcz165_1 hcz165_2 hcz165_3 hfz165_0 hfz165_1 hfz165_2 hfz165_3 hcz172_0 hcz172_1 hcz172_2 hfz172_0 hfz172_1 hfz172_2 hcz184_0 hcz184_1 hcz184_2 hfz184_0 hfz184_1 hfz184_2
     revert k A0 c0 l0 r w hu26 hu28 hu34 t634 t635 t636 t637 t638 t639 t640 t641 t644 t645 t646 t647 t649 t650 t651 t652 gb642 gb643 gb648 gb653 kj6 t654 t655 t656 t657 t658 t659 t662 t663 t664 t666 t667 t668 gb660 gb661 gb665 gb669 kj38 u2 u16 u17 u18 u19 kj91 t680 t681 t682 t683 t684 t686 t687 t688 t689 gb685 gb690 w174 K K_1 wc u36 u37 u38 u39 u40 u41 u42 u43 u44 u45 u46 u47 u48 u49 u50 u51 u52 u53 u54 u55 u56 u57 u58 u59 u60 u61 u62 u63 u64 u65 u66 u67 u68 u69 u70 u71 u72 u73 u74 u75 u76 u77 u78 u79 u80 u81 u82 u83 u84 u85 u86 u87 u88 u89 u90 u91 u92 u93 u94 u95 u96 u97 u98 u99 u100 u101 u102 u103 u104 u105 u106 u107 u108 u109 u110 u111 u112 u113 u114 u115 u116 u117 u118 u119 u120 u121 u122 u123 u124 u125 u126 u127 u128 u129 u130 u131 u132 u133 u134 u135 u136 u137 u138 u139 u140 u141 u142 u143 u144 u145 u146 u147 u148 u149 u150 u151 u152 u153 u154 u155 u156 u157 u158 u159 u160 u161 u162 u163 u164 u165 u166 u167 u168 u169 u170 u171 u172 u173 u174 u175 u176 u177 u178 u179 u180 u181 u182 u183 u184 u185 u186 u187 u188 u189 u190 u191 u192 u193 u194 u195 u196 u197 u198 u199 u200 u201 u202 u203 u204 u205 u206 u207 u208 u209 u210 u211 u212 u213 u214 u215
     exact hcutP.out
   ·
    rw [if_neg c143] at H
    have c143b0:(t647 == 0)=false:=beq_eq_false_iff_ne.mpr c143
    have c143b1:(t647 != 0)=true:=bne_iff_ne.mpr c143
    obtain rfl:=Option.some.inj H
    try clear hnb11
    try clear hnb16 hnb17
    try clear hnb23 hnb24 hnb25
    try clear hnb43 hnb44 hnb45 hnb46 hnb47 hnb49 hnb50 hnb51 hnb52
    try clear hnb56 hnb57 hnb58 hnb59 hnb60 hnb61
    try clear hnb67 hnb68 hnb69 hnb70 hnb71 hnb72 hnb73
    have hnb1054:=LT642_648.out
    have hnb1055:=LT643_648.out
    have hnb1056:=LT648_653.out
    have hnb1057:=LT648_660.out
    have hnb1058:=LT648_661.out
    have hnb1059:=LT648_665.out
    have hnb1060:=LT648_669.out
    obtain ⟨hcz1061_0,hcz1061_1,hcz1061_2,hfz1061_0,hfz1061_1,hfz1061_2⟩:=cz3 BK648
    go_wp2
    go_ret
    exact finA blA
set_option maxHeartbeats 8000000 in
set_option maxRecDepth 100000 in
noncomputable def laws_FnMoves.cut4:PSigma fun P:Prop=>Aside0 P→(laws_FnMoves.cut3.1):=by
 apply PSigma.mk
 ·
  intro hcutP
  conv=>whnf
  intro k A0 c0 l0 r w hu26 hu28 hu34 HR0 HC0 A2 t634 t635 t636 t637 t638 t639 t640 t641 A4 t644 t645 t646 t647 A5 t649 t650 t651 t652 A6 _ gb642 GW642 GE642 gb643 GW643 GE643 NB642_643 NB643_642 LT642_643 gb648 GW648 GE648 NB642_648 NB648_642 LT642_648 NB643_648 NB648_643 LT643_648 gb653 GW653 GE653 NB642_653 NB653_642 LT642_653 NB643_653 NB653_643 LT643_653 NB648_653 NB653_648 LT648_653 kj6 HJ6 t654 t655 t656 t657 t658 t659 A36 t662 t663 t664 A37 t666 t667 t668 A38 gb660 GW660 GE660 NB642_660 NB660_642 LT642_660 NB643_660 NB660_643 LT643_660 NB648_660 NB660_648 LT648_660 NB653_660 NB660_653 LT653_660 gb661 GW661 GE661 NB642_661 NB661_642 LT642_661 NB643_661 NB661_643 LT643_661 NB648_661 NB661_648 LT648_661 NB653_661 NB661_653 LT653_661 NB660_661 NB661_660 LT660_661 gb665 GW665 GE665 NB642_665 NB665_642 LT642_665 NB643_665 NB665_643 LT643_665 NB648_665 NB665_648 LT648_665 NB653_665 NB665_653 LT653_665 NB660_665 NB665_660 LT660_665 NB661_665 NB665_661 LT661_665 gb669 GW669 GE669 NB642_669 NB669_642 LT642_669 NB643_669 NB669_643 LT643_669 NB648_669 NB669_648 LT648_669 NB653_669 NB669_653 LT653_669 NB660_669 NB669_660 LT660_669 NB661_669 NB669_661 LT661_669 NB665_669 NB669_665 LT665_669 kj38 HJ38 _ _ _ _ _ kj91 HJ91 t680 t681 t682 t683 t684 A144 t686 t687 t688 t689 A145 hnb147 hnb148 hnb149 hnb150 hnb151 hnb152 hnb153 gb685 GW685 GE685 NB642_685 NB685_642 LT642_685 NB643_685 NB685_643 LT643_685 NB648_685 NB685_648 LT648_685 NB653_685 NB685_653 LT653_685 NB660_685 NB685_660 LT660_685 NB661_685 NB685_661 LT661_685 NB665_685 NB685_665 LT665_685 NB669_685 NB685_669 LT669_685 hnb157 hnb158 hnb159 hnb160 hnb161 hnb162 hnb163 hnb164 hnb166 hnb167 hnb168 hnb169 hnb170 hnb171 gb690 w174 BK690 GW690 GE690 NB642_690 NB690_642 LT642_690 NB643_690 NB690_643 LT643_690 NB648_690 NB690_648 LT648_690 NB653_690 NB690_653 LT653_690 NB660_690 NB690_660 LT660_690 NB661_690 NB690_661 LT661_690 NB665_690 NB690_665 LT665_690 NB669_690 NB690_669 LT669_690 NB685_690 NB690_685 LT685_690 BK642 BK643 BK648 BK653 BK660 BK661 BK665 BK669 BK685 HB hnb175 hnb176 hnb177 hnb178 hnb179 hnb180 hnb181 hnb182 hnb183 _ _ _ _ wc _ _ _ _ _ _ _ _ _ _ _ _ _ _ _ _ _ _ _ _ _ _ _ _ _ _ _ _ _ _ _ _ _ _ _ _ _ _ _ _ _ _ _ _ _ _ _ _ _ _ _ _ _ _ _ _ _ _ _ _ _ _ _ _ _ _ _ _ _ _ _ _ _ _ _ _ _ _ _ _ _ _ _ _ _ _ _ _ _ _ _ _ _ _ _ _ _ _ _ _ _ _ _ _ _ _ _ _ _ _ _ _ _ _ _ _ _ _ _ _ _ _ _ _ _ _ _ _ _ _ _ _ _ _ _ _ _ _ _ _ _ _ _ _ _ _ _ _ _ _ _ _ _ _ _ _ _ _ _ _ _ _ _ _ _ _ _ _ _ _ _ _ _ _ _ _ _ _ _ _ hcut
  obtain ⟨kq,x148_145,rfl,HA,HJ145,BK642,BK643,BK648,BK653,BK660,BK661,BK665,BK669,BK685,BK690,HB⟩:=hcut
  cases kq with
  | zero=>exact absurd HA.out (by simp [laws_FnMoves.j3])
  | succ kj145=>
   have H:=HA.out
   clear HA
   simp only [laws_FnMoves.j3] at H
   by_cases c236:x148_145=true
   ·
    subst c236
    rw [if_pos rfl] at H
    try dsimp only at H
    exact absurd H (by simp)
   replace c236:=Bool.eq_false_iff.mpr c236
   subst c236
   rw [if_neg (show ¬ (false=true) by decide)] at H
   try dsimp only at H
   replace H:=bS H
   obtain ⟨⟨t692,t693,t694,t695⟩,A237,H⟩:=H
   try dsimp only at H
   by_cases c238:t695=0
   ·
    rw [if_pos c238] at H
    have c238b0:(t695 == 0)=true:=beq_iff_eq.mpr c238
    have c238b1:(t695 != 0)=false:=bne_eq_false_iff_eq.mpr c238
    clear c238
    replace H:=bS H
    obtain ⟨⟨t697,t698,t699,t700⟩,A239,H⟩:=H
    try dsimp only at H
    replace H:=bS H
    obtain ⟨⟨t702,t703⟩,A240,H⟩:=H
    try dsimp only at H
    have HC241:=Aside0.mk H
    clear H
    try clear hnb147 hnb148 hnb149 hnb150 hnb151 hnb152 hnb153
    try clear hnb157 hnb158 hnb159 hnb160 hnb161 hnb162 hnb163 hnb164 hnb166 hnb167 hnb168 hnb169 hnb170 hnb171
    try clear hnb175 hnb176 hnb177 hnb178 hnb179 hnb180 hnb181 hnb182 hnb183
    have hnb242:=LT642_643.out
    have hnb243:=LT643_648.out
    have hnb244:=LT643_653.out
    have hnb245:=LT643_660.out
    have hnb246:=LT643_661.out
    have hnb247:=LT643_665.out
    have hnb248:=LT643_669.out
    have hnb249:=LT643_685.out
    have hnb250:=LT643_690.out
    obtain ⟨hcz251_0,hcz251_1,hcz251_2,hfz251_0,hfz251_1,hfz251_2⟩:=cz3 BK643
    go_upto_region 28 with (first|((with_reducible refine gd 152 rfl ?_);refine gC (some 152) rfl Try.func15 (impl_ParentOf.calls (w:=_) (h:=A237.out)) ?_;intro w252 hb;replace BK642:=kB BK642 hb;replace BK643:=kB BK643 hb;replace BK648:=kB BK648 hb;replace BK653:=kB BK653 hb;replace BK660:=kB BK660 hb;replace BK661:=kB BK661 hb;replace BK665:=kB BK665 hb;replace BK669:=kB BK669 hb;replace BK685:=kB BK685 hb;replace BK690:=kB BK690 hb;replace HB:=lB hb;clear hb)|((with_reducible refine gate_dst (N:=24) rfl ?_);refine bxE (cs:=#[.int .i64 0,.int .i64 0,.int .i64 0]) (t:=28) ?_;intro gb696 hg w253 hbox hb;have BK696:=Aside0.mk hbox;have GW696:=sA hg;have GE696:=sA hg;have NB642_696:=nA hg BK642;have NB696_642:=nB hg BK642;have LT642_696:=nL hg BK642;have NB643_696:=nA hg BK643;have NB696_643:=nB hg BK643;have LT643_696:=nL hg BK643;have NB648_696:=nA hg BK648;have NB696_648:=nB hg BK648;have LT648_696:=nL hg BK648;have NB653_696:=nA hg BK653;have NB696_653:=nB hg BK653;have LT653_696:=nL hg BK653;have NB660_696:=nA hg BK660;have NB696_660:=nB hg BK660;have LT660_696:=nL hg BK660;have NB661_696:=nA hg BK661;have NB696_661:=nB hg BK661;have LT661_696:=nL hg BK661;have NB665_696:=nA hg BK665;have NB696_665:=nB hg BK665;have LT665_696:=nL hg BK665;have NB669_696:=nA hg BK669;have NB696_669:=nB hg BK669;have LT669_696:=nL hg BK669;have NB685_696:=nA hg BK685;have NB696_685:=nB hg BK685;have LT685_696:=nL hg BK685;have NB690_696:=nA hg BK690;have NB696_690:=nB hg BK690;have LT690_696:=nL hg BK690;replace BK642:=kB BK642 hb;replace BK643:=kB BK643 hb;replace BK648:=kB BK648 hb;replace BK653:=kB BK653 hb;replace BK660:=kB BK660 hb;replace BK661:=kB BK661 hb;replace BK665:=kB BK665 hb;replace BK669:=kB BK669 hb;replace BK685:=kB BK685 hb;replace BK690:=kB BK690 hb;replace HB:=lB hb;clear hb hbox hg;have hnb254:=LT642_696.out;have hnb255:=LT643_696.out;have hnb256:=LT648_696.out;have hnb257:=LT653_696.out;have hnb258:=LT660_696.out;have hnb259:=LT661_696.out;have hnb260:=LT665_696.out;have hnb261:=LT669_696.out;have hnb262:=LT685_696.out;have hnb263:=LT690_696.out;obtain ⟨hcz264_0,hcz264_1,hcz264_2,hfz264_0,hfz264_1,hfz264_2⟩:=cz3 BK696;have hnb265:=LT642_648.out;have hnb266:=LT642_653.out;have hnb267:=LT642_660.out;have hnb268:=LT642_661.out;have hnb269:=LT642_665.out;have hnb270:=LT642_669.out;have hnb271:=LT642_685.out;have hnb272:=LT642_690.out;obtain ⟨hcz273_0,hcz273_1,hcz273_2,hcz273_3,hfz273_0,hfz273_1,hfz273_2,hfz273_3⟩:=cz4 BK642)|((with_reducible refine gd 161 rfl ?_);refine gC (some 161) rfl Try.func8 (impl_MoveBall.calls (w:=_) (h:=A239.out)) ?_;intro w274 hb;have n0_:=Aside0.mk (blk_below (g:=gb642) (o:=.cells #[.int .i64 t635,.int .i64 t636,.int .i64 t637,.int .i64 t638] 26 (0,0)) (bkF BK642) hb);have n1_:=Aside0.mk (blk_below (g:=gb643) (o:=.cells #[.int .i64 t639,.int .i64 t640,.int .i64 t641] 28 (0,0)) (bkF BK643) hb);have n2_:=Aside0.mk (blk_below (g:=gb648) (o:=.cells #[.int .i64 t644,.int .i64 t645,.int .i64 t646] 28 (0,0)) (bkF BK648) hb);have n3_:=Aside0.mk (blk_below (g:=gb653) (o:=.cells #[.int .i64 t649,.int .i64 t650,.int .i64 t651] 28 (0,0)) (bkF BK653) hb);have n4_:=Aside0.mk (blk_below (g:=gb660) (o:=.cells #[.int .i64 t654,.int .i64 t655,.int .i64 t656,.int .i64 t657] 26 (0,0)) (bkF BK660) hb);have n5_:=Aside0.mk (blk_below (g:=gb661) (o:=.cells #[.int .i64 t658,.int .i64 t659] 34 (0,0)) (bkF BK661) hb);have n6_:=Aside0.mk (blk_below (g:=gb665) (o:=.cells #[.int .i64 t662,.int .i64 t663] 34 (0,0)) (bkF BK665) hb);have n7_:=Aside0.mk (blk_below (g:=gb669) (o:=.cells #[.int .i64 t666,.int .i64 t667] 34 (0,0)) (bkF BK669) hb);have n8_:=Aside0.mk (blk_below (g:=gb685) (o:=.cells #[.int .i64 t680,.int .i64 t681,.int .i64 t682,.int .i64 t683] 26 (0,0)) (bkF BK685) hb);have n9_:=Aside0.mk (blk_below (g:=gb690) (o:=.cells #[.int .i64 t686,.int .i64 t687,.int .i64 t688] 28 (0,0)) (bkF BK690) hb);have n10_:=Aside0.mk (blk_below (g:=gb696) (o:=.cells #[.int .i64 t692,.int .i64 t693,.int .i64 t694] 28 (0,0)) (bpA BK696) hb);have n11_:=lB hb;clear BK642;clear BK643;clear BK648;clear BK653;clear BK660;clear BK661;clear BK665;clear BK669;clear BK685;clear BK690;clear BK696;clear HB;have BK642:=n0_;have BK643:=n1_;have BK648:=n2_;have BK653:=n3_;have BK660:=n4_;have BK661:=n5_;have BK665:=n6_;have BK669:=n7_;have BK685:=n8_;have BK690:=n9_;have BK696:=n10_;have HB:=n11_;clear n0_ n1_ n2_ n3_ n4_ n5_ n6_ n7_ n8_ n9_ n10_ n11_;clear hb)|((with_reducible refine gate_dst (N:=26) rfl ?_);refine bxE (cs:=#[.int .i64 0,.int .i64 0,.int .i64 0]) (t:=28) ?_;intro gb701 hg w275 hbox hb;have BK701:=Aside0.mk hbox;have GW701:=sA hg;have GE701:=sA hg;have NB642_701:=nA hg BK642;have NB701_642:=nB hg BK642;have LT642_701:=nL hg BK642;have NB643_701:=nA hg BK643;have NB701_643:=nB hg BK643;have LT643_701:=nL hg BK643;have NB648_701:=nA hg BK648;have NB701_648:=nB hg BK648;have LT648_701:=nL hg BK648;have NB653_701:=nA hg BK653;have NB701_653:=nB hg BK653;have LT653_701:=nL hg BK653;have NB660_701:=nA hg BK660;have NB701_660:=nB hg BK660;have LT660_701:=nL hg BK660;have NB661_701:=nA hg BK661;have NB701_661:=nB hg BK661;have LT661_701:=nL hg BK661;have NB665_701:=nA hg BK665;have NB701_665:=nB hg BK665;have LT665_701:=nL hg BK665;have NB669_701:=nA hg BK669;have NB701_669:=nB hg BK669;have LT669_701:=nL hg BK669;have NB685_701:=nA hg BK685;have NB701_685:=nB hg BK685;have LT685_701:=nL hg BK685;have NB690_701:=nA hg BK690;have NB701_690:=nB hg BK690;have LT690_701:=nL hg BK690;have NB696_701:=nA hg BK696;have NB701_696:=nB hg BK696;have LT696_701:=nL hg BK696;replace BK642:=kB BK642 hb;replace BK643:=kB BK643 hb;replace BK648:=kB BK648 hb;replace BK653:=kB BK653 hb;replace BK660:=kB BK660 hb;replace BK661:=kB BK661 hb;replace BK665:=kB BK665 hb;replace BK669:=kB BK669 hb;replace BK685:=kB BK685 hb;replace BK690:=kB BK690 hb;replace BK696:=kB BK696 hb;replace HB:=lB hb;clear hb hbox hg;have hnb276:=LT642_701.out;have hnb277:=LT643_701.out;have hnb278:=LT648_701.out;have hnb279:=LT653_701.out;have hnb280:=LT660_701.out;have hnb281:=LT661_701.out;have hnb282:=LT665_701.out;have hnb283:=LT669_701.out;have hnb284:=LT685_701.out;have hnb285:=LT690_701.out;have hnb286:=LT696_701.out;obtain ⟨hcz287_0,hcz287_1,hcz287_2,hfz287_0,hfz287_1,hfz287_2⟩:=cz3 BK701;have hnb288:=LT648_653.out;have hnb289:=LT648_660.out;have hnb290:=LT648_661.out;have hnb291:=LT648_665.out;have hnb292:=LT648_669.out;have hnb293:=LT648_685.out;have hnb294:=LT648_690.out;obtain ⟨hcz295_0,hcz295_1,hcz295_2,hfz295_0,hfz295_1,hfz295_2⟩:=cz3 BK648)|((with_reducible refine gd 168 rfl ?_);refine gC (some 168) rfl Try.func16 (impl_TreeDistance.calls (w:=_) (h:=A240.out)) ?_;intro w296 hb;have n0_:=Aside0.mk (blk_below (g:=gb642) (o:=.cells #[.int .i64 t635,.int .i64 t636,.int .i64 t637,.int .i64 t638] 26 (0,0)) (bkF BK642) hb);have n1_:=Aside0.mk (blk_below (g:=gb643) (o:=.cells #[.int .i64 t639,.int .i64 t640,.int .i64 t641] 28 (0,0)) (bkF BK643) hb);have n2_:=Aside0.mk (blk_below (g:=gb648) (o:=.cells #[.int .i64 t644,.int .i64 t645,.int .i64 t646] 28 (0,0)) (bkF BK648) hb);have n3_:=Aside0.mk (blk_below (g:=gb653) (o:=.cells #[.int .i64 t649,.int .i64 t650,.int .i64 t651] 28 (0,0)) (bkF BK653) hb);have n4_:=Aside0.mk (blk_below (g:=gb660) (o:=.cells #[.int .i64 t654,.int .i64 t655,.int .i64 t656,.int .i64 t657] 26 (0,0)) (bkF BK660) hb);have n5_:=Aside0.mk (blk_below (g:=gb661) (o:=.cells #[.int .i64 t658,.int .i64 t659] 34 (0,0)) (bkF BK661) hb);have n6_:=Aside0.mk (blk_below (g:=gb665) (o:=.cells #[.int .i64 t662,.int .i64 t663] 34 (0,0)) (bkF BK665) hb);have n7_:=Aside0.mk (blk_below (g:=gb669) (o:=.cells #[.int .i64 t666,.int .i64 t667] 34 (0,0)) (bkF BK669) hb);have n8_:=Aside0.mk (blk_below (g:=gb685) (o:=.cells #[.int .i64 t680,.int .i64 t681,.int .i64 t682,.int .i64 t683] 26 (0,0)) (bkF BK685) hb);have n9_:=Aside0.mk (blk_below (g:=gb690) (o:=.cells #[.int .i64 t686,.int .i64 t687,.int .i64 t688] 28 (0,0)) (bkF BK690) hb);have n10_:=Aside0.mk (blk_below (g:=gb696) (o:=.cells #[.int .i64 t692,.int .i64 t693,.int .i64 t694] 28 (0,0)) (bkF BK696) hb);have n11_:=Aside0.mk (blk_below (g:=gb701) (o:=.cells #[.int .i64 t697,.int .i64 t698,.int .i64 t699] 28 (0,0)) (bpA BK701) hb);have n12_:=lB hb;clear BK642;clear BK643;clear BK648;clear BK653;clear BK660;clear BK661;clear BK665;clear BK669;clear BK685;clear BK690;clear BK696;clear BK701;clear HB;have BK642:=n0_;have BK643:=n1_;have BK648:=n2_;have BK653:=n3_;have BK660:=n4_;have BK661:=n5_;have BK665:=n6_;have BK669:=n7_;have BK685:=n8_;have BK690:=n9_;have BK696:=n10_;have BK701:=n11_;have HB:=n12_;clear n0_ n1_ n2_ n3_ n4_ n5_ n6_ n7_ n8_ n9_ n10_ n11_ n12_;clear hb))
    (try simp only [Act.put,List.setIfInBounds_toArray,List.set_cons_zero,List.set_cons_succ])
    go_cut [180] (fun v180 wc=>∃ (kq:Nat) (x180_240:Bool),v180=.bool x180_240∧Aside0 (laws_FnMoves.j4 kq t634 x180_240 t635 t636 t637 t638 t639 t640 t641 t644 t645 t646 t654 t655 t656 t657=some r)∧Aside0 (kq≤kj145)∧Aside0 (wc.heap[gb642]?=some (.cells #[.int .i64 t635,.int .i64 t636,.int .i64 t637,.int .i64 t638] 26 (0,0)))∧Aside0 (wc.heap[gb643]?=some (.cells #[.int .i64 t639,.int .i64 t640,.int .i64 t641] 28 (0,0)))∧Aside0 (wc.heap[gb648]?=some (.cells #[.int .i64 t644,.int .i64 t645,.int .i64 t646] 28 (0,0)))∧Aside0 (wc.heap[gb653]?=some (.cells #[.int .i64 t649,.int .i64 t650,.int .i64 t651] 28 (0,0)))∧Aside0 (wc.heap[gb660]?=some (.cells #[.int .i64 t654,.int .i64 t655,.int .i64 t656,.int .i64 t657] 26 (0,0)))∧Aside0 (wc.heap[gb661]?=some (.cells #[.int .i64 t658,.int .i64 t659] 34 (0,0)))∧Aside0 (wc.heap[gb665]?=some (.cells #[.int .i64 t662,.int .i64 t663] 34 (0,0)))∧Aside0 (wc.heap[gb669]?=some (.cells #[.int .i64 t666,.int .i64 t667] 34 (0,0)))∧Aside0 (wc.heap[gb685]?=some (.cells #[.int .i64 t680,.int .i64 t681,.int .i64 t682,.int .i64 t683] 26 (0,0)))∧Aside0 (wc.heap[gb690]?=some (.cells #[.int .i64 t686,.int .i64 t687,.int .i64 t688] 28 (0,0)))∧Aside0 (wc.heap[gb696]?=some (.cells #[.int .i64 t692,.int .i64 t693,.int .i64 t694] 28 (0,0)))∧Aside0 (wc.heap[gb701]?=some (.cells #[.int .i64 t697,.int .i64 t698,.int .i64 t699] 28 (0,0)))∧Aside0 (Below w.heap.size w wc))
    case first=>
     have H:=HC241.out
     clear HC241
     by_cases c297:t700=0
     ·
      rw [if_pos c297] at H
      have c297b0:(t700 == 0)=true:=beq_iff_eq.mpr c297
      have c297b1:(t700 != 0)=false:=bne_eq_false_iff_eq.mpr c297
      clear c297
      (first|rw [c297b0]|(simp only [i64_w,i32_w];rw [c297b0])|skip)
      by_cases c298:t703=0
      ·
       rw [if_pos c298] at H
       have c298b0:(t703 == 0)=true:=beq_iff_eq.mpr c298
       have c298b1:(t703 != 0)=false:=bne_eq_false_iff_eq.mpr c298
       clear c298
       have H':=Aside0.mk H
       clear H
       go_wp2
       go_meet
       case rel=>exact ⟨_,((t702 != 1)),hB,H',⟨by have:=HJ6.out;have:=HJ38.out;have:=HJ91.out;have:=HJ145.out;first|omega|exact Nat.le_refl _⟩,⟨bkA BK642⟩,⟨bkA BK643⟩,⟨bkA BK648⟩,⟨bkA BK653⟩,⟨bkA BK660⟩,⟨bkA BK661⟩,⟨bkA BK665⟩,⟨bkA BK669⟩,⟨bkA BK685⟩,⟨bkA BK690⟩,⟨bkA BK696⟩,⟨bkA BK701⟩,⟨blA⟩⟩
      ·
       rw [if_neg c298] at H
       have c298b0:(t703 == 0)=false:=beq_eq_false_iff_ne.mpr c298
       have c298b1:(t703 != 0)=true:=bne_iff_ne.mpr c298
       have H':=Aside0.mk H
       clear H
       go_wp2
       go_meet
       case rel=>exact ⟨_,(true),hB,H',⟨by have:=HJ6.out;have:=HJ38.out;have:=HJ91.out;have:=HJ145.out;first|omega|exact Nat.le_refl _⟩,⟨bkA BK642⟩,⟨bkA BK643⟩,⟨bkA BK648⟩,⟨bkA BK653⟩,⟨bkA BK660⟩,⟨bkA BK661⟩,⟨bkA BK665⟩,⟨bkA BK669⟩,⟨bkA BK685⟩,⟨bkA BK690⟩,⟨bkA BK696⟩,⟨bkA BK701⟩,⟨blA⟩⟩
     ·
      rw [if_neg c297] at H
      have c297b0:(t700 == 0)=false:=beq_eq_false_iff_ne.mpr c297
      have c297b1:(t700 != 0)=true:=bne_iff_ne.mpr c297
      (first|rw [c297b0]|(simp only [i64_w,i32_w];rw [c297b0])|skip)
      have H':=Aside0.mk H
      clear H
      go_wp2
      go_meet
      case rel=>exact ⟨_,(false),hB,H',⟨by have:=HJ6.out;have:=HJ38.out;have:=HJ91.out;have:=HJ145.out;first|omega|exact Nat.le_refl _⟩,⟨bkA BK642⟩,⟨bkA BK643⟩,⟨bkA BK648⟩,⟨bkA BK653⟩,⟨bkA BK660⟩,⟨bkA BK661⟩,⟨bkA BK665⟩,⟨bkA BK669⟩,⟨bkA BK685⟩,⟨bkA BK690⟩,⟨bkA BK696⟩,⟨bkA BK701⟩,⟨blA⟩⟩
    case rest=>
     expose_names
     clear BK690_1 BK642_1 BK643_1 BK648_1 BK653_1 BK660_1 BK661_1 BK665_1 BK669_1 BK685_1 HB_1 c238b0 c238b1 HC241 hcz251_0 hcz251_1 hcz251_2 hfz251_0 hfz251_1 hfz251_2 hcz264_0 hcz264_1 hcz264_2 hfz264_0 hfz264_1 hfz264_2 hcz273_0 hcz273_1 hcz273_2 hcz273_3 hfz273_0 hfz273_1 hfz273_2 hfz273_3 hcz287_0 hcz287_1 hcz287_2 hfz287_0 hfz287_1 hfz287_2 hcz295_0 hcz295_1 hcz295_2 hfz295_0 hfz295_1 hfz295_2
     revert k A0 c0 l0 r w hu26 hu28 hu34 t634 t635 t636 t637 t638 t639 t640 t641 t644 t645 t646 t647 t649 t650 t651 t652 gb642 gb643 gb648 gb653 kj6 t654 t655 t656 t657 t658 t659 t662 t663 t664 t666 t667 t668 gb660 gb661 gb665 gb669 kj38 u2 u16 u17 u18 u19 kj91 t680 t681 t682 t683 t684 t686 t687 t688 t689 gb685 gb690 kj145 t692 t693 t694 t695 t697 t698 t699 t700 t702 t703 gb696 K gb701 w296 K_1 wc u36 u37 u38 u39 u40 u41 u42 u43 u44 u45 u46 u47 u48 u49 u50 u51 u52 u53 u54 u55 u56 u57 u58 u59 u60 u61 u62 u63 u64 u65 u66 u67 u68 u69 u70 u71 u72 u73 u74 u75 u76 u77 u78 u79 u80 u81 u82 u83 u84 u85 u86 u87 u88 u89 u90 u91 u92 u93 u94 u95 u96 u97 u98 u99 u100 u101 u102 u103 u104 u105 u106 u107 u108 u109 u110 u111 u112 u113 u114 u115 u116 u117 u118 u119 u120 u121 u122 u123 u124 u125 u126 u127 u128 u129 u130 u131 u132 u133 u134 u135 u136 u137 u138 u139 u140 u141 u142 u143 u144 u145 u146 u147 u148 u149 u150 u151 u152 u153 u154 u155 u156 u157 u158 u159 u160 u161 u162 u163 u164 u165 u166 u167 u168 u169 u170 u171 u172 u173 u174 u175 u176 u177 u178 u179 u180 u181 u182 u183 u184 u185 u186 u187 u188 u189 u190 u191 u192 u193 u194 u195 u196 u197 u198 u199 u200 u201 u202 u203 u204 u205 u206 u207 u208 u209 u210 u211 u212 u213 u214 u215
     exact hcutP.out
   ·
    rw [if_neg c238] at H
    have c238b0:(t695 == 0)=false:=beq_eq_false_iff_ne.mpr c238
    have c238b1:(t695 != 0)=true:=bne_iff_ne.mpr c238
    replace H:=bS H
    obtain ⟨⟨t720,t721,t722,t723⟩,A671,H⟩:=H
    try dsimp only at H
    replace H:=bS H
    obtain ⟨⟨t725,t726,t727,t728,t729⟩,A672,H⟩:=H
    try dsimp only at H
    replace H:=bS H
    obtain ⟨⟨t731,t732,t733,t734⟩,A673,H⟩:=H
    try dsimp only at H
    by_cases c674:t723=0
    ·
     rw [if_pos c674] at H
     have c674b0:(t723 == 0)=true:=beq_iff_eq.mpr c674
     have c674b1:(t723 != 0)=false:=bne_eq_false_iff_eq.mpr c674
     clear c674
     by_cases c675:t729=0
     ·
      rw [if_pos c675] at H
      have c675b0:(t729 == 0)=true:=beq_iff_eq.mpr c675
      have c675b1:(t729 != 0)=false:=bne_eq_false_iff_eq.mpr c675
      clear c675
      by_cases c676:t734=0
      focus
       rw [if_pos c676] at H
       have c676b0:(t734 == 0)=true:=beq_iff_eq.mpr c676
       have c676b1:(t734 != 0)=false:=bne_eq_false_iff_eq.mpr c676
       clear c676
       obtain rfl:=Option.some.inj H
       try clear hnb147 hnb148 hnb149 hnb150 hnb151 hnb152 hnb153
       try clear hnb157 hnb158 hnb159 hnb160 hnb161 hnb162 hnb163 hnb164 hnb166 hnb167 hnb168 hnb169 hnb170 hnb171
       try clear hnb175 hnb176 hnb177 hnb178 hnb179 hnb180 hnb181 hnb182 hnb183
       have hnb677:=LT642_643.out
       have hnb678:=LT643_648.out
       have hnb679:=LT643_653.out
       have hnb680:=LT643_660.out
       have hnb681:=LT643_661.out
       have hnb682:=LT643_665.out
       have hnb683:=LT643_669.out
       have hnb684:=LT643_685.out
       have hnb685:=LT643_690.out
       obtain ⟨hcz686_0,hcz686_1,hcz686_2,hfz686_0,hfz686_1,hfz686_2⟩:=cz3 BK643
      rotate_left
      focus
       rw [if_neg c676] at H
       have c676b0:(t734 == 0)=false:=beq_eq_false_iff_ne.mpr c676
       have c676b1:(t734 != 0)=true:=bne_iff_ne.mpr c676
       obtain rfl:=Option.some.inj H
       try clear hnb147 hnb148 hnb149 hnb150 hnb151 hnb152 hnb153
       try clear hnb157 hnb158 hnb159 hnb160 hnb161 hnb162 hnb163 hnb164 hnb166 hnb167 hnb168 hnb169 hnb170 hnb171
       try clear hnb175 hnb176 hnb177 hnb178 hnb179 hnb180 hnb181 hnb182 hnb183
       have hnb772:=LT642_643.out
       have hnb773:=LT643_648.out
       have hnb774:=LT643_653.out
       have hnb775:=LT643_660.out
       have hnb776:=LT643_661.out
       have hnb777:=LT643_665.out
       have hnb778:=LT643_669.out
       have hnb779:=LT643_685.out
       have hnb780:=LT643_690.out
       obtain ⟨hcz781_0,hcz781_1,hcz781_2,hfz781_0,hfz781_1,hfz781_2⟩:=cz3 BK643
      rotate_left
      all_goals
       go_wp2_with (first|((with_reducible refine gd 152 rfl ?_);refine gC (some 152) rfl Try.func15 (impl_ParentOf.calls (w:=_) (h:=A237.out)) ?_;intro w687 hb;replace BK642:=kB BK642 hb;replace BK643:=kB BK643 hb;replace BK648:=kB BK648 hb;replace BK653:=kB BK653 hb;replace BK660:=kB BK660 hb;replace BK661:=kB BK661 hb;replace BK665:=kB BK665 hb;replace BK669:=kB BK669 hb;replace BK685:=kB BK685 hb;replace BK690:=kB BK690 hb;replace HB:=lB hb;clear hb)|((with_reducible refine gate_dst (N:=24) rfl ?_);refine bxE (cs:=#[.int .i64 0,.int .i64 0,.int .i64 0]) (t:=28) ?_;intro gb696 hg w688 hbox hb;have BK696:=Aside0.mk hbox;have GW696:=sA hg;have GE696:=sA hg;have NB642_696:=nA hg BK642;have NB696_642:=nB hg BK642;have LT642_696:=nL hg BK642;have NB643_696:=nA hg BK643;have NB696_643:=nB hg BK643;have LT643_696:=nL hg BK643;have NB648_696:=nA hg BK648;have NB696_648:=nB hg BK648;have LT648_696:=nL hg BK648;have NB653_696:=nA hg BK653;have NB696_653:=nB hg BK653;have LT653_696:=nL hg BK653;have NB660_696:=nA hg BK660;have NB696_660:=nB hg BK660;have LT660_696:=nL hg BK660;have NB661_696:=nA hg BK661;have NB696_661:=nB hg BK661;have LT661_696:=nL hg BK661;have NB665_696:=nA hg BK665;have NB696_665:=nB hg BK665;have LT665_696:=nL hg BK665;have NB669_696:=nA hg BK669;have NB696_669:=nB hg BK669;have LT669_696:=nL hg BK669;have NB685_696:=nA hg BK685;have NB696_685:=nB hg BK685;have LT685_696:=nL hg BK685;have NB690_696:=nA hg BK690;have NB696_690:=nB hg BK690;have LT690_696:=nL hg BK690;replace BK642:=kB BK642 hb;replace BK643:=kB BK643 hb;replace BK648:=kB BK648 hb;replace BK653:=kB BK653 hb;replace BK660:=kB BK660 hb;replace BK661:=kB BK661 hb;replace BK665:=kB BK665 hb;replace BK669:=kB BK669 hb;replace BK685:=kB BK685 hb;replace BK690:=kB BK690 hb;replace HB:=lB hb;clear hb hbox hg;have hnb689:=LT642_696.out;have hnb690:=LT643_696.out;have hnb691:=LT648_696.out;have hnb692:=LT653_696.out;have hnb693:=LT660_696.out;have hnb694:=LT661_696.out;have hnb695:=LT665_696.out;have hnb696:=LT669_696.out;have hnb697:=LT685_696.out;have hnb698:=LT690_696.out;obtain ⟨hcz699_0,hcz699_1,hcz699_2,hfz699_0,hfz699_1,hfz699_2⟩:=cz3 BK696;have hnb700:=LT642_660.out;have hnb701:=LT648_660.out;have hnb702:=LT653_660.out;have hnb703:=LT660_661.out;have hnb704:=LT660_665.out;have hnb705:=LT660_669.out;have hnb706:=LT660_685.out;have hnb707:=LT660_690.out;obtain ⟨hcz708_0,hcz708_1,hcz708_2,hcz708_3,hfz708_0,hfz708_1,hfz708_2,hfz708_3⟩:=cz4 BK660;have hnb709:=LT642_648.out;have hnb710:=LT648_653.out;have hnb711:=LT648_661.out;have hnb712:=LT648_665.out;have hnb713:=LT648_669.out;have hnb714:=LT648_685.out;have hnb715:=LT648_690.out;obtain ⟨hcz716_0,hcz716_1,hcz716_2,hfz716_0,hfz716_1,hfz716_2⟩:=cz3 BK648)|((with_reducible refine gd 185 rfl ?_);refine gC (some 185) rfl Try.func8 (impl_MoveBall.calls (w:=_) (h:=A671.out)) ?_;intro w717 hb;have n0_:=Aside0.mk (blk_below (g:=gb642) (o:=.cells #[.int .i64 t635,.int .i64 t636,.int .i64 t637,.int .i64 t638] 26 (0,0)) (bkF BK642) hb);have n1_:=Aside0.mk (blk_below (g:=gb643) (o:=.cells #[.int .i64 t639,.int .i64 t640,.int .i64 t641] 28 (0,0)) (bkF BK643) hb);have n2_:=Aside0.mk (blk_below (g:=gb648) (o:=.cells #[.int .i64 t644,.int .i64 t645,.int .i64 t646] 28 (0,0)) (bkF BK648) hb);have n3_:=Aside0.mk (blk_below (g:=gb653) (o:=.cells #[.int .i64 t649,.int .i64 t650,.int .i64 t651] 28 (0,0)) (bkF BK653) hb);have n4_:=Aside0.mk (blk_below (g:=gb660) (o:=.cells #[.int .i64 t654,.int .i64 t655,.int .i64 t656,.int .i64 t657] 26 (0,0)) (bkF BK660) hb);have n5_:=Aside0.mk (blk_below (g:=gb661) (o:=.cells #[.int .i64 t658,.int .i64 t659] 34 (0,0)) (bkF BK661) hb);have n6_:=Aside0.mk (blk_below (g:=gb665) (o:=.cells #[.int .i64 t662,.int .i64 t663] 34 (0,0)) (bkF BK665) hb);have n7_:=Aside0.mk (blk_below (g:=gb669) (o:=.cells #[.int .i64 t666,.int .i64 t667] 34 (0,0)) (bkF BK669) hb);have n8_:=Aside0.mk (blk_below (g:=gb685) (o:=.cells #[.int .i64 t680,.int .i64 t681,.int .i64 t682,.int .i64 t683] 26 (0,0)) (bkF BK685) hb);have n9_:=Aside0.mk (blk_below (g:=gb690) (o:=.cells #[.int .i64 t686,.int .i64 t687,.int .i64 t688] 28 (0,0)) (bkF BK690) hb);have n10_:=Aside0.mk (blk_below (g:=gb696) (o:=.cells #[.int .i64 t692,.int .i64 t693,.int .i64 t694] 28 (0,0)) (bpA BK696) hb);have n11_:=lB hb;clear BK642;clear BK643;clear BK648;clear BK653;clear BK660;clear BK661;clear BK665;clear BK669;clear BK685;clear BK690;clear BK696;clear HB;have BK642:=n0_;have BK643:=n1_;have BK648:=n2_;have BK653:=n3_;have BK660:=n4_;have BK661:=n5_;have BK665:=n6_;have BK669:=n7_;have BK685:=n8_;have BK690:=n9_;have BK696:=n10_;have HB:=n11_;clear n0_ n1_ n2_ n3_ n4_ n5_ n6_ n7_ n8_ n9_ n10_ n11_;clear hb)|((with_reducible refine gate_dst (N:=30) rfl ?_);refine bxE (cs:=#[.int .i64 0,.int .i64 0,.int .i64 0]) (t:=28) ?_;intro gb724 hg w718 hbox hb;have BK724:=Aside0.mk hbox;have GW724:=sA hg;have GE724:=sA hg;have NB642_724:=nA hg BK642;have NB724_642:=nB hg BK642;have LT642_724:=nL hg BK642;have NB643_724:=nA hg BK643;have NB724_643:=nB hg BK643;have LT643_724:=nL hg BK643;have NB648_724:=nA hg BK648;have NB724_648:=nB hg BK648;have LT648_724:=nL hg BK648;have NB653_724:=nA hg BK653;have NB724_653:=nB hg BK653;have LT653_724:=nL hg BK653;have NB660_724:=nA hg BK660;have NB724_660:=nB hg BK660;have LT660_724:=nL hg BK660;have NB661_724:=nA hg BK661;have NB724_661:=nB hg BK661;have LT661_724:=nL hg BK661;have NB665_724:=nA hg BK665;have NB724_665:=nB hg BK665;have LT665_724:=nL hg BK665;have NB669_724:=nA hg BK669;have NB724_669:=nB hg BK669;have LT669_724:=nL hg BK669;have NB685_724:=nA hg BK685;have NB724_685:=nB hg BK685;have LT685_724:=nL hg BK685;have NB690_724:=nA hg BK690;have NB724_690:=nB hg BK690;have LT690_724:=nL hg BK690;have NB696_724:=nA hg BK696;have NB724_696:=nB hg BK696;have LT696_724:=nL hg BK696;replace BK642:=kB BK642 hb;replace BK643:=kB BK643 hb;replace BK648:=kB BK648 hb;replace BK653:=kB BK653 hb;replace BK660:=kB BK660 hb;replace BK661:=kB BK661 hb;replace BK665:=kB BK665 hb;replace BK669:=kB BK669 hb;replace BK685:=kB BK685 hb;replace BK690:=kB BK690 hb;replace BK696:=kB BK696 hb;replace HB:=lB hb;clear hb hbox hg;have hnb719:=LT642_724.out;have hnb720:=LT643_724.out;have hnb721:=LT648_724.out;have hnb722:=LT653_724.out;have hnb723:=LT660_724.out;have hnb724:=LT661_724.out;have hnb725:=LT665_724.out;have hnb726:=LT669_724.out;have hnb727:=LT685_724.out;have hnb728:=LT690_724.out;have hnb729:=LT696_724.out;obtain ⟨hcz730_0,hcz730_1,hcz730_2,hfz730_0,hfz730_1,hfz730_2⟩:=cz3 BK724;obtain ⟨hcz731_0,hcz731_1,hcz731_2,hcz731_3,hfz731_0,hfz731_1,hfz731_2,hfz731_3⟩:=cz4 BK660;have hnb732:=LT642_653.out;have hnb733:=LT642_661.out;have hnb734:=LT642_665.out;have hnb735:=LT642_669.out;have hnb736:=LT642_685.out;have hnb737:=LT642_690.out;obtain ⟨hcz738_0,hcz738_1,hcz738_2,hcz738_3,hfz738_0,hfz738_1,hfz738_2,hfz738_3⟩:=cz4 BK642)|((with_reducible refine gd 191 rfl ?_);refine gC (some 191) rfl Try.func17 (impl_MultiplyMatrices.calls (w:=_) (h:=A672.out)) ?_;intro w739 hb;have n0_:=Aside0.mk (blk_below (g:=gb642) (o:=.cells #[.int .i64 t635,.int .i64 t636,.int .i64 t637,.int .i64 t638] 26 (0,0)) (bkF BK642) hb);have n1_:=Aside0.mk (blk_below (g:=gb643) (o:=.cells #[.int .i64 t639,.int .i64 t640,.int .i64 t641] 28 (0,0)) (bkF BK643) hb);have n2_:=Aside0.mk (blk_below (g:=gb648) (o:=.cells #[.int .i64 t644,.int .i64 t645,.int .i64 t646] 28 (0,0)) (bkF BK648) hb);have n3_:=Aside0.mk (blk_below (g:=gb653) (o:=.cells #[.int .i64 t649,.int .i64 t650,.int .i64 t651] 28 (0,0)) (bkF BK653) hb);have n4_:=Aside0.mk (blk_below (g:=gb660) (o:=.cells #[.int .i64 t654,.int .i64 t655,.int .i64 t656,.int .i64 t657] 26 (0,0)) (bkF BK660) hb);have n5_:=Aside0.mk (blk_below (g:=gb661) (o:=.cells #[.int .i64 t658,.int .i64 t659] 34 (0,0)) (bkF BK661) hb);have n6_:=Aside0.mk (blk_below (g:=gb665) (o:=.cells #[.int .i64 t662,.int .i64 t663] 34 (0,0)) (bkF BK665) hb);have n7_:=Aside0.mk (blk_below (g:=gb669) (o:=.cells #[.int .i64 t666,.int .i64 t667] 34 (0,0)) (bkF BK669) hb);have n8_:=Aside0.mk (blk_below (g:=gb685) (o:=.cells #[.int .i64 t680,.int .i64 t681,.int .i64 t682,.int .i64 t683] 26 (0,0)) (bkF BK685) hb);have n9_:=Aside0.mk (blk_below (g:=gb690) (o:=.cells #[.int .i64 t686,.int .i64 t687,.int .i64 t688] 28 (0,0)) (bkF BK690) hb);have n10_:=Aside0.mk (blk_below (g:=gb696) (o:=.cells #[.int .i64 t692,.int .i64 t693,.int .i64 t694] 28 (0,0)) (bkF BK696) hb);have n11_:=Aside0.mk (blk_below (g:=gb724) (o:=.cells #[.int .i64 t720,.int .i64 t721,.int .i64 t722] 28 (0,0)) (bpA BK724) hb);have n12_:=lB hb;clear BK642;clear BK643;clear BK648;clear BK653;clear BK660;clear BK661;clear BK665;clear BK669;clear BK685;clear BK690;clear BK696;clear BK724;clear HB;have BK642:=n0_;have BK643:=n1_;have BK648:=n2_;have BK653:=n3_;have BK660:=n4_;have BK661:=n5_;have BK665:=n6_;have BK669:=n7_;have BK685:=n8_;have BK690:=n9_;have BK696:=n10_;have BK724:=n11_;have HB:=n12_;clear n0_ n1_ n2_ n3_ n4_ n5_ n6_ n7_ n8_ n9_ n10_ n11_ n12_;clear hb)|((with_reducible refine gate_dst (N:=32) rfl ?_);refine bxE (cs:=#[.int .i64 0,.int .i64 0,.int .i64 0,.int .i64 0]) (t:=26) ?_;intro gb730 hg w740 hbox hb;have BK730:=Aside0.mk hbox;have GW730:=sA hg;have GE730:=sA hg;have NB642_730:=nA hg BK642;have NB730_642:=nB hg BK642;have LT642_730:=nL hg BK642;have NB643_730:=nA hg BK643;have NB730_643:=nB hg BK643;have LT643_730:=nL hg BK643;have NB648_730:=nA hg BK648;have NB730_648:=nB hg BK648;have LT648_730:=nL hg BK648;have NB653_730:=nA hg BK653;have NB730_653:=nB hg BK653;have LT653_730:=nL hg BK653;have NB660_730:=nA hg BK660;have NB730_660:=nB hg BK660;have LT660_730:=nL hg BK660;have NB661_730:=nA hg BK661;have NB730_661:=nB hg BK661;have LT661_730:=nL hg BK661;have NB665_730:=nA hg BK665;have NB730_665:=nB hg BK665;have LT665_730:=nL hg BK665;have NB669_730:=nA hg BK669;have NB730_669:=nB hg BK669;have LT669_730:=nL hg BK669;have NB685_730:=nA hg BK685;have NB730_685:=nB hg BK685;have LT685_730:=nL hg BK685;have NB690_730:=nA hg BK690;have NB730_690:=nB hg BK690;have LT690_730:=nL hg BK690;have NB696_730:=nA hg BK696;have NB730_696:=nB hg BK696;have LT696_730:=nL hg BK696;have NB724_730:=nA hg BK724;have NB730_724:=nB hg BK724;have LT724_730:=nL hg BK724;replace BK642:=kB BK642 hb;replace BK643:=kB BK643 hb;replace BK648:=kB BK648 hb;replace BK653:=kB BK653 hb;replace BK660:=kB BK660 hb;replace BK661:=kB BK661 hb;replace BK665:=kB BK665 hb;replace BK669:=kB BK669 hb;replace BK685:=kB BK685 hb;replace BK690:=kB BK690 hb;replace BK696:=kB BK696 hb;replace BK724:=kB BK724 hb;replace HB:=lB hb;clear hb hbox hg;have hnb741:=LT642_730.out;have hnb742:=LT643_730.out;have hnb743:=LT648_730.out;have hnb744:=LT653_730.out;have hnb745:=LT660_730.out;have hnb746:=LT661_730.out;have hnb747:=LT665_730.out;have hnb748:=LT669_730.out;have hnb749:=LT685_730.out;have hnb750:=LT690_730.out;have hnb751:=LT696_730.out;have hnb752:=LT724_730.out;obtain ⟨hcz753_0,hcz753_1,hcz753_2,hcz753_3,hfz753_0,hfz753_1,hfz753_2,hfz753_3⟩:=cz4 BK730;obtain ⟨hcz754_0,hcz754_1,hcz754_2,hfz754_0,hfz754_1,hfz754_2⟩:=cz3 BK643)|((with_reducible refine gd 198 rfl ?_);refine gC (some 198) rfl Try.func8 (impl_MoveBall.calls (w:=_) (h:=A673.out)) ?_;intro w755 hb;have n0_:=Aside0.mk (blk_below (g:=gb642) (o:=.cells #[.int .i64 t635,.int .i64 t636,.int .i64 t637,.int .i64 t638] 26 (0,0)) (bkF BK642) hb);have n1_:=Aside0.mk (blk_below (g:=gb643) (o:=.cells #[.int .i64 t639,.int .i64 t640,.int .i64 t641] 28 (0,0)) (bkF BK643) hb);have n2_:=Aside0.mk (blk_below (g:=gb648) (o:=.cells #[.int .i64 t644,.int .i64 t645,.int .i64 t646] 28 (0,0)) (bkF BK648) hb);have n3_:=Aside0.mk (blk_below (g:=gb653) (o:=.cells #[.int .i64 t649,.int .i64 t650,.int .i64 t651] 28 (0,0)) (bkF BK653) hb);have n4_:=Aside0.mk (blk_below (g:=gb660) (o:=.cells #[.int .i64 t654,.int .i64 t655,.int .i64 t656,.int .i64 t657] 26 (0,0)) (bkF BK660) hb);have n5_:=Aside0.mk (blk_below (g:=gb661) (o:=.cells #[.int .i64 t658,.int .i64 t659] 34 (0,0)) (bkF BK661) hb);have n6_:=Aside0.mk (blk_below (g:=gb665) (o:=.cells #[.int .i64 t662,.int .i64 t663] 34 (0,0)) (bkF BK665) hb);have n7_:=Aside0.mk (blk_below (g:=gb669) (o:=.cells #[.int .i64 t666,.int .i64 t667] 34 (0,0)) (bkF BK669) hb);have n8_:=Aside0.mk (blk_below (g:=gb685) (o:=.cells #[.int .i64 t680,.int .i64 t681,.int .i64 t682,.int .i64 t683] 26 (0,0)) (bkF BK685) hb);have n9_:=Aside0.mk (blk_below (g:=gb690) (o:=.cells #[.int .i64 t686,.int .i64 t687,.int .i64 t688] 28 (0,0)) (bkF BK690) hb);have n10_:=Aside0.mk (blk_below (g:=gb696) (o:=.cells #[.int .i64 t692,.int .i64 t693,.int .i64 t694] 28 (0,0)) (bkF BK696) hb);have n11_:=Aside0.mk (blk_below (g:=gb724) (o:=.cells #[.int .i64 t720,.int .i64 t721,.int .i64 t722] 28 (0,0)) (bkF BK724) hb);have n12_:=Aside0.mk (blk_below (g:=gb730) (o:=.cells #[.int .i64 t725,.int .i64 t726,.int .i64 t727,.int .i64 t728] 26 (0,0)) (bpA BK730) hb);have n13_:=lB hb;clear BK642;clear BK643;clear BK648;clear BK653;clear BK660;clear BK661;clear BK665;clear BK669;clear BK685;clear BK690;clear BK696;clear BK724;clear BK730;clear HB;have BK642:=n0_;have BK643:=n1_;have BK648:=n2_;have BK653:=n3_;have BK660:=n4_;have BK661:=n5_;have BK665:=n6_;have BK669:=n7_;have BK685:=n8_;have BK690:=n9_;have BK696:=n10_;have BK724:=n11_;have BK730:=n12_;have HB:=n13_;clear n0_ n1_ n2_ n3_ n4_ n5_ n6_ n7_ n8_ n9_ n10_ n11_ n12_ n13_;clear hb)|((with_reducible refine gate_dst (N:=34) rfl ?_);refine bxE (cs:=#[.int .i64 0,.int .i64 0,.int .i64 0]) (t:=28) ?_;intro gb735 hg w756 hbox hb;have BK735:=Aside0.mk hbox;have GW735:=sA hg;have GE735:=sA hg;have NB642_735:=nA hg BK642;have NB735_642:=nB hg BK642;have LT642_735:=nL hg BK642;have NB643_735:=nA hg BK643;have NB735_643:=nB hg BK643;have LT643_735:=nL hg BK643;have NB648_735:=nA hg BK648;have NB735_648:=nB hg BK648;have LT648_735:=nL hg BK648;have NB653_735:=nA hg BK653;have NB735_653:=nB hg BK653;have LT653_735:=nL hg BK653;have NB660_735:=nA hg BK660;have NB735_660:=nB hg BK660;have LT660_735:=nL hg BK660;have NB661_735:=nA hg BK661;have NB735_661:=nB hg BK661;have LT661_735:=nL hg BK661;have NB665_735:=nA hg BK665;have NB735_665:=nB hg BK665;have LT665_735:=nL hg BK665;have NB669_735:=nA hg BK669;have NB735_669:=nB hg BK669;have LT669_735:=nL hg BK669;have NB685_735:=nA hg BK685;have NB735_685:=nB hg BK685;have LT685_735:=nL hg BK685;have NB690_735:=nA hg BK690;have NB735_690:=nB hg BK690;have LT690_735:=nL hg BK690;have NB696_735:=nA hg BK696;have NB735_696:=nB hg BK696;have LT696_735:=nL hg BK696;have NB724_735:=nA hg BK724;have NB735_724:=nB hg BK724;have LT724_735:=nL hg BK724;have NB730_735:=nA hg BK730;have NB735_730:=nB hg BK730;have LT730_735:=nL hg BK730;replace BK642:=kB BK642 hb;replace BK643:=kB BK643 hb;replace BK648:=kB BK648 hb;replace BK653:=kB BK653 hb;replace BK660:=kB BK660 hb;replace BK661:=kB BK661 hb;replace BK665:=kB BK665 hb;replace BK669:=kB BK669 hb;replace BK685:=kB BK685 hb;replace BK690:=kB BK690 hb;replace BK696:=kB BK696 hb;replace BK724:=kB BK724 hb;replace BK730:=kB BK730 hb;replace HB:=lB hb;clear hb hbox hg;have hnb757:=LT642_735.out;have hnb758:=LT643_735.out;have hnb759:=LT648_735.out;have hnb760:=LT653_735.out;have hnb761:=LT660_735.out;have hnb762:=LT661_735.out;have hnb763:=LT665_735.out;have hnb764:=LT669_735.out;have hnb765:=LT685_735.out;have hnb766:=LT690_735.out;have hnb767:=LT696_735.out;have hnb768:=LT724_735.out;have hnb769:=LT730_735.out;obtain ⟨hcz770_0,hcz770_1,hcz770_2,hfz770_0,hfz770_1,hfz770_2⟩:=cz3 BK735;obtain ⟨hcz771_0,hcz771_1,hcz771_2,hfz771_0,hfz771_1,hfz771_2⟩:=cz3 BK724))
      ·
       go_ret
       exact finA blA
      ·
       go_ret
       exact finA blA
     ·
      rw [if_neg c675] at H
      have c675b0:(t729 == 0)=false:=beq_eq_false_iff_ne.mpr c675
      have c675b1:(t729 != 0)=true:=bne_iff_ne.mpr c675
      obtain rfl:=Option.some.inj H
      try clear hnb147 hnb148 hnb149 hnb150 hnb151 hnb152 hnb153
      try clear hnb157 hnb158 hnb159 hnb160 hnb161 hnb162 hnb163 hnb164 hnb166 hnb167 hnb168 hnb169 hnb170 hnb171
      try clear hnb175 hnb176 hnb177 hnb178 hnb179 hnb180 hnb181 hnb182 hnb183
      have hnb866:=LT642_643.out
      have hnb867:=LT643_648.out
      have hnb868:=LT643_653.out
      have hnb869:=LT643_660.out
      have hnb870:=LT643_661.out
      have hnb871:=LT643_665.out
      have hnb872:=LT643_669.out
      have hnb873:=LT643_685.out
      have hnb874:=LT643_690.out
      obtain ⟨hcz875_0,hcz875_1,hcz875_2,hfz875_0,hfz875_1,hfz875_2⟩:=cz3 BK643
      go_wp2_with (first|((with_reducible refine gd 152 rfl ?_);refine gC (some 152) rfl Try.func15 (impl_ParentOf.calls (w:=_) (h:=A237.out)) ?_;intro w876 hb;replace BK642:=kB BK642 hb;replace BK643:=kB BK643 hb;replace BK648:=kB BK648 hb;replace BK653:=kB BK653 hb;replace BK660:=kB BK660 hb;replace BK661:=kB BK661 hb;replace BK665:=kB BK665 hb;replace BK669:=kB BK669 hb;replace BK685:=kB BK685 hb;replace BK690:=kB BK690 hb;replace HB:=lB hb;clear hb)|((with_reducible refine gate_dst (N:=24) rfl ?_);refine bxE (cs:=#[.int .i64 0,.int .i64 0,.int .i64 0]) (t:=28) ?_;intro gb696 hg w877 hbox hb;have BK696:=Aside0.mk hbox;have GW696:=sA hg;have GE696:=sA hg;have NB642_696:=nA hg BK642;have NB696_642:=nB hg BK642;have LT642_696:=nL hg BK642;have NB643_696:=nA hg BK643;have NB696_643:=nB hg BK643;have LT643_696:=nL hg BK643;have NB648_696:=nA hg BK648;have NB696_648:=nB hg BK648;have LT648_696:=nL hg BK648;have NB653_696:=nA hg BK653;have NB696_653:=nB hg BK653;have LT653_696:=nL hg BK653;have NB660_696:=nA hg BK660;have NB696_660:=nB hg BK660;have LT660_696:=nL hg BK660;have NB661_696:=nA hg BK661;have NB696_661:=nB hg BK661;have LT661_696:=nL hg BK661;have NB665_696:=nA hg BK665;have NB696_665:=nB hg BK665;have LT665_696:=nL hg BK665;have NB669_696:=nA hg BK669;have NB696_669:=nB hg BK669;have LT669_696:=nL hg BK669;have NB685_696:=nA hg BK685;have NB696_685:=nB hg BK685;have LT685_696:=nL hg BK685;have NB690_696:=nA hg BK690;have NB696_690:=nB hg BK690;have LT690_696:=nL hg BK690;replace BK642:=kB BK642 hb;replace BK643:=kB BK643 hb;replace BK648:=kB BK648 hb;replace BK653:=kB BK653 hb;replace BK660:=kB BK660 hb;replace BK661:=kB BK661 hb;replace BK665:=kB BK665 hb;replace BK669:=kB BK669 hb;replace BK685:=kB BK685 hb;replace BK690:=kB BK690 hb;replace HB:=lB hb;clear hb hbox hg;have hnb878:=LT642_696.out;have hnb879:=LT643_696.out;have hnb880:=LT648_696.out;have hnb881:=LT653_696.out;have hnb882:=LT660_696.out;have hnb883:=LT661_696.out;have hnb884:=LT665_696.out;have hnb885:=LT669_696.out;have hnb886:=LT685_696.out;have hnb887:=LT690_696.out;obtain ⟨hcz888_0,hcz888_1,hcz888_2,hfz888_0,hfz888_1,hfz888_2⟩:=cz3 BK696;have hnb889:=LT642_660.out;have hnb890:=LT648_660.out;have hnb891:=LT653_660.out;have hnb892:=LT660_661.out;have hnb893:=LT660_665.out;have hnb894:=LT660_669.out;have hnb895:=LT660_685.out;have hnb896:=LT660_690.out;obtain ⟨hcz897_0,hcz897_1,hcz897_2,hcz897_3,hfz897_0,hfz897_1,hfz897_2,hfz897_3⟩:=cz4 BK660;have hnb898:=LT642_648.out;have hnb899:=LT648_653.out;have hnb900:=LT648_661.out;have hnb901:=LT648_665.out;have hnb902:=LT648_669.out;have hnb903:=LT648_685.out;have hnb904:=LT648_690.out;obtain ⟨hcz905_0,hcz905_1,hcz905_2,hfz905_0,hfz905_1,hfz905_2⟩:=cz3 BK648)|((with_reducible refine gd 185 rfl ?_);refine gC (some 185) rfl Try.func8 (impl_MoveBall.calls (w:=_) (h:=A671.out)) ?_;intro w906 hb;have n0_:=Aside0.mk (blk_below (g:=gb642) (o:=.cells #[.int .i64 t635,.int .i64 t636,.int .i64 t637,.int .i64 t638] 26 (0,0)) (bkF BK642) hb);have n1_:=Aside0.mk (blk_below (g:=gb643) (o:=.cells #[.int .i64 t639,.int .i64 t640,.int .i64 t641] 28 (0,0)) (bkF BK643) hb);have n2_:=Aside0.mk (blk_below (g:=gb648) (o:=.cells #[.int .i64 t644,.int .i64 t645,.int .i64 t646] 28 (0,0)) (bkF BK648) hb);have n3_:=Aside0.mk (blk_below (g:=gb653) (o:=.cells #[.int .i64 t649,.int .i64 t650,.int .i64 t651] 28 (0,0)) (bkF BK653) hb);have n4_:=Aside0.mk (blk_below (g:=gb660) (o:=.cells #[.int .i64 t654,.int .i64 t655,.int .i64 t656,.int .i64 t657] 26 (0,0)) (bkF BK660) hb);have n5_:=Aside0.mk (blk_below (g:=gb661) (o:=.cells #[.int .i64 t658,.int .i64 t659] 34 (0,0)) (bkF BK661) hb);have n6_:=Aside0.mk (blk_below (g:=gb665) (o:=.cells #[.int .i64 t662,.int .i64 t663] 34 (0,0)) (bkF BK665) hb);have n7_:=Aside0.mk (blk_below (g:=gb669) (o:=.cells #[.int .i64 t666,.int .i64 t667] 34 (0,0)) (bkF BK669) hb);have n8_:=Aside0.mk (blk_below (g:=gb685) (o:=.cells #[.int .i64 t680,.int .i64 t681,.int .i64 t682,.int .i64 t683] 26 (0,0)) (bkF BK685) hb);have n9_:=Aside0.mk (blk_below (g:=gb690) (o:=.cells #[.int .i64 t686,.int .i64 t687,.int .i64 t688] 28 (0,0)) (bkF BK690) hb);have n10_:=Aside0.mk (blk_below (g:=gb696) (o:=.cells #[.int .i64 t692,.int .i64 t693,.int .i64 t694] 28 (0,0)) (bpA BK696) hb);have n11_:=lB hb;clear BK642;clear BK643;clear BK648;clear BK653;clear BK660;clear BK661;clear BK665;clear BK669;clear BK685;clear BK690;clear BK696;clear HB;have BK642:=n0_;have BK643:=n1_;have BK648:=n2_;have BK653:=n3_;have BK660:=n4_;have BK661:=n5_;have BK665:=n6_;have BK669:=n7_;have BK685:=n8_;have BK690:=n9_;have BK696:=n10_;have HB:=n11_;clear n0_ n1_ n2_ n3_ n4_ n5_ n6_ n7_ n8_ n9_ n10_ n11_;clear hb)|((with_reducible refine gate_dst (N:=30) rfl ?_);refine bxE (cs:=#[.int .i64 0,.int .i64 0,.int .i64 0]) (t:=28) ?_;intro gb724 hg w907 hbox hb;have BK724:=Aside0.mk hbox;have GW724:=sA hg;have GE724:=sA hg;have NB642_724:=nA hg BK642;have NB724_642:=nB hg BK642;have LT642_724:=nL hg BK642;have NB643_724:=nA hg BK643;have NB724_643:=nB hg BK643;have LT643_724:=nL hg BK643;have NB648_724:=nA hg BK648;have NB724_648:=nB hg BK648;have LT648_724:=nL hg BK648;have NB653_724:=nA hg BK653;have NB724_653:=nB hg BK653;have LT653_724:=nL hg BK653;have NB660_724:=nA hg BK660;have NB724_660:=nB hg BK660;have LT660_724:=nL hg BK660;have NB661_724:=nA hg BK661;have NB724_661:=nB hg BK661;have LT661_724:=nL hg BK661;have NB665_724:=nA hg BK665;have NB724_665:=nB hg BK665;have LT665_724:=nL hg BK665;have NB669_724:=nA hg BK669;have NB724_669:=nB hg BK669;have LT669_724:=nL hg BK669;have NB685_724:=nA hg BK685;have NB724_685:=nB hg BK685;have LT685_724:=nL hg BK685;have NB690_724:=nA hg BK690;have NB724_690:=nB hg BK690;have LT690_724:=nL hg BK690;have NB696_724:=nA hg BK696;have NB724_696:=nB hg BK696;have LT696_724:=nL hg BK696;replace BK642:=kB BK642 hb;replace BK643:=kB BK643 hb;replace BK648:=kB BK648 hb;replace BK653:=kB BK653 hb;replace BK660:=kB BK660 hb;replace BK661:=kB BK661 hb;replace BK665:=kB BK665 hb;replace BK669:=kB BK669 hb;replace BK685:=kB BK685 hb;replace BK690:=kB BK690 hb;replace BK696:=kB BK696 hb;replace HB:=lB hb;clear hb hbox hg;have hnb908:=LT642_724.out;have hnb909:=LT643_724.out;have hnb910:=LT648_724.out;have hnb911:=LT653_724.out;have hnb912:=LT660_724.out;have hnb913:=LT661_724.out;have hnb914:=LT665_724.out;have hnb915:=LT669_724.out;have hnb916:=LT685_724.out;have hnb917:=LT690_724.out;have hnb918:=LT696_724.out;obtain ⟨hcz919_0,hcz919_1,hcz919_2,hfz919_0,hfz919_1,hfz919_2⟩:=cz3 BK724;obtain ⟨hcz920_0,hcz920_1,hcz920_2,hcz920_3,hfz920_0,hfz920_1,hfz920_2,hfz920_3⟩:=cz4 BK660;have hnb921:=LT642_653.out;have hnb922:=LT642_661.out;have hnb923:=LT642_665.out;have hnb924:=LT642_669.out;have hnb925:=LT642_685.out;have hnb926:=LT642_690.out;obtain ⟨hcz927_0,hcz927_1,hcz927_2,hcz927_3,hfz927_0,hfz927_1,hfz927_2,hfz927_3⟩:=cz4 BK642)|((with_reducible refine gd 191 rfl ?_);refine gC (some 191) rfl Try.func17 (impl_MultiplyMatrices.calls (w:=_) (h:=A672.out)) ?_;intro w928 hb;have n0_:=Aside0.mk (blk_below (g:=gb642) (o:=.cells #[.int .i64 t635,.int .i64 t636,.int .i64 t637,.int .i64 t638] 26 (0,0)) (bkF BK642) hb);have n1_:=Aside0.mk (blk_below (g:=gb643) (o:=.cells #[.int .i64 t639,.int .i64 t640,.int .i64 t641] 28 (0,0)) (bkF BK643) hb);have n2_:=Aside0.mk (blk_below (g:=gb648) (o:=.cells #[.int .i64 t644,.int .i64 t645,.int .i64 t646] 28 (0,0)) (bkF BK648) hb);have n3_:=Aside0.mk (blk_below (g:=gb653) (o:=.cells #[.int .i64 t649,.int .i64 t650,.int .i64 t651] 28 (0,0)) (bkF BK653) hb);have n4_:=Aside0.mk (blk_below (g:=gb660) (o:=.cells #[.int .i64 t654,.int .i64 t655,.int .i64 t656,.int .i64 t657] 26 (0,0)) (bkF BK660) hb);have n5_:=Aside0.mk (blk_below (g:=gb661) (o:=.cells #[.int .i64 t658,.int .i64 t659] 34 (0,0)) (bkF BK661) hb);have n6_:=Aside0.mk (blk_below (g:=gb665) (o:=.cells #[.int .i64 t662,.int .i64 t663] 34 (0,0)) (bkF BK665) hb);have n7_:=Aside0.mk (blk_below (g:=gb669) (o:=.cells #[.int .i64 t666,.int .i64 t667] 34 (0,0)) (bkF BK669) hb);have n8_:=Aside0.mk (blk_below (g:=gb685) (o:=.cells #[.int .i64 t680,.int .i64 t681,.int .i64 t682,.int .i64 t683] 26 (0,0)) (bkF BK685) hb);have n9_:=Aside0.mk (blk_below (g:=gb690) (o:=.cells #[.int .i64 t686,.int .i64 t687,.int .i64 t688] 28 (0,0)) (bkF BK690) hb);have n10_:=Aside0.mk (blk_below (g:=gb696) (o:=.cells #[.int .i64 t692,.int .i64 t693,.int .i64 t694] 28 (0,0)) (bkF BK696) hb);have n11_:=Aside0.mk (blk_below (g:=gb724) (o:=.cells #[.int .i64 t720,.int .i64 t721,.int .i64 t722] 28 (0,0)) (bpA BK724) hb);have n12_:=lB hb;clear BK642;clear BK643;clear BK648;clear BK653;clear BK660;clear BK661;clear BK665;clear BK669;clear BK685;clear BK690;clear BK696;clear BK724;clear HB;have BK642:=n0_;have BK643:=n1_;have BK648:=n2_;have BK653:=n3_;have BK660:=n4_;have BK661:=n5_;have BK665:=n6_;have BK669:=n7_;have BK685:=n8_;have BK690:=n9_;have BK696:=n10_;have BK724:=n11_;have HB:=n12_;clear n0_ n1_ n2_ n3_ n4_ n5_ n6_ n7_ n8_ n9_ n10_ n11_ n12_;clear hb)|((with_reducible refine gate_dst (N:=32) rfl ?_);refine bxE (cs:=#[.int .i64 0,.int .i64 0,.int .i64 0,.int .i64 0]) (t:=26) ?_;intro gb730 hg w929 hbox hb;have BK730:=Aside0.mk hbox;have GW730:=sA hg;have GE730:=sA hg;have NB642_730:=nA hg BK642;have NB730_642:=nB hg BK642;have LT642_730:=nL hg BK642;have NB643_730:=nA hg BK643;have NB730_643:=nB hg BK643;have LT643_730:=nL hg BK643;have NB648_730:=nA hg BK648;have NB730_648:=nB hg BK648;have LT648_730:=nL hg BK648;have NB653_730:=nA hg BK653;have NB730_653:=nB hg BK653;have LT653_730:=nL hg BK653;have NB660_730:=nA hg BK660;have NB730_660:=nB hg BK660;have LT660_730:=nL hg BK660;have NB661_730:=nA hg BK661;have NB730_661:=nB hg BK661;have LT661_730:=nL hg BK661;have NB665_730:=nA hg BK665;have NB730_665:=nB hg BK665;have LT665_730:=nL hg BK665;have NB669_730:=nA hg BK669;have NB730_669:=nB hg BK669;have LT669_730:=nL hg BK669;have NB685_730:=nA hg BK685;have NB730_685:=nB hg BK685;have LT685_730:=nL hg BK685;have NB690_730:=nA hg BK690;have NB730_690:=nB hg BK690;have LT690_730:=nL hg BK690;have NB696_730:=nA hg BK696;have NB730_696:=nB hg BK696;have LT696_730:=nL hg BK696;have NB724_730:=nA hg BK724;have NB730_724:=nB hg BK724;have LT724_730:=nL hg BK724;replace BK642:=kB BK642 hb;replace BK643:=kB BK643 hb;replace BK648:=kB BK648 hb;replace BK653:=kB BK653 hb;replace BK660:=kB BK660 hb;replace BK661:=kB BK661 hb;replace BK665:=kB BK665 hb;replace BK669:=kB BK669 hb;replace BK685:=kB BK685 hb;replace BK690:=kB BK690 hb;replace BK696:=kB BK696 hb;replace BK724:=kB BK724 hb;replace HB:=lB hb;clear hb hbox hg;have hnb930:=LT642_730.out;have hnb931:=LT643_730.out;have hnb932:=LT648_730.out;have hnb933:=LT653_730.out;have hnb934:=LT660_730.out;have hnb935:=LT661_730.out;have hnb936:=LT665_730.out;have hnb937:=LT669_730.out;have hnb938:=LT685_730.out;have hnb939:=LT690_730.out;have hnb940:=LT696_730.out;have hnb941:=LT724_730.out;obtain ⟨hcz942_0,hcz942_1,hcz942_2,hcz942_3,hfz942_0,hfz942_1,hfz942_2,hfz942_3⟩:=cz4 BK730;obtain ⟨hcz943_0,hcz943_1,hcz943_2,hfz943_0,hfz943_1,hfz943_2⟩:=cz3 BK643)|((with_reducible refine gd 198 rfl ?_);refine gC (some 198) rfl Try.func8 (impl_MoveBall.calls (w:=_) (h:=A673.out)) ?_;intro w944 hb;have n0_:=Aside0.mk (blk_below (g:=gb642) (o:=.cells #[.int .i64 t635,.int .i64 t636,.int .i64 t637,.int .i64 t638] 26 (0,0)) (bkF BK642) hb);have n1_:=Aside0.mk (blk_below (g:=gb643) (o:=.cells #[.int .i64 t639,.int .i64 t640,.int .i64 t641] 28 (0,0)) (bkF BK643) hb);have n2_:=Aside0.mk (blk_below (g:=gb648) (o:=.cells #[.int .i64 t644,.int .i64 t645,.int .i64 t646] 28 (0,0)) (bkF BK648) hb);have n3_:=Aside0.mk (blk_below (g:=gb653) (o:=.cells #[.int .i64 t649,.int .i64 t650,.int .i64 t651] 28 (0,0)) (bkF BK653) hb);have n4_:=Aside0.mk (blk_below (g:=gb660) (o:=.cells #[.int .i64 t654,.int .i64 t655,.int .i64 t656,.int .i64 t657] 26 (0,0)) (bkF BK660) hb);have n5_:=Aside0.mk (blk_below (g:=gb661) (o:=.cells #[.int .i64 t658,.int .i64 t659] 34 (0,0)) (bkF BK661) hb);have n6_:=Aside0.mk (blk_below (g:=gb665) (o:=.cells #[.int .i64 t662,.int .i64 t663] 34 (0,0)) (bkF BK665) hb);have n7_:=Aside0.mk (blk_below (g:=gb669) (o:=.cells #[.int .i64 t666,.int .i64 t667] 34 (0,0)) (bkF BK669) hb);have n8_:=Aside0.mk (blk_below (g:=gb685) (o:=.cells #[.int .i64 t680,.int .i64 t681,.int .i64 t682,.int .i64 t683] 26 (0,0)) (bkF BK685) hb);have n9_:=Aside0.mk (blk_below (g:=gb690) (o:=.cells #[.int .i64 t686,.int .i64 t687,.int .i64 t688] 28 (0,0)) (bkF BK690) hb);have n10_:=Aside0.mk (blk_below (g:=gb696) (o:=.cells #[.int .i64 t692,.int .i64 t693,.int .i64 t694] 28 (0,0)) (bkF BK696) hb);have n11_:=Aside0.mk (blk_below (g:=gb724) (o:=.cells #[.int .i64 t720,.int .i64 t721,.int .i64 t722] 28 (0,0)) (bkF BK724) hb);have n12_:=Aside0.mk (blk_below (g:=gb730) (o:=.cells #[.int .i64 t725,.int .i64 t726,.int .i64 t727,.int .i64 t728] 26 (0,0)) (bpA BK730) hb);have n13_:=lB hb;clear BK642;clear BK643;clear BK648;clear BK653;clear BK660;clear BK661;clear BK665;clear BK669;clear BK685;clear BK690;clear BK696;clear BK724;clear BK730;clear HB;have BK642:=n0_;have BK643:=n1_;have BK648:=n2_;have BK653:=n3_;have BK660:=n4_;have BK661:=n5_;have BK665:=n6_;have BK669:=n7_;have BK685:=n8_;have BK690:=n9_;have BK696:=n10_;have BK724:=n11_;have BK730:=n12_;have HB:=n13_;clear n0_ n1_ n2_ n3_ n4_ n5_ n6_ n7_ n8_ n9_ n10_ n11_ n12_ n13_;clear hb)|((with_reducible refine gate_dst (N:=34) rfl ?_);refine bxE (cs:=#[.int .i64 0,.int .i64 0,.int .i64 0]) (t:=28) ?_;intro gb735 hg w945 hbox hb;have BK735:=Aside0.mk hbox;have GW735:=sA hg;have GE735:=sA hg;have NB642_735:=nA hg BK642;have NB735_642:=nB hg BK642;have LT642_735:=nL hg BK642;have NB643_735:=nA hg BK643;have NB735_643:=nB hg BK643;have LT643_735:=nL hg BK643;have NB648_735:=nA hg BK648;have NB735_648:=nB hg BK648;have LT648_735:=nL hg BK648;have NB653_735:=nA hg BK653;have NB735_653:=nB hg BK653;have LT653_735:=nL hg BK653;have NB660_735:=nA hg BK660;have NB735_660:=nB hg BK660;have LT660_735:=nL hg BK660;have NB661_735:=nA hg BK661;have NB735_661:=nB hg BK661;have LT661_735:=nL hg BK661;have NB665_735:=nA hg BK665;have NB735_665:=nB hg BK665;have LT665_735:=nL hg BK665;have NB669_735:=nA hg BK669;have NB735_669:=nB hg BK669;have LT669_735:=nL hg BK669;have NB685_735:=nA hg BK685;have NB735_685:=nB hg BK685;have LT685_735:=nL hg BK685;have NB690_735:=nA hg BK690;have NB735_690:=nB hg BK690;have LT690_735:=nL hg BK690;have NB696_735:=nA hg BK696;have NB735_696:=nB hg BK696;have LT696_735:=nL hg BK696;have NB724_735:=nA hg BK724;have NB735_724:=nB hg BK724;have LT724_735:=nL hg BK724;have NB730_735:=nA hg BK730;have NB735_730:=nB hg BK730;have LT730_735:=nL hg BK730;replace BK642:=kB BK642 hb;replace BK643:=kB BK643 hb;replace BK648:=kB BK648 hb;replace BK653:=kB BK653 hb;replace BK660:=kB BK660 hb;replace BK661:=kB BK661 hb;replace BK665:=kB BK665 hb;replace BK669:=kB BK669 hb;replace BK685:=kB BK685 hb;replace BK690:=kB BK690 hb;replace BK696:=kB BK696 hb;replace BK724:=kB BK724 hb;replace BK730:=kB BK730 hb;replace HB:=lB hb;clear hb hbox hg;have hnb946:=LT642_735.out;have hnb947:=LT643_735.out;have hnb948:=LT648_735.out;have hnb949:=LT653_735.out;have hnb950:=LT660_735.out;have hnb951:=LT661_735.out;have hnb952:=LT665_735.out;have hnb953:=LT669_735.out;have hnb954:=LT685_735.out;have hnb955:=LT690_735.out;have hnb956:=LT696_735.out;have hnb957:=LT724_735.out;have hnb958:=LT730_735.out;obtain ⟨hcz959_0,hcz959_1,hcz959_2,hfz959_0,hfz959_1,hfz959_2⟩:=cz3 BK735))
      go_ret
      exact finA blA
    ·
     rw [if_neg c674] at H
     have c674b0:(t723 == 0)=false:=beq_eq_false_iff_ne.mpr c674
     have c674b1:(t723 != 0)=true:=bne_iff_ne.mpr c674
     obtain rfl:=Option.some.inj H
     try clear hnb147 hnb148 hnb149 hnb150 hnb151 hnb152 hnb153
     try clear hnb157 hnb158 hnb159 hnb160 hnb161 hnb162 hnb163 hnb164 hnb166 hnb167 hnb168 hnb169 hnb170 hnb171
     try clear hnb175 hnb176 hnb177 hnb178 hnb179 hnb180 hnb181 hnb182 hnb183
     have hnb960:=LT642_643.out
     have hnb961:=LT643_648.out
     have hnb962:=LT643_653.out
     have hnb963:=LT643_660.out
     have hnb964:=LT643_661.out
     have hnb965:=LT643_665.out
     have hnb966:=LT643_669.out
     have hnb967:=LT643_685.out
     have hnb968:=LT643_690.out
     obtain ⟨hcz969_0,hcz969_1,hcz969_2,hfz969_0,hfz969_1,hfz969_2⟩:=cz3 BK643
     go_wp2_with (first|((with_reducible refine gd 152 rfl ?_);refine gC (some 152) rfl Try.func15 (impl_ParentOf.calls (w:=_) (h:=A237.out)) ?_;intro w970 hb;replace BK642:=kB BK642 hb;replace BK643:=kB BK643 hb;replace BK648:=kB BK648 hb;replace BK653:=kB BK653 hb;replace BK660:=kB BK660 hb;replace BK661:=kB BK661 hb;replace BK665:=kB BK665 hb;replace BK669:=kB BK669 hb;replace BK685:=kB BK685 hb;replace BK690:=kB BK690 hb;replace HB:=lB hb;clear hb)|((with_reducible refine gate_dst (N:=24) rfl ?_);refine bxE (cs:=#[.int .i64 0,.int .i64 0,.int .i64 0]) (t:=28) ?_;intro gb696 hg w971 hbox hb;have BK696:=Aside0.mk hbox;have GW696:=sA hg;have GE696:=sA hg;have NB642_696:=nA hg BK642;have NB696_642:=nB hg BK642;have LT642_696:=nL hg BK642;have NB643_696:=nA hg BK643;have NB696_643:=nB hg BK643;have LT643_696:=nL hg BK643;have NB648_696:=nA hg BK648;have NB696_648:=nB hg BK648;have LT648_696:=nL hg BK648;have NB653_696:=nA hg BK653;have NB696_653:=nB hg BK653;have LT653_696:=nL hg BK653;have NB660_696:=nA hg BK660;have NB696_660:=nB hg BK660;have LT660_696:=nL hg BK660;have NB661_696:=nA hg BK661;have NB696_661:=nB hg BK661;have LT661_696:=nL hg BK661;have NB665_696:=nA hg BK665;have NB696_665:=nB hg BK665;have LT665_696:=nL hg BK665;have NB669_696:=nA hg BK669;have NB696_669:=nB hg BK669;have LT669_696:=nL hg BK669;have NB685_696:=nA hg BK685;have NB696_685:=nB hg BK685;have LT685_696:=nL hg BK685;have NB690_696:=nA hg BK690;have NB696_690:=nB hg BK690;have LT690_696:=nL hg BK690;replace BK642:=kB BK642 hb;replace BK643:=kB BK643 hb;replace BK648:=kB BK648 hb;replace BK653:=kB BK653 hb;replace BK660:=kB BK660 hb;replace BK661:=kB BK661 hb;replace BK665:=kB BK665 hb;replace BK669:=kB BK669 hb;replace BK685:=kB BK685 hb;replace BK690:=kB BK690 hb;replace HB:=lB hb;clear hb hbox hg;have hnb972:=LT642_696.out;have hnb973:=LT643_696.out;have hnb974:=LT648_696.out;have hnb975:=LT653_696.out;have hnb976:=LT660_696.out;have hnb977:=LT661_696.out;have hnb978:=LT665_696.out;have hnb979:=LT669_696.out;have hnb980:=LT685_696.out;have hnb981:=LT690_696.out;obtain ⟨hcz982_0,hcz982_1,hcz982_2,hfz982_0,hfz982_1,hfz982_2⟩:=cz3 BK696;have hnb983:=LT642_660.out;have hnb984:=LT648_660.out;have hnb985:=LT653_660.out;have hnb986:=LT660_661.out;have hnb987:=LT660_665.out;have hnb988:=LT660_669.out;have hnb989:=LT660_685.out;have hnb990:=LT660_690.out;obtain ⟨hcz991_0,hcz991_1,hcz991_2,hcz991_3,hfz991_0,hfz991_1,hfz991_2,hfz991_3⟩:=cz4 BK660;have hnb992:=LT642_648.out;have hnb993:=LT648_653.out;have hnb994:=LT648_661.out;have hnb995:=LT648_665.out;have hnb996:=LT648_669.out;have hnb997:=LT648_685.out;have hnb998:=LT648_690.out;obtain ⟨hcz999_0,hcz999_1,hcz999_2,hfz999_0,hfz999_1,hfz999_2⟩:=cz3 BK648)|((with_reducible refine gd 185 rfl ?_);refine gC (some 185) rfl Try.func8 (impl_MoveBall.calls (w:=_) (h:=A671.out)) ?_;intro w1000 hb;have n0_:=Aside0.mk (blk_below (g:=gb642) (o:=.cells #[.int .i64 t635,.int .i64 t636,.int .i64 t637,.int .i64 t638] 26 (0,0)) (bkF BK642) hb);have n1_:=Aside0.mk (blk_below (g:=gb643) (o:=.cells #[.int .i64 t639,.int .i64 t640,.int .i64 t641] 28 (0,0)) (bkF BK643) hb);have n2_:=Aside0.mk (blk_below (g:=gb648) (o:=.cells #[.int .i64 t644,.int .i64 t645,.int .i64 t646] 28 (0,0)) (bkF BK648) hb);have n3_:=Aside0.mk (blk_below (g:=gb653) (o:=.cells #[.int .i64 t649,.int .i64 t650,.int .i64 t651] 28 (0,0)) (bkF BK653) hb);have n4_:=Aside0.mk (blk_below (g:=gb660) (o:=.cells #[.int .i64 t654,.int .i64 t655,.int .i64 t656,.int .i64 t657] 26 (0,0)) (bkF BK660) hb);have n5_:=Aside0.mk (blk_below (g:=gb661) (o:=.cells #[.int .i64 t658,.int .i64 t659] 34 (0,0)) (bkF BK661) hb);have n6_:=Aside0.mk (blk_below (g:=gb665) (o:=.cells #[.int .i64 t662,.int .i64 t663] 34 (0,0)) (bkF BK665) hb);have n7_:=Aside0.mk (blk_below (g:=gb669) (o:=.cells #[.int .i64 t666,.int .i64 t667] 34 (0,0)) (bkF BK669) hb);have n8_:=Aside0.mk (blk_below (g:=gb685) (o:=.cells #[.int .i64 t680,.int .i64 t681,.int .i64 t682,.int .i64 t683] 26 (0,0)) (bkF BK685) hb);have n9_:=Aside0.mk (blk_below (g:=gb690) (o:=.cells #[.int .i64 t686,.int .i64 t687,.int .i64 t688] 28 (0,0)) (bkF BK690) hb);have n10_:=Aside0.mk (blk_below (g:=gb696) (o:=.cells #[.int .i64 t692,.int .i64 t693,.int .i64 t694] 28 (0,0)) (bpA BK696) hb);have n11_:=lB hb;clear BK642;clear BK643;clear BK648;clear BK653;clear BK660;clear BK661;clear BK665;clear BK669;clear BK685;clear BK690;clear BK696;clear HB;have BK642:=n0_;have BK643:=n1_;have BK648:=n2_;have BK653:=n3_;have BK660:=n4_;have BK661:=n5_;have BK665:=n6_;have BK669:=n7_;have BK685:=n8_;have BK690:=n9_;have BK696:=n10_;have HB:=n11_;clear n0_ n1_ n2_ n3_ n4_ n5_ n6_ n7_ n8_ n9_ n10_ n11_;clear hb)|((with_reducible refine gate_dst (N:=30) rfl ?_);refine bxE (cs:=#[.int .i64 0,.int .i64 0,.int .i64 0]) (t:=28) ?_;intro gb724 hg w1001 hbox hb;have BK724:=Aside0.mk hbox;have GW724:=sA hg;have GE724:=sA hg;have NB642_724:=nA hg BK642;have NB724_642:=nB hg BK642;have LT642_724:=nL hg BK642;have NB643_724:=nA hg BK643;have NB724_643:=nB hg BK643;have LT643_724:=nL hg BK643;have NB648_724:=nA hg BK648;have NB724_648:=nB hg BK648;have LT648_724:=nL hg BK648;have NB653_724:=nA hg BK653;have NB724_653:=nB hg BK653;have LT653_724:=nL hg BK653;have NB660_724:=nA hg BK660;have NB724_660:=nB hg BK660;have LT660_724:=nL hg BK660;have NB661_724:=nA hg BK661;have NB724_661:=nB hg BK661;have LT661_724:=nL hg BK661;have NB665_724:=nA hg BK665;have NB724_665:=nB hg BK665;have LT665_724:=nL hg BK665;have NB669_724:=nA hg BK669;have NB724_669:=nB hg BK669;have LT669_724:=nL hg BK669;have NB685_724:=nA hg BK685;have NB724_685:=nB hg BK685;have LT685_724:=nL hg BK685;have NB690_724:=nA hg BK690;have NB724_690:=nB hg BK690;have LT690_724:=nL hg BK690;have NB696_724:=nA hg BK696;have NB724_696:=nB hg BK696;have LT696_724:=nL hg BK696;replace BK642:=kB BK642 hb;replace BK643:=kB BK643 hb;replace BK648:=kB BK648 hb;replace BK653:=kB BK653 hb;replace BK660:=kB BK660 hb;replace BK661:=kB BK661 hb;replace BK665:=kB BK665 hb;replace BK669:=kB BK669 hb;replace BK685:=kB BK685 hb;replace BK690:=kB BK690 hb;replace BK696:=kB BK696 hb;replace HB:=lB hb;clear hb hbox hg;have hnb1002:=LT642_724.out;have hnb1003:=LT643_724.out;have hnb1004:=LT648_724.out;have hnb1005:=LT653_724.out;have hnb1006:=LT660_724.out;have hnb1007:=LT661_724.out;have hnb1008:=LT665_724.out;have hnb1009:=LT669_724.out;have hnb1010:=LT685_724.out;have hnb1011:=LT690_724.out;have hnb1012:=LT696_724.out;obtain ⟨hcz1013_0,hcz1013_1,hcz1013_2,hfz1013_0,hfz1013_1,hfz1013_2⟩:=cz3 BK724;obtain ⟨hcz1014_0,hcz1014_1,hcz1014_2,hcz1014_3,hfz1014_0,hfz1014_1,hfz1014_2,hfz1014_3⟩:=cz4 BK660;have hnb1015:=LT642_653.out;have hnb1016:=LT642_661.out;have hnb1017:=LT642_665.out;have hnb1018:=LT642_669.out;have hnb1019:=LT642_685.out;have hnb1020:=LT642_690.out;obtain ⟨hcz1021_0,hcz1021_1,hcz1021_2,hcz1021_3,hfz1021_0,hfz1021_1,hfz1021_2,hfz1021_3⟩:=cz4 BK642)|((with_reducible refine gd 191 rfl ?_);refine gC (some 191) rfl Try.func17 (impl_MultiplyMatrices.calls (w:=_) (h:=A672.out)) ?_;intro w1022 hb;have n0_:=Aside0.mk (blk_below (g:=gb642) (o:=.cells #[.int .i64 t635,.int .i64 t636,.int .i64 t637,.int .i64 t638] 26 (0,0)) (bkF BK642) hb);have n1_:=Aside0.mk (blk_below (g:=gb643) (o:=.cells #[.int .i64 t639,.int .i64 t640,.int .i64 t641] 28 (0,0)) (bkF BK643) hb);have n2_:=Aside0.mk (blk_below (g:=gb648) (o:=.cells #[.int .i64 t644,.int .i64 t645,.int .i64 t646] 28 (0,0)) (bkF BK648) hb);have n3_:=Aside0.mk (blk_below (g:=gb653) (o:=.cells #[.int .i64 t649,.int .i64 t650,.int .i64 t651] 28 (0,0)) (bkF BK653) hb);have n4_:=Aside0.mk (blk_below (g:=gb660) (o:=.cells #[.int .i64 t654,.int .i64 t655,.int .i64 t656,.int .i64 t657] 26 (0,0)) (bkF BK660) hb);have n5_:=Aside0.mk (blk_below (g:=gb661) (o:=.cells #[.int .i64 t658,.int .i64 t659] 34 (0,0)) (bkF BK661) hb);have n6_:=Aside0.mk (blk_below (g:=gb665) (o:=.cells #[.int .i64 t662,.int .i64 t663] 34 (0,0)) (bkF BK665) hb);have n7_:=Aside0.mk (blk_below (g:=gb669) (o:=.cells #[.int .i64 t666,.int .i64 t667] 34 (0,0)) (bkF BK669) hb);have n8_:=Aside0.mk (blk_below (g:=gb685) (o:=.cells #[.int .i64 t680,.int .i64 t681,.int .i64 t682,.int .i64 t683] 26 (0,0)) (bkF BK685) hb);have n9_:=Aside0.mk (blk_below (g:=gb690) (o:=.cells #[.int .i64 t686,.int .i64 t687,.int .i64 t688] 28 (0,0)) (bkF BK690) hb);have n10_:=Aside0.mk (blk_below (g:=gb696) (o:=.cells #[.int .i64 t692,.int .i64 t693,.int .i64 t694] 28 (0,0)) (bkF BK696) hb);have n11_:=Aside0.mk (blk_below (g:=gb724) (o:=.cells #[.int .i64 t720,.int .i64 t721,.int .i64 t722] 28 (0,0)) (bpA BK724) hb);have n12_:=lB hb;clear BK642;clear BK643;clear BK648;clear BK653;clear BK660;clear BK661;clear BK665;clear BK669;clear BK685;clear BK690;clear BK696;clear BK724;clear HB;have BK642:=n0_;have BK643:=n1_;have BK648:=n2_;have BK653:=n3_;have BK660:=n4_;have BK661:=n5_;have BK665:=n6_;have BK669:=n7_;have BK685:=n8_;have BK690:=n9_;have BK696:=n10_;have BK724:=n11_;have HB:=n12_;clear n0_ n1_ n2_ n3_ n4_ n5_ n6_ n7_ n8_ n9_ n10_ n11_ n12_;clear hb)|((with_reducible refine gate_dst (N:=32) rfl ?_);refine bxE (cs:=#[.int .i64 0,.int .i64 0,.int .i64 0,.int .i64 0]) (t:=26) ?_;intro gb730 hg w1023 hbox hb;have BK730:=Aside0.mk hbox;have GW730:=sA hg;have GE730:=sA hg;have NB642_730:=nA hg BK642;have NB730_642:=nB hg BK642;have LT642_730:=nL hg BK642;have NB643_730:=nA hg BK643;have NB730_643:=nB hg BK643;have LT643_730:=nL hg BK643;have NB648_730:=nA hg BK648;have NB730_648:=nB hg BK648;have LT648_730:=nL hg BK648;have NB653_730:=nA hg BK653;have NB730_653:=nB hg BK653;have LT653_730:=nL hg BK653;have NB660_730:=nA hg BK660;have NB730_660:=nB hg BK660;have LT660_730:=nL hg BK660;have NB661_730:=nA hg BK661;have NB730_661:=nB hg BK661;have LT661_730:=nL hg BK661;have NB665_730:=nA hg BK665;have NB730_665:=nB hg BK665;have LT665_730:=nL hg BK665;have NB669_730:=nA hg BK669;have NB730_669:=nB hg BK669;have LT669_730:=nL hg BK669;have NB685_730:=nA hg BK685;have NB730_685:=nB hg BK685;have LT685_730:=nL hg BK685;have NB690_730:=nA hg BK690;have NB730_690:=nB hg BK690;have LT690_730:=nL hg BK690;have NB696_730:=nA hg BK696;have NB730_696:=nB hg BK696;have LT696_730:=nL hg BK696;have NB724_730:=nA hg BK724;have NB730_724:=nB hg BK724;have LT724_730:=nL hg BK724;replace BK642:=kB BK642 hb;replace BK643:=kB BK643 hb;replace BK648:=kB BK648 hb;replace BK653:=kB BK653 hb;replace BK660:=kB BK660 hb;replace BK661:=kB BK661 hb;replace BK665:=kB BK665 hb;replace BK669:=kB BK669 hb;replace BK685:=kB BK685 hb;replace BK690:=kB BK690 hb;replace BK696:=kB BK696 hb;replace BK724:=kB BK724 hb;replace HB:=lB hb;clear hb hbox hg;have hnb1024:=LT642_730.out;have hnb1025:=LT643_730.out;have hnb1026:=LT648_730.out;have hnb1027:=LT653_730.out;have hnb1028:=LT660_730.out;have hnb1029:=LT661_730.out;have hnb1030:=LT665_730.out;have hnb1031:=LT669_730.out;have hnb1032:=LT685_730.out;have hnb1033:=LT690_730.out;have hnb1034:=LT696_730.out;have hnb1035:=LT724_730.out;obtain ⟨hcz1036_0,hcz1036_1,hcz1036_2,hcz1036_3,hfz1036_0,hfz1036_1,hfz1036_2,hfz1036_3⟩:=cz4 BK730;obtain ⟨hcz1037_0,hcz1037_1,hcz1037_2,hfz1037_0,hfz1037_1,hfz1037_2⟩:=cz3 BK643)|((with_reducible refine gd 198 rfl ?_);refine gC (some 198) rfl Try.func8 (impl_MoveBall.calls (w:=_) (h:=A673.out)) ?_;intro w1038 hb;have n0_:=Aside0.mk (blk_below (g:=gb642) (o:=.cells #[.int .i64 t635,.int .i64 t636,.int .i64 t637,.int .i64 t638] 26 (0,0)) (bkF BK642) hb);have n1_:=Aside0.mk (blk_below (g:=gb643) (o:=.cells #[.int .i64 t639,.int .i64 t640,.int .i64 t641] 28 (0,0)) (bkF BK643) hb);have n2_:=Aside0.mk (blk_below (g:=gb648) (o:=.cells #[.int .i64 t644,.int .i64 t645,.int .i64 t646] 28 (0,0)) (bkF BK648) hb);have n3_:=Aside0.mk (blk_below (g:=gb653) (o:=.cells #[.int .i64 t649,.int .i64 t650,.int .i64 t651] 28 (0,0)) (bkF BK653) hb);have n4_:=Aside0.mk (blk_below (g:=gb660) (o:=.cells #[.int .i64 t654,.int .i64 t655,.int .i64 t656,.int .i64 t657] 26 (0,0)) (bkF BK660) hb);have n5_:=Aside0.mk (blk_below (g:=gb661) (o:=.cells #[.int .i64 t658,.int .i64 t659] 34 (0,0)) (bkF BK661) hb);have n6_:=Aside0.mk (blk_below (g:=gb665) (o:=.cells #[.int .i64 t662,.int .i64 t663] 34 (0,0)) (bkF BK665) hb);have n7_:=Aside0.mk (blk_below (g:=gb669) (o:=.cells #[.int .i64 t666,.int .i64 t667] 34 (0,0)) (bkF BK669) hb);have n8_:=Aside0.mk (blk_below (g:=gb685) (o:=.cells #[.int .i64 t680,.int .i64 t681,.int .i64 t682,.int .i64 t683] 26 (0,0)) (bkF BK685) hb);have n9_:=Aside0.mk (blk_below (g:=gb690) (o:=.cells #[.int .i64 t686,.int .i64 t687,.int .i64 t688] 28 (0,0)) (bkF BK690) hb);have n10_:=Aside0.mk (blk_below (g:=gb696) (o:=.cells #[.int .i64 t692,.int .i64 t693,.int .i64 t694] 28 (0,0)) (bkF BK696) hb);have n11_:=Aside0.mk (blk_below (g:=gb724) (o:=.cells #[.int .i64 t720,.int .i64 t721,.int .i64 t722] 28 (0,0)) (bkF BK724) hb);have n12_:=Aside0.mk (blk_below (g:=gb730) (o:=.cells #[.int .i64 t725,.int .i64 t726,.int .i64 t727,.int .i64 t728] 26 (0,0)) (bpA BK730) hb);have n13_:=lB hb;clear BK642;clear BK643;clear BK648;clear BK653;clear BK660;clear BK661;clear BK665;clear BK669;clear BK685;clear BK690;clear BK696;clear BK724;clear BK730;clear HB;have BK642:=n0_;have BK643:=n1_;have BK648:=n2_;have BK653:=n3_;have BK660:=n4_;have BK661:=n5_;have BK665:=n6_;have BK669:=n7_;have BK685:=n8_;have BK690:=n9_;have BK696:=n10_;have BK724:=n11_;have BK730:=n12_;have HB:=n13_;clear n0_ n1_ n2_ n3_ n4_ n5_ n6_ n7_ n8_ n9_ n10_ n11_ n12_ n13_;clear hb)|((with_reducible refine gate_dst (N:=34) rfl ?_);refine bxE (cs:=#[.int .i64 0,.int .i64 0,.int .i64 0]) (t:=28) ?_;intro gb735 hg w1039 hbox hb;have BK735:=Aside0.mk hbox;have GW735:=sA hg;have GE735:=sA hg;have NB642_735:=nA hg BK642;have NB735_642:=nB hg BK642;have LT642_735:=nL hg BK642;have NB643_735:=nA hg BK643;have NB735_643:=nB hg BK643;have LT643_735:=nL hg BK643;have NB648_735:=nA hg BK648;have NB735_648:=nB hg BK648;have LT648_735:=nL hg BK648;have NB653_735:=nA hg BK653;have NB735_653:=nB hg BK653;have LT653_735:=nL hg BK653;have NB660_735:=nA hg BK660;have NB735_660:=nB hg BK660;have LT660_735:=nL hg BK660;have NB661_735:=nA hg BK661;have NB735_661:=nB hg BK661;have LT661_735:=nL hg BK661;have NB665_735:=nA hg BK665;have NB735_665:=nB hg BK665;have LT665_735:=nL hg BK665;have NB669_735:=nA hg BK669;have NB735_669:=nB hg BK669;have LT669_735:=nL hg BK669;have NB685_735:=nA hg BK685;have NB735_685:=nB hg BK685;have LT685_735:=nL hg BK685;have NB690_735:=nA hg BK690;have NB735_690:=nB hg BK690;have LT690_735:=nL hg BK690;have NB696_735:=nA hg BK696;have NB735_696:=nB hg BK696;have LT696_735:=nL hg BK696;have NB724_735:=nA hg BK724;have NB735_724:=nB hg BK724;have LT724_735:=nL hg BK724;have NB730_735:=nA hg BK730;have NB735_730:=nB hg BK730;have LT730_735:=nL hg BK730;replace BK642:=kB BK642 hb;replace BK643:=kB BK643 hb;replace BK648:=kB BK648 hb;replace BK653:=kB BK653 hb;replace BK660:=kB BK660 hb;replace BK661:=kB BK661 hb;replace BK665:=kB BK665 hb;replace BK669:=kB BK669 hb;replace BK685:=kB BK685 hb;replace BK690:=kB BK690 hb;replace BK696:=kB BK696 hb;replace BK724:=kB BK724 hb;replace BK730:=kB BK730 hb;replace HB:=lB hb;clear hb hbox hg;have hnb1040:=LT642_735.out;have hnb1041:=LT643_735.out;have hnb1042:=LT648_735.out;have hnb1043:=LT653_735.out;have hnb1044:=LT660_735.out;have hnb1045:=LT661_735.out;have hnb1046:=LT665_735.out;have hnb1047:=LT669_735.out;have hnb1048:=LT685_735.out;have hnb1049:=LT690_735.out;have hnb1050:=LT696_735.out;have hnb1051:=LT724_735.out;have hnb1052:=LT730_735.out;obtain ⟨hcz1053_0,hcz1053_1,hcz1053_2,hfz1053_0,hfz1053_1,hfz1053_2⟩:=cz3 BK735))
     go_ret
     exact finA blA
set_option maxHeartbeats 8000000 in
set_option maxRecDepth 100000 in
theorem laws_FnMoves.cut5:laws_FnMoves.cut4.1:=by
 conv=>whnf
 intro k A0 c0 l0 r w hu26 hu28 hu34 HR0 HC0 A2 t634 t635 t636 t637 t638 t639 t640 t641 A4 t644 t645 t646 t647 A5 t649 t650 t651 t652 A6 _ gb642 GW642 GE642 gb643 GW643 GE643 NB642_643 NB643_642 LT642_643 gb648 GW648 GE648 NB642_648 NB648_642 LT642_648 NB643_648 NB648_643 LT643_648 gb653 GW653 GE653 NB642_653 NB653_642 LT642_653 NB643_653 NB653_643 LT643_653 NB648_653 NB653_648 LT648_653 kj6 HJ6 t654 t655 t656 t657 t658 t659 A36 t662 t663 t664 A37 t666 t667 t668 A38 gb660 GW660 GE660 NB642_660 NB660_642 LT642_660 NB643_660 NB660_643 LT643_660 NB648_660 NB660_648 LT648_660 NB653_660 NB660_653 LT653_660 gb661 GW661 GE661 NB642_661 NB661_642 LT642_661 NB643_661 NB661_643 LT643_661 NB648_661 NB661_648 LT648_661 NB653_661 NB661_653 LT653_661 NB660_661 NB661_660 LT660_661 gb665 GW665 GE665 NB642_665 NB665_642 LT642_665 NB643_665 NB665_643 LT643_665 NB648_665 NB665_648 LT648_665 NB653_665 NB665_653 LT653_665 NB660_665 NB665_660 LT660_665 NB661_665 NB665_661 LT661_665 gb669 GW669 GE669 NB642_669 NB669_642 LT642_669 NB643_669 NB669_643 LT643_669 NB648_669 NB669_648 LT648_669 NB653_669 NB669_653 LT653_669 NB660_669 NB669_660 LT660_669 NB661_669 NB669_661 LT661_669 NB665_669 NB669_665 LT665_669 kj38 HJ38 _ _ _ _ _ kj91 HJ91 t680 t681 t682 t683 t684 A144 t686 t687 t688 t689 A145 gb685 GW685 GE685 NB642_685 NB685_642 LT642_685 NB643_685 NB685_643 LT643_685 NB648_685 NB685_648 LT648_685 NB653_685 NB685_653 LT653_685 NB660_685 NB685_660 LT660_685 NB661_685 NB685_661 LT661_685 NB665_685 NB685_665 LT665_685 NB669_685 NB685_669 LT669_685 gb690 GW690 GE690 NB642_690 NB690_642 LT642_690 NB643_690 NB690_643 LT643_690 NB648_690 NB690_648 LT648_690 NB653_690 NB690_653 LT653_690 NB660_690 NB690_660 LT660_690 NB661_690 NB690_661 LT661_690 NB665_690 NB690_665 LT665_690 NB669_690 NB690_669 LT669_690 NB685_690 NB690_685 LT685_690 kj145 HJ145 t692 t693 t694 t695 A237 t697 t698 t699 t700 A239 t702 t703 A240 hnb242 hnb243 hnb244 hnb245 hnb246 hnb247 hnb248 hnb249 hnb250 gb696 GW696 GE696 NB642_696 NB696_642 LT642_696 NB643_696 NB696_643 LT643_696 NB648_696 NB696_648 LT648_696 NB653_696 NB696_653 LT653_696 NB660_696 NB696_660 LT660_696 NB661_696 NB696_661 LT661_696 NB665_696 NB696_665 LT665_696 NB669_696 NB696_669 LT669_696 NB685_696 NB696_685 LT685_696 NB690_696 NB696_690 LT690_696 hnb254 hnb255 hnb256 hnb257 hnb258 hnb259 hnb260 hnb261 hnb262 hnb263 hnb265 hnb266 hnb267 hnb268 hnb269 hnb270 hnb271 hnb272 _ _ gb701 GW701 GE701 NB642_701 NB701_642 LT642_701 NB643_701 NB701_643 LT643_701 NB648_701 NB701_648 LT648_701 NB653_701 NB701_653 LT653_701 NB660_701 NB701_660 LT660_701 NB661_701 NB701_661 LT661_701 NB665_701 NB701_665 LT665_701 NB669_701 NB701_669 LT669_701 NB685_701 NB701_685 LT685_701 NB690_701 NB701_690 LT690_701 NB696_701 NB701_696 LT696_701 hnb276 hnb277 hnb278 hnb279 hnb280 hnb281 hnb282 hnb283 hnb284 hnb285 hnb286 hnb288 hnb289 hnb290 hnb291 hnb292 hnb293 hnb294 w296 BK642 BK643 BK648 BK653 BK660 BK661 BK665 BK669 BK685 BK690 BK696 BK701 HB _ _ wc _ _ _ _ _ _ _ _ _ _ _ _ _ _ _ _ _ _ _ _ _ _ _ _ _ _ _ _ _ _ _ _ _ _ _ _ _ _ _ _ _ _ _ _ _ _ _ _ _ _ _ _ _ _ _ _ _ _ _ _ _ _ _ _ _ _ _ _ _ _ _ _ _ _ _ _ _ _ _ _ _ _ _ _ _ _ _ _ _ _ _ _ _ _ _ _ _ _ _ _ _ _ _ _ _ _ _ _ _ _ _ _ _ _ _ _ _ _ _ _ _ _ _ _ _ _ _ _ _ _ _ _ _ _ _ _ _ _ _ _ _ _ _ _ _ _ _ _ _ _ _ _ _ _ _ _ _ _ _ _ _ _ _ _ _ _ _ _ _ _ _ _ _ _ _ _ _ _ _ _ hcut
 obtain ⟨kq,x180_240,rfl,HA,HJ240,BK642,BK643,BK648,BK653,BK660,BK661,BK665,BK669,BK685,BK690,BK696,BK701,HB⟩:=hcut
 cases kq with
 | zero=>exact absurd HA.out (by simp [laws_FnMoves.j4])
 | succ kj240=>
  have H:=HA.out
  clear HA
  simp only [laws_FnMoves.j4] at H
  by_cases c299:x180_240=true
  ·
   subst c299
   rw [if_pos rfl] at H
   try dsimp only at H
   exact absurd H (by simp)
  replace c299:=Bool.eq_false_iff.mpr c299
  subst c299
  rw [if_neg (show ¬ (false=true) by decide)] at H
  try dsimp only at H
  replace H:=bS H
  obtain ⟨⟨t704,t705,t706,t707⟩,A300,H⟩:=H
  try dsimp only at H
  replace H:=bS H
  obtain ⟨⟨t709,t710,t711,t712,t713⟩,A301,H⟩:=H
  try dsimp only at H
  replace H:=bS H
  obtain ⟨⟨t715,t716,t717,t718⟩,A302,H⟩:=H
  try dsimp only at H
  by_cases c303:t707=0
  ·
   rw [if_pos c303] at H
   have c303b0:(t707 == 0)=true:=beq_iff_eq.mpr c303
   have c303b1:(t707 != 0)=false:=bne_eq_false_iff_eq.mpr c303
   clear c303
   by_cases c304:t713=0
   ·
    rw [if_pos c304] at H
    have c304b0:(t713 == 0)=true:=beq_iff_eq.mpr c304
    have c304b1:(t713 != 0)=false:=bne_eq_false_iff_eq.mpr c304
    clear c304
    by_cases c305:t718=0
    focus
     rw [if_pos c305] at H
     have c305b0:(t718 == 0)=true:=beq_iff_eq.mpr c305
     have c305b1:(t718 != 0)=false:=bne_eq_false_iff_eq.mpr c305
     clear c305
     obtain rfl:=Option.some.inj H
     try clear hnb242 hnb243 hnb244 hnb245 hnb246 hnb247 hnb248 hnb249 hnb250
     try clear hnb254 hnb255 hnb256 hnb257 hnb258 hnb259 hnb260 hnb261 hnb262 hnb263 hnb265 hnb266 hnb267 hnb268 hnb269 hnb270 hnb271 hnb272
     try clear hnb276 hnb277 hnb278 hnb279 hnb280 hnb281 hnb282 hnb283 hnb284 hnb285 hnb286 hnb288 hnb289 hnb290 hnb291 hnb292 hnb293 hnb294
     have hnb306:=LT642_660.out
     have hnb307:=LT643_660.out
     have hnb308:=LT648_660.out
     have hnb309:=LT653_660.out
     have hnb310:=LT660_661.out
     have hnb311:=LT660_665.out
     have hnb312:=LT660_669.out
     have hnb313:=LT660_685.out
     have hnb314:=LT660_690.out
     have hnb315:=LT660_696.out
     have hnb316:=LT660_701.out
     obtain ⟨hcz317_0,hcz317_1,hcz317_2,hcz317_3,hfz317_0,hfz317_1,hfz317_2,hfz317_3⟩:=cz4 BK660
     have hnb318:=LT642_648.out
     have hnb319:=LT643_648.out
     have hnb320:=LT648_653.out
     have hnb321:=LT648_661.out
     have hnb322:=LT648_665.out
     have hnb323:=LT648_669.out
     have hnb324:=LT648_685.out
     have hnb325:=LT648_690.out
     have hnb326:=LT648_696.out
     have hnb327:=LT648_701.out
     obtain ⟨hcz328_0,hcz328_1,hcz328_2,hfz328_0,hfz328_1,hfz328_2⟩:=cz3 BK648
    rotate_left
    focus
     rw [if_neg c305] at H
     have c305b0:(t718 == 0)=false:=beq_eq_false_iff_ne.mpr c305
     have c305b1:(t718 != 0)=true:=bne_iff_ne.mpr c305
     obtain rfl:=Option.some.inj H
     try clear hnb242 hnb243 hnb244 hnb245 hnb246 hnb247 hnb248 hnb249 hnb250
     try clear hnb254 hnb255 hnb256 hnb257 hnb258 hnb259 hnb260 hnb261 hnb262 hnb263 hnb265 hnb266 hnb267 hnb268 hnb269 hnb270 hnb271 hnb272
     try clear hnb276 hnb277 hnb278 hnb279 hnb280 hnb281 hnb282 hnb283 hnb284 hnb285 hnb286 hnb288 hnb289 hnb290 hnb291 hnb292 hnb293 hnb294
     have hnb398:=LT642_660.out
     have hnb399:=LT643_660.out
     have hnb400:=LT648_660.out
     have hnb401:=LT653_660.out
     have hnb402:=LT660_661.out
     have hnb403:=LT660_665.out
     have hnb404:=LT660_669.out
     have hnb405:=LT660_685.out
     have hnb406:=LT660_690.out
     have hnb407:=LT660_696.out
     have hnb408:=LT660_701.out
     obtain ⟨hcz409_0,hcz409_1,hcz409_2,hcz409_3,hfz409_0,hfz409_1,hfz409_2,hfz409_3⟩:=cz4 BK660
     have hnb410:=LT642_648.out
     have hnb411:=LT643_648.out
     have hnb412:=LT648_653.out
     have hnb413:=LT648_661.out
     have hnb414:=LT648_665.out
     have hnb415:=LT648_669.out
     have hnb416:=LT648_685.out
     have hnb417:=LT648_690.out
     have hnb418:=LT648_696.out
     have hnb419:=LT648_701.out
     obtain ⟨hcz420_0,hcz420_1,hcz420_2,hfz420_0,hfz420_1,hfz420_2⟩:=cz3 BK648
    rotate_left
    all_goals
     go_wp2_with (first|((with_reducible refine gd 185 rfl ?_);refine gC (some 185) rfl Try.func8 (impl_MoveBall.calls (w:=_) (h:=A300.out)) ?_;intro w329 hb;replace BK642:=kB BK642 hb;replace BK643:=kB BK643 hb;replace BK648:=kB BK648 hb;replace BK653:=kB BK653 hb;replace BK660:=kB BK660 hb;replace BK661:=kB BK661 hb;replace BK665:=kB BK665 hb;replace BK669:=kB BK669 hb;replace BK685:=kB BK685 hb;replace BK690:=kB BK690 hb;replace BK696:=kB BK696 hb;replace BK701:=kB BK701 hb;replace HB:=lB hb;clear hb)|((with_reducible refine gate_dst (N:=30) rfl ?_);refine bxE (cs:=#[.int .i64 0,.int .i64 0,.int .i64 0]) (t:=28) ?_;intro gb708 hg w330 hbox hb;have BK708:=Aside0.mk hbox;have GW708:=sA hg;have GE708:=sA hg;have NB642_708:=nA hg BK642;have NB708_642:=nB hg BK642;have LT642_708:=nL hg BK642;have NB643_708:=nA hg BK643;have NB708_643:=nB hg BK643;have LT643_708:=nL hg BK643;have NB648_708:=nA hg BK648;have NB708_648:=nB hg BK648;have LT648_708:=nL hg BK648;have NB653_708:=nA hg BK653;have NB708_653:=nB hg BK653;have LT653_708:=nL hg BK653;have NB660_708:=nA hg BK660;have NB708_660:=nB hg BK660;have LT660_708:=nL hg BK660;have NB661_708:=nA hg BK661;have NB708_661:=nB hg BK661;have LT661_708:=nL hg BK661;have NB665_708:=nA hg BK665;have NB708_665:=nB hg BK665;have LT665_708:=nL hg BK665;have NB669_708:=nA hg BK669;have NB708_669:=nB hg BK669;have LT669_708:=nL hg BK669;have NB685_708:=nA hg BK685;have NB708_685:=nB hg BK685;have LT685_708:=nL hg BK685;have NB690_708:=nA hg BK690;have NB708_690:=nB hg BK690;have LT690_708:=nL hg BK690;have NB696_708:=nA hg BK696;have NB708_696:=nB hg BK696;have LT696_708:=nL hg BK696;have NB701_708:=nA hg BK701;have NB708_701:=nB hg BK701;have LT701_708:=nL hg BK701;replace BK642:=kB BK642 hb;replace BK643:=kB BK643 hb;replace BK648:=kB BK648 hb;replace BK653:=kB BK653 hb;replace BK660:=kB BK660 hb;replace BK661:=kB BK661 hb;replace BK665:=kB BK665 hb;replace BK669:=kB BK669 hb;replace BK685:=kB BK685 hb;replace BK690:=kB BK690 hb;replace BK696:=kB BK696 hb;replace BK701:=kB BK701 hb;replace HB:=lB hb;clear hb hbox hg;have hnb331:=LT642_708.out;have hnb332:=LT643_708.out;have hnb333:=LT648_708.out;have hnb334:=LT653_708.out;have hnb335:=LT660_708.out;have hnb336:=LT661_708.out;have hnb337:=LT665_708.out;have hnb338:=LT669_708.out;have hnb339:=LT685_708.out;have hnb340:=LT690_708.out;have hnb341:=LT696_708.out;have hnb342:=LT701_708.out;obtain ⟨hcz343_0,hcz343_1,hcz343_2,hfz343_0,hfz343_1,hfz343_2⟩:=cz3 BK708;obtain ⟨hcz344_0,hcz344_1,hcz344_2,hcz344_3,hfz344_0,hfz344_1,hfz344_2,hfz344_3⟩:=cz4 BK660;have hnb345:=LT642_643.out;have hnb346:=LT642_653.out;have hnb347:=LT642_661.out;have hnb348:=LT642_665.out;have hnb349:=LT642_669.out;have hnb350:=LT642_685.out;have hnb351:=LT642_690.out;have hnb352:=LT642_696.out;have hnb353:=LT642_701.out;obtain ⟨hcz354_0,hcz354_1,hcz354_2,hcz354_3,hfz354_0,hfz354_1,hfz354_2,hfz354_3⟩:=cz4 BK642)|((with_reducible refine gd 191 rfl ?_);refine gC (some 191) rfl Try.func17 (impl_MultiplyMatrices.calls (w:=_) (h:=A301.out)) ?_;intro w355 hb;have n0_:=Aside0.mk (blk_below (g:=gb642) (o:=.cells #[.int .i64 t635,.int .i64 t636,.int .i64 t637,.int .i64 t638] 26 (0,0)) (bkF BK642) hb);have n1_:=Aside0.mk (blk_below (g:=gb643) (o:=.cells #[.int .i64 t639,.int .i64 t640,.int .i64 t641] 28 (0,0)) (bkF BK643) hb);have n2_:=Aside0.mk (blk_below (g:=gb648) (o:=.cells #[.int .i64 t644,.int .i64 t645,.int .i64 t646] 28 (0,0)) (bkF BK648) hb);have n3_:=Aside0.mk (blk_below (g:=gb653) (o:=.cells #[.int .i64 t649,.int .i64 t650,.int .i64 t651] 28 (0,0)) (bkF BK653) hb);have n4_:=Aside0.mk (blk_below (g:=gb660) (o:=.cells #[.int .i64 t654,.int .i64 t655,.int .i64 t656,.int .i64 t657] 26 (0,0)) (bkF BK660) hb);have n5_:=Aside0.mk (blk_below (g:=gb661) (o:=.cells #[.int .i64 t658,.int .i64 t659] 34 (0,0)) (bkF BK661) hb);have n6_:=Aside0.mk (blk_below (g:=gb665) (o:=.cells #[.int .i64 t662,.int .i64 t663] 34 (0,0)) (bkF BK665) hb);have n7_:=Aside0.mk (blk_below (g:=gb669) (o:=.cells #[.int .i64 t666,.int .i64 t667] 34 (0,0)) (bkF BK669) hb);have n8_:=Aside0.mk (blk_below (g:=gb685) (o:=.cells #[.int .i64 t680,.int .i64 t681,.int .i64 t682,.int .i64 t683] 26 (0,0)) (bkF BK685) hb);have n9_:=Aside0.mk (blk_below (g:=gb690) (o:=.cells #[.int .i64 t686,.int .i64 t687,.int .i64 t688] 28 (0,0)) (bkF BK690) hb);have n10_:=Aside0.mk (blk_below (g:=gb696) (o:=.cells #[.int .i64 t692,.int .i64 t693,.int .i64 t694] 28 (0,0)) (bkF BK696) hb);have n11_:=Aside0.mk (blk_below (g:=gb701) (o:=.cells #[.int .i64 t697,.int .i64 t698,.int .i64 t699] 28 (0,0)) (bkF BK701) hb);have n12_:=Aside0.mk (blk_below (g:=gb708) (o:=.cells #[.int .i64 t704,.int .i64 t705,.int .i64 t706] 28 (0,0)) (bpA BK708) hb);have n13_:=lB hb;clear BK642;clear BK643;clear BK648;clear BK653;clear BK660;clear BK661;clear BK665;clear BK669;clear BK685;clear BK690;clear BK696;clear BK701;clear BK708;clear HB;have BK642:=n0_;have BK643:=n1_;have BK648:=n2_;have BK653:=n3_;have BK660:=n4_;have BK661:=n5_;have BK665:=n6_;have BK669:=n7_;have BK685:=n8_;have BK690:=n9_;have BK696:=n10_;have BK701:=n11_;have BK708:=n12_;have HB:=n13_;clear n0_ n1_ n2_ n3_ n4_ n5_ n6_ n7_ n8_ n9_ n10_ n11_ n12_ n13_;clear hb)|((with_reducible refine gate_dst (N:=32) rfl ?_);refine bxE (cs:=#[.int .i64 0,.int .i64 0,.int .i64 0,.int .i64 0]) (t:=26) ?_;intro gb714 hg w356 hbox hb;have BK714:=Aside0.mk hbox;have GW714:=sA hg;have GE714:=sA hg;have NB642_714:=nA hg BK642;have NB714_642:=nB hg BK642;have LT642_714:=nL hg BK642;have NB643_714:=nA hg BK643;have NB714_643:=nB hg BK643;have LT643_714:=nL hg BK643;have NB648_714:=nA hg BK648;have NB714_648:=nB hg BK648;have LT648_714:=nL hg BK648;have NB653_714:=nA hg BK653;have NB714_653:=nB hg BK653;have LT653_714:=nL hg BK653;have NB660_714:=nA hg BK660;have NB714_660:=nB hg BK660;have LT660_714:=nL hg BK660;have NB661_714:=nA hg BK661;have NB714_661:=nB hg BK661;have LT661_714:=nL hg BK661;have NB665_714:=nA hg BK665;have NB714_665:=nB hg BK665;have LT665_714:=nL hg BK665;have NB669_714:=nA hg BK669;have NB714_669:=nB hg BK669;have LT669_714:=nL hg BK669;have NB685_714:=nA hg BK685;have NB714_685:=nB hg BK685;have LT685_714:=nL hg BK685;have NB690_714:=nA hg BK690;have NB714_690:=nB hg BK690;have LT690_714:=nL hg BK690;have NB696_714:=nA hg BK696;have NB714_696:=nB hg BK696;have LT696_714:=nL hg BK696;have NB701_714:=nA hg BK701;have NB714_701:=nB hg BK701;have LT701_714:=nL hg BK701;have NB708_714:=nA hg BK708;have NB714_708:=nB hg BK708;have LT708_714:=nL hg BK708;replace BK642:=kB BK642 hb;replace BK643:=kB BK643 hb;replace BK648:=kB BK648 hb;replace BK653:=kB BK653 hb;replace BK660:=kB BK660 hb;replace BK661:=kB BK661 hb;replace BK665:=kB BK665 hb;replace BK669:=kB BK669 hb;replace BK685:=kB BK685 hb;replace BK690:=kB BK690 hb;replace BK696:=kB BK696 hb;replace BK701:=kB BK701 hb;replace BK708:=kB BK708 hb;replace HB:=lB hb;clear hb hbox hg;have hnb357:=LT642_714.out;have hnb358:=LT643_714.out;have hnb359:=LT648_714.out;have hnb360:=LT653_714.out;have hnb361:=LT660_714.out;have hnb362:=LT661_714.out;have hnb363:=LT665_714.out;have hnb364:=LT669_714.out;have hnb365:=LT685_714.out;have hnb366:=LT690_714.out;have hnb367:=LT696_714.out;have hnb368:=LT701_714.out;have hnb369:=LT708_714.out;obtain ⟨hcz370_0,hcz370_1,hcz370_2,hcz370_3,hfz370_0,hfz370_1,hfz370_2,hfz370_3⟩:=cz4 BK714;have hnb371:=LT643_653.out;have hnb372:=LT643_661.out;have hnb373:=LT643_665.out;have hnb374:=LT643_669.out;have hnb375:=LT643_685.out;have hnb376:=LT643_690.out;have hnb377:=LT643_696.out;have hnb378:=LT643_701.out;obtain ⟨hcz379_0,hcz379_1,hcz379_2,hfz379_0,hfz379_1,hfz379_2⟩:=cz3 BK643)|((with_reducible refine gd 198 rfl ?_);refine gC (some 198) rfl Try.func8 (impl_MoveBall.calls (w:=_) (h:=A302.out)) ?_;intro w380 hb;have n0_:=Aside0.mk (blk_below (g:=gb642) (o:=.cells #[.int .i64 t635,.int .i64 t636,.int .i64 t637,.int .i64 t638] 26 (0,0)) (bkF BK642) hb);have n1_:=Aside0.mk (blk_below (g:=gb643) (o:=.cells #[.int .i64 t639,.int .i64 t640,.int .i64 t641] 28 (0,0)) (bkF BK643) hb);have n2_:=Aside0.mk (blk_below (g:=gb648) (o:=.cells #[.int .i64 t644,.int .i64 t645,.int .i64 t646] 28 (0,0)) (bkF BK648) hb);have n3_:=Aside0.mk (blk_below (g:=gb653) (o:=.cells #[.int .i64 t649,.int .i64 t650,.int .i64 t651] 28 (0,0)) (bkF BK653) hb);have n4_:=Aside0.mk (blk_below (g:=gb660) (o:=.cells #[.int .i64 t654,.int .i64 t655,.int .i64 t656,.int .i64 t657] 26 (0,0)) (bkF BK660) hb);have n5_:=Aside0.mk (blk_below (g:=gb661) (o:=.cells #[.int .i64 t658,.int .i64 t659] 34 (0,0)) (bkF BK661) hb);have n6_:=Aside0.mk (blk_below (g:=gb665) (o:=.cells #[.int .i64 t662,.int .i64 t663] 34 (0,0)) (bkF BK665) hb);have n7_:=Aside0.mk (blk_below (g:=gb669) (o:=.cells #[.int .i64 t666,.int .i64 t667] 34 (0,0)) (bkF BK669) hb);have n8_:=Aside0.mk (blk_below (g:=gb685) (o:=.cells #[.int .i64 t680,.int .i64 t681,.int .i64 t682,.int .i64 t683] 26 (0,0)) (bkF BK685) hb);have n9_:=Aside0.mk (blk_below (g:=gb690) (o:=.cells #[.int .i64 t686,.int .i64 t687,.int .i64 t688] 28 (0,0)) (bkF BK690) hb);have n10_:=Aside0.mk (blk_below (g:=gb696) (o:=.cells #[.int .i64 t692,.int .i64 t693,.int .i64 t694] 28 (0,0)) (bkF BK696) hb);have n11_:=Aside0.mk (blk_below (g:=gb701) (o:=.cells #[.int .i64 t697,.int .i64 t698,.int .i64 t699] 28 (0,0)) (bkF BK701) hb);have n12_:=Aside0.mk (blk_below (g:=gb708) (o:=.cells #[.int .i64 t704,.int .i64 t705,.int .i64 t706] 28 (0,0)) (bkF BK708) hb);have n13_:=Aside0.mk (blk_below (g:=gb714) (o:=.cells #[.int .i64 t709,.int .i64 t710,.int .i64 t711,.int .i64 t712] 26 (0,0)) (bpA BK714) hb);have n14_:=lB hb;clear BK642;clear BK643;clear BK648;clear BK653;clear BK660;clear BK661;clear BK665;clear BK669;clear BK685;clear BK690;clear BK696;clear BK701;clear BK708;clear BK714;clear HB;have BK642:=n0_;have BK643:=n1_;have BK648:=n2_;have BK653:=n3_;have BK660:=n4_;have BK661:=n5_;have BK665:=n6_;have BK669:=n7_;have BK685:=n8_;have BK690:=n9_;have BK696:=n10_;have BK701:=n11_;have BK708:=n12_;have BK714:=n13_;have HB:=n14_;clear n0_ n1_ n2_ n3_ n4_ n5_ n6_ n7_ n8_ n9_ n10_ n11_ n12_ n13_ n14_;clear hb)|((with_reducible refine gate_dst (N:=34) rfl ?_);refine bxE (cs:=#[.int .i64 0,.int .i64 0,.int .i64 0]) (t:=28) ?_;intro gb719 hg w381 hbox hb;have BK719:=Aside0.mk hbox;have GW719:=sA hg;have GE719:=sA hg;have NB642_719:=nA hg BK642;have NB719_642:=nB hg BK642;have LT642_719:=nL hg BK642;have NB643_719:=nA hg BK643;have NB719_643:=nB hg BK643;have LT643_719:=nL hg BK643;have NB648_719:=nA hg BK648;have NB719_648:=nB hg BK648;have LT648_719:=nL hg BK648;have NB653_719:=nA hg BK653;have NB719_653:=nB hg BK653;have LT653_719:=nL hg BK653;have NB660_719:=nA hg BK660;have NB719_660:=nB hg BK660;have LT660_719:=nL hg BK660;have NB661_719:=nA hg BK661;have NB719_661:=nB hg BK661;have LT661_719:=nL hg BK661;have NB665_719:=nA hg BK665;have NB719_665:=nB hg BK665;have LT665_719:=nL hg BK665;have NB669_719:=nA hg BK669;have NB719_669:=nB hg BK669;have LT669_719:=nL hg BK669;have NB685_719:=nA hg BK685;have NB719_685:=nB hg BK685;have LT685_719:=nL hg BK685;have NB690_719:=nA hg BK690;have NB719_690:=nB hg BK690;have LT690_719:=nL hg BK690;have NB696_719:=nA hg BK696;have NB719_696:=nB hg BK696;have LT696_719:=nL hg BK696;have NB701_719:=nA hg BK701;have NB719_701:=nB hg BK701;have LT701_719:=nL hg BK701;have NB708_719:=nA hg BK708;have NB719_708:=nB hg BK708;have LT708_719:=nL hg BK708;have NB714_719:=nA hg BK714;have NB719_714:=nB hg BK714;have LT714_719:=nL hg BK714;replace BK642:=kB BK642 hb;replace BK643:=kB BK643 hb;replace BK648:=kB BK648 hb;replace BK653:=kB BK653 hb;replace BK660:=kB BK660 hb;replace BK661:=kB BK661 hb;replace BK665:=kB BK665 hb;replace BK669:=kB BK669 hb;replace BK685:=kB BK685 hb;replace BK690:=kB BK690 hb;replace BK696:=kB BK696 hb;replace BK701:=kB BK701 hb;replace BK708:=kB BK708 hb;replace BK714:=kB BK714 hb;replace HB:=lB hb;clear hb hbox hg;have hnb382:=LT642_719.out;have hnb383:=LT643_719.out;have hnb384:=LT648_719.out;have hnb385:=LT653_719.out;have hnb386:=LT660_719.out;have hnb387:=LT661_719.out;have hnb388:=LT665_719.out;have hnb389:=LT669_719.out;have hnb390:=LT685_719.out;have hnb391:=LT690_719.out;have hnb392:=LT696_719.out;have hnb393:=LT701_719.out;have hnb394:=LT708_719.out;have hnb395:=LT714_719.out;obtain ⟨hcz396_0,hcz396_1,hcz396_2,hfz396_0,hfz396_1,hfz396_2⟩:=cz3 BK719;obtain ⟨hcz397_0,hcz397_1,hcz397_2,hfz397_0,hfz397_1,hfz397_2⟩:=cz3 BK708))
    ·
     go_ret
     exact finA blA
    ·
     go_ret
     exact finA blA
   ·
    rw [if_neg c304] at H
    have c304b0:(t713 == 0)=false:=beq_eq_false_iff_ne.mpr c304
    have c304b1:(t713 != 0)=true:=bne_iff_ne.mpr c304
    obtain rfl:=Option.some.inj H
    try clear hnb242 hnb243 hnb244 hnb245 hnb246 hnb247 hnb248 hnb249 hnb250
    try clear hnb254 hnb255 hnb256 hnb257 hnb258 hnb259 hnb260 hnb261 hnb262 hnb263 hnb265 hnb266 hnb267 hnb268 hnb269 hnb270 hnb271 hnb272
    try clear hnb276 hnb277 hnb278 hnb279 hnb280 hnb281 hnb282 hnb283 hnb284 hnb285 hnb286 hnb288 hnb289 hnb290 hnb291 hnb292 hnb293 hnb294
    have hnb489:=LT642_660.out
    have hnb490:=LT643_660.out
    have hnb491:=LT648_660.out
    have hnb492:=LT653_660.out
    have hnb493:=LT660_661.out
    have hnb494:=LT660_665.out
    have hnb495:=LT660_669.out
    have hnb496:=LT660_685.out
    have hnb497:=LT660_690.out
    have hnb498:=LT660_696.out
    have hnb499:=LT660_701.out
    obtain ⟨hcz500_0,hcz500_1,hcz500_2,hcz500_3,hfz500_0,hfz500_1,hfz500_2,hfz500_3⟩:=cz4 BK660
    have hnb501:=LT642_648.out
    have hnb502:=LT643_648.out
    have hnb503:=LT648_653.out
    have hnb504:=LT648_661.out
    have hnb505:=LT648_665.out
    have hnb506:=LT648_669.out
    have hnb507:=LT648_685.out
    have hnb508:=LT648_690.out
    have hnb509:=LT648_696.out
    have hnb510:=LT648_701.out
    obtain ⟨hcz511_0,hcz511_1,hcz511_2,hfz511_0,hfz511_1,hfz511_2⟩:=cz3 BK648
    go_wp2_with (first|((with_reducible refine gd 185 rfl ?_);refine gC (some 185) rfl Try.func8 (impl_MoveBall.calls (w:=_) (h:=A300.out)) ?_;intro w512 hb;replace BK642:=kB BK642 hb;replace BK643:=kB BK643 hb;replace BK648:=kB BK648 hb;replace BK653:=kB BK653 hb;replace BK660:=kB BK660 hb;replace BK661:=kB BK661 hb;replace BK665:=kB BK665 hb;replace BK669:=kB BK669 hb;replace BK685:=kB BK685 hb;replace BK690:=kB BK690 hb;replace BK696:=kB BK696 hb;replace BK701:=kB BK701 hb;replace HB:=lB hb;clear hb)|((with_reducible refine gate_dst (N:=30) rfl ?_);refine bxE (cs:=#[.int .i64 0,.int .i64 0,.int .i64 0]) (t:=28) ?_;intro gb708 hg w513 hbox hb;have BK708:=Aside0.mk hbox;have GW708:=sA hg;have GE708:=sA hg;have NB642_708:=nA hg BK642;have NB708_642:=nB hg BK642;have LT642_708:=nL hg BK642;have NB643_708:=nA hg BK643;have NB708_643:=nB hg BK643;have LT643_708:=nL hg BK643;have NB648_708:=nA hg BK648;have NB708_648:=nB hg BK648;have LT648_708:=nL hg BK648;have NB653_708:=nA hg BK653;have NB708_653:=nB hg BK653;have LT653_708:=nL hg BK653;have NB660_708:=nA hg BK660;have NB708_660:=nB hg BK660;have LT660_708:=nL hg BK660;have NB661_708:=nA hg BK661;have NB708_661:=nB hg BK661;have LT661_708:=nL hg BK661;have NB665_708:=nA hg BK665;have NB708_665:=nB hg BK665;have LT665_708:=nL hg BK665;have NB669_708:=nA hg BK669;have NB708_669:=nB hg BK669;have LT669_708:=nL hg BK669;have NB685_708:=nA hg BK685;have NB708_685:=nB hg BK685;have LT685_708:=nL hg BK685;have NB690_708:=nA hg BK690;have NB708_690:=nB hg BK690;have LT690_708:=nL hg BK690;have NB696_708:=nA hg BK696;have NB708_696:=nB hg BK696;have LT696_708:=nL hg BK696;have NB701_708:=nA hg BK701;have NB708_701:=nB hg BK701;have LT701_708:=nL hg BK701;replace BK642:=kB BK642 hb;replace BK643:=kB BK643 hb;replace BK648:=kB BK648 hb;replace BK653:=kB BK653 hb;replace BK660:=kB BK660 hb;replace BK661:=kB BK661 hb;replace BK665:=kB BK665 hb;replace BK669:=kB BK669 hb;replace BK685:=kB BK685 hb;replace BK690:=kB BK690 hb;replace BK696:=kB BK696 hb;replace BK701:=kB BK701 hb;replace HB:=lB hb;clear hb hbox hg;have hnb514:=LT642_708.out;have hnb515:=LT643_708.out;have hnb516:=LT648_708.out;have hnb517:=LT653_708.out;have hnb518:=LT660_708.out;have hnb519:=LT661_708.out;have hnb520:=LT665_708.out;have hnb521:=LT669_708.out;have hnb522:=LT685_708.out;have hnb523:=LT690_708.out;have hnb524:=LT696_708.out;have hnb525:=LT701_708.out;obtain ⟨hcz526_0,hcz526_1,hcz526_2,hfz526_0,hfz526_1,hfz526_2⟩:=cz3 BK708;obtain ⟨hcz527_0,hcz527_1,hcz527_2,hcz527_3,hfz527_0,hfz527_1,hfz527_2,hfz527_3⟩:=cz4 BK660;have hnb528:=LT642_643.out;have hnb529:=LT642_653.out;have hnb530:=LT642_661.out;have hnb531:=LT642_665.out;have hnb532:=LT642_669.out;have hnb533:=LT642_685.out;have hnb534:=LT642_690.out;have hnb535:=LT642_696.out;have hnb536:=LT642_701.out;obtain ⟨hcz537_0,hcz537_1,hcz537_2,hcz537_3,hfz537_0,hfz537_1,hfz537_2,hfz537_3⟩:=cz4 BK642)|((with_reducible refine gd 191 rfl ?_);refine gC (some 191) rfl Try.func17 (impl_MultiplyMatrices.calls (w:=_) (h:=A301.out)) ?_;intro w538 hb;have n0_:=Aside0.mk (blk_below (g:=gb642) (o:=.cells #[.int .i64 t635,.int .i64 t636,.int .i64 t637,.int .i64 t638] 26 (0,0)) (bkF BK642) hb);have n1_:=Aside0.mk (blk_below (g:=gb643) (o:=.cells #[.int .i64 t639,.int .i64 t640,.int .i64 t641] 28 (0,0)) (bkF BK643) hb);have n2_:=Aside0.mk (blk_below (g:=gb648) (o:=.cells #[.int .i64 t644,.int .i64 t645,.int .i64 t646] 28 (0,0)) (bkF BK648) hb);have n3_:=Aside0.mk (blk_below (g:=gb653) (o:=.cells #[.int .i64 t649,.int .i64 t650,.int .i64 t651] 28 (0,0)) (bkF BK653) hb);have n4_:=Aside0.mk (blk_below (g:=gb660) (o:=.cells #[.int .i64 t654,.int .i64 t655,.int .i64 t656,.int .i64 t657] 26 (0,0)) (bkF BK660) hb);have n5_:=Aside0.mk (blk_below (g:=gb661) (o:=.cells #[.int .i64 t658,.int .i64 t659] 34 (0,0)) (bkF BK661) hb);have n6_:=Aside0.mk (blk_below (g:=gb665) (o:=.cells #[.int .i64 t662,.int .i64 t663] 34 (0,0)) (bkF BK665) hb);have n7_:=Aside0.mk (blk_below (g:=gb669) (o:=.cells #[.int .i64 t666,.int .i64 t667] 34 (0,0)) (bkF BK669) hb);have n8_:=Aside0.mk (blk_below (g:=gb685) (o:=.cells #[.int .i64 t680,.int .i64 t681,.int .i64 t682,.int .i64 t683] 26 (0,0)) (bkF BK685) hb);have n9_:=Aside0.mk (blk_below (g:=gb690) (o:=.cells #[.int .i64 t686,.int .i64 t687,.int .i64 t688] 28 (0,0)) (bkF BK690) hb);have n10_:=Aside0.mk (blk_below (g:=gb696) (o:=.cells #[.int .i64 t692,.int .i64 t693,.int .i64 t694] 28 (0,0)) (bkF BK696) hb);have n11_:=Aside0.mk (blk_below (g:=gb701) (o:=.cells #[.int .i64 t697,.int .i64 t698,.int .i64 t699] 28 (0,0)) (bkF BK701) hb);have n12_:=Aside0.mk (blk_below (g:=gb708) (o:=.cells #[.int .i64 t704,.int .i64 t705,.int .i64 t706] 28 (0,0)) (bpA BK708) hb);have n13_:=lB hb;clear BK642;clear BK643;clear BK648;clear BK653;clear BK660;clear BK661;clear BK665;clear BK669;clear BK685;clear BK690;clear BK696;clear BK701;clear BK708;clear HB;have BK642:=n0_;have BK643:=n1_;have BK648:=n2_;have BK653:=n3_;have BK660:=n4_;have BK661:=n5_;have BK665:=n6_;have BK669:=n7_;have BK685:=n8_;have BK690:=n9_;have BK696:=n10_;have BK701:=n11_;have BK708:=n12_;have HB:=n13_;clear n0_ n1_ n2_ n3_ n4_ n5_ n6_ n7_ n8_ n9_ n10_ n11_ n12_ n13_;clear hb)|((with_reducible refine gate_dst (N:=32) rfl ?_);refine bxE (cs:=#[.int .i64 0,.int .i64 0,.int .i64 0,.int .i64 0]) (t:=26) ?_;intro gb714 hg w539 hbox hb;have BK714:=Aside0.mk hbox;have GW714:=sA hg;have GE714:=sA hg;have NB642_714:=nA hg BK642;have NB714_642:=nB hg BK642;have LT642_714:=nL hg BK642;have NB643_714:=nA hg BK643;have NB714_643:=nB hg BK643;have LT643_714:=nL hg BK643;have NB648_714:=nA hg BK648;have NB714_648:=nB hg BK648;have LT648_714:=nL hg BK648;have NB653_714:=nA hg BK653;have NB714_653:=nB hg BK653;have LT653_714:=nL hg BK653;have NB660_714:=nA hg BK660;have NB714_660:=nB hg BK660;have LT660_714:=nL hg BK660;have NB661_714:=nA hg BK661;have NB714_661:=nB hg BK661;have LT661_714:=nL hg BK661;have NB665_714:=nA hg BK665;have NB714_665:=nB hg BK665;have LT665_714:=nL hg BK665;have NB669_714:=nA hg BK669;have NB714_669:=nB hg BK669;have LT669_714:=nL hg BK669;have NB685_714:=nA hg BK685;have NB714_685:=nB hg BK685;have LT685_714:=nL hg BK685;have NB690_714:=nA hg BK690;have NB714_690:=nB hg BK690;have LT690_714:=nL hg BK690;have NB696_714:=nA hg BK696;have NB714_696:=nB hg BK696;have LT696_714:=nL hg BK696;have NB701_714:=nA hg BK701;have NB714_701:=nB hg BK701;have LT701_714:=nL hg BK701;have NB708_714:=nA hg BK708;have NB714_708:=nB hg BK708;have LT708_714:=nL hg BK708;replace BK642:=kB BK642 hb;replace BK643:=kB BK643 hb;replace BK648:=kB BK648 hb;replace BK653:=kB BK653 hb;replace BK660:=kB BK660 hb;replace BK661:=kB BK661 hb;replace BK665:=kB BK665 hb;replace BK669:=kB BK669 hb;replace BK685:=kB BK685 hb;replace BK690:=kB BK690 hb;replace BK696:=kB BK696 hb;replace BK701:=kB BK701 hb;replace BK708:=kB BK708 hb;replace HB:=lB hb;clear hb hbox hg;have hnb540:=LT642_714.out;have hnb541:=LT643_714.out;have hnb542:=LT648_714.out;have hnb543:=LT653_714.out;have hnb544:=LT660_714.out;have hnb545:=LT661_714.out;have hnb546:=LT665_714.out;have hnb547:=LT669_714.out;have hnb548:=LT685_714.out;have hnb549:=LT690_714.out;have hnb550:=LT696_714.out;have hnb551:=LT701_714.out;have hnb552:=LT708_714.out;obtain ⟨hcz553_0,hcz553_1,hcz553_2,hcz553_3,hfz553_0,hfz553_1,hfz553_2,hfz553_3⟩:=cz4 BK714;have hnb554:=LT643_653.out;have hnb555:=LT643_661.out;have hnb556:=LT643_665.out;have hnb557:=LT643_669.out;have hnb558:=LT643_685.out;have hnb559:=LT643_690.out;have hnb560:=LT643_696.out;have hnb561:=LT643_701.out;obtain ⟨hcz562_0,hcz562_1,hcz562_2,hfz562_0,hfz562_1,hfz562_2⟩:=cz3 BK643)|((with_reducible refine gd 198 rfl ?_);refine gC (some 198) rfl Try.func8 (impl_MoveBall.calls (w:=_) (h:=A302.out)) ?_;intro w563 hb;have n0_:=Aside0.mk (blk_below (g:=gb642) (o:=.cells #[.int .i64 t635,.int .i64 t636,.int .i64 t637,.int .i64 t638] 26 (0,0)) (bkF BK642) hb);have n1_:=Aside0.mk (blk_below (g:=gb643) (o:=.cells #[.int .i64 t639,.int .i64 t640,.int .i64 t641] 28 (0,0)) (bkF BK643) hb);have n2_:=Aside0.mk (blk_below (g:=gb648) (o:=.cells #[.int .i64 t644,.int .i64 t645,.int .i64 t646] 28 (0,0)) (bkF BK648) hb);have n3_:=Aside0.mk (blk_below (g:=gb653) (o:=.cells #[.int .i64 t649,.int .i64 t650,.int .i64 t651] 28 (0,0)) (bkF BK653) hb);have n4_:=Aside0.mk (blk_below (g:=gb660) (o:=.cells #[.int .i64 t654,.int .i64 t655,.int .i64 t656,.int .i64 t657] 26 (0,0)) (bkF BK660) hb);have n5_:=Aside0.mk (blk_below (g:=gb661) (o:=.cells #[.int .i64 t658,.int .i64 t659] 34 (0,0)) (bkF BK661) hb);have n6_:=Aside0.mk (blk_below (g:=gb665) (o:=.cells #[.int .i64 t662,.int .i64 t663] 34 (0,0)) (bkF BK665) hb);have n7_:=Aside0.mk (blk_below (g:=gb669) (o:=.cells #[.int .i64 t666,.int .i64 t667] 34 (0,0)) (bkF BK669) hb);have n8_:=Aside0.mk (blk_below (g:=gb685) (o:=.cells #[.int .i64 t680,.int .i64 t681,.int .i64 t682,.int .i64 t683] 26 (0,0)) (bkF BK685) hb);have n9_:=Aside0.mk (blk_below (g:=gb690) (o:=.cells #[.int .i64 t686,.int .i64 t687,.int .i64 t688] 28 (0,0)) (bkF BK690) hb);have n10_:=Aside0.mk (blk_below (g:=gb696) (o:=.cells #[.int .i64 t692,.int .i64 t693,.int .i64 t694] 28 (0,0)) (bkF BK696) hb);have n11_:=Aside0.mk (blk_below (g:=gb701) (o:=.cells #[.int .i64 t697,.int .i64 t698,.int .i64 t699] 28 (0,0)) (bkF BK701) hb);have n12_:=Aside0.mk (blk_below (g:=gb708) (o:=.cells #[.int .i64 t704,.int .i64 t705,.int .i64 t706] 28 (0,0)) (bkF BK708) hb);have n13_:=Aside0.mk (blk_below (g:=gb714) (o:=.cells #[.int .i64 t709,.int .i64 t710,.int .i64 t711,.int .i64 t712] 26 (0,0)) (bpA BK714) hb);have n14_:=lB hb;clear BK642;clear BK643;clear BK648;clear BK653;clear BK660;clear BK661;clear BK665;clear BK669;clear BK685;clear BK690;clear BK696;clear BK701;clear BK708;clear BK714;clear HB;have BK642:=n0_;have BK643:=n1_;have BK648:=n2_;have BK653:=n3_;have BK660:=n4_;have BK661:=n5_;have BK665:=n6_;have BK669:=n7_;have BK685:=n8_;have BK690:=n9_;have BK696:=n10_;have BK701:=n11_;have BK708:=n12_;have BK714:=n13_;have HB:=n14_;clear n0_ n1_ n2_ n3_ n4_ n5_ n6_ n7_ n8_ n9_ n10_ n11_ n12_ n13_ n14_;clear hb)|((with_reducible refine gate_dst (N:=34) rfl ?_);refine bxE (cs:=#[.int .i64 0,.int .i64 0,.int .i64 0]) (t:=28) ?_;intro gb719 hg w564 hbox hb;have BK719:=Aside0.mk hbox;have GW719:=sA hg;have GE719:=sA hg;have NB642_719:=nA hg BK642;have NB719_642:=nB hg BK642;have LT642_719:=nL hg BK642;have NB643_719:=nA hg BK643;have NB719_643:=nB hg BK643;have LT643_719:=nL hg BK643;have NB648_719:=nA hg BK648;have NB719_648:=nB hg BK648;have LT648_719:=nL hg BK648;have NB653_719:=nA hg BK653;have NB719_653:=nB hg BK653;have LT653_719:=nL hg BK653;have NB660_719:=nA hg BK660;have NB719_660:=nB hg BK660;have LT660_719:=nL hg BK660;have NB661_719:=nA hg BK661;have NB719_661:=nB hg BK661;have LT661_719:=nL hg BK661;have NB665_719:=nA hg BK665;have NB719_665:=nB hg BK665;have LT665_719:=nL hg BK665;have NB669_719:=nA hg BK669;have NB719_669:=nB hg BK669;have LT669_719:=nL hg BK669;have NB685_719:=nA hg BK685;have NB719_685:=nB hg BK685;have LT685_719:=nL hg BK685;have NB690_719:=nA hg BK690;have NB719_690:=nB hg BK690;have LT690_719:=nL hg BK690;have NB696_719:=nA hg BK696;have NB719_696:=nB hg BK696;have LT696_719:=nL hg BK696;have NB701_719:=nA hg BK701;have NB719_701:=nB hg BK701;have LT701_719:=nL hg BK701;have NB708_719:=nA hg BK708;have NB719_708:=nB hg BK708;have LT708_719:=nL hg BK708;have NB714_719:=nA hg BK714;have NB719_714:=nB hg BK714;have LT714_719:=nL hg BK714;replace BK642:=kB BK642 hb;replace BK643:=kB BK643 hb;replace BK648:=kB BK648 hb;replace BK653:=kB BK653 hb;replace BK660:=kB BK660 hb;replace BK661:=kB BK661 hb;replace BK665:=kB BK665 hb;replace BK669:=kB BK669 hb;replace BK685:=kB BK685 hb;replace BK690:=kB BK690 hb;replace BK696:=kB BK696 hb;replace BK701:=kB BK701 hb;replace BK708:=kB BK708 hb;replace BK714:=kB BK714 hb;replace HB:=lB hb;clear hb hbox hg;have hnb565:=LT642_719.out;have hnb566:=LT643_719.out;have hnb567:=LT648_719.out;have hnb568:=LT653_719.out;have hnb569:=LT660_719.out;have hnb570:=LT661_719.out;have hnb571:=LT665_719.out;have hnb572:=LT669_719.out;have hnb573:=LT685_719.out;have hnb574:=LT690_719.out;have hnb575:=LT696_719.out;have hnb576:=LT701_719.out;have hnb577:=LT708_719.out;have hnb578:=LT714_719.out;obtain ⟨hcz579_0,hcz579_1,hcz579_2,hfz579_0,hfz579_1,hfz579_2⟩:=cz3 BK719))
    go_ret
    exact finA blA
  ·
   rw [if_neg c303] at H
   have c303b0:(t707 == 0)=false:=beq_eq_false_iff_ne.mpr c303
   have c303b1:(t707 != 0)=true:=bne_iff_ne.mpr c303
   obtain rfl:=Option.some.inj H
   try clear hnb242 hnb243 hnb244 hnb245 hnb246 hnb247 hnb248 hnb249 hnb250
   try clear hnb254 hnb255 hnb256 hnb257 hnb258 hnb259 hnb260 hnb261 hnb262 hnb263 hnb265 hnb266 hnb267 hnb268 hnb269 hnb270 hnb271 hnb272
   try clear hnb276 hnb277 hnb278 hnb279 hnb280 hnb281 hnb282 hnb283 hnb284 hnb285 hnb286 hnb288 hnb289 hnb290 hnb291 hnb292 hnb293 hnb294
   have hnb580:=LT642_660.out
   have hnb581:=LT643_660.out
   have hnb582:=LT648_660.out
   have hnb583:=LT653_660.out
   have hnb584:=LT660_661.out
   have hnb585:=LT660_665.out
   have hnb586:=LT660_669.out
   have hnb587:=LT660_685.out
   have hnb588:=LT660_690.out
   have hnb589:=LT660_696.out
   have hnb590:=LT660_701.out
   obtain ⟨hcz591_0,hcz591_1,hcz591_2,hcz591_3,hfz591_0,hfz591_1,hfz591_2,hfz591_3⟩:=cz4 BK660
   have hnb592:=LT642_648.out
   have hnb593:=LT643_648.out
   have hnb594:=LT648_653.out
   have hnb595:=LT648_661.out
   have hnb596:=LT648_665.out
   have hnb597:=LT648_669.out
   have hnb598:=LT648_685.out
   have hnb599:=LT648_690.out
   have hnb600:=LT648_696.out
   have hnb601:=LT648_701.out
   obtain ⟨hcz602_0,hcz602_1,hcz602_2,hfz602_0,hfz602_1,hfz602_2⟩:=cz3 BK648
   go_wp2_with (first|((with_reducible refine gd 185 rfl ?_);refine gC (some 185) rfl Try.func8 (impl_MoveBall.calls (w:=_) (h:=A300.out)) ?_;intro w603 hb;replace BK642:=kB BK642 hb;replace BK643:=kB BK643 hb;replace BK648:=kB BK648 hb;replace BK653:=kB BK653 hb;replace BK660:=kB BK660 hb;replace BK661:=kB BK661 hb;replace BK665:=kB BK665 hb;replace BK669:=kB BK669 hb;replace BK685:=kB BK685 hb;replace BK690:=kB BK690 hb;replace BK696:=kB BK696 hb;replace BK701:=kB BK701 hb;replace HB:=lB hb;clear hb)|((with_reducible refine gate_dst (N:=30) rfl ?_);refine bxE (cs:=#[.int .i64 0,.int .i64 0,.int .i64 0]) (t:=28) ?_;intro gb708 hg w604 hbox hb;have BK708:=Aside0.mk hbox;have GW708:=sA hg;have GE708:=sA hg;have NB642_708:=nA hg BK642;have NB708_642:=nB hg BK642;have LT642_708:=nL hg BK642;have NB643_708:=nA hg BK643;have NB708_643:=nB hg BK643;have LT643_708:=nL hg BK643;have NB648_708:=nA hg BK648;have NB708_648:=nB hg BK648;have LT648_708:=nL hg BK648;have NB653_708:=nA hg BK653;have NB708_653:=nB hg BK653;have LT653_708:=nL hg BK653;have NB660_708:=nA hg BK660;have NB708_660:=nB hg BK660;have LT660_708:=nL hg BK660;have NB661_708:=nA hg BK661;have NB708_661:=nB hg BK661;have LT661_708:=nL hg BK661;have NB665_708:=nA hg BK665;have NB708_665:=nB hg BK665;have LT665_708:=nL hg BK665;have NB669_708:=nA hg BK669;have NB708_669:=nB hg BK669;have LT669_708:=nL hg BK669;have NB685_708:=nA hg BK685;have NB708_685:=nB hg BK685;have LT685_708:=nL hg BK685;have NB690_708:=nA hg BK690;have NB708_690:=nB hg BK690;have LT690_708:=nL hg BK690;have NB696_708:=nA hg BK696;have NB708_696:=nB hg BK696;have LT696_708:=nL hg BK696;have NB701_708:=nA hg BK701;have NB708_701:=nB hg BK701;have LT701_708:=nL hg BK701;replace BK642:=kB BK642 hb;replace BK643:=kB BK643 hb;replace BK648:=kB BK648 hb;replace BK653:=kB BK653 hb;replace BK660:=kB BK660 hb;replace BK661:=kB BK661 hb;replace BK665:=kB BK665 hb;replace BK669:=kB BK669 hb;replace BK685:=kB BK685 hb;replace BK690:=kB BK690 hb;replace BK696:=kB BK696 hb;replace BK701:=kB BK701 hb;replace HB:=lB hb;clear hb hbox hg;have hnb605:=LT642_708.out;have hnb606:=LT643_708.out;have hnb607:=LT648_708.out;have hnb608:=LT653_708.out;have hnb609:=LT660_708.out;have hnb610:=LT661_708.out;have hnb611:=LT665_708.out;have hnb612:=LT669_708.out;have hnb613:=LT685_708.out;have hnb614:=LT690_708.out;have hnb615:=LT696_708.out;have hnb616:=LT701_708.out;obtain ⟨hcz617_0,hcz617_1,hcz617_2,hfz617_0,hfz617_1,hfz617_2⟩:=cz3 BK708;obtain ⟨hcz618_0,hcz618_1,hcz618_2,hcz618_3,hfz618_0,hfz618_1,hfz618_2,hfz618_3⟩:=cz4 BK660;have hnb619:=LT642_643.out;have hnb620:=LT642_653.out;have hnb621:=LT642_661.out;have hnb622:=LT642_665.out;have hnb623:=LT642_669.out;have hnb624:=LT642_685.out;have hnb625:=LT642_690.out;have hnb626:=LT642_696.out;have hnb627:=LT642_701.out;obtain ⟨hcz628_0,hcz628_1,hcz628_2,hcz628_3,hfz628_0,hfz628_1,hfz628_2,hfz628_3⟩:=cz4 BK642)|((with_reducible refine gd 191 rfl ?_);refine gC (some 191) rfl Try.func17 (impl_MultiplyMatrices.calls (w:=_) (h:=A301.out)) ?_;intro w629 hb;have n0_:=Aside0.mk (blk_below (g:=gb642) (o:=.cells #[.int .i64 t635,.int .i64 t636,.int .i64 t637,.int .i64 t638] 26 (0,0)) (bkF BK642) hb);have n1_:=Aside0.mk (blk_below (g:=gb643) (o:=.cells #[.int .i64 t639,.int .i64 t640,.int .i64 t641] 28 (0,0)) (bkF BK643) hb);have n2_:=Aside0.mk (blk_below (g:=gb648) (o:=.cells #[.int .i64 t644,.int .i64 t645,.int .i64 t646] 28 (0,0)) (bkF BK648) hb);have n3_:=Aside0.mk (blk_below (g:=gb653) (o:=.cells #[.int .i64 t649,.int .i64 t650,.int .i64 t651] 28 (0,0)) (bkF BK653) hb);have n4_:=Aside0.mk (blk_below (g:=gb660) (o:=.cells #[.int .i64 t654,.int .i64 t655,.int .i64 t656,.int .i64 t657] 26 (0,0)) (bkF BK660) hb);have n5_:=Aside0.mk (blk_below (g:=gb661) (o:=.cells #[.int .i64 t658,.int .i64 t659] 34 (0,0)) (bkF BK661) hb);have n6_:=Aside0.mk (blk_below (g:=gb665) (o:=.cells #[.int .i64 t662,.int .i64 t663] 34 (0,0)) (bkF BK665) hb);have n7_:=Aside0.mk (blk_below (g:=gb669) (o:=.cells #[.int .i64 t666,.int .i64 t667] 34 (0,0)) (bkF BK669) hb);have n8_:=Aside0.mk (blk_below (g:=gb685) (o:=.cells #[.int .i64 t680,.int .i64 t681,.int .i64 t682,.int .i64 t683] 26 (0,0)) (bkF BK685) hb);have n9_:=Aside0.mk (blk_below (g:=gb690) (o:=.cells #[.int .i64 t686,.int .i64 t687,.int .i64 t688] 28 (0,0)) (bkF BK690) hb);have n10_:=Aside0.mk (blk_below (g:=gb696) (o:=.cells #[.int .i64 t692,.int .i64 t693,.int .i64 t694] 28 (0,0)) (bkF BK696) hb);have n11_:=Aside0.mk (blk_below (g:=gb701) (o:=.cells #[.int .i64 t697,.int .i64 t698,.int .i64 t699] 28 (0,0)) (bkF BK701) hb);have n12_:=Aside0.mk (blk_below (g:=gb708) (o:=.cells #[.int .i64 t704,.int .i64 t705,.int .i64 t706] 28 (0,0)) (bpA BK708) hb);have n13_:=lB hb;clear BK642;clear BK643;clear BK648;clear BK653;clear BK660;clear BK661;clear BK665;clear BK669;clear BK685;clear BK690;clear BK696;clear BK701;clear BK708;clear HB;have BK642:=n0_;have BK643:=n1_;have BK648:=n2_;have BK653:=n3_;have BK660:=n4_;have BK661:=n5_;have BK665:=n6_;have BK669:=n7_;have BK685:=n8_;have BK690:=n9_;have BK696:=n10_;have BK701:=n11_;have BK708:=n12_;have HB:=n13_;clear n0_ n1_ n2_ n3_ n4_ n5_ n6_ n7_ n8_ n9_ n10_ n11_ n12_ n13_;clear hb)|((with_reducible refine gate_dst (N:=32) rfl ?_);refine bxE (cs:=#[.int .i64 0,.int .i64 0,.int .i64 0,.int .i64 0]) (t:=26) ?_;intro gb714 hg w630 hbox hb;have BK714:=Aside0.mk hbox;have GW714:=sA hg;have GE714:=sA hg;have NB642_714:=nA hg BK642;have NB714_642:=nB hg BK642;have LT642_714:=nL hg BK642;have NB643_714:=nA hg BK643;have NB714_643:=nB hg BK643;have LT643_714:=nL hg BK643;have NB648_714:=nA hg BK648;have NB714_648:=nB hg BK648;have LT648_714:=nL hg BK648;have NB653_714:=nA hg BK653;have NB714_653:=nB hg BK653;have LT653_714:=nL hg BK653;have NB660_714:=nA hg BK660;have NB714_660:=nB hg BK660;have LT660_714:=nL hg BK660;have NB661_714:=nA hg BK661;have NB714_661:=nB hg BK661;have LT661_714:=nL hg BK661;have NB665_714:=nA hg BK665;have NB714_665:=nB hg BK665;have LT665_714:=nL hg BK665;have NB669_714:=nA hg BK669;have NB714_669:=nB hg BK669;have LT669_714:=nL hg BK669;have NB685_714:=nA hg BK685;have NB714_685:=nB hg BK685;have LT685_714:=nL hg BK685;have NB690_714:=nA hg BK690;have NB714_690:=nB hg BK690;have LT690_714:=nL hg BK690;have NB696_714:=nA hg BK696;have NB714_696:=nB hg BK696;have LT696_714:=nL hg BK696;have NB701_714:=nA hg BK701;have NB714_701:=nB hg BK701;have LT701_714:=nL hg BK701;have NB708_714:=nA hg BK708;have NB714_708:=nB hg BK708;have LT708_714:=nL hg BK708;replace BK642:=kB BK642 hb;replace BK643:=kB BK643 hb;replace BK648:=kB BK648 hb;replace BK653:=kB BK653 hb;replace BK660:=kB BK660 hb;replace BK661:=kB BK661 hb;replace BK665:=kB BK665 hb;replace BK669:=kB BK669 hb;replace BK685:=kB BK685 hb;replace BK690:=kB BK690 hb;replace BK696:=kB BK696 hb;replace BK701:=kB BK701 hb;replace BK708:=kB BK708 hb;replace HB:=lB hb;clear hb hbox hg;have hnb631:=LT642_714.out;have hnb632:=LT643_714.out;have hnb633:=LT648_714.out;have hnb634:=LT653_714.out;have hnb635:=LT660_714.out;have hnb636:=LT661_714.out;have hnb637:=LT665_714.out;have hnb638:=LT669_714.out;have hnb639:=LT685_714.out;have hnb640:=LT690_714.out;have hnb641:=LT696_714.out;have hnb642:=LT701_714.out;have hnb643:=LT708_714.out;obtain ⟨hcz644_0,hcz644_1,hcz644_2,hcz644_3,hfz644_0,hfz644_1,hfz644_2,hfz644_3⟩:=cz4 BK714;have hnb645:=LT643_653.out;have hnb646:=LT643_661.out;have hnb647:=LT643_665.out;have hnb648:=LT643_669.out;have hnb649:=LT643_685.out;have hnb650:=LT643_690.out;have hnb651:=LT643_696.out;have hnb652:=LT643_701.out;obtain ⟨hcz653_0,hcz653_1,hcz653_2,hfz653_0,hfz653_1,hfz653_2⟩:=cz3 BK643)|((with_reducible refine gd 198 rfl ?_);refine gC (some 198) rfl Try.func8 (impl_MoveBall.calls (w:=_) (h:=A302.out)) ?_;intro w654 hb;have n0_:=Aside0.mk (blk_below (g:=gb642) (o:=.cells #[.int .i64 t635,.int .i64 t636,.int .i64 t637,.int .i64 t638] 26 (0,0)) (bkF BK642) hb);have n1_:=Aside0.mk (blk_below (g:=gb643) (o:=.cells #[.int .i64 t639,.int .i64 t640,.int .i64 t641] 28 (0,0)) (bkF BK643) hb);have n2_:=Aside0.mk (blk_below (g:=gb648) (o:=.cells #[.int .i64 t644,.int .i64 t645,.int .i64 t646] 28 (0,0)) (bkF BK648) hb);have n3_:=Aside0.mk (blk_below (g:=gb653) (o:=.cells #[.int .i64 t649,.int .i64 t650,.int .i64 t651] 28 (0,0)) (bkF BK653) hb);have n4_:=Aside0.mk (blk_below (g:=gb660) (o:=.cells #[.int .i64 t654,.int .i64 t655,.int .i64 t656,.int .i64 t657] 26 (0,0)) (bkF BK660) hb);have n5_:=Aside0.mk (blk_below (g:=gb661) (o:=.cells #[.int .i64 t658,.int .i64 t659] 34 (0,0)) (bkF BK661) hb);have n6_:=Aside0.mk (blk_below (g:=gb665) (o:=.cells #[.int .i64 t662,.int .i64 t663] 34 (0,0)) (bkF BK665) hb);have n7_:=Aside0.mk (blk_below (g:=gb669) (o:=.cells #[.int .i64 t666,.int .i64 t667] 34 (0,0)) (bkF BK669) hb);have n8_:=Aside0.mk (blk_below (g:=gb685) (o:=.cells #[.int .i64 t680,.int .i64 t681,.int .i64 t682,.int .i64 t683] 26 (0,0)) (bkF BK685) hb);have n9_:=Aside0.mk (blk_below (g:=gb690) (o:=.cells #[.int .i64 t686,.int .i64 t687,.int .i64 t688] 28 (0,0)) (bkF BK690) hb);have n10_:=Aside0.mk (blk_below (g:=gb696) (o:=.cells #[.int .i64 t692,.int .i64 t693,.int .i64 t694] 28 (0,0)) (bkF BK696) hb);have n11_:=Aside0.mk (blk_below (g:=gb701) (o:=.cells #[.int .i64 t697,.int .i64 t698,.int .i64 t699] 28 (0,0)) (bkF BK701) hb);have n12_:=Aside0.mk (blk_below (g:=gb708) (o:=.cells #[.int .i64 t704,.int .i64 t705,.int .i64 t706] 28 (0,0)) (bkF BK708) hb);have n13_:=Aside0.mk (blk_below (g:=gb714) (o:=.cells #[.int .i64 t709,.int .i64 t710,.int .i64 t711,.int .i64 t712] 26 (0,0)) (bpA BK714) hb);have n14_:=lB hb;clear BK642;clear BK643;clear BK648;clear BK653;clear BK660;clear BK661;clear BK665;clear BK669;clear BK685;clear BK690;clear BK696;clear BK701;clear BK708;clear BK714;clear HB;have BK642:=n0_;have BK643:=n1_;have BK648:=n2_;have BK653:=n3_;have BK660:=n4_;have BK661:=n5_;have BK665:=n6_;have BK669:=n7_;have BK685:=n8_;have BK690:=n9_;have BK696:=n10_;have BK701:=n11_;have BK708:=n12_;have BK714:=n13_;have HB:=n14_;clear n0_ n1_ n2_ n3_ n4_ n5_ n6_ n7_ n8_ n9_ n10_ n11_ n12_ n13_ n14_;clear hb)|((with_reducible refine gate_dst (N:=34) rfl ?_);refine bxE (cs:=#[.int .i64 0,.int .i64 0,.int .i64 0]) (t:=28) ?_;intro gb719 hg w655 hbox hb;have BK719:=Aside0.mk hbox;have GW719:=sA hg;have GE719:=sA hg;have NB642_719:=nA hg BK642;have NB719_642:=nB hg BK642;have LT642_719:=nL hg BK642;have NB643_719:=nA hg BK643;have NB719_643:=nB hg BK643;have LT643_719:=nL hg BK643;have NB648_719:=nA hg BK648;have NB719_648:=nB hg BK648;have LT648_719:=nL hg BK648;have NB653_719:=nA hg BK653;have NB719_653:=nB hg BK653;have LT653_719:=nL hg BK653;have NB660_719:=nA hg BK660;have NB719_660:=nB hg BK660;have LT660_719:=nL hg BK660;have NB661_719:=nA hg BK661;have NB719_661:=nB hg BK661;have LT661_719:=nL hg BK661;have NB665_719:=nA hg BK665;have NB719_665:=nB hg BK665;have LT665_719:=nL hg BK665;have NB669_719:=nA hg BK669;have NB719_669:=nB hg BK669;have LT669_719:=nL hg BK669;have NB685_719:=nA hg BK685;have NB719_685:=nB hg BK685;have LT685_719:=nL hg BK685;have NB690_719:=nA hg BK690;have NB719_690:=nB hg BK690;have LT690_719:=nL hg BK690;have NB696_719:=nA hg BK696;have NB719_696:=nB hg BK696;have LT696_719:=nL hg BK696;have NB701_719:=nA hg BK701;have NB719_701:=nB hg BK701;have LT701_719:=nL hg BK701;have NB708_719:=nA hg BK708;have NB719_708:=nB hg BK708;have LT708_719:=nL hg BK708;have NB714_719:=nA hg BK714;have NB719_714:=nB hg BK714;have LT714_719:=nL hg BK714;replace BK642:=kB BK642 hb;replace BK643:=kB BK643 hb;replace BK648:=kB BK648 hb;replace BK653:=kB BK653 hb;replace BK660:=kB BK660 hb;replace BK661:=kB BK661 hb;replace BK665:=kB BK665 hb;replace BK669:=kB BK669 hb;replace BK685:=kB BK685 hb;replace BK690:=kB BK690 hb;replace BK696:=kB BK696 hb;replace BK701:=kB BK701 hb;replace BK708:=kB BK708 hb;replace BK714:=kB BK714 hb;replace HB:=lB hb;clear hb hbox hg;have hnb656:=LT642_719.out;have hnb657:=LT643_719.out;have hnb658:=LT648_719.out;have hnb659:=LT653_719.out;have hnb660:=LT660_719.out;have hnb661:=LT661_719.out;have hnb662:=LT665_719.out;have hnb663:=LT669_719.out;have hnb664:=LT685_719.out;have hnb665:=LT690_719.out;have hnb666:=LT696_719.out;have hnb667:=LT701_719.out;have hnb668:=LT708_719.out;have hnb669:=LT714_719.out;obtain ⟨hcz670_0,hcz670_1,hcz670_2,hfz670_0,hfz670_1,hfz670_2⟩:=cz3 BK719))
   go_ret
   exact finA blA
theorem laws_FnMoves.calls (k:Nat) (A0:Option Addr) (c0:Nat) (l0:List Int) (r:Bool) (w:World) (hr0:Kd.C (Kd.int .u8) w A0 l0.length l0) (hc0:l0.length≤c0) (h:laws_FnMoves.f k l0=some r) :
  Calls Try.prog 3 #[.slice A0 l0.length c0] w fun e w'=>e=.returned (.bool r)∧Below w.heap.size w w':=(laws_FnMoves.cut0.2 (Aside0.mk (laws_FnMoves.cut1.2 (Aside0.mk (laws_FnMoves.cut2.2 (Aside0.mk (laws_FnMoves.cut3.2 (Aside0.mk (laws_FnMoves.cut4.2 (Aside0.mk (laws_FnMoves.cut5))))))))))) k A0 c0 l0 r w hr0 hc0 h

/-- THE ONE PURE STATEMENT of laws_FnMoves: yours. -/
def laws_FnMoves.Pure:Prop:=∀ (l0:List Int),l0.length≤maxLen→l0.length*1≤140737488351232→(∀ x ∈ l0,(Lit.int .u8 x).wf=true)→∃ k,laws_FnMoves.f k l0=some true
theorem laws_FnMoves.walk (P:laws_FnMoves.Pure) (a0:Option Addr) (len0 cap0:Nat) (z0:List Int) (w:World) (w0:(a0=none∧len0=0∧cap0=0∧z0=[])∨∃ x,a0=some x∧len0≤cap0∧cap0≤maxLen∧z0.length=cap0∧(∀ i,i<z0.length→w.cell? (x.add i)=some (.int .u8 (z0.getD i 0)))∧∀ n ∈ z0,(Lit.int .u8 n).wf=true) (y0:len0*1≤140737488351232) :
  Calls Try.prog 3 #[.slice a0 len0 cap0] w fun e w'=>e=.returned (.bool true)∧Below w.heap.size w w':=by
 obtain ⟨l0,rfl,hr0,hm0,hw0,hc0⟩:=ReadsInt.ofRowC w0
 obtain ⟨k,h⟩:=P l0 hm0 y0 hw0
 refine (laws_FnMoves.calls k _ _ l0 true w (Kd.C_of_reads (d:=(0:Int)) (h1:=fun _=>rfl) hr0) hc0 h).mono ?_
 rintro e w' ⟨rfl,hd⟩
 exact ⟨rfl,hd⟩
end Go.Proofs.Ytlpmefmaplhfdaa.PAll
