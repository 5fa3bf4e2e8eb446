-- turned out of the kit's print
import Derived.Test.YtboneolhoajaoaaQx
import Derived.Test.YtboneolhoajaoaaQLeqBall
import Derived.Test.YtboneolhoajaoaaQbitsDiv64
import Derived.Test.YtboneolhoajaoaaQimplIsEnd
namespace Go.Proofs.Ytboneolhoajaoaa.PAll
open Go.RowKit Go.Proofs.YtboneolhoajaoaaW.PrintWords Go.Proofs.YtboneolhoajaoaaW.PrintLast Go.Proofs.YtboneolhoajaoaaW.PrintMore
attribute [local go_sem] Go.Proofs.Ytboneolhoajaoaa.Aux.setCell_drewN Go.Proofs.Ytboneolhoajaoaa.Aux.isSome_setCell max2_int min2_int max_two min_two max_three min_three max_four min_four
set_option linter.unusedVariables false
set_option linter.unusedSimpArgs false
def impl_gap.f (k:Nat) (a0 a1_0 a1_1 a2_0 a2_1:Int):Option (Int):=(impl_cross.f a1_0 a1_1 a2_0 a2_1).bind fun t229=>((impl_valuation.f k a0 t229).bind fun t230=>((impl_valuation.f k a0 a1_1).bind fun t231=>((impl_valuation.f k a0 a2_1).bind fun t232=>(some (wrap64 ((wrap64 (t230 - t231)) - t232))))))
theorem impl_gap.mono:∀ a0 a1 a2 a3 a4 k,LeO (impl_gap.f k a0 a1 a2 a3 a4) (impl_gap.f (k+1) a0 a1 a2 a3 a4):=by
 intro a0 a1 a2 a3 a4 k
 unfold impl_gap.f
 repeat' first
   | with_reducible first|exact impl_valuation.mono ..|exact LeO.refl _|exact LeO.none _|refine LeO.ite ?_ ?_|refine LeO.bind ?_ fun _=>?_
def impl_gap.T1:Bool × List (List Nat × List Nat):=(true,[([],[]),([],[]),([],[]),([1,2],[1,2]),([0,3,3],[0,3]),([],[]),([],[]),([6],[6]),([5,7,4],[5,7]),([4,8],[4,8]),([],[]),([],[]),([11],[11]),([10,12,8],[10,12]),([9,13],[9,13]),([14,13,0,1,2,3,4,5,6,7,8,9,10,11,12,13,14],[14])])
def impl_gap.B1:List Nat:=[0,0,0,6,15,0,0,64,255,511,0,0,2048,7679,16383,32767]
theorem impl_gap.tab1:rtab .any (opsOf Try.f18 1)=impl_gap.T1:=by kernel_rfl
theorem impl_gap.bits1:waitsOk impl_gap.T1.2 impl_gap.B1=true:=by kernel_rfl
set_option maxHeartbeats 8000000 in
set_option maxRecDepth 100000 in
theorem impl_gap.calls (k:Nat) (a0 a1_0 a1_1 a2_0 a2_1 r:Int) (w:World) (h:impl_gap.f k a0 a1_0 a1_1 a2_0 a2_1=some r) :
  Calls Try.prog 18 #[.int .i64 a0,.agg #[.int .i64 a1_0,.int .i64 a1_1],.agg #[.int .i64 a2_0,.int .i64 a2_1]] w fun e w'=>e=.returned (.int .i64 r)∧Below w.heap.size w w':=by
 have hu27:=Try.underlying27
 have HB:=Aside0.mk (Below.refl w.heap.size w)
 have H:=h
 unfold impl_gap.f at H
 clear h
 replace H:=bS H
 obtain ⟨t229,A4,H⟩:=H
 try dsimp only at H
 replace H:=bS H
 obtain ⟨t230,A5,H⟩:=H
 try dsimp only at H
 replace H:=bS H
 obtain ⟨t231,A6,H⟩:=H
 try dsimp only at H
 replace H:=bS H
 obtain ⟨t232,A7,H⟩:=H
 try dsimp only at H
 obtain rfl:=Option.some.inj H
 go_enter Try.func18,Try.ntmps18
 try go_wp2_with (first|((with_reducible refine gate_dst (N:=4) rfl ?_);refine bxE (cs:=#[.int .i64 a1_0,.int .i64 a1_1]) (t:=27) ?_;intro gb227 hg w8 hbox hb;have n0_:=lB hb;have n1_:=Aside0.mk hbox;have n2_:=sA hg;have n3_:=sA hg;clear HB;have HB:=n0_;have BK227:=n1_;have GW227:=n2_;have GE227:=n3_;clear n0_ n1_ n2_ n3_;clear hb hbox hg)|((with_reducible refine gate_dst (N:=5) rfl ?_);refine bxE (cs:=#[.int .i64 a2_0,.int .i64 a2_1]) (t:=27) ?_;intro gb228 hg w9 hbox hb;have n0_:=kB BK227 hb;have n1_:=lB hb;have n2_:=Aside0.mk hbox;have n3_:=sA hg;have n4_:=sA hg;have n5_:=nA hg BK227;have n6_:=nB hg BK227;clear BK227;clear HB;have BK227:=n0_;have HB:=n1_;have BK228:=n2_;have GW228:=n3_;have GE228:=n4_;have NB227_228:=n5_;have NB228_227:=n6_;clear n0_ n1_ n2_ n3_ n4_ n5_ n6_;clear hb hbox hg))
 have n0_:=Aside0.mk (blk_drew BK227.out)
 have n1_:=Aside0.mk (blk_drew BK228.out)
 have n2_:=Aside0.mk (below_drew1 HB.out)
 clear BK227
 clear BK228
 clear HB
 have BK227:=n0_
 have BK228:=n1_
 have HB:=n2_
 clear n0_ n1_ n2_
 refine start_ (n:=16) (S:=fun w'=>w'.cell? ⟨gb227,0,none⟩=some (.int .i64 a1_0)∧w'.cell? ⟨gb227,1,none⟩=some (.int .i64 a1_1)∧w'.cell? ⟨gb228,0,none⟩=some (.int .i64 a2_0)∧w'.cell? ⟨gb228,1,none⟩=some (.int .i64 a2_1)) (ds:=[]) #[Z,Z,Z,Z,Z,Z,Z,Z,Z,Z,Z,Z,Z,Z,Z,Z] (by kernel_rfl) rfl rfl ⟨cA BK227 0,cA BK227 1,cA BK228 0,cA BK228 1⟩ (fun hHeld=>?_);refine with_tabW impl_gap.tab1 impl_gap.bits1 (fun HT_ HW_=>?_)
 generalize w9.drew=w10 at BK227 BK228 HB hHeld ⊢
 refine puA (i:=0) (N:=some 7) #[Y,Z,Z,Z,Z,Z,Z,Z,Z,Z,Z,Z,Z,Z,Z,Z] rfl rfl HT_ ?_
 refine puA (i:=5) (N:=some 12) #[Y,Z,Z,Z,Z,Y,Z,Z,Z,Z,Z,Z,Z,Z,Z,Z] rfl rfl HT_ ?_
 refine puA (i:=6) (N:=some 13) #[Y,Z,Z,Z,Z,Y,Y,Z,Z,Z,Z,Z,Z,Z,Z,Z] rfl rfl HT_ ?_
 refine puA (i:=10) (N:=some 17) #[Y,Z,Z,Z,Z,Y,Y,Z,Z,Z,Y,Z,Z,Z,Z,Z] rfl rfl HT_ ?_
 refine puA (i:=11) (N:=some 18) #[Y,Z,Z,Z,Z,Y,Y,Z,Z,Z,Y,Y,Z,Z,Z,Z] rfl rfl HT_ ?_
 refine taA (i:=1) (N:=some 8) #[Y,Y,Z,Z,Z,Y,Y,Z,Z,Z,Y,Y,Z,Z,Z,Z] rfl rfl HT_ HW_ hHeld ?_
 refine taA (i:=2) (N:=some 9) #[Y,Y,Y,Z,Z,Y,Y,Z,Z,Z,Y,Y,Z,Z,Z,Z] rfl rfl HT_ HW_ hHeld ?_
 refine taA (i:=7) (N:=some 14) #[Y,Y,Y,Z,Z,Y,Y,Y,Z,Z,Y,Y,Z,Z,Z,Z] rfl rfl HT_ HW_ hHeld ?_
 refine taA (i:=12) (N:=some 19) #[Y,Y,Y,Z,Z,Y,Y,Y,Z,Z,Y,Y,Y,Z,Z,Z] rfl rfl HT_ HW_ hHeld ?_
 refine one_ (i:=3) (N:=some 10) #[Y,Y,Y,Y,Z,Y,Y,Y,Z,Z,Y,Y,Y,Z,Z,Z] rfl rfl (one_of HT_.out (by kernel_rfl)) (by decide) (fun K hK=>?_)
 refine goC Try.func34 (impl_cross.calls (w:=_) (h:=A4.out)) ?_
 intro w11 hb
 replace BK227:=kB BK227 hb
 replace BK228:=kB BK228 hb
 replace HB:=lB hb
 (try clear hb)
 (try clear hb2)
 (try clear hk)
 (try clear hi)
 refine hK.out _ _ ⟨cA BK227 0,cA BK227 1,cA BK228 0,cA BK228 1⟩ (fun hHeld=>?_)
 clear hK K
 refine nmA ?_
 refine one_ (i:=4) (N:=some 11) #[Y,Y,Y,Y,Y,Y,Y,Y,Z,Z,Y,Y,Y,Z,Z,Z] rfl rfl (one_of HT_.out (by kernel_rfl)) (by decide) (fun K hK=>?_)
 refine goC Try.func28 (impl_valuation.calls (w:=_) (h:=A5.out)) ?_
 rintro _ ⟨nd,rfl⟩
 refine hK.out _ _ ⟨cA BK227 0,cA BK227 1,cA BK228 0,cA BK228 1⟩ (fun hHeld=>?_)
 clear hK K
 refine nmA ?_
 refine one_ (i:=8) (N:=some 15) #[Y,Y,Y,Y,Y,Y,Y,Y,Y,Z,Y,Y,Y,Z,Z,Z] rfl rfl (one_of HT_.out (by kernel_rfl)) (by decide) (fun K hK=>?_)
 refine goC Try.func28 (impl_valuation.calls (w:=_) (h:=A6.out)) ?_
 rintro _ ⟨nd,rfl⟩
 refine hK.out _ _ ⟨cA BK227 0,cA BK227 1,cA BK228 0,cA BK228 1⟩ (fun hHeld=>?_)
 clear hK K
 refine nmA ?_
 refine puA (i:=9) (N:=some 16) #[Y,Y,Y,Y,Y,Y,Y,Y,Y,Y,Y,Y,Y,Z,Z,Z] rfl rfl HT_ ?_
 refine one_ (i:=13) (N:=some 20) #[Y,Y,Y,Y,Y,Y,Y,Y,Y,Y,Y,Y,Y,Y,Z,Z] rfl rfl (one_of HT_.out (by kernel_rfl)) (by decide) (fun K hK=>?_)
 refine goC Try.func28 (impl_valuation.calls (w:=_) (h:=A7.out)) ?_
 rintro _ ⟨nd,rfl⟩
 refine hK.out _ _ ⟨cA BK227 0,cA BK227 1,cA BK228 0,cA BK228 1⟩ (fun hHeld=>?_)
 clear hK K
 refine nmA ?_
 refine puA (i:=14) (N:=some 21) #[Y,Y,Y,Y,Y,Y,Y,Y,Y,Y,Y,Y,Y,Y,Y,Z] rfl rfl HT_ ?_
 refine puA (i:=15) (N:=some 6) #[Y,Y,Y,Y,Y,Y,Y,Y,Y,Y,Y,Y,Y,Y,Y,Y] rfl rfl HT_ ?_
 refine done_ (done_of HT_.out (by kernel_rfl)) ?_
 try go_wp2
 go_ret
 exact finA blA
def laws_eqBallS.l0:Nat→List (S38)→List (S38)→Int→Option (Bool)
 | 0,_,_,_=>none
 | k+1,x0,x1,x5=>if x5<(x0.length:Int) then (if 0≤x5 then (if x5<(x1.length:Int) then ((laws_eqBall.f ((rd_T38 x0 x5).f0) ((rd_T38 x0 x5).f1) ((rd_T38 x0 x5).f2) ((rd_T38 x1 x5).f0) ((rd_T38 x1 x5).f1) ((rd_T38 x1 x5).f2)).bind fun t237=>(if t237=true then (laws_eqBallS.l0 k x0 x1 (wrap64 (x5+1))) else (some false))) else (none)) else (none)) else (some true)
def laws_eqBallS.f (k:Nat) (l0:List (S38)) (l1:List (S38)):Option (Bool):=if (l0.length:Int)=(l1.length:Int) then (laws_eqBallS.l0 k l0 l1 0) else (some false)
theorem laws_eqBallS.mono_l:∀ k,(∀ y0 y1 y2,LeO (laws_eqBallS.l0 k y0 y1 y2) (laws_eqBallS.l0 (k+1) y0 y1 y2))
 | 0=>fun _ _ _ r h=>by simp [laws_eqBallS.l0] at h
 | k+1=>by
  have ih0:=laws_eqBallS.mono_l k
  ·
   intro y0 y1 y2
   unfold laws_eqBallS.l0
   repeat' first
   | with_reducible first|exact ih0 ..|exact LeO.refl _|exact LeO.none _|refine LeO.ite ?_ ?_|refine LeO.bind ?_ fun _=>?_
theorem laws_eqBallS.mono:∀ a0 a1 k,LeO (laws_eqBallS.f k a0 a1) (laws_eqBallS.f (k+1) a0 a1):=by
 intro a0 a1 k
 have ih0:=laws_eqBallS.mono_l k
 unfold laws_eqBallS.f
 repeat' first
   | with_reducible first|exact ih0 ..|exact LeO.refl _|exact LeO.none _|refine LeO.ite ?_ ?_|refine LeO.bind ?_ fun _=>?_
def laws_eqBallS.T6:Bool × List (List Nat × List Nat):=(true,[([],[]),([],[]),([0,1],[0,1]),([2],[2]),([],[]),([],[]),([4,5],[4,5]),([6],[6]),([3,7],[3,7]),([8],[8])])
def laws_eqBallS.B6:List Nat:=[0,0,3,7,0,0,48,112,255,511]
theorem laws_eqBallS.tab6:rtab .any (opsOf Try.f7 6)=laws_eqBallS.T6:=by kernel_rfl
theorem laws_eqBallS.bits6:waitsOk laws_eqBallS.T6.2 laws_eqBallS.B6=true:=by kernel_rfl
set_option maxHeartbeats 8000000 in
set_option maxRecDepth 100000 in
theorem laws_eqBallS.calls (k:Nat) (A0:Option Addr) (c0:Nat) (l0:List (S38)) (A1:Option Addr) (c1:Nat) (l1:List (S38)) (r:Bool) (w:World) (hr0:Kd.C k38 w A0 l0.length l0) (hc0:l0.length≤c0) (hr1:Kd.C k38 w A1 l1.length l1) (hc1:l1.length≤c1) (h:laws_eqBallS.f k l0 l1=some r) :
  Calls Try.prog 7 #[.slice A0 l0.length c0,.slice A1 l1.length c1] w fun e w'=>e=.returned (.bool r)∧Below w.heap.size w w':=by
 have hu38:=Try.underlying38
 have HR0:=Aside0.mk hr0
 have HC0:=Aside0.mk hc0
 clear hr0 hc0
 have HR1:=Aside0.mk hr1
 have HC1:=Aside0.mk hc1
 clear hr1 hc1
 have HB:=Aside0.mk (Below.refl w.heap.size w)
 have H:=h
 unfold laws_eqBallS.f at H
 clear h
 by_cases c3:(l0.length:Int)=(l1.length:Int)
 ·
  rw [if_pos c3] at H
  have c3b0:((l0.length:Int) == (l1.length:Int))=true:=beq_iff_eq.mpr c3
  have c3b1:((l0.length:Int) != (l1.length:Int))=false:=bne_eq_false_iff_eq.mpr c3
  have c3b2:(l0.length == l1.length)=true:=by first|simpa using c3|(simp at c3 ⊢;omega)
  clear c3
  have H':=Aside0.mk H
  clear H
  go_enter Try.func7,Try.ntmps7
  go_wp2
  go_loopg [5] k (fun kq v5 w'=>∃ (x5_1:Int),v5=.int .i64 x5_1∧Aside0 (laws_eqBallS.l0 kq l0 l1 x5_1=some r)∧Aside0 (kq≤k)∧Aside0 (Below w.heap.size w w'))
  case atStart=>exact ⟨(0),hB,H',⟨Nat.le_refl _⟩,⟨blA⟩⟩
  case round=>
   clear H'
   try clear c1
   try clear c3
   try clear c3b0
   try clear c3b1
   try clear c3b2
   obtain ⟨x5_1,rfl,HA,HK1,HB⟩:=hrel
   cases gk with
   | zero=>exact absurd HA.out (by simp [laws_eqBallS.l0])
   | succ k1=>
    have H:=HA.out
    clear HA
    simp only [laws_eqBallS.l0] at H
    by_cases c4:x5_1<(l0.length:Int)
    ·
     rw [if_pos c4] at H
     have c4b0:=decide_eq_true c4
     clear c4
     by_cases c5:0≤x5_1
     rotate_left
     ·
      rw [if_neg c5] at H
      exact absurd H (by simp)
     rw [if_pos c5] at H
     have c5b0:=decide_eq_true c5
     clear c5
     by_cases c6:x5_1<(l1.length:Int)
     rotate_left
     ·
      rw [if_neg c6] at H
      exact absurd H (by simp)
     rw [if_pos c6] at H
     have c6b0:=decide_eq_true c6
     clear c6
     replace H:=bS H
     obtain ⟨t237,A7,H⟩:=H
     try dsimp only at H
     by_cases c8:t237=true
     focus
      subst c8
      rw [if_pos rfl] at H
      try dsimp only at H
      have H':=Aside0.mk H
      clear H
     rotate_left
     focus
      replace c8:=Bool.eq_false_iff.mpr c8
      subst c8
      rw [if_neg (show ¬ (false=true) by decide)] at H
      try dsimp only at H
      obtain rfl:=Option.some.inj H
     rotate_left
     all_goals
      try go_wp2
      have n0_:=Aside0.mk (below_drew1 HB.out)
      clear HB
      have HB:=n0_
      clear n0_
      have p235:0≤(x5_1:Int):=dA
      have q235:x5_1<(l0.length:Int):=dA
      obtain ⟨ad235,e235,hx235_0,hx235_1,hx235_2⟩:=at_T38 HR0.out x5_1 p235 q235
      have hw235_2:=hx235_2
      have hw235_1:=hx235_1
      have hw235_0:=hx235_0
      cases e235
      replace hx235_0:=(HB.out.cell (World.block_lt_of_cell? w _ hx235_0)).trans hx235_0
      replace hx235_1:=(HB.out.cell (World.block_lt_of_cell? w _ hx235_1)).trans hx235_1
      replace hx235_2:=(HB.out.cell (World.block_lt_of_cell? w _ hx235_2)).trans hx235_2
      replace p235:=eq_true p235
      replace q235:=eq_true q235
      have p236:0≤(x5_1:Int):=dA
      have q236:x5_1<(l1.length:Int):=dA
      obtain ⟨ad236,e236,hx236_0,hx236_1,hx236_2⟩:=at_T38 HR1.out x5_1 p236 q236
      have hw236_2:=hx236_2
      have hw236_1:=hx236_1
      have hw236_0:=hx236_0
      cases e236
      replace hx236_0:=(HB.out.cell (World.block_lt_of_cell? w _ hx236_0)).trans hx236_0
      replace hx236_1:=(HB.out.cell (World.block_lt_of_cell? w _ hx236_1)).trans hx236_1
      replace hx236_2:=(HB.out.cell (World.block_lt_of_cell? w _ hx236_2)).trans hx236_2
      replace p236:=eq_true p236
      replace q236:=eq_true q236
      refine start_ (n:=10) (S:=fun w'=>w'.cell? (ad235.add ((x5_1).toNat*3))=some (.int .i64 ((rd_T38 l0 x5_1).f0))∧w'.cell? ⟨(ad235.add ((x5_1).toNat*3)).block,(ad235.add ((x5_1).toNat*3)).off+1,none⟩=some (.int .i64 ((rd_T38 l0 x5_1).f1))∧w'.cell? ⟨(ad235.add ((x5_1).toNat*3)).block,(ad235.add ((x5_1).toNat*3)).off+2,none⟩=some (.int .i64 ((rd_T38 l0 x5_1).f2))∧w'.cell? (ad236.add ((x5_1).toNat*3))=some (.int .i64 ((rd_T38 l1 x5_1).f0))∧w'.cell? ⟨(ad236.add ((x5_1).toNat*3)).block,(ad236.add ((x5_1).toNat*3)).off+1,none⟩=some (.int .i64 ((rd_T38 l1 x5_1).f1))∧w'.cell? ⟨(ad236.add ((x5_1).toNat*3)).block,(ad236.add ((x5_1).toNat*3)).off+2,none⟩=some (.int .i64 ((rd_T38 l1 x5_1).f2))) (ds:=[]) #[Z,Z,Z,Z,Z,Z,Z,Z,Z,Z] (by kernel_rfl) rfl rfl ⟨((HB.out.cell (World.block_lt_of_cell? w _ hw235_0)).trans hw235_0),((HB.out.cell (World.block_lt_of_cell? w _ hw235_1)).trans hw235_1),((HB.out.cell (World.block_lt_of_cell? w _ hw235_2)).trans hw235_2),((HB.out.cell (World.block_lt_of_cell? w _ hw236_0)).trans hw236_0),((HB.out.cell (World.block_lt_of_cell? w _ hw236_1)).trans hw236_1),((HB.out.cell (World.block_lt_of_cell? w _ hw236_2)).trans hw236_2)⟩ (fun hHeld=>?_);refine with_tabW laws_eqBallS.tab6 laws_eqBallS.bits6 (fun HT_ HW_=>?_)
      generalize wr.drew=w9 at HB hx235_0 hx235_1 hx235_2 hx236_0 hx236_1 hx236_2 hHeld ⊢
      refine puA (i:=0) (N:=some 17) #[Y,Z,Z,Z,Z,Z,Z,Z,Z,Z] rfl rfl HT_ ?_
      refine puA (i:=1) (N:=some 18) #[Y,Y,Z,Z,Z,Z,Z,Z,Z,Z] rfl rfl HT_ ?_
      refine puA (i:=2) (N:=some 19) #[Y,Y,Y,Z,Z,Z,Z,Z,Z,Z] rfl rfl HT_ ?_
      refine puA (i:=4) (N:=some 21) #[Y,Y,Y,Z,Y,Z,Z,Z,Z,Z] rfl rfl HT_ ?_
      refine puA (i:=5) (N:=some 22) #[Y,Y,Y,Z,Y,Y,Z,Z,Z,Z] rfl rfl HT_ ?_
      refine puA (i:=6) (N:=some 23) #[Y,Y,Y,Z,Y,Y,Y,Z,Z,Z] rfl rfl HT_ ?_
      refine taA (i:=3) (N:=some 20) #[Y,Y,Y,Y,Y,Y,Y,Z,Z,Z] rfl rfl HT_ HW_ hHeld ?_
      refine taA (i:=7) (N:=some 24) #[Y,Y,Y,Y,Y,Y,Y,Y,Z,Z] rfl rfl HT_ HW_ hHeld ?_
      refine one_ (i:=8) (N:=some 25) #[Y,Y,Y,Y,Y,Y,Y,Y,Y,Z] rfl rfl (one_of HT_.out (by kernel_rfl)) (by decide) (fun K hK=>?_)
      refine goC Try.func19 (laws_eqBall.calls (w:=_) (h:=A7.out)) ?_
      intro w10 hb
      replace HB:=lB hb
      (try clear hb)
      (try clear hb2)
      (try clear hk)
      (try clear hi)
      refine hK.out _ _ ⟨((HB.out.cell (World.block_lt_of_cell? w _ hw235_0)).trans hw235_0),((HB.out.cell (World.block_lt_of_cell? w _ hw235_1)).trans hw235_1),((HB.out.cell (World.block_lt_of_cell? w _ hw235_2)).trans hw235_2),((HB.out.cell (World.block_lt_of_cell? w _ hw236_0)).trans hw236_0),((HB.out.cell (World.block_lt_of_cell? w _ hw236_1)).trans hw236_1),((HB.out.cell (World.block_lt_of_cell? w _ hw236_2)).trans hw236_2)⟩ (fun hHeld=>?_)
      clear hK K
      refine nmA ?_
      refine puA (i:=9) (N:=some 26) #[Y,Y,Y,Y,Y,Y,Y,Y,Y,Y] rfl rfl HT_ ?_
      refine done_ (done_of HT_.out (by kernel_rfl)) ?_
      try go_wp2
     ·
      go_roundg k1
      case measure=>have:=HK1.out;omega
      case rel=>exact ⟨(wrap64 (x5_1+1)),hB,H',⟨by have:=HK1.out;omega⟩,⟨blA⟩⟩
     ·
      go_ret
      exact finA blA
    ·
     rw [if_neg c4] at H
     have c4b0:=decide_eq_false c4
     clear c4
     obtain rfl:=Option.some.inj H
     go_wp2
     go_ret
     exact finA blA
 ·
  rw [if_neg c3] at H
  have c3b0:((l0.length:Int) == (l1.length:Int))=false:=beq_eq_false_iff_ne.mpr c3
  have c3b1:((l0.length:Int) != (l1.length:Int))=true:=bne_iff_ne.mpr c3
  have c3b2:(l0.length == l1.length)=false:=by first|simpa using c3|(simp at c3 ⊢;omega)
  obtain rfl:=Option.some.inj H
  go_enter Try.func7,Try.ntmps7
  go_wp2
  go_ret
  exact finA blA
def impl_times.f (k:Nat) (a0 a1 a2:Int):Option (Int):=(impl_mod.f a0 a2).bind fun t102=>((impl_mod.f a1 a2).bind fun t103=>((bits_Mul64.f (IntKind.u64.wrap (t102)) (IntKind.u64.wrap (t103))).bind fun bt104=>(if (IntKind.u64.wrap (a2))=0 then (none) else ((bits_Div64.f k (Int.tmod bt104.1 (IntKind.u64.wrap (a2))) bt104.2 (IntKind.u64.wrap (a2))).bind fun bt106=>(some (wrap64 (bt106.2)))))))
theorem impl_times.mono:∀ a0 a1 a2 k,LeO (impl_times.f k a0 a1 a2) (impl_times.f (k+1) a0 a1 a2):=by
 intro a0 a1 a2 k
 unfold impl_times.f
 repeat' first
   | with_reducible first|exact bits_Div64.mono ..|exact LeO.refl _|exact LeO.none _|refine LeO.ite ?_ ?_|refine LeO.bind ?_ fun _=>?_
set_option maxHeartbeats 8000000 in
set_option maxRecDepth 100000 in
theorem impl_times.calls (k:Nat) (a0 a1 a2 r:Int) (w:World) (h:impl_times.f k a0 a1 a2=some r) :
  Calls Try.prog 30 #[.int .i64 a0,.int .i64 a1,.int .i64 a2] w fun e w'=>e=.returned (.int .i64 r)∧Drawn0 w w':=by
 have H:=h
 unfold impl_times.f at H
 clear h
 replace H:=bS H
 obtain ⟨t102,A4,H⟩:=H
 try dsimp only at H
 replace H:=bS H
 obtain ⟨t103,A5,H⟩:=H
 try dsimp only at H
 replace H:=bS H
 obtain ⟨⟨t104,t105⟩,A6,H⟩:=H
 try dsimp only at H
 by_cases c7:(IntKind.u64.wrap (a2))=0
 ·
  rw [if_pos c7] at H
  exact absurd H (by simp)
 rw [if_neg c7] at H
 have c7b0:((IntKind.u64.wrap (a2)) == 0)=false:=beq_eq_false_iff_ne.mpr c7
 have c7b1:((IntKind.u64.wrap (a2)) != 0)=true:=bne_iff_ne.mpr c7
 replace H:=bS H
 obtain ⟨⟨t106,t107⟩,A8,H⟩:=H
 try dsimp only at H
 obtain rfl:=Option.some.inj H
 go_enter Try.func30,Try.ntmps30
 go_wp2_with (first|((with_reducible refine gd 14 rfl ?_);refine gC (some 14) rfl Try.func44 (impl_mod.calls (w:=_) (h:=A4.out)) ?_;rintro _ ⟨nd,rfl⟩)|((with_reducible refine gd 18 rfl ?_);refine gC (some 18) rfl Try.func44 (impl_mod.calls (w:=_) (h:=A5.out)) ?_;rintro _ ⟨nd,rfl⟩)|((with_reducible refine gd 20 rfl ?_);refine gC (some 20) rfl Try.func43 (bits_Mul64.calls (w:=_) (h:=A6.out)) ?_;rintro _ ⟨nd,rfl⟩)|((with_reducible refine gd 31 rfl ?_);refine gC (some 31) rfl Try.func45 (bits_Div64.calls (w:=_) (h:=A8.out)) ?_;rintro _ ⟨nd,rfl⟩))
 go_ret
 exact ⟨by first|rfl|(simp;done)|(simp [*];done),by repeat (first|exact Drawn0.refl _|apply Drawn0.step)⟩
def spec_l01Code.l0:Nat→Int→List (S38)→Int→Option (Int)
 | 0,_,_,_=>none
 | k+1,x0,x1,x5=>if x5<(x1.length:Int) then (if 0≤x5 then ((spec_l01Is.f k x0 ((rd_T38 x1 x5).f0) ((rd_T38 x1 x5).f1) ((rd_T38 x1 x5).f2)).bind fun t141=>(if t141=true then (spec_l01Code.l0 k x0 x1 (wrap64 (x5+1))) else (some 1))) else (none)) else (some 0)
def spec_l01Code.f (k:Nat) (a0:Int) (l1:List (S38)):Option (Int):=(spec_l01Prime.f a0).bind fun t139=>(if t139=true then (spec_l01Code.l0 k a0 l1 0) else (some 1))
theorem spec_l01Code.mono_l:∀ k,(∀ y0 y1 y2,LeO (spec_l01Code.l0 k y0 y1 y2) (spec_l01Code.l0 (k+1) y0 y1 y2))
 | 0=>fun _ _ _ r h=>by simp [spec_l01Code.l0] at h
 | k+1=>by
  have ih0:=spec_l01Code.mono_l k
  ·
   intro y0 y1 y2
   unfold spec_l01Code.l0
   repeat' first
   | with_reducible first|exact ih0 ..|exact spec_l01Is.mono ..|exact LeO.refl _|exact LeO.none _|refine LeO.ite ?_ ?_|refine LeO.bind ?_ fun _=>?_
theorem spec_l01Code.mono:∀ a0 a1 k,LeO (spec_l01Code.f k a0 a1) (spec_l01Code.f (k+1) a0 a1):=by
 intro a0 a1 k
 have ih0:=spec_l01Code.mono_l k
 unfold spec_l01Code.f
 repeat' first
   | with_reducible first|exact ih0 ..|exact spec_l01Is.mono ..|exact LeO.refl _|exact LeO.none _|refine LeO.ite ?_ ?_|refine LeO.bind ?_ fun _=>?_
set_option maxHeartbeats 8000000 in
set_option maxRecDepth 100000 in
theorem spec_l01Code.calls (k:Nat) (a0:Int) (A1:Option Addr) (c1:Nat) (l1:List (S38)) (r:Int) (w:World) (hr1:Kd.C k38 w A1 l1.length l1) (hc1:l1.length≤c1) (h:spec_l01Code.f k a0 l1=some r) :
  Calls Try.prog 20 #[.int .i64 a0,.slice A1 l1.length c1] w fun e w'=>e=.returned (.int .i64 r)∧Below w.heap.size w w':=by
 have hu38:=Try.underlying38
 have HR1:=Aside0.mk hr1
 have HC1:=Aside0.mk hc1
 clear hr1 hc1
 have HB:=Aside0.mk (Below.refl w.heap.size w)
 have H:=h
 unfold spec_l01Code.f at H
 clear h
 replace H:=bS H
 obtain ⟨t139,A3,H⟩:=H
 try dsimp only at H
 by_cases c4:t139=true
 focus
  subst c4
  rw [if_pos rfl] at H
  try dsimp only at H
  have H':=Aside0.mk H
  clear H
 rotate_left
 focus
  replace c4:=Bool.eq_false_iff.mpr c4
  subst c4
  rw [if_neg (show ¬ (false=true) by decide)] at H
  try dsimp only at H
  obtain rfl:=Option.some.inj H
 rotate_left
 all_goals
  go_enter Try.func20,Try.ntmps20
  go_wp2_with (first|((with_reducible refine gd 7 rfl ?_);refine gC (some 7) rfl Try.func35 (spec_l01Prime.calls (w:=_) (h:=A3.out)) ?_;rintro _ ⟨nd,rfl⟩))
 ·
  go_loopg [5] k (fun kq v5 w'=>∃ (x5_1:Int),v5=.int .i64 x5_1∧Aside0 (spec_l01Code.l0 kq a0 l1 x5_1=some r)∧Aside0 (kq≤k)∧Aside0 (Below w.heap.size w w'))
  case atStart=>exact ⟨(0),hB,H',⟨Nat.le_refl _⟩,⟨blA⟩⟩
  case round=>
   clear H'
   try clear c1
   try clear c4
   obtain ⟨x5_1,rfl,HA,HK1,HB⟩:=hrel
   cases gk with
   | zero=>exact absurd HA.out (by simp [spec_l01Code.l0])
   | succ k1=>
    have H:=HA.out
    clear HA
    simp only [spec_l01Code.l0] at H
    by_cases c5:x5_1<(l1.length:Int)
    ·
     rw [if_pos c5] at H
     have c5b0:=decide_eq_true c5
     clear c5
     by_cases c6:0≤x5_1
     rotate_left
     ·
      rw [if_neg c6] at H
      exact absurd H (by simp)
     rw [if_pos c6] at H
     have c6b0:=decide_eq_true c6
     clear c6
     replace H:=bS H
     obtain ⟨t141,A7,H⟩:=H
     try dsimp only at H
     by_cases c8:t141=true
     focus
      subst c8
      rw [if_pos rfl] at H
      try dsimp only at H
      have H':=Aside0.mk H
      clear H
      have p140:0≤(x5_1:Int):=dA
      have q140:x5_1<(l1.length:Int):=dA
      obtain ⟨ad140,e140,hx140_0,hx140_1,hx140_2⟩:=at_T38 HR1.out x5_1 p140 q140
      cases e140
      replace hx140_0:=(HB.out.cell (World.block_lt_of_cell? w _ hx140_0)).trans hx140_0
      replace hx140_1:=(HB.out.cell (World.block_lt_of_cell? w _ hx140_1)).trans hx140_1
      replace hx140_2:=(HB.out.cell (World.block_lt_of_cell? w _ hx140_2)).trans hx140_2
      replace p140:=eq_true p140
      replace q140:=eq_true q140
     rotate_left
     focus
      replace c8:=Bool.eq_false_iff.mpr c8
      subst c8
      rw [if_neg (show ¬ (false=true) by decide)] at H
      try dsimp only at H
      obtain rfl:=Option.some.inj H
      have p140:0≤(x5_1:Int):=dA
      have q140:x5_1<(l1.length:Int):=dA
      obtain ⟨ad140,e140,hx140_0,hx140_1,hx140_2⟩:=at_T38 HR1.out x5_1 p140 q140
      cases e140
      replace hx140_0:=(HB.out.cell (World.block_lt_of_cell? w _ hx140_0)).trans hx140_0
      replace hx140_1:=(HB.out.cell (World.block_lt_of_cell? w _ hx140_1)).trans hx140_1
      replace hx140_2:=(HB.out.cell (World.block_lt_of_cell? w _ hx140_2)).trans hx140_2
      replace p140:=eq_true p140
      replace q140:=eq_true q140
     rotate_left
     all_goals
      go_wp2_with (first|((with_reducible refine gd 20 rfl ?_);refine gC (some 20) rfl Try.func36 (spec_l01Is.calls (w:=_) (h:=A7.out)) ?_;intro w9 hb;replace HB:=lB hb;clear hb))
     ·
      go_roundg k1
      case measure=>have:=HK1.out;omega
      case rel=>exact ⟨(wrap64 (x5_1+1)),hB,H',⟨by have:=HK1.out;omega⟩,⟨blA⟩⟩
     ·
      go_ret
      exact finA blA
    ·
     rw [if_neg c5] at H
     have c5b0:=decide_eq_false c5
     clear c5
     obtain rfl:=Option.some.inj H
     go_wp2
     go_ret
     exact finA blA
 ·
  go_ret
  exact finA blA
mutual
def spec_l05Side.j0:Nat→Int→Int→Int→List (S38)→Int→Int→Int→Option ((List (S38)) × Bool)
 | 0,_,_,_,_,_,_,_=>none
 | k+1,x0,x2,x3,x10,x11,x165000,x165001=>spec_l05Side.l0 k x0 x3 x10 x11 x2 x165000 x165001
def spec_l05Side.l0:Nat→Int→Int→List (S38)→Int→Int→Int→Int→Option ((List (S38)) × Bool)
 | 0,_,_,_,_,_,_,_=>none
 | k+1,x0,x3,x10,x11,x12,x165000,x165001=>(spec_l01Of.f k x0 x165000 x165001 x12).bind fun bt168=>(if bt168.2.2.2=true then (if x10.length<5864062014805 then ((some (x10 ++ [(⟨bt168.1,bt168.2.1,bt168.2.2.1⟩:S38)]:List (S38))).bind fun y173=>(if x12=x3 then (some (y173,true)) else (spec_l05Side.l0 k x0 x3 y173 x11 (wrap64 (x12+x11)) x165000 x165001))) else (none)) else (some (([]:List (S38)),false)))
end
def spec_l05Side.f (k:Nat) (a0 a1_0 a1_1 a2 a3:Int):Option ((List (S38)) × Bool):=(some (([]:List (S38)):List (S38))).bind fun y165=>(if a3<a2 then (spec_l05Side.j0 k a0 a2 a3 y165 (-1) a1_0 a1_1) else (spec_l05Side.j0 k a0 a2 a3 y165 1 a1_0 a1_1))
theorem spec_l05Side.mono_l:∀ k,(∀ y0 y1 y2 y3 y4 y5 y6,LeO (spec_l05Side.j0 k y0 y1 y2 y3 y4 y5 y6) (spec_l05Side.j0 (k+1) y0 y1 y2 y3 y4 y5 y6))∧(∀ y0 y1 y2 y3 y4 y5 y6,LeO (spec_l05Side.l0 k y0 y1 y2 y3 y4 y5 y6) (spec_l05Side.l0 (k+1) y0 y1 y2 y3 y4 y5 y6))
 | 0=>by refine ⟨?_,?_⟩ <;> (intros;intro r h;simp [spec_l05Side.j0,spec_l05Side.l0] at h)
 | k+1=>by
  obtain ⟨ih0,ih1⟩:=spec_l05Side.mono_l k
  refine ⟨?_,?_⟩ <;> (intros;first|unfold spec_l05Side.j0|unfold spec_l05Side.l0)
  all_goals repeat' first
  | with_reducible first|exact ih0 ..|exact ih1 ..|exact spec_l01Of.mono ..|exact LeO.refl _|exact LeO.none _|refine LeO.ite ?_ ?_|refine LeO.bind ?_ fun _=>?_
theorem spec_l05Side.mono:∀ a0 a1 a2 a3 a4 k,LeO (spec_l05Side.f k a0 a1 a2 a3 a4) (spec_l05Side.f (k+1) a0 a1 a2 a3 a4):=by
 intro a0 a1 a2 a3 a4 k
 obtain ⟨ih0,ih1⟩:=spec_l05Side.mono_l k
 unfold spec_l05Side.f
 repeat' first
   | with_reducible first|exact ih0 ..|exact ih1 ..|exact spec_l01Of.mono ..|exact LeO.refl _|exact LeO.none _|refine LeO.ite ?_ ?_|refine LeO.bind ?_ fun _=>?_
set_option maxHeartbeats 8000000 in
set_option maxRecDepth 100000 in
theorem spec_l05Side.calls (k:Nat) (a0 a1_0 a1_1 a2 a3:Int) (r1:List (S38)) (r2:Bool) (w:World) (h:spec_l05Side.f k a0 a1_0 a1_1 a2 a3=some (r1,r2)) :
  Calls Try.prog 12 #[.int .i64 a0,.agg #[.int .i64 a1_0,.int .i64 a1_1],.int .i64 a2,.int .i64 a3] w fun e w'=>∃ v0_:Value,e=.returned (.tuple #[v0_,.bool r2])∧Kd.R k38 38 w' w.heap.size (fun _=>True) v0_ r1∧Below w.heap.size w w':=by
 have hu27:=Try.underlying27
 have hu38:=Try.underlying38
 have HB:=Aside0.mk (Below.refl w.heap.size w)
 have H:=h
 unfold spec_l05Side.f at H
 clear h
 obtain ⟨y165,hy165⟩:∃ y_:List (S38),y_=(([]:List (S38))):=⟨_,rfl⟩
 replace H:(if a3<a2 then (spec_l05Side.j0 k a0 a2 a3 y165 (-1) a1_0 a1_1) else (spec_l05Side.j0 k a0 a2 a3 y165 1 a1_0 a1_1))=some (r1,r2):=rH hy165 H
 have Ny165:=Aside0.mk hy165
 clear hy165
 have HC5:=Aside0.mk H
 clear H
 go_enter Try.func12,Try.ntmps12
 go_upto_if 18 with (first|((with_reducible refine gate_dst (N:=5) rfl ?_);refine bxE (cs:=#[.int .i64 a1_0,.int .i64 a1_1]) (t:=27) ?_;intro gb164 hg w6 hbox hb;have BK164:=Aside0.mk hbox;have GW164:=sA hg;have GE164:=sA hg;replace HB:=lB hb;clear hb hbox hg)|((with_reducible refine gate_dst (N:=15) rfl ?_);refine Kd.R_lit k38 _ 38 ?hg (N:=15) ?hd (xs:=([]:List (S38))) (inner:=[]) (ok:=fun _=>True) (okp:=fun _=>True) ?hr ?hp (fun _ hk=>hk) trivial (Below.refl _ _) (Nat.le_refl _) (by simp) ?_;(case hd=>rfl);(case hg=>rfl);(case hr=>first|(go_simp;done)|(go_simp;rfl));(case hp=>exact (Reps.none _ _));intro v166 w7 ho8 hb hg_ hnew_;clear hg_ hnew_;(first|rw [← Ny165.out] at ho8|(simp only [Int.reduceToNat] at ho8;rw [← Ny165.out] at ho8));have HO167:=Aside0.mk (Kd.R_lower ho8 (below_size blA));replace BK164:=kB BK164 hb;replace HB:=lB hb;clear hb ho8))
 (try simp only [Act.put,List.setIfInBounds_toArray,List.set_cons_zero,List.set_cons_succ])
 go_cut [11] (fun v11 wc=>∃ (kq:Nat) (x11_4:Int),v11=.int .i64 x11_4∧Aside0 (spec_l05Side.j0 kq a0 a2 a3 y165 x11_4 a1_0 a1_1=some (r1,r2))∧Aside0 (kq≤k)∧Aside0 (Kd.R k38 38 wc w.heap.size (fun _=>True) v166 y165)∧Aside0 (wc.heap[gb164]?=some (.cells #[.int .i64 a1_0,.int .i64 a1_1] 27 (0,0)))∧Aside0 (Below w.heap.size w wc))
 case first=>
  have H:=HC5.out
  clear HC5
  by_cases c9:a3<a2
  ·
   rw [if_pos c9] at H
   have c9b0:=decide_eq_true c9
   clear c9
   (first|rw [c9b0]|(simp only [i64_w,i32_w];rw [c9b0])|skip)
   have H':=Aside0.mk H
   clear H
   go_wp2
   go_meet
   case rel=>exact ⟨_,((-1)),hB,H',⟨by first|omega|exact Nat.le_refl _⟩,⟨rA HO167⟩,⟨bkA BK164⟩,⟨blA⟩⟩
  ·
   rw [if_neg c9] at H
   have c9b0:=decide_eq_false c9
   clear c9
   (first|rw [c9b0]|(simp only [i64_w,i32_w];rw [c9b0])|skip)
   have H':=Aside0.mk H
   clear H
   go_wp2
   go_meet
   case rel=>exact ⟨_,(1),hB,H',⟨by first|omega|exact Nat.le_refl _⟩,⟨rA HO167⟩,⟨bkA BK164⟩,⟨blA⟩⟩
 case rest=>
  clear HC5
  try clear c9
  try clear c9b0
  obtain ⟨kq,x11_4,rfl,HA,HJ4,HO_10,BK164,HB⟩:=hcut
  cases kq with
  | zero=>exact absurd HA.out (by simp [spec_l05Side.j0])
  | succ kj4=>
   have H:=HA.out
   clear HA
   simp only [spec_l05Side.j0] at H
   have H':=Aside0.mk H
   clear H
   go_wp2
   go_loopg [10,12] kj4 (fun kq v10 v12 w'=>∃ (x10_2:List (S38)) (x12_2:Int),v12=.int .i64 x12_2∧Aside0 (spec_l05Side.l0 kq a0 a3 x10_2 x11_4 x12_2 a1_0 a1_1=some (r1,r2))∧Aside0 (kq≤kj4)∧Aside0 (Kd.R k38 38 w' w.heap.size (fun _=>True) v10 x10_2)∧Aside0 (w'.heap[gb164]?=some (.cells #[.int .i64 a1_0,.int .i64 a1_1] 27 (0,0)))∧Aside0 (Below w.heap.size w w'))
   case atStart=>exact ⟨(y165),(a2),hB,H',⟨Nat.le_refl _⟩,⟨rA HO_10⟩,⟨bkA BK164⟩,⟨blA⟩⟩
   case round=>
    clear H'
    try clear c9
    try clear c9b0
    obtain ⟨x10_2,x12_2,rfl,HA,HK2,HO_10,BK164,HB⟩:=hrel
    cases gk with
    | zero=>exact absurd HA.out (by simp [spec_l05Side.l0])
    | succ k2=>
     have H:=HA.out
     clear HA
     simp only [spec_l05Side.l0] at H
     replace H:=bS H
     obtain ⟨⟨t168,t169,t170,t171⟩,A10,H⟩:=H
     try dsimp only at H
     by_cases c11:t171=true
     ·
      subst c11
      rw [if_pos rfl] at H
      try dsimp only at H
      by_cases c12:x10_2.length<5864062014805
      rotate_left
      ·
       rw [if_neg c12] at H
       exact absurd H (by simp)
      rw [if_pos c12] at H
      have LMc12:=Aside0.mk c12
      clear c12
      obtain ⟨y173,hy173⟩:∃ y_:List (S38),y_=(x10_2 ++ [(⟨t168,t169,t170⟩:S38)]):=⟨_,rfl⟩
      replace H:(if x12_2=a3 then (some (y173,true)) else (spec_l05Side.l0 k2 a0 a3 y173 x11_4 (wrap64 (x12_2+x11_4)) a1_0 a1_1))=some (r1,r2):=rH hy173 H
      have Ny173:=Aside0.mk hy173
      clear hy173
      by_cases c13:x12_2=a3
      focus
       rw [if_pos c13] at H
       have c13b0:(x12_2 == a3)=true:=beq_iff_eq.mpr c13
       have c13b1:(x12_2 != a3)=false:=bne_eq_false_iff_eq.mpr c13
       clear c13
       simp only [Option.some.injEq,Prod.mk.injEq] at H
       obtain ⟨rfl,rfl⟩:=H
       obtain ⟨hcz14_0,hcz14_1,hfz14_0,hfz14_1⟩:=cz2 BK164
      rotate_left
      focus
       rw [if_neg c13] at H
       have c13b0:(x12_2 == a3)=false:=beq_eq_false_iff_ne.mpr c13
       have c13b1:(x12_2 != a3)=true:=bne_iff_ne.mpr c13
       have H':=Aside0.mk H
       clear H
       obtain ⟨hcz20_0,hcz20_1,hfz20_0,hfz20_1⟩:=cz2 BK164
      rotate_left
      all_goals
       go_wp2_with (first|((with_reducible refine gd 30 rfl ?_);refine gC (some 30) rfl Try.func23 (spec_l01Of.calls (w:=_) (h:=A10.out)) ?_;intro w15 hb;replace HO_10:=Aside0.mk (Kd.R_below (rA HO_10) hb);replace BK164:=kB BK164 hb;replace HB:=lB hb;clear hb)|((with_reducible refine gate_dst (N:=13) rfl ?_);refine bxE (cs:=#[.int .i64 0,.int .i64 0,.int .i64 0]) (t:=38) ?_;intro gb172 hg w16 hbox hb;have BK172:=Aside0.mk hbox;have GW172:=sA hg;have GE172:=sA hg;have NB164_172:=nA hg BK164;have NB172_164:=nB hg BK164;replace HO_10:=Aside0.mk (Kd.R_below (Kd.R_elderB (rA HO_10) gb172 (Nat.le_of_eq hg.symm)) hb);replace BK164:=kB BK164 hb;replace HB:=lB hb;clear hb hbox hg;have hnb17:=NB172_164.out;have hnc17:=NB164_172.out;obtain ⟨hcz18_0,hcz18_1,hcz18_2,hfz18_0,hfz18_1,hfz18_2⟩:=cz3 BK172)|((with_reducible refine gate_builtin (b:=.append) (xs:=#[.tmp 35,.tmp 37]) rfl ?_);at_builtin;refine Kd.R_append k38 (w0:=w) w.heap.size rfl (.tmp 35) (.tmp 37) 24 38 (.agg #[(.int .i64 0),(.int .i64 0),(.int .i64 0)]) 24 rfl Try.underlying24 info38 rfl (by decide) (by omega) u10 x10_2 (⟨t168,t169,t170⟩:S38) [.int .i64 t168,.int .i64 t169,.int .i64 t170] (fun k_=>k_≠gb172) (fun _=>False) rfl (by first|(go_simp;done)|(go_simp;rfl)) ?aP (fun _ hk=>hk.elim) ?aF ?aO ?aB ?aS ?aL ?_;(case aP=>exact k38_mkM _ _ _ (⟨t168,t169,t170⟩:S38));(case aB=>exact blA);(case aF=>exact (fun k_ hk=>Kd.freshB (g:=gb172) (o:=.cells #[.int .i64 t168,.int .i64 t169,.int .i64 t170] 38 (0,0)) (bpA BK172) k_ hk));(case aO=>exact (by (with_reducible repeat (first|apply Kd.R_alloc|apply Kd.R_drewN|apply Kd.R_drew));exact Kd.R_mono (Kd.R_far (p:=⟨gb172,2,none⟩) (Kd.R_far (p:=⟨gb172,1,none⟩) (Kd.R_far (p:=⟨gb172,0,none⟩) (Kd.R_mono HO_10.out (fun k_ hk=>(⟨hk,hk.2⟩:_∧k_≠gb172))) (fun _ hk=>hk.2) (.int .i64 t168)) (fun _ hk=>hk.2) (.int .i64 t169)) (fun _ hk=>hk.2) (.int .i64 t170)) (fun _ hk=>hk.1.2)));(case aS=>exact (below_size blA));(case aL=>have:=LMc12.out;omega);intro v174 w19 ho hb hg hat;rw [← Ny173.out] at ho;have n0_:=Aside0.mk (blk_grown (g:=gb164) (o:=.cells #[.int .i64 a1_0,.int .i64 a1_1] 27 (0,0)) (bkF BK164) hg (Kd.R_ne HO_10.out BK164.out (by decide)));have n1_:=Aside0.mk (blk_grown (g:=gb172) (o:=.cells #[.int .i64 t168,.int .i64 t169,.int .i64 t170] 38 (0,0)) (bpA BK172) hg (Kd.R_away HO_10.out (fun _ hk=>hk.2)));have n2_:=Aside0.mk hb;have n3_:=Aside0.mk ho;clear BK164;clear BK172;clear HB;clear HO_10;have BK164:=n0_;have BK172:=n1_;have HB:=n2_;have HO175:=n3_;clear n0_ n1_ n2_ n3_;clear ho hb hg hat))
      ·
       go_ret2
       exact ⟨_,eW,by (with_reducible repeat (first|apply Kd.R_alloc|apply Kd.R_drewN|apply Kd.R_drew));exact Kd.R_mono HO175.out (fun _ hk=>trivial),blA⟩
      ·
       go_roundg k2
       case measure=>have:=HJ4.out;have:=HK2.out;omega
       case rel=>exact ⟨(y173),(wrap64 (x12_2+x11_4)),hB,H',⟨by have:=HJ4.out;have:=HK2.out;omega⟩,⟨by (with_reducible repeat (first|apply Kd.R_alloc|apply Kd.R_drewN|apply Kd.R_drew));exact Kd.R_mono HO175.out (fun _ hk=>trivial)⟩,⟨bkA BK164⟩,⟨blA⟩⟩
     ·
      replace c11:=Bool.eq_false_iff.mpr c11
      subst c11
      rw [if_neg (show ¬ (false=true) by decide)] at H
      try dsimp only at H
      simp only [Option.some.injEq,Prod.mk.injEq] at H
      obtain ⟨rfl,rfl⟩:=H
      obtain ⟨hcz26_0,hcz26_1,hfz26_0,hfz26_1⟩:=cz2 BK164
      go_wp2_with (first|((with_reducible refine gd 30 rfl ?_);refine gC (some 30) rfl Try.func23 (spec_l01Of.calls (w:=_) (h:=A10.out)) ?_;intro w27 hb;replace HO_10:=Aside0.mk (Kd.R_below (rA HO_10) hb);replace BK164:=kB BK164 hb;replace HB:=lB hb;clear hb)|((with_reducible refine gate_dst (N:=13) rfl ?_);refine bxE (cs:=#[.int .i64 0,.int .i64 0,.int .i64 0]) (t:=38) ?_;intro gb172 hg w28 hbox hb;have BK172:=Aside0.mk hbox;have GW172:=sA hg;have GE172:=sA hg;have NB164_172:=nA hg BK164;have NB172_164:=nB hg BK164;replace HO_10:=Aside0.mk (Kd.R_below (Kd.R_elderB (rA HO_10) gb172 (Nat.le_of_eq hg.symm)) hb);replace BK164:=kB BK164 hb;replace HB:=lB hb;clear hb hbox hg;have hnb29:=NB172_164.out;have hnc29:=NB164_172.out;obtain ⟨hcz30_0,hcz30_1,hcz30_2,hfz30_0,hfz30_1,hfz30_2⟩:=cz3 BK172))
      go_ret2
      exact ⟨_,eW,nlA,blA⟩
def impl_areEnds.l0:Nat→List (S27)→Int→Int→Option (Bool)
 | 0,_,_,_=>none
 | k+1,x5,x6,x7=>if x7<x6 then (if 0≤x7 then (if x7<(x5.length:Int) then ((impl_IsEnd.f k ((rd_T27 x5 x7).f0) ((rd_T27 x5 x7).f1)).bind fun t224=>(if t224=true then (impl_areEnds.l0 k x5 x6 (wrap64 (x7+1))) else (some false))) else (none)) else (none)) else (some true)
def impl_areEnds.f (k:Nat) (l0:List (S27)):Option (Bool):=impl_areEnds.l0 k l0 (l0.length:Int) 0
theorem impl_areEnds.mono_l:∀ k,(∀ y0 y1 y2,LeO (impl_areEnds.l0 k y0 y1 y2) (impl_areEnds.l0 (k+1) y0 y1 y2))
 | 0=>fun _ _ _ r h=>by simp [impl_areEnds.l0] at h
 | k+1=>by
  have ih0:=impl_areEnds.mono_l k
  ·
   intro y0 y1 y2
   unfold impl_areEnds.l0
   repeat' first
   | with_reducible first|exact ih0 ..|exact impl_IsEnd.mono ..|exact LeO.refl _|exact LeO.none _|refine LeO.ite ?_ ?_|refine LeO.bind ?_ fun _=>?_
theorem impl_areEnds.mono:∀ a0 k,LeO (impl_areEnds.f k a0) (impl_areEnds.f (k+1) a0):=by
 intro a0 k
 have ih0:=impl_areEnds.mono_l k
 unfold impl_areEnds.f
 repeat' first
   | with_reducible first|exact ih0 ..|exact impl_IsEnd.mono ..|exact LeO.refl _|exact LeO.none _|refine LeO.ite ?_ ?_|refine LeO.bind ?_ fun _=>?_
set_option maxHeartbeats 8000000 in
set_option maxRecDepth 100000 in
theorem impl_areEnds.calls (k:Nat) (A0:Option Addr) (c0:Nat) (l0:List (S27)) (r:Bool) (w:World) (hr0:Kd.C k27 w A0 l0.length l0) (hc0:l0.length≤c0) (h:impl_areEnds.f k l0=some r) :
  Calls Try.prog 15 #[.slice A0 l0.length c0] w fun e w'=>e=.returned (.bool r)∧Below w.heap.size w w':=by
 have hu27:=Try.underlying27
 have HR0:=Aside0.mk hr0
 have HC0:=Aside0.mk hc0
 clear hr0 hc0
 have HB:=Aside0.mk (Below.refl w.heap.size w)
 have H:=h
 unfold impl_areEnds.f at H
 clear h
 have H':=Aside0.mk H
 clear H
 go_enter Try.func15,Try.ntmps15
 go_wp2
 go_loopg [7] k (fun kq v7 w'=>∃ (x7_1:Int),v7=.int .i64 x7_1∧Aside0 (impl_areEnds.l0 kq l0 (l0.length:Int) x7_1=some r)∧Aside0 (kq≤k)∧Aside0 (Below w.heap.size w w'))
 case atStart=>exact ⟨(0),hB,H',⟨Nat.le_refl _⟩,⟨blA⟩⟩
 case round=>
  clear H'
  obtain ⟨x7_1,rfl,HA,HK1,HB⟩:=hrel
  cases gk with
  | zero=>exact absurd HA.out (by simp [impl_areEnds.l0])
  | succ k1=>
   have H:=HA.out
   clear HA
   simp only [impl_areEnds.l0] at H
   by_cases c2:x7_1<(l0.length:Int)
   ·
    rw [if_pos c2] at H
    have c2b0:=decide_eq_true c2
    clear c2
    by_cases c3:0≤x7_1
    rotate_left
    ·
     rw [if_neg c3] at H
     exact absurd H (by simp)
    rw [if_pos c3] at H
    have c3b0:=decide_eq_true c3
    clear c3
    by_cases c4:x7_1<(l0.length:Int)
    rotate_left
    ·
     rw [if_neg c4] at H
     exact absurd H (by simp)
    rw [if_pos c4] at H
    have c4b0:=decide_eq_true c4
    clear c4
    replace H:=bS H
    obtain ⟨t224,A5,H⟩:=H
    try dsimp only at H
    by_cases c6:t224=true
    focus
     subst c6
     rw [if_pos rfl] at H
     try dsimp only at H
     have H':=Aside0.mk H
     clear H
     have p222:0≤(x7_1:Int):=dA
     have q222:x7_1<(l0.length:Int):=dA
     obtain ⟨ad222,e222,hx222_0,hx222_1⟩:=at_T27 HR0.out x7_1 p222 q222
     cases e222
     replace hx222_0:=(HB.out.cell (World.block_lt_of_cell? w _ hx222_0)).trans hx222_0
     replace hx222_1:=(HB.out.cell (World.block_lt_of_cell? w _ hx222_1)).trans hx222_1
     replace p222:=eq_true p222
     replace q222:=eq_true q222
    rotate_left
    focus
     replace c6:=Bool.eq_false_iff.mpr c6
     subst c6
     rw [if_neg (show ¬ (false=true) by decide)] at H
     try dsimp only at H
     obtain rfl:=Option.some.inj H
     have p222:0≤(x7_1:Int):=dA
     have q222:x7_1<(l0.length:Int):=dA
     obtain ⟨ad222,e222,hx222_0,hx222_1⟩:=at_T27 HR0.out x7_1 p222 q222
     cases e222
     replace hx222_0:=(HB.out.cell (World.block_lt_of_cell? w _ hx222_0)).trans hx222_0
     replace hx222_1:=(HB.out.cell (World.block_lt_of_cell? w _ hx222_1)).trans hx222_1
     replace p222:=eq_true p222
     replace q222:=eq_true q222
    rotate_left
    all_goals
     go_wp2_with (first|((with_reducible refine gate_dst (N:=4) rfl ?_);refine bxE (cs:=#[.int .i64 0,.int .i64 0]) (t:=27) ?_;intro gb223 hg w7 hbox hb;have BK223:=Aside0.mk hbox;have GW223:=sA hg;have GE223:=sA hg;replace HB:=lB hb;clear hb hbox hg;obtain ⟨hcz8_0,hcz8_1,hfz8_0,hfz8_1⟩:=cz2 BK223)|((with_reducible refine gd 12 rfl ?_);refine gC (some 12) rfl Try.func26 (impl_IsEnd.calls (w:=_) (h:=A5.out)) ?_;intro w9 hb;have n0_:=Aside0.mk (blk_below (g:=gb223) (o:=.cells #[.int .i64 ((rd_T27 l0 x7_1).f0),.int .i64 ((rd_T27 l0 x7_1).f1)] 27 (0,0)) (bpA BK223) hb);have n1_:=lB hb;clear BK223;clear HB;have BK223:=n0_;have HB:=n1_;clear n0_ n1_;clear hb))
    ·
     go_roundg k1
     case measure=>have:=HK1.out;omega
     case rel=>exact ⟨(wrap64 (x7_1+1)),hB,H',⟨by have:=HK1.out;omega⟩,⟨blA⟩⟩
    ·
     go_ret
     exact finA blA
   ·
    rw [if_neg c2] at H
    have c2b0:=decide_eq_false c2
    clear c2
    obtain rfl:=Option.some.inj H
    go_wp2
    go_ret
    exact finA blA
def impl_ballAt.j0:Nat→Int→Int→Int→Int→Int→Bool→Option (Int × Int × Int × Bool)
 | 0,_,_,_,_,_,_=>none
 | k+1,x0,x1,x2,x3,x10,x24=>if x24=true then (some (x3,0,0,true)) else (if x10<(-6) then (some (0,0,0,false)) else ((impl_power.f k x0 (wrap64 (x3+6))).bind fun t122=>((impl_unit.f k x0 x1).bind fun t123=>((impl_unit.f k x0 x2).bind fun t124=>((impl_inverse.f k t124 t122).bind fun t125=>((impl_times.f k t123 t125 t122).bind fun t126=>((impl_power.f k x0 (wrap64 (x10+6))).bind fun t127=>((impl_times.f k t126 t127 t122).bind fun t128=>((impl_ofMark.f k x0 x3 t128).bind fun bt129=>(some (bt129.1,bt129.2.1,bt129.2.2.1,bt129.2.2.2)))))))))))
def impl_ballAt.f (k:Nat) (a0 a1 a2 a3:Int):Option (Int × Int × Int × Bool):=(impl_isLevel.f a3).bind fun t119=>(if t119=true then ((impl_valuation.f k a0 a1).bind fun t120=>((impl_valuation.f k a0 a2).bind fun t121=>(if a1=0 then (impl_ballAt.j0 k a0 a1 a2 a3 (wrap64 (t120 - t121)) true) else (impl_ballAt.j0 k a0 a1 a2 a3 (wrap64 (t120 - t121)) (decide ((wrap64 (t120 - t121))≥a3)))))) else (some (0,0,0,false)))
theorem impl_ballAt.mono_l:∀ k,(∀ y0 y1 y2 y3 y4 y5,LeO (impl_ballAt.j0 k y0 y1 y2 y3 y4 y5) (impl_ballAt.j0 (k+1) y0 y1 y2 y3 y4 y5))
 | 0=>fun _ _ _ _ _ _ r h=>by simp [impl_ballAt.j0] at h
 | k+1=>by
  have ih0:=impl_ballAt.mono_l k
  ·
   intro y0 y1 y2 y3 y4 y5
   unfold impl_ballAt.j0
   repeat' first
   | with_reducible first|exact ih0 ..|exact impl_inverse.mono ..|exact impl_ofMark.mono ..|exact impl_power.mono ..|exact impl_times.mono ..|exact impl_unit.mono ..|exact impl_valuation.mono ..|exact LeO.refl _|exact LeO.none _|refine LeO.ite ?_ ?_|refine LeO.bind ?_ fun _=>?_
theorem impl_ballAt.mono:∀ a0 a1 a2 a3 k,LeO (impl_ballAt.f k a0 a1 a2 a3) (impl_ballAt.f (k+1) a0 a1 a2 a3):=by
 intro a0 a1 a2 a3 k
 have ih0:=impl_ballAt.mono_l k
 unfold impl_ballAt.f
 repeat' first
   | with_reducible first|exact ih0 ..|exact impl_inverse.mono ..|exact impl_ofMark.mono ..|exact impl_power.mono ..|exact impl_times.mono ..|exact impl_unit.mono ..|exact impl_valuation.mono ..|exact LeO.refl _|exact LeO.none _|refine LeO.ite ?_ ?_|refine LeO.bind ?_ fun _=>?_
set_option maxHeartbeats 8000000 in
set_option maxRecDepth 100000 in
theorem impl_ballAt.calls (k:Nat) (a0 a1 a2 a3 r1 r2 r3:Int) (r4:Bool) (w:World) (h:impl_ballAt.f k a0 a1 a2 a3=some (r1,r2,r3,r4)) :
  Calls Try.prog 17 #[.int .i64 a0,.int .i64 a1,.int .i64 a2,.int .i64 a3] w fun e w'=>e=.returned (.tuple #[.agg #[.int .i64 r1,.int .i64 r2,.int .i64 r3],.bool r4])∧Below w.heap.size w w':=by
 have hu38:=Try.underlying38
 have HB:=Aside0.mk (Below.refl w.heap.size w)
 have H:=h
 unfold impl_ballAt.f at H
 clear h
 replace H:=bS H
 obtain ⟨t119,A5,H⟩:=H
 try dsimp only at H
 by_cases c6:t119=true
 ·
  subst c6
  rw [if_pos rfl] at H
  try dsimp only at H
  replace H:=bS H
  obtain ⟨t120,A7,H⟩:=H
  try dsimp only at H
  replace H:=bS H
  obtain ⟨t121,A8,H⟩:=H
  try dsimp only at H
  have HC9:=Aside0.mk H
  clear H
  go_enter Try.func17,Try.ntmps17
  go_upto_region 4 with (first|((with_reducible refine gate_dst (N:=8) rfl ?_);refine bxE (cs:=#[.int .i64 0,.int .i64 0,.int .i64 0]) (t:=38) ?_;intro gb118 hg w10 hbox hb;have BK118:=Aside0.mk hbox;have GW118:=sA hg;have GE118:=sA hg;replace HB:=lB hb;clear hb hbox hg)|((with_reducible refine gd 14 rfl ?_);refine gC (some 14) rfl Try.func27 (impl_isLevel.calls (w:=_) (h:=A5.out)) ?_;rintro _ ⟨nd,rfl⟩)|((with_reducible refine gd 19 rfl ?_);refine gC (some 19) rfl Try.func28 (impl_valuation.calls (w:=_) (h:=A7.out)) ?_;rintro _ ⟨nd,rfl⟩)|((with_reducible refine gd 22 rfl ?_);refine gC (some 22) rfl Try.func28 (impl_valuation.calls (w:=_) (h:=A8.out)) ?_;rintro _ ⟨nd,rfl⟩))
  (try simp only [Act.put,List.setIfInBounds_toArray,List.set_cons_zero,List.set_cons_succ])
  go_cut [24] (fun v24 wc=>∃ (kq:Nat) (x24_8:Bool),v24=.bool x24_8∧Aside0 (impl_ballAt.j0 kq a0 a1 a2 a3 (wrap64 (t120 - t121)) x24_8=some (r1,r2,r3,r4))∧Aside0 (kq≤k)∧Aside0 (wc.heap[gb118]?=some (.cells #[.int .i64 0,.int .i64 0,.int .i64 0] 38 (0,0)))∧Aside0 (Below w.heap.size w wc))
  case first=>
   have H:=HC9.out
   clear HC9
   by_cases c11:a1=0
   ·
    rw [if_pos c11] at H
    have c11b0:(a1 == 0)=true:=beq_iff_eq.mpr c11
    have c11b1:(a1 != 0)=false:=bne_eq_false_iff_eq.mpr c11
    clear c11
    (first|rw [c11b0]|(simp only [i64_w,i32_w];rw [c11b0])|skip)
    have H':=Aside0.mk H
    clear H
    go_wp2
    go_meet
    case rel=>exact ⟨_,(true),hB,H',⟨by first|omega|exact Nat.le_refl _⟩,⟨bkA BK118⟩,⟨blA⟩⟩
   ·
    rw [if_neg c11] at H
    have c11b0:(a1 == 0)=false:=beq_eq_false_iff_ne.mpr c11
    have c11b1:(a1 != 0)=true:=bne_iff_ne.mpr c11
    (first|rw [c11b0]|(simp only [i64_w,i32_w];rw [c11b0])|skip)
    have H':=Aside0.mk H
    clear H
    go_wp2
    go_meet
    case rel=>exact ⟨_,(decide ((wrap64 (t120 - t121))≥a3)),hB,H',⟨by first|omega|exact Nat.le_refl _⟩,⟨bkA BK118⟩,⟨blA⟩⟩
  case rest=>
   clear HC9
   try clear c6
   try clear c11
   try clear c11b0
   try clear c11b1
   obtain ⟨kq,x24_8,rfl,HA,HJ8,BK118,HB⟩:=hcut
   cases kq with
   | zero=>exact absurd HA.out (by simp [impl_ballAt.j0])
   | succ kj8=>
    have H:=HA.out
    clear HA
    simp only [impl_ballAt.j0] at H
    by_cases c12:x24_8=true
    ·
     subst c12
     rw [if_pos rfl] at H
     try dsimp only at H
     simp only [Option.some.injEq,Prod.mk.injEq] at H
     obtain ⟨rfl,rfl,rfl,rfl⟩:=H
     obtain ⟨hcz13_0,hcz13_1,hcz13_2,hfz13_0,hfz13_1,hfz13_2⟩:=cz3 BK118
     go_wp2
     refine bodyPost_ret (results_ct rfl _ _ gb118 38 #[.int .i64 a3,.int .i64 0,.int .i64 0] (0,0) _ rfl (bpA BK118) Try.underlying38 rfl (by kernel_rfl)) rfl ?_
     exact finA blA
    ·
     replace c12:=Bool.eq_false_iff.mpr c12
     subst c12
     rw [if_neg (show ¬ (false=true) by decide)] at H
     try dsimp only at H
     by_cases c14:(wrap64 (t120 - t121))<(-6)
     ·
      rw [if_pos c14] at H
      have c14b0:=decide_eq_true c14
      clear c14
      simp only [Option.some.injEq,Prod.mk.injEq] at H
      obtain ⟨rfl,rfl,rfl,rfl⟩:=H
      obtain ⟨hcz15_0,hcz15_1,hcz15_2,hfz15_0,hfz15_1,hfz15_2⟩:=cz3 BK118
      go_wp2
      refine bodyPost_ret (results_ct rfl _ _ gb118 38 #[.int .i64 0,.int .i64 0,.int .i64 0] (0,0) _ rfl (bpA BK118) Try.underlying38 rfl (by kernel_rfl)) rfl ?_
      exact finA blA
     ·
      rw [if_neg c14] at H
      have c14b0:=decide_eq_false c14
      clear c14
      replace H:=bS H
      obtain ⟨t122,A16,H⟩:=H
      try dsimp only at H
      replace H:=bS H
      obtain ⟨t123,A17,H⟩:=H
      try dsimp only at H
      replace H:=bS H
      obtain ⟨t124,A18,H⟩:=H
      try dsimp only at H
      replace H:=bS H
      obtain ⟨t125,A19,H⟩:=H
      try dsimp only at H
      replace H:=bS H
      obtain ⟨t126,A20,H⟩:=H
      try dsimp only at H
      replace H:=bS H
      obtain ⟨t127,A21,H⟩:=H
      try dsimp only at H
      replace H:=bS H
      obtain ⟨t128,A22,H⟩:=H
      try dsimp only at H
      replace H:=bS H
      obtain ⟨⟨t129,t130,t131,t132⟩,A23,H⟩:=H
      try dsimp only at H
      simp only [Option.some.injEq,Prod.mk.injEq] at H
      obtain ⟨rfl,rfl,rfl,rfl⟩:=H
      go_wp2_with (first|((with_reducible refine gd 41 rfl ?_);refine gC (some 41) rfl Try.func29 (impl_power.calls (w:=_) (h:=A16.out)) ?_;rintro _ ⟨nd,rfl⟩;(try (rw [drewN_self wc];generalize hq_:World.drewN wc _=wc;replace BK118:=Aside0.mk (by rw [← hq_];exact (bkA BK118));replace HB:=Aside0.mk (by rw [← hq_];exact blA);clear hq_)))|((with_reducible refine gd 44 rfl ?_);refine gC (some 44) rfl Try.func31 (impl_unit.calls (w:=_) (h:=A17.out)) ?_;rintro _ ⟨nd,rfl⟩;(try (rw [drewN_self wc];generalize hq_:World.drewN wc _=wc;replace BK118:=Aside0.mk (by rw [← hq_];exact (bkA BK118));replace HB:=Aside0.mk (by rw [← hq_];exact blA);clear hq_)))|((with_reducible refine gd 47 rfl ?_);refine gC (some 47) rfl Try.func31 (impl_unit.calls (w:=_) (h:=A18.out)) ?_;rintro _ ⟨nd,rfl⟩;(try (rw [drewN_self wc];generalize hq_:World.drewN wc _=wc;replace BK118:=Aside0.mk (by rw [← hq_];exact (bkA BK118));replace HB:=Aside0.mk (by rw [← hq_];exact blA);clear hq_)))|((with_reducible refine gd 49 rfl ?_);refine gC (some 49) rfl Try.func32 (impl_inverse.calls (w:=_) (h:=A19.out)) ?_;rintro _ ⟨nd,rfl⟩;(try (rw [drewN_self wc];generalize hq_:World.drewN wc _=wc;replace BK118:=Aside0.mk (by rw [← hq_];exact (bkA BK118));replace HB:=Aside0.mk (by rw [← hq_];exact blA);clear hq_)))|((with_reducible refine gd 51 rfl ?_);refine gC (some 51) rfl Try.func30 (impl_times.calls (w:=_) (h:=A20.out)) ?_;rintro _ ⟨nd,rfl⟩;(try (rw [drewN_self wc];generalize hq_:World.drewN wc _=wc;replace BK118:=Aside0.mk (by rw [← hq_];exact (bkA BK118));replace HB:=Aside0.mk (by rw [← hq_];exact blA);clear hq_)))|((with_reducible refine gd 58 rfl ?_);refine gC (some 58) rfl Try.func29 (impl_power.calls (w:=_) (h:=A21.out)) ?_;rintro _ ⟨nd,rfl⟩;(try (rw [drewN_self wc];generalize hq_:World.drewN wc _=wc;replace BK118:=Aside0.mk (by rw [← hq_];exact (bkA BK118));replace HB:=Aside0.mk (by rw [← hq_];exact blA);clear hq_)))|((with_reducible refine gd 60 rfl ?_);refine gC (some 60) rfl Try.func30 (impl_times.calls (w:=_) (h:=A22.out)) ?_;rintro _ ⟨nd,rfl⟩;(try (rw [drewN_self wc];generalize hq_:World.drewN wc _=wc;replace BK118:=Aside0.mk (by rw [← hq_];exact (bkA BK118));replace HB:=Aside0.mk (by rw [← hq_];exact blA);clear hq_)))|((with_reducible refine gd 61 rfl ?_);refine gC (some 61) rfl Try.func33 (impl_ofMark.calls (w:=_) (h:=A23.out)) ?_;intro w24 hb;replace BK118:=kB BK118 hb;replace HB:=lB hb;clear hb;obtain ⟨hcz25_0,hcz25_1,hcz25_2,hfz25_0,hfz25_1,hfz25_2⟩:=cz3 BK118))
      refine bodyPost_ret (results_ct rfl _ _ gb118 38 #[.int .i64 t129,.int .i64 t130,.int .i64 t131] (0,0) _ rfl (bpA BK118) Try.underlying38 rfl (by kernel_rfl)) rfl ?_
      exact finA blA
 ·
  replace c6:=Bool.eq_false_iff.mpr c6
  subst c6
  rw [if_neg (show ¬ (false=true) by decide)] at H
  try dsimp only at H
  simp only [Option.some.injEq,Prod.mk.injEq] at H
  obtain ⟨rfl,rfl,rfl,rfl⟩:=H
  go_enter Try.func17,Try.ntmps17
  go_wp2_with (first|((with_reducible refine gate_dst (N:=8) rfl ?_);refine bxE (cs:=#[.int .i64 0,.int .i64 0,.int .i64 0]) (t:=38) ?_;intro gb118 hg w26 hbox hb;have BK118:=Aside0.mk hbox;have GW118:=sA hg;have GE118:=sA hg;replace HB:=lB hb;clear hb hbox hg)|((with_reducible refine gd 14 rfl ?_);refine gC (some 14) rfl Try.func27 (impl_isLevel.calls (w:=_) (h:=A5.out)) ?_;rintro _ ⟨nd,rfl⟩;(try (rw [drewN_self w26];generalize hq_:World.drewN w26 _=w26;replace BK118:=Aside0.mk (by rw [← hq_];exact (bkA BK118));replace HB:=Aside0.mk (by rw [← hq_];exact blA);clear hq_));obtain ⟨hcz27_0,hcz27_1,hcz27_2,hfz27_0,hfz27_1,hfz27_2⟩:=cz3 BK118))
  refine bodyPost_ret (results_ct rfl _ _ gb118 38 #[.int .i64 0,.int .i64 0,.int .i64 0] (0,0) _ rfl (bpA BK118) Try.underlying38 rfl (by kernel_rfl)) rfl ?_
  exact finA blA
end Go.Proofs.Ytboneolhoajaoaa.PAll
