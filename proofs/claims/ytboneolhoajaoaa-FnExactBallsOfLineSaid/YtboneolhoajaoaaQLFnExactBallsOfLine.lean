-- turned out of the kit's print
import Derived.Test.YtboneolhoajaoaaQx
import Derived.Test.YtboneolhoajaoaaQLeqBall
import Derived.Test.YtboneolhoajaoaaQbitsDiv64
import Derived.Test.YtboneolhoajaoaaQimplBallsOfLine
import Derived.Test.YtboneolhoajaoaaQimplballAt
import Derived.Test.YtboneolhoajaoaaQspecBallsOfLine
namespace Go.Proofs.Ytboneolhoajaoaa.PAll
open Go.RowKit Go.Proofs.YtboneolhoajaoaaW.PrintWords Go.Proofs.YtboneolhoajaoaaW.PrintLast Go.Proofs.YtboneolhoajaoaaW.PrintMore
attribute [local go_sem] Go.Proofs.Ytboneolhoajaoaa.Aux.setCell_drewN Go.Proofs.Ytboneolhoajaoaa.Aux.isSome_setCell max2_int min2_int max_two min_two max_three min_three max_four min_four
set_option linter.unusedVariables false
set_option linter.unusedSimpArgs false
mutual
def laws_FnExactBallsOfLine.j0:Nat→Int→Int→List (S38)→Int→List (S38)→Bool→Int→Int→Int→Int→Option (Bool)
 | 0,_,_,_,_,_,_,_,_,_,_=>none
 | k+1,x0,x3,x9,x10,x11,x45,x245000,x245001,x246000,x246001=>if x45=true then (none) else ((laws_markBallS.f k x11 1).bind fun bt263=>((laws_heldBallS.f k bt263.2 1).bind fun t265=>(if t265<0 then (none) else (if t265=bt263.1 then ((laws_toEnd.f x245000 x245001).bind fun bt266=>((laws_toEnd.f x246000 x246001).bind fun bt268=>((impl_BallsOfLine.f k x0 bt266.1 bt266.2 bt268.1 bt268.2 x3).bind fun bt270=>((laws_eqBallS.f k bt270.1 x9).bind fun t274=>(if t274=true then (laws_FnExactBallsOfLine.j1 k bt263.2 bt263.1 (bt270.2 != x10)) else (laws_FnExactBallsOfLine.j1 k bt263.2 bt263.1 true)))))) else (none)))))
def laws_FnExactBallsOfLine.j1:Nat→List (S38)→Int→Bool→Option (Bool)
 | 0,_,_,_=>none
 | k+1,x11,x13,x75=>if x75=true then (none) else ((laws_heldBallS.f k x11 1).bind fun t275=>(if t275<0 then (none) else (if t275=x13 then (some true) else (none))))
end
def laws_FnExactBallsOfLine.f (k:Nat) (a0 a1_0 a1_1 a2_0 a2_1 a3:Int):Option (Bool):=(laws_toEnd.f a1_0 a1_1).bind fun bt246=>((laws_toEnd.f a2_0 a2_1).bind fun bt248=>((spec_BallsOfLine.f k a0 bt246.1 bt246.2 bt248.1 bt248.2 a3).bind fun bt250=>((laws_toEnd.f a1_0 a1_1).bind fun bt254=>((laws_toEnd.f a2_0 a2_1).bind fun bt256=>((impl_BallsOfLine.f k a0 bt254.1 bt254.2 bt256.1 bt256.2 a3).bind fun bt258=>((laws_eqBallS.f k bt258.1 bt250.1).bind fun t262=>(if t262=true then (laws_FnExactBallsOfLine.j0 k a0 a3 bt250.1 bt250.2 bt258.1 (bt258.2 != bt250.2) a1_0 a1_1 a2_0 a2_1) else (laws_FnExactBallsOfLine.j0 k a0 a3 bt250.1 bt250.2 bt258.1 true a1_0 a1_1 a2_0 a2_1))))))))
theorem laws_FnExactBallsOfLine.mono_l:∀ k,(∀ y0 y1 y2 y3 y4 y5 y6 y7 y8 y9,LeO (laws_FnExactBallsOfLine.j0 k y0 y1 y2 y3 y4 y5 y6 y7 y8 y9) (laws_FnExactBallsOfLine.j0 (k+1) y0 y1 y2 y3 y4 y5 y6 y7 y8 y9))∧(∀ y0 y1 y2,LeO (laws_FnExactBallsOfLine.j1 k y0 y1 y2) (laws_FnExactBallsOfLine.j1 (k+1) y0 y1 y2))
 | 0=>by refine ⟨?_,?_⟩ <;> (intros;intro r h;simp [laws_FnExactBallsOfLine.j0,laws_FnExactBallsOfLine.j1] at h)
 | k+1=>by
  obtain ⟨ih0,ih1⟩:=laws_FnExactBallsOfLine.mono_l k
  refine ⟨?_,?_⟩ <;> (intros;first|unfold laws_FnExactBallsOfLine.j0|unfold laws_FnExactBallsOfLine.j1)
  all_goals repeat' first
  | with_reducible first|exact ih0 ..|exact ih1 ..|exact impl_BallsOfLine.mono ..|exact laws_eqBallS.mono ..|exact laws_heldBallS.mono ..|exact laws_markBallS.mono ..|exact spec_BallsOfLine.mono ..|exact LeO.refl _|exact LeO.none _|refine LeO.ite ?_ ?_|refine LeO.bind ?_ fun _=>?_
theorem laws_FnExactBallsOfLine.mono:∀ a0 a1 a2 a3 a4 a5 k,LeO (laws_FnExactBallsOfLine.f k a0 a1 a2 a3 a4 a5) (laws_FnExactBallsOfLine.f (k+1) a0 a1 a2 a3 a4 a5):=by
 intro a0 a1 a2 a3 a4 a5 k
 obtain ⟨ih0,ih1⟩:=laws_FnExactBallsOfLine.mono_l k
 unfold laws_FnExactBallsOfLine.f
 repeat' first
   | with_reducible first|exact ih0 ..|exact ih1 ..|exact impl_BallsOfLine.mono ..|exact laws_eqBallS.mono ..|exact laws_heldBallS.mono ..|exact laws_markBallS.mono ..|exact spec_BallsOfLine.mono ..|exact LeO.refl _|exact LeO.none _|refine LeO.ite ?_ ?_|refine LeO.bind ?_ fun _=>?_
def laws_FnExactBallsOfLine.T1:Bool × List (List Nat × List Nat):=(true,[([],[]),([],[]),([1],[1]),([],[]),([3,2],[3]),([],[]),([0,2,4,5,4],[0,2,4,5]),([6],[6]),([7],[7]),([7],[7]),([8,6,0,1,2,3,4,5,6,7,8],[8]),([9,10,0,1,2,3,4,5,6,7,8,9,10],[9])])
def laws_FnExactBallsOfLine.B1:List Nat:=[0,0,2,0,14,0,63,127,255,255,511,2047]
theorem laws_FnExactBallsOfLine.tab1:rtab .any (opsOf Try.f3 1)=laws_FnExactBallsOfLine.T1:=by kernel_rfl
theorem laws_FnExactBallsOfLine.bits1:waitsOk laws_FnExactBallsOfLine.T1.2 laws_FnExactBallsOfLine.B1=true:=by kernel_rfl
def laws_FnExactBallsOfLine.T2:Bool × List (List Nat × List Nat):=(true,[([],[]),([],[]),([1],[1]),([],[]),([3,2],[3]),([],[]),([0,2,4,5,4],[0,2,4,5]),([6],[6]),([7],[7]),([7],[7]),([8,6,0,1,2,3,4,5,6,7,8],[8]),([9,10,0,1,2,3,4,5,6,7,8,9,10],[9])])
def laws_FnExactBallsOfLine.B2:List Nat:=[0,0,2,0,14,0,63,127,255,255,511,2047]
theorem laws_FnExactBallsOfLine.tab2:rtab .any (opsOf Try.f3 2)=laws_FnExactBallsOfLine.T2:=by kernel_rfl
theorem laws_FnExactBallsOfLine.bits2:waitsOk laws_FnExactBallsOfLine.T2.2 laws_FnExactBallsOfLine.B2=true:=by kernel_rfl
def laws_FnExactBallsOfLine.T13:Bool × List (List Nat × List Nat):=(true,[([],[]),([],[]),([1],[1]),([],[]),([3,2],[3]),([],[]),([0,2,4,5,4],[0,2,4,5]),([6],[6]),([7],[7]),([7],[7]),([8,6,0,1,2,3,4,5,6,7,8],[8]),([9,10,0,1,2,3,4,5,6,7,8,9,10],[9])])
def laws_FnExactBallsOfLine.B13:List Nat:=[0,0,2,0,14,0,63,127,255,255,511,2047]
theorem laws_FnExactBallsOfLine.tab13:rtab .any (opsOf Try.f3 13)=laws_FnExactBallsOfLine.T13:=by kernel_rfl
theorem laws_FnExactBallsOfLine.bits13:waitsOk laws_FnExactBallsOfLine.T13.2 laws_FnExactBallsOfLine.B13=true:=by kernel_rfl
set_option maxHeartbeats 8000000 in
set_option maxRecDepth 100000 in
theorem laws_FnExactBallsOfLine.calls (k:Nat) (a0 a1_0 a1_1 a2_0 a2_1 a3:Int) (r:Bool) (w:World) (h:laws_FnExactBallsOfLine.f k a0 a1_0 a1_1 a2_0 a2_1 a3=some r) :
  Calls Try.prog 3 #[.int .i64 a0,.agg #[.int .i64 a1_0,.int .i64 a1_1],.agg #[.int .i64 a2_0,.int .i64 a2_1],.int .i64 a3] w fun e w'=>e=.returned (.bool r)∧Below w.heap.size w w':=by
 have hu23:=Try.underlying23
 have HB:=Aside0.mk (Below.refl w.heap.size w)
 have H:=h
 unfold laws_FnExactBallsOfLine.f at H
 clear h
 replace H:=bS H
 obtain ⟨⟨t246,t247⟩,A5,H⟩:=H
 try dsimp only at H
 replace H:=bS H
 obtain ⟨⟨t248,t249⟩,A6,H⟩:=H
 try dsimp only at H
 replace H:=bS H
 obtain ⟨⟨t250,t253⟩,A7,H⟩:=H
 try dsimp only at H
 replace H:=bS H
 obtain ⟨⟨t254,t255⟩,A8,H⟩:=H
 try dsimp only at H
 replace H:=bS H
 obtain ⟨⟨t256,t257⟩,A9,H⟩:=H
 try dsimp only at H
 replace H:=bS H
 obtain ⟨⟨t258,t261⟩,A10,H⟩:=H
 try dsimp only at H
 have HC11:=Aside0.mk H
 clear H
 go_enter Try.func3,Try.ntmps3
 try go_wp2_with (first|((with_reducible refine gate_dst (N:=5) rfl ?_);refine bxE (cs:=#[.int .i64 a1_0,.int .i64 a1_1]) (t:=23) ?_;intro gb244 hg w12 hbox hb;have n0_:=lB hb;have n1_:=Aside0.mk hbox;have n2_:=sA hg;have n3_:=sA hg;clear HB;have HB:=n0_;have BK244:=n1_;have GW244:=n2_;have GE244:=n3_;clear n0_ n1_ n2_ n3_;clear hb hbox hg)|((with_reducible refine gate_dst (N:=6) rfl ?_);refine bxE (cs:=#[.int .i64 a2_0,.int .i64 a2_1]) (t:=23) ?_;intro gb245 hg w13 hbox hb;have n0_:=kB BK244 hb;have n1_:=lB hb;have n2_:=Aside0.mk hbox;have n3_:=sA hg;have n4_:=sA hg;have n5_:=nA hg BK244;have n6_:=nB hg BK244;clear BK244;clear HB;have BK244:=n0_;have HB:=n1_;have BK245:=n2_;have GW245:=n3_;have GE245:=n4_;have NB244_245:=n5_;have NB245_244:=n6_;clear n0_ n1_ n2_ n3_ n4_ n5_ n6_;clear hb hbox hg))
 have n0_:=Aside0.mk (blk_drew BK244.out)
 have n1_:=Aside0.mk (blk_drew BK245.out)
 have n2_:=Aside0.mk (below_drew1 HB.out)
 clear BK244
 clear BK245
 clear HB
 have BK244:=n0_
 have BK245:=n1_
 have HB:=n2_
 clear n0_ n1_ n2_
 refine start_ (n:=12) (S:=fun w'=>w'.cell? ⟨gb244,0,none⟩=some (.int .i64 a1_0)∧w'.cell? ⟨gb244,1,none⟩=some (.int .i64 a1_1)∧w'.cell? ⟨gb245,0,none⟩=some (.int .i64 a2_0)∧w'.cell? ⟨gb245,1,none⟩=some (.int .i64 a2_1)) (ds:=[]) #[Z,Z,Z,Z,Z,Z,Z,Z,Z,Z,Z,Z] (by kernel_rfl) rfl rfl ⟨cA BK244 0,cA BK244 1,cA BK245 0,cA BK245 1⟩ (fun hHeld=>?_);refine with_tabW laws_FnExactBallsOfLine.tab1 laws_FnExactBallsOfLine.bits1 (fun HT_ HW_=>?_)
 generalize w13.drew=w14 at BK244 BK245 HB hHeld ⊢
 refine puA (i:=0) (N:=some 18) #[Y,Z,Z,Z,Z,Z,Z,Z,Z,Z,Z,Z] rfl rfl HT_ ?_
 refine puA (i:=5) (N:=some 23) #[Y,Z,Z,Z,Z,Y,Z,Z,Z,Z,Z,Z] rfl rfl HT_ ?_
 refine taA (i:=1) (N:=some 19) #[Y,Y,Z,Z,Z,Y,Z,Z,Z,Z,Z,Z] rfl rfl HT_ HW_ hHeld ?_
 refine taA (i:=3) (N:=some 21) #[Y,Y,Z,Y,Z,Y,Z,Z,Z,Z,Z,Z] rfl rfl HT_ HW_ hHeld ?_
 refine one_ (i:=2) (N:=some 20) #[Y,Y,Y,Y,Z,Y,Z,Z,Z,Z,Z,Z] rfl rfl (one_of HT_.out (by kernel_rfl)) (by decide) (fun K hK=>?_)
 refine goC Try.func5 (laws_toEnd.calls (w:=_) (h:=A5.out)) ?_
 intro w15 hb
 replace BK244:=kB BK244 hb
 replace BK245:=kB BK245 hb
 replace HB:=lB hb
 (try clear hb)
 (try clear hb2)
 (try clear hk)
 (try clear hi)
 refine hK.out _ _ ⟨cA BK244 0,cA BK244 1,cA BK245 0,cA BK245 1⟩ (fun hHeld=>?_)
 clear hK K
 refine nmA ?_
 refine one_ (i:=4) (N:=some 22) #[Y,Y,Y,Y,Y,Y,Z,Z,Z,Z,Z,Z] rfl rfl (one_of HT_.out (by kernel_rfl)) (by decide) (fun K hK=>?_)
 refine goC Try.func5 (laws_toEnd.calls (w:=_) (h:=A6.out)) ?_
 intro w16 hb
 replace BK244:=kB BK244 hb
 replace BK245:=kB BK245 hb
 replace HB:=lB hb
 (try clear hb)
 (try clear hb2)
 (try clear hk)
 (try clear hi)
 refine hK.out _ _ ⟨cA BK244 0,cA BK244 1,cA BK245 0,cA BK245 1⟩ (fun hHeld=>?_)
 clear hK K
 refine nmA ?_
 refine one_ (i:=6) (N:=some 24) #[Y,Y,Y,Y,Y,Y,Y,Z,Z,Z,Z,Z] rfl rfl (one_of HT_.out (by kernel_rfl)) (by decide) (fun K hK=>?_)
 refine goes_ Try.func4 (by kernel_rfl) rfl #[.int .i64 a0,.agg #[.int .i64 t246,.int .i64 t247],.agg #[.int .i64 t248,.int .i64 t249],.int .i64 a3] (by rfl) rfl rfl hA ?_
 with_reducible refine (spec_BallsOfLine.calls k a0 t246 t247 t248 t249 a3 t250 t253 _ A7.out).mono ?_
 rintro e w17 ⟨v251,rfl,ho0,hb⟩
 refine ⟨_,rfl,?_⟩
 have HO252:=Aside0.mk (Kd.R_lower ho0 (below_size blA))
 replace BK244:=kB BK244 hb
 replace BK245:=kB BK245 hb
 replace HB:=lB hb
 (try clear hb)
 (try clear hb2)
 (try clear hk)
 (try clear hi)
 (try clear ho0)
 refine hK.out _ _ ⟨cA BK244 0,cA BK244 1,cA BK245 0,cA BK245 1⟩ (fun hHeld=>?_)
 clear hK K
 refine nmA ?_
 refine puA (i:=7) (N:=some 17) #[Y,Y,Y,Y,Y,Y,Y,Y,Z,Z,Z,Z] rfl rfl HT_ ?_
 refine puA (i:=8) (N:=some 25) #[Y,Y,Y,Y,Y,Y,Y,Y,Y,Z,Z,Z] rfl rfl HT_ ?_
 refine puA (i:=9) (N:=some 26) #[Y,Y,Y,Y,Y,Y,Y,Y,Y,Y,Z,Z] rfl rfl HT_ ?_
 refine puA (i:=10) (N:=some 9) #[Y,Y,Y,Y,Y,Y,Y,Y,Y,Y,Y,Z] rfl rfl HT_ ?_
 refine puA (i:=11) (N:=some 10) #[Y,Y,Y,Y,Y,Y,Y,Y,Y,Y,Y,Y] rfl rfl HT_ ?_
 refine done_ (done_of HT_.out (by kernel_rfl)) ?_
 try go_wp2
 have n0_:=Aside0.mk (Kd.R_drew HO252.out)
 have n1_:=Aside0.mk (blk_drew BK244.out)
 have n2_:=Aside0.mk (blk_drew BK245.out)
 have n3_:=Aside0.mk (below_drew1 HB.out)
 clear HO252
 clear BK244
 clear BK245
 clear HB
 have HO252:=n0_
 have BK244:=n1_
 have BK245:=n2_
 have HB:=n3_
 clear n0_ n1_ n2_ n3_
 refine start_ (n:=12) (S:=fun w'=>w'.cell? ⟨gb244,0,none⟩=some (.int .i64 a1_0)∧w'.cell? ⟨gb244,1,none⟩=some (.int .i64 a1_1)∧w'.cell? ⟨gb245,0,none⟩=some (.int .i64 a2_0)∧w'.cell? ⟨gb245,1,none⟩=some (.int .i64 a2_1)) (ds:=[]) #[Z,Z,Z,Z,Z,Z,Z,Z,Z,Z,Z,Z] (by kernel_rfl) rfl rfl ⟨cA BK244 0,cA BK244 1,cA BK245 0,cA BK245 1⟩ (fun hHeld=>?_);refine with_tabW laws_FnExactBallsOfLine.tab2 laws_FnExactBallsOfLine.bits2 (fun HT_ HW_=>?_)
 generalize w17.drew=w18 at HO252 BK244 BK245 HB hHeld ⊢
 refine puA (i:=0) (N:=some 28) #[Y,Z,Z,Z,Z,Z,Z,Z,Z,Z,Z,Z] rfl rfl HT_ ?_
 refine puA (i:=5) (N:=some 33) #[Y,Z,Z,Z,Z,Y,Z,Z,Z,Z,Z,Z] rfl rfl HT_ ?_
 refine taA (i:=1) (N:=some 29) #[Y,Y,Z,Z,Z,Y,Z,Z,Z,Z,Z,Z] rfl rfl HT_ HW_ hHeld ?_
 refine taA (i:=3) (N:=some 31) #[Y,Y,Z,Y,Z,Y,Z,Z,Z,Z,Z,Z] rfl rfl HT_ HW_ hHeld ?_
 refine one_ (i:=2) (N:=some 30) #[Y,Y,Y,Y,Z,Y,Z,Z,Z,Z,Z,Z] rfl rfl (one_of HT_.out (by kernel_rfl)) (by decide) (fun K hK=>?_)
 refine goC Try.func5 (laws_toEnd.calls (w:=_) (h:=A8.out)) ?_
 intro w19 hb
 replace HO252:=Aside0.mk (Kd.R_below (rA HO252) hb)
 replace BK244:=kB BK244 hb
 replace BK245:=kB BK245 hb
 replace HB:=lB hb
 (try clear hb)
 (try clear hb2)
 (try clear hk)
 (try clear hi)
 refine hK.out _ _ ⟨cA BK244 0,cA BK244 1,cA BK245 0,cA BK245 1⟩ (fun hHeld=>?_)
 clear hK K
 refine nmA ?_
 refine one_ (i:=4) (N:=some 32) #[Y,Y,Y,Y,Y,Y,Z,Z,Z,Z,Z,Z] rfl rfl (one_of HT_.out (by kernel_rfl)) (by decide) (fun K hK=>?_)
 refine goC Try.func5 (laws_toEnd.calls (w:=_) (h:=A9.out)) ?_
 intro w20 hb
 replace HO252:=Aside0.mk (Kd.R_below (rA HO252) hb)
 replace BK244:=kB BK244 hb
 replace BK245:=kB BK245 hb
 replace HB:=lB hb
 (try clear hb)
 (try clear hb2)
 (try clear hk)
 (try clear hi)
 refine hK.out _ _ ⟨cA BK244 0,cA BK244 1,cA BK245 0,cA BK245 1⟩ (fun hHeld=>?_)
 clear hK K
 refine nmA ?_
 refine one_ (i:=6) (N:=some 34) #[Y,Y,Y,Y,Y,Y,Y,Z,Z,Z,Z,Z] rfl rfl (one_of HT_.out (by kernel_rfl)) (by decide) (fun K hK=>?_)
 refine goes_ Try.func6 (by kernel_rfl) rfl #[.int .i64 a0,.agg #[.int .i64 t254,.int .i64 t255],.agg #[.int .i64 t256,.int .i64 t257],.int .i64 a3] (by rfl) rfl rfl hA ?_
 with_reducible refine (impl_BallsOfLine.calls k a0 t254 t255 t256 t257 a3 t258 t261 _ A10.out).mono ?_
 rintro e w21 ⟨v259,rfl,ho0,hb⟩
 refine ⟨_,rfl,?_⟩
 have HO260:=Aside0.mk (Kd.R_lower (Kd.R_new' ho0 (Kd.R_lt (rA HO252))) (below_size blA))
 replace HO252:=Aside0.mk (Kd.R_elder' (rA HO252) (Kd.R_base ho0) hb)
 replace BK244:=kB BK244 hb
 replace BK245:=kB BK245 hb
 replace HB:=lB hb
 (try clear hb)
 (try clear hb2)
 (try clear hk)
 (try clear hi)
 (try clear ho0)
 refine hK.out _ _ ⟨cA BK244 0,cA BK244 1,cA BK245 0,cA BK245 1⟩ (fun hHeld=>?_)
 clear hK K
 refine nmA ?_
 refine puA (i:=7) (N:=some 27) #[Y,Y,Y,Y,Y,Y,Y,Y,Z,Z,Z,Z] rfl rfl HT_ ?_
 refine puA (i:=8) (N:=some 35) #[Y,Y,Y,Y,Y,Y,Y,Y,Y,Z,Z,Z] rfl rfl HT_ ?_
 refine puA (i:=9) (N:=some 36) #[Y,Y,Y,Y,Y,Y,Y,Y,Y,Y,Z,Z] rfl rfl HT_ ?_
 refine puA (i:=10) (N:=some 11) #[Y,Y,Y,Y,Y,Y,Y,Y,Y,Y,Y,Z] rfl rfl HT_ ?_
 refine puA (i:=11) (N:=some 12) #[Y,Y,Y,Y,Y,Y,Y,Y,Y,Y,Y,Y] rfl rfl HT_ ?_
 refine done_ (done_of HT_.out (by kernel_rfl)) ?_
 go_upto_region 3 with (fail)
 go_cut [45] (fun v45 wc=>∃ (kq:Nat) (x45_10:Bool),v45=.bool x45_10∧Aside0 (laws_FnExactBallsOfLine.j0 kq a0 a3 t250 t253 t258 x45_10 a1_0 a1_1 a2_0 a2_1=some r)∧Aside0 (kq≤k)∧Aside0 (Kd.R k38 38 wc w.heap.size (fun k_=>some k_≠(v259:Value).ownBlock) v251 t250)∧Aside0 (Kd.R k38 38 wc w.heap.size (fun k_=>some k_≠(v251:Value).ownBlock) v259 t258)∧Aside0 (wc.heap[gb244]?=some (.cells #[.int .i64 a1_0,.int .i64 a1_1] 23 (0,0)))∧Aside0 (wc.heap[gb245]?=some (.cells #[.int .i64 a2_0,.int .i64 a2_1] 23 (0,0)))∧Aside0 (Below w.heap.size w wc))
 case first=>
  have H:=HC11.out
  clear HC11
  replace H:=bS H
  obtain ⟨t262,A22,H⟩:=H
  try dsimp only at H
  by_cases c23:t262=true
  ·
   subst c23
   rw [if_pos rfl] at H
   try dsimp only at H
   have H':=Aside0.mk H
   clear H
   obtain ⟨Ao24,co24,eo24⟩:=Kd.R_slice HO260.out
   subst eo24
   obtain ⟨Ao25,co25,eo25⟩:=Kd.R_slice HO252.out
   subst eo25
   go_wp2_with (first|((with_reducible refine gd 39 rfl ?_);refine gC (some 39) rfl Try.func7 (laws_eqBallS.calls (w:=_) (hr0:=cR (Kd.R_reads' HO260.out).2.2) (hc0:=(Kd.R_reads' HO260.out).2.1) (hr1:=cR (Kd.R_reads' HO252.out).2.2) (hc1:=(Kd.R_reads' HO252.out).2.1) (h:=A22.out)) ?_;intro w26 hb;have n0_:=Aside0.mk (Kd.R_below (rA HO252) hb);have n1_:=Aside0.mk (Kd.R_below (rA HO260) hb);have n2_:=kB BK244 hb;have n3_:=kB BK245 hb;have n4_:=lB hb;clear HO252;clear HO260;clear BK244;clear BK245;clear HB;have HO252:=n0_;have HO260:=n1_;have BK244:=n2_;have BK245:=n3_;have HB:=n4_;clear n0_ n1_ n2_ n3_ n4_;clear hb))
   go_meet
   case rel=>exact ⟨_,((t261 != t253)),hB,H',⟨by first|omega|exact Nat.le_refl _⟩,⟨by (with_reducible repeat (first|apply Kd.R_alloc|apply Kd.R_drewN|apply Kd.R_drew));exact Kd.R_mono HO252.out (fun _ hk=>hk.2)⟩,⟨by (with_reducible repeat (first|apply Kd.R_alloc|apply Kd.R_drewN|apply Kd.R_drew));exact Kd.R_mono HO260.out (fun _ hk=>hk.2)⟩,⟨bkA BK244⟩,⟨bkA BK245⟩,⟨blA⟩⟩
  ·
   replace c23:=Bool.eq_false_iff.mpr c23
   subst c23
   rw [if_neg (show ¬ (false=true) by decide)] at H
   try dsimp only at H
   have H':=Aside0.mk H
   clear H
   obtain ⟨Ao27,co27,eo27⟩:=Kd.R_slice HO260.out
   subst eo27
   obtain ⟨Ao28,co28,eo28⟩:=Kd.R_slice HO252.out
   subst eo28
   go_wp2_with (first|((with_reducible refine gd 39 rfl ?_);refine gC (some 39) rfl Try.func7 (laws_eqBallS.calls (w:=_) (hr0:=cR (Kd.R_reads' HO260.out).2.2) (hc0:=(Kd.R_reads' HO260.out).2.1) (hr1:=cR (Kd.R_reads' HO252.out).2.2) (hc1:=(Kd.R_reads' HO252.out).2.1) (h:=A22.out)) ?_;intro w29 hb;have n0_:=Aside0.mk (Kd.R_below (rA HO252) hb);have n1_:=Aside0.mk (Kd.R_below (rA HO260) hb);have n2_:=kB BK244 hb;have n3_:=kB BK245 hb;have n4_:=lB hb;clear HO252;clear HO260;clear BK244;clear BK245;clear HB;have HO252:=n0_;have HO260:=n1_;have BK244:=n2_;have BK245:=n3_;have HB:=n4_;clear n0_ n1_ n2_ n3_ n4_;clear hb))
   go_meet
   case rel=>exact ⟨_,(true),hB,H',⟨by first|omega|exact Nat.le_refl _⟩,⟨by (with_reducible repeat (first|apply Kd.R_alloc|apply Kd.R_drewN|apply Kd.R_drew));exact Kd.R_mono HO252.out (fun _ hk=>hk.2)⟩,⟨by (with_reducible repeat (first|apply Kd.R_alloc|apply Kd.R_drewN|apply Kd.R_drew));exact Kd.R_mono HO260.out (fun _ hk=>hk.2)⟩,⟨bkA BK244⟩,⟨bkA BK245⟩,⟨blA⟩⟩
 case rest=>
  clear HC11
  try clear c23
  obtain ⟨kq,x45_10,rfl,HA,HJ10,HO_9,HO_11,BK244,BK245,HB⟩:=hcut
  cases kq with
  | zero=>exact absurd HA.out (by simp [laws_FnExactBallsOfLine.j0])
  | succ kj10=>
   have H:=HA.out
   clear HA
   simp only [laws_FnExactBallsOfLine.j0] at H
   by_cases c30:x45_10=true
   ·
    subst c30
    rw [if_pos rfl] at H
    try dsimp only at H
    exact absurd H (by simp)
   replace c30:=Bool.eq_false_iff.mpr c30
   subst c30
   rw [if_neg (show ¬ (false=true) by decide)] at H
   try dsimp only at H
   replace H:=bS H
   obtain ⟨⟨t263,t264⟩,A31,H⟩:=H
   try dsimp only at H
   replace H:=bS H
   obtain ⟨t265,A32,H⟩:=H
   try dsimp only at H
   by_cases c33:t265<0
   ·
    rw [if_pos c33] at H
    exact absurd H (by simp)
   rw [if_neg c33] at H
   have c33b0:=decide_eq_false c33
   clear c33
   by_cases c34:t265=t263
   rotate_left
   ·
    rw [if_neg c34] at H
    exact absurd H (by simp)
   rw [if_pos c34] at H
   have c34b0:(t265 == t263)=true:=beq_iff_eq.mpr c34
   have c34b1:(t265 != t263)=false:=bne_eq_false_iff_eq.mpr c34
   clear c34
   replace H:=bS H
   obtain ⟨⟨t266,t267⟩,A35,H⟩:=H
   try dsimp only at H
   replace H:=bS H
   obtain ⟨⟨t268,t269⟩,A36,H⟩:=H
   try dsimp only at H
   replace H:=bS H
   obtain ⟨⟨t270,t273⟩,A37,H⟩:=H
   try dsimp only at H
   have HC38:=Aside0.mk H
   clear H
   obtain ⟨Ao39,co39,eo39⟩:=Kd.R_slice HO_11.out
   subst eo39
   try go_wp2_with (first|((with_reducible refine gate_callee (f:=8) rfl ?_);refine gL (some 48) rfl Try.func8 #[.slice Ao39 t258.length co39,.int .i64 1] ?_;(with_reducible refine (laws_markBallS.calls kj10 (fun k_=>some k_=(.slice Ao39 t258.length co39:Value).ownBlock) (.slice Ao39 t258.length co39) t258 1 t263 t264 w _ ?side1 ?side2 A31.out).mono ?_);(case side1=>exact blA);(case side2=>exact Kd.R_tight rfl HO_11.out);rintro e w40 ⟨rfl,hy0,hb,hkp⟩;refine ⟨_,rfl,?_⟩;have n0_:=Aside0.mk (Kd.R_mono (ok':=fun k_=>some k_≠(.slice Ao39 t258.length co39:Value).ownBlock) (Kd.R_keptB (HO_9.out) hkp (fun k_ hk_ hs_=>(hk_) hs_)) (fun k_ hk_=>hk_.1));have n1_:=Aside0.mk (Kd.R_reok rfl hy0 (fun k_ e_=>HO_11.out.1 k_ e_));have n2_:=Aside0.mk (blk_kept (bkA BK244) hkp (fun hs_=>(fun e_=>(Kd.R_ne HO_11.out BK244.out (by decide)) e_) hs_));have n3_:=Aside0.mk (blk_kept (bkA BK245) hkp (fun hs_=>(fun e_=>(Kd.R_ne HO_11.out BK245.out (by decide)) e_) hs_));have n4_:=Aside0.mk hb;clear HO_9;clear HO_11;clear BK244;clear BK245;clear HB;have HO_9:=n0_;have HO_11:=n1_;have BK244:=n2_;have BK245:=n3_;have HB:=n4_;clear n0_ n1_ n2_ n3_ n4_;(try clear hb);(try clear hkp);(try clear hy0))|((with_reducible refine gate_callee (f:=9) rfl ?_);refine goesL_ (some 51) rfl rfl Try.func9 (by kernel_rfl) rfl #[.slice Ao39 t264.length co39,.int .i64 1] rfl (by (try simp only [List.map_toArray,List.map_cons,List.map_nil]);first|done|(rw [show t264.length=t258.length from (Kd.R_reads' HO_11.out).1.symm] <;> rfl)|rfl|(simp only [List.length_drop,List.length_take];rfl)) ?_;(with_reducible refine (laws_heldBallS.calls kj10 _ _ t264 1 t265 _ ?side1 ?side2 A32.out).mono ?_);(case side1=>exact cR (Kd.R_reads' HO_11.out).2.2);(case side2=>rw [show t264.length=t258.length from (Kd.R_reads' HO_11.out).1.symm];exact (Kd.R_reads' HO_11.out).2.1);rintro e w' ⟨rfl,⟨nd,rfl⟩⟩;refine ⟨_,rfl,?_⟩))
   (try (rw [drewN_self w40];generalize hq_:World.drewN w40 _=w40;have n0_:Aside0 (Kd.R k38 38 w40 w.heap.size (fun k_=>some k_≠(v251:Value).ownBlock) (.slice Ao39 t258.length co39) t264):=⟨by rw [← hq_];exact (rA HO_11)⟩;have n1_:Aside0 (Kd.R k38 38 w40 w.heap.size (fun k_=>some k_≠(.slice Ao39 t258.length co39:Value).ownBlock) v251 t250):=⟨by rw [← hq_];exact (rA HO_9)⟩;have n2_:Aside0 (w40.heap[gb244]?=some (.cells #[.int .i64 a1_0,.int .i64 a1_1] 23 (0,0))):=⟨by rw [← hq_];exact (bkA BK244)⟩;have n3_:Aside0 (w40.heap[gb245]?=some (.cells #[.int .i64 a2_0,.int .i64 a2_1] 23 (0,0))):=⟨by rw [← hq_];exact (bkA BK245)⟩;have n4_:Aside0 (Below w.heap.size w w40):=⟨by rw [← hq_];exact blA⟩;clear HO_11 HO_9 BK244 BK245 HB hq_;have HO_11:=n0_;have HO_9:=n1_;have BK244:=n2_;have BK245:=n3_;have HB:=n4_;clear n0_ n1_ n2_ n3_ n4_))
   have n0_:=Aside0.mk (Kd.R_drew HO_9.out)
   have n1_:=Aside0.mk (Kd.R_drew HO_11.out)
   have n2_:=Aside0.mk (blk_drew BK244.out)
   have n3_:=Aside0.mk (blk_drew BK245.out)
   have n4_:=Aside0.mk (below_drew1 HB.out)
   clear HO_9
   clear HO_11
   clear BK244
   clear BK245
   clear HB
   have HO_9:=n0_
   have HO_11:=n1_
   have BK244:=n2_
   have BK245:=n3_
   have HB:=n4_
   clear n0_ n1_ n2_ n3_ n4_
   refine start_ (n:=12) (S:=fun w'=>w'.cell? ⟨gb244,0,none⟩=some (.int .i64 a1_0)∧w'.cell? ⟨gb244,1,none⟩=some (.int .i64 a1_1)∧w'.cell? ⟨gb245,0,none⟩=some (.int .i64 a2_0)∧w'.cell? ⟨gb245,1,none⟩=some (.int .i64 a2_1)) (ds:=[]) #[Z,Z,Z,Z,Z,Z,Z,Z,Z,Z,Z,Z] (by kernel_rfl) rfl rfl ⟨cA BK244 0,cA BK244 1,cA BK245 0,cA BK245 1⟩ (fun hHeld=>?_);refine with_tabW laws_FnExactBallsOfLine.tab13 laws_FnExactBallsOfLine.bits13 (fun HT_ HW_=>?_)
   generalize w40.drew=w41 at HO_9 HO_11 BK244 BK245 HB hHeld ⊢
   refine puA (i:=0) (N:=some 58) #[Y,Z,Z,Z,Z,Z,Z,Z,Z,Z,Z,Z] rfl rfl HT_ ?_
   refine puA (i:=5) (N:=some 63) #[Y,Z,Z,Z,Z,Y,Z,Z,Z,Z,Z,Z] rfl rfl HT_ ?_
   refine taA (i:=1) (N:=some 59) #[Y,Y,Z,Z,Z,Y,Z,Z,Z,Z,Z,Z] rfl rfl HT_ HW_ hHeld ?_
   refine taA (i:=3) (N:=some 61) #[Y,Y,Z,Y,Z,Y,Z,Z,Z,Z,Z,Z] rfl rfl HT_ HW_ hHeld ?_
   refine one_ (i:=2) (N:=some 60) #[Y,Y,Y,Y,Z,Y,Z,Z,Z,Z,Z,Z] rfl rfl (one_of HT_.out (by kernel_rfl)) (by decide) (fun K hK=>?_)
   refine goC Try.func5 (laws_toEnd.calls (w:=_) (h:=A35.out)) ?_
   intro w42 hb
   replace HO_9:=Aside0.mk (Kd.R_below (rA HO_9) hb)
   replace HO_11:=Aside0.mk (Kd.R_below (rA HO_11) hb)
   replace BK244:=kB BK244 hb
   replace BK245:=kB BK245 hb
   replace HB:=lB hb
   (try clear hb)
   (try clear hb2)
   (try clear hk)
   (try clear hi)
   refine hK.out _ _ ⟨cA BK244 0,cA BK244 1,cA BK245 0,cA BK245 1⟩ (fun hHeld=>?_)
   clear hK K
   refine nmA ?_
   refine one_ (i:=4) (N:=some 62) #[Y,Y,Y,Y,Y,Y,Z,Z,Z,Z,Z,Z] rfl rfl (one_of HT_.out (by kernel_rfl)) (by decide) (fun K hK=>?_)
   refine goC Try.func5 (laws_toEnd.calls (w:=_) (h:=A36.out)) ?_
   intro w43 hb
   replace HO_9:=Aside0.mk (Kd.R_below (rA HO_9) hb)
   replace HO_11:=Aside0.mk (Kd.R_below (rA HO_11) hb)
   replace BK244:=kB BK244 hb
   replace BK245:=kB BK245 hb
   replace HB:=lB hb
   (try clear hb)
   (try clear hb2)
   (try clear hk)
   (try clear hi)
   refine hK.out _ _ ⟨cA BK244 0,cA BK244 1,cA BK245 0,cA BK245 1⟩ (fun hHeld=>?_)
   clear hK K
   refine nmA ?_
   refine one_ (i:=6) (N:=some 64) #[Y,Y,Y,Y,Y,Y,Y,Z,Z,Z,Z,Z] rfl rfl (one_of HT_.out (by kernel_rfl)) (by decide) (fun K hK=>?_)
   refine goes_ Try.func6 (by kernel_rfl) rfl #[.int .i64 a0,.agg #[.int .i64 t266,.int .i64 t267],.agg #[.int .i64 t268,.int .i64 t269],.int .i64 a3] (by rfl) rfl rfl hA ?_
   with_reducible refine (impl_BallsOfLine.calls kj10 a0 t266 t267 t268 t269 a3 t270 t273 _ A37.out).mono ?_
   rintro e w44 ⟨v271,rfl,ho0,hb⟩
   refine ⟨_,rfl,?_⟩
   have HO272:=Aside0.mk (Kd.R_lower (Kd.R_new' (Kd.R_new' ho0 (Kd.R_lt (rA HO_9))) (Kd.R_lt (rA HO_11))) (below_size blA))
   replace HO_9:=Aside0.mk (Kd.R_elder' (rA HO_9) (Kd.R_base ho0) hb)
   replace HO_11:=Aside0.mk (Kd.R_elder' (rA HO_11) (Kd.R_base ho0) hb)
   replace BK244:=kB BK244 hb
   replace BK245:=kB BK245 hb
   replace HB:=lB hb
   (try clear hb)
   (try clear hb2)
   (try clear hk)
   (try clear hi)
   (try clear ho0)
   refine hK.out _ _ ⟨cA BK244 0,cA BK244 1,cA BK245 0,cA BK245 1⟩ (fun hHeld=>?_)
   clear hK K
   refine nmA ?_
   refine puA (i:=7) (N:=some 57) #[Y,Y,Y,Y,Y,Y,Y,Y,Z,Z,Z,Z] rfl rfl HT_ ?_
   refine puA (i:=8) (N:=some 65) #[Y,Y,Y,Y,Y,Y,Y,Y,Y,Z,Z,Z] rfl rfl HT_ ?_
   refine puA (i:=9) (N:=some 66) #[Y,Y,Y,Y,Y,Y,Y,Y,Y,Y,Z,Z] rfl rfl HT_ ?_
   refine puA (i:=10) (N:=some 15) #[Y,Y,Y,Y,Y,Y,Y,Y,Y,Y,Y,Z] rfl rfl HT_ ?_
   refine puA (i:=11) (N:=some 16) #[Y,Y,Y,Y,Y,Y,Y,Y,Y,Y,Y,Y] rfl rfl HT_ ?_
   refine done_ (done_of HT_.out (by kernel_rfl)) ?_
   go_upto_region 14 with (fail)
   go_cut [75] (fun v75 wc=>∃ (kq:Nat) (x75_37:Bool),v75=.bool x75_37∧Aside0 (laws_FnExactBallsOfLine.j1 kq t264 t263 x75_37=some r)∧Aside0 (kq≤kj10)∧Aside0 (Kd.R k38 38 wc w.heap.size (fun _=>True) (.slice Ao39 t258.length co39) t264)∧Aside0 (wc.heap[gb244]?=some (.cells #[.int .i64 a1_0,.int .i64 a1_1] 23 (0,0)))∧Aside0 (wc.heap[gb245]?=some (.cells #[.int .i64 a2_0,.int .i64 a2_1] 23 (0,0)))∧Aside0 (Below w.heap.size w wc))
   case first=>
    have H:=HC38.out
    clear HC38
    replace H:=bS H
    obtain ⟨t274,A45,H⟩:=H
    try dsimp only at H
    by_cases c46:t274=true
    ·
     subst c46
     rw [if_pos rfl] at H
     try dsimp only at H
     have H':=Aside0.mk H
     clear H
     obtain ⟨Ao47,co47,eo47⟩:=Kd.R_slice HO272.out
     subst eo47
     obtain ⟨Ao48,co48,eo48⟩:=Kd.R_slice HO_9.out
     subst eo48
     go_wp2_with (first|((with_reducible refine gd 69 rfl ?_);refine gC (some 69) rfl Try.func7 (laws_eqBallS.calls (w:=_) (hr0:=cR (Kd.R_reads' HO272.out).2.2) (hc0:=(Kd.R_reads' HO272.out).2.1) (hr1:=cR (Kd.R_reads' HO_9.out).2.2) (hc1:=(Kd.R_reads' HO_9.out).2.1) (h:=A45.out)) ?_;intro w49 hb;have n0_:=Aside0.mk (Kd.R_below (rA HO_9) hb);have n1_:=Aside0.mk (Kd.R_below (rA HO_11) hb);have n2_:=Aside0.mk (Kd.R_below (rA HO272) hb);have n3_:=kB BK244 hb;have n4_:=kB BK245 hb;have n5_:=lB hb;clear HO_9;clear HO_11;clear HO272;clear BK244;clear BK245;clear HB;have HO_9:=n0_;have HO_11:=n1_;have HO272:=n2_;have BK244:=n3_;have BK245:=n4_;have HB:=n5_;clear n0_ n1_ n2_ n3_ n4_ n5_;clear hb))
     go_meet
     case rel=>exact ⟨_,((t273 != t253)),hB,H',⟨by have:=HJ10.out;first|omega|exact Nat.le_refl _⟩,⟨by (with_reducible repeat (first|apply Kd.R_alloc|apply Kd.R_drewN|apply Kd.R_drew));exact Kd.R_mono HO_11.out (fun _ hk=>trivial)⟩,⟨bkA BK244⟩,⟨bkA BK245⟩,⟨blA⟩⟩
    ·
     replace c46:=Bool.eq_false_iff.mpr c46
     subst c46
     rw [if_neg (show ¬ (false=true) by decide)] at H
     try dsimp only at H
     have H':=Aside0.mk H
     clear H
     obtain ⟨Ao50,co50,eo50⟩:=Kd.R_slice HO272.out
     subst eo50
     obtain ⟨Ao51,co51,eo51⟩:=Kd.R_slice HO_9.out
     subst eo51
     go_wp2_with (first|((with_reducible refine gd 69 rfl ?_);refine gC (some 69) rfl Try.func7 (laws_eqBallS.calls (w:=_) (hr0:=cR (Kd.R_reads' HO272.out).2.2) (hc0:=(Kd.R_reads' HO272.out).2.1) (hr1:=cR (Kd.R_reads' HO_9.out).2.2) (hc1:=(Kd.R_reads' HO_9.out).2.1) (h:=A45.out)) ?_;intro w52 hb;have n0_:=Aside0.mk (Kd.R_below (rA HO_9) hb);have n1_:=Aside0.mk (Kd.R_below (rA HO_11) hb);have n2_:=Aside0.mk (Kd.R_below (rA HO272) hb);have n3_:=kB BK244 hb;have n4_:=kB BK245 hb;have n5_:=lB hb;clear HO_9;clear HO_11;clear HO272;clear BK244;clear BK245;clear HB;have HO_9:=n0_;have HO_11:=n1_;have HO272:=n2_;have BK244:=n3_;have BK245:=n4_;have HB:=n5_;clear n0_ n1_ n2_ n3_ n4_ n5_;clear hb))
     go_meet
     case rel=>exact ⟨_,(true),hB,H',⟨by have:=HJ10.out;first|omega|exact Nat.le_refl _⟩,⟨by (with_reducible repeat (first|apply Kd.R_alloc|apply Kd.R_drewN|apply Kd.R_drew));exact Kd.R_mono HO_11.out (fun _ hk=>trivial)⟩,⟨bkA BK244⟩,⟨bkA BK245⟩,⟨blA⟩⟩
   case rest=>
    clear HC38
    try clear c23
    try clear c30
    try clear c33
    try clear c33b0
    try clear c34
    try clear c34b0
    try clear c34b1
    try clear c46
    obtain ⟨kq,x75_37,rfl,HA,HJ37,HO_11,BK244,BK245,HB⟩:=hcut
    have hl11_37:=(Kd.R_reads' HO_11.out).1
    rw [hl11_37] at HO_11
    (try simp only [hl11_37])
    (try simp only [hl11_37] at BK244)
    (try simp only [hl11_37] at BK245)
    cases kq with
    | zero=>exact absurd HA.out (by simp [laws_FnExactBallsOfLine.j1])
    | succ kj37=>
     have H:=HA.out
     clear HA
     simp only [laws_FnExactBallsOfLine.j1] at H
     by_cases c53:x75_37=true
     ·
      subst c53
      rw [if_pos rfl] at H
      try dsimp only at H
      exact absurd H (by simp)
     replace c53:=Bool.eq_false_iff.mpr c53
     subst c53
     rw [if_neg (show ¬ (false=true) by decide)] at H
     try dsimp only at H
     replace H:=bS H
     obtain ⟨t275,A54,H⟩:=H
     try dsimp only at H
     by_cases c55:t275<0
     ·
      rw [if_pos c55] at H
      exact absurd H (by simp)
     rw [if_neg c55] at H
     have c55b0:=decide_eq_false c55
     clear c55
     by_cases c56:t275=t263
     rotate_left
     ·
      rw [if_neg c56] at H
      exact absurd H (by simp)
     rw [if_pos c56] at H
     have c56b0:(t275 == t263)=true:=beq_iff_eq.mpr c56
     have c56b1:(t275 != t263)=false:=bne_eq_false_iff_eq.mpr c56
     clear c56
     obtain rfl:=Option.some.inj H
     go_wp2_with (first|((with_reducible refine gd 78 rfl ?_);refine gC (some 78) rfl Try.func9 (laws_heldBallS.calls (w:=_) (hr0:=cR (Kd.R_reads' HO_11.out).2.2) (hc0:=(Kd.R_reads' HO_11.out).2.1) (h:=A54.out)) ?_;rintro _ ⟨nd,rfl⟩))
     go_ret
     exact finA blA
end Go.Proofs.Ytboneolhoajaoaa.PAll
