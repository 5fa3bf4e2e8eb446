-- turned out of the kit's print
import Derived.Test.YtnhiehpbkimaeaaQx
import Derived.Test.YtnhiehpbkimaeaaQLeqMatrixS
import Derived.Test.YtnhiehpbkimaeaaQimplBall56
import Derived.Test.YtnhiehpbkimaeaaQimplclasses
import Derived.Test.YtnhiehpbkimaeaaQimplmark
import Derived.Test.YtnhiehpbkimaeaaQimplregion
import Derived.Test.YtnhiehpbkimaeaaQimplregionCode
import Derived.Test.YtnhiehpbkimaeaaQspecl01Is
import Derived.Test.YtnhiehpbkimaeaaQspecl06Code
import Derived.Test.YtnhiehpbkimaeaaQspecl06Leaders
namespace Go.Proofs.Ytnhiehpbkimaeaa.PAll
open Go.RowKit Go.Proofs.YtnhiehpbkimaeaaW.PrintWords Go.Proofs.YtnhiehpbkimaeaaW.PrintLast Go.Proofs.YtnhiehpbkimaeaaW.PrintMore
attribute [local go_sem] Go.Proofs.Ytnhiehpbkimaeaa.Aux.setCell_drewN Go.Proofs.Ytnhiehpbkimaeaa.Aux.isSome_setCell max2_int min2_int max_two min_two max_three min_three max_four min_four
set_option linter.unusedVariables false
set_option linter.unusedSimpArgs false
def spec_ClassesIn.f (k:Nat) (a0:Int) (l1:List (S42)) (a2:Int):Option ((List (List Int)) × Int):=(spec_l06Code.f k a0 l1 a2).bind fun t280=>(if t280=0 then ((spec_l06Region.f k a0 a2).bind fun t281=>((spec_l06Leaders.f k a0 l1 t281).bind fun t284=>((spec_l06Classes.f k t284).bind fun t287=>(some (t287,0))))) else (some (([]:List (List Int)),t280)))
theorem spec_ClassesIn.mono:∀ a0 a1 a2 k,LeO (spec_ClassesIn.f k a0 a1 a2) (spec_ClassesIn.f (k+1) a0 a1 a2):=by
 intro a0 a1 a2 k
 unfold spec_ClassesIn.f
 repeat' first
   | with_reducible first|exact spec_l06Classes.mono ..|exact spec_l06Code.mono ..|exact spec_l06Leaders.mono ..|exact spec_l06Region.mono ..|exact LeO.refl _|exact LeO.none _|refine LeO.ite ?_ ?_|refine LeO.bind ?_ fun _=>?_
set_option maxHeartbeats 8000000 in
set_option maxRecDepth 100000 in
theorem spec_ClassesIn.calls (k:Nat) (a0:Int) (A1:Option Addr) (c1:Nat) (l1:List (S42)) (a2:Int) (r1:List (List Int)) (r2:Int) (w:World) (hr1:Kd.C k42 w A1 l1.length l1) (hc1:l1.length≤c1) (h:spec_ClassesIn.f k a0 l1 a2=some (r1,r2)) :
  Calls Try.prog 5 #[.int .i64 a0,.slice A1 l1.length c1,.int .i64 a2] w fun e w'=>∃ v0_:Value,e=.returned (.tuple #[v0_,.int .i64 r2])∧Kd.S (Kd.slice 2 (Kd.int .i64)) 36 w' w.heap.size (fun _=>True) v0_ r1∧Below w.heap.size w w':=by
 have HR1:=Aside0.mk hr1
 have HC1:=Aside0.mk hc1
 clear hr1 hc1
 have HB:=Aside0.mk (Below.refl w.heap.size w)
 have H:=h
 unfold spec_ClassesIn.f at H
 clear h
 replace H:=bS H
 obtain ⟨t280,A4,H⟩:=H
 try dsimp only at H
 by_cases c5:t280=0
 focus
  rw [if_pos c5] at H
  have c5b0:(t280 == 0)=true:=beq_iff_eq.mpr c5
  have c5b1:(t280 != 0)=false:=bne_eq_false_iff_eq.mpr c5
  clear c5
  replace H:=bS H
  obtain ⟨t281,A6,H⟩:=H
  try dsimp only at H
  replace H:=bS H
  obtain ⟨t284,A7,H⟩:=H
  try dsimp only at H
  replace H:=bS H
  obtain ⟨t287,A8,H⟩:=H
  try dsimp only at H
  simp only [Option.some.injEq,Prod.mk.injEq] at H
  obtain ⟨rfl,rfl⟩:=H
 rotate_left
 focus
  rw [if_neg c5] at H
  have c5b0:(t280 == 0)=false:=beq_eq_false_iff_ne.mpr c5
  have c5b1:(t280 != 0)=true:=bne_iff_ne.mpr c5
  simp only [Option.some.injEq,Prod.mk.injEq] at H
  obtain ⟨rfl,rfl⟩:=H
 rotate_left
 all_goals
  go_enter Try.func5,Try.ntmps5
  go_wp2_with (first|((with_reducible refine gd 12 rfl ?_);refine gC (some 12) rfl Try.func13 (spec_l06Code.calls (w:=_) (hr1:=cR HR1.out) (hc1:=HC1.out) (h:=A4.out)) ?_;intro w9 hb;replace HB:=lB hb;clear hb)|((with_reducible refine gate_callee (f:=16) rfl ?_);refine gL (some 20) rfl Try.func16 #[.int .i64 a0,.int .i64 a2] ?_;(with_reducible refine (spec_l06Region.calls k a0 a2 t281 _ A6.out).mono ?_);rintro e w10 ⟨v282,rfl,ho0,hb⟩;refine ⟨_,rfl,?_⟩;have HO283:=Aside0.mk (Kd.R_lower ho0 (below_size blA));replace HB:=lB hb;clear ho0 hb;obtain ⟨Ao11,co11,eo11⟩:=Kd.R_slice HO283.out;subst eo11)|((with_reducible refine gate_callee (f:=15) rfl ?_);refine gL (some 21) rfl Try.func15 #[.int .i64 a0,.slice A1 l1.length c1,.slice Ao11 t281.length co11] ?_;(with_reducible refine (spec_l06Leaders.calls k a0 _ _ l1 _ _ t281 t284 _ ?side1 ?side2 ?side3 ?side4 A7.out).mono ?_);(case side1=>exact cR (Kd.C_below HR1.out HB.out));(case side2=>exact HC1.out);(case side3=>exact cR (Kd.R_reads' HO283.out).2.2);(case side4=>exact (Kd.R_reads' HO283.out).2.1);rintro e w12 ⟨v285,rfl,ho0,hb⟩;refine ⟨_,rfl,?_⟩;have HO286:=Aside0.mk (Kd.R_lower ho0 (below_size blA));replace HO283:=Aside0.mk (Kd.R_below (rA HO283) hb);replace HB:=lB hb;clear ho0 hb;obtain ⟨Ao13,co13,eo13⟩:=Kd.R_slice HO286.out;subst eo13)|((with_reducible refine gate_callee (f:=14) rfl ?_);refine gL (some 22) rfl Try.func14 #[.slice Ao13 t284.length co13] ?_;(with_reducible refine (spec_l06Classes.calls k _ _ t284 t287 _ ?side1 ?side2 A8.out).mono ?_);(case side1=>exact cR (Kd.R_reads' HO286.out).2.2);(case side2=>exact (Kd.R_reads' HO286.out).2.1);rintro e w14 ⟨v288,rfl,ho0,hb⟩;refine ⟨_,rfl,?_⟩;have HO289:=Aside0.mk (Kd.S_lower (Kd.S_new' ho0 (Kd.R_lt (rA HO286))) (below_size blA));replace HO283:=Aside0.mk (Kd.R_below (rA HO283) hb);replace HO286:=Aside0.mk (Kd.R_below (rA HO286) hb);replace HB:=lB hb;clear ho0 hb))
 ·
  go_ret2
  exact ⟨_,eW,by (with_reducible repeat (first|apply Kd.S_alloc|apply Kd.S_drewN|apply Kd.S_drew));exact Kd.S_mono HO289.out (fun _ hk=>trivial),blA⟩
 ·
  go_ret2
  exact ⟨_,eW,by first|exact Kd.S_nil _ _ _ _ _|exact Kd.N_nil _ _ _ _ _|exact Kd.V_nil _ _ _ _ _|exact Kd.Q_nil _ _ _ _ _|exact Kd.R_nil _ _ _ _ _,blA⟩
def impl_ClassesIn.f (k:Nat) (a0:Int) (l1:List (S42)) (a2:Int):Option ((List (List Int)) × Int):=(impl_regionCode.f k a0 l1 a2).bind fun t502=>(if t502=0 then ((impl_region.f k a0 a2).bind fun t503=>((impl_classes.f k a0 l1 t503).bind fun bt506=>(some (bt506.1,0)))) else (some (([]:List (List Int)),t502)))
theorem impl_ClassesIn.mono:∀ a0 a1 a2 k,LeO (impl_ClassesIn.f k a0 a1 a2) (impl_ClassesIn.f (k+1) a0 a1 a2):=by
 intro a0 a1 a2 k
 unfold impl_ClassesIn.f
 repeat' first
   | with_reducible first|exact impl_classes.mono ..|exact impl_region.mono ..|exact impl_regionCode.mono ..|exact LeO.refl _|exact LeO.none _|refine LeO.ite ?_ ?_|refine LeO.bind ?_ fun _=>?_
set_option maxHeartbeats 8000000 in
set_option maxRecDepth 100000 in
theorem impl_ClassesIn.calls (k:Nat) (a0:Int) (A1:Option Addr) (c1:Nat) (l1:List (S42)) (a2:Int) (r1:List (List Int)) (r2:Int) (w:World) (hr1:Kd.C k42 w A1 l1.length l1) (hc1:l1.length≤c1) (h:impl_ClassesIn.f k a0 l1 a2=some (r1,r2)) :
  Calls Try.prog 7 #[.int .i64 a0,.slice A1 l1.length c1,.int .i64 a2] w fun e w'=>∃ v0_:Value,e=.returned (.tuple #[v0_,.int .i64 r2])∧Kd.S (Kd.slice 2 (Kd.int .i64)) 36 w' w.heap.size (fun _=>True) v0_ r1∧Below w.heap.size w w':=by
 have HR1:=Aside0.mk hr1
 have HC1:=Aside0.mk hc1
 clear hr1 hc1
 have HB:=Aside0.mk (Below.refl w.heap.size w)
 have H:=h
 unfold impl_ClassesIn.f at H
 clear h
 replace H:=bS H
 obtain ⟨t502,A4,H⟩:=H
 try dsimp only at H
 by_cases c5:t502=0
 focus
  rw [if_pos c5] at H
  have c5b0:(t502 == 0)=true:=beq_iff_eq.mpr c5
  have c5b1:(t502 != 0)=false:=bne_eq_false_iff_eq.mpr c5
  clear c5
  replace H:=bS H
  obtain ⟨t503,A6,H⟩:=H
  try dsimp only at H
  replace H:=bS H
  obtain ⟨⟨t506,t507⟩,A7,H⟩:=H
  try dsimp only at H
  simp only [Option.some.injEq,Prod.mk.injEq] at H
  obtain ⟨rfl,rfl⟩:=H
 rotate_left
 focus
  rw [if_neg c5] at H
  have c5b0:(t502 == 0)=false:=beq_eq_false_iff_ne.mpr c5
  have c5b1:(t502 != 0)=true:=bne_iff_ne.mpr c5
  simp only [Option.some.injEq,Prod.mk.injEq] at H
  obtain ⟨rfl,rfl⟩:=H
 rotate_left
 all_goals
  go_enter Try.func7,Try.ntmps7
  go_wp2_with (first|((with_reducible refine gd 14 rfl ?_);refine gC (some 14) rfl Try.func18 (impl_regionCode.calls (w:=_) (hr1:=cR HR1.out) (hc1:=HC1.out) (h:=A4.out)) ?_;intro w8 hb;replace HB:=lB hb;clear hb)|((with_reducible refine gate_callee (f:=20) rfl ?_);refine gL (some 23) rfl Try.func20 #[.int .i64 a0,.int .i64 a2] ?_;(with_reducible refine (impl_region.calls k a0 a2 t503 _ A6.out).mono ?_);rintro e w9 ⟨v504,rfl,ho0,hb⟩;refine ⟨_,rfl,?_⟩;have HO505:=Aside0.mk (Kd.R_lower ho0 (below_size blA));replace HB:=lB hb;clear ho0 hb;obtain ⟨Ao10,co10,eo10⟩:=Kd.R_slice HO505.out;subst eo10)|((with_reducible refine gate_callee (f:=19) rfl ?_);refine gL (some 24) rfl Try.func19 #[.int .i64 a0,.slice A1 l1.length c1,.slice Ao10 t503.length co10] ?_;(with_reducible refine (impl_classes.calls k a0 _ _ l1 _ _ t503 t506 t507 _ ?side1 ?side2 ?side3 ?side4 A7.out).mono ?_);(case side1=>exact cR (Kd.C_below HR1.out HB.out));(case side2=>exact HC1.out);(case side3=>exact cR (Kd.R_reads' HO505.out).2.2);(case side4=>exact (Kd.R_reads' HO505.out).2.1);rintro e w11 ⟨v508,v510,rfl,ho0,ho1,hb⟩;refine ⟨_,rfl,?_⟩;have HO509:=Aside0.mk (Kd.S_lower ho0 (below_size blA));have HO511:=Aside0.mk (Kd.R_lower ho1 (below_size blA));replace HO505:=Aside0.mk (Kd.R_below (rA HO505) hb);replace HB:=lB hb;clear ho0 ho1 hb))
 ·
  go_ret2
  exact ⟨_,eW,by (with_reducible repeat (first|apply Kd.S_alloc|apply Kd.S_drewN|apply Kd.S_drew));exact Kd.S_mono HO509.out (fun _ hk=>trivial),blA⟩
 ·
  go_ret2
  exact ⟨_,eW,by first|exact Kd.S_nil _ _ _ _ _|exact Kd.N_nil _ _ _ _ _|exact Kd.V_nil _ _ _ _ _|exact Kd.Q_nil _ _ _ _ _|exact Kd.R_nil _ _ _ _ _,blA⟩
mutual
def laws_FnExactClassesIn.j0:Nat→Int→List (S41)→Int→List (List Int)→Int→List (S42)→List (List Int)→Int→Bool→Option (Bool)
 | 0,_,_,_,_,_,_,_,_,_=>none
 | k+1,x0,x1,x2,x8,x9,x10,x11,x12,x48=>if x48=true then (none) else ((laws_toMatrixS.f k x1).bind fun t540=>((laws_eqMatrixS.f k x10 t540).bind fun t543=>(if t543=true then ((laws_markMatrixS.f k x10 1).bind fun t544=>(if t544<0 then (laws_FnExactClassesIn.j1 k x0 x1 x2 x8 x9 x11 true) else ((laws_eqInt64SS.f k x11 x8).bind fun t545=>(if t545=true then (laws_FnExactClassesIn.j1 k x0 x1 x2 x8 x9 x11 (x12 != x9)) else (laws_FnExactClassesIn.j1 k x0 x1 x2 x8 x9 x11 true))))) else (none))))
def laws_FnExactClassesIn.j1:Nat→Int→List (S41)→Int→List (List Int)→Int→List (List Int)→Bool→Option (Bool)
 | 0,_,_,_,_,_,_,_=>none
 | k+1,x0,x1,x2,x8,x9,x11,x69=>if x69=true then (none) else ((laws_markInt64SS.f k x11 1).bind fun bt546=>((laws_heldInt64SS.f k bt546.2 1).bind fun t547=>(if t547<0 then (none) else (if t547=bt546.1 then ((laws_toMatrixS.f k x1).bind fun t548=>((impl_ClassesIn.f k x0 t548 x2).bind fun bt551=>((laws_eqInt64SS.f k bt551.1 x8).bind fun t555=>(if t555=true then (laws_FnExactClassesIn.j2 k bt546.2 bt546.1 (bt551.2 != x9)) else (laws_FnExactClassesIn.j2 k bt546.2 bt546.1 true))))) else (none)))))
def laws_FnExactClassesIn.j2:Nat→List (List Int)→Int→Bool→Option (Bool)
 | 0,_,_,_=>none
 | k+1,x11,x14,x97=>if x97=true then (none) else ((laws_heldInt64SS.f k x11 1).bind fun t556=>(if t556<0 then (none) else (if t556=x14 then (some true) else (none))))
end
def laws_FnExactClassesIn.f (k:Nat) (a0:Int) (l1:List (S41)) (a2:Int):Option (Bool):=(laws_szMatrixS.f l1 1048576).bind fun t524=>(if t524<0 then (some true) else ((laws_toMatrixS.f k l1).bind fun t525=>((spec_ClassesIn.f k a0 t525 a2).bind fun bt528=>((laws_toMatrixS.f k l1).bind fun t532=>((impl_ClassesIn.f k a0 t532 a2).bind fun bt535=>((laws_eqInt64SS.f k bt535.1 bt528.1).bind fun t539=>(if t539=true then (laws_FnExactClassesIn.j0 k a0 l1 a2 bt528.1 bt528.2 t532 bt535.1 bt535.2 (bt535.2 != bt528.2)) else (laws_FnExactClassesIn.j0 k a0 l1 a2 bt528.1 bt528.2 t532 bt535.1 bt535.2 true))))))))
set_option maxHeartbeats 8000000 in
set_option maxRecDepth 100000 in
theorem laws_FnExactClassesIn.calls (k:Nat) (a0:Int) (A1:Option Addr) (c1:Nat) (l1:List (S41)) (a2:Int) (r:Bool) (w:World) (hr1:Kd.C k41 w A1 l1.length l1) (hc1:l1.length≤c1) (h:laws_FnExactClassesIn.f k a0 l1 a2=some r) :
  Calls Try.prog 3 #[.int .i64 a0,.slice A1 l1.length c1,.int .i64 a2] w fun e w'=>e=.returned (.bool r)∧Below w.heap.size w w':=by
 have HR1:=Aside0.mk hr1
 have HC1:=Aside0.mk hc1
 clear hr1 hc1
 have HB:=Aside0.mk (Below.refl w.heap.size w)
 have H:=h
 unfold laws_FnExactClassesIn.f at H
 clear h
 replace H:=bS H
 obtain ⟨t524,A4,H⟩:=H
 try dsimp only at H
 by_cases c5:t524<0
 ·
  rw [if_pos c5] at H
  have c5b0:=decide_eq_true c5
  clear c5
  obtain rfl:=Option.some.inj H
  go_enter Try.func3,Try.ntmps3
  go_wp2_with (first|((with_reducible refine gd 20 rfl ?_);refine gC (some 20) rfl Try.func4 (laws_szMatrixS.calls (w:=_) (hr0:=cR HR1.out) (hc0:=HC1.out) (h:=A4.out)) ?_;rintro _ ⟨nd,rfl⟩))
  go_ret
  exact finA blA
 ·
  rw [if_neg c5] at H
  have c5b0:=decide_eq_false c5
  clear c5
  replace H:=bS H
  obtain ⟨t525,A6,H⟩:=H
  try dsimp only at H
  replace H:=bS H
  obtain ⟨⟨t528,t529⟩,A7,H⟩:=H
  try dsimp only at H
  replace H:=bS H
  obtain ⟨t532,A8,H⟩:=H
  try dsimp only at H
  replace H:=bS H
  obtain ⟨⟨t535,t536⟩,A9,H⟩:=H
  try dsimp only at H
  have HC10:=Aside0.mk H
  clear H
  go_enter Try.func3,Try.ntmps3
  go_upto_region 8 with (first|((with_reducible refine gd 20 rfl ?_);refine gC (some 20) rfl Try.func4 (laws_szMatrixS.calls (w:=_) (hr0:=cR HR1.out) (hc0:=HC1.out) (h:=A4.out)) ?_;rintro _ ⟨nd,rfl⟩)|((with_reducible refine gate_callee (f:=6) rfl ?_);refine gL (some 26) rfl Try.func6 #[.slice A1 l1.length c1] ?_;(with_reducible refine (laws_toMatrixS.calls k _ _ l1 t525 _ ?side1 ?side2 A6.out).mono ?_);(case side1=>exact cR HR1.out);(case side2=>exact HC1.out);rintro e w11 ⟨v526,rfl,ho0,hb⟩;refine ⟨_,rfl,?_⟩;have HO527:=Aside0.mk (Kd.R_lower ho0 (below_size blA));replace HB:=lB hb;clear ho0 hb;obtain ⟨Ao12,co12,eo12⟩:=Kd.R_slice HO527.out;subst eo12)|((with_reducible refine gate_callee (f:=5) rfl ?_);refine gL (some 28) rfl Try.func5 #[.int .i64 a0,.slice Ao12 t525.length co12,.int .i64 a2] ?_;(with_reducible refine (spec_ClassesIn.calls k a0 _ _ t525 a2 t528 t529 _ ?side1 ?side2 A7.out).mono ?_);(case side1=>exact cR (Kd.R_reads' HO527.out).2.2);(case side2=>exact (Kd.R_reads' HO527.out).2.1);rintro e w13 ⟨v530,rfl,ho0,hb⟩;refine ⟨_,rfl,?_⟩;have HO531:=Aside0.mk (Kd.S_lower ho0 (below_size blA));replace HO527:=Aside0.mk (Kd.R_below (rA HO527) hb);replace HB:=lB hb;clear ho0 hb)|((with_reducible refine gate_callee (f:=6) rfl ?_);refine gL (some 32) rfl Try.func6 #[.slice A1 l1.length c1] ?_;(with_reducible refine (laws_toMatrixS.calls k _ _ l1 t532 _ ?side1 ?side2 A8.out).mono ?_);(case side1=>exact cR (Kd.C_below HR1.out HB.out));(case side2=>exact HC1.out);rintro e w14 ⟨v533,rfl,ho0,hb⟩;refine ⟨_,rfl,?_⟩;have HO534:=Aside0.mk (Kd.R_lower (Kd.R_new' ho0 (Kd.R_lt (rA HO527))) (below_size blA));replace HO527:=Aside0.mk (Kd.R_elder' (rA HO527) (Kd.R_base ho0) hb);replace HO531:=Aside0.mk (Kd.S_below (by (with_reducible repeat (first|apply Kd.S_alloc|apply Kd.S_drewN|apply Kd.S_drew));exact HO531.out) hb);replace HB:=lB hb;clear ho0 hb;obtain ⟨Ao15,co15,eo15⟩:=Kd.R_slice HO534.out;subst eo15)|((with_reducible refine gate_callee (f:=7) rfl ?_);refine gL (some 37) rfl Try.func7 #[.int .i64 a0,.slice Ao15 t532.length co15,.int .i64 a2] ?_;(with_reducible refine (impl_ClassesIn.calls k a0 _ _ t532 a2 t535 t536 _ ?side1 ?side2 A9.out).mono ?_);(case side1=>exact cR (Kd.R_reads' HO534.out).2.2);(case side2=>exact (Kd.R_reads' HO534.out).2.1);rintro e w16 ⟨v537,rfl,ho0,hb⟩;refine ⟨_,rfl,?_⟩;obtain ⟨B_,hs1_,hs2_⟩:∃ B_:Nat,Kd.S (Kd.slice 2 (Kd.int .i64)) 36 w16 w.heap.size (fun k_=>k_<B_) v530 t528∧Kd.S (Kd.slice 2 (Kd.int .i64)) 36 w16 w.heap.size (fun k_=>B_≤k_) v537 t535:=⟨_,Kd.S_mono (Kd.S_old (by (with_reducible repeat (first|apply Kd.S_alloc|apply Kd.S_drewN|apply Kd.S_drew));exact HO531.out) hb) (fun k_ hk=>hk.2),Kd.S_lower (Kd.S_mono (Kd.S_bound ho0) (fun k_ hk=>hk.2.1)) (below_size blA)⟩;have n0_:=Aside0.mk (Kd.R_below (rA HO527) hb);have n1_:=Aside0.mk hs1_;have n2_:=Aside0.mk (Kd.R_below (rA HO534) hb);have n3_:=Aside0.mk hs2_;clear hs1_ hs2_;have n4_:=lB hb;clear HO527;clear HO531;clear HO534;clear HB;have HO527:=n0_;have HO531:=n1_;have HO534:=n2_;have HO538:=n3_;have HB:=n4_;clear n0_ n1_ n2_ n3_ n4_;clear ho0 hb))
  (try simp only [Act.put,List.setIfInBounds_toArray,List.set_cons_zero,List.set_cons_succ])
  go_cut [48] (fun v48 wc=>∃ (kq:Nat) (x48_9:Bool),v48=.bool x48_9∧Aside0 (laws_FnExactClassesIn.j0 kq a0 l1 a2 t528 t529 t532 t535 t536 x48_9=some r)∧Aside0 (kq≤k)∧Aside0 (Kd.S (Kd.slice 2 (Kd.int .i64)) 36 wc w.heap.size (fun k_=>k_<B_) v530 t528)∧Aside0 (Kd.R k42 42 wc w.heap.size (fun _=>True) (.slice Ao15 t532.length co15) t532)∧Aside0 (Kd.S (Kd.slice 2 (Kd.int .i64)) 36 wc w.heap.size (fun k_=>B_≤k_) v537 t535)∧Aside0 (Below w.heap.size w wc))
  case first=>
   have H:=HC10.out
   clear HC10
   replace H:=bS H
   obtain ⟨t539,A17,H⟩:=H
   try dsimp only at H
   by_cases c18:t539=true
   ·
    subst c18
    rw [if_pos rfl] at H
    try dsimp only at H
    have H':=Aside0.mk H
    clear H
    obtain ⟨Ao19,co19,eo19⟩:=Kd.S_slice HO538.out
    subst eo19
    obtain ⟨Ao20,co20,eo20⟩:=Kd.S_slice HO531.out
    subst eo20
    go_wp2_with (first|((with_reducible refine gd 42 rfl ?_);refine gC (some 42) rfl Try.func8 (laws_eqInt64SS.calls (w:=_) (hr0:=cR (Kd.S_reads' HO538.out).2.2) (hc0:=(Kd.S_reads' HO538.out).2.1) (hr1:=cR (Kd.S_reads' HO531.out).2.2) (hc1:=(Kd.S_reads' HO531.out).2.1) (h:=A17.out)) ?_;rintro _ ⟨nd,rfl⟩))
    go_meet
    case rel=>exact ⟨_,((t536 != t529)),hB,H',⟨by first|omega|exact Nat.le_refl _⟩,⟨by (with_reducible repeat (first|apply Kd.S_alloc|apply Kd.S_drewN|apply Kd.S_drew));exact HO531.out⟩,⟨by (with_reducible repeat (first|apply Kd.R_alloc|apply Kd.R_drewN|apply Kd.R_drew));exact Kd.R_mono HO534.out (fun _ hk=>trivial)⟩,⟨by (with_reducible repeat (first|apply Kd.S_alloc|apply Kd.S_drewN|apply Kd.S_drew));exact HO538.out⟩,⟨blA⟩⟩
   ·
    replace c18:=Bool.eq_false_iff.mpr c18
    subst c18
    rw [if_neg (show ¬ (false=true) by decide)] at H
    try dsimp only at H
    have H':=Aside0.mk H
    clear H
    obtain ⟨Ao21,co21,eo21⟩:=Kd.S_slice HO538.out
    subst eo21
    obtain ⟨Ao22,co22,eo22⟩:=Kd.S_slice HO531.out
    subst eo22
    go_wp2_with (first|((with_reducible refine gd 42 rfl ?_);refine gC (some 42) rfl Try.func8 (laws_eqInt64SS.calls (w:=_) (hr0:=cR (Kd.S_reads' HO538.out).2.2) (hc0:=(Kd.S_reads' HO538.out).2.1) (hr1:=cR (Kd.S_reads' HO531.out).2.2) (hc1:=(Kd.S_reads' HO531.out).2.1) (h:=A17.out)) ?_;rintro _ ⟨nd,rfl⟩))
    go_meet
    case rel=>exact ⟨_,(true),hB,H',⟨by first|omega|exact Nat.le_refl _⟩,⟨by (with_reducible repeat (first|apply Kd.S_alloc|apply Kd.S_drewN|apply Kd.S_drew));exact HO531.out⟩,⟨by (with_reducible repeat (first|apply Kd.R_alloc|apply Kd.R_drewN|apply Kd.R_drew));exact Kd.R_mono HO534.out (fun _ hk=>trivial)⟩,⟨by (with_reducible repeat (first|apply Kd.S_alloc|apply Kd.S_drewN|apply Kd.S_drew));exact HO538.out⟩,⟨blA⟩⟩
  case rest=>
   clear HC10
   try clear c1
   try clear c5
   try clear c5b0
   try clear c18
   obtain ⟨kq,x48_9,rfl,HA,HJ9,HO_8,HO_10,HO_11,HB⟩:=hcut
   cases kq with
   | zero=>exact absurd HA.out (by simp [laws_FnExactClassesIn.j0])
   | succ kj9=>
    have H:=HA.out
    clear HA
    simp only [laws_FnExactClassesIn.j0] at H
    by_cases c23:x48_9=true
    ·
     subst c23
     rw [if_pos rfl] at H
     try dsimp only at H
     exact absurd H (by simp)
    replace c23:=Bool.eq_false_iff.mpr c23
    subst c23
    rw [if_neg (show ¬ (false=true) by decide)] at H
    try dsimp only at H
    replace H:=bS H
    obtain ⟨t540,A24,H⟩:=H
    try dsimp only at H
    replace H:=bS H
    obtain ⟨t543,A25,H⟩:=H
    try dsimp only at H
    by_cases c26:t543=true
    rotate_left
    ·
     replace c26:=Bool.eq_false_iff.mpr c26
     subst c26
     rw [if_neg (show ¬ (false=true) by decide)] at H
     try dsimp only at H
     exact absurd H (by simp)
    subst c26
    rw [if_pos rfl] at H
    try dsimp only at H
    replace H:=bS H
    obtain ⟨t544,A27,H⟩:=H
    try dsimp only at H
    have HC28:=Aside0.mk H
    clear H
    go_upto_region 14 with (first|((with_reducible refine gate_callee (f:=6) rfl ?_);refine gL (some 51) rfl Try.func6 #[.slice A1 l1.length c1] ?_;(with_reducible refine (laws_toMatrixS.calls kj9 _ _ l1 t540 _ ?side1 ?side2 A24.out).mono ?_);(case side1=>exact cR (Kd.C_below HR1.out HB.out));(case side2=>exact HC1.out);rintro e w29 ⟨v541,rfl,ho0,hb⟩;refine ⟨_,rfl,?_⟩;have HO542:=Aside0.mk (Kd.R_lower (Kd.R_new' ho0 (Kd.R_lt (rA HO_10))) (below_size blA));replace HO_8:=Aside0.mk (Kd.S_below (by (with_reducible repeat (first|apply Kd.S_alloc|apply Kd.S_drewN|apply Kd.S_drew));exact HO_8.out) hb);replace HO_10:=Aside0.mk (Kd.R_elder' (rA HO_10) (Kd.R_base ho0) hb);replace HO_11:=Aside0.mk (Kd.S_below (by (with_reducible repeat (first|apply Kd.S_alloc|apply Kd.S_drewN|apply Kd.S_drew));exact HO_11.out) hb);replace HB:=lB hb;clear ho0 hb;obtain ⟨Ao30,co30,eo30⟩:=Kd.R_slice HO542.out;subst eo30)|((with_reducible refine gd 52 rfl ?_);refine gC (some 52) rfl Try.func9 (laws_eqMatrixS.calls (w:=_) (hr0:=cR (Kd.R_reads' HO_10.out).2.2) (hc0:=(Kd.R_reads' HO_10.out).2.1) (hr1:=cR (Kd.R_reads' HO542.out).2.2) (hc1:=(Kd.R_reads' HO542.out).2.1) (h:=A25.out)) ?_;intro w31 hb;replace HO_8:=Aside0.mk (Kd.S_below (by (with_reducible repeat (first|apply Kd.S_alloc|apply Kd.S_drewN|apply Kd.S_drew));exact HO_8.out) hb);replace HO_10:=Aside0.mk (Kd.R_below (rA HO_10) hb);replace HO_11:=Aside0.mk (Kd.S_below (by (with_reducible repeat (first|apply Kd.S_alloc|apply Kd.S_drewN|apply Kd.S_drew));exact HO_11.out) hb);replace HO542:=Aside0.mk (Kd.R_below (rA HO542) hb);replace HB:=lB hb;clear hb)|((with_reducible refine gd 56 rfl ?_);refine gC (some 56) rfl Try.func10 (laws_markMatrixS.calls (w:=_) (hr0:=cR (Kd.R_reads' HO_10.out).2.2) (hc0:=(Kd.R_reads' HO_10.out).2.1) (h:=A27.out)) ?_;rintro _ ⟨nd,rfl⟩))
    (try simp only [Act.put,List.setIfInBounds_toArray,List.set_cons_zero,List.set_cons_succ])
    go_cut [69] (fun v69 wc=>∃ (kq:Nat) (x69_27:Bool),v69=.bool x69_27∧Aside0 (laws_FnExactClassesIn.j1 kq a0 l1 a2 t528 t529 t535 x69_27=some r)∧Aside0 (kq≤kj9)∧Aside0 (Kd.S (Kd.slice 2 (Kd.int .i64)) 36 wc w.heap.size (fun k_=>k_<B_) v530 t528)∧Aside0 (Kd.S (Kd.slice 2 (Kd.int .i64)) 36 wc w.heap.size (fun k_=>B_≤k_) v537 t535)∧Aside0 (Below w.heap.size w wc))
    case first=>
     have H:=HC28.out
     clear HC28
     by_cases c32:t544<0
     ·
      rw [if_pos c32] at H
      have c32b0:=decide_eq_true c32
      clear c32
      (first|rw [c32b0]|(simp only [i64_w,i32_w];rw [c32b0])|skip)
      have H':=Aside0.mk H
      clear H
      go_wp2
      go_meet
      case rel=>exact ⟨_,(true),hB,H',⟨by have:=HJ9.out;first|omega|exact Nat.le_refl _⟩,⟨by (with_reducible repeat (first|apply Kd.S_alloc|apply Kd.S_drewN|apply Kd.S_drew));exact HO_8.out⟩,⟨by (with_reducible repeat (first|apply Kd.S_alloc|apply Kd.S_drewN|apply Kd.S_drew));exact HO_11.out⟩,⟨blA⟩⟩
     ·
      rw [if_neg c32] at H
      have c32b0:=decide_eq_false c32
      clear c32
      (first|rw [c32b0]|(simp only [i64_w,i32_w];rw [c32b0])|skip)
      replace H:=bS H
      obtain ⟨t545,A33,H⟩:=H
      try dsimp only at H
      by_cases c34:t545=true
      ·
       subst c34
       rw [if_pos rfl] at H
       try dsimp only at H
       have H':=Aside0.mk H
       clear H
       obtain ⟨Ao35,co35,eo35⟩:=Kd.S_slice HO_11.out
       subst eo35
       obtain ⟨Ao36,co36,eo36⟩:=Kd.S_slice HO_8.out
       subst eo36
       go_wp2_with (first|(go_at_call 8;(with_reducible refine (laws_eqInt64SS.calls kj9 _ _ t535 _ _ t528 true _ ?side1 ?side2 ?side3 ?side4 A33.out).mono ?_);(case side1=>exact cR (Kd.S_reads' HO_11.out).2.2);(case side2=>exact (Kd.S_reads' HO_11.out).2.1);(case side3=>exact cR (Kd.S_reads' HO_8.out).2.2);(case side4=>exact (Kd.S_reads' HO_8.out).2.1);rintro e w' ⟨rfl,⟨nd,rfl⟩⟩))
       go_meet
       case rel=>exact ⟨_,((t536 != t529)),hB,H',⟨by have:=HJ9.out;first|omega|exact Nat.le_refl _⟩,⟨by (with_reducible repeat (first|apply Kd.S_alloc|apply Kd.S_drewN|apply Kd.S_drew));exact HO_8.out⟩,⟨by (with_reducible repeat (first|apply Kd.S_alloc|apply Kd.S_drewN|apply Kd.S_drew));exact HO_11.out⟩,⟨blA⟩⟩
      ·
       replace c34:=Bool.eq_false_iff.mpr c34
       subst c34
       rw [if_neg (show ¬ (false=true) by decide)] at H
       try dsimp only at H
       have H':=Aside0.mk H
       clear H
       obtain ⟨Ao37,co37,eo37⟩:=Kd.S_slice HO_11.out
       subst eo37
       obtain ⟨Ao38,co38,eo38⟩:=Kd.S_slice HO_8.out
       subst eo38
       go_wp2_with (first|(go_at_call 8;(with_reducible refine (laws_eqInt64SS.calls kj9 _ _ t535 _ _ t528 false _ ?side1 ?side2 ?side3 ?side4 A33.out).mono ?_);(case side1=>exact cR (Kd.S_reads' HO_11.out).2.2);(case side2=>exact (Kd.S_reads' HO_11.out).2.1);(case side3=>exact cR (Kd.S_reads' HO_8.out).2.2);(case side4=>exact (Kd.S_reads' HO_8.out).2.1);rintro e w' ⟨rfl,⟨nd,rfl⟩⟩))
       go_meet
       case rel=>exact ⟨_,(true),hB,H',⟨by have:=HJ9.out;first|omega|exact Nat.le_refl _⟩,⟨by (with_reducible repeat (first|apply Kd.S_alloc|apply Kd.S_drewN|apply Kd.S_drew));exact HO_8.out⟩,⟨by (with_reducible repeat (first|apply Kd.S_alloc|apply Kd.S_drewN|apply Kd.S_drew));exact HO_11.out⟩,⟨blA⟩⟩
    case rest=>
     clear HC28
     try clear c1
     try clear c5
     try clear c5b0
     try clear c18
     try clear c23
     try clear c26
     try clear c32
     try clear c32b0
     try clear c34
     obtain ⟨kq,x69_27,rfl,HA,HJ27,HO_8,HO_11,HB⟩:=hcut
     cases kq with
     | zero=>exact absurd HA.out (by simp [laws_FnExactClassesIn.j1])
     | succ kj27=>
      have H:=HA.out
      clear HA
      simp only [laws_FnExactClassesIn.j1] at H
      by_cases c39:x69_27=true
      ·
       subst c39
       rw [if_pos rfl] at H
       try dsimp only at H
       exact absurd H (by simp)
      replace c39:=Bool.eq_false_iff.mpr c39
      subst c39
      rw [if_neg (show ¬ (false=true) by decide)] at H
      try dsimp only at H
      replace H:=bS H
      obtain ⟨⟨t546,y546⟩,A40,H⟩:=H
      try dsimp only at H
      replace H:=bS H
      obtain ⟨t547,A41,H⟩:=H
      try dsimp only at H
      by_cases c42:t547<0
      ·
       rw [if_pos c42] at H
       exact absurd H (by simp)
      rw [if_neg c42] at H
      have c42b0:=decide_eq_false c42
      clear c42
      by_cases c43:t547=t546
      rotate_left
      ·
       rw [if_neg c43] at H
       exact absurd H (by simp)
      rw [if_pos c43] at H
      have c43b0:(t547 == t546)=true:=beq_iff_eq.mpr c43
      have c43b1:(t547 != t546)=false:=bne_eq_false_iff_eq.mpr c43
      clear c43
      replace H:=bS H
      obtain ⟨t548,A44,H⟩:=H
      try dsimp only at H
      replace H:=bS H
      obtain ⟨⟨t551,t552⟩,A45,H⟩:=H
      try dsimp only at H
      have HC46:=Aside0.mk H
      clear H
      obtain ⟨Ao47,co47,eo47⟩:=Kd.S_slice HO_11.out
      subst eo47
      go_upto_region 25 with (first|((with_reducible refine gate_callee (f:=11) rfl ?_);refine gL (some 72) rfl Try.func11 #[.slice Ao47 t535.length co47,.int .i64 1] ?_;(refine (laws_markInt64SS.calls kj27 (fun k_=>B_≤k_) _ t535 1 t546 y546 w _ blA (by (with_reducible repeat (first|apply Kd.S_alloc|apply Kd.S_drewN|apply Kd.S_drew));exact HO_11.out) A40.out).mono ?_);rintro e w9 ⟨rfl,hs9,hb9,hk9⟩;refine ⟨_,rfl,?_⟩;have hl9:=(Kd.S_reads' hs9).1;rw [hl9] at hs9;simp only [hl9];replace HO_8:=Aside0.mk (Kd.S_kept (by (with_reducible repeat (first|apply Kd.S_alloc|apply Kd.S_drewN|apply Kd.S_drew));exact HO_8.out) hk9 (fun k_ h1_ h2_=>absurd h2_ (Nat.not_le_of_lt h1_)));replace HO_11:=Aside0.mk hs9;replace HB:=Aside0.mk hb9;clear hs9 hb9 hk9 hl9)|((with_reducible refine gd 75 rfl ?_);refine gC (some 75) rfl Try.func12 (laws_heldInt64SS.calls (w:=_) (hr0:=cR (Kd.S_reads' HO_11.out).2.2) (hc0:=(Kd.S_reads' HO_11.out).2.1) (h:=A41.out)) ?_;rintro _ ⟨nd,rfl⟩)|((with_reducible refine gate_callee (f:=6) rfl ?_);refine gL (some 84) rfl Try.func6 #[.slice A1 l1.length c1] ?_;(with_reducible refine (laws_toMatrixS.calls kj27 _ _ l1 t548 _ ?side1 ?side2 A44.out).mono ?_);(case side1=>exact cR (Kd.C_below HR1.out blA));(case side2=>exact HC1.out);rintro e w48 ⟨v549,rfl,ho0,hb⟩;refine ⟨_,rfl,?_⟩;have HO550:=Aside0.mk (Kd.R_lower ho0 (below_size blA));replace HO_8:=Aside0.mk (Kd.S_below (by (with_reducible repeat (first|apply Kd.S_alloc|apply Kd.S_drewN|apply Kd.S_drew));exact HO_8.out) hb);replace HO_11:=Aside0.mk (Kd.S_below (by (with_reducible repeat (first|apply Kd.S_alloc|apply Kd.S_drewN|apply Kd.S_drew));exact HO_11.out) hb);replace HB:=lB hb;clear ho0 hb;obtain ⟨Ao49,co49,eo49⟩:=Kd.R_slice HO550.out;subst eo49)|((with_reducible refine gate_callee (f:=7) rfl ?_);refine gL (some 86) rfl Try.func7 #[.int .i64 a0,.slice Ao49 t548.length co49,.int .i64 a2] ?_;(with_reducible refine (impl_ClassesIn.calls kj27 a0 _ _ t548 a2 t551 t552 _ ?side1 ?side2 A45.out).mono ?_);(case side1=>exact cR (Kd.R_reads' HO550.out).2.2);(case side2=>exact (Kd.R_reads' HO550.out).2.1);rintro e w50 ⟨v553,rfl,ho0,hb⟩;refine ⟨_,rfl,?_⟩;have HO554:=Aside0.mk (Kd.S_lower (Kd.S_new' (Kd.S_new' ho0 (Kd.S_lt (by (with_reducible repeat (first|apply Kd.S_alloc|apply Kd.S_drewN|apply Kd.S_drew));exact HO_8.out))) (Kd.S_lt (by (with_reducible repeat (first|apply Kd.S_alloc|apply Kd.S_drewN|apply Kd.S_drew));exact HO_11.out))) (below_size blA));replace HO_8:=Aside0.mk (Kd.S_elder' (by (with_reducible repeat (first|apply Kd.S_alloc|apply Kd.S_drewN|apply Kd.S_drew));exact HO_8.out) (Kd.S_base ho0) hb);replace HO_11:=Aside0.mk (Kd.S_elder' (by (with_reducible repeat (first|apply Kd.S_alloc|apply Kd.S_drewN|apply Kd.S_drew));exact HO_11.out) (Kd.S_base ho0) hb);replace HO550:=Aside0.mk (Kd.R_below (rA HO550) hb);replace HB:=lB hb;clear ho0 hb))
      (try simp only [Act.put,List.setIfInBounds_toArray,List.set_cons_zero,List.set_cons_succ])
      go_cut [97] (fun v97 wc=>∃ (kq:Nat) (x97_45:Bool),v97=.bool x97_45∧Aside0 (laws_FnExactClassesIn.j2 kq y546 t546 x97_45=some r)∧Aside0 (kq≤kj27)∧Aside0 (Kd.S (Kd.slice 2 (Kd.int .i64)) 36 wc w.heap.size (fun _=>True) (.slice Ao47 y546.length co47) y546)∧Aside0 (Below w.heap.size w wc))
      case first=>
       have H:=HC46.out
       clear HC46
       replace H:=bS H
       obtain ⟨t555,A51,H⟩:=H
       try dsimp only at H
       by_cases c52:t555=true
       ·
        subst c52
        rw [if_pos rfl] at H
        try dsimp only at H
        have H':=Aside0.mk H
        clear H
        obtain ⟨Ao53,co53,eo53⟩:=Kd.S_slice HO554.out
        subst eo53
        obtain ⟨Ao54,co54,eo54⟩:=Kd.S_slice HO_8.out
        subst eo54
        go_wp2_with (first|((with_reducible refine gd 91 rfl ?_);refine gC (some 91) rfl Try.func8 (laws_eqInt64SS.calls (w:=_) (hr0:=cR (Kd.S_reads' HO554.out).2.2) (hc0:=(Kd.S_reads' HO554.out).2.1) (hr1:=cR (Kd.S_reads' HO_8.out).2.2) (hc1:=(Kd.S_reads' HO_8.out).2.1) (h:=A51.out)) ?_;rintro _ ⟨nd,rfl⟩))
        go_meet
        case rel=>exact ⟨_,((t552 != t529)),hB,H',⟨by have:=HJ9.out;have:=HJ27.out;first|omega|exact Nat.le_refl _⟩,⟨by (with_reducible repeat (first|apply Kd.S_alloc|apply Kd.S_drewN|apply Kd.S_drew));exact Kd.S_mono HO_11.out (fun _ hk=>trivial)⟩,⟨blA⟩⟩
       ·
        replace c52:=Bool.eq_false_iff.mpr c52
        subst c52
        rw [if_neg (show ¬ (false=true) by decide)] at H
        try dsimp only at H
        have H':=Aside0.mk H
        clear H
        obtain ⟨Ao55,co55,eo55⟩:=Kd.S_slice HO554.out
        subst eo55
        obtain ⟨Ao56,co56,eo56⟩:=Kd.S_slice HO_8.out
        subst eo56
        go_wp2_with (first|((with_reducible refine gd 91 rfl ?_);refine gC (some 91) rfl Try.func8 (laws_eqInt64SS.calls (w:=_) (hr0:=cR (Kd.S_reads' HO554.out).2.2) (hc0:=(Kd.S_reads' HO554.out).2.1) (hr1:=cR (Kd.S_reads' HO_8.out).2.2) (hc1:=(Kd.S_reads' HO_8.out).2.1) (h:=A51.out)) ?_;rintro _ ⟨nd,rfl⟩))
        go_meet
        case rel=>exact ⟨_,(true),hB,H',⟨by have:=HJ9.out;have:=HJ27.out;first|omega|exact Nat.le_refl _⟩,⟨by (with_reducible repeat (first|apply Kd.S_alloc|apply Kd.S_drewN|apply Kd.S_drew));exact Kd.S_mono HO_11.out (fun _ hk=>trivial)⟩,⟨blA⟩⟩
      case rest=>
       clear HC46
       try clear c1
       try clear c5
       try clear c5b0
       try clear c18
       try clear c23
       try clear c26
       try clear c32
       try clear c32b0
       try clear c34
       try clear c39
       try clear c42
       try clear c42b0
       try clear c43
       try clear c43b0
       try clear c43b1
       try clear c52
       obtain ⟨kq,x97_45,rfl,HA,HJ45,HO_11,HB⟩:=hcut
       cases kq with
       | zero=>exact absurd HA.out (by simp [laws_FnExactClassesIn.j2])
       | succ kj45=>
        have H:=HA.out
        clear HA
        simp only [laws_FnExactClassesIn.j2] at H
        by_cases c57:x97_45=true
        ·
         subst c57
         rw [if_pos rfl] at H
         try dsimp only at H
         exact absurd H (by simp)
        replace c57:=Bool.eq_false_iff.mpr c57
        subst c57
        rw [if_neg (show ¬ (false=true) by decide)] at H
        try dsimp only at H
        replace H:=bS H
        obtain ⟨t556,A58,H⟩:=H
        try dsimp only at H
        by_cases c59:t556<0
        ·
         rw [if_pos c59] at H
         exact absurd H (by simp)
        rw [if_neg c59] at H
        have c59b0:=decide_eq_false c59
        clear c59
        by_cases c60:t556=t546
        rotate_left
        ·
         rw [if_neg c60] at H
         exact absurd H (by simp)
        rw [if_pos c60] at H
        have c60b0:(t556 == t546)=true:=beq_iff_eq.mpr c60
        have c60b1:(t556 != t546)=false:=bne_eq_false_iff_eq.mpr c60
        clear c60
        obtain rfl:=Option.some.inj H
        go_wp2_with (first|((with_reducible refine gd 100 rfl ?_);refine gC (some 100) rfl Try.func12 (laws_heldInt64SS.calls (w:=_) (hr0:=cR (Kd.S_reads' HO_11.out).2.2) (hc0:=(Kd.S_reads' HO_11.out).2.1) (h:=A58.out)) ?_;rintro _ ⟨nd,rfl⟩))
        go_ret
        exact finA blA
end Go.Proofs.Ytnhiehpbkimaeaa.PAll
