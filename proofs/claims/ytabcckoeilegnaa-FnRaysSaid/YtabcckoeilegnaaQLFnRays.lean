-- turned out of the kit's print
import Derived.Test.YtabcckoeilegnaaQx
import Derived.Test.YtabcckoeilegnaaQimplDistanceToLine
import Derived.Test.YtabcckoeilegnaaQimplRayOf
import Derived.Test.YtabcckoeilegnaaQimplTreeDistance
import Derived.Test.YtabcckoeilegnaaQimplareBalls
import Derived.Test.YtabcckoeilegnaaQimplmod
import Derived.Test.YtabcckoeilegnaaQspecBranchOf
import Derived.Test.YtabcckoeilegnaaQspecDistanceToLine
import Derived.Test.YtabcckoeilegnaaQspecDrawRayOf
import Derived.Test.YtabcckoeilegnaaQspecIsOnLine
import Derived.Test.YtabcckoeilegnaaQspecRayOf
namespace Go.Proofs.Ytabcckoeilegnaa.PAll
open Go.RowKit Go.Proofs.YtabcckoeilegnaaW.PrintWords Go.Proofs.YtabcckoeilegnaaW.PrintLast Go.Proofs.YtabcckoeilegnaaW.PrintMore
attribute [local go_sem] Go.Proofs.Ytabcckoeilegnaa.Aux.setCell_drewN Go.Proofs.Ytabcckoeilegnaa.Aux.isSome_setCell max2_int min2_int max_two min_two max_three min_three max_four min_four
set_option linter.unusedVariables false
set_option linter.unusedSimpArgs false
attribute [local go_sem high] eqA25
mutual
def laws_FnRays.j0:Nat→List Int→Int→List (S25)→Bool→Int→Int→Int→Option (Bool)
 | 0,_,_,_,_,_,_,_=>none
 | k+1,x0,x3,x7,x80,x792000,x792001,x792002=>if x80=true then (none) else (laws_FnRays.l0 k x0 x3 x7 0 x792000 x792001 x792002)
def laws_FnRays.l0:Nat→List Int→Int→List (S25)→Int→Int→Int→Int→Option (Bool)
 | 0,_,_,_,_,_,_,_=>none
 | k+1,x0,x3,x7,x11,x792000,x792001,x792002=>if x11<(x7.length:Int) then (if 0≤x11 then ((impl_TreeDistance.f k x3 x792000 x792001 x792002 ((rd_T25 x7 x11).f0) ((rd_T25 x7 x11).f1) ((rd_T25 x7 x11).f2)).bind fun bt803=>(if bt803.2=0 then (if bt803.1=x11 then (laws_FnRays.l0 k x0 x3 x7 (wrap64 (x11+1)) x792000 x792001 x792002) else (none)) else (none))) else (none)) else ((spec_DrawCommonSteps.f k x0).bind fun bt805=>((impl_CommonSteps.f k bt805.1 bt805.2.1 bt805.2.2.1 bt805.2.2.2.1 bt805.2.2.2.2.1 bt805.2.2.2.2.2.1 bt805.2.2.2.2.2.2.1 bt805.2.2.2.2.2.2.2).bind fun bt816=>((spec_CommonSteps.f k bt805.1 bt805.2.1 bt805.2.2.1 bt805.2.2.2.1 bt805.2.2.2.2.1 bt805.2.2.2.2.2.1 bt805.2.2.2.2.2.2.1 bt805.2.2.2.2.2.2.2).bind fun bt818=>((impl_DistanceToLine.f k bt805.1 bt805.2.1 bt805.2.2.1 bt805.2.2.2.1 bt805.2.2.2.2.1 bt805.2.2.2.2.2.1 bt805.2.2.2.2.2.2.1 bt805.2.2.2.2.2.2.2).bind fun bt820=>((spec_DistanceToLine.f k bt805.1 bt805.2.1 bt805.2.2.1 bt805.2.2.2.1 bt805.2.2.2.2.1 bt805.2.2.2.2.2.1 bt805.2.2.2.2.2.2.1 bt805.2.2.2.2.2.2.2).bind fun bt822=>((impl_NearestOnLine.f k bt805.1 bt805.2.1 bt805.2.2.1 bt805.2.2.2.1 bt805.2.2.2.2.1 bt805.2.2.2.2.2.1 bt805.2.2.2.2.2.2.1 bt805.2.2.2.2.2.2.2).bind fun bt824=>((spec_NearestOnLine.f k bt805.1 bt805.2.1 bt805.2.2.1 bt805.2.2.2.1 bt805.2.2.2.2.1 bt805.2.2.2.2.2.1 bt805.2.2.2.2.2.2.1 bt805.2.2.2.2.2.2.2).bind fun bt829=>((impl_IsOnLine.f k bt805.1 bt805.2.1 bt805.2.2.1 bt805.2.2.2.1 bt805.2.2.2.2.1 bt805.2.2.2.2.2.1 bt805.2.2.2.2.2.2.1 bt805.2.2.2.2.2.2.2).bind fun bt834=>((spec_IsOnLine.f k bt805.1 bt805.2.1 bt805.2.2.1 bt805.2.2.2.1 bt805.2.2.2.2.1 bt805.2.2.2.2.2.1 bt805.2.2.2.2.2.2.1 bt805.2.2.2.2.2.2.2).bind fun bt836=>(if bt816.2=bt818.2 then (if bt816.1=bt818.1 then (if bt820.2=bt822.2 then (if bt820.1=bt822.1 then (if bt824.2.2.2=bt829.2.2.2 then (if (!(bt824.1 == bt829.1) || (!(bt824.2.1 == bt829.2.1) || (!(bt824.2.2.1 == bt829.2.2.1))))=true then (laws_FnRays.j2 k x0 bt805.1 bt816.1 bt816.2 bt820.1 bt824.2.2.2 bt834.1 true bt805.2.1 bt805.2.2.1 bt805.2.2.2.1 bt805.2.2.2.2.1 bt805.2.2.2.2.2.1 bt805.2.2.2.2.2.2.1 bt805.2.2.2.2.2.2.2 bt824.1 bt824.2.1 bt824.2.2.1) else (if bt834.2=bt836.2 then (laws_FnRays.j2 k x0 bt805.1 bt816.1 bt816.2 bt820.1 bt824.2.2.2 bt834.1 (bt834.1 != bt836.1) bt805.2.1 bt805.2.2.1 bt805.2.2.2.1 bt805.2.2.2.2.1 bt805.2.2.2.2.2.1 bt805.2.2.2.2.2.2.1 bt805.2.2.2.2.2.2.2 bt824.1 bt824.2.1 bt824.2.2.1) else (laws_FnRays.j2 k x0 bt805.1 bt816.1 bt816.2 bt820.1 bt824.2.2.2 bt834.1 true bt805.2.1 bt805.2.2.1 bt805.2.2.2.1 bt805.2.2.2.2.1 bt805.2.2.2.2.2.1 bt805.2.2.2.2.2.2.1 bt805.2.2.2.2.2.2.2 bt824.1 bt824.2.1 bt824.2.2.1))) else (laws_FnRays.j2 k x0 bt805.1 bt816.1 bt816.2 bt820.1 bt824.2.2.2 bt834.1 true bt805.2.1 bt805.2.2.1 bt805.2.2.2.1 bt805.2.2.2.2.1 bt805.2.2.2.2.2.1 bt805.2.2.2.2.2.2.1 bt805.2.2.2.2.2.2.2 bt824.1 bt824.2.1 bt824.2.2.1)) else (laws_FnRays.j2 k x0 bt805.1 bt816.1 bt816.2 bt820.1 bt824.2.2.2 bt834.1 true bt805.2.1 bt805.2.2.1 bt805.2.2.2.1 bt805.2.2.2.2.1 bt805.2.2.2.2.2.1 bt805.2.2.2.2.2.2.1 bt805.2.2.2.2.2.2.2 bt824.1 bt824.2.1 bt824.2.2.1)) else (laws_FnRays.j2 k x0 bt805.1 bt816.1 bt816.2 bt820.1 bt824.2.2.2 bt834.1 true bt805.2.1 bt805.2.2.1 bt805.2.2.2.1 bt805.2.2.2.2.1 bt805.2.2.2.2.2.1 bt805.2.2.2.2.2.2.1 bt805.2.2.2.2.2.2.2 bt824.1 bt824.2.1 bt824.2.2.1)) else (laws_FnRays.j2 k x0 bt805.1 bt816.1 bt816.2 bt820.1 bt824.2.2.2 bt834.1 true bt805.2.1 bt805.2.2.1 bt805.2.2.2.1 bt805.2.2.2.2.1 bt805.2.2.2.2.2.1 bt805.2.2.2.2.2.2.1 bt805.2.2.2.2.2.2.2 bt824.1 bt824.2.1 bt824.2.2.1)) else (laws_FnRays.j2 k x0 bt805.1 bt816.1 bt816.2 bt820.1 bt824.2.2.2 bt834.1 true bt805.2.1 bt805.2.2.1 bt805.2.2.2.1 bt805.2.2.2.2.1 bt805.2.2.2.2.2.1 bt805.2.2.2.2.2.2.1 bt805.2.2.2.2.2.2.2 bt824.1 bt824.2.1 bt824.2.2.1)))))))))))
def laws_FnRays.j2:Nat→List Int→Int→Int→Int→Int→Int→Bool→Bool→Int→Int→Int→Int→Int→Int→Int→Int→Int→Int→Option (Bool)
 | 0,_,_,_,_,_,_,_,_,_,_,_,_,_,_,_,_,_,_=>none
 | k+1,x0,x14,x18,x19,x22,x27,x30,x212,x814000,x814001,x814002,x815000,x815001,x816000,x816001,x829000,x829001,x829002=>if x212=true then (none) else (if x19=0 then ((impl_CommonSteps.f k x14 x814000 x814001 x814002 x816000 x816001 x815000 x815001).bind fun bt838=>(if bt838.2=0 then (if x18=x22 then (if bt838.1=x18 then (laws_FnRays.j3 k x0 x14 x18 x27 (x30 != (x18 == 0)) x814000 x814001 x814002 x815000 x815001 x816000 x816001 x829000 x829001 x829002) else (laws_FnRays.j3 k x0 x14 x18 x27 true x814000 x814001 x814002 x815000 x815001 x816000 x816001 x829000 x829001 x829002)) else (laws_FnRays.j3 k x0 x14 x18 x27 true x814000 x814001 x814002 x815000 x815001 x816000 x816001 x829000 x829001 x829002)) else (laws_FnRays.j3 k x0 x14 x18 x27 true x814000 x814001 x814002 x815000 x815001 x816000 x816001 x829000 x829001 x829002))) else ((spec_DrawBranchOf.f k x0).bind fun bt868=>((impl_BranchOf.f k bt868.1 bt868.2.1 bt868.2.2.1 bt868.2.2.2.1 bt868.2.2.2.2.1 bt868.2.2.2.2.2).bind fun bt876=>((spec_BranchOf.f k bt868.1 bt868.2.1 bt868.2.2.1 bt868.2.2.2.1 bt868.2.2.2.2.1 bt868.2.2.2.2.2).bind fun bt878=>(if bt876.2=bt878.2 then (some (bt876.1 == bt878.1)) else (some false))))))
def laws_FnRays.j3:Nat→List Int→Int→Int→Int→Bool→Int→Int→Int→Int→Int→Int→Int→Int→Int→Int→Option (Bool)
 | 0,_,_,_,_,_,_,_,_,_,_,_,_,_,_,_=>none
 | k+1,x0,x14,x18,x27,x240,x814000,x814001,x814002,x815000,x815001,x816000,x816001,x829000,x829001,x829002=>if x240=true then (none) else (if x27=0 then ((impl_TreeDistance.f k x14 x814000 x814001 x814002 x829000 x829001 x829002).bind fun bt840=>((impl_IsOnLine.f k x14 x829000 x829001 x829002 x815000 x815001 x816000 x816001).bind fun bt842=>(if bt840.2=0 then (if bt842.2=0 then (if bt840.1=x18 then (laws_FnRays.j4 k x0 (!bt842.1)) else (laws_FnRays.j4 k x0 true)) else (laws_FnRays.j4 k x0 true)) else (laws_FnRays.j4 k x0 true)))) else ((spec_DrawBranchOf.f k x0).bind fun bt856=>((impl_BranchOf.f k bt856.1 bt856.2.1 bt856.2.2.1 bt856.2.2.2.1 bt856.2.2.2.2.1 bt856.2.2.2.2.2).bind fun bt864=>((spec_BranchOf.f k bt856.1 bt856.2.1 bt856.2.2.1 bt856.2.2.2.1 bt856.2.2.2.2.1 bt856.2.2.2.2.2).bind fun bt866=>(if bt864.2=bt866.2 then (some (bt864.1 == bt866.1)) else (some false))))))
def laws_FnRays.j4:Nat→List Int→Bool→Option (Bool)
 | 0,_,_=>none
 | k+1,x0,x272=>if x272=true then (none) else ((spec_DrawBranchOf.f k x0).bind fun bt844=>((impl_BranchOf.f k bt844.1 bt844.2.1 bt844.2.2.1 bt844.2.2.2.1 bt844.2.2.2.2.1 bt844.2.2.2.2.2).bind fun bt852=>((spec_BranchOf.f k bt844.1 bt844.2.1 bt844.2.2.1 bt844.2.2.2.1 bt844.2.2.2.2.1 bt844.2.2.2.2.2).bind fun bt854=>(if bt852.2=bt854.2 then (some (bt852.1 == bt854.1)) else (some false)))))
end
def laws_FnRays.f (k:Nat) (l0:List Int):Option (Bool):=(laws_big.f l0).bind fun t783=>(if t783=true then (some true) else ((spec_DrawRayOf.f k l0).bind fun bt784=>((impl_RayOf.f k bt784.1 bt784.2.1 bt784.2.2.1 bt784.2.2.2.1 bt784.2.2.2.2.1 bt784.2.2.2.2.2.1 bt784.2.2.2.2.2.2).bind fun bt793=>((spec_RayOf.f k bt784.1 bt784.2.1 bt784.2.2.1 bt784.2.2.2.1 bt784.2.2.2.2.1 bt784.2.2.2.2.2.1 bt784.2.2.2.2.2.2).bind fun bt797=>(if bt793.2=bt797.2 then ((laws_balls5.f k bt793.1 bt797.1).bind fun t801=>(laws_FnRays.j0 k l0 bt784.1 bt793.1 (!t801) bt784.2.1 bt784.2.2.1 bt784.2.2.2.1)) else (laws_FnRays.j0 k l0 bt784.1 bt793.1 true bt784.2.1 bt784.2.2.1 bt784.2.2.2.1))))))
theorem laws_FnRays.mono_l:∀ k,(∀ y0 y1 y2 y3 y4 y5 y6,LeO (laws_FnRays.j0 k y0 y1 y2 y3 y4 y5 y6) (laws_FnRays.j0 (k+1) y0 y1 y2 y3 y4 y5 y6))∧(∀ y0 y1 y2 y3 y4 y5 y6,LeO (laws_FnRays.l0 k y0 y1 y2 y3 y4 y5 y6) (laws_FnRays.l0 (k+1) y0 y1 y2 y3 y4 y5 y6))∧(∀ y0 y1 y2 y3 y4 y5 y6 y7 y8 y9 y10 y11 y12 y13 y14 y15 y16 y17,LeO (laws_FnRays.j2 k y0 y1 y2 y3 y4 y5 y6 y7 y8 y9 y10 y11 y12 y13 y14 y15 y16 y17) (laws_FnRays.j2 (k+1) y0 y1 y2 y3 y4 y5 y6 y7 y8 y9 y10 y11 y12 y13 y14 y15 y16 y17))∧(∀ y0 y1 y2 y3 y4 y5 y6 y7 y8 y9 y10 y11 y12 y13 y14,LeO (laws_FnRays.j3 k y0 y1 y2 y3 y4 y5 y6 y7 y8 y9 y10 y11 y12 y13 y14) (laws_FnRays.j3 (k+1) y0 y1 y2 y3 y4 y5 y6 y7 y8 y9 y10 y11 y12 y13 y14))∧(∀ y0 y1,LeO (laws_FnRays.j4 k y0 y1) (laws_FnRays.j4 (k+1) y0 y1))
 | 0=>by refine ⟨?_,?_,?_,?_,?_⟩ <;> (intros;intro r h;simp [laws_FnRays.j0,laws_FnRays.l0,laws_FnRays.j2,laws_FnRays.j3,laws_FnRays.j4] at h)
 | k+1=>by
  obtain ⟨ih0,ih1,ih2,ih3,ih4⟩:=laws_FnRays.mono_l k
  refine ⟨?_,?_,?_,?_,?_⟩ <;> (intros;first|unfold laws_FnRays.j0|unfold laws_FnRays.l0|unfold laws_FnRays.j2|unfold laws_FnRays.j3|unfold laws_FnRays.j4)
  all_goals repeat' first
  | with_reducible first|exact ih0 ..|exact ih1 ..|exact ih2 ..|exact ih3 ..|exact ih4 ..|exact impl_BranchOf.mono ..|exact impl_CommonSteps.mono ..|exact impl_DistanceToLine.mono ..|exact impl_IsOnLine.mono ..|exact impl_NearestOnLine.mono ..|exact impl_RayOf.mono ..|exact impl_TreeDistance.mono ..|exact laws_balls5.mono ..|exact spec_BranchOf.mono ..|exact spec_CommonSteps.mono ..|exact spec_DistanceToLine.mono ..|exact spec_DrawBranchOf.mono ..|exact spec_DrawCommonSteps.mono ..|exact spec_DrawRayOf.mono ..|exact spec_IsOnLine.mono ..|exact spec_NearestOnLine.mono ..|exact spec_RayOf.mono ..|exact LeO.refl _|exact LeO.none _|refine LeO.ite ?_ ?_|refine LeO.bind ?_ fun _=>?_
theorem laws_FnRays.mono:∀ a0 k,LeO (laws_FnRays.f k a0) (laws_FnRays.f (k+1) a0):=by
 intro a0 k
 obtain ⟨ih0,ih1,ih2,ih3,ih4⟩:=laws_FnRays.mono_l k
 unfold laws_FnRays.f
 repeat' first
   | with_reducible first|exact ih0 ..|exact ih1 ..|exact ih2 ..|exact ih3 ..|exact ih4 ..|exact impl_BranchOf.mono ..|exact impl_CommonSteps.mono ..|exact impl_DistanceToLine.mono ..|exact impl_IsOnLine.mono ..|exact impl_NearestOnLine.mono ..|exact impl_RayOf.mono ..|exact impl_TreeDistance.mono ..|exact laws_balls5.mono ..|exact spec_BranchOf.mono ..|exact spec_CommonSteps.mono ..|exact spec_DistanceToLine.mono ..|exact spec_DrawBranchOf.mono ..|exact spec_DrawCommonSteps.mono ..|exact spec_DrawRayOf.mono ..|exact spec_IsOnLine.mono ..|exact spec_NearestOnLine.mono ..|exact spec_RayOf.mono ..|exact LeO.refl _|exact LeO.none _|refine LeO.ite ?_ ?_|refine LeO.bind ?_ fun _=>?_
def laws_FnRays.T11:Bool × List (List Nat × List Nat):=(true,[([],[]),([],[]),([],[]),([],[]),([2,3],[2,3]),([4],[4]),([0,1,5],[0,1,5]),([6],[6]),([7],[7]),([7],[7]),([8,6,0,1,2,3,4,5,6,7,8],[8]),([9,10,0,1,2,3,4,5,6,7,8,9,10],[9])])
def laws_FnRays.B11:List Nat:=[0,0,0,0,12,28,63,127,255,255,511,2047]
theorem laws_FnRays.tab11:rtab .any (opsOf Try.f3 11)=laws_FnRays.T11:=by kernel_rfl
theorem laws_FnRays.bits11:waitsOk laws_FnRays.T11.2 laws_FnRays.B11=true:=by kernel_rfl
set_option maxHeartbeats 100000000 in
set_option maxRecDepth 100000 in
noncomputable def laws_FnRays.cut0:PSigma fun P:Prop=>Aside0 P→(∀ (k:Nat) (A0:Option Addr) (c0:Nat) (l0:List Int) (r:Bool) (w:World) (hr0:Kd.C (Kd.int .u8) w A0 l0.length l0) (hc0:l0.length≤c0) (h:laws_FnRays.f k l0=some r),Calls Try.prog 3 #[.slice A0 l0.length c0] w fun e w'=>e=.returned (.bool r)∧Below w.heap.size w w'):=by
 apply PSigma.mk
 ·
  intro hcutP
  intro k A0 c0 l0 r w hr0 hc0 h
  have hu25:=Try.underlying25
  have hu27:=Try.underlying27
  have HR0:=Aside0.mk hr0
  have HC0:=Aside0.mk hc0
  clear hr0 hc0
  have HB:=Aside0.mk (Below.refl w.heap.size w)
  have H:=h
  unfold laws_FnRays.f at H
  clear h
  replace H:=bS H
  obtain ⟨t783,A2,H⟩:=H
  try dsimp only at H
  by_cases c3:t783=true
  ·
   subst c3
   rw [if_pos rfl] at H
   try dsimp only at H
   obtain rfl:=Option.some.inj H
   go_enter Try.func3,Try.ntmps3
   go_wp2_with (first|((with_reducible refine gd 48 rfl ?_);refine gC (some 48) rfl Try.func4 (laws_big.calls (w:=_) (hr0:=cR HR0.out) (hc0:=HC0.out) (h:=A2.out)) ?_;rintro _ ⟨nd,rfl⟩))
   go_ret
   exact finA blA
  ·
   replace c3:=Bool.eq_false_iff.mpr c3
   subst c3
   rw [if_neg (show ¬ (false=true) by decide)] at H
   try dsimp only at H
   replace H:=bS H
   obtain ⟨⟨t784,t785,t786,t787,t788,t789,t790⟩,A4,H⟩:=H
   try dsimp only at H
   replace H:=bS H
   obtain ⟨⟨t793,t796⟩,A5,H⟩:=H
   try dsimp only at H
   replace H:=bS H
   obtain ⟨⟨t797,t800⟩,A6,H⟩:=H
   try dsimp only at H
   have HC7:=Aside0.mk H
   clear H
   go_enter Try.func3,Try.ntmps3
   go_upto_region 6 with (first|((with_reducible refine gd 48 rfl ?_);refine gC (some 48) rfl Try.func4 (laws_big.calls (w:=_) (hr0:=cR HR0.out) (hc0:=HC0.out) (h:=A2.out)) ?_;rintro _ ⟨nd,rfl⟩)|((with_reducible refine gd 51 rfl ?_);refine gC (some 51) rfl Try.func5 (spec_DrawRayOf.calls (w:=_) (hr0:=cR HR0.out) (hc0:=HC0.out) (h:=A4.out)) ?_;intro w8 hb;have n0_:=lB hb;clear HB;have HB:=n0_;clear n0_;clear hb)|((with_reducible refine gate_dst (N:=4) rfl ?_);refine bxE (cs:=#[.int .i64 0,.int .i64 0,.int .i64 0]) (t:=25) ?_;intro gb791 hg w9 hbox hb;have n0_:=lB hb;have n1_:=Aside0.mk hbox;have n2_:=sA hg;have n3_:=sA hg;clear HB;have HB:=n0_;have BK791:=n1_;have GW791:=n2_;have GE791:=n3_;clear n0_ n1_ n2_ n3_;clear hb hbox hg)|((with_reducible refine gate_dst (N:=5) rfl ?_);refine bxE (cs:=#[.int .i64 0,.int .i64 0]) (t:=27) ?_;intro gb792 hg w10 hbox hb;have n0_:=kB BK791 hb;have n1_:=lB hb;have n2_:=Aside0.mk hbox;have n3_:=sA hg;have n4_:=sA hg;have n5_:=nA hg BK791;have n6_:=nB hg BK791;clear BK791;clear HB;have BK791:=n0_;have HB:=n1_;have BK792:=n2_;have GW792:=n3_;have GE792:=n4_;have NB791_792:=n5_;have NB792_791:=n6_;clear n0_ n1_ n2_ n3_ n4_ n5_ n6_;clear hb hbox hg;have hnb11:=NB791_792.out;obtain ⟨hcz12_0,hcz12_1,hcz12_2,hfz12_0,hfz12_1,hfz12_2⟩:=cz3 BK791;obtain ⟨hcz13_0,hcz13_1,hfz13_0,hfz13_1⟩:=cz2 BK792)|((with_reducible refine gate_callee (f:=6) rfl ?_);refine gL (some 61) rfl Try.func6 #[.int .i64 t784,.agg #[.int .i64 t785,.int .i64 t786,.int .i64 t787],.agg #[.int .i64 t788,.int .i64 t789],.int .i64 t790] ?_;(with_reducible refine (impl_RayOf.calls k t784 t785 t786 t787 t788 t789 t790 t793 t796 _ A5.out).mono ?_);rintro e w14 ⟨v794,rfl,ho0,hb⟩;refine ⟨_,rfl,?_⟩;have n0_:=Aside0.mk (Kd.R_lower (Kd.R_newB ho0 (g:=gb791) (o:=.cells #[.int .i64 t785,.int .i64 t786,.int .i64 t787] 25 (0,0)) (bpA BK791)) (below_size blA));have n1_:=Aside0.mk (blk_below (g:=gb791) (o:=.cells #[.int .i64 t785,.int .i64 t786,.int .i64 t787] 25 (0,0)) (bpA BK791) hb);have n2_:=Aside0.mk (blk_below (g:=gb792) (o:=.cells #[.int .i64 t788,.int .i64 t789] 27 (0,0)) (bpA BK792) hb);have n3_:=lB hb;clear BK791;clear BK792;clear HB;have HO795:=n0_;have BK791:=n1_;have BK792:=n2_;have HB:=n3_;clear n0_ n1_ n2_ n3_;clear ho0 hb;obtain ⟨hcz15_0,hcz15_1,hcz15_2,hfz15_0,hfz15_1,hfz15_2⟩:=cz3 BK791;obtain ⟨hcz16_0,hcz16_1,hfz16_0,hfz16_1⟩:=cz2 BK792)|((with_reducible refine gate_callee (f:=7) rfl ?_);refine gL (some 69) rfl Try.func7 #[.int .i64 t784,.agg #[.int .i64 t785,.int .i64 t786,.int .i64 t787],.agg #[.int .i64 t788,.int .i64 t789],.int .i64 t790] ?_;(with_reducible refine (spec_RayOf.calls k t784 t785 t786 t787 t788 t789 t790 t797 t800 _ A6.out).mono ?_);rintro e w17 ⟨v798,rfl,ho0,hb⟩;refine ⟨_,rfl,?_⟩;have n0_:=Aside0.mk (Kd.R_elder' (rA HO795) (Kd.R_base ho0) hb);have n1_:=Aside0.mk (Kd.R_lower (Kd.R_newB (Kd.R_new' ho0 (Kd.R_lt (rA HO795))) (bkA BK791)) (below_size blA));have n2_:=kB BK791 hb;have n3_:=kB BK792 hb;have n4_:=lB hb;clear HO795;clear BK791;clear BK792;clear HB;have HO795:=n0_;have HO799:=n1_;have BK791:=n2_;have BK792:=n3_;have HB:=n4_;clear n0_ n1_ n2_ n3_ n4_;clear ho0 hb))
   (try simp only [Act.put,List.setIfInBounds_toArray,List.set_cons_zero,List.set_cons_succ])
   go_cut [80] (fun v80 wc=>∃ (kq:Nat) (x80_6:Bool),v80=.bool x80_6∧Aside0 (laws_FnRays.j0 kq l0 t784 t793 x80_6 t785 t786 t787=some r)∧Aside0 (kq≤k)∧Aside0 (Kd.R k25 25 wc w.heap.size (fun k_=>k_≠gb791) v794 t793)∧Aside0 (wc.heap[gb791]?=some (.cells #[.int .i64 t785,.int .i64 t786,.int .i64 t787] 25 (0,0)))∧Aside0 (wc.heap[gb792]?=some (.cells #[.int .i64 t788,.int .i64 t789] 27 (0,0)))∧Aside0 (Below w.heap.size w wc))
   case first=>
    have H:=HC7.out
    clear HC7
    by_cases c18:t796=t800
    ·
     rw [if_pos c18] at H
     have c18b0:(t796 == t800)=true:=beq_iff_eq.mpr c18
     have c18b1:(t796 != t800)=false:=bne_eq_false_iff_eq.mpr c18
     clear c18
     (first|rw [c18b0]|(simp only [i64_w,i32_w];rw [c18b0])|skip)
     replace H:=bS H
     obtain ⟨t801,A19,H⟩:=H
     try dsimp only at H
     have H':=Aside0.mk H
     clear H
     obtain ⟨Ao20,co20,eo20⟩:=Kd.R_slice HO795.out
     subst eo20
     obtain ⟨Ao21,co21,eo21⟩:=Kd.R_slice HO799.out
     subst eo21
     go_wp2_with (first|(go_at_call 8;(with_reducible refine (laws_balls5.calls k _ _ t793 _ _ t797 t801 _ ?side1 ?side2 ?side3 ?side4 A19.out).mono ?_);(case side1=>exact cR (Kd.R_reads' HO795.out).2.2);(case side2=>exact (Kd.R_reads' HO795.out).2.1);(case side3=>exact cR (Kd.R_reads' HO799.out).2.2);(case side4=>exact (Kd.R_reads' HO799.out).2.1);rintro e w' ⟨rfl,⟨nd,rfl⟩⟩))
     go_meet
     case rel=>exact ⟨_,(!t801),hB,H',⟨by first|omega|exact Nat.le_refl _⟩,⟨by (with_reducible repeat (first|apply Kd.R_alloc|apply Kd.R_drewN|apply Kd.R_drew));exact Kd.R_mono HO795.out (fun _ hk=>hk.1.2)⟩,⟨bkA BK791⟩,⟨bkA BK792⟩,⟨blA⟩⟩
    ·
     rw [if_neg c18] at H
     have c18b0:(t796 == t800)=false:=beq_eq_false_iff_ne.mpr c18
     have c18b1:(t796 != t800)=true:=bne_iff_ne.mpr c18
     (first|rw [c18b0]|(simp only [i64_w,i32_w];rw [c18b0])|skip)
     have H':=Aside0.mk H
     clear H
     go_wp2
     go_meet
     case rel=>exact ⟨_,(true),hB,H',⟨by first|omega|exact Nat.le_refl _⟩,⟨by (with_reducible repeat (first|apply Kd.R_alloc|apply Kd.R_drewN|apply Kd.R_drew));exact Kd.R_mono HO795.out (fun _ hk=>hk.1.2)⟩,⟨bkA BK791⟩,⟨bkA BK792⟩,⟨blA⟩⟩
   case rest=>
    clear HC7
    try clear c3
    try clear c18
    try clear c18b0
    try clear c18b1
    try clear hcz12_0
    try clear hcz12_1
    try clear hcz12_2
    try clear hcz13_0
    try clear hcz13_1
    try clear hcz15_0
    try clear hcz15_1
    try clear hcz15_2
    try clear hcz16_0
    try clear hcz16_1
    try clear hfz12_0
    try clear hfz12_1
    try clear hfz12_2
    try clear hfz13_0
    try clear hfz13_1
    try clear hfz15_0
    try clear hfz15_1
    try clear hfz15_2
    try clear hfz16_0
    try clear hfz16_1
    expose_names
    revert k A0 c0 l0 r w hu25 hu27 t784 t785 t786 t787 t788 t789 t790 t793 t796 t797 t800 gb791 gb792 v794 w17 v798 K K_1 wc u47 u48 u49 u50 u51 u52 u53 u54 u55 u56 u57 u58 u59 u60 u61 u62 u63 u64 u65 u66 u67 u68 u69 u70 u71 u72 u73 u74 u75 u76 u77 u78 u79 u80 u81 u82 u83 u84 u85 u86 u87 u88 u89 u90 u91 u92 u93 u94 u95 u96 u97 u98 u99 u100 u101 u102 u103 u104 u105 u106 u107 u108 u109 u110 u111 u112 u113 u114 u115 u116 u117 u118 u119 u120 u121 u122 u123 u124 u125 u126 u127 u128 u129 u130 u131 u132 u133 u134 u135 u136 u137 u138 u139 u140 u141 u142 u143 u144 u145 u146 u147 u148 u149 u150 u151 u152 u153 u154 u155 u156 u157 u158 u159 u160 u161 u162 u163 u164 u165 u166 u167 u168 u169 u170 u171 u172 u173 u174 u175 u176 u177 u178 u179 u180 u181 u182 u183 u184 u185 u186 u187 u188 u189 u190 u191 u192 u193 u194 u195 u196 u197 u198 u199 u200 u201 u202 u203 u204 u205 u206 u207 u208 u209 u210 u211 u212 u213 u214 u215 u216 u217 u218 u219 u220 u221 u222 u223 u224 u225 u226 u227 u228 u229 u230 u231 u232 u233 u234 u235 u236 u237 u238 u239 u240 u241 u242 u243 u244 u245 u246 u247 u248 u249 u250 u251 u252 u253 u254 u255 u256 u257 u258 u259 u260 u261 u262 u263 u264 u265 u266 u267 u268 u269 u270 u271 u272 u273 u274 u275 u276 u277 u278 u279 u280 u281 u282 u283 u284 u285 u286 u287 u288 u289 u290 u291 u292 u293 u294 u295 u296 u297 u298 u299 u300
    exact hcutP.out
set_option maxHeartbeats 100000000 in
set_option maxRecDepth 100000 in
noncomputable def laws_FnRays.cut1:PSigma fun P:Prop=>PSigma fun R:Prop=>Aside0 P→Aside0 R→(laws_FnRays.cut0.1):=by
 apply PSigma.mk
 apply PSigma.mk
 ·
  intro hcutP hcutQ
  conv=>whnf
  intro k A0 c0 l0 r w hu25 hu27 HR0 HC0 A2 t784 t785 t786 t787 t788 t789 t790 A4 t793 t796 A5 t797 t800 A6 _ gb791 GW791 GE791 gb792 GW792 GE792 NB791_792 NB792_791 hnb11 v794 w17 v798 HO795 HO799 BK791 BK792 HB _ _ _ _ wc _ _ _ _ _ _ _ _ _ _ _ _ _ _ _ _ _ _ _ _ _ _ _ _ _ _ _ _ _ _ _ _ _ _ _ _ _ _ _ _ _ _ _ _ _ _ _ _ _ _ _ _ _ _ _ _ _ _ _ _ _ _ _ _ _ _ _ _ _ _ _ _ _ _ _ _ _ _ _ _ _ _ _ _ _ _ _ _ _ _ _ _ _ _ _ _ _ _ _ _ _ _ _ _ _ _ _ _ _ _ _ _ _ _ _ _ _ _ _ _ _ _ _ _ _ _ _ _ _ _ _ _ _ _ _ _ _ _ _ _ _ _ _ _ _ _ _ _ _ _ _ _ _ _ _ _ _ _ _ _ _ _ _ _ _ _ _ _ _ _ _ _ _ _ _ _ _ _ _ _ _ _ _ _ _ _ _ _ _ _ _ _ _ _ _ _ _ _ _ _ _ _ _ _ _ _ _ _ _ _ _ _ _ _ _ _ _ _ _ _ _ _ _ _ _ _ _ _ _ _ _ _ _ _ _ _ _ _ _ _ _ _ _ _ _ _ _ _ _ _ _ _ _ _ hcut
  obtain ⟨kq,x80_6,rfl,HA,HJ6,HO_7,BK791,BK792,HB⟩:=hcut
  cases kq with
  | zero=>exact absurd HA.out (by simp [laws_FnRays.j0])
  | succ kj6=>
   have H:=HA.out
   clear HA
   simp only [laws_FnRays.j0] at H
   by_cases c22:x80_6=true
   ·
    subst c22
    rw [if_pos rfl] at H
    try dsimp only at H
    exact absurd H (by simp)
   replace c22:=Bool.eq_false_iff.mpr c22
   subst c22
   rw [if_neg (show ¬ (false=true) by decide)] at H
   try dsimp only at H
   have H':=Aside0.mk H
   clear H
   go_wp2
   go_loopg [11] kj6 (fun kq v11 w'=>∃ (x11_2:Int),v11=.int .i64 x11_2∧Aside0 (laws_FnRays.l0 kq l0 t784 t793 x11_2 t785 t786 t787=some r)∧Aside0 (kq≤kj6)∧Aside0 (Kd.R k25 25 w' w.heap.size (fun k_=>k_≠gb791) v794 t793)∧Aside0 (w'.heap[gb791]?=some (.cells #[.int .i64 t785,.int .i64 t786,.int .i64 t787] 25 (0,0)))∧Aside0 (w'.heap[gb792]?=some (.cells #[.int .i64 t788,.int .i64 t789] 27 (0,0)))∧Aside0 (Below w.heap.size w w'))
   case atStart=>exact ⟨(0),hB,H',⟨Nat.le_refl _⟩,⟨rA HO_7⟩,⟨bkA BK791⟩,⟨bkA BK792⟩,⟨blA⟩⟩
   case round=>
    clear H'
    try clear c3
    try clear c18
    try clear c18b0
    try clear c18b1
    try clear c22
    try clear hcz12_0
    try clear hcz12_1
    try clear hcz12_2
    try clear hcz13_0
    try clear hcz13_1
    try clear hcz15_0
    try clear hcz15_1
    try clear hcz15_2
    try clear hcz16_0
    try clear hcz16_1
    try clear hfz12_0
    try clear hfz12_1
    try clear hfz12_2
    try clear hfz13_0
    try clear hfz13_1
    try clear hfz15_0
    try clear hfz15_1
    try clear hfz15_2
    try clear hfz16_0
    try clear hfz16_1
    obtain ⟨x11_2,rfl,HA,HK2,HO_7,BK791,BK792,HB⟩:=hrel
    cases gk with
    | zero=>exact absurd HA.out (by simp [laws_FnRays.l0])
    | succ k2=>
     have H:=HA.out
     clear HA
     simp only [laws_FnRays.l0] at H
     by_cases c23:x11_2<(t793.length:Int)
     ·
      rw [if_pos c23] at H
      have c23b0:=decide_eq_true c23
      clear c23
      by_cases c24:0≤x11_2
      rotate_left
      ·
       rw [if_neg c24] at H
       exact absurd H (by simp)
      rw [if_pos c24] at H
      have c24b0:=decide_eq_true c24
      clear c24
      replace H:=bS H
      obtain ⟨⟨t803,t804⟩,A25,H⟩:=H
      try dsimp only at H
      by_cases c26:t804=0
      rotate_left
      ·
       rw [if_neg c26] at H
       exact absurd H (by simp)
      rw [if_pos c26] at H
      have c26b0:(t804 == 0)=true:=beq_iff_eq.mpr c26
      have c26b1:(t804 != 0)=false:=bne_eq_false_iff_eq.mpr c26
      clear c26
      by_cases c27:t803=x11_2
      rotate_left
      ·
       rw [if_neg c27] at H
       exact absurd H (by simp)
      rw [if_pos c27] at H
      have c27b0:(t803 == x11_2)=true:=beq_iff_eq.mpr c27
      have c27b1:(t803 != x11_2)=false:=bne_eq_false_iff_eq.mpr c27
      clear c27
      have H':=Aside0.mk H
      clear H
      obtain ⟨Ao28,co28,eo28⟩:=Kd.R_slice HO_7.out
      subst eo28
      try go_wp2
      have n0_:=Aside0.mk (Kd.R_drew HO_7.out)
      have n1_:=Aside0.mk (blk_drew BK791.out)
      have n2_:=Aside0.mk (blk_drew BK792.out)
      have n3_:=Aside0.mk (below_drew1 HB.out)
      clear HO_7
      clear BK791
      clear BK792
      clear HB
      have HO_7:=n0_
      have BK791:=n1_
      have BK792:=n2_
      have HB:=n3_
      clear n0_ n1_ n2_ n3_
      have p802:0≤(x11_2:Int):=dA
      have q802:x11_2<(t793.length:Int):=dA
      obtain ⟨ad802,e802,hx802_0,hx802_1,hx802_2⟩:=at_T25 (Kd.R_reads' HO_7.out).2.2 x11_2 p802 q802
      cases e802
      replace p802:=eq_true p802
      replace q802:=eq_true q802
      refine start_ (n:=12) (S:=fun w'=>w'.cell? ⟨gb791,0,none⟩=some (.int .i64 t785)∧w'.cell? ⟨gb791,1,none⟩=some (.int .i64 t786)∧w'.cell? ⟨gb791,2,none⟩=some (.int .i64 t787)∧w'.cell? (ad802.add ((x11_2).toNat*3))=some (.int .i64 ((rd_T25 t793 x11_2).f0))∧w'.cell? ⟨(ad802.add ((x11_2).toNat*3)).block,(ad802.add ((x11_2).toNat*3)).off+1,none⟩=some (.int .i64 ((rd_T25 t793 x11_2).f1))∧w'.cell? ⟨(ad802.add ((x11_2).toNat*3)).block,(ad802.add ((x11_2).toNat*3)).off+2,none⟩=some (.int .i64 ((rd_T25 t793 x11_2).f2))) (ds:=[]) #[Z,Z,Z,Z,Z,Z,Z,Z,Z,Z,Z,Z] (by kernel_rfl) rfl rfl ⟨cA BK791 0,cA BK791 1,cA BK791 2,hx802_0,hx802_1,hx802_2⟩ (fun hHeld=>?_);refine with_tabW laws_FnRays.tab11 laws_FnRays.bits11 (fun HT_ HW_=>?_)
      generalize wr.drew=w29 at HO_7 BK791 BK792 HB hx802_0 hx802_1 hx802_2 hHeld ⊢
      refine puA (i:=0) (N:=some 88) #[Y,Z,Z,Z,Z,Z,Z,Z,Z,Z,Z,Z] rfl rfl HT_ ?_
      refine puA (i:=2) (N:=some 90) #[Y,Z,Y,Z,Z,Z,Z,Z,Z,Z,Z,Z] rfl rfl HT_ ?_
      refine puA (i:=3) (N:=some 91) #[Y,Z,Y,Y,Z,Z,Z,Z,Z,Z,Z,Z] rfl rfl HT_ ?_
      refine puA (i:=4) (N:=some 92) #[Y,Z,Y,Y,Y,Z,Z,Z,Z,Z,Z,Z] rfl rfl HT_ ?_
      refine taA (i:=1) (N:=some 89) #[Y,Y,Y,Y,Y,Z,Z,Z,Z,Z,Z,Z] rfl rfl HT_ HW_ hHeld ?_
      refine taA (i:=5) (N:=some 93) #[Y,Y,Y,Y,Y,Y,Z,Z,Z,Z,Z,Z] rfl rfl HT_ HW_ hHeld ?_
      refine one_ (i:=6) (N:=some 94) #[Y,Y,Y,Y,Y,Y,Y,Z,Z,Z,Z,Z] rfl rfl (one_of HT_.out (by kernel_rfl)) (by decide) (fun K hK=>?_)
      refine goes_ Try.func9 (by kernel_rfl) rfl #[.int .i64 t784,.agg #[.int .i64 t785,.int .i64 t786,.int .i64 t787],.agg #[.int .i64 ((rd_T25 t793 x11_2).f0),.int .i64 ((rd_T25 t793 x11_2).f1),.int .i64 ((rd_T25 t793 x11_2).f2)]] (by rfl) rfl rfl hA ?_
      with_reducible refine (impl_TreeDistance.calls k2 t784 t785 t786 t787 ((rd_T25 t793 x11_2).f0) ((rd_T25 t793 x11_2).f1) ((rd_T25 t793 x11_2).f2) t803 t804 _ A25.out).mono ?_
      rintro e w30 ⟨rfl,hb⟩
      have HS3_:=(hb.cell (World.block_lt_of_cell? _ _ (hHeld.2.2.2.1))).trans (hHeld.2.2.2.1)
      have HS4_:=(hb.cell (World.block_lt_of_cell? _ _ (hHeld.2.2.2.2.1))).trans (hHeld.2.2.2.2.1)
      have HS5_:=(hb.cell (World.block_lt_of_cell? _ _ (hHeld.2.2.2.2.2))).trans (hHeld.2.2.2.2.2)
      refine ⟨_,rfl,?_⟩
      replace HO_7:=Aside0.mk (Kd.R_below (rA HO_7) hb)
      replace BK791:=kB BK791 hb
      replace BK792:=kB BK792 hb
      replace HB:=lB hb
      (try clear hb)
      (try clear hb2)
      (try clear hk)
      (try clear hi)
      refine hK.out _ _ ⟨cA BK791 0,cA BK791 1,cA BK791 2,HS3_,HS4_,HS5_⟩ (fun hHeld=>?_)
      clear hK K
      refine nmA ?_
      refine puA (i:=7) (N:=some 87) #[Y,Y,Y,Y,Y,Y,Y,Y,Z,Z,Z,Z] rfl rfl HT_ ?_
      refine puA (i:=8) (N:=some 95) #[Y,Y,Y,Y,Y,Y,Y,Y,Y,Z,Z,Z] rfl rfl HT_ ?_
      refine puA (i:=9) (N:=some 96) #[Y,Y,Y,Y,Y,Y,Y,Y,Y,Y,Z,Z] rfl rfl HT_ ?_
      refine puA (i:=10) (N:=some 12) #[Y,Y,Y,Y,Y,Y,Y,Y,Y,Y,Y,Z] rfl rfl HT_ ?_
      refine puA (i:=11) (N:=some 13) #[Y,Y,Y,Y,Y,Y,Y,Y,Y,Y,Y,Y] rfl rfl HT_ ?_
      refine done_ (done_of HT_.out (by kernel_rfl)) ?_
      try go_wp2
      go_roundg k2
      case measure=>have:=HJ6.out;have:=HK2.out;omega
      case rel=>exact ⟨(wrap64 (x11_2+1)),hB,H',⟨by have:=HJ6.out;have:=HK2.out;omega⟩,⟨rA HO_7⟩,⟨bkA BK791⟩,⟨bkA BK792⟩,⟨blA⟩⟩
     ·
      rw [if_neg c23] at H
      have c23b0:=decide_eq_false c23
      clear c23
      replace H:=bS H
      obtain ⟨⟨t805,t806,t807,t808,t809,t810,t811,t812⟩,A31,H⟩:=H
      try dsimp only at H
      replace H:=bS H
      obtain ⟨⟨t816,t817⟩,A32,H⟩:=H
      try dsimp only at H
      replace H:=bS H
      obtain ⟨⟨t818,t819⟩,A33,H⟩:=H
      try dsimp only at H
      replace H:=bS H
      obtain ⟨⟨t820,t821⟩,A34,H⟩:=H
      try dsimp only at H
      replace H:=bS H
      obtain ⟨⟨t822,t823⟩,A35,H⟩:=H
      try dsimp only at H
      replace H:=bS H
      obtain ⟨⟨t824,t825,t826,t827⟩,A36,H⟩:=H
      try dsimp only at H
      replace H:=bS H
      obtain ⟨⟨t829,t830,t831,t832⟩,A37,H⟩:=H
      try dsimp only at H
      replace H:=bS H
      obtain ⟨⟨t834,t835⟩,A38,H⟩:=H
      try dsimp only at H
      replace H:=bS H
      obtain ⟨⟨t836,t837⟩,A39,H⟩:=H
      try dsimp only at H
      have HC40:=Aside0.mk H
      clear H
      obtain ⟨Ao41,co41,eo41⟩:=Kd.R_slice HO_7.out
      subst eo41
      go_upto_region 23 with (first|((with_reducible refine gd 106 rfl ?_);refine gC (some 106) rfl Try.func10 (spec_DrawCommonSteps.calls (w:=_) (hr0:=cR (Kd.C_below HR0.out HB.out)) (hc0:=HC0.out) (h:=A31.out)) ?_;intro w42 hb;have n0_:=Aside0.mk (Kd.R_below (rA HO_7) hb);have n1_:=kB BK791 hb;have n2_:=kB BK792 hb;have n3_:=lB hb;clear HO_7;clear BK791;clear BK792;clear HB;have HO_7:=n0_;have BK791:=n1_;have BK792:=n2_;have HB:=n3_;clear n0_ n1_ n2_ n3_;clear hb)|((with_reducible refine gate_dst (N:=15) rfl ?_);refine bxE (cs:=#[.int .i64 0,.int .i64 0,.int .i64 0]) (t:=25) ?_;intro gb813 hg w43 hbox hb;have n0_:=Aside0.mk (Kd.R_below (Kd.R_elderB (rA HO_7) gb813 (Nat.le_of_eq hg.symm)) hb);have n1_:=kB BK791 hb;have n2_:=kB BK792 hb;have n3_:=lB hb;have n4_:=Aside0.mk hbox;have n5_:=sA hg;have n6_:=sA hg;have n7_:=nA hg BK791;have n8_:=nB hg BK791;have n9_:=nA hg BK792;have n10_:=nB hg BK792;clear HO_7;clear BK791;clear BK792;clear HB;have HO_7:=n0_;have BK791:=n1_;have BK792:=n2_;have HB:=n3_;have BK813:=n4_;have GW813:=n5_;have GE813:=n6_;have NB791_813:=n7_;have NB813_791:=n8_;have NB792_813:=n9_;have NB813_792:=n10_;clear n0_ n1_ n2_ n3_ n4_ n5_ n6_ n7_ n8_ n9_ n10_;clear hb hbox hg)|((with_reducible refine gate_dst (N:=16) rfl ?_);refine bxE (cs:=#[.int .i64 0,.int .i64 0]) (t:=27) ?_;intro gb814 hg w44 hbox hb;have n0_:=Aside0.mk (Kd.R_below (rA HO_7) hb);have n1_:=kB BK791 hb;have n2_:=kB BK792 hb;have n3_:=kB BK813 hb;have n4_:=lB hb;have n5_:=Aside0.mk hbox;have n6_:=sA hg;have n7_:=sA hg;have n8_:=nA hg BK791;have n9_:=nB hg BK791;have n10_:=nA hg BK792;have n11_:=nB hg BK792;have n12_:=nA hg BK813;have n13_:=nB hg BK813;clear HO_7;clear BK791;clear BK792;clear BK813;clear HB;have HO_7:=n0_;have BK791:=n1_;have BK792:=n2_;have BK813:=n3_;have HB:=n4_;have BK814:=n5_;have GW814:=n6_;have GE814:=n7_;have NB791_814:=n8_;have NB814_791:=n9_;have NB792_814:=n10_;have NB814_792:=n11_;have NB813_814:=n12_;have NB814_813:=n13_;clear n0_ n1_ n2_ n3_ n4_ n5_ n6_ n7_ n8_ n9_ n10_ n11_ n12_ n13_;clear hb hbox hg)|((with_reducible refine gate_dst (N:=17) rfl ?_);refine bxE (cs:=#[.int .i64 0,.int .i64 0]) (t:=27) ?_;intro gb815 hg w45 hbox hb;have n0_:=Aside0.mk (Kd.R_below (rA HO_7) hb);have n1_:=kB BK791 hb;have n2_:=kB BK792 hb;have n3_:=kB BK813 hb;have n4_:=kB BK814 hb;have n5_:=lB hb;have n6_:=Aside0.mk hbox;have n7_:=sA hg;have n8_:=sA hg;have n9_:=nA hg BK791;have n10_:=nB hg BK791;have n11_:=nA hg BK792;have n12_:=nB hg BK792;have n13_:=nA hg BK813;have n14_:=nB hg BK813;have n15_:=nA hg BK814;have n16_:=nB hg BK814;clear HO_7;clear BK791;clear BK792;clear BK813;clear BK814;clear HB;have HO_7:=n0_;have BK791:=n1_;have BK792:=n2_;have BK813:=n3_;have BK814:=n4_;have HB:=n5_;have BK815:=n6_;have GW815:=n7_;have GE815:=n8_;have NB791_815:=n9_;have NB815_791:=n10_;have NB792_815:=n11_;have NB815_792:=n12_;have NB813_815:=n13_;have NB815_813:=n14_;have NB814_815:=n15_;have NB815_814:=n16_;clear n0_ n1_ n2_ n3_ n4_ n5_ n6_ n7_ n8_ n9_ n10_ n11_ n12_ n13_ n14_ n15_ n16_;clear hb hbox hg;have hnb46:=NB813_791.out;have hnb47:=NB813_792.out;have hnb48:=NB813_814.out;have hnb49:=NB813_815.out;obtain ⟨hcz50_0,hcz50_1,hcz50_2,hfz50_0,hfz50_1,hfz50_2⟩:=cz3 BK813;have hnb51:=NB814_791.out;have hnb52:=NB814_792.out;have hnb53:=NB814_815.out;obtain ⟨hcz54_0,hcz54_1,hfz54_0,hfz54_1⟩:=cz2 BK814;have hnb55:=NB815_791.out;have hnb56:=NB815_792.out;obtain ⟨hcz57_0,hcz57_1,hfz57_0,hfz57_1⟩:=cz2 BK815)|((with_reducible refine gd 116 rfl ?_);refine gC (some 116) rfl Try.func11 (impl_CommonSteps.calls (w:=_) (h:=A32.out)) ?_;intro w58 hb;have n0_:=Aside0.mk (Kd.R_below (by (with_reducible repeat (first|apply Kd.R_alloc|apply Kd.R_drewN|apply Kd.R_drew));exact (Kd.R_mono (Kd.R_mono (Kd.R_mono (Kd.R_far (p:=⟨gb815,1,none⟩) (Kd.R_far (p:=⟨gb815,0,none⟩) (Kd.R_far (p:=⟨gb814,1,none⟩) (Kd.R_far (p:=⟨gb814,0,none⟩) (Kd.R_far (p:=⟨gb813,2,none⟩) (Kd.R_far (p:=⟨gb813,1,none⟩) (Kd.R_far (p:=⟨gb813,0,none⟩) (Kd.R_types (Kd.R_types (Kd.R_mono HO_7.out (fun k_ hk=>(⟨hk,hk.2⟩:_∧k_≠gb813))) BK814.out (by decide)) BK815.out (by decide)) (fun _ hk=>hk.1.1.2) (.int .i64 t806)) (fun _ hk=>hk.1.1.2) (.int .i64 t807)) (fun _ hk=>hk.1.1.2) (.int .i64 t808)) (fun _ hk=>hk.1.2) (.int .i64 t809)) (fun _ hk=>hk.1.2) (.int .i64 t810)) (fun _ hk=>hk.2) (.int .i64 t811)) (fun _ hk=>hk.2) (.int .i64 t812)) (fun _ h_=>h_.1)) (fun _ h_=>h_.1)) (fun _ h_=>h_.1))) hb);have n1_:=Aside0.mk (blk_below (g:=gb791) (o:=.cells #[.int .i64 t785,.int .i64 t786,.int .i64 t787] 25 (0,0)) (bkF BK791) hb);have n2_:=Aside0.mk (blk_below (g:=gb792) (o:=.cells #[.int .i64 t788,.int .i64 t789] 27 (0,0)) (bkF BK792) hb);have n3_:=Aside0.mk (blk_below (g:=gb813) (o:=.cells #[.int .i64 t806,.int .i64 t807,.int .i64 t808] 25 (0,0)) (bpA BK813) hb);have n4_:=Aside0.mk (blk_below (g:=gb814) (o:=.cells #[.int .i64 t809,.int .i64 t810] 27 (0,0)) (bpA BK814) hb);have n5_:=Aside0.mk (blk_below (g:=gb815) (o:=.cells #[.int .i64 t811,.int .i64 t812] 27 (0,0)) (bpA BK815) hb);have n6_:=lB hb;clear HO_7;clear BK791;clear BK792;clear BK813;clear BK814;clear BK815;clear HB;have HO_7:=n0_;have BK791:=n1_;have BK792:=n2_;have BK813:=n3_;have BK814:=n4_;have BK815:=n5_;have HB:=n6_;clear n0_ n1_ n2_ n3_ n4_ n5_ n6_;clear hb;obtain ⟨hcz59_0,hcz59_1,hcz59_2,hfz59_0,hfz59_1,hfz59_2⟩:=cz3 BK813;obtain ⟨hcz60_0,hcz60_1,hfz60_0,hfz60_1⟩:=cz2 BK814;obtain ⟨hcz61_0,hcz61_1,hfz61_0,hfz61_1⟩:=cz2 BK815)|((with_reducible refine gd 124 rfl ?_);refine gC (some 124) rfl Try.func12 (spec_CommonSteps.calls (w:=_) (h:=A33.out)) ?_;intro w62 hb;have n0_:=Aside0.mk (Kd.R_below (rA HO_7) hb);have n1_:=kB BK791 hb;have n2_:=kB BK792 hb;have n3_:=kB BK813 hb;have n4_:=kB BK814 hb;have n5_:=kB BK815 hb;have n6_:=lB hb;clear HO_7;clear BK791;clear BK792;clear BK813;clear BK814;clear BK815;clear HB;have HO_7:=n0_;have BK791:=n1_;have BK792:=n2_;have BK813:=n3_;have BK814:=n4_;have BK815:=n5_;have HB:=n6_;clear n0_ n1_ n2_ n3_ n4_ n5_ n6_;clear hb;obtain ⟨hcz63_0,hcz63_1,hcz63_2,hfz63_0,hfz63_1,hfz63_2⟩:=cz3 BK813;obtain ⟨hcz64_0,hcz64_1,hfz64_0,hfz64_1⟩:=cz2 BK814;obtain ⟨hcz65_0,hcz65_1,hfz65_0,hfz65_1⟩:=cz2 BK815)|((with_reducible refine gd 132 rfl ?_);refine gC (some 132) rfl Try.func13 (impl_DistanceToLine.calls (w:=_) (h:=A34.out)) ?_;intro w66 hb;have n0_:=Aside0.mk (Kd.R_below (rA HO_7) hb);have n1_:=kB BK791 hb;have n2_:=kB BK792 hb;have n3_:=kB BK813 hb;have n4_:=kB BK814 hb;have n5_:=kB BK815 hb;have n6_:=lB hb;clear HO_7;clear BK791;clear BK792;clear BK813;clear BK814;clear BK815;clear HB;have HO_7:=n0_;have BK791:=n1_;have BK792:=n2_;have BK813:=n3_;have BK814:=n4_;have BK815:=n5_;have HB:=n6_;clear n0_ n1_ n2_ n3_ n4_ n5_ n6_;clear hb;obtain ⟨hcz67_0,hcz67_1,hcz67_2,hfz67_0,hfz67_1,hfz67_2⟩:=cz3 BK813;obtain ⟨hcz68_0,hcz68_1,hfz68_0,hfz68_1⟩:=cz2 BK814;obtain ⟨hcz69_0,hcz69_1,hfz69_0,hfz69_1⟩:=cz2 BK815)|((with_reducible refine gd 140 rfl ?_);refine gC (some 140) rfl Try.func14 (spec_DistanceToLine.calls (w:=_) (h:=A35.out)) ?_;intro w70 hb;have n0_:=Aside0.mk (Kd.R_below (rA HO_7) hb);have n1_:=kB BK791 hb;have n2_:=kB BK792 hb;have n3_:=kB BK813 hb;have n4_:=kB BK814 hb;have n5_:=kB BK815 hb;have n6_:=lB hb;clear HO_7;clear BK791;clear BK792;clear BK813;clear BK814;clear BK815;clear HB;have HO_7:=n0_;have BK791:=n1_;have BK792:=n2_;have BK813:=n3_;have BK814:=n4_;have BK815:=n5_;have HB:=n6_;clear n0_ n1_ n2_ n3_ n4_ n5_ n6_;clear hb;obtain ⟨hcz71_0,hcz71_1,hcz71_2,hfz71_0,hfz71_1,hfz71_2⟩:=cz3 BK813;obtain ⟨hcz72_0,hcz72_1,hfz72_0,hfz72_1⟩:=cz2 BK814;obtain ⟨hcz73_0,hcz73_1,hfz73_0,hfz73_1⟩:=cz2 BK815)|((with_reducible refine gd 148 rfl ?_);refine gC (some 148) rfl Try.func15 (impl_NearestOnLine.calls (w:=_) (h:=A36.out)) ?_;intro w74 hb;have n0_:=Aside0.mk (Kd.R_below (rA HO_7) hb);have n1_:=kB BK791 hb;have n2_:=kB BK792 hb;have n3_:=kB BK813 hb;have n4_:=kB BK814 hb;have n5_:=kB BK815 hb;have n6_:=lB hb;clear HO_7;clear BK791;clear BK792;clear BK813;clear BK814;clear BK815;clear HB;have HO_7:=n0_;have BK791:=n1_;have BK792:=n2_;have BK813:=n3_;have BK814:=n4_;have BK815:=n5_;have HB:=n6_;clear n0_ n1_ n2_ n3_ n4_ n5_ n6_;clear hb)|((with_reducible refine gate_dst (N:=26) rfl ?_);refine bxE (cs:=#[.int .i64 0,.int .i64 0,.int .i64 0]) (t:=25) ?_;intro gb828 hg w75 hbox hb;have n0_:=Aside0.mk (Kd.R_below (Kd.R_elderB (rA HO_7) gb828 (Nat.le_of_eq hg.symm)) hb);have n1_:=kB BK791 hb;have n2_:=kB BK792 hb;have n3_:=kB BK813 hb;have n4_:=kB BK814 hb;have n5_:=kB BK815 hb;have n6_:=lB hb;have n7_:=Aside0.mk hbox;have n8_:=sA hg;have n9_:=sA hg;have n10_:=nA hg BK791;have n11_:=nB hg BK791;have n12_:=nA hg BK792;have n13_:=nB hg BK792;have n14_:=nA hg BK813;have n15_:=nB hg BK813;have n16_:=nA hg BK814;have n17_:=nB hg BK814;have n18_:=nA hg BK815;have n19_:=nB hg BK815;clear HO_7;clear BK791;clear BK792;clear BK813;clear BK814;clear BK815;clear HB;have HO_7:=n0_;have BK791:=n1_;have BK792:=n2_;have BK813:=n3_;have BK814:=n4_;have BK815:=n5_;have HB:=n6_;have BK828:=n7_;have GW828:=n8_;have GE828:=n9_;have NB791_828:=n10_;have NB828_791:=n11_;have NB792_828:=n12_;have NB828_792:=n13_;have NB813_828:=n14_;have NB828_813:=n15_;have NB814_828:=n16_;have NB828_814:=n17_;have NB815_828:=n18_;have NB828_815:=n19_;clear n0_ n1_ n2_ n3_ n4_ n5_ n6_ n7_ n8_ n9_ n10_ n11_ n12_ n13_ n14_ n15_ n16_ n17_ n18_ n19_;clear hb hbox hg;have hnb76:=NB828_791.out;have hnb77:=NB828_792.out;have hnb78:=NB828_813.out;have hnb79:=NB828_814.out;have hnb80:=NB828_815.out;obtain ⟨hcz81_0,hcz81_1,hcz81_2,hfz81_0,hfz81_1,hfz81_2⟩:=cz3 BK828;obtain ⟨hcz82_0,hcz82_1,hcz82_2,hfz82_0,hfz82_1,hfz82_2⟩:=cz3 BK813;obtain ⟨hcz83_0,hcz83_1,hfz83_0,hfz83_1⟩:=cz2 BK814;obtain ⟨hcz84_0,hcz84_1,hfz84_0,hfz84_1⟩:=cz2 BK815)|((with_reducible refine gd 156 rfl ?_);refine gC (some 156) rfl Try.func16 (spec_NearestOnLine.calls (w:=_) (h:=A37.out)) ?_;intro w85 hb;have n0_:=Aside0.mk (Kd.R_below (by (with_reducible repeat (first|apply Kd.R_alloc|apply Kd.R_drewN|apply Kd.R_drew));exact (Kd.R_mono (Kd.R_far (p:=⟨gb828,2,none⟩) (Kd.R_far (p:=⟨gb828,1,none⟩) (Kd.R_far (p:=⟨gb828,0,none⟩) (Kd.R_mono HO_7.out (fun k_ hk=>(⟨hk,hk.2⟩:_∧k_≠gb828))) (fun _ hk=>hk.2) (.int .i64 t824)) (fun _ hk=>hk.2) (.int .i64 t825)) (fun _ hk=>hk.2) (.int .i64 t826)) (fun _ h_=>h_.1))) hb);have n1_:=Aside0.mk (blk_below (g:=gb791) (o:=.cells #[.int .i64 t785,.int .i64 t786,.int .i64 t787] 25 (0,0)) (bkF BK791) hb);have n2_:=Aside0.mk (blk_below (g:=gb792) (o:=.cells #[.int .i64 t788,.int .i64 t789] 27 (0,0)) (bkF BK792) hb);have n3_:=Aside0.mk (blk_below (g:=gb813) (o:=.cells #[.int .i64 t806,.int .i64 t807,.int .i64 t808] 25 (0,0)) (bkF BK813) hb);have n4_:=Aside0.mk (blk_below (g:=gb814) (o:=.cells #[.int .i64 t809,.int .i64 t810] 27 (0,0)) (bkF BK814) hb);have n5_:=Aside0.mk (blk_below (g:=gb815) (o:=.cells #[.int .i64 t811,.int .i64 t812] 27 (0,0)) (bkF BK815) hb);have n6_:=Aside0.mk (blk_below (g:=gb828) (o:=.cells #[.int .i64 t824,.int .i64 t825,.int .i64 t826] 25 (0,0)) (bpA BK828) hb);have n7_:=lB hb;clear HO_7;clear BK791;clear BK792;clear BK813;clear BK814;clear BK815;clear BK828;clear HB;have HO_7:=n0_;have BK791:=n1_;have BK792:=n2_;have BK813:=n3_;have BK814:=n4_;have BK815:=n5_;have BK828:=n6_;have HB:=n7_;clear n0_ n1_ n2_ n3_ n4_ n5_ n6_ n7_;clear hb)|((with_reducible refine gate_dst (N:=28) rfl ?_);refine bxE (cs:=#[.int .i64 0,.int .i64 0,.int .i64 0]) (t:=25) ?_;intro gb833 hg w86 hbox hb;have n0_:=Aside0.mk (Kd.R_below (Kd.R_elderB (rA HO_7) gb833 (Nat.le_of_eq hg.symm)) hb);have n1_:=kB BK791 hb;have n2_:=kB BK792 hb;have n3_:=kB BK813 hb;have n4_:=kB BK814 hb;have n5_:=kB BK815 hb;have n6_:=kB BK828 hb;have n7_:=lB hb;have n8_:=Aside0.mk hbox;have n9_:=sA hg;have n10_:=sA hg;have n11_:=nA hg BK791;have n12_:=nB hg BK791;have n13_:=nA hg BK792;have n14_:=nB hg BK792;have n15_:=nA hg BK813;have n16_:=nB hg BK813;have n17_:=nA hg BK814;have n18_:=nB hg BK814;have n19_:=nA hg BK815;have n20_:=nB hg BK815;have n21_:=nA hg BK828;have n22_:=nB hg BK828;clear HO_7;clear BK791;clear BK792;clear BK813;clear BK814;clear BK815;clear BK828;clear HB;have HO_7:=n0_;have BK791:=n1_;have BK792:=n2_;have BK813:=n3_;have BK814:=n4_;have BK815:=n5_;have BK828:=n6_;have HB:=n7_;have BK833:=n8_;have GW833:=n9_;have GE833:=n10_;have NB791_833:=n11_;have NB833_791:=n12_;have NB792_833:=n13_;have NB833_792:=n14_;have NB813_833:=n15_;have NB833_813:=n16_;have NB814_833:=n17_;have NB833_814:=n18_;have NB815_833:=n19_;have NB833_815:=n20_;have NB828_833:=n21_;have NB833_828:=n22_;clear n0_ n1_ n2_ n3_ n4_ n5_ n6_ n7_ n8_ n9_ n10_ n11_ n12_ n13_ n14_ n15_ n16_ n17_ n18_ n19_ n20_ n21_ n22_;clear hb hbox hg;have hnb87:=NB833_791.out;have hnb88:=NB833_792.out;have hnb89:=NB833_813.out;have hnb90:=NB833_814.out;have hnb91:=NB833_815.out;have hnb92:=NB833_828.out;obtain ⟨hcz93_0,hcz93_1,hcz93_2,hfz93_0,hfz93_1,hfz93_2⟩:=cz3 BK833;obtain ⟨hcz94_0,hcz94_1,hcz94_2,hfz94_0,hfz94_1,hfz94_2⟩:=cz3 BK813;obtain ⟨hcz95_0,hcz95_1,hfz95_0,hfz95_1⟩:=cz2 BK814;obtain ⟨hcz96_0,hcz96_1,hfz96_0,hfz96_1⟩:=cz2 BK815)|((with_reducible refine gd 164 rfl ?_);refine gC (some 164) rfl Try.func17 (impl_IsOnLine.calls (w:=_) (h:=A38.out)) ?_;intro w97 hb;have n0_:=Aside0.mk (Kd.R_below (by (with_reducible repeat (first|apply Kd.R_alloc|apply Kd.R_drewN|apply Kd.R_drew));exact (Kd.R_mono (Kd.R_far (p:=⟨gb833,2,none⟩) (Kd.R_far (p:=⟨gb833,1,none⟩) (Kd.R_far (p:=⟨gb833,0,none⟩) (Kd.R_mono HO_7.out (fun k_ hk=>(⟨hk,hk.2⟩:_∧k_≠gb833))) (fun _ hk=>hk.2) (.int .i64 t829)) (fun _ hk=>hk.2) (.int .i64 t830)) (fun _ hk=>hk.2) (.int .i64 t831)) (fun _ h_=>h_.1))) hb);have n1_:=Aside0.mk (blk_below (g:=gb791) (o:=.cells #[.int .i64 t785,.int .i64 t786,.int .i64 t787] 25 (0,0)) (bkF BK791) hb);have n2_:=Aside0.mk (blk_below (g:=gb792) (o:=.cells #[.int .i64 t788,.int .i64 t789] 27 (0,0)) (bkF BK792) hb);have n3_:=Aside0.mk (blk_below (g:=gb813) (o:=.cells #[.int .i64 t806,.int .i64 t807,.int .i64 t808] 25 (0,0)) (bkF BK813) hb);have n4_:=Aside0.mk (blk_below (g:=gb814) (o:=.cells #[.int .i64 t809,.int .i64 t810] 27 (0,0)) (bkF BK814) hb);have n5_:=Aside0.mk (blk_below (g:=gb815) (o:=.cells #[.int .i64 t811,.int .i64 t812] 27 (0,0)) (bkF BK815) hb);have n6_:=Aside0.mk (blk_below (g:=gb828) (o:=.cells #[.int .i64 t824,.int .i64 t825,.int .i64 t826] 25 (0,0)) (bkF BK828) hb);have n7_:=Aside0.mk (blk_below (g:=gb833) (o:=.cells #[.int .i64 t829,.int .i64 t830,.int .i64 t831] 25 (0,0)) (bpA BK833) hb);have n8_:=lB hb;clear HO_7;clear BK791;clear BK792;clear BK813;clear BK814;clear BK815;clear BK828;clear BK833;clear HB;have HO_7:=n0_;have BK791:=n1_;have BK792:=n2_;have BK813:=n3_;have BK814:=n4_;have BK815:=n5_;have BK828:=n6_;have BK833:=n7_;have HB:=n8_;clear n0_ n1_ n2_ n3_ n4_ n5_ n6_ n7_ n8_;clear hb;obtain ⟨hcz98_0,hcz98_1,hcz98_2,hfz98_0,hfz98_1,hfz98_2⟩:=cz3 BK813;obtain ⟨hcz99_0,hcz99_1,hfz99_0,hfz99_1⟩:=cz2 BK814;obtain ⟨hcz100_0,hcz100_1,hfz100_0,hfz100_1⟩:=cz2 BK815)|((with_reducible refine gd 172 rfl ?_);refine gC (some 172) rfl Try.func18 (spec_IsOnLine.calls (w:=_) (h:=A39.out)) ?_;intro w101 hb;have n0_:=Aside0.mk (Kd.R_below (rA HO_7) hb);have n1_:=kB BK791 hb;have n2_:=kB BK792 hb;have n3_:=kB BK813 hb;have n4_:=kB BK814 hb;have n5_:=kB BK815 hb;have n6_:=kB BK828 hb;have n7_:=kB BK833 hb;have n8_:=lB hb;clear HO_7;clear BK791;clear BK792;clear BK813;clear BK814;clear BK815;clear BK828;clear BK833;clear HB;have HO_7:=n0_;have BK791:=n1_;have BK792:=n2_;have BK813:=n3_;have BK814:=n4_;have BK815:=n5_;have BK828:=n6_;have BK833:=n7_;have HB:=n8_;clear n0_ n1_ n2_ n3_ n4_ n5_ n6_ n7_ n8_;clear hb))
      (try simp only [Act.put,List.setIfInBounds_toArray,List.set_cons_zero,List.set_cons_succ])
      go_cut [212] (fun v212 wc=>∃ (kq:Nat) (x212_39:Bool),v212=.bool x212_39∧Aside0 (laws_FnRays.j2 kq l0 t805 t816 t817 t820 t827 t834 x212_39 t806 t807 t808 t809 t810 t811 t812 t824 t825 t826=some r)∧Aside0 (kq≤k2)∧Aside0 (wc.heap[gb791]?=some (.cells #[.int .i64 t785,.int .i64 t786,.int .i64 t787] 25 (0,0)))∧Aside0 (wc.heap[gb792]?=some (.cells #[.int .i64 t788,.int .i64 t789] 27 (0,0)))∧Aside0 (wc.heap[gb813]?=some (.cells #[.int .i64 t806,.int .i64 t807,.int .i64 t808] 25 (0,0)))∧Aside0 (wc.heap[gb814]?=some (.cells #[.int .i64 t809,.int .i64 t810] 27 (0,0)))∧Aside0 (wc.heap[gb815]?=some (.cells #[.int .i64 t811,.int .i64 t812] 27 (0,0)))∧Aside0 (wc.heap[gb828]?=some (.cells #[.int .i64 t824,.int .i64 t825,.int .i64 t826] 25 (0,0)))∧Aside0 (wc.heap[gb833]?=some (.cells #[.int .i64 t829,.int .i64 t830,.int .i64 t831] 25 (0,0)))∧Aside0 (Below w.heap.size w wc))
      case first=>
       expose_names
       clear BK791_1 BK792_1 HB_1 BK791_2 BK792_2 HB_2 h HO_7_1 h_1 h_2 h_4
       revert k A0 c0 l0 r w hu25 hu27 t784 t785 t786 t787 t788 t789 t790 t793 t796 t797 t800 gb791 gb792 w17 v798 u47 u48 u49 u50 u51 u52 u53 u54 u55 u56 u57 u58 u59 u60 u61 u62 u63 u64 u65 u66 u67 u68 u69 u70 u71 u72 u73 u74 u75 u76 u77 u78 u79 u175 u176 u177 u178 u179 u180 u181 u182 u183 u184 u185 u186 u187 u188 u189 u190 u191 u192 u193 u194 u195 u196 u197 u198 u199 u200 u201 u202 u203 u204 u205 u206 u207 u208 u209 u210 u211 u212 u213 u214 u215 u216 u217 u218 u219 u220 u221 u222 u223 u224 u225 u226 u227 u228 u229 u230 u231 u232 u233 u234 u235 u236 u237 u238 u239 u240 u241 u242 u243 u244 u245 u246 u247 u248 u249 u250 u251 u252 u253 u254 u255 u256 u257 u258 u259 u260 u261 u262 u263 u264 u265 u266 u267 u268 u269 u270 u271 u272 u273 u274 u275 u276 u277 u278 u279 u280 u281 u282 u283 u284 u285 u286 u287 u288 u289 u290 u291 u292 u293 u294 u295 u296 u297 u298 u299 u300 kj6 u2 u12 u13 u85 u86 u87 u88 u89 u90 u91 u92 u93 u94 u95 u96 u97 u98 u99 u100 u101 u102 u103 x11_2 k2 t805 t806 t807 t808 t809 t810 t811 t812 t816 t817 t818 t819 t820 t821 t822 t823 t824 t825 t826 t827 t829 t830 t831 t832 t834 t835 t836 t837 Ao41 co41 gb813 gb814 gb815 w45 w58 w62 w66 w70 gb828 w75 gb833 w86 w97 w101 K_3 J_1 K'
       exact hcutP.out
      case rest=>
       clear HC40
       try clear c3
       try clear c18
       try clear c18b0
       try clear c18b1
       try clear c22
       try clear c23
       try clear c23b0
       try clear c24
       try clear c24b0
       try clear c26
       try clear c26b0
       try clear c26b1
       try clear c27
       try clear c27b0
       try clear c27b1
       try clear c102
       try clear c102b0
       try clear c102b1
       try clear c103
       try clear c103b0
       try clear c103b1
       try clear c104
       try clear c104b0
       try clear c104b1
       try clear c105
       try clear c105b0
       try clear c105b1
       try clear c106
       try clear c106b0
       try clear c106b1
       try clear c107
       try clear c107b0
       try clear c121
       try clear c121b0
       try clear c121b1
       try clear hcz100_0
       try clear hcz100_1
       try clear hcz114_0
       try clear hcz114_1
       try clear hcz114_2
       try clear hcz120_0
       try clear hcz120_1
       try clear hcz120_2
       try clear hcz128_0
       try clear hcz128_1
       try clear hcz128_2
       try clear hcz12_0
       try clear hcz12_1
       try clear hcz12_2
       try clear hcz134_0
       try clear hcz134_1
       try clear hcz134_2
       try clear hcz13_0
       try clear hcz13_1
       try clear hcz141_0
       try clear hcz141_1
       try clear hcz141_2
       try clear hcz147_0
       try clear hcz147_1
       try clear hcz147_2
       try clear hcz15_0
       try clear hcz15_1
       try clear hcz15_2
       try clear hcz16_0
       try clear hcz16_1
       try clear hcz50_0
       try clear hcz50_1
       try clear hcz50_2
       try clear hcz54_0
       try clear hcz54_1
       try clear hcz57_0
       try clear hcz57_1
       try clear hcz59_0
       try clear hcz59_1
       try clear hcz59_2
       try clear hcz60_0
       try clear hcz60_1
       try clear hcz61_0
       try clear hcz61_1
       try clear hcz63_0
       try clear hcz63_1
       try clear hcz63_2
       try clear hcz64_0
       try clear hcz64_1
       try clear hcz65_0
       try clear hcz65_1
       try clear hcz67_0
       try clear hcz67_1
       try clear hcz67_2
       try clear hcz68_0
       try clear hcz68_1
       try clear hcz69_0
       try clear hcz69_1
       try clear hcz71_0
       try clear hcz71_1
       try clear hcz71_2
       try clear hcz72_0
       try clear hcz72_1
       try clear hcz73_0
       try clear hcz73_1
       try clear hcz81_0
       try clear hcz81_1
       try clear hcz81_2
       try clear hcz82_0
       try clear hcz82_1
       try clear hcz82_2
       try clear hcz83_0
       try clear hcz83_1
       try clear hcz84_0
       try clear hcz84_1
       try clear hcz93_0
       try clear hcz93_1
       try clear hcz93_2
       try clear hcz94_0
       try clear hcz94_1
       try clear hcz94_2
       try clear hcz95_0
       try clear hcz95_1
       try clear hcz96_0
       try clear hcz96_1
       try clear hcz98_0
       try clear hcz98_1
       try clear hcz98_2
       try clear hcz99_0
       try clear hcz99_1
       try clear hfz100_0
       try clear hfz100_1
       try clear hfz114_0
       try clear hfz114_1
       try clear hfz114_2
       try clear hfz120_0
       try clear hfz120_1
       try clear hfz120_2
       try clear hfz128_0
       try clear hfz128_1
       try clear hfz128_2
       try clear hfz12_0
       try clear hfz12_1
       try clear hfz12_2
       try clear hfz134_0
       try clear hfz134_1
       try clear hfz134_2
       try clear hfz13_0
       try clear hfz13_1
       try clear hfz141_0
       try clear hfz141_1
       try clear hfz141_2
       try clear hfz147_0
       try clear hfz147_1
       try clear hfz147_2
       try clear hfz15_0
       try clear hfz15_1
       try clear hfz15_2
       try clear hfz16_0
       try clear hfz16_1
       try clear hfz50_0
       try clear hfz50_1
       try clear hfz50_2
       try clear hfz54_0
       try clear hfz54_1
       try clear hfz57_0
       try clear hfz57_1
       try clear hfz59_0
       try clear hfz59_1
       try clear hfz59_2
       try clear hfz60_0
       try clear hfz60_1
       try clear hfz61_0
       try clear hfz61_1
       try clear hfz63_0
       try clear hfz63_1
       try clear hfz63_2
       try clear hfz64_0
       try clear hfz64_1
       try clear hfz65_0
       try clear hfz65_1
       try clear hfz67_0
       try clear hfz67_1
       try clear hfz67_2
       try clear hfz68_0
       try clear hfz68_1
       try clear hfz69_0
       try clear hfz69_1
       try clear hfz71_0
       try clear hfz71_1
       try clear hfz71_2
       try clear hfz72_0
       try clear hfz72_1
       try clear hfz73_0
       try clear hfz73_1
       try clear hfz81_0
       try clear hfz81_1
       try clear hfz81_2
       try clear hfz82_0
       try clear hfz82_1
       try clear hfz82_2
       try clear hfz83_0
       try clear hfz83_1
       try clear hfz84_0
       try clear hfz84_1
       try clear hfz93_0
       try clear hfz93_1
       try clear hfz93_2
       try clear hfz94_0
       try clear hfz94_1
       try clear hfz94_2
       try clear hfz95_0
       try clear hfz95_1
       try clear hfz96_0
       try clear hfz96_1
       try clear hfz98_0
       try clear hfz98_1
       try clear hfz98_2
       try clear hfz99_0
       try clear hfz99_1
       try clear hx802_0
       try clear hx802_1
       try clear hx802_2
       try clear p802
       try clear q802
       expose_names
       clear BK791_1 BK792_1 HB_1 BK791_2 BK792_2 HB_2 h HO_7_1 h_1 h_2
       revert k A0 c0 l0 r w hu25 hu27 t784 t785 t786 t787 t788 t789 t790 t793 t796 t797 t800 gb791 gb792 w17 v798 kj6 u2 u12 u13 x11_2 k2 t805 t806 t807 t808 t809 t810 t811 t812 t816 t817 t818 t819 t820 t821 t822 t823 t824 t825 t826 t827 t829 t830 t831 t832 t834 t835 t836 t837 Ao41 co41 gb813 gb814 gb815 gb828 gb833 w101 K_3 K_4 wc u47 u48 u49 u50 u51 u52 u53 u54 u55 u56 u57 u58 u59 u60 u61 u62 u63 u64 u65 u66 u67 u68 u69 u70 u71 u72 u73 u74 u75 u76 u77 u78 u79 u80 u81 u82 u83 u84 u85 u86 u87 u88 u89 u90 u91 u92 u93 u94 u95 u96 u97 u98 u99 u100 u101 u102 u103 u104 u105 u106 u107 u108 u109 u110 u111 u112 u113 u114 u115 u116 u117 u118 u119 u120 u121 u122 u123 u124 u125 u126 u127 u128 u129 u130 u131 u132 u133 u134 u135 u136 u137 u138 u139 u140 u141 u142 u143 u144 u145 u146 u147 u148 u149 u150 u151 u152 u153 u154 u155 u156 u157 u158 u159 u160 u161 u162 u163 u164 u165 u166 u167 u168 u169 u170 u171 u172 u173 u174 u175 u176 u177 u178 u179 u180 u181 u182 u183 u184 u185 u186 u187 u188 u189 u190 u191 u192 u193 u194 u195 u196 u197 u198 u199 u200 u201 u202 u203 u204 u205 u206 u207 u208 u209 u210 u211 u212 u213 u214 u215 u216 u217 u218 u219 u220 u221 u222 u223 u224 u225 u226 u227 u228 u229 u230 u231 u232 u233 u234 u235 u236 u237 u238 u239 u240 u241 u242 u243 u244 u245 u246 u247 u248 u249 u250 u251 u252 u253 u254 u255 u256 u257 u258 u259 u260 u261 u262 u263 u264 u265 u266 u267 u268 u269 u270 u271 u272 u273 u274 u275 u276 u277 u278 u279 u280 u281 u282 u283 u284 u285 u286 u287 u288 u289 u290 u291 u292 u293 u294 u295 u296 u297 u298 u299 u300
       exact hcutQ.out
set_option maxHeartbeats 100000000 in
set_option maxRecDepth 100000 in
theorem laws_FnRays.cut2:laws_FnRays.cut1.1:=by
 conv=>whnf
 intro k A0 c0 l0 r w hu25 hu27 HR0 HC0 A2 t784 t785 t786 t787 t788 t789 t790 A4 t793 t796 A5 t797 t800 A6 _ gb791 GW791 GE791 gb792 GW792 GE792 NB791_792 NB792_791 hnb11 w17 v798 _ _ _ _ _ _ _ _ _ _ _ _ _ _ _ _ _ _ _ _ _ _ _ _ _ _ _ _ _ _ _ _ _ _ _ _ _ _ _ _ _ _ _ _ _ _ _ _ _ _ _ _ _ _ _ _ _ _ _ _ _ _ _ _ _ _ _ _ _ _ _ _ _ _ _ _ _ _ _ _ _ _ _ _ _ _ _ _ _ _ _ _ _ _ _ _ _ _ _ _ _ _ _ _ _ _ _ _ _ _ _ _ _ _ _ _ _ _ _ _ _ _ _ _ _ _ _ _ _ _ _ _ _ _ _ _ _ _ _ _ _ _ _ _ _ _ _ _ _ _ _ _ _ _ _ _ _ _ _ kj6 HJ6 _ _ _ _ _ _ _ _ _ _ _ _ _ _ _ _ _ _ _ _ _ _ x11_2 k2 HK2 c23b0 t805 t806 t807 t808 t809 t810 t811 t812 A31 t816 t817 A32 t818 t819 A33 t820 t821 A34 t822 t823 A35 t824 t825 t826 t827 A36 t829 t830 t831 t832 A37 t834 t835 A38 t836 t837 A39 HC40 Ao41 co41 HO795 HO799 gb813 GW813 GE813 NB791_813 NB813_791 NB792_813 NB813_792 gb814 GW814 GE814 NB791_814 NB814_791 NB792_814 NB814_792 NB813_814 NB814_813 gb815 w45 GW815 GE815 NB791_815 NB815_791 NB792_815 NB815_792 NB813_815 NB815_813 NB814_815 NB815_814 hnb46 hnb47 hnb48 hnb49 hcz50_0 hcz50_1 hcz50_2 hfz50_0 hfz50_1 hfz50_2 hnb51 hnb52 hnb53 hcz54_0 hcz54_1 hfz54_0 hfz54_1 hnb55 hnb56 hcz57_0 hcz57_1 hfz57_0 hfz57_1 w58 hcz59_0 hcz59_1 hcz59_2 hfz59_0 hfz59_1 hfz59_2 hcz60_0 hcz60_1 hfz60_0 hfz60_1 hcz61_0 hcz61_1 hfz61_0 hfz61_1 w62 hcz63_0 hcz63_1 hcz63_2 hfz63_0 hfz63_1 hfz63_2 hcz64_0 hcz64_1 hfz64_0 hfz64_1 hcz65_0 hcz65_1 hfz65_0 hfz65_1 w66 hcz67_0 hcz67_1 hcz67_2 hfz67_0 hfz67_1 hfz67_2 hcz68_0 hcz68_1 hfz68_0 hfz68_1 hcz69_0 hcz69_1 hfz69_0 hfz69_1 w70 hcz71_0 hcz71_1 hcz71_2 hfz71_0 hfz71_1 hfz71_2 hcz72_0 hcz72_1 hfz72_0 hfz72_1 hcz73_0 hcz73_1 hfz73_0 hfz73_1 gb828 w75 GW828 GE828 NB791_828 NB828_791 NB792_828 NB828_792 NB813_828 NB828_813 NB814_828 NB828_814 NB815_828 NB828_815 hnb76 hnb77 hnb78 hnb79 hnb80 hcz81_0 hcz81_1 hcz81_2 hfz81_0 hfz81_1 hfz81_2 hcz82_0 hcz82_1 hcz82_2 hfz82_0 hfz82_1 hfz82_2 hcz83_0 hcz83_1 hfz83_0 hfz83_1 hcz84_0 hcz84_1 hfz84_0 hfz84_1 gb833 w86 GW833 GE833 NB791_833 NB833_791 NB792_833 NB833_792 NB813_833 NB833_813 NB814_833 NB833_814 NB815_833 NB833_815 NB828_833 NB833_828 hnb87 hnb88 hnb89 hnb90 hnb91 hnb92 hcz93_0 hcz93_1 hcz93_2 hfz93_0 hfz93_1 hfz93_2 hcz94_0 hcz94_1 hcz94_2 hfz94_0 hfz94_1 hfz94_2 hcz95_0 hcz95_1 hfz95_0 hfz95_1 hcz96_0 hcz96_1 hfz96_0 hfz96_1 w97 hcz98_0 hcz98_1 hcz98_2 hfz98_0 hfz98_1 hfz98_2 hcz99_0 hcz99_1 hfz99_0 hfz99_1 hcz100_0 hcz100_1 hfz100_0 hfz100_1 w101 HO_7 BK791 BK792 BK813 BK814 BK815 BK828 BK833 HB _ _ _ _ _ _
 have H:=HC40.out
 clear HC40
 by_cases c102:t817=t819
 ·
  rw [if_pos c102] at H
  have c102b0:(t817 == t819)=true:=beq_iff_eq.mpr c102
  have c102b1:(t817 != t819)=false:=bne_eq_false_iff_eq.mpr c102
  clear c102
  (first|rw [c102b0]|(simp only [i64_w,i32_w];rw [c102b0])|skip)
  by_cases c103:t816=t818
  ·
   rw [if_pos c103] at H
   have c103b0:(t816 == t818)=true:=beq_iff_eq.mpr c103
   have c103b1:(t816 != t818)=false:=bne_eq_false_iff_eq.mpr c103
   clear c103
   by_cases c104:t821=t823
   ·
    rw [if_pos c104] at H
    have c104b0:(t821 == t823)=true:=beq_iff_eq.mpr c104
    have c104b1:(t821 != t823)=false:=bne_eq_false_iff_eq.mpr c104
    clear c104
    by_cases c105:t820=t822
    ·
     rw [if_pos c105] at H
     have c105b0:(t820 == t822)=true:=beq_iff_eq.mpr c105
     have c105b1:(t820 != t822)=false:=bne_eq_false_iff_eq.mpr c105
     clear c105
     by_cases c106:t827=t832
     ·
      rw [if_pos c106] at H
      have c106b0:(t827 == t832)=true:=beq_iff_eq.mpr c106
      have c106b1:(t827 != t832)=false:=bne_eq_false_iff_eq.mpr c106
      clear c106
      by_cases c107:(!(t824 == t829) || (!(t825 == t830) || (!(t826 == t831))))=true
      ·
       rw [if_pos c107] at H
       have c107b0:(!(t824 == t829) || (!(t825 == t830) || (!(t826 == t831))))=true:=c107
       clear c107
       have H':=Aside0.mk H
       clear H
       try clear hnb11
       try clear hnb46 hnb47 hnb48 hnb49 hnb51 hnb52 hnb53 hnb55 hnb56
       try clear hnb76 hnb77 hnb78 hnb79 hnb80
       try clear hnb87 hnb88 hnb89 hnb90 hnb91 hnb92
       have hnb108:=NB828_791.out
       have hnb109:=NB828_792.out
       have hnb110:=NB828_813.out
       have hnb111:=NB828_814.out
       have hnb112:=NB828_815.out
       have hnb113:=NB828_833.out
       obtain ⟨hcz114_0,hcz114_1,hcz114_2,hfz114_0,hfz114_1,hfz114_2⟩:=cz3 BK828
       try clear hnb108 hnb109 hnb110 hnb111 hnb112 hnb113
       have hnb115:=NB833_791.out
       have hnb116:=NB833_792.out
       have hnb117:=NB833_813.out
       have hnb118:=NB833_814.out
       have hnb119:=NB833_815.out
       obtain ⟨hcz120_0,hcz120_1,hcz120_2,hfz120_0,hfz120_1,hfz120_2⟩:=cz3 BK833
       go_wp2
       go_meet
       case rel=>exact ⟨_,(true),hB,H',⟨by have:=HJ6.out;have:=HK2.out;first|omega|exact Nat.le_refl _⟩,⟨bkA BK791⟩,⟨bkA BK792⟩,⟨bkA BK813⟩,⟨bkA BK814⟩,⟨bkA BK815⟩,⟨bkA BK828⟩,⟨bkA BK833⟩,⟨blA⟩⟩
      ·
       rw [if_neg c107] at H
       have c107b0:(!(t824 == t829) || (!(t825 == t830) || (!(t826 == t831))))=false:=by simpa using c107
       clear c107
       by_cases c121:t835=t837
       ·
        rw [if_pos c121] at H
        have c121b0:(t835 == t837)=true:=beq_iff_eq.mpr c121
        have c121b1:(t835 != t837)=false:=bne_eq_false_iff_eq.mpr c121
        clear c121
        have H':=Aside0.mk H
        clear H
        try clear hnb11
        try clear hnb46 hnb47 hnb48 hnb49 hnb51 hnb52 hnb53 hnb55 hnb56
        try clear hnb76 hnb77 hnb78 hnb79 hnb80
        try clear hnb87 hnb88 hnb89 hnb90 hnb91 hnb92
        have hnb122:=NB828_791.out
        have hnb123:=NB828_792.out
        have hnb124:=NB828_813.out
        have hnb125:=NB828_814.out
        have hnb126:=NB828_815.out
        have hnb127:=NB828_833.out
        obtain ⟨hcz128_0,hcz128_1,hcz128_2,hfz128_0,hfz128_1,hfz128_2⟩:=cz3 BK828
        try clear hnb122 hnb123 hnb124 hnb125 hnb126 hnb127
        have hnb129:=NB833_791.out
        have hnb130:=NB833_792.out
        have hnb131:=NB833_813.out
        have hnb132:=NB833_814.out
        have hnb133:=NB833_815.out
        obtain ⟨hcz134_0,hcz134_1,hcz134_2,hfz134_0,hfz134_1,hfz134_2⟩:=cz3 BK833
        go_wp2
        go_meet
        case rel=>exact ⟨_,((t834 != t836)),hB,H',⟨by have:=HJ6.out;have:=HK2.out;first|omega|exact Nat.le_refl _⟩,⟨bkA BK791⟩,⟨bkA BK792⟩,⟨bkA BK813⟩,⟨bkA BK814⟩,⟨bkA BK815⟩,⟨bkA BK828⟩,⟨bkA BK833⟩,⟨blA⟩⟩
       ·
        rw [if_neg c121] at H
        have c121b0:(t835 == t837)=false:=beq_eq_false_iff_ne.mpr c121
        have c121b1:(t835 != t837)=true:=bne_iff_ne.mpr c121
        have H':=Aside0.mk H
        clear H
        try clear hnb11
        try clear hnb46 hnb47 hnb48 hnb49 hnb51 hnb52 hnb53 hnb55 hnb56
        try clear hnb76 hnb77 hnb78 hnb79 hnb80
        try clear hnb87 hnb88 hnb89 hnb90 hnb91 hnb92
        have hnb135:=NB828_791.out
        have hnb136:=NB828_792.out
        have hnb137:=NB828_813.out
        have hnb138:=NB828_814.out
        have hnb139:=NB828_815.out
        have hnb140:=NB828_833.out
        obtain ⟨hcz141_0,hcz141_1,hcz141_2,hfz141_0,hfz141_1,hfz141_2⟩:=cz3 BK828
        try clear hnb135 hnb136 hnb137 hnb138 hnb139 hnb140
        have hnb142:=NB833_791.out
        have hnb143:=NB833_792.out
        have hnb144:=NB833_813.out
        have hnb145:=NB833_814.out
        have hnb146:=NB833_815.out
        obtain ⟨hcz147_0,hcz147_1,hcz147_2,hfz147_0,hfz147_1,hfz147_2⟩:=cz3 BK833
        go_wp2
        go_meet
        case rel=>exact ⟨_,(true),hB,H',⟨by have:=HJ6.out;have:=HK2.out;first|omega|exact Nat.le_refl _⟩,⟨bkA BK791⟩,⟨bkA BK792⟩,⟨bkA BK813⟩,⟨bkA BK814⟩,⟨bkA BK815⟩,⟨bkA BK828⟩,⟨bkA BK833⟩,⟨blA⟩⟩
     ·
      rw [if_neg c106] at H
      have c106b0:(t827 == t832)=false:=beq_eq_false_iff_ne.mpr c106
      have c106b1:(t827 != t832)=true:=bne_iff_ne.mpr c106
      have H':=Aside0.mk H
      clear H
      go_wp2
      go_meet
      case rel=>exact ⟨_,(true),hB,H',⟨by have:=HJ6.out;have:=HK2.out;first|omega|exact Nat.le_refl _⟩,⟨bkA BK791⟩,⟨bkA BK792⟩,⟨bkA BK813⟩,⟨bkA BK814⟩,⟨bkA BK815⟩,⟨bkA BK828⟩,⟨bkA BK833⟩,⟨blA⟩⟩
    ·
     rw [if_neg c105] at H
     have c105b0:(t820 == t822)=false:=beq_eq_false_iff_ne.mpr c105
     have c105b1:(t820 != t822)=true:=bne_iff_ne.mpr c105
     have H':=Aside0.mk H
     clear H
     go_wp2
     go_meet
     case rel=>exact ⟨_,(true),hB,H',⟨by have:=HJ6.out;have:=HK2.out;first|omega|exact Nat.le_refl _⟩,⟨bkA BK791⟩,⟨bkA BK792⟩,⟨bkA BK813⟩,⟨bkA BK814⟩,⟨bkA BK815⟩,⟨bkA BK828⟩,⟨bkA BK833⟩,⟨blA⟩⟩
   ·
    rw [if_neg c104] at H
    have c104b0:(t821 == t823)=false:=beq_eq_false_iff_ne.mpr c104
    have c104b1:(t821 != t823)=true:=bne_iff_ne.mpr c104
    have H':=Aside0.mk H
    clear H
    go_wp2
    go_meet
    case rel=>exact ⟨_,(true),hB,H',⟨by have:=HJ6.out;have:=HK2.out;first|omega|exact Nat.le_refl _⟩,⟨bkA BK791⟩,⟨bkA BK792⟩,⟨bkA BK813⟩,⟨bkA BK814⟩,⟨bkA BK815⟩,⟨bkA BK828⟩,⟨bkA BK833⟩,⟨blA⟩⟩
  ·
   rw [if_neg c103] at H
   have c103b0:(t816 == t818)=false:=beq_eq_false_iff_ne.mpr c103
   have c103b1:(t816 != t818)=true:=bne_iff_ne.mpr c103
   have H':=Aside0.mk H
   clear H
   go_wp2
   go_meet
   case rel=>exact ⟨_,(true),hB,H',⟨by have:=HJ6.out;have:=HK2.out;first|omega|exact Nat.le_refl _⟩,⟨bkA BK791⟩,⟨bkA BK792⟩,⟨bkA BK813⟩,⟨bkA BK814⟩,⟨bkA BK815⟩,⟨bkA BK828⟩,⟨bkA BK833⟩,⟨blA⟩⟩
 ·
  rw [if_neg c102] at H
  have c102b0:(t817 == t819)=false:=beq_eq_false_iff_ne.mpr c102
  have c102b1:(t817 != t819)=true:=bne_iff_ne.mpr c102
  (first|rw [c102b0]|(simp only [i64_w,i32_w];rw [c102b0])|skip)
  have H':=Aside0.mk H
  clear H
  go_wp2
  go_meet
  case rel=>exact ⟨_,(true),hB,H',⟨by have:=HJ6.out;have:=HK2.out;first|omega|exact Nat.le_refl _⟩,⟨bkA BK791⟩,⟨bkA BK792⟩,⟨bkA BK813⟩,⟨bkA BK814⟩,⟨bkA BK815⟩,⟨bkA BK828⟩,⟨bkA BK833⟩,⟨blA⟩⟩
set_option maxHeartbeats 100000000 in
set_option maxRecDepth 100000 in
noncomputable def laws_FnRays.cut3:PSigma fun P:Prop=>Aside0 P→(laws_FnRays.cut1.2.1):=by
 apply PSigma.mk
 ·
  intro hcutP
  conv=>whnf
  intro k A0 c0 l0 r w hu25 hu27 HR0 HC0 A2 t784 t785 t786 t787 t788 t789 t790 A4 t793 t796 A5 t797 t800 A6 _ gb791 GW791 GE791 gb792 GW792 GE792 NB791_792 NB792_791 hnb11 w17 v798 kj6 HJ6 _ _ _ x11_2 k2 HK2 t805 t806 t807 t808 t809 t810 t811 t812 A31 t816 t817 A32 t818 t819 A33 t820 t821 A34 t822 t823 A35 t824 t825 t826 t827 A36 t829 t830 t831 t832 A37 t834 t835 A38 t836 t837 A39 Ao41 co41 HO795 HO799 gb813 GW813 GE813 NB791_813 NB813_791 NB792_813 NB813_792 gb814 GW814 GE814 NB791_814 NB814_791 NB792_814 NB814_792 NB813_814 NB814_813 gb815 GW815 GE815 NB791_815 NB815_791 NB792_815 NB815_792 NB813_815 NB815_813 NB814_815 NB815_814 hnb46 hnb47 hnb48 hnb49 hnb51 hnb52 hnb53 hnb55 hnb56 gb828 GW828 GE828 NB791_828 NB828_791 NB792_828 NB828_792 NB813_828 NB828_813 NB814_828 NB828_814 NB815_828 NB828_815 hnb76 hnb77 hnb78 hnb79 hnb80 gb833 GW833 GE833 NB791_833 NB833_791 NB792_833 NB833_792 NB813_833 NB833_813 NB814_833 NB833_814 NB815_833 NB833_815 NB828_833 NB833_828 hnb87 hnb88 hnb89 hnb90 hnb91 hnb92 w101 HO_7 BK791 BK792 BK813 BK814 BK815 BK828 BK833 HB _ _ _ _ wc _ _ _ _ _ _ _ _ _ _ _ _ _ _ _ _ _ _ _ _ _ _ _ _ _ _ _ _ _ _ _ _ _ _ _ _ _ _ _ _ _ _ _ _ _ _ _ _ _ _ _ _ _ _ _ _ _ _ _ _ _ _ _ _ _ _ _ _ _ _ _ _ _ _ _ _ _ _ _ _ _ _ _ _ _ _ _ _ _ _ _ _ _ _ _ _ _ _ _ _ _ _ _ _ _ _ _ _ _ _ _ _ _ _ _ _ _ _ _ _ _ _ _ _ _ _ _ _ _ _ _ _ _ _ _ _ _ _ _ _ _ _ _ _ _ _ _ _ _ _ _ _ _ _ _ _ _ _ _ _ _ _ _ _ _ _ _ _ _ _ _ _ _ _ _ _ _ _ _ _ _ _ _ _ _ _ _ _ _ _ _ _ _ _ _ _ _ _ _ _ _ _ _ _ _ _ _ _ _ _ _ _ _ _ _ _ _ _ _ _ _ _ _ _ _ _ _ _ _ _ _ _ _ _ _ _ _ _ _ _ _ _ _ _ _ _ _ _ _ _ _ _ _ _ hcut
  obtain ⟨kq,x212_39,rfl,HA,HJ39,BK791,BK792,BK813,BK814,BK815,BK828,BK833,HB⟩:=hcut
  cases kq with
  | zero=>exact absurd HA.out (by simp [laws_FnRays.j2])
  | succ kj39=>
   have H:=HA.out
   clear HA
   simp only [laws_FnRays.j2] at H
   by_cases c148:x212_39=true
   ·
    subst c148
    rw [if_pos rfl] at H
    try dsimp only at H
    exact absurd H (by simp)
   replace c148:=Bool.eq_false_iff.mpr c148
   subst c148
   rw [if_neg (show ¬ (false=true) by decide)] at H
   try dsimp only at H
   by_cases c149:t817=0
   ·
    rw [if_pos c149] at H
    have c149b0:(t817 == 0)=true:=beq_iff_eq.mpr c149
    have c149b1:(t817 != 0)=false:=bne_eq_false_iff_eq.mpr c149
    clear c149
    replace H:=bS H
    obtain ⟨⟨t838,t839⟩,A150,H⟩:=H
    try dsimp only at H
    have HC151:=Aside0.mk H
    clear H
    try clear hnb11
    try clear hnb46 hnb47 hnb48 hnb49 hnb51 hnb52 hnb53 hnb55 hnb56
    try clear hnb76 hnb77 hnb78 hnb79 hnb80
    try clear hnb87 hnb88 hnb89 hnb90 hnb91 hnb92
    have hnb152:=NB813_791.out
    have hnb153:=NB813_792.out
    have hnb154:=NB813_814.out
    have hnb155:=NB813_815.out
    have hnb156:=NB813_828.out
    have hnb157:=NB813_833.out
    obtain ⟨hcz158_0,hcz158_1,hcz158_2,hfz158_0,hfz158_1,hfz158_2⟩:=cz3 BK813
    try clear hnb152 hnb153 hnb154 hnb155 hnb156 hnb157
    have hnb159:=NB815_791.out
    have hnb160:=NB815_792.out
    have hnb161:=NB815_814.out
    have hnb162:=NB815_828.out
    have hnb163:=NB815_833.out
    obtain ⟨hcz164_0,hcz164_1,hfz164_0,hfz164_1⟩:=cz2 BK815
    try clear hnb159 hnb160 hnb161 hnb162 hnb163
    have hnb165:=NB814_791.out
    have hnb166:=NB814_792.out
    have hnb167:=NB814_828.out
    have hnb168:=NB814_833.out
    obtain ⟨hcz169_0,hcz169_1,hfz169_0,hfz169_1⟩:=cz2 BK814
    go_upto_region 27 with (first|((with_reducible refine gd 220 rfl ?_);refine gC (some 220) rfl Try.func11 (impl_CommonSteps.calls (w:=_) (h:=A150.out)) ?_;intro w170 hb;have n0_:=kB BK791 hb;have n1_:=kB BK792 hb;have n2_:=kB BK813 hb;have n3_:=kB BK814 hb;have n4_:=kB BK815 hb;have n5_:=kB BK828 hb;have n6_:=kB BK833 hb;have n7_:=lB hb;clear BK791;clear BK792;clear BK813;clear BK814;clear BK815;clear BK828;clear BK833;clear HB;have BK791:=n0_;have BK792:=n1_;have BK813:=n2_;have BK814:=n3_;have BK815:=n4_;have BK828:=n5_;have BK833:=n6_;have HB:=n7_;clear n0_ n1_ n2_ n3_ n4_ n5_ n6_ n7_;clear hb))
    (try simp only [Act.put,List.setIfInBounds_toArray,List.set_cons_zero,List.set_cons_succ])
    go_cut [240] (fun v240 wc=>∃ (kq:Nat) (x240_150:Bool),v240=.bool x240_150∧Aside0 (laws_FnRays.j3 kq l0 t805 t816 t827 x240_150 t806 t807 t808 t809 t810 t811 t812 t824 t825 t826=some r)∧Aside0 (kq≤kj39)∧Aside0 (wc.heap[gb791]?=some (.cells #[.int .i64 t785,.int .i64 t786,.int .i64 t787] 25 (0,0)))∧Aside0 (wc.heap[gb792]?=some (.cells #[.int .i64 t788,.int .i64 t789] 27 (0,0)))∧Aside0 (wc.heap[gb813]?=some (.cells #[.int .i64 t806,.int .i64 t807,.int .i64 t808] 25 (0,0)))∧Aside0 (wc.heap[gb814]?=some (.cells #[.int .i64 t809,.int .i64 t810] 27 (0,0)))∧Aside0 (wc.heap[gb815]?=some (.cells #[.int .i64 t811,.int .i64 t812] 27 (0,0)))∧Aside0 (wc.heap[gb828]?=some (.cells #[.int .i64 t824,.int .i64 t825,.int .i64 t826] 25 (0,0)))∧Aside0 (wc.heap[gb833]?=some (.cells #[.int .i64 t829,.int .i64 t830,.int .i64 t831] 25 (0,0)))∧Aside0 (Below w.heap.size w wc))
    case first=>
     have H:=HC151.out
     clear HC151
     by_cases c171:t839=0
     ·
      rw [if_pos c171] at H
      have c171b0:(t839 == 0)=true:=beq_iff_eq.mpr c171
      have c171b1:(t839 != 0)=false:=bne_eq_false_iff_eq.mpr c171
      clear c171
      (first|rw [c171b0]|(simp only [i64_w,i32_w];rw [c171b0])|skip)
      by_cases c172:t816=t820
      ·
       rw [if_pos c172] at H
       have c172b0:(t816 == t820)=true:=beq_iff_eq.mpr c172
       have c172b1:(t816 != t820)=false:=bne_eq_false_iff_eq.mpr c172
       clear c172
       by_cases c173:t838=t816
       ·
        rw [if_pos c173] at H
        have c173b0:(t838 == t816)=true:=beq_iff_eq.mpr c173
        have c173b1:(t838 != t816)=false:=bne_eq_false_iff_eq.mpr c173
        clear c173
        have H':=Aside0.mk H
        clear H
        go_wp2
        go_meet
        case rel=>exact ⟨_,((t834 != (t816 == 0))),hB,H',⟨by have:=HJ6.out;have:=HK2.out;have:=HJ39.out;first|omega|exact Nat.le_refl _⟩,⟨bkA BK791⟩,⟨bkA BK792⟩,⟨bkA BK813⟩,⟨bkA BK814⟩,⟨bkA BK815⟩,⟨bkA BK828⟩,⟨bkA BK833⟩,⟨blA⟩⟩
       ·
        rw [if_neg c173] at H
        have c173b0:(t838 == t816)=false:=beq_eq_false_iff_ne.mpr c173
        have c173b1:(t838 != t816)=true:=bne_iff_ne.mpr c173
        have H':=Aside0.mk H
        clear H
        go_wp2
        go_meet
        case rel=>exact ⟨_,(true),hB,H',⟨by have:=HJ6.out;have:=HK2.out;have:=HJ39.out;first|omega|exact Nat.le_refl _⟩,⟨bkA BK791⟩,⟨bkA BK792⟩,⟨bkA BK813⟩,⟨bkA BK814⟩,⟨bkA BK815⟩,⟨bkA BK828⟩,⟨bkA BK833⟩,⟨blA⟩⟩
      ·
       rw [if_neg c172] at H
       have c172b0:(t816 == t820)=false:=beq_eq_false_iff_ne.mpr c172
       have c172b1:(t816 != t820)=true:=bne_iff_ne.mpr c172
       have H':=Aside0.mk H
       clear H
       go_wp2
       go_meet
       case rel=>exact ⟨_,(true),hB,H',⟨by have:=HJ6.out;have:=HK2.out;have:=HJ39.out;first|omega|exact Nat.le_refl _⟩,⟨bkA BK791⟩,⟨bkA BK792⟩,⟨bkA BK813⟩,⟨bkA BK814⟩,⟨bkA BK815⟩,⟨bkA BK828⟩,⟨bkA BK833⟩,⟨blA⟩⟩
     ·
      rw [if_neg c171] at H
      have c171b0:(t839 == 0)=false:=beq_eq_false_iff_ne.mpr c171
      have c171b1:(t839 != 0)=true:=bne_iff_ne.mpr c171
      (first|rw [c171b0]|(simp only [i64_w,i32_w];rw [c171b0])|skip)
      have H':=Aside0.mk H
      clear H
      go_wp2
      go_meet
      case rel=>exact ⟨_,(true),hB,H',⟨by have:=HJ6.out;have:=HK2.out;have:=HJ39.out;first|omega|exact Nat.le_refl _⟩,⟨bkA BK791⟩,⟨bkA BK792⟩,⟨bkA BK813⟩,⟨bkA BK814⟩,⟨bkA BK815⟩,⟨bkA BK828⟩,⟨bkA BK833⟩,⟨blA⟩⟩
    case rest=>
     clear HC151
     try clear c3
     try clear c18
     try clear c18b0
     try clear c18b1
     try clear c22
     try clear c23
     try clear c23b0
     try clear c24
     try clear c24b0
     try clear c26
     try clear c26b0
     try clear c26b1
     try clear c27
     try clear c27b0
     try clear c27b1
     try clear c102
     try clear c102b0
     try clear c102b1
     try clear c103
     try clear c103b0
     try clear c103b1
     try clear c104
     try clear c104b0
     try clear c104b1
     try clear c105
     try clear c105b0
     try clear c105b1
     try clear c106
     try clear c106b0
     try clear c106b1
     try clear c107
     try clear c107b0
     try clear c121
     try clear c121b0
     try clear c121b1
     try clear c148
     try clear c149
     try clear c149b0
     try clear c149b1
     try clear c171
     try clear c171b0
     try clear c171b1
     try clear c172
     try clear c172b0
     try clear c172b1
     try clear c173
     try clear c173b0
     try clear c173b1
     try clear hcz100_0
     try clear hcz100_1
     try clear hcz114_0
     try clear hcz114_1
     try clear hcz114_2
     try clear hcz120_0
     try clear hcz120_1
     try clear hcz120_2
     try clear hcz128_0
     try clear hcz128_1
     try clear hcz128_2
     try clear hcz12_0
     try clear hcz12_1
     try clear hcz12_2
     try clear hcz134_0
     try clear hcz134_1
     try clear hcz134_2
     try clear hcz13_0
     try clear hcz13_1
     try clear hcz141_0
     try clear hcz141_1
     try clear hcz141_2
     try clear hcz147_0
     try clear hcz147_1
     try clear hcz147_2
     try clear hcz158_0
     try clear hcz158_1
     try clear hcz158_2
     try clear hcz15_0
     try clear hcz15_1
     try clear hcz15_2
     try clear hcz164_0
     try clear hcz164_1
     try clear hcz169_0
     try clear hcz169_1
     try clear hcz16_0
     try clear hcz16_1
     try clear hcz50_0
     try clear hcz50_1
     try clear hcz50_2
     try clear hcz54_0
     try clear hcz54_1
     try clear hcz57_0
     try clear hcz57_1
     try clear hcz59_0
     try clear hcz59_1
     try clear hcz59_2
     try clear hcz60_0
     try clear hcz60_1
     try clear hcz61_0
     try clear hcz61_1
     try clear hcz63_0
     try clear hcz63_1
     try clear hcz63_2
     try clear hcz64_0
     try clear hcz64_1
     try clear hcz65_0
     try clear hcz65_1
     try clear hcz67_0
     try clear hcz67_1
     try clear hcz67_2
     try clear hcz68_0
     try clear hcz68_1
     try clear hcz69_0
     try clear hcz69_1
     try clear hcz71_0
     try clear hcz71_1
     try clear hcz71_2
     try clear hcz72_0
     try clear hcz72_1
     try clear hcz73_0
     try clear hcz73_1
     try clear hcz81_0
     try clear hcz81_1
     try clear hcz81_2
     try clear hcz82_0
     try clear hcz82_1
     try clear hcz82_2
     try clear hcz83_0
     try clear hcz83_1
     try clear hcz84_0
     try clear hcz84_1
     try clear hcz93_0
     try clear hcz93_1
     try clear hcz93_2
     try clear hcz94_0
     try clear hcz94_1
     try clear hcz94_2
     try clear hcz95_0
     try clear hcz95_1
     try clear hcz96_0
     try clear hcz96_1
     try clear hcz98_0
     try clear hcz98_1
     try clear hcz98_2
     try clear hcz99_0
     try clear hcz99_1
     try clear hfz100_0
     try clear hfz100_1
     try clear hfz114_0
     try clear hfz114_1
     try clear hfz114_2
     try clear hfz120_0
     try clear hfz120_1
     try clear hfz120_2
     try clear hfz128_0
     try clear hfz128_1
     try clear hfz128_2
     try clear hfz12_0
     try clear hfz12_1
     try clear hfz12_2
     try clear hfz134_0
     try clear hfz134_1
     try clear hfz134_2
     try clear hfz13_0
     try clear hfz13_1
     try clear hfz141_0
     try clear hfz141_1
     try clear hfz141_2
     try clear hfz147_0
     try clear hfz147_1
     try clear hfz147_2
     try clear hfz158_0
     try clear hfz158_1
     try clear hfz158_2
     try clear hfz15_0
     try clear hfz15_1
     try clear hfz15_2
     try clear hfz164_0
     try clear hfz164_1
     try clear hfz169_0
     try clear hfz169_1
     try clear hfz16_0
     try clear hfz16_1
     try clear hfz50_0
     try clear hfz50_1
     try clear hfz50_2
     try clear hfz54_0
     try clear hfz54_1
     try clear hfz57_0
     try clear hfz57_1
     try clear hfz59_0
     try clear hfz59_1
     try clear hfz59_2
     try clear hfz60_0
     try clear hfz60_1
     try clear hfz61_0
     try clear hfz61_1
     try clear hfz63_0
     try clear hfz63_1
     try clear hfz63_2
     try clear hfz64_0
     try clear hfz64_1
     try clear hfz65_0
     try clear hfz65_1
     try clear hfz67_0
     try clear hfz67_1
     try clear hfz67_2
     try clear hfz68_0
     try clear hfz68_1
     try clear hfz69_0
     try clear hfz69_1
     try clear hfz71_0
     try clear hfz71_1
     try clear hfz71_2
     try clear hfz72_0
     try clear hfz72_1
     try clear hfz73_0
     try clear hfz73_1
     try clear hfz81_0
     try clear hfz81_1
     try clear hfz81_2
     try clear hfz82_0
     try clear hfz82_1
     try clear hfz82_2
     try clear hfz83_0
     try clear hfz83_1
     try clear hfz84_0
     try clear hfz84_1
     try clear hfz93_0
     try clear hfz93_1
     try clear hfz93_2
     try clear hfz94_0
     try clear hfz94_1
     try clear hfz94_2
     try clear hfz95_0
     try clear hfz95_1
     try clear hfz96_0
     try clear hfz96_1
     try clear hfz98_0
     try clear hfz98_1
     try clear hfz98_2
     try clear hfz99_0
     try clear hfz99_1
     try clear hx802_0
     try clear hx802_1
     try clear hx802_2
     try clear p802
     try clear q802
     expose_names
     clear BK791_1 BK792_1 BK813_1 BK814_1 BK815_1 BK828_1 BK833_1 HB_1
     revert k A0 c0 l0 r w hu25 hu27 t784 t785 t786 t787 t788 t789 t790 t793 t796 t797 t800 gb791 gb792 w17 v798 kj6 u2 u12 u13 x11_2 k2 t805 t806 t807 t808 t809 t810 t811 t812 t816 t817 t818 t819 t820 t821 t822 t823 t824 t825 t826 t827 t829 t830 t831 t832 t834 t835 t836 t837 Ao41 co41 gb813 gb814 gb815 gb828 gb833 w101 kj39 t838 t839 K w170 K_1 K_2 wc u47 u48 u49 u50 u51 u52 u53 u54 u55 u56 u57 u58 u59 u60 u61 u62 u63 u64 u65 u66 u67 u68 u69 u70 u71 u72 u73 u74 u75 u76 u77 u78 u79 u80 u81 u82 u83 u84 u85 u86 u87 u88 u89 u90 u91 u92 u93 u94 u95 u96 u97 u98 u99 u100 u101 u102 u103 u104 u105 u106 u107 u108 u109 u110 u111 u112 u113 u114 u115 u116 u117 u118 u119 u120 u121 u122 u123 u124 u125 u126 u127 u128 u129 u130 u131 u132 u133 u134 u135 u136 u137 u138 u139 u140 u141 u142 u143 u144 u145 u146 u147 u148 u149 u150 u151 u152 u153 u154 u155 u156 u157 u158 u159 u160 u161 u162 u163 u164 u165 u166 u167 u168 u169 u170 u171 u172 u173 u174 u175 u176 u177 u178 u179 u180 u181 u182 u183 u184 u185 u186 u187 u188 u189 u190 u191 u192 u193 u194 u195 u196 u197 u198 u199 u200 u201 u202 u203 u204 u205 u206 u207 u208 u209 u210 u211 u212 u213 u214 u215 u216 u217 u218 u219 u220 u221 u222 u223 u224 u225 u226 u227 u228 u229 u230 u231 u232 u233 u234 u235 u236 u237 u238 u239 u240 u241 u242 u243 u244 u245 u246 u247 u248 u249 u250 u251 u252 u253 u254 u255 u256 u257 u258 u259 u260 u261 u262 u263 u264 u265 u266 u267 u268 u269 u270 u271 u272 u273 u274 u275 u276 u277 u278 u279 u280 u281 u282 u283 u284 u285 u286 u287 u288 u289 u290 u291 u292 u293 u294 u295 u296 u297 u298 u299 u300
     exact hcutP.out
   ·
    rw [if_neg c149] at H
    have c149b0:(t817 == 0)=false:=beq_eq_false_iff_ne.mpr c149
    have c149b1:(t817 != 0)=true:=bne_iff_ne.mpr c149
    replace H:=bS H
    obtain ⟨⟨t868,t869,t870,t871,t872,t873⟩,A312,H⟩:=H
    try dsimp only at H
    replace H:=bS H
    obtain ⟨⟨t876,t877⟩,A313,H⟩:=H
    try dsimp only at H
    replace H:=bS H
    obtain ⟨⟨t878,t879⟩,A314,H⟩:=H
    try dsimp only at H
    by_cases c315:t877=t879
    focus
     rw [if_pos c315] at H
     have c315b0:(t877 == t879)=true:=beq_iff_eq.mpr c315
     have c315b1:(t877 != t879)=false:=bne_eq_false_iff_eq.mpr c315
     clear c315
     obtain rfl:=Option.some.inj H
    rotate_left
    focus
     rw [if_neg c315] at H
     have c315b0:(t877 == t879)=false:=beq_eq_false_iff_ne.mpr c315
     have c315b1:(t877 != t879)=true:=bne_iff_ne.mpr c315
     obtain rfl:=Option.some.inj H
    rotate_left
    all_goals
     go_wp2_with (first|((with_reducible refine gd 275 rfl ?_);refine gC (some 275) rfl Try.func19 (spec_DrawBranchOf.calls (w:=_) (hr0:=cR (Kd.C_below HR0.out HB.out)) (hc0:=HC0.out) (h:=A312.out)) ?_;intro w316 hb;have n0_:=kB BK791 hb;have n1_:=kB BK792 hb;have n2_:=kB BK813 hb;have n3_:=kB BK814 hb;have n4_:=kB BK815 hb;have n5_:=kB BK828 hb;have n6_:=kB BK833 hb;have n7_:=lB hb;clear BK791;clear BK792;clear BK813;clear BK814;clear BK815;clear BK828;clear BK833;clear HB;have BK791:=n0_;have BK792:=n1_;have BK813:=n2_;have BK814:=n3_;have BK815:=n4_;have BK828:=n5_;have BK833:=n6_;have HB:=n7_;clear n0_ n1_ n2_ n3_ n4_ n5_ n6_ n7_;clear hb)|((with_reducible refine gate_dst (N:=41) rfl ?_);refine bxE (cs:=#[.int .i64 0,.int .i64 0,.int .i64 0]) (t:=25) ?_;intro gb874 hg w317 hbox hb;have n0_:=kB BK791 hb;have n1_:=kB BK792 hb;have n2_:=kB BK813 hb;have n3_:=kB BK814 hb;have n4_:=kB BK815 hb;have n5_:=kB BK828 hb;have n6_:=kB BK833 hb;have n7_:=lB hb;have n8_:=Aside0.mk hbox;have n9_:=sA hg;have n10_:=sA hg;have n11_:=nA hg BK791;have n12_:=nB hg BK791;have n13_:=nA hg BK792;have n14_:=nB hg BK792;have n15_:=nA hg BK813;have n16_:=nB hg BK813;have n17_:=nA hg BK814;have n18_:=nB hg BK814;have n19_:=nA hg BK815;have n20_:=nB hg BK815;have n21_:=nA hg BK828;have n22_:=nB hg BK828;have n23_:=nA hg BK833;have n24_:=nB hg BK833;clear BK791;clear BK792;clear BK813;clear BK814;clear BK815;clear BK828;clear BK833;clear HB;have BK791:=n0_;have BK792:=n1_;have BK813:=n2_;have BK814:=n3_;have BK815:=n4_;have BK828:=n5_;have BK833:=n6_;have HB:=n7_;have BK874:=n8_;have GW874:=n9_;have GE874:=n10_;have NB791_874:=n11_;have NB874_791:=n12_;have NB792_874:=n13_;have NB874_792:=n14_;have NB813_874:=n15_;have NB874_813:=n16_;have NB814_874:=n17_;have NB874_814:=n18_;have NB815_874:=n19_;have NB874_815:=n20_;have NB828_874:=n21_;have NB874_828:=n22_;have NB833_874:=n23_;have NB874_833:=n24_;clear n0_ n1_ n2_ n3_ n4_ n5_ n6_ n7_ n8_ n9_ n10_ n11_ n12_ n13_ n14_ n15_ n16_ n17_ n18_ n19_ n20_ n21_ n22_ n23_ n24_;clear hb hbox hg)|((with_reducible refine gate_dst (N:=42) rfl ?_);refine bxE (cs:=#[.int .i64 0,.int .i64 0]) (t:=27) ?_;intro gb875 hg w318 hbox hb;have n0_:=kB BK791 hb;have n1_:=kB BK792 hb;have n2_:=kB BK813 hb;have n3_:=kB BK814 hb;have n4_:=kB BK815 hb;have n5_:=kB BK828 hb;have n6_:=kB BK833 hb;have n7_:=kB BK874 hb;have n8_:=lB hb;have n9_:=Aside0.mk hbox;have n10_:=sA hg;have n11_:=sA hg;have n12_:=nA hg BK791;have n13_:=nB hg BK791;have n14_:=nA hg BK792;have n15_:=nB hg BK792;have n16_:=nA hg BK813;have n17_:=nB hg BK813;have n18_:=nA hg BK814;have n19_:=nB hg BK814;have n20_:=nA hg BK815;have n21_:=nB hg BK815;have n22_:=nA hg BK828;have n23_:=nB hg BK828;have n24_:=nA hg BK833;have n25_:=nB hg BK833;have n26_:=nA hg BK874;have n27_:=nB hg BK874;clear BK791;clear BK792;clear BK813;clear BK814;clear BK815;clear BK828;clear BK833;clear BK874;clear HB;have BK791:=n0_;have BK792:=n1_;have BK813:=n2_;have BK814:=n3_;have BK815:=n4_;have BK828:=n5_;have BK833:=n6_;have BK874:=n7_;have HB:=n8_;have BK875:=n9_;have GW875:=n10_;have GE875:=n11_;have NB791_875:=n12_;have NB875_791:=n13_;have NB792_875:=n14_;have NB875_792:=n15_;have NB813_875:=n16_;have NB875_813:=n17_;have NB814_875:=n18_;have NB875_814:=n19_;have NB815_875:=n20_;have NB875_815:=n21_;have NB828_875:=n22_;have NB875_828:=n23_;have NB833_875:=n24_;have NB875_833:=n25_;have NB874_875:=n26_;have NB875_874:=n27_;clear n0_ n1_ n2_ n3_ n4_ n5_ n6_ n7_ n8_ n9_ n10_ n11_ n12_ n13_ n14_ n15_ n16_ n17_ n18_ n19_ n20_ n21_ n22_ n23_ n24_ n25_ n26_ n27_;clear hb hbox hg;have hnb319:=NB874_791.out;have hnb320:=NB874_792.out;have hnb321:=NB874_813.out;have hnb322:=NB874_814.out;have hnb323:=NB874_815.out;have hnb324:=NB874_828.out;have hnb325:=NB874_833.out;have hnb326:=NB874_875.out;obtain ⟨hcz327_0,hcz327_1,hcz327_2,hfz327_0,hfz327_1,hfz327_2⟩:=cz3 BK874;have hnb328:=NB875_791.out;have hnb329:=NB875_792.out;have hnb330:=NB875_813.out;have hnb331:=NB875_814.out;have hnb332:=NB875_815.out;have hnb333:=NB875_828.out;have hnb334:=NB875_833.out;obtain ⟨hcz335_0,hcz335_1,hfz335_0,hfz335_1⟩:=cz2 BK875)|((with_reducible refine gd 283 rfl ?_);refine gC (some 283) rfl Try.func20 (impl_BranchOf.calls (w:=_) (h:=A313.out)) ?_;intro w336 hb;have n0_:=Aside0.mk (blk_below (g:=gb791) (o:=.cells #[.int .i64 t785,.int .i64 t786,.int .i64 t787] 25 (0,0)) (bkF BK791) hb);have n1_:=Aside0.mk (blk_below (g:=gb792) (o:=.cells #[.int .i64 t788,.int .i64 t789] 27 (0,0)) (bkF BK792) hb);have n2_:=Aside0.mk (blk_below (g:=gb813) (o:=.cells #[.int .i64 t806,.int .i64 t807,.int .i64 t808] 25 (0,0)) (bkF BK813) hb);have n3_:=Aside0.mk (blk_below (g:=gb814) (o:=.cells #[.int .i64 t809,.int .i64 t810] 27 (0,0)) (bkF BK814) hb);have n4_:=Aside0.mk (blk_below (g:=gb815) (o:=.cells #[.int .i64 t811,.int .i64 t812] 27 (0,0)) (bkF BK815) hb);have n5_:=Aside0.mk (blk_below (g:=gb828) (o:=.cells #[.int .i64 t824,.int .i64 t825,.int .i64 t826] 25 (0,0)) (bkF BK828) hb);have n6_:=Aside0.mk (blk_below (g:=gb833) (o:=.cells #[.int .i64 t829,.int .i64 t830,.int .i64 t831] 25 (0,0)) (bkF BK833) hb);have n7_:=Aside0.mk (blk_below (g:=gb874) (o:=.cells #[.int .i64 t869,.int .i64 t870,.int .i64 t871] 25 (0,0)) (bpA BK874) hb);have n8_:=Aside0.mk (blk_below (g:=gb875) (o:=.cells #[.int .i64 t872,.int .i64 t873] 27 (0,0)) (bpA BK875) hb);have n9_:=lB hb;clear BK791;clear BK792;clear BK813;clear BK814;clear BK815;clear BK828;clear BK833;clear BK874;clear BK875;clear HB;have BK791:=n0_;have BK792:=n1_;have BK813:=n2_;have BK814:=n3_;have BK815:=n4_;have BK828:=n5_;have BK833:=n6_;have BK874:=n7_;have BK875:=n8_;have HB:=n9_;clear n0_ n1_ n2_ n3_ n4_ n5_ n6_ n7_ n8_ n9_;clear hb;obtain ⟨hcz337_0,hcz337_1,hcz337_2,hfz337_0,hfz337_1,hfz337_2⟩:=cz3 BK874;obtain ⟨hcz338_0,hcz338_1,hfz338_0,hfz338_1⟩:=cz2 BK875)|((with_reducible refine gd 290 rfl ?_);refine gC (some 290) rfl Try.func21 (spec_BranchOf.calls (w:=_) (h:=A314.out)) ?_;intro w339 hb;have n0_:=kB BK791 hb;have n1_:=kB BK792 hb;have n2_:=kB BK813 hb;have n3_:=kB BK814 hb;have n4_:=kB BK815 hb;have n5_:=kB BK828 hb;have n6_:=kB BK833 hb;have n7_:=kB BK874 hb;have n8_:=kB BK875 hb;have n9_:=lB hb;clear BK791;clear BK792;clear BK813;clear BK814;clear BK815;clear BK828;clear BK833;clear BK874;clear BK875;clear HB;have BK791:=n0_;have BK792:=n1_;have BK813:=n2_;have BK814:=n3_;have BK815:=n4_;have BK828:=n5_;have BK833:=n6_;have BK874:=n7_;have BK875:=n8_;have HB:=n9_;clear n0_ n1_ n2_ n3_ n4_ n5_ n6_ n7_ n8_ n9_;clear hb))
    ·
     go_ret
     exact finA blA
    ·
     go_ret
     exact finA blA
set_option maxHeartbeats 100000000 in
set_option maxRecDepth 100000 in
noncomputable def laws_FnRays.cut4:PSigma fun P:Prop=>Aside0 P→(laws_FnRays.cut3.1):=by
 apply PSigma.mk
 ·
  intro hcutP
  conv=>whnf
  intro k A0 c0 l0 r w hu25 hu27 HR0 HC0 A2 t784 t785 t786 t787 t788 t789 t790 A4 t793 t796 A5 t797 t800 A6 _ gb791 GW791 GE791 gb792 GW792 GE792 NB791_792 NB792_791 w17 v798 kj6 HJ6 _ _ _ x11_2 k2 HK2 t805 t806 t807 t808 t809 t810 t811 t812 A31 t816 t817 A32 t818 t819 A33 t820 t821 A34 t822 t823 A35 t824 t825 t826 t827 A36 t829 t830 t831 t832 A37 t834 t835 A38 t836 t837 A39 Ao41 co41 HO795 HO799 gb813 GW813 GE813 NB791_813 NB813_791 NB792_813 NB813_792 gb814 GW814 GE814 NB791_814 NB814_791 NB792_814 NB814_792 NB813_814 NB814_813 gb815 GW815 GE815 NB791_815 NB815_791 NB792_815 NB815_792 NB813_815 NB815_813 NB814_815 NB815_814 gb828 GW828 GE828 NB791_828 NB828_791 NB792_828 NB828_792 NB813_828 NB828_813 NB814_828 NB828_814 NB815_828 NB828_815 gb833 GW833 GE833 NB791_833 NB833_791 NB792_833 NB833_792 NB813_833 NB833_813 NB814_833 NB833_814 NB815_833 NB833_815 NB828_833 NB833_828 w101 HO_7 kj39 HJ39 t838 t839 A150 hnb165 hnb166 hnb167 hnb168 _ _ w170 BK791 BK792 BK813 BK814 BK815 BK828 BK833 HB _ _ _ _ wc _ _ _ _ _ _ _ _ _ _ _ _ _ _ _ _ _ _ _ _ _ _ _ _ _ _ _ _ _ _ _ _ _ _ _ _ _ _ _ _ _ _ _ _ _ _ _ _ _ _ _ _ _ _ _ _ _ _ _ _ _ _ _ _ _ _ _ _ _ _ _ _ _ _ _ _ _ _ _ _ _ _ _ _ _ _ _ _ _ _ _ _ _ _ _ _ _ _ _ _ _ _ _ _ _ _ _ _ _ _ _ _ _ _ _ _ _ _ _ _ _ _ _ _ _ _ _ _ _ _ _ _ _ _ _ _ _ _ _ _ _ _ _ _ _ _ _ _ _ _ _ _ _ _ _ _ _ _ _ _ _ _ _ _ _ _ _ _ _ _ _ _ _ _ _ _ _ _ _ _ _ _ _ _ _ _ _ _ _ _ _ _ _ _ _ _ _ _ _ _ _ _ _ _ _ _ _ _ _ _ _ _ _ _ _ _ _ _ _ _ _ _ _ _ _ _ _ _ _ _ _ _ _ _ _ _ _ _ _ _ _ _ _ _ _ _ _ _ _ _ _ _ _ _ hcut
  obtain ⟨kq,x240_150,rfl,HA,HJ150,BK791,BK792,BK813,BK814,BK815,BK828,BK833,HB⟩:=hcut
  cases kq with
  | zero=>exact absurd HA.out (by simp [laws_FnRays.j3])
  | succ kj150=>
   have H:=HA.out
   clear HA
   simp only [laws_FnRays.j3] at H
   by_cases c174:x240_150=true
   ·
    subst c174
    rw [if_pos rfl] at H
    try dsimp only at H
    exact absurd H (by simp)
   replace c174:=Bool.eq_false_iff.mpr c174
   subst c174
   rw [if_neg (show ¬ (false=true) by decide)] at H
   try dsimp only at H
   by_cases c175:t827=0
   ·
    rw [if_pos c175] at H
    have c175b0:(t827 == 0)=true:=beq_iff_eq.mpr c175
    have c175b1:(t827 != 0)=false:=bne_eq_false_iff_eq.mpr c175
    clear c175
    replace H:=bS H
    obtain ⟨⟨t840,t841⟩,A176,H⟩:=H
    try dsimp only at H
    replace H:=bS H
    obtain ⟨⟨t842,t843⟩,A177,H⟩:=H
    try dsimp only at H
    have HC178:=Aside0.mk H
    clear H
    try clear hnb165 hnb166 hnb167 hnb168
    have hnb179:=NB813_791.out
    have hnb180:=NB813_792.out
    have hnb181:=NB813_814.out
    have hnb182:=NB813_815.out
    have hnb183:=NB813_828.out
    have hnb184:=NB813_833.out
    obtain ⟨hcz185_0,hcz185_1,hcz185_2,hfz185_0,hfz185_1,hfz185_2⟩:=cz3 BK813
    try clear hnb179 hnb180 hnb181 hnb182 hnb183 hnb184
    have hnb186:=NB828_791.out
    have hnb187:=NB828_792.out
    have hnb188:=NB828_814.out
    have hnb189:=NB828_815.out
    have hnb190:=NB828_833.out
    obtain ⟨hcz191_0,hcz191_1,hcz191_2,hfz191_0,hfz191_1,hfz191_2⟩:=cz3 BK828
    go_upto_region 32 with (first|((with_reducible refine gd 247 rfl ?_);refine gC (some 247) rfl Try.func9 (impl_TreeDistance.calls (w:=_) (h:=A176.out)) ?_;intro w192 hb;have n0_:=kB BK791 hb;have n1_:=kB BK792 hb;have n2_:=kB BK813 hb;have n3_:=kB BK814 hb;have n4_:=kB BK815 hb;have n5_:=kB BK828 hb;have n6_:=kB BK833 hb;have n7_:=lB hb;clear BK791;clear BK792;clear BK813;clear BK814;clear BK815;clear BK828;clear BK833;clear HB;have BK791:=n0_;have BK792:=n1_;have BK813:=n2_;have BK814:=n3_;have BK815:=n4_;have BK828:=n5_;have BK833:=n6_;have HB:=n7_;clear n0_ n1_ n2_ n3_ n4_ n5_ n6_ n7_;clear hb;obtain ⟨hcz193_0,hcz193_1,hcz193_2,hfz193_0,hfz193_1,hfz193_2⟩:=cz3 BK828;have hnb194:=NB814_791.out;have hnb195:=NB814_792.out;have hnb196:=NB814_815.out;have hnb197:=NB814_833.out;obtain ⟨hcz198_0,hcz198_1,hfz198_0,hfz198_1⟩:=cz2 BK814;have hnb199:=NB815_791.out;have hnb200:=NB815_792.out;have hnb201:=NB815_833.out;obtain ⟨hcz202_0,hcz202_1,hfz202_0,hfz202_1⟩:=cz2 BK815)|((with_reducible refine gd 255 rfl ?_);refine gC (some 255) rfl Try.func17 (impl_IsOnLine.calls (w:=_) (h:=A177.out)) ?_;intro w203 hb;have n0_:=kB BK791 hb;have n1_:=kB BK792 hb;have n2_:=kB BK813 hb;have n3_:=kB BK814 hb;have n4_:=kB BK815 hb;have n5_:=kB BK828 hb;have n6_:=kB BK833 hb;have n7_:=lB hb;clear BK791;clear BK792;clear BK813;clear BK814;clear BK815;clear BK828;clear BK833;clear HB;have BK791:=n0_;have BK792:=n1_;have BK813:=n2_;have BK814:=n3_;have BK815:=n4_;have BK828:=n5_;have BK833:=n6_;have HB:=n7_;clear n0_ n1_ n2_ n3_ n4_ n5_ n6_ n7_;clear hb))
    (try simp only [Act.put,List.setIfInBounds_toArray,List.set_cons_zero,List.set_cons_succ])
    go_cut [272] (fun v272 wc=>∃ (kq:Nat) (x272_177:Bool),v272=.bool x272_177∧Aside0 (laws_FnRays.j4 kq l0 x272_177=some r)∧Aside0 (kq≤kj150)∧Aside0 (wc.heap[gb791]?=some (.cells #[.int .i64 t785,.int .i64 t786,.int .i64 t787] 25 (0,0)))∧Aside0 (wc.heap[gb792]?=some (.cells #[.int .i64 t788,.int .i64 t789] 27 (0,0)))∧Aside0 (wc.heap[gb813]?=some (.cells #[.int .i64 t806,.int .i64 t807,.int .i64 t808] 25 (0,0)))∧Aside0 (wc.heap[gb814]?=some (.cells #[.int .i64 t809,.int .i64 t810] 27 (0,0)))∧Aside0 (wc.heap[gb815]?=some (.cells #[.int .i64 t811,.int .i64 t812] 27 (0,0)))∧Aside0 (wc.heap[gb828]?=some (.cells #[.int .i64 t824,.int .i64 t825,.int .i64 t826] 25 (0,0)))∧Aside0 (wc.heap[gb833]?=some (.cells #[.int .i64 t829,.int .i64 t830,.int .i64 t831] 25 (0,0)))∧Aside0 (Below w.heap.size w wc))
    case first=>
     have H:=HC178.out
     clear HC178
     by_cases c204:t841=0
     ·
      rw [if_pos c204] at H
      have c204b0:(t841 == 0)=true:=beq_iff_eq.mpr c204
      have c204b1:(t841 != 0)=false:=bne_eq_false_iff_eq.mpr c204
      clear c204
      (first|rw [c204b0]|(simp only [i64_w,i32_w];rw [c204b0])|skip)
      by_cases c205:t843=0
      ·
       rw [if_pos c205] at H
       have c205b0:(t843 == 0)=true:=beq_iff_eq.mpr c205
       have c205b1:(t843 != 0)=false:=bne_eq_false_iff_eq.mpr c205
       clear c205
       by_cases c206:t840=t816
       ·
        rw [if_pos c206] at H
        have c206b0:(t840 == t816)=true:=beq_iff_eq.mpr c206
        have c206b1:(t840 != t816)=false:=bne_eq_false_iff_eq.mpr c206
        clear c206
        have H':=Aside0.mk H
        clear H
        go_wp2
        go_meet
        case rel=>exact ⟨_,(!t842),hB,H',⟨by have:=HJ6.out;have:=HK2.out;have:=HJ39.out;have:=HJ150.out;first|omega|exact Nat.le_refl _⟩,⟨bkA BK791⟩,⟨bkA BK792⟩,⟨bkA BK813⟩,⟨bkA BK814⟩,⟨bkA BK815⟩,⟨bkA BK828⟩,⟨bkA BK833⟩,⟨blA⟩⟩
       ·
        rw [if_neg c206] at H
        have c206b0:(t840 == t816)=false:=beq_eq_false_iff_ne.mpr c206
        have c206b1:(t840 != t816)=true:=bne_iff_ne.mpr c206
        have H':=Aside0.mk H
        clear H
        go_wp2
        go_meet
        case rel=>exact ⟨_,(true),hB,H',⟨by have:=HJ6.out;have:=HK2.out;have:=HJ39.out;have:=HJ150.out;first|omega|exact Nat.le_refl _⟩,⟨bkA BK791⟩,⟨bkA BK792⟩,⟨bkA BK813⟩,⟨bkA BK814⟩,⟨bkA BK815⟩,⟨bkA BK828⟩,⟨bkA BK833⟩,⟨blA⟩⟩
      ·
       rw [if_neg c205] at H
       have c205b0:(t843 == 0)=false:=beq_eq_false_iff_ne.mpr c205
       have c205b1:(t843 != 0)=true:=bne_iff_ne.mpr c205
       have H':=Aside0.mk H
       clear H
       go_wp2
       go_meet
       case rel=>exact ⟨_,(true),hB,H',⟨by have:=HJ6.out;have:=HK2.out;have:=HJ39.out;have:=HJ150.out;first|omega|exact Nat.le_refl _⟩,⟨bkA BK791⟩,⟨bkA BK792⟩,⟨bkA BK813⟩,⟨bkA BK814⟩,⟨bkA BK815⟩,⟨bkA BK828⟩,⟨bkA BK833⟩,⟨blA⟩⟩
     ·
      rw [if_neg c204] at H
      have c204b0:(t841 == 0)=false:=beq_eq_false_iff_ne.mpr c204
      have c204b1:(t841 != 0)=true:=bne_iff_ne.mpr c204
      (first|rw [c204b0]|(simp only [i64_w,i32_w];rw [c204b0])|skip)
      have H':=Aside0.mk H
      clear H
      go_wp2
      go_meet
      case rel=>exact ⟨_,(true),hB,H',⟨by have:=HJ6.out;have:=HK2.out;have:=HJ39.out;have:=HJ150.out;first|omega|exact Nat.le_refl _⟩,⟨bkA BK791⟩,⟨bkA BK792⟩,⟨bkA BK813⟩,⟨bkA BK814⟩,⟨bkA BK815⟩,⟨bkA BK828⟩,⟨bkA BK833⟩,⟨blA⟩⟩
    case rest=>
     clear HC178
     try clear c3
     try clear c18
     try clear c18b0
     try clear c18b1
     try clear c22
     try clear c23
     try clear c23b0
     try clear c24
     try clear c24b0
     try clear c26
     try clear c26b0
     try clear c26b1
     try clear c27
     try clear c27b0
     try clear c27b1
     try clear c102
     try clear c102b0
     try clear c102b1
     try clear c103
     try clear c103b0
     try clear c103b1
     try clear c104
     try clear c104b0
     try clear c104b1
     try clear c105
     try clear c105b0
     try clear c105b1
     try clear c106
     try clear c106b0
     try clear c106b1
     try clear c107
     try clear c107b0
     try clear c121
     try clear c121b0
     try clear c121b1
     try clear c148
     try clear c149
     try clear c149b0
     try clear c149b1
     try clear c171
     try clear c171b0
     try clear c171b1
     try clear c172
     try clear c172b0
     try clear c172b1
     try clear c173
     try clear c173b0
     try clear c173b1
     try clear c174
     try clear c175
     try clear c175b0
     try clear c175b1
     try clear c204
     try clear c204b0
     try clear c204b1
     try clear c205
     try clear c205b0
     try clear c205b1
     try clear c206
     try clear c206b0
     try clear c206b1
     try clear hcz100_0
     try clear hcz100_1
     try clear hcz114_0
     try clear hcz114_1
     try clear hcz114_2
     try clear hcz120_0
     try clear hcz120_1
     try clear hcz120_2
     try clear hcz128_0
     try clear hcz128_1
     try clear hcz128_2
     try clear hcz12_0
     try clear hcz12_1
     try clear hcz12_2
     try clear hcz134_0
     try clear hcz134_1
     try clear hcz134_2
     try clear hcz13_0
     try clear hcz13_1
     try clear hcz141_0
     try clear hcz141_1
     try clear hcz141_2
     try clear hcz147_0
     try clear hcz147_1
     try clear hcz147_2
     try clear hcz158_0
     try clear hcz158_1
     try clear hcz158_2
     try clear hcz15_0
     try clear hcz15_1
     try clear hcz15_2
     try clear hcz164_0
     try clear hcz164_1
     try clear hcz169_0
     try clear hcz169_1
     try clear hcz16_0
     try clear hcz16_1
     try clear hcz185_0
     try clear hcz185_1
     try clear hcz185_2
     try clear hcz191_0
     try clear hcz191_1
     try clear hcz191_2
     try clear hcz193_0
     try clear hcz193_1
     try clear hcz193_2
     try clear hcz198_0
     try clear hcz198_1
     try clear hcz202_0
     try clear hcz202_1
     try clear hcz50_0
     try clear hcz50_1
     try clear hcz50_2
     try clear hcz54_0
     try clear hcz54_1
     try clear hcz57_0
     try clear hcz57_1
     try clear hcz59_0
     try clear hcz59_1
     try clear hcz59_2
     try clear hcz60_0
     try clear hcz60_1
     try clear hcz61_0
     try clear hcz61_1
     try clear hcz63_0
     try clear hcz63_1
     try clear hcz63_2
     try clear hcz64_0
     try clear hcz64_1
     try clear hcz65_0
     try clear hcz65_1
     try clear hcz67_0
     try clear hcz67_1
     try clear hcz67_2
     try clear hcz68_0
     try clear hcz68_1
     try clear hcz69_0
     try clear hcz69_1
     try clear hcz71_0
     try clear hcz71_1
     try clear hcz71_2
     try clear hcz72_0
     try clear hcz72_1
     try clear hcz73_0
     try clear hcz73_1
     try clear hcz81_0
     try clear hcz81_1
     try clear hcz81_2
     try clear hcz82_0
     try clear hcz82_1
     try clear hcz82_2
     try clear hcz83_0
     try clear hcz83_1
     try clear hcz84_0
     try clear hcz84_1
     try clear hcz93_0
     try clear hcz93_1
     try clear hcz93_2
     try clear hcz94_0
     try clear hcz94_1
     try clear hcz94_2
     try clear hcz95_0
     try clear hcz95_1
     try clear hcz96_0
     try clear hcz96_1
     try clear hcz98_0
     try clear hcz98_1
     try clear hcz98_2
     try clear hcz99_0
     try clear hcz99_1
     try clear hfz100_0
     try clear hfz100_1
     try clear hfz114_0
     try clear hfz114_1
     try clear hfz114_2
     try clear hfz120_0
     try clear hfz120_1
     try clear hfz120_2
     try clear hfz128_0
     try clear hfz128_1
     try clear hfz128_2
     try clear hfz12_0
     try clear hfz12_1
     try clear hfz12_2
     try clear hfz134_0
     try clear hfz134_1
     try clear hfz134_2
     try clear hfz13_0
     try clear hfz13_1
     try clear hfz141_0
     try clear hfz141_1
     try clear hfz141_2
     try clear hfz147_0
     try clear hfz147_1
     try clear hfz147_2
     try clear hfz158_0
     try clear hfz158_1
     try clear hfz158_2
     try clear hfz15_0
     try clear hfz15_1
     try clear hfz15_2
     try clear hfz164_0
     try clear hfz164_1
     try clear hfz169_0
     try clear hfz169_1
     try clear hfz16_0
     try clear hfz16_1
     try clear hfz185_0
     try clear hfz185_1
     try clear hfz185_2
     try clear hfz191_0
     try clear hfz191_1
     try clear hfz191_2
     try clear hfz193_0
     try clear hfz193_1
     try clear hfz193_2
     try clear hfz198_0
     try clear hfz198_1
     try clear hfz202_0
     try clear hfz202_1
     try clear hfz50_0
     try clear hfz50_1
     try clear hfz50_2
     try clear hfz54_0
     try clear hfz54_1
     try clear hfz57_0
     try clear hfz57_1
     try clear hfz59_0
     try clear hfz59_1
     try clear hfz59_2
     try clear hfz60_0
     try clear hfz60_1
     try clear hfz61_0
     try clear hfz61_1
     try clear hfz63_0
     try clear hfz63_1
     try clear hfz63_2
     try clear hfz64_0
     try clear hfz64_1
     try clear hfz65_0
     try clear hfz65_1
     try clear hfz67_0
     try clear hfz67_1
     try clear hfz67_2
     try clear hfz68_0
     try clear hfz68_1
     try clear hfz69_0
     try clear hfz69_1
     try clear hfz71_0
     try clear hfz71_1
     try clear hfz71_2
     try clear hfz72_0
     try clear hfz72_1
     try clear hfz73_0
     try clear hfz73_1
     try clear hfz81_0
     try clear hfz81_1
     try clear hfz81_2
     try clear hfz82_0
     try clear hfz82_1
     try clear hfz82_2
     try clear hfz83_0
     try clear hfz83_1
     try clear hfz84_0
     try clear hfz84_1
     try clear hfz93_0
     try clear hfz93_1
     try clear hfz93_2
     try clear hfz94_0
     try clear hfz94_1
     try clear hfz94_2
     try clear hfz95_0
     try clear hfz95_1
     try clear hfz96_0
     try clear hfz96_1
     try clear hfz98_0
     try clear hfz98_1
     try clear hfz98_2
     try clear hfz99_0
     try clear hfz99_1
     try clear hx802_0
     try clear hx802_1
     try clear hx802_2
     try clear p802
     try clear q802
     expose_names
     clear BK791_1 BK792_1 BK813_1 BK814_1 BK815_1 BK828_1 BK833_1 HB_1
     revert k A0 c0 l0 r w hu25 hu27 t784 t785 t786 t787 t788 t789 t790 t793 t796 t797 t800 gb791 gb792 w17 v798 kj6 u2 u12 u13 x11_2 k2 t805 t806 t807 t808 t809 t810 t811 t812 t816 t817 t818 t819 t820 t821 t822 t823 t824 t825 t826 t827 t829 t830 t831 t832 t834 t835 t836 t837 Ao41 co41 gb813 gb814 gb815 gb828 gb833 w101 kj39 t838 t839 K kj150 t840 t841 t842 t843 w203 K_1 wc u47 u48 u49 u50 u51 u52 u53 u54 u55 u56 u57 u58 u59 u60 u61 u62 u63 u64 u65 u66 u67 u68 u69 u70 u71 u72 u73 u74 u75 u76 u77 u78 u79 u80 u81 u82 u83 u84 u85 u86 u87 u88 u89 u90 u91 u92 u93 u94 u95 u96 u97 u98 u99 u100 u101 u102 u103 u104 u105 u106 u107 u108 u109 u110 u111 u112 u113 u114 u115 u116 u117 u118 u119 u120 u121 u122 u123 u124 u125 u126 u127 u128 u129 u130 u131 u132 u133 u134 u135 u136 u137 u138 u139 u140 u141 u142 u143 u144 u145 u146 u147 u148 u149 u150 u151 u152 u153 u154 u155 u156 u157 u158 u159 u160 u161 u162 u163 u164 u165 u166 u167 u168 u169 u170 u171 u172 u173 u174 u175 u176 u177 u178 u179 u180 u181 u182 u183 u184 u185 u186 u187 u188 u189 u190 u191 u192 u193 u194 u195 u196 u197 u198 u199 u200 u201 u202 u203 u204 u205 u206 u207 u208 u209 u210 u211 u212 u213 u214 u215 u216 u217 u218 u219 u220 u221 u222 u223 u224 u225 u226 u227 u228 u229 u230 u231 u232 u233 u234 u235 u236 u237 u238 u239 u240 u241 u242 u243 u244 u245 u246 u247 u248 u249 u250 u251 u252 u253 u254 u255 u256 u257 u258 u259 u260 u261 u262 u263 u264 u265 u266 u267 u268 u269 u270 u271 u272 u273 u274 u275 u276 u277 u278 u279 u280 u281 u282 u283 u284 u285 u286 u287 u288 u289 u290 u291 u292 u293 u294 u295 u296 u297 u298 u299 u300
     exact hcutP.out
   ·
    rw [if_neg c175] at H
    have c175b0:(t827 == 0)=false:=beq_eq_false_iff_ne.mpr c175
    have c175b1:(t827 != 0)=true:=bne_iff_ne.mpr c175
    replace H:=bS H
    obtain ⟨⟨t856,t857,t858,t859,t860,t861⟩,A260,H⟩:=H
    try dsimp only at H
    replace H:=bS H
    obtain ⟨⟨t864,t865⟩,A261,H⟩:=H
    try dsimp only at H
    replace H:=bS H
    obtain ⟨⟨t866,t867⟩,A262,H⟩:=H
    try dsimp only at H
    by_cases c263:t865=t867
    focus
     rw [if_pos c263] at H
     have c263b0:(t865 == t867)=true:=beq_iff_eq.mpr c263
     have c263b1:(t865 != t867)=false:=bne_eq_false_iff_eq.mpr c263
     clear c263
     obtain rfl:=Option.some.inj H
    rotate_left
    focus
     rw [if_neg c263] at H
     have c263b0:(t865 == t867)=false:=beq_eq_false_iff_ne.mpr c263
     have c263b1:(t865 != t867)=true:=bne_iff_ne.mpr c263
     obtain rfl:=Option.some.inj H
    rotate_left
    all_goals
     go_wp2_with (first|((with_reducible refine gd 275 rfl ?_);refine gC (some 275) rfl Try.func19 (spec_DrawBranchOf.calls (w:=_) (hr0:=cR (Kd.C_below HR0.out HB.out)) (hc0:=HC0.out) (h:=A260.out)) ?_;intro w264 hb;have n0_:=kB BK791 hb;have n1_:=kB BK792 hb;have n2_:=kB BK813 hb;have n3_:=kB BK814 hb;have n4_:=kB BK815 hb;have n5_:=kB BK828 hb;have n6_:=kB BK833 hb;have n7_:=lB hb;clear BK791;clear BK792;clear BK813;clear BK814;clear BK815;clear BK828;clear BK833;clear HB;have BK791:=n0_;have BK792:=n1_;have BK813:=n2_;have BK814:=n3_;have BK815:=n4_;have BK828:=n5_;have BK833:=n6_;have HB:=n7_;clear n0_ n1_ n2_ n3_ n4_ n5_ n6_ n7_;clear hb)|((with_reducible refine gate_dst (N:=41) rfl ?_);refine bxE (cs:=#[.int .i64 0,.int .i64 0,.int .i64 0]) (t:=25) ?_;intro gb862 hg w265 hbox hb;have n0_:=kB BK791 hb;have n1_:=kB BK792 hb;have n2_:=kB BK813 hb;have n3_:=kB BK814 hb;have n4_:=kB BK815 hb;have n5_:=kB BK828 hb;have n6_:=kB BK833 hb;have n7_:=lB hb;have n8_:=Aside0.mk hbox;have n9_:=sA hg;have n10_:=sA hg;have n11_:=nA hg BK791;have n12_:=nB hg BK791;have n13_:=nA hg BK792;have n14_:=nB hg BK792;have n15_:=nA hg BK813;have n16_:=nB hg BK813;have n17_:=nA hg BK814;have n18_:=nB hg BK814;have n19_:=nA hg BK815;have n20_:=nB hg BK815;have n21_:=nA hg BK828;have n22_:=nB hg BK828;have n23_:=nA hg BK833;have n24_:=nB hg BK833;clear BK791;clear BK792;clear BK813;clear BK814;clear BK815;clear BK828;clear BK833;clear HB;have BK791:=n0_;have BK792:=n1_;have BK813:=n2_;have BK814:=n3_;have BK815:=n4_;have BK828:=n5_;have BK833:=n6_;have HB:=n7_;have BK862:=n8_;have GW862:=n9_;have GE862:=n10_;have NB791_862:=n11_;have NB862_791:=n12_;have NB792_862:=n13_;have NB862_792:=n14_;have NB813_862:=n15_;have NB862_813:=n16_;have NB814_862:=n17_;have NB862_814:=n18_;have NB815_862:=n19_;have NB862_815:=n20_;have NB828_862:=n21_;have NB862_828:=n22_;have NB833_862:=n23_;have NB862_833:=n24_;clear n0_ n1_ n2_ n3_ n4_ n5_ n6_ n7_ n8_ n9_ n10_ n11_ n12_ n13_ n14_ n15_ n16_ n17_ n18_ n19_ n20_ n21_ n22_ n23_ n24_;clear hb hbox hg)|((with_reducible refine gate_dst (N:=42) rfl ?_);refine bxE (cs:=#[.int .i64 0,.int .i64 0]) (t:=27) ?_;intro gb863 hg w266 hbox hb;have n0_:=kB BK791 hb;have n1_:=kB BK792 hb;have n2_:=kB BK813 hb;have n3_:=kB BK814 hb;have n4_:=kB BK815 hb;have n5_:=kB BK828 hb;have n6_:=kB BK833 hb;have n7_:=kB BK862 hb;have n8_:=lB hb;have n9_:=Aside0.mk hbox;have n10_:=sA hg;have n11_:=sA hg;have n12_:=nA hg BK791;have n13_:=nB hg BK791;have n14_:=nA hg BK792;have n15_:=nB hg BK792;have n16_:=nA hg BK813;have n17_:=nB hg BK813;have n18_:=nA hg BK814;have n19_:=nB hg BK814;have n20_:=nA hg BK815;have n21_:=nB hg BK815;have n22_:=nA hg BK828;have n23_:=nB hg BK828;have n24_:=nA hg BK833;have n25_:=nB hg BK833;have n26_:=nA hg BK862;have n27_:=nB hg BK862;clear BK791;clear BK792;clear BK813;clear BK814;clear BK815;clear BK828;clear BK833;clear BK862;clear HB;have BK791:=n0_;have BK792:=n1_;have BK813:=n2_;have BK814:=n3_;have BK815:=n4_;have BK828:=n5_;have BK833:=n6_;have BK862:=n7_;have HB:=n8_;have BK863:=n9_;have GW863:=n10_;have GE863:=n11_;have NB791_863:=n12_;have NB863_791:=n13_;have NB792_863:=n14_;have NB863_792:=n15_;have NB813_863:=n16_;have NB863_813:=n17_;have NB814_863:=n18_;have NB863_814:=n19_;have NB815_863:=n20_;have NB863_815:=n21_;have NB828_863:=n22_;have NB863_828:=n23_;have NB833_863:=n24_;have NB863_833:=n25_;have NB862_863:=n26_;have NB863_862:=n27_;clear n0_ n1_ n2_ n3_ n4_ n5_ n6_ n7_ n8_ n9_ n10_ n11_ n12_ n13_ n14_ n15_ n16_ n17_ n18_ n19_ n20_ n21_ n22_ n23_ n24_ n25_ n26_ n27_;clear hb hbox hg;have hnb267:=NB862_791.out;have hnb268:=NB862_792.out;have hnb269:=NB862_813.out;have hnb270:=NB862_814.out;have hnb271:=NB862_815.out;have hnb272:=NB862_828.out;have hnb273:=NB862_833.out;have hnb274:=NB862_863.out;obtain ⟨hcz275_0,hcz275_1,hcz275_2,hfz275_0,hfz275_1,hfz275_2⟩:=cz3 BK862;have hnb276:=NB863_791.out;have hnb277:=NB863_792.out;have hnb278:=NB863_813.out;have hnb279:=NB863_814.out;have hnb280:=NB863_815.out;have hnb281:=NB863_828.out;have hnb282:=NB863_833.out;obtain ⟨hcz283_0,hcz283_1,hfz283_0,hfz283_1⟩:=cz2 BK863)|((with_reducible refine gd 283 rfl ?_);refine gC (some 283) rfl Try.func20 (impl_BranchOf.calls (w:=_) (h:=A261.out)) ?_;intro w284 hb;have n0_:=Aside0.mk (blk_below (g:=gb791) (o:=.cells #[.int .i64 t785,.int .i64 t786,.int .i64 t787] 25 (0,0)) (bkF BK791) hb);have n1_:=Aside0.mk (blk_below (g:=gb792) (o:=.cells #[.int .i64 t788,.int .i64 t789] 27 (0,0)) (bkF BK792) hb);have n2_:=Aside0.mk (blk_below (g:=gb813) (o:=.cells #[.int .i64 t806,.int .i64 t807,.int .i64 t808] 25 (0,0)) (bkF BK813) hb);have n3_:=Aside0.mk (blk_below (g:=gb814) (o:=.cells #[.int .i64 t809,.int .i64 t810] 27 (0,0)) (bkF BK814) hb);have n4_:=Aside0.mk (blk_below (g:=gb815) (o:=.cells #[.int .i64 t811,.int .i64 t812] 27 (0,0)) (bkF BK815) hb);have n5_:=Aside0.mk (blk_below (g:=gb828) (o:=.cells #[.int .i64 t824,.int .i64 t825,.int .i64 t826] 25 (0,0)) (bkF BK828) hb);have n6_:=Aside0.mk (blk_below (g:=gb833) (o:=.cells #[.int .i64 t829,.int .i64 t830,.int .i64 t831] 25 (0,0)) (bkF BK833) hb);have n7_:=Aside0.mk (blk_below (g:=gb862) (o:=.cells #[.int .i64 t857,.int .i64 t858,.int .i64 t859] 25 (0,0)) (bpA BK862) hb);have n8_:=Aside0.mk (blk_below (g:=gb863) (o:=.cells #[.int .i64 t860,.int .i64 t861] 27 (0,0)) (bpA BK863) hb);have n9_:=lB hb;clear BK791;clear BK792;clear BK813;clear BK814;clear BK815;clear BK828;clear BK833;clear BK862;clear BK863;clear HB;have BK791:=n0_;have BK792:=n1_;have BK813:=n2_;have BK814:=n3_;have BK815:=n4_;have BK828:=n5_;have BK833:=n6_;have BK862:=n7_;have BK863:=n8_;have HB:=n9_;clear n0_ n1_ n2_ n3_ n4_ n5_ n6_ n7_ n8_ n9_;clear hb;obtain ⟨hcz285_0,hcz285_1,hcz285_2,hfz285_0,hfz285_1,hfz285_2⟩:=cz3 BK862;obtain ⟨hcz286_0,hcz286_1,hfz286_0,hfz286_1⟩:=cz2 BK863)|((with_reducible refine gd 290 rfl ?_);refine gC (some 290) rfl Try.func21 (spec_BranchOf.calls (w:=_) (h:=A262.out)) ?_;intro w287 hb;have n0_:=kB BK791 hb;have n1_:=kB BK792 hb;have n2_:=kB BK813 hb;have n3_:=kB BK814 hb;have n4_:=kB BK815 hb;have n5_:=kB BK828 hb;have n6_:=kB BK833 hb;have n7_:=kB BK862 hb;have n8_:=kB BK863 hb;have n9_:=lB hb;clear BK791;clear BK792;clear BK813;clear BK814;clear BK815;clear BK828;clear BK833;clear BK862;clear BK863;clear HB;have BK791:=n0_;have BK792:=n1_;have BK813:=n2_;have BK814:=n3_;have BK815:=n4_;have BK828:=n5_;have BK833:=n6_;have BK862:=n7_;have BK863:=n8_;have HB:=n9_;clear n0_ n1_ n2_ n3_ n4_ n5_ n6_ n7_ n8_ n9_;clear hb))
    ·
     go_ret
     exact finA blA
    ·
     go_ret
     exact finA blA
set_option maxHeartbeats 100000000 in
set_option maxRecDepth 100000 in
theorem laws_FnRays.cut5:laws_FnRays.cut4.1:=by
 conv=>whnf
 intro k A0 c0 l0 r w hu25 hu27 HR0 HC0 A2 t784 t785 t786 t787 t788 t789 t790 A4 t793 t796 A5 t797 t800 A6 _ gb791 GW791 GE791 gb792 GW792 GE792 NB791_792 NB792_791 w17 v798 kj6 HJ6 _ _ _ x11_2 k2 HK2 t805 t806 t807 t808 t809 t810 t811 t812 A31 t816 t817 A32 t818 t819 A33 t820 t821 A34 t822 t823 A35 t824 t825 t826 t827 A36 t829 t830 t831 t832 A37 t834 t835 A38 t836 t837 A39 Ao41 co41 HO795 HO799 gb813 GW813 GE813 NB791_813 NB813_791 NB792_813 NB813_792 gb814 GW814 GE814 NB791_814 NB814_791 NB792_814 NB814_792 NB813_814 NB814_813 gb815 GW815 GE815 NB791_815 NB815_791 NB792_815 NB815_792 NB813_815 NB815_813 NB814_815 NB815_814 gb828 GW828 GE828 NB791_828 NB828_791 NB792_828 NB828_792 NB813_828 NB828_813 NB814_828 NB828_814 NB815_828 NB828_815 gb833 GW833 GE833 NB791_833 NB833_791 NB792_833 NB833_792 NB813_833 NB833_813 NB814_833 NB833_814 NB815_833 NB833_815 NB828_833 NB833_828 w101 HO_7 kj39 HJ39 t838 t839 A150 _ _ kj150 HJ150 t840 t841 A176 t842 t843 A177 hnb186 hnb187 hnb188 hnb189 hnb190 hnb194 hnb195 hnb196 hnb197 hnb199 hnb200 hnb201 w203 BK791 BK792 BK813 BK814 BK815 BK828 BK833 HB _ _ wc _ _ _ _ _ _ _ _ _ _ _ _ _ _ _ _ _ _ _ _ _ _ _ _ _ _ _ _ _ _ _ _ _ _ _ _ _ _ _ _ _ _ _ _ _ _ _ _ _ _ _ _ _ _ _ _ _ _ _ _ _ _ _ _ _ _ _ _ _ _ _ _ _ _ _ _ _ _ _ _ _ _ _ _ _ _ _ _ _ _ _ _ _ _ _ _ _ _ _ _ _ _ _ _ _ _ _ _ _ _ _ _ _ _ _ _ _ _ _ _ _ _ _ _ _ _ _ _ _ _ _ _ _ _ _ _ _ _ _ _ _ _ _ _ _ _ _ _ _ _ _ _ _ _ _ _ _ _ _ _ _ _ _ _ _ _ _ _ _ _ _ _ _ _ _ _ _ _ _ _ _ _ _ _ _ _ _ _ _ _ _ _ _ _ _ _ _ _ _ _ _ _ _ _ _ _ _ _ _ _ _ _ _ _ _ _ _ _ _ _ _ _ _ _ _ _ _ _ _ _ _ _ _ _ _ _ _ _ _ _ _ _ _ _ _ _ _ _ _ _ _ _ _ _ hcut
 obtain ⟨kq,x272_177,rfl,HA,HJ177,BK791,BK792,BK813,BK814,BK815,BK828,BK833,HB⟩:=hcut
 cases kq with
 | zero=>exact absurd HA.out (by simp [laws_FnRays.j4])
 | succ kj177=>
  have H:=HA.out
  clear HA
  simp only [laws_FnRays.j4] at H
  by_cases c207:x272_177=true
  ·
   subst c207
   rw [if_pos rfl] at H
   try dsimp only at H
   exact absurd H (by simp)
  replace c207:=Bool.eq_false_iff.mpr c207
  subst c207
  rw [if_neg (show ¬ (false=true) by decide)] at H
  try dsimp only at H
  replace H:=bS H
  obtain ⟨⟨t844,t845,t846,t847,t848,t849⟩,A208,H⟩:=H
  try dsimp only at H
  replace H:=bS H
  obtain ⟨⟨t852,t853⟩,A209,H⟩:=H
  try dsimp only at H
  replace H:=bS H
  obtain ⟨⟨t854,t855⟩,A210,H⟩:=H
  try dsimp only at H
  by_cases c211:t853=t855
  focus
   rw [if_pos c211] at H
   have c211b0:(t853 == t855)=true:=beq_iff_eq.mpr c211
   have c211b1:(t853 != t855)=false:=bne_eq_false_iff_eq.mpr c211
   clear c211
   obtain rfl:=Option.some.inj H
  rotate_left
  focus
   rw [if_neg c211] at H
   have c211b0:(t853 == t855)=false:=beq_eq_false_iff_ne.mpr c211
   have c211b1:(t853 != t855)=true:=bne_iff_ne.mpr c211
   obtain rfl:=Option.some.inj H
  rotate_left
  all_goals
   go_wp2_with (first|((with_reducible refine gd 275 rfl ?_);refine gC (some 275) rfl Try.func19 (spec_DrawBranchOf.calls (w:=_) (hr0:=cR (Kd.C_below HR0.out HB.out)) (hc0:=HC0.out) (h:=A208.out)) ?_;intro w212 hb;have n0_:=kB BK791 hb;have n1_:=kB BK792 hb;have n2_:=kB BK813 hb;have n3_:=kB BK814 hb;have n4_:=kB BK815 hb;have n5_:=kB BK828 hb;have n6_:=kB BK833 hb;have n7_:=lB hb;clear BK791;clear BK792;clear BK813;clear BK814;clear BK815;clear BK828;clear BK833;clear HB;have BK791:=n0_;have BK792:=n1_;have BK813:=n2_;have BK814:=n3_;have BK815:=n4_;have BK828:=n5_;have BK833:=n6_;have HB:=n7_;clear n0_ n1_ n2_ n3_ n4_ n5_ n6_ n7_;clear hb)|((with_reducible refine gate_dst (N:=41) rfl ?_);refine bxE (cs:=#[.int .i64 0,.int .i64 0,.int .i64 0]) (t:=25) ?_;intro gb850 hg w213 hbox hb;have n0_:=kB BK791 hb;have n1_:=kB BK792 hb;have n2_:=kB BK813 hb;have n3_:=kB BK814 hb;have n4_:=kB BK815 hb;have n5_:=kB BK828 hb;have n6_:=kB BK833 hb;have n7_:=lB hb;have n8_:=Aside0.mk hbox;have n9_:=sA hg;have n10_:=sA hg;have n11_:=nA hg BK791;have n12_:=nB hg BK791;have n13_:=nA hg BK792;have n14_:=nB hg BK792;have n15_:=nA hg BK813;have n16_:=nB hg BK813;have n17_:=nA hg BK814;have n18_:=nB hg BK814;have n19_:=nA hg BK815;have n20_:=nB hg BK815;have n21_:=nA hg BK828;have n22_:=nB hg BK828;have n23_:=nA hg BK833;have n24_:=nB hg BK833;clear BK791;clear BK792;clear BK813;clear BK814;clear BK815;clear BK828;clear BK833;clear HB;have BK791:=n0_;have BK792:=n1_;have BK813:=n2_;have BK814:=n3_;have BK815:=n4_;have BK828:=n5_;have BK833:=n6_;have HB:=n7_;have BK850:=n8_;have GW850:=n9_;have GE850:=n10_;have NB791_850:=n11_;have NB850_791:=n12_;have NB792_850:=n13_;have NB850_792:=n14_;have NB813_850:=n15_;have NB850_813:=n16_;have NB814_850:=n17_;have NB850_814:=n18_;have NB815_850:=n19_;have NB850_815:=n20_;have NB828_850:=n21_;have NB850_828:=n22_;have NB833_850:=n23_;have NB850_833:=n24_;clear n0_ n1_ n2_ n3_ n4_ n5_ n6_ n7_ n8_ n9_ n10_ n11_ n12_ n13_ n14_ n15_ n16_ n17_ n18_ n19_ n20_ n21_ n22_ n23_ n24_;clear hb hbox hg)|((with_reducible refine gate_dst (N:=42) rfl ?_);refine bxE (cs:=#[.int .i64 0,.int .i64 0]) (t:=27) ?_;intro gb851 hg w214 hbox hb;have n0_:=kB BK791 hb;have n1_:=kB BK792 hb;have n2_:=kB BK813 hb;have n3_:=kB BK814 hb;have n4_:=kB BK815 hb;have n5_:=kB BK828 hb;have n6_:=kB BK833 hb;have n7_:=kB BK850 hb;have n8_:=lB hb;have n9_:=Aside0.mk hbox;have n10_:=sA hg;have n11_:=sA hg;have n12_:=nA hg BK791;have n13_:=nB hg BK791;have n14_:=nA hg BK792;have n15_:=nB hg BK792;have n16_:=nA hg BK813;have n17_:=nB hg BK813;have n18_:=nA hg BK814;have n19_:=nB hg BK814;have n20_:=nA hg BK815;have n21_:=nB hg BK815;have n22_:=nA hg BK828;have n23_:=nB hg BK828;have n24_:=nA hg BK833;have n25_:=nB hg BK833;have n26_:=nA hg BK850;have n27_:=nB hg BK850;clear BK791;clear BK792;clear BK813;clear BK814;clear BK815;clear BK828;clear BK833;clear BK850;clear HB;have BK791:=n0_;have BK792:=n1_;have BK813:=n2_;have BK814:=n3_;have BK815:=n4_;have BK828:=n5_;have BK833:=n6_;have BK850:=n7_;have HB:=n8_;have BK851:=n9_;have GW851:=n10_;have GE851:=n11_;have NB791_851:=n12_;have NB851_791:=n13_;have NB792_851:=n14_;have NB851_792:=n15_;have NB813_851:=n16_;have NB851_813:=n17_;have NB814_851:=n18_;have NB851_814:=n19_;have NB815_851:=n20_;have NB851_815:=n21_;have NB828_851:=n22_;have NB851_828:=n23_;have NB833_851:=n24_;have NB851_833:=n25_;have NB850_851:=n26_;have NB851_850:=n27_;clear n0_ n1_ n2_ n3_ n4_ n5_ n6_ n7_ n8_ n9_ n10_ n11_ n12_ n13_ n14_ n15_ n16_ n17_ n18_ n19_ n20_ n21_ n22_ n23_ n24_ n25_ n26_ n27_;clear hb hbox hg;have hnb215:=NB850_791.out;have hnb216:=NB850_792.out;have hnb217:=NB850_813.out;have hnb218:=NB850_814.out;have hnb219:=NB850_815.out;have hnb220:=NB850_828.out;have hnb221:=NB850_833.out;have hnb222:=NB850_851.out;obtain ⟨hcz223_0,hcz223_1,hcz223_2,hfz223_0,hfz223_1,hfz223_2⟩:=cz3 BK850;have hnb224:=NB851_791.out;have hnb225:=NB851_792.out;have hnb226:=NB851_813.out;have hnb227:=NB851_814.out;have hnb228:=NB851_815.out;have hnb229:=NB851_828.out;have hnb230:=NB851_833.out;obtain ⟨hcz231_0,hcz231_1,hfz231_0,hfz231_1⟩:=cz2 BK851)|((with_reducible refine gd 283 rfl ?_);refine gC (some 283) rfl Try.func20 (impl_BranchOf.calls (w:=_) (h:=A209.out)) ?_;intro w232 hb;have n0_:=Aside0.mk (blk_below (g:=gb791) (o:=.cells #[.int .i64 t785,.int .i64 t786,.int .i64 t787] 25 (0,0)) (bkF BK791) hb);have n1_:=Aside0.mk (blk_below (g:=gb792) (o:=.cells #[.int .i64 t788,.int .i64 t789] 27 (0,0)) (bkF BK792) hb);have n2_:=Aside0.mk (blk_below (g:=gb813) (o:=.cells #[.int .i64 t806,.int .i64 t807,.int .i64 t808] 25 (0,0)) (bkF BK813) hb);have n3_:=Aside0.mk (blk_below (g:=gb814) (o:=.cells #[.int .i64 t809,.int .i64 t810] 27 (0,0)) (bkF BK814) hb);have n4_:=Aside0.mk (blk_below (g:=gb815) (o:=.cells #[.int .i64 t811,.int .i64 t812] 27 (0,0)) (bkF BK815) hb);have n5_:=Aside0.mk (blk_below (g:=gb828) (o:=.cells #[.int .i64 t824,.int .i64 t825,.int .i64 t826] 25 (0,0)) (bkF BK828) hb);have n6_:=Aside0.mk (blk_below (g:=gb833) (o:=.cells #[.int .i64 t829,.int .i64 t830,.int .i64 t831] 25 (0,0)) (bkF BK833) hb);have n7_:=Aside0.mk (blk_below (g:=gb850) (o:=.cells #[.int .i64 t845,.int .i64 t846,.int .i64 t847] 25 (0,0)) (bpA BK850) hb);have n8_:=Aside0.mk (blk_below (g:=gb851) (o:=.cells #[.int .i64 t848,.int .i64 t849] 27 (0,0)) (bpA BK851) hb);have n9_:=lB hb;clear BK791;clear BK792;clear BK813;clear BK814;clear BK815;clear BK828;clear BK833;clear BK850;clear BK851;clear HB;have BK791:=n0_;have BK792:=n1_;have BK813:=n2_;have BK814:=n3_;have BK815:=n4_;have BK828:=n5_;have BK833:=n6_;have BK850:=n7_;have BK851:=n8_;have HB:=n9_;clear n0_ n1_ n2_ n3_ n4_ n5_ n6_ n7_ n8_ n9_;clear hb;obtain ⟨hcz233_0,hcz233_1,hcz233_2,hfz233_0,hfz233_1,hfz233_2⟩:=cz3 BK850;obtain ⟨hcz234_0,hcz234_1,hfz234_0,hfz234_1⟩:=cz2 BK851)|((with_reducible refine gd 290 rfl ?_);refine gC (some 290) rfl Try.func21 (spec_BranchOf.calls (w:=_) (h:=A210.out)) ?_;intro w235 hb;have n0_:=kB BK791 hb;have n1_:=kB BK792 hb;have n2_:=kB BK813 hb;have n3_:=kB BK814 hb;have n4_:=kB BK815 hb;have n5_:=kB BK828 hb;have n6_:=kB BK833 hb;have n7_:=kB BK850 hb;have n8_:=kB BK851 hb;have n9_:=lB hb;clear BK791;clear BK792;clear BK813;clear BK814;clear BK815;clear BK828;clear BK833;clear BK850;clear BK851;clear HB;have BK791:=n0_;have BK792:=n1_;have BK813:=n2_;have BK814:=n3_;have BK815:=n4_;have BK828:=n5_;have BK833:=n6_;have BK850:=n7_;have BK851:=n8_;have HB:=n9_;clear n0_ n1_ n2_ n3_ n4_ n5_ n6_ n7_ n8_ n9_;clear hb))
  ·
   go_ret
   exact finA blA
  ·
   go_ret
   exact finA blA
theorem laws_FnRays.calls (k:Nat) (A0:Option Addr) (c0:Nat) (l0:List Int) (r:Bool) (w:World) (hr0:Kd.C (Kd.int .u8) w A0 l0.length l0) (hc0:l0.length≤c0) (h:laws_FnRays.f k l0=some r) :
  Calls Try.prog 3 #[.slice A0 l0.length c0] w fun e w'=>e=.returned (.bool r)∧Below w.heap.size w w':=(laws_FnRays.cut0.2 (Aside0.mk (laws_FnRays.cut1.2.2 (Aside0.mk (laws_FnRays.cut2)) (Aside0.mk (laws_FnRays.cut3.2 (Aside0.mk (laws_FnRays.cut4.2 (Aside0.mk (laws_FnRays.cut5))))))))) k A0 c0 l0 r w hr0 hc0 h

/-- THE ONE PURE STATEMENT of laws_FnRays: yours. -/
def laws_FnRays.Pure:Prop:=∀ (l0:List Int),l0.length≤maxLen→l0.length*1≤140737488351232→(∀ x ∈ l0,(Lit.int .u8 x).wf=true)→∃ k,laws_FnRays.f k l0=some true
theorem laws_FnRays.walk (P:laws_FnRays.Pure) (a0:Option Addr) (len0 cap0:Nat) (z0:List Int) (w:World) (w0:(a0=none∧len0=0∧cap0=0∧z0=[])∨∃ x,a0=some x∧len0≤cap0∧cap0≤maxLen∧z0.length=cap0∧(∀ i,i<z0.length→w.cell? (x.add i)=some (.int .u8 (z0.getD i 0)))∧∀ n ∈ z0,(Lit.int .u8 n).wf=true) (y0:len0*1≤140737488351232) :
  Calls Try.prog 3 #[.slice a0 len0 cap0] w fun e w'=>e=.returned (.bool true)∧Below w.heap.size w w':=by
 obtain ⟨l0,rfl,hr0,hm0,hw0,hc0⟩:=ReadsInt.ofRowC w0
 obtain ⟨k,h⟩:=P l0 hm0 y0 hw0
 refine (laws_FnRays.calls k _ _ l0 true w (Kd.C_of_reads (d:=(0:Int)) (h1:=fun _=>rfl) hr0) hc0 h).mono ?_
 rintro e w' ⟨rfl,hd⟩
 exact ⟨rfl,hd⟩
end Go.Proofs.Ytabcckoeilegnaa.PAll
