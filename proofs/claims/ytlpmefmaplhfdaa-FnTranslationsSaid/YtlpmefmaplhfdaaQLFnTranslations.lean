-- turned out of the kit's print
import Derived.Test.YtlpmefmaplhfdaaQx
import Derived.Test.YtlpmefmaplhfdaaQbitsLeadingZeros64
import Derived.Test.YtlpmefmaplhfdaaQimplAxisBalls
import Derived.Test.YtlpmefmaplhfdaaQimplDisplacementOf
import Derived.Test.YtlpmefmaplhfdaaQimplInverseMatrix
import Derived.Test.YtlpmefmaplhfdaaQimplchild
import Derived.Test.YtlpmefmaplhfdaaQspecAxisBalls
import Derived.Test.YtlpmefmaplhfdaaQspecDrawFixedBalls
import Derived.Test.YtlpmefmaplhfdaaQspecDrawLengthOf
namespace Go.Proofs.Ytlpmefmaplhfdaa.PAll
open Go.RowKit Go.Proofs.YtlpmefmaplhfdaaW.PrintWords Go.Proofs.YtlpmefmaplhfdaaW.PrintLast Go.Proofs.YtlpmefmaplhfdaaW.PrintMore
attribute [local go_sem] Go.Proofs.Ytlpmefmaplhfdaa.Aux.setCell_drewN Go.Proofs.Ytlpmefmaplhfdaa.Aux.isSome_setCell max2_int min2_int max_two min_two max_three min_three max_four min_four
set_option linter.unusedVariables false
set_option linter.unusedSimpArgs false
theorem cfH {A B:Prop} (h0:B) (h:B→A:=by intro h_;repeat (first|(with_reducible exact h_)|refine (cell_far (Aside0.out (by assumption)) _).trans ?_)):A:=h h0
attribute [local go_sem high] eqA28
mutual
def laws_FnTranslations.j0:Nat→List Int→Int→Int→Int→Bool→Int→Int→Int→Int→Option (Bool)
 | 0,_,_,_,_,_,_,_,_,_=>none
 | k+1,x0,x3,x6,x7,x79,x1077000,x1077001,x1077002,x1077003=>if x79=true then (none) else ((spec_DrawLengthOf.f k x0).bind fun bt1082=>((impl_LengthOf.f k bt1082.1 bt1082.2.1 bt1082.2.2.1 bt1082.2.2.2.1 bt1082.2.2.2.2).bind fun bt1088=>((spec_LengthOf.f k bt1082.1 bt1082.2.1 bt1082.2.2.1 bt1082.2.2.2.1 bt1082.2.2.2.2).bind fun bt1090=>(if bt1088.2=bt1090.2 then (laws_FnTranslations.j1 k x0 x3 x6 x7 bt1082.1 bt1088.1 bt1088.2 (bt1088.1 != bt1090.1) x1077000 x1077001 x1077002 x1077003 bt1082.2.1 bt1082.2.2.1 bt1082.2.2.2.1 bt1082.2.2.2.2) else (laws_FnTranslations.j1 k x0 x3 x6 x7 bt1082.1 bt1088.1 bt1088.2 true x1077000 x1077001 x1077002 x1077003 bt1082.2.1 bt1082.2.2.1 bt1082.2.2.2.1 bt1082.2.2.2.2)))))
def laws_FnTranslations.j1:Nat→List Int→Int→Int→Int→Int→Int→Int→Bool→Int→Int→Int→Int→Int→Int→Int→Int→Option (Bool)
 | 0,_,_,_,_,_,_,_,_,_,_,_,_,_,_,_,_=>none
 | k+1,x0,x3,x6,x7,x10,x12,x13,x104,x1077000,x1077001,x1077002,x1077003,x1088000,x1088001,x1088002,x1088003=>if x104=true then (none) else ((impl_KindOf.f k x10 x1088000 x1088001 x1088002 x1088003).bind fun bt1092=>((spec_KindOf.f k x10 x1088000 x1088001 x1088002 x1088003).bind fun bt1094=>(if bt1092.2=bt1094.2 then (laws_FnTranslations.j2 k x0 x3 x6 x7 x10 x12 x13 bt1092.1 (bt1092.1 != bt1094.1) x1077000 x1077001 x1077002 x1077003 x1088000 x1088001 x1088002 x1088003) else (laws_FnTranslations.j2 k x0 x3 x6 x7 x10 x12 x13 bt1092.1 true x1077000 x1077001 x1077002 x1077003 x1088000 x1088001 x1088002 x1088003))))
def laws_FnTranslations.j2:Nat→List Int→Int→Int→Int→Int→Int→Int→Int→Bool→Int→Int→Int→Int→Int→Int→Int→Int→Option (Bool)
 | 0,_,_,_,_,_,_,_,_,_,_,_,_,_,_,_,_,_=>none
 | k+1,x0,x3,x6,x7,x10,x12,x13,x16,x124,x1077000,x1077001,x1077002,x1077003,x1088000,x1088001,x1088002,x1088003=>if x124=true then (none) else ((spec_DrawFixedBalls.f k x0).bind fun bt1096=>((impl_FixedBalls.f k bt1096.1 bt1096.2.1 bt1096.2.2.1 bt1096.2.2.2.1 bt1096.2.2.2.2.1 bt1096.2.2.2.2.2.1 bt1096.2.2.2.2.2.2.1 bt1096.2.2.2.2.2.2.2.1 bt1096.2.2.2.2.2.2.2.2).bind fun bt1107=>((spec_FixedBalls.f k bt1096.1 bt1096.2.1 bt1096.2.2.1 bt1096.2.2.2.1 bt1096.2.2.2.2.1 bt1096.2.2.2.2.2.1 bt1096.2.2.2.2.2.2.1 bt1096.2.2.2.2.2.2.2.1 bt1096.2.2.2.2.2.2.2.2).bind fun bt1111=>(if bt1107.2=bt1111.2 then ((laws_balls9.f k bt1107.1 bt1111.1).bind fun t1115=>(laws_FnTranslations.j3 k x3 x6 x7 x10 x12 x13 x16 bt1096.1 bt1096.2.2.2.2.2.2.2.2 bt1107.1 (!t1115) x1077000 x1077001 x1077002 x1077003 x1088000 x1088001 x1088002 x1088003 bt1096.2.1 bt1096.2.2.1 bt1096.2.2.2.1 bt1096.2.2.2.2.1 bt1096.2.2.2.2.2.1 bt1096.2.2.2.2.2.2.1 bt1096.2.2.2.2.2.2.2.1)) else (laws_FnTranslations.j3 k x3 x6 x7 x10 x12 x13 x16 bt1096.1 bt1096.2.2.2.2.2.2.2.2 bt1107.1 true x1077000 x1077001 x1077002 x1077003 x1088000 x1088001 x1088002 x1088003 bt1096.2.1 bt1096.2.2.1 bt1096.2.2.2.1 bt1096.2.2.2.2.1 bt1096.2.2.2.2.2.1 bt1096.2.2.2.2.2.2.1 bt1096.2.2.2.2.2.2.2.1)))))
def laws_FnTranslations.j3:Nat→Int→Int→Int→Int→Int→Int→Int→Int→Int→List (S28)→Bool→Int→Int→Int→Int→Int→Int→Int→Int→Int→Int→Int→Int→Int→Int→Int→Option (Bool)
 | 0,_,_,_,_,_,_,_,_,_,_,_,_,_,_,_,_,_,_,_,_,_,_,_,_,_,_=>none
 | k+1,x3,x6,x7,x10,x12,x13,x16,x20,x23,x24,x156,x1077000,x1077001,x1077002,x1077003,x1088000,x1088001,x1088002,x1088003,x1106000,x1106001,x1106002,x1106003,x1107000,x1107001,x1107002=>if x156=true then (none) else ((impl_AxisBalls.f k x20 x1106000 x1106001 x1106002 x1106003 x1107000 x1107001 x1107002 x23).bind fun bt1116=>((spec_AxisBalls.f k x20 x1106000 x1106001 x1106002 x1106003 x1107000 x1107001 x1107002 x23).bind fun bt1120=>(if bt1116.2=bt1120.2 then ((laws_balls9.f k bt1116.1 bt1120.1).bind fun t1124=>(laws_FnTranslations.j4 k x3 x6 x7 x10 x12 x13 x16 x20 x24 bt1116.1 (!t1124) x1077000 x1077001 x1077002 x1077003 x1088000 x1088001 x1088002 x1088003 x1106000 x1106001 x1106002 x1106003)) else (laws_FnTranslations.j4 k x3 x6 x7 x10 x12 x13 x16 x20 x24 bt1116.1 true x1077000 x1077001 x1077002 x1077003 x1088000 x1088001 x1088002 x1088003 x1106000 x1106001 x1106002 x1106003))))
def laws_FnTranslations.j4:Nat→Int→Int→Int→Int→Int→Int→Int→Int→List (S28)→List (S28)→Bool→Int→Int→Int→Int→Int→Int→Int→Int→Int→Int→Int→Int→Option (Bool)
 | 0,_,_,_,_,_,_,_,_,_,_,_,_,_,_,_,_,_,_,_,_,_,_,_=>none
 | k+1,x3,x6,x7,x10,x12,x13,x16,x20,x24,x28,x181,x1077000,x1077001,x1077002,x1077003,x1088000,x1088001,x1088002,x1088003,x1106000,x1106001,x1106002,x1106003=>if x181=true then (none) else (laws_FnTranslations.l0 k x3 x6 x7 x10 x12 x13 x16 x20 x24 x28 0 x1077000 x1077001 x1077002 x1077003 x1088000 x1088001 x1088002 x1088003 x1106000 x1106001 x1106002 x1106003)
def laws_FnTranslations.l0:Nat→Int→Int→Int→Int→Int→Int→Int→Int→List (S28)→List (S28)→Int→Int→Int→Int→Int→Int→Int→Int→Int→Int→Int→Int→Int→Option (Bool)
 | 0,_,_,_,_,_,_,_,_,_,_,_,_,_,_,_,_,_,_,_,_,_,_,_=>none
 | k+1,x3,x6,x7,x10,x12,x13,x16,x20,x24,x28,x32,x1077000,x1077001,x1077002,x1077003,x1088000,x1088001,x1088002,x1088003,x1106000,x1106001,x1106002,x1106003=>if x32<(x24.length:Int) then (if 0≤x32 then ((impl_MoveBall.f k x20 x1106000 x1106001 x1106002 x1106003 ((rd_T28 x24 x32).f0) ((rd_T28 x24 x32).f1) ((rd_T28 x24 x32).f2)).bind fun bt1126=>(if bt1126.2.2.2=0 then (if (!(bt1126.1 == ((rd_T28 x24 x32).f0)) || (!(bt1126.2.1 == ((rd_T28 x24 x32).f1)) || (!(bt1126.2.2.1 == ((rd_T28 x24 x32).f2)))))=true then (none) else (laws_FnTranslations.l0 k x3 x6 x7 x10 x12 x13 x16 x20 x24 x28 (wrap64 (x32+1)) x1077000 x1077001 x1077002 x1077003 x1088000 x1088001 x1088002 x1088003 x1106000 x1106001 x1106002 x1106003)) else (none))) else (none)) else (laws_FnTranslations.l1 k x3 x6 x7 x10 x12 x13 x16 x20 x28 0 x1077000 x1077001 x1077002 x1077003 x1088000 x1088001 x1088002 x1088003 x1106000 x1106001 x1106002 x1106003)
def laws_FnTranslations.l1:Nat→Int→Int→Int→Int→Int→Int→Int→Int→List (S28)→Int→Int→Int→Int→Int→Int→Int→Int→Int→Int→Int→Int→Int→Option (Bool)
 | 0,_,_,_,_,_,_,_,_,_,_,_,_,_,_,_,_,_,_,_,_,_,_=>none
 | k+1,x3,x6,x7,x10,x12,x13,x16,x20,x28,x35,x1077000,x1077001,x1077002,x1077003,x1088000,x1088001,x1088002,x1088003,x1106000,x1106001,x1106002,x1106003=>if x35<(x28.length:Int) then (if 0≤x35 then ((impl_DisplacementOf.f k x20 x1106000 x1106001 x1106002 x1106003 ((rd_T28 x28 x35).f0) ((rd_T28 x28 x35).f1) ((rd_T28 x28 x35).f2)).bind fun bt1133=>((impl_LengthOf.f k x20 x1106000 x1106001 x1106002 x1106003).bind fun bt1135=>(if bt1133.2=0 then (if bt1135.2=0 then (if bt1133.1=bt1135.1 then (laws_FnTranslations.l1 k x3 x6 x7 x10 x12 x13 x16 x20 x28 (wrap64 (x35+1)) x1077000 x1077001 x1077002 x1077003 x1088000 x1088001 x1088002 x1088003 x1106000 x1106001 x1106002 x1106003) else (none)) else (none)) else (none)))) else (none)) else (if x13=0 then ((impl_InverseMatrix.f k x1088000 x1088001 x1088002 x1088003).bind fun bt1137=>((impl_LengthOf.f k x10 bt1137.1 bt1137.2.1 bt1137.2.2.1 bt1137.2.2.2.1).bind fun bt1143=>((impl_KindOf.f k x10 bt1137.1 bt1137.2.1 bt1137.2.2.1 bt1137.2.2.2.1).bind fun bt1145=>(if bt1137.2.2.2.2=0 then (if bt1143.2=0 then (if bt1143.1=x12 then (if bt1145.2=0 then (if bt1145.1=x16 then (if ((x16 == 2) != (decide (x12>0)))=true then (none) else (laws_FnTranslations.j7 k x3 x6 x7 x1077000 x1077001 x1077002 x1077003)) else (none)) else (none)) else (none)) else (none)) else (none))))) else (laws_FnTranslations.j7 k x3 x6 x7 x1077000 x1077001 x1077002 x1077003))
def laws_FnTranslations.j7:Nat→Int→Int→Int→Int→Int→Int→Int→Option (Bool)
 | 0,_,_,_,_,_,_,_=>none
 | k+1,x3,x6,x7,x1077000,x1077001,x1077002,x1077003=>if x7=0 then ((impl_LengthOf.f k x3 x1077000 x1077001 x1077002 x1077003).bind fun bt1147=>((impl_KindOf.f k x3 x1077000 x1077001 x1077002 x1077003).bind fun bt1149=>(if bt1149.1=1 then (if bt1147.2=0 then (if bt1149.2=0 then (if x6≥1 then (some ((Int.tmod (wrap64 (x6 - 1)) 2) == 0)) else (some false)) else (some false)) else (some false)) else (if bt1147.2=0 then (if bt1149.2=0 then (if x6≥bt1147.1 then (some ((Int.tmod (wrap64 (x6 - bt1147.1)) 2) == 0)) else (some false)) else (some false)) else (some false))))) else (some (x6 == 0))
end
def laws_FnTranslations.f (k:Nat) (l0:List Int):Option (Bool):=(laws_big.f l0).bind fun t1067=>(if t1067=true then (some true) else ((spec_DrawDisplacementOf.f k l0).bind fun bt1068=>((impl_DisplacementOf.f k bt1068.1 bt1068.2.1 bt1068.2.2.1 bt1068.2.2.2.1 bt1068.2.2.2.2.1 bt1068.2.2.2.2.2.1 bt1068.2.2.2.2.2.2.1 bt1068.2.2.2.2.2.2.2).bind fun bt1078=>((spec_DisplacementOf.f k bt1068.1 bt1068.2.1 bt1068.2.2.1 bt1068.2.2.2.1 bt1068.2.2.2.2.1 bt1068.2.2.2.2.2.1 bt1068.2.2.2.2.2.2.1 bt1068.2.2.2.2.2.2.2).bind fun bt1080=>(if bt1078.2=bt1080.2 then (laws_FnTranslations.j0 k l0 bt1068.1 bt1078.1 bt1078.2 (bt1078.1 != bt1080.1) bt1068.2.1 bt1068.2.2.1 bt1068.2.2.2.1 bt1068.2.2.2.2.1) else (laws_FnTranslations.j0 k l0 bt1068.1 bt1078.1 bt1078.2 true bt1068.2.1 bt1068.2.2.1 bt1068.2.2.2.1 bt1068.2.2.2.2.1))))))
theorem laws_FnTranslations.mono_l:∀ k,(∀ y0 y1 y2 y3 y4 y5 y6 y7 y8,LeO (laws_FnTranslations.j0 k y0 y1 y2 y3 y4 y5 y6 y7 y8) (laws_FnTranslations.j0 (k+1) y0 y1 y2 y3 y4 y5 y6 y7 y8))∧(∀ y0 y1 y2 y3 y4 y5 y6 y7 y8 y9 y10 y11 y12 y13 y14 y15,LeO (laws_FnTranslations.j1 k y0 y1 y2 y3 y4 y5 y6 y7 y8 y9 y10 y11 y12 y13 y14 y15) (laws_FnTranslations.j1 (k+1) y0 y1 y2 y3 y4 y5 y6 y7 y8 y9 y10 y11 y12 y13 y14 y15))∧(∀ y0 y1 y2 y3 y4 y5 y6 y7 y8 y9 y10 y11 y12 y13 y14 y15 y16,LeO (laws_FnTranslations.j2 k y0 y1 y2 y3 y4 y5 y6 y7 y8 y9 y10 y11 y12 y13 y14 y15 y16) (laws_FnTranslations.j2 (k+1) y0 y1 y2 y3 y4 y5 y6 y7 y8 y9 y10 y11 y12 y13 y14 y15 y16))∧(∀ y0 y1 y2 y3 y4 y5 y6 y7 y8 y9 y10 y11 y12 y13 y14 y15 y16 y17 y18 y19 y20 y21 y22 y23 y24 y25,LeO (laws_FnTranslations.j3 k y0 y1 y2 y3 y4 y5 y6 y7 y8 y9 y10 y11 y12 y13 y14 y15 y16 y17 y18 y19 y20 y21 y22 y23 y24 y25) (laws_FnTranslations.j3 (k+1) y0 y1 y2 y3 y4 y5 y6 y7 y8 y9 y10 y11 y12 y13 y14 y15 y16 y17 y18 y19 y20 y21 y22 y23 y24 y25))∧(∀ y0 y1 y2 y3 y4 y5 y6 y7 y8 y9 y10 y11 y12 y13 y14 y15 y16 y17 y18 y19 y20 y21 y22,LeO (laws_FnTranslations.j4 k y0 y1 y2 y3 y4 y5 y6 y7 y8 y9 y10 y11 y12 y13 y14 y15 y16 y17 y18 y19 y20 y21 y22) (laws_FnTranslations.j4 (k+1) y0 y1 y2 y3 y4 y5 y6 y7 y8 y9 y10 y11 y12 y13 y14 y15 y16 y17 y18 y19 y20 y21 y22))∧(∀ y0 y1 y2 y3 y4 y5 y6 y7 y8 y9 y10 y11 y12 y13 y14 y15 y16 y17 y18 y19 y20 y21 y22,LeO (laws_FnTranslations.l0 k y0 y1 y2 y3 y4 y5 y6 y7 y8 y9 y10 y11 y12 y13 y14 y15 y16 y17 y18 y19 y20 y21 y22) (laws_FnTranslations.l0 (k+1) y0 y1 y2 y3 y4 y5 y6 y7 y8 y9 y10 y11 y12 y13 y14 y15 y16 y17 y18 y19 y20 y21 y22))∧(∀ y0 y1 y2 y3 y4 y5 y6 y7 y8 y9 y10 y11 y12 y13 y14 y15 y16 y17 y18 y19 y20 y21,LeO (laws_FnTranslations.l1 k y0 y1 y2 y3 y4 y5 y6 y7 y8 y9 y10 y11 y12 y13 y14 y15 y16 y17 y18 y19 y20 y21) (laws_FnTranslations.l1 (k+1) y0 y1 y2 y3 y4 y5 y6 y7 y8 y9 y10 y11 y12 y13 y14 y15 y16 y17 y18 y19 y20 y21))∧(∀ y0 y1 y2 y3 y4 y5 y6,LeO (laws_FnTranslations.j7 k y0 y1 y2 y3 y4 y5 y6) (laws_FnTranslations.j7 (k+1) y0 y1 y2 y3 y4 y5 y6))
 | 0=>by refine ⟨?_,?_,?_,?_,?_,?_,?_,?_⟩ <;> (intros;intro r h;simp [laws_FnTranslations.j0,laws_FnTranslations.j1,laws_FnTranslations.j2,laws_FnTranslations.j3,laws_FnTranslations.j4,laws_FnTranslations.l0,laws_FnTranslations.l1,laws_FnTranslations.j7] at h)
 | k+1=>by
  obtain ⟨ih0,ih1,ih2,ih3,ih4,ih5,ih6,ih7⟩:=laws_FnTranslations.mono_l k
  refine ⟨?_,?_,?_,?_,?_,?_,?_,?_⟩ <;> (intros;first|unfold laws_FnTranslations.j0|unfold laws_FnTranslations.j1|unfold laws_FnTranslations.j2|unfold laws_FnTranslations.j3|unfold laws_FnTranslations.j4|unfold laws_FnTranslations.l0|unfold laws_FnTranslations.l1|unfold laws_FnTranslations.j7)
  all_goals repeat' first
  | with_reducible first|exact ih0 ..|exact ih1 ..|exact ih2 ..|exact ih3 ..|exact ih4 ..|exact ih5 ..|exact ih6 ..|exact ih7 ..|exact impl_AxisBalls.mono ..|exact impl_DisplacementOf.mono ..|exact impl_FixedBalls.mono ..|exact impl_InverseMatrix.mono ..|exact impl_KindOf.mono ..|exact impl_LengthOf.mono ..|exact impl_MoveBall.mono ..|exact laws_balls9.mono ..|exact spec_AxisBalls.mono ..|exact spec_DisplacementOf.mono ..|exact spec_DrawDisplacementOf.mono ..|exact spec_DrawFixedBalls.mono ..|exact spec_DrawLengthOf.mono ..|exact spec_FixedBalls.mono ..|exact spec_KindOf.mono ..|exact spec_LengthOf.mono ..|exact LeO.refl _|exact LeO.none _|refine LeO.ite ?_ ?_|refine LeO.bind ?_ fun _=>?_
theorem laws_FnTranslations.mono:∀ a0 k,LeO (laws_FnTranslations.f k a0) (laws_FnTranslations.f (k+1) a0):=by
 intro a0 k
 obtain ⟨ih0,ih1,ih2,ih3,ih4,ih5,ih6,ih7⟩:=laws_FnTranslations.mono_l k
 unfold laws_FnTranslations.f
 repeat' first
   | with_reducible first|exact ih0 ..|exact ih1 ..|exact ih2 ..|exact ih3 ..|exact ih4 ..|exact ih5 ..|exact ih6 ..|exact ih7 ..|exact impl_AxisBalls.mono ..|exact impl_DisplacementOf.mono ..|exact impl_FixedBalls.mono ..|exact impl_InverseMatrix.mono ..|exact impl_KindOf.mono ..|exact impl_LengthOf.mono ..|exact impl_MoveBall.mono ..|exact laws_balls9.mono ..|exact spec_AxisBalls.mono ..|exact spec_DisplacementOf.mono ..|exact spec_DrawDisplacementOf.mono ..|exact spec_DrawFixedBalls.mono ..|exact spec_DrawLengthOf.mono ..|exact spec_FixedBalls.mono ..|exact spec_KindOf.mono ..|exact spec_LengthOf.mono ..|exact LeO.refl _|exact LeO.none _|refine LeO.ite ?_ ?_|refine LeO.bind ?_ fun _=>?_
def laws_FnTranslations.T29:Bool × List (List Nat × List Nat):=(true,[([],[]),([],[]),([],[]),([],[]),([2,3],[2,3]),([4],[4]),([0,1,5],[0,1,5]),([6],[6]),([7],[7]),([7],[7]),([],[]),([10,8,6,0,1,2,3,4,5,6,7,8,10],[8,10]),([9,11,0,1,2,3,4,5,6,7,8,9,10,11],[9])])
def laws_FnTranslations.B29:List Nat:=[0,0,0,0,12,28,63,127,255,255,0,1535,4095]
theorem laws_FnTranslations.tab29:rtab .any (opsOf Try.f5 29)=laws_FnTranslations.T29:=by kernel_rfl
theorem laws_FnTranslations.bits29:waitsOk laws_FnTranslations.T29.2 laws_FnTranslations.B29=true:=by kernel_rfl
def laws_FnTranslations.T30:Bool × List (List Nat × List Nat):=(true,[([],[]),([0],[0]),([1],[1]),([2],[2]),([2],[2]),([2],[2]),([4,5,2],[2,4,5]),([6,2],[2,6]),([3,7,2],[2,3,7]),([2,8],[2,8])])
def laws_FnTranslations.B30:List Nat:=[0,1,3,7,7,7,55,119,255,511]
theorem laws_FnTranslations.tab30:rtab .any (opsOf Try.f5 30)=laws_FnTranslations.T30:=by kernel_rfl
theorem laws_FnTranslations.bits30:waitsOk laws_FnTranslations.T30.2 laws_FnTranslations.B30=true:=by kernel_rfl
def laws_FnTranslations.T35:Bool × List (List Nat × List Nat):=(true,[([],[]),([],[]),([],[]),([],[]),([2,3],[2,3]),([4],[4]),([0,1,5],[0,1,5]),([6],[6]),([7],[7]),([7],[7]),([8,6,0,1,2,3,4,5,6,7,8],[8]),([9,10,0,1,2,3,4,5,6,7,8,9,10],[9])])
def laws_FnTranslations.B35:List Nat:=[0,0,0,0,12,28,63,127,255,255,511,2047]
theorem laws_FnTranslations.tab35:rtab .any (opsOf Try.f5 35)=laws_FnTranslations.T35:=by kernel_rfl
theorem laws_FnTranslations.bits35:waitsOk laws_FnTranslations.T35.2 laws_FnTranslations.B35=true:=by kernel_rfl
set_option maxHeartbeats 100000000 in
set_option maxRecDepth 100000 in
noncomputable def laws_FnTranslations.cut0:PSigma fun P:Prop=>Aside0 P→(∀ (k:Nat) (A0:Option Addr) (c0:Nat) (l0:List Int) (r:Bool) (w:World) (hr0:Kd.C (Kd.int .u8) w A0 l0.length l0) (hc0:l0.length≤c0) (h:laws_FnTranslations.f k l0=some r),Calls Try.prog 5 #[.slice A0 l0.length c0] w fun e w'=>e=.returned (.bool r)∧Below w.heap.size w w'):=by
 apply PSigma.mk
 ·
  intro hcutP
  intro k A0 c0 l0 r w hr0 hc0 h
  have hu26:=Try.underlying26
  have hu28:=Try.underlying28
  have HR0:=Aside0.mk hr0
  have HC0:=Aside0.mk hc0
  clear hr0 hc0
  have HB:=Aside0.mk (Below.refl w.heap.size w)
  have H:=h
  unfold laws_FnTranslations.f at H
  clear h
  replace H:=bS H
  obtain ⟨t1067,A2,H⟩:=H
  try dsimp only at H
  by_cases c3:t1067=true
  ·
   subst c3
   rw [if_pos rfl] at H
   try dsimp only at H
   obtain rfl:=Option.some.inj H
   go_enter Try.func5,Try.ntmps5
   go_wp2_with (first|((with_reducible refine gd 51 rfl ?_);refine gC (some 51) rfl Try.func6 (laws_big.calls (w:=_) (hr0:=cR HR0.out) (hc0:=HC0.out) (h:=A2.out)) ?_;rintro _ ⟨nd,rfl⟩))
   go_ret
   exact finA blA
  ·
   replace c3:=Bool.eq_false_iff.mpr c3
   subst c3
   rw [if_neg (show ¬ (false=true) by decide)] at H
   try dsimp only at H
   replace H:=bS H
   obtain ⟨⟨t1068,t1069,t1070,t1071,t1072,t1073,t1074,t1075⟩,A4,H⟩:=H
   try dsimp only at H
   replace H:=bS H
   obtain ⟨⟨t1078,t1079⟩,A5,H⟩:=H
   try dsimp only at H
   replace H:=bS H
   obtain ⟨⟨t1080,t1081⟩,A6,H⟩:=H
   try dsimp only at H
   have HC7:=Aside0.mk H
   clear H
   go_enter Try.func5,Try.ntmps5
   go_upto_region 6 with (first|((with_reducible refine gd 51 rfl ?_);refine gC (some 51) rfl Try.func6 (laws_big.calls (w:=_) (hr0:=cR HR0.out) (hc0:=HC0.out) (h:=A2.out)) ?_;rintro _ ⟨nd,rfl⟩)|((with_reducible refine gd 54 rfl ?_);refine gC (some 54) rfl Try.func27 (spec_DrawDisplacementOf.calls (w:=_) (hr0:=cR HR0.out) (hc0:=HC0.out) (h:=A4.out)) ?_;intro w8 hb;have n0_:=lB hb;clear HB;have HB:=n0_;clear n0_;clear hb)|((with_reducible refine gate_dst (N:=4) rfl ?_);refine bxE (cs:=#[.int .i64 0,.int .i64 0,.int .i64 0,.int .i64 0]) (t:=26) ?_;intro gb1076 hg w9 hbox hb;have n0_:=lB hb;have n1_:=Aside0.mk hbox;have n2_:=sA hg;have n3_:=sA hg;clear HB;have HB:=n0_;have BK1076:=n1_;have GW1076:=n2_;have GE1076:=n3_;clear n0_ n1_ n2_ n3_;clear hb hbox hg)|((with_reducible refine gate_dst (N:=5) rfl ?_);refine bxE (cs:=#[.int .i64 0,.int .i64 0,.int .i64 0]) (t:=28) ?_;intro gb1077 hg w10 hbox hb;have n0_:=kB BK1076 hb;have n1_:=lB hb;have n2_:=Aside0.mk hbox;have n3_:=sA hg;have n4_:=sA hg;have n5_:=nA hg BK1076;have n6_:=nB hg BK1076;clear BK1076;clear HB;have BK1076:=n0_;have HB:=n1_;have BK1077:=n2_;have GW1077:=n3_;have GE1077:=n4_;have NB1076_1077:=n5_;have NB1077_1076:=n6_;clear n0_ n1_ n2_ n3_ n4_ n5_ n6_;clear hb hbox hg;have hnb11:=NB1076_1077.out;obtain ⟨hcz12_0,hcz12_1,hcz12_2,hcz12_3,hfz12_0,hfz12_1,hfz12_2,hfz12_3⟩:=cz4 BK1076;obtain ⟨hcz13_0,hcz13_1,hcz13_2,hfz13_0,hfz13_1,hfz13_2⟩:=cz3 BK1077)|((with_reducible refine gd 62 rfl ?_);refine gC (some 62) rfl Try.func28 (impl_DisplacementOf.calls (w:=_) (h:=A5.out)) ?_;intro w14 hb;have n0_:=Aside0.mk (blk_below (g:=gb1076) (o:=.cells #[.int .i64 t1069,.int .i64 t1070,.int .i64 t1071,.int .i64 t1072] 26 (0,0)) (bpA BK1076) hb);have n1_:=Aside0.mk (blk_below (g:=gb1077) (o:=.cells #[.int .i64 t1073,.int .i64 t1074,.int .i64 t1075] 28 (0,0)) (bpA BK1077) hb);have n2_:=lB hb;clear BK1076;clear BK1077;clear HB;have BK1076:=n0_;have BK1077:=n1_;have HB:=n2_;clear n0_ n1_ n2_;clear hb;obtain ⟨hcz15_0,hcz15_1,hcz15_2,hcz15_3,hfz15_0,hfz15_1,hfz15_2,hfz15_3⟩:=cz4 BK1076;obtain ⟨hcz16_0,hcz16_1,hcz16_2,hfz16_0,hfz16_1,hfz16_2⟩:=cz3 BK1077)|((with_reducible refine gd 69 rfl ?_);refine gC (some 69) rfl Try.func29 (spec_DisplacementOf.calls (w:=_) (h:=A6.out)) ?_;intro w17 hb;have n0_:=kB BK1076 hb;have n1_:=kB BK1077 hb;have n2_:=lB hb;clear BK1076;clear BK1077;clear HB;have BK1076:=n0_;have BK1077:=n1_;have HB:=n2_;clear n0_ n1_ n2_;clear hb))
   (try simp only [Act.put,List.setIfInBounds_toArray,List.set_cons_zero,List.set_cons_succ])
   go_cut [79] (fun v79 wc=>∃ (kq:Nat) (x79_6:Bool),v79=.bool x79_6∧Aside0 (laws_FnTranslations.j0 kq l0 t1068 t1078 t1079 x79_6 t1069 t1070 t1071 t1072=some r)∧Aside0 (kq≤k)∧Aside0 (wc.heap[gb1076]?=some (.cells #[.int .i64 t1069,.int .i64 t1070,.int .i64 t1071,.int .i64 t1072] 26 (0,0)))∧Aside0 (wc.heap[gb1077]?=some (.cells #[.int .i64 t1073,.int .i64 t1074,.int .i64 t1075] 28 (0,0)))∧Aside0 (Below w.heap.size w wc))
   case first=>
    have H:=HC7.out
    clear HC7
    by_cases c18:t1079=t1081
    ·
     rw [if_pos c18] at H
     have c18b0:(t1079 == t1081)=true:=beq_iff_eq.mpr c18
     have c18b1:(t1079 != t1081)=false:=bne_eq_false_iff_eq.mpr c18
     clear c18
     (first|rw [c18b0]|(simp only [i64_w,i32_w];rw [c18b0])|skip)
     have H':=Aside0.mk H
     clear H
     go_wp2
     go_meet
     case rel=>exact ⟨_,((t1078 != t1080)),hB,H',⟨by first|omega|exact Nat.le_refl _⟩,⟨bkA BK1076⟩,⟨bkA BK1077⟩,⟨blA⟩⟩
    ·
     rw [if_neg c18] at H
     have c18b0:(t1079 == t1081)=false:=beq_eq_false_iff_ne.mpr c18
     have c18b1:(t1079 != t1081)=true:=bne_iff_ne.mpr c18
     (first|rw [c18b0]|(simp only [i64_w,i32_w];rw [c18b0])|skip)
     have H':=Aside0.mk H
     clear H
     go_wp2
     go_meet
     case rel=>exact ⟨_,(true),hB,H',⟨by first|omega|exact Nat.le_refl _⟩,⟨bkA BK1076⟩,⟨bkA BK1077⟩,⟨blA⟩⟩
   case rest=>
    clear HC7
    try clear c3
    try clear c18
    try clear c18b0
    try clear c18b1
    try clear hcz12_0
    try clear hcz12_1
    try clear hcz12_2
    try clear hcz12_3
    try clear hcz13_0
    try clear hcz13_1
    try clear hcz13_2
    try clear hcz15_0
    try clear hcz15_1
    try clear hcz15_2
    try clear hcz15_3
    try clear hcz16_0
    try clear hcz16_1
    try clear hcz16_2
    try clear hfz12_0
    try clear hfz12_1
    try clear hfz12_2
    try clear hfz12_3
    try clear hfz13_0
    try clear hfz13_1
    try clear hfz13_2
    try clear hfz15_0
    try clear hfz15_1
    try clear hfz15_2
    try clear hfz15_3
    try clear hfz16_0
    try clear hfz16_1
    try clear hfz16_2
    obtain ⟨kq,x79_6,rfl,HA,HJ6,BK1076,BK1077,HB⟩:=hcut
    cases kq with
    | zero=>exact absurd HA.out (by simp [laws_FnTranslations.j0])
    | succ kj6=>
     have H:=HA.out
     clear HA
     simp only [laws_FnTranslations.j0] at H
     by_cases c19:x79_6=true
     ·
      subst c19
      rw [if_pos rfl] at H
      try dsimp only at H
      exact absurd H (by simp)
     replace c19:=Bool.eq_false_iff.mpr c19
     subst c19
     rw [if_neg (show ¬ (false=true) by decide)] at H
     try dsimp only at H
     replace H:=bS H
     obtain ⟨⟨t1082,t1083,t1084,t1085,t1086⟩,A20,H⟩:=H
     try dsimp only at H
     replace H:=bS H
     obtain ⟨⟨t1088,t1089⟩,A21,H⟩:=H
     try dsimp only at H
     replace H:=bS H
     obtain ⟨⟨t1090,t1091⟩,A22,H⟩:=H
     try dsimp only at H
     have HC23:=Aside0.mk H
     clear H
     go_upto_region 11 with (first|((with_reducible refine gd 82 rfl ?_);refine gC (some 82) rfl Try.func30 (spec_DrawLengthOf.calls (w:=_) (hr0:=cR (Kd.C_below HR0.out HB.out)) (hc0:=HC0.out) (h:=A20.out)) ?_;intro w24 hb;have n0_:=kB BK1076 hb;have n1_:=kB BK1077 hb;have n2_:=lB hb;clear BK1076;clear BK1077;clear HB;have BK1076:=n0_;have BK1077:=n1_;have HB:=n2_;clear n0_ n1_ n2_;clear hb)|((with_reducible refine gate_dst (N:=11) rfl ?_);refine bxE (cs:=#[.int .i64 0,.int .i64 0,.int .i64 0,.int .i64 0]) (t:=26) ?_;intro gb1087 hg w25 hbox hb;have n0_:=kB BK1076 hb;have n1_:=kB BK1077 hb;have n2_:=lB hb;have n3_:=Aside0.mk hbox;have n4_:=sA hg;have n5_:=sA hg;have n6_:=nA hg BK1076;have n7_:=nB hg BK1076;have n8_:=nA hg BK1077;have n9_:=nB hg BK1077;clear BK1076;clear BK1077;clear HB;have BK1076:=n0_;have BK1077:=n1_;have HB:=n2_;have BK1087:=n3_;have GW1087:=n4_;have GE1087:=n5_;have NB1076_1087:=n6_;have NB1087_1076:=n7_;have NB1077_1087:=n8_;have NB1087_1077:=n9_;clear n0_ n1_ n2_ n3_ n4_ n5_ n6_ n7_ n8_ n9_;clear hb hbox hg;have hnb26:=NB1087_1076.out;have hnb27:=NB1087_1077.out;obtain ⟨hcz28_0,hcz28_1,hcz28_2,hcz28_3,hfz28_0,hfz28_1,hfz28_2,hfz28_3⟩:=cz4 BK1087)|((with_reducible refine gd 88 rfl ?_);refine gC (some 88) rfl Try.func31 (impl_LengthOf.calls (w:=_) (h:=A21.out)) ?_;intro w29 hb;have n0_:=Aside0.mk (blk_below (g:=gb1076) (o:=.cells #[.int .i64 t1069,.int .i64 t1070,.int .i64 t1071,.int .i64 t1072] 26 (0,0)) (bkF BK1076) hb);have n1_:=Aside0.mk (blk_below (g:=gb1077) (o:=.cells #[.int .i64 t1073,.int .i64 t1074,.int .i64 t1075] 28 (0,0)) (bkF BK1077) hb);have n2_:=Aside0.mk (blk_below (g:=gb1087) (o:=.cells #[.int .i64 t1083,.int .i64 t1084,.int .i64 t1085,.int .i64 t1086] 26 (0,0)) (bpA BK1087) hb);have n3_:=lB hb;clear BK1076;clear BK1077;clear BK1087;clear HB;have BK1076:=n0_;have BK1077:=n1_;have BK1087:=n2_;have HB:=n3_;clear n0_ n1_ n2_ n3_;clear hb;obtain ⟨hcz30_0,hcz30_1,hcz30_2,hcz30_3,hfz30_0,hfz30_1,hfz30_2,hfz30_3⟩:=cz4 BK1087)|((with_reducible refine gd 94 rfl ?_);refine gC (some 94) rfl Try.func32 (spec_LengthOf.calls (w:=_) (h:=A22.out)) ?_;intro w31 hb;have n0_:=kB BK1076 hb;have n1_:=kB BK1077 hb;have n2_:=kB BK1087 hb;have n3_:=lB hb;clear BK1076;clear BK1077;clear BK1087;clear HB;have BK1076:=n0_;have BK1077:=n1_;have BK1087:=n2_;have HB:=n3_;clear n0_ n1_ n2_ n3_;clear hb))
     (try simp only [Act.put,List.setIfInBounds_toArray,List.set_cons_zero,List.set_cons_succ])
     go_cut [104] (fun v104 wc=>∃ (kq:Nat) (x104_22:Bool),v104=.bool x104_22∧Aside0 (laws_FnTranslations.j1 kq l0 t1068 t1078 t1079 t1082 t1088 t1089 x104_22 t1069 t1070 t1071 t1072 t1083 t1084 t1085 t1086=some r)∧Aside0 (kq≤kj6)∧Aside0 (wc.heap[gb1076]?=some (.cells #[.int .i64 t1069,.int .i64 t1070,.int .i64 t1071,.int .i64 t1072] 26 (0,0)))∧Aside0 (wc.heap[gb1077]?=some (.cells #[.int .i64 t1073,.int .i64 t1074,.int .i64 t1075] 28 (0,0)))∧Aside0 (wc.heap[gb1087]?=some (.cells #[.int .i64 t1083,.int .i64 t1084,.int .i64 t1085,.int .i64 t1086] 26 (0,0)))∧Aside0 (Below w.heap.size w wc))
     case first=>
      have H:=HC23.out
      clear HC23
      by_cases c32:t1089=t1091
      ·
       rw [if_pos c32] at H
       have c32b0:(t1089 == t1091)=true:=beq_iff_eq.mpr c32
       have c32b1:(t1089 != t1091)=false:=bne_eq_false_iff_eq.mpr c32
       clear c32
       (first|rw [c32b0]|(simp only [i64_w,i32_w];rw [c32b0])|skip)
       have H':=Aside0.mk H
       clear H
       go_wp2
       go_meet
       case rel=>exact ⟨_,((t1088 != t1090)),hB,H',⟨by have:=HJ6.out;first|omega|exact Nat.le_refl _⟩,⟨bkA BK1076⟩,⟨bkA BK1077⟩,⟨bkA BK1087⟩,⟨blA⟩⟩
      ·
       rw [if_neg c32] at H
       have c32b0:(t1089 == t1091)=false:=beq_eq_false_iff_ne.mpr c32
       have c32b1:(t1089 != t1091)=true:=bne_iff_ne.mpr c32
       (first|rw [c32b0]|(simp only [i64_w,i32_w];rw [c32b0])|skip)
       have H':=Aside0.mk H
       clear H
       go_wp2
       go_meet
       case rel=>exact ⟨_,(true),hB,H',⟨by have:=HJ6.out;first|omega|exact Nat.le_refl _⟩,⟨bkA BK1076⟩,⟨bkA BK1077⟩,⟨bkA BK1087⟩,⟨blA⟩⟩
     case rest=>
      expose_names
      clear BK1076_1 BK1077_1 HB_1 HC23 hcz28_0 hcz28_1 hcz28_2 hcz28_3 hfz28_0 hfz28_1 hfz28_2 hfz28_3 hcz30_0 hcz30_1 hcz30_2 hcz30_3 hfz30_0 hfz30_1 hfz30_2 hfz30_3
      revert k A0 c0 l0 r w hu26 hu28 t1068 t1069 t1070 t1071 t1072 t1073 t1074 t1075 t1078 t1079 t1080 t1081 gb1076 gb1077 kj6 t1082 t1083 t1084 t1085 t1086 t1088 t1089 t1090 t1091 gb1087 K w31 K_1 wc u50 u51 u52 u53 u54 u55 u56 u57 u58 u59 u60 u61 u62 u63 u64 u65 u66 u67 u68 u69 u70 u71 u72 u73 u74 u75 u76 u77 u78 u79 u80 u81 u82 u83 u84 u85 u86 u87 u88 u89 u90 u91 u92 u93 u94 u95 u96 u97 u98 u99 u100 u101 u102 u103 u104 u105 u106 u107 u108 u109 u110 u111 u112 u113 u114 u115 u116 u117 u118 u119 u120 u121 u122 u123 u124 u125 u126 u127 u128 u129 u130 u131 u132 u133 u134 u135 u136 u137 u138 u139 u140 u141 u142 u143 u144 u145 u146 u147 u148 u149 u150 u151 u152 u153 u154 u155 u156 u157 u158 u159 u160 u161 u162 u163 u164 u165 u166 u167 u168 u169 u170 u171 u172 u173 u174 u175 u176 u177 u178 u179 u180 u181 u182 u183 u184 u185 u186 u187 u188 u189 u190 u191 u192 u193 u194 u195 u196 u197 u198 u199 u200 u201 u202 u203 u204 u205 u206 u207 u208 u209 u210 u211 u212 u213 u214 u215 u216 u217 u218 u219 u220 u221 u222 u223 u224 u225 u226 u227 u228 u229 u230 u231 u232 u233 u234 u235 u236 u237 u238 u239 u240 u241 u242 u243 u244 u245 u246 u247 u248 u249 u250 u251 u252 u253 u254 u255 u256 u257 u258 u259 u260 u261 u262 u263 u264 u265 u266 u267 u268 u269 u270 u271 u272 u273 u274 u275 u276 u277 u278 u279 u280 u281 u282 u283 u284 u285 u286 u287 u288 u289 u290 u291 u292 u293 u294 u295 u296 u297 u298 u299 u300 u301 u302 u303 u304 u305 u306 u307 u308 u309 u310 u311 u312 u313 u314 u315 u316 u317 u318 u319 u320 u321 u322
      exact hcutP.out
set_option maxHeartbeats 100000000 in
set_option maxRecDepth 100000 in
noncomputable def laws_FnTranslations.cut1:PSigma fun P:Prop=>Aside0 P→(laws_FnTranslations.cut0.1):=by
 apply PSigma.mk
 ·
  intro hcutP
  conv=>whnf
  intro k A0 c0 l0 r w hu26 hu28 HR0 HC0 A2 t1068 t1069 t1070 t1071 t1072 t1073 t1074 t1075 A4 t1078 t1079 A5 t1080 t1081 A6 _ gb1076 GW1076 GE1076 gb1077 GW1077 GE1077 NB1076_1077 NB1077_1076 hnb11 kj6 HJ6 t1082 t1083 t1084 t1085 t1086 A20 t1088 t1089 A21 t1090 t1091 A22 gb1087 GW1087 GE1087 NB1076_1087 NB1087_1076 NB1077_1087 NB1087_1077 hnb26 hnb27 _ _ w31 BK1076 BK1077 BK1087 HB _ _ wc _ _ _ _ _ _ _ _ _ _ _ _ _ _ _ _ _ _ _ _ _ _ _ _ _ _ _ _ _ _ _ _ _ _ _ _ _ _ _ _ _ _ _ _ _ _ _ _ _ _ _ _ _ _ _ _ _ _ _ _ _ _ _ _ _ _ _ _ _ _ _ _ _ _ _ _ _ _ _ _ _ _ _ _ _ _ _ _ _ _ _ _ _ _ _ _ _ _ _ _ _ _ _ _ _ _ _ _ _ _ _ _ _ _ _ _ _ _ _ _ _ _ _ _ _ _ _ _ _ _ _ _ _ _ _ _ _ _ _ _ _ _ _ _ _ _ _ _ _ _ _ _ _ _ _ _ _ _ _ _ _ _ _ _ _ _ _ _ _ _ _ _ _ _ _ _ _ _ _ _ _ _ _ _ _ _ _ _ _ _ _ _ _ _ _ _ _ _ _ _ _ _ _ _ _ _ _ _ _ _ _ _ _ _ _ _ _ _ _ _ _ _ _ _ _ _ _ _ _ _ _ _ _ _ _ _ _ _ _ _ _ _ _ _ _ _ _ _ _ _ _ _ _ _ _ _ _ _ _ _ _ _ _ _ _ _ _ _ _ _ _ _ _ hcut
  obtain ⟨kq,x104_22,rfl,HA,HJ22,BK1076,BK1077,BK1087,HB⟩:=hcut
  cases kq with
  | zero=>exact absurd HA.out (by simp [laws_FnTranslations.j1])
  | succ kj22=>
   have H:=HA.out
   clear HA
   simp only [laws_FnTranslations.j1] at H
   by_cases c33:x104_22=true
   ·
    subst c33
    rw [if_pos rfl] at H
    try dsimp only at H
    exact absurd H (by simp)
   replace c33:=Bool.eq_false_iff.mpr c33
   subst c33
   rw [if_neg (show ¬ (false=true) by decide)] at H
   try dsimp only at H
   replace H:=bS H
   obtain ⟨⟨t1092,t1093⟩,A34,H⟩:=H
   try dsimp only at H
   replace H:=bS H
   obtain ⟨⟨t1094,t1095⟩,A35,H⟩:=H
   try dsimp only at H
   have HC36:=Aside0.mk H
   clear H
   try clear hnb11
   try clear hnb26 hnb27
   have hnb37:=NB1087_1076.out
   have hnb38:=NB1087_1077.out
   obtain ⟨hcz39_0,hcz39_1,hcz39_2,hcz39_3,hfz39_0,hfz39_1,hfz39_2,hfz39_3⟩:=cz4 BK1087
   go_upto_region 15 with (first|((with_reducible refine gd 108 rfl ?_);refine gC (some 108) rfl Try.func33 (impl_KindOf.calls (w:=_) (h:=A34.out)) ?_;intro w40 hb;have n0_:=kB BK1076 hb;have n1_:=kB BK1077 hb;have n2_:=kB BK1087 hb;have n3_:=lB hb;clear BK1076;clear BK1077;clear BK1087;clear HB;have BK1076:=n0_;have BK1077:=n1_;have BK1087:=n2_;have HB:=n3_;clear n0_ n1_ n2_ n3_;clear hb;obtain ⟨hcz41_0,hcz41_1,hcz41_2,hcz41_3,hfz41_0,hfz41_1,hfz41_2,hfz41_3⟩:=cz4 BK1087)|((with_reducible refine gd 114 rfl ?_);refine gC (some 114) rfl Try.func34 (spec_KindOf.calls (w:=_) (h:=A35.out)) ?_;intro w42 hb;have n0_:=kB BK1076 hb;have n1_:=kB BK1077 hb;have n2_:=kB BK1087 hb;have n3_:=lB hb;clear BK1076;clear BK1077;clear BK1087;clear HB;have BK1076:=n0_;have BK1077:=n1_;have BK1087:=n2_;have HB:=n3_;clear n0_ n1_ n2_ n3_;clear hb))
   (try simp only [Act.put,List.setIfInBounds_toArray,List.set_cons_zero,List.set_cons_succ])
   go_cut [124] (fun v124 wc=>∃ (kq:Nat) (x124_35:Bool),v124=.bool x124_35∧Aside0 (laws_FnTranslations.j2 kq l0 t1068 t1078 t1079 t1082 t1088 t1089 t1092 x124_35 t1069 t1070 t1071 t1072 t1083 t1084 t1085 t1086=some r)∧Aside0 (kq≤kj22)∧Aside0 (wc.heap[gb1076]?=some (.cells #[.int .i64 t1069,.int .i64 t1070,.int .i64 t1071,.int .i64 t1072] 26 (0,0)))∧Aside0 (wc.heap[gb1077]?=some (.cells #[.int .i64 t1073,.int .i64 t1074,.int .i64 t1075] 28 (0,0)))∧Aside0 (wc.heap[gb1087]?=some (.cells #[.int .i64 t1083,.int .i64 t1084,.int .i64 t1085,.int .i64 t1086] 26 (0,0)))∧Aside0 (Below w.heap.size w wc))
   case first=>
    have H:=HC36.out
    clear HC36
    by_cases c43:t1093=t1095
    ·
     rw [if_pos c43] at H
     have c43b0:(t1093 == t1095)=true:=beq_iff_eq.mpr c43
     have c43b1:(t1093 != t1095)=false:=bne_eq_false_iff_eq.mpr c43
     clear c43
     (first|rw [c43b0]|(simp only [i64_w,i32_w];rw [c43b0])|skip)
     have H':=Aside0.mk H
     clear H
     go_wp2
     go_meet
     case rel=>exact ⟨_,((t1092 != t1094)),hB,H',⟨by have:=HJ6.out;have:=HJ22.out;first|omega|exact Nat.le_refl _⟩,⟨bkA BK1076⟩,⟨bkA BK1077⟩,⟨bkA BK1087⟩,⟨blA⟩⟩
    ·
     rw [if_neg c43] at H
     have c43b0:(t1093 == t1095)=false:=beq_eq_false_iff_ne.mpr c43
     have c43b1:(t1093 != t1095)=true:=bne_iff_ne.mpr c43
     (first|rw [c43b0]|(simp only [i64_w,i32_w];rw [c43b0])|skip)
     have H':=Aside0.mk H
     clear H
     go_wp2
     go_meet
     case rel=>exact ⟨_,(true),hB,H',⟨by have:=HJ6.out;have:=HJ22.out;first|omega|exact Nat.le_refl _⟩,⟨bkA BK1076⟩,⟨bkA BK1077⟩,⟨bkA BK1087⟩,⟨blA⟩⟩
   case rest=>
    expose_names
    clear BK1076_1 BK1077_1 BK1087_1 HB_1 HC36 hcz39_0 hcz39_1 hcz39_2 hcz39_3 hfz39_0 hfz39_1 hfz39_2 hfz39_3 hcz41_0 hcz41_1 hcz41_2 hcz41_3 hfz41_0 hfz41_1 hfz41_2 hfz41_3
    revert k A0 c0 l0 r w hu26 hu28 t1068 t1069 t1070 t1071 t1072 t1073 t1074 t1075 t1078 t1079 t1080 t1081 gb1076 gb1077 kj6 t1082 t1083 t1084 t1085 t1086 t1088 t1089 t1090 t1091 gb1087 kj22 t1092 t1093 t1094 t1095 K w42 K_1 wc u50 u51 u52 u53 u54 u55 u56 u57 u58 u59 u60 u61 u62 u63 u64 u65 u66 u67 u68 u69 u70 u71 u72 u73 u74 u75 u76 u77 u78 u79 u80 u81 u82 u83 u84 u85 u86 u87 u88 u89 u90 u91 u92 u93 u94 u95 u96 u97 u98 u99 u100 u101 u102 u103 u104 u105 u106 u107 u108 u109 u110 u111 u112 u113 u114 u115 u116 u117 u118 u119 u120 u121 u122 u123 u124 u125 u126 u127 u128 u129 u130 u131 u132 u133 u134 u135 u136 u137 u138 u139 u140 u141 u142 u143 u144 u145 u146 u147 u148 u149 u150 u151 u152 u153 u154 u155 u156 u157 u158 u159 u160 u161 u162 u163 u164 u165 u166 u167 u168 u169 u170 u171 u172 u173 u174 u175 u176 u177 u178 u179 u180 u181 u182 u183 u184 u185 u186 u187 u188 u189 u190 u191 u192 u193 u194 u195 u196 u197 u198 u199 u200 u201 u202 u203 u204 u205 u206 u207 u208 u209 u210 u211 u212 u213 u214 u215 u216 u217 u218 u219 u220 u221 u222 u223 u224 u225 u226 u227 u228 u229 u230 u231 u232 u233 u234 u235 u236 u237 u238 u239 u240 u241 u242 u243 u244 u245 u246 u247 u248 u249 u250 u251 u252 u253 u254 u255 u256 u257 u258 u259 u260 u261 u262 u263 u264 u265 u266 u267 u268 u269 u270 u271 u272 u273 u274 u275 u276 u277 u278 u279 u280 u281 u282 u283 u284 u285 u286 u287 u288 u289 u290 u291 u292 u293 u294 u295 u296 u297 u298 u299 u300 u301 u302 u303 u304 u305 u306 u307 u308 u309 u310 u311 u312 u313 u314 u315 u316 u317 u318 u319 u320 u321 u322
    exact hcutP.out
set_option maxHeartbeats 100000000 in
set_option maxRecDepth 100000 in
noncomputable def laws_FnTranslations.cut2:PSigma fun P:Prop=>Aside0 P→(laws_FnTranslations.cut1.1):=by
 apply PSigma.mk
 ·
  intro hcutP
  conv=>whnf
  intro k A0 c0 l0 r w hu26 hu28 HR0 HC0 A2 t1068 t1069 t1070 t1071 t1072 t1073 t1074 t1075 A4 t1078 t1079 A5 t1080 t1081 A6 _ gb1076 GW1076 GE1076 gb1077 GW1077 GE1077 NB1076_1077 NB1077_1076 kj6 HJ6 t1082 t1083 t1084 t1085 t1086 A20 t1088 t1089 A21 t1090 t1091 A22 gb1087 GW1087 GE1087 NB1076_1087 NB1087_1076 NB1077_1087 NB1087_1077 kj22 HJ22 t1092 t1093 A34 t1094 t1095 A35 hnb37 hnb38 _ _ w42 BK1076 BK1077 BK1087 HB _ _ wc _ _ _ _ _ _ _ _ _ _ _ _ _ _ _ _ _ _ _ _ _ _ _ _ _ _ _ _ _ _ _ _ _ _ _ _ _ _ _ _ _ _ _ _ _ _ _ _ _ _ _ _ _ _ _ _ _ _ _ _ _ _ _ _ _ _ _ _ _ _ _ _ _ _ _ _ _ _ _ _ _ _ _ _ _ _ _ _ _ _ _ _ _ _ _ _ _ _ _ _ _ _ _ _ _ _ _ _ _ _ _ _ _ _ _ _ _ _ _ _ _ _ _ _ _ _ _ _ _ _ _ _ _ _ _ _ _ _ _ _ _ _ _ _ _ _ _ _ _ _ _ _ _ _ _ _ _ _ _ _ _ _ _ _ _ _ _ _ _ _ _ _ _ _ _ _ _ _ _ _ _ _ _ _ _ _ _ _ _ _ _ _ _ _ _ _ _ _ _ _ _ _ _ _ _ _ _ _ _ _ _ _ _ _ _ _ _ _ _ _ _ _ _ _ _ _ _ _ _ _ _ _ _ _ _ _ _ _ _ _ _ _ _ _ _ _ _ _ _ _ _ _ _ _ _ _ _ _ _ _ _ _ _ _ _ _ _ _ _ _ _ _ _ hcut
  obtain ⟨kq,x124_35,rfl,HA,HJ35,BK1076,BK1077,BK1087,HB⟩:=hcut
  cases kq with
  | zero=>exact absurd HA.out (by simp [laws_FnTranslations.j2])
  | succ kj35=>
   have H:=HA.out
   clear HA
   simp only [laws_FnTranslations.j2] at H
   by_cases c44:x124_35=true
   ·
    subst c44
    rw [if_pos rfl] at H
    try dsimp only at H
    exact absurd H (by simp)
   replace c44:=Bool.eq_false_iff.mpr c44
   subst c44
   rw [if_neg (show ¬ (false=true) by decide)] at H
   try dsimp only at H
   replace H:=bS H
   obtain ⟨⟨t1096,t1097,t1098,t1099,t1100,t1101,t1102,t1103,t1104⟩,A45,H⟩:=H
   try dsimp only at H
   replace H:=bS H
   obtain ⟨⟨t1107,t1110⟩,A46,H⟩:=H
   try dsimp only at H
   replace H:=bS H
   obtain ⟨⟨t1111,t1114⟩,A47,H⟩:=H
   try dsimp only at H
   have HC48:=Aside0.mk H
   clear H
   go_upto_region 20 with (first|((with_reducible refine gd 127 rfl ?_);refine gC (some 127) rfl Try.func35 (spec_DrawFixedBalls.calls (w:=_) (hr0:=cR (Kd.C_below HR0.out HB.out)) (hc0:=HC0.out) (h:=A45.out)) ?_;intro w49 hb;have n0_:=kB BK1076 hb;have n1_:=kB BK1077 hb;have n2_:=kB BK1087 hb;have n3_:=lB hb;clear BK1076;clear BK1077;clear BK1087;clear HB;have BK1076:=n0_;have BK1077:=n1_;have BK1087:=n2_;have HB:=n3_;clear n0_ n1_ n2_ n3_;clear hb)|((with_reducible refine gate_dst (N:=21) rfl ?_);refine bxE (cs:=#[.int .i64 0,.int .i64 0,.int .i64 0,.int .i64 0]) (t:=26) ?_;intro gb1105 hg w50 hbox hb;have n0_:=kB BK1076 hb;have n1_:=kB BK1077 hb;have n2_:=kB BK1087 hb;have n3_:=lB hb;have n4_:=Aside0.mk hbox;have n5_:=sA hg;have n6_:=sA hg;have n7_:=nA hg BK1076;have n8_:=nB hg BK1076;have n9_:=nA hg BK1077;have n10_:=nB hg BK1077;have n11_:=nA hg BK1087;have n12_:=nB hg BK1087;clear BK1076;clear BK1077;clear BK1087;clear HB;have BK1076:=n0_;have BK1077:=n1_;have BK1087:=n2_;have HB:=n3_;have BK1105:=n4_;have GW1105:=n5_;have GE1105:=n6_;have NB1076_1105:=n7_;have NB1105_1076:=n8_;have NB1077_1105:=n9_;have NB1105_1077:=n10_;have NB1087_1105:=n11_;have NB1105_1087:=n12_;clear n0_ n1_ n2_ n3_ n4_ n5_ n6_ n7_ n8_ n9_ n10_ n11_ n12_;clear hb hbox hg)|((with_reducible refine gate_dst (N:=22) rfl ?_);refine bxE (cs:=#[.int .i64 0,.int .i64 0,.int .i64 0]) (t:=28) ?_;intro gb1106 hg w51 hbox hb;have n0_:=kB BK1076 hb;have n1_:=kB BK1077 hb;have n2_:=kB BK1087 hb;have n3_:=kB BK1105 hb;have n4_:=lB hb;have n5_:=Aside0.mk hbox;have n6_:=sA hg;have n7_:=sA hg;have n8_:=nA hg BK1076;have n9_:=nB hg BK1076;have n10_:=nA hg BK1077;have n11_:=nB hg BK1077;have n12_:=nA hg BK1087;have n13_:=nB hg BK1087;have n14_:=nA hg BK1105;have n15_:=nB hg BK1105;clear BK1076;clear BK1077;clear BK1087;clear BK1105;clear HB;have BK1076:=n0_;have BK1077:=n1_;have BK1087:=n2_;have BK1105:=n3_;have HB:=n4_;have BK1106:=n5_;have GW1106:=n6_;have GE1106:=n7_;have NB1076_1106:=n8_;have NB1106_1076:=n9_;have NB1077_1106:=n10_;have NB1106_1077:=n11_;have NB1087_1106:=n12_;have NB1106_1087:=n13_;have NB1105_1106:=n14_;have NB1106_1105:=n15_;clear n0_ n1_ n2_ n3_ n4_ n5_ n6_ n7_ n8_ n9_ n10_ n11_ n12_ n13_ n14_ n15_;clear hb hbox hg;have hnb52:=NB1105_1076.out;have hnb53:=NB1105_1077.out;have hnb54:=NB1105_1087.out;have hnb55:=NB1105_1106.out;obtain ⟨hcz56_0,hcz56_1,hcz56_2,hcz56_3,hfz56_0,hfz56_1,hfz56_2,hfz56_3⟩:=cz4 BK1105;have hnb57:=NB1106_1076.out;have hnb58:=NB1106_1077.out;have hnb59:=NB1106_1087.out;obtain ⟨hcz60_0,hcz60_1,hcz60_2,hfz60_0,hfz60_1,hfz60_2⟩:=cz3 BK1106)|((with_reducible refine gate_callee (f:=36) rfl ?_);refine gL (some 137) rfl Try.func36 #[.int .i64 t1096,.agg #[.int .i64 t1097,.int .i64 t1098,.int .i64 t1099,.int .i64 t1100],.agg #[.int .i64 t1101,.int .i64 t1102,.int .i64 t1103],.int .i64 t1104] ?_;(with_reducible refine (impl_FixedBalls.calls kj35 t1096 t1097 t1098 t1099 t1100 t1101 t1102 t1103 t1104 t1107 t1110 _ A46.out).mono ?_);rintro e w61 ⟨v1108,rfl,ho0,hb⟩;refine ⟨_,rfl,?_⟩;have n0_:=Aside0.mk (Kd.R_lower (Kd.R_newB (Kd.R_newB ho0 (g:=gb1077) (o:=.cells #[.int .i64 t1073,.int .i64 t1074,.int .i64 t1075] 28 (0,0)) (bkF BK1077)) (g:=gb1106) (o:=.cells #[.int .i64 t1101,.int .i64 t1102,.int .i64 t1103] 28 (0,0)) (bpA BK1106)) (below_size blA));have n1_:=Aside0.mk (blk_below (g:=gb1076) (o:=.cells #[.int .i64 t1069,.int .i64 t1070,.int .i64 t1071,.int .i64 t1072] 26 (0,0)) (bkF BK1076) hb);have n2_:=Aside0.mk (blk_below (g:=gb1077) (o:=.cells #[.int .i64 t1073,.int .i64 t1074,.int .i64 t1075] 28 (0,0)) (bkF BK1077) hb);have n3_:=Aside0.mk (blk_below (g:=gb1087) (o:=.cells #[.int .i64 t1083,.int .i64 t1084,.int .i64 t1085,.int .i64 t1086] 26 (0,0)) (bkF BK1087) hb);have n4_:=Aside0.mk (blk_below (g:=gb1105) (o:=.cells #[.int .i64 t1097,.int .i64 t1098,.int .i64 t1099,.int .i64 t1100] 26 (0,0)) (bpA BK1105) hb);have n5_:=Aside0.mk (blk_below (g:=gb1106) (o:=.cells #[.int .i64 t1101,.int .i64 t1102,.int .i64 t1103] 28 (0,0)) (bpA BK1106) hb);have n6_:=lB hb;clear BK1076;clear BK1077;clear BK1087;clear BK1105;clear BK1106;clear HB;have HO1109:=n0_;have BK1076:=n1_;have BK1077:=n2_;have BK1087:=n3_;have BK1105:=n4_;have BK1106:=n5_;have HB:=n6_;clear n0_ n1_ n2_ n3_ n4_ n5_ n6_;clear ho0 hb;obtain ⟨hcz62_0,hcz62_1,hcz62_2,hcz62_3,hfz62_0,hfz62_1,hfz62_2,hfz62_3⟩:=cz4 BK1105;obtain ⟨hcz63_0,hcz63_1,hcz63_2,hfz63_0,hfz63_1,hfz63_2⟩:=cz3 BK1106)|((with_reducible refine gate_callee (f:=37) rfl ?_);refine gL (some 145) rfl Try.func37 #[.int .i64 t1096,.agg #[.int .i64 t1097,.int .i64 t1098,.int .i64 t1099,.int .i64 t1100],.agg #[.int .i64 t1101,.int .i64 t1102,.int .i64 t1103],.int .i64 t1104] ?_;(with_reducible refine (spec_FixedBalls.calls kj35 t1096 t1097 t1098 t1099 t1100 t1101 t1102 t1103 t1104 t1111 t1114 _ A47.out).mono ?_);rintro e w64 ⟨v1112,rfl,ho0,hb⟩;refine ⟨_,rfl,?_⟩;have n0_:=Aside0.mk (Kd.R_elder' (rA HO1109) (Kd.R_base ho0) hb);have n1_:=Aside0.mk (Kd.R_lower (Kd.R_newB (Kd.R_newB (Kd.R_new' ho0 (Kd.R_lt (rA HO1109))) (bkA BK1077)) (bkA BK1106)) (below_size blA));have n2_:=kB BK1076 hb;have n3_:=kB BK1077 hb;have n4_:=kB BK1087 hb;have n5_:=kB BK1105 hb;have n6_:=kB BK1106 hb;have n7_:=lB hb;clear HO1109;clear BK1076;clear BK1077;clear BK1087;clear BK1105;clear BK1106;clear HB;have HO1109:=n0_;have HO1113:=n1_;have BK1076:=n2_;have BK1077:=n3_;have BK1087:=n4_;have BK1105:=n5_;have BK1106:=n6_;have HB:=n7_;clear n0_ n1_ n2_ n3_ n4_ n5_ n6_ n7_;clear ho0 hb))
   (try simp only [Act.put,List.setIfInBounds_toArray,List.set_cons_zero,List.set_cons_succ])
   go_cut [156] (fun v156 wc=>∃ (kq:Nat) (x156_47:Bool),v156=.bool x156_47∧Aside0 (laws_FnTranslations.j3 kq t1068 t1078 t1079 t1082 t1088 t1089 t1092 t1096 t1104 t1107 x156_47 t1069 t1070 t1071 t1072 t1083 t1084 t1085 t1086 t1097 t1098 t1099 t1100 t1101 t1102 t1103=some r)∧Aside0 (kq≤kj35)∧Aside0 (Kd.R k28 28 wc w.heap.size (fun k_=>k_≠gb1077∧k_≠gb1106) v1108 t1107)∧Aside0 (wc.heap[gb1076]?=some (.cells #[.int .i64 t1069,.int .i64 t1070,.int .i64 t1071,.int .i64 t1072] 26 (0,0)))∧Aside0 (wc.heap[gb1077]?=some (.cells #[.int .i64 t1073,.int .i64 t1074,.int .i64 t1075] 28 (0,0)))∧Aside0 (wc.heap[gb1087]?=some (.cells #[.int .i64 t1083,.int .i64 t1084,.int .i64 t1085,.int .i64 t1086] 26 (0,0)))∧Aside0 (wc.heap[gb1105]?=some (.cells #[.int .i64 t1097,.int .i64 t1098,.int .i64 t1099,.int .i64 t1100] 26 (0,0)))∧Aside0 (wc.heap[gb1106]?=some (.cells #[.int .i64 t1101,.int .i64 t1102,.int .i64 t1103] 28 (0,0)))∧Aside0 (Below w.heap.size w wc))
   case first=>
    have H:=HC48.out
    clear HC48
    by_cases c65:t1110=t1114
    ·
     rw [if_pos c65] at H
     have c65b0:(t1110 == t1114)=true:=beq_iff_eq.mpr c65
     have c65b1:(t1110 != t1114)=false:=bne_eq_false_iff_eq.mpr c65
     clear c65
     (first|rw [c65b0]|(simp only [i64_w,i32_w];rw [c65b0])|skip)
     replace H:=bS H
     obtain ⟨t1115,A66,H⟩:=H
     try dsimp only at H
     have H':=Aside0.mk H
     clear H
     obtain ⟨Ao67,co67,eo67⟩:=Kd.R_slice HO1109.out
     subst eo67
     obtain ⟨Ao68,co68,eo68⟩:=Kd.R_slice HO1113.out
     subst eo68
     go_wp2_with (first|(go_at_call 38;(with_reducible refine (laws_balls9.calls kj35 _ _ t1107 _ _ t1111 t1115 _ ?side1 ?side2 ?side3 ?side4 A66.out).mono ?_);(case side1=>exact cR (Kd.R_reads' HO1109.out).2.2);(case side2=>exact (Kd.R_reads' HO1109.out).2.1);(case side3=>exact cR (Kd.R_reads' HO1113.out).2.2);(case side4=>exact (Kd.R_reads' HO1113.out).2.1);rintro e w' ⟨rfl,⟨nd,rfl⟩⟩))
     go_meet
     case rel=>exact ⟨_,(!t1115),hB,H',⟨by have:=HJ6.out;have:=HJ22.out;have:=HJ35.out;first|omega|exact Nat.le_refl _⟩,⟨by (with_reducible repeat (first|apply Kd.R_alloc|apply Kd.R_drewN|apply Kd.R_drew));exact Kd.R_mono HO1109.out (fun _ hk=>⟨hk.1.1.2,hk.1.2⟩)⟩,⟨bkA BK1076⟩,⟨bkA BK1077⟩,⟨bkA BK1087⟩,⟨bkA BK1105⟩,⟨bkA BK1106⟩,⟨blA⟩⟩
    ·
     rw [if_neg c65] at H
     have c65b0:(t1110 == t1114)=false:=beq_eq_false_iff_ne.mpr c65
     have c65b1:(t1110 != t1114)=true:=bne_iff_ne.mpr c65
     (first|rw [c65b0]|(simp only [i64_w,i32_w];rw [c65b0])|skip)
     have H':=Aside0.mk H
     clear H
     go_wp2
     go_meet
     case rel=>exact ⟨_,(true),hB,H',⟨by have:=HJ6.out;have:=HJ22.out;have:=HJ35.out;first|omega|exact Nat.le_refl _⟩,⟨by (with_reducible repeat (first|apply Kd.R_alloc|apply Kd.R_drewN|apply Kd.R_drew));exact Kd.R_mono HO1109.out (fun _ hk=>⟨hk.1.1.2,hk.1.2⟩)⟩,⟨bkA BK1076⟩,⟨bkA BK1077⟩,⟨bkA BK1087⟩,⟨bkA BK1105⟩,⟨bkA BK1106⟩,⟨blA⟩⟩
   case rest=>
    expose_names
    clear BK1076_1 BK1077_1 BK1087_1 HB_1 HC48 hcz56_0 hcz56_1 hcz56_2 hcz56_3 hfz56_0 hfz56_1 hfz56_2 hfz56_3 hcz60_0 hcz60_1 hcz60_2 hfz60_0 hfz60_1 hfz60_2 hcz62_0 hcz62_1 hcz62_2 hcz62_3 hfz62_0 hfz62_1 hfz62_2 hfz62_3 hcz63_0 hcz63_1 hcz63_2 hfz63_0 hfz63_1 hfz63_2
    revert k A0 c0 l0 r w hu26 hu28 t1068 t1069 t1070 t1071 t1072 t1073 t1074 t1075 t1078 t1079 t1080 t1081 gb1076 gb1077 kj6 t1082 t1083 t1084 t1085 t1086 t1088 t1089 t1090 t1091 gb1087 kj22 t1092 t1093 t1094 t1095 kj35 t1096 t1097 t1098 t1099 t1100 t1101 t1102 t1103 t1104 t1107 t1110 t1111 t1114 gb1105 gb1106 v1108 K w64 v1112 K_1 wc u50 u51 u52 u53 u54 u55 u56 u57 u58 u59 u60 u61 u62 u63 u64 u65 u66 u67 u68 u69 u70 u71 u72 u73 u74 u75 u76 u77 u78 u79 u80 u81 u82 u83 u84 u85 u86 u87 u88 u89 u90 u91 u92 u93 u94 u95 u96 u97 u98 u99 u100 u101 u102 u103 u104 u105 u106 u107 u108 u109 u110 u111 u112 u113 u114 u115 u116 u117 u118 u119 u120 u121 u122 u123 u124 u125 u126 u127 u128 u129 u130 u131 u132 u133 u134 u135 u136 u137 u138 u139 u140 u141 u142 u143 u144 u145 u146 u147 u148 u149 u150 u151 u152 u153 u154 u155 u156 u157 u158 u159 u160 u161 u162 u163 u164 u165 u166 u167 u168 u169 u170 u171 u172 u173 u174 u175 u176 u177 u178 u179 u180 u181 u182 u183 u184 u185 u186 u187 u188 u189 u190 u191 u192 u193 u194 u195 u196 u197 u198 u199 u200 u201 u202 u203 u204 u205 u206 u207 u208 u209 u210 u211 u212 u213 u214 u215 u216 u217 u218 u219 u220 u221 u222 u223 u224 u225 u226 u227 u228 u229 u230 u231 u232 u233 u234 u235 u236 u237 u238 u239 u240 u241 u242 u243 u244 u245 u246 u247 u248 u249 u250 u251 u252 u253 u254 u255 u256 u257 u258 u259 u260 u261 u262 u263 u264 u265 u266 u267 u268 u269 u270 u271 u272 u273 u274 u275 u276 u277 u278 u279 u280 u281 u282 u283 u284 u285 u286 u287 u288 u289 u290 u291 u292 u293 u294 u295 u296 u297 u298 u299 u300 u301 u302 u303 u304 u305 u306 u307 u308 u309 u310 u311 u312 u313 u314 u315 u316 u317 u318 u319 u320 u321 u322
    exact hcutP.out
set_option maxHeartbeats 100000000 in
set_option maxRecDepth 100000 in
noncomputable def laws_FnTranslations.cut3:PSigma fun P:Prop=>Aside0 P→(laws_FnTranslations.cut2.1):=by
 apply PSigma.mk
 ·
  intro hcutP
  conv=>whnf
  intro k A0 c0 l0 r w hu26 hu28 HR0 HC0 A2 t1068 t1069 t1070 t1071 t1072 t1073 t1074 t1075 A4 t1078 t1079 A5 t1080 t1081 A6 _ gb1076 GW1076 GE1076 gb1077 GW1077 GE1077 NB1076_1077 NB1077_1076 kj6 HJ6 t1082 t1083 t1084 t1085 t1086 A20 t1088 t1089 A21 t1090 t1091 A22 gb1087 GW1087 GE1087 NB1076_1087 NB1087_1076 NB1077_1087 NB1087_1077 kj22 HJ22 t1092 t1093 A34 t1094 t1095 A35 hnb37 hnb38 kj35 HJ35 t1096 t1097 t1098 t1099 t1100 t1101 t1102 t1103 t1104 A45 t1107 t1110 A46 t1111 t1114 A47 gb1105 GW1105 GE1105 NB1076_1105 NB1105_1076 NB1077_1105 NB1105_1077 NB1087_1105 NB1105_1087 gb1106 GW1106 GE1106 NB1076_1106 NB1106_1076 NB1077_1106 NB1106_1077 NB1087_1106 NB1106_1087 NB1105_1106 NB1106_1105 hnb52 hnb53 hnb54 hnb55 hnb57 hnb58 hnb59 v1108 _ _ w64 v1112 HO1109 HO1113 BK1076 BK1077 BK1087 BK1105 BK1106 HB _ _ wc _ _ _ _ _ _ _ _ _ _ _ _ _ _ _ _ _ _ _ _ _ _ _ _ _ _ _ _ _ _ _ _ _ _ _ _ _ _ _ _ _ _ _ _ _ _ _ _ _ _ _ _ _ _ _ _ _ _ _ _ _ _ _ _ _ _ _ _ _ _ _ _ _ _ _ _ _ _ _ _ _ _ _ _ _ _ _ _ _ _ _ _ _ _ _ _ _ _ _ _ _ _ _ _ _ _ _ _ _ _ _ _ _ _ _ _ _ _ _ _ _ _ _ _ _ _ _ _ _ _ _ _ _ _ _ _ _ _ _ _ _ _ _ _ _ _ _ _ _ _ _ _ _ _ _ _ _ _ _ _ _ _ _ _ _ _ _ _ _ _ _ _ _ _ _ _ _ _ _ _ _ _ _ _ _ _ _ _ _ _ _ _ _ _ _ _ _ _ _ _ _ _ _ _ _ _ _ _ _ _ _ _ _ _ _ _ _ _ _ _ _ _ _ _ _ _ _ _ _ _ _ _ _ _ _ _ _ _ _ _ _ _ _ _ _ _ _ _ _ _ _ _ _ _ _ _ _ _ _ _ _ _ _ _ _ _ _ _ _ _ _ _ _ hcut
  obtain ⟨kq,x156_47,rfl,HA,HJ47,HO_24,BK1076,BK1077,BK1087,BK1105,BK1106,HB⟩:=hcut
  cases kq with
  | zero=>exact absurd HA.out (by simp [laws_FnTranslations.j3])
  | succ kj47=>
   have H:=HA.out
   clear HA
   simp only [laws_FnTranslations.j3] at H
   by_cases c69:x156_47=true
   ·
    subst c69
    rw [if_pos rfl] at H
    try dsimp only at H
    exact absurd H (by simp)
   replace c69:=Bool.eq_false_iff.mpr c69
   subst c69
   rw [if_neg (show ¬ (false=true) by decide)] at H
   try dsimp only at H
   replace H:=bS H
   obtain ⟨⟨t1116,t1119⟩,A70,H⟩:=H
   try dsimp only at H
   replace H:=bS H
   obtain ⟨⟨t1120,t1123⟩,A71,H⟩:=H
   try dsimp only at H
   have HC72:=Aside0.mk H
   clear H
   try clear hnb37 hnb38
   try clear hnb52 hnb53 hnb54 hnb55 hnb57 hnb58 hnb59
   have hnb73:=NB1105_1076.out
   have hnb74:=NB1105_1077.out
   have hnb75:=NB1105_1087.out
   have hnb76:=NB1105_1106.out
   obtain ⟨hcz77_0,hcz77_1,hcz77_2,hcz77_3,hfz77_0,hfz77_1,hfz77_2,hfz77_3⟩:=cz4 BK1105
   try clear hnb73 hnb74 hnb75 hnb76
   have hnb78:=NB1106_1076.out
   have hnb79:=NB1106_1077.out
   have hnb80:=NB1106_1087.out
   obtain ⟨hcz81_0,hcz81_1,hcz81_2,hfz81_0,hfz81_1,hfz81_2⟩:=cz3 BK1106
   go_upto_region 24 with (first|((with_reducible refine gate_callee (f:=39) rfl ?_);refine gL (some 162) rfl Try.func39 #[.int .i64 t1096,.agg #[.int .i64 t1097,.int .i64 t1098,.int .i64 t1099,.int .i64 t1100],.agg #[.int .i64 t1101,.int .i64 t1102,.int .i64 t1103],.int .i64 t1104] ?_;(with_reducible refine (impl_AxisBalls.calls kj47 t1096 t1097 t1098 t1099 t1100 t1101 t1102 t1103 t1104 t1116 t1119 _ A70.out).mono ?_);rintro e w82 ⟨v1117,rfl,ho0,hb⟩;refine ⟨_,rfl,?_⟩;have n0_:=Aside0.mk (Kd.R_elder' (rA HO_24) (Kd.R_base ho0) hb);have n1_:=Aside0.mk (Kd.R_lower (Kd.R_newB (Kd.R_newB (Kd.R_new' ho0 (Kd.R_lt (rA HO_24))) (bkA BK1077)) (bkA BK1106)) (below_size blA));have n2_:=kB BK1076 hb;have n3_:=kB BK1077 hb;have n4_:=kB BK1087 hb;have n5_:=kB BK1105 hb;have n6_:=kB BK1106 hb;have n7_:=lB hb;clear HO_24;clear BK1076;clear BK1077;clear BK1087;clear BK1105;clear BK1106;clear HB;have HO_24:=n0_;have HO1118:=n1_;have BK1076:=n2_;have BK1077:=n3_;have BK1087:=n4_;have BK1105:=n5_;have BK1106:=n6_;have HB:=n7_;clear n0_ n1_ n2_ n3_ n4_ n5_ n6_ n7_;clear ho0 hb;obtain ⟨hcz83_0,hcz83_1,hcz83_2,hcz83_3,hfz83_0,hfz83_1,hfz83_2,hfz83_3⟩:=cz4 BK1105;obtain ⟨hcz84_0,hcz84_1,hcz84_2,hfz84_0,hfz84_1,hfz84_2⟩:=cz3 BK1106)|((with_reducible refine gate_callee (f:=40) rfl ?_);refine gL (some 170) rfl Try.func40 #[.int .i64 t1096,.agg #[.int .i64 t1097,.int .i64 t1098,.int .i64 t1099,.int .i64 t1100],.agg #[.int .i64 t1101,.int .i64 t1102,.int .i64 t1103],.int .i64 t1104] ?_;(with_reducible refine (spec_AxisBalls.calls kj47 t1096 t1097 t1098 t1099 t1100 t1101 t1102 t1103 t1104 t1120 t1123 _ A71.out).mono ?_);rintro e w85 ⟨v1121,rfl,ho0,hb⟩;refine ⟨_,rfl,?_⟩;have n0_:=Aside0.mk (Kd.R_elder' (rA HO_24) (Kd.R_base ho0) hb);have n1_:=Aside0.mk (Kd.R_elder' (rA HO1118) (Kd.R_base ho0) hb);have n2_:=Aside0.mk (Kd.R_lower (Kd.R_newB (Kd.R_newB (Kd.R_new' (Kd.R_new' ho0 (Kd.R_lt (rA HO_24))) (Kd.R_lt (rA HO1118))) (bkA BK1077)) (bkA BK1106)) (below_size blA));have n3_:=kB BK1076 hb;have n4_:=kB BK1077 hb;have n5_:=kB BK1087 hb;have n6_:=kB BK1105 hb;have n7_:=kB BK1106 hb;have n8_:=lB hb;clear HO_24;clear HO1118;clear BK1076;clear BK1077;clear BK1087;clear BK1105;clear BK1106;clear HB;have HO_24:=n0_;have HO1118:=n1_;have HO1122:=n2_;have BK1076:=n3_;have BK1077:=n4_;have BK1087:=n5_;have BK1105:=n6_;have BK1106:=n7_;have HB:=n8_;clear n0_ n1_ n2_ n3_ n4_ n5_ n6_ n7_ n8_;clear ho0 hb))
   (try simp only [Act.put,List.setIfInBounds_toArray,List.set_cons_zero,List.set_cons_succ])
   go_cut [181] (fun v181 wc=>∃ (kq:Nat) (x181_71:Bool),v181=.bool x181_71∧Aside0 (laws_FnTranslations.j4 kq t1068 t1078 t1079 t1082 t1088 t1089 t1092 t1096 t1107 t1116 x181_71 t1069 t1070 t1071 t1072 t1083 t1084 t1085 t1086 t1097 t1098 t1099 t1100=some r)∧Aside0 (kq≤kj47)∧Aside0 (Kd.R k28 28 wc w.heap.size (fun k_=>some k_≠(v1117:Value).ownBlock∧k_≠gb1077∧k_≠gb1106) v1108 t1107)∧Aside0 (Kd.R k28 28 wc w.heap.size (fun k_=>some k_≠(v1108:Value).ownBlock∧k_≠gb1077∧k_≠gb1106) v1117 t1116)∧Aside0 (wc.heap[gb1076]?=some (.cells #[.int .i64 t1069,.int .i64 t1070,.int .i64 t1071,.int .i64 t1072] 26 (0,0)))∧Aside0 (wc.heap[gb1077]?=some (.cells #[.int .i64 t1073,.int .i64 t1074,.int .i64 t1075] 28 (0,0)))∧Aside0 (wc.heap[gb1087]?=some (.cells #[.int .i64 t1083,.int .i64 t1084,.int .i64 t1085,.int .i64 t1086] 26 (0,0)))∧Aside0 (wc.heap[gb1105]?=some (.cells #[.int .i64 t1097,.int .i64 t1098,.int .i64 t1099,.int .i64 t1100] 26 (0,0)))∧Aside0 (wc.heap[gb1106]?=some (.cells #[.int .i64 t1101,.int .i64 t1102,.int .i64 t1103] 28 (0,0)))∧Aside0 (Below w.heap.size w wc))
   case first=>
    have H:=HC72.out
    clear HC72
    by_cases c86:t1119=t1123
    ·
     rw [if_pos c86] at H
     have c86b0:(t1119 == t1123)=true:=beq_iff_eq.mpr c86
     have c86b1:(t1119 != t1123)=false:=bne_eq_false_iff_eq.mpr c86
     clear c86
     (first|rw [c86b0]|(simp only [i64_w,i32_w];rw [c86b0])|skip)
     replace H:=bS H
     obtain ⟨t1124,A87,H⟩:=H
     try dsimp only at H
     have H':=Aside0.mk H
     clear H
     obtain ⟨Ao88,co88,eo88⟩:=Kd.R_slice HO1118.out
     subst eo88
     obtain ⟨Ao89,co89,eo89⟩:=Kd.R_slice HO1122.out
     subst eo89
     go_wp2_with (first|(go_at_call 38;(with_reducible refine (laws_balls9.calls kj47 _ _ t1116 _ _ t1120 t1124 _ ?side1 ?side2 ?side3 ?side4 A87.out).mono ?_);(case side1=>exact cR (Kd.R_reads' HO1118.out).2.2);(case side2=>exact (Kd.R_reads' HO1118.out).2.1);(case side3=>exact cR (Kd.R_reads' HO1122.out).2.2);(case side4=>exact (Kd.R_reads' HO1122.out).2.1);rintro e w' ⟨rfl,⟨nd,rfl⟩⟩))
     go_meet
     case rel=>exact ⟨_,(!t1124),hB,H',⟨by have:=HJ6.out;have:=HJ22.out;have:=HJ35.out;have:=HJ47.out;first|omega|exact Nat.le_refl _⟩,⟨by (with_reducible repeat (first|apply Kd.R_alloc|apply Kd.R_drewN|apply Kd.R_drew));exact Kd.R_mono HO_24.out (fun _ hk=>⟨hk.1.2,⟨hk.1.1.1,hk.1.1.2⟩⟩)⟩,⟨by (with_reducible repeat (first|apply Kd.R_alloc|apply Kd.R_drewN|apply Kd.R_drew));exact Kd.R_mono HO1118.out (fun _ hk=>⟨hk.1.1.1.2,⟨hk.1.1.2,hk.1.2⟩⟩)⟩,⟨bkA BK1076⟩,⟨bkA BK1077⟩,⟨bkA BK1087⟩,⟨bkA BK1105⟩,⟨bkA BK1106⟩,⟨blA⟩⟩
    ·
     rw [if_neg c86] at H
     have c86b0:(t1119 == t1123)=false:=beq_eq_false_iff_ne.mpr c86
     have c86b1:(t1119 != t1123)=true:=bne_iff_ne.mpr c86
     (first|rw [c86b0]|(simp only [i64_w,i32_w];rw [c86b0])|skip)
     have H':=Aside0.mk H
     clear H
     go_wp2
     go_meet
     case rel=>exact ⟨_,(true),hB,H',⟨by have:=HJ6.out;have:=HJ22.out;have:=HJ35.out;have:=HJ47.out;first|omega|exact Nat.le_refl _⟩,⟨by (with_reducible repeat (first|apply Kd.R_alloc|apply Kd.R_drewN|apply Kd.R_drew));exact Kd.R_mono HO_24.out (fun _ hk=>⟨hk.1.2,⟨hk.1.1.1,hk.1.1.2⟩⟩)⟩,⟨by (with_reducible repeat (first|apply Kd.R_alloc|apply Kd.R_drewN|apply Kd.R_drew));exact Kd.R_mono HO1118.out (fun _ hk=>⟨hk.1.1.1.2,⟨hk.1.1.2,hk.1.2⟩⟩)⟩,⟨bkA BK1076⟩,⟨bkA BK1077⟩,⟨bkA BK1087⟩,⟨bkA BK1105⟩,⟨bkA BK1106⟩,⟨blA⟩⟩
   case rest=>
    expose_names
    clear BK1076_1 BK1077_1 BK1087_1 BK1105_1 BK1106_1 HB_1 HC72 hcz77_0 hcz77_1 hcz77_2 hcz77_3 hfz77_0 hfz77_1 hfz77_2 hfz77_3 hcz81_0 hcz81_1 hcz81_2 hfz81_0 hfz81_1 hfz81_2 hcz83_0 hcz83_1 hcz83_2 hcz83_3 hfz83_0 hfz83_1 hfz83_2 hfz83_3 hcz84_0 hcz84_1 hcz84_2 hfz84_0 hfz84_1 hfz84_2
    revert k A0 c0 l0 r w hu26 hu28 t1068 t1069 t1070 t1071 t1072 t1073 t1074 t1075 t1078 t1079 t1080 t1081 gb1076 gb1077 kj6 t1082 t1083 t1084 t1085 t1086 t1088 t1089 t1090 t1091 gb1087 kj22 t1092 t1093 t1094 t1095 kj35 t1096 t1097 t1098 t1099 t1100 t1101 t1102 t1103 t1104 t1107 t1110 t1111 t1114 gb1105 gb1106 v1108 w64 v1112 kj47 t1116 t1119 t1120 t1123 v1117 K w85 v1121 K_1 wc u50 u51 u52 u53 u54 u55 u56 u57 u58 u59 u60 u61 u62 u63 u64 u65 u66 u67 u68 u69 u70 u71 u72 u73 u74 u75 u76 u77 u78 u79 u80 u81 u82 u83 u84 u85 u86 u87 u88 u89 u90 u91 u92 u93 u94 u95 u96 u97 u98 u99 u100 u101 u102 u103 u104 u105 u106 u107 u108 u109 u110 u111 u112 u113 u114 u115 u116 u117 u118 u119 u120 u121 u122 u123 u124 u125 u126 u127 u128 u129 u130 u131 u132 u133 u134 u135 u136 u137 u138 u139 u140 u141 u142 u143 u144 u145 u146 u147 u148 u149 u150 u151 u152 u153 u154 u155 u156 u157 u158 u159 u160 u161 u162 u163 u164 u165 u166 u167 u168 u169 u170 u171 u172 u173 u174 u175 u176 u177 u178 u179 u180 u181 u182 u183 u184 u185 u186 u187 u188 u189 u190 u191 u192 u193 u194 u195 u196 u197 u198 u199 u200 u201 u202 u203 u204 u205 u206 u207 u208 u209 u210 u211 u212 u213 u214 u215 u216 u217 u218 u219 u220 u221 u222 u223 u224 u225 u226 u227 u228 u229 u230 u231 u232 u233 u234 u235 u236 u237 u238 u239 u240 u241 u242 u243 u244 u245 u246 u247 u248 u249 u250 u251 u252 u253 u254 u255 u256 u257 u258 u259 u260 u261 u262 u263 u264 u265 u266 u267 u268 u269 u270 u271 u272 u273 u274 u275 u276 u277 u278 u279 u280 u281 u282 u283 u284 u285 u286 u287 u288 u289 u290 u291 u292 u293 u294 u295 u296 u297 u298 u299 u300 u301 u302 u303 u304 u305 u306 u307 u308 u309 u310 u311 u312 u313 u314 u315 u316 u317 u318 u319 u320 u321 u322
    exact hcutP.out
set_option maxHeartbeats 100000000 in
set_option maxRecDepth 100000 in
noncomputable def laws_FnTranslations.cut4:PSigma fun P:Prop=>Aside0 P→(laws_FnTranslations.cut3.1):=by
 apply PSigma.mk
 ·
  intro hcutP
  conv=>whnf
  intro k A0 c0 l0 r w hu26 hu28 HR0 HC0 A2 t1068 t1069 t1070 t1071 t1072 t1073 t1074 t1075 A4 t1078 t1079 A5 t1080 t1081 A6 _ gb1076 GW1076 GE1076 gb1077 GW1077 GE1077 NB1076_1077 NB1077_1076 kj6 HJ6 t1082 t1083 t1084 t1085 t1086 A20 t1088 t1089 A21 t1090 t1091 A22 gb1087 GW1087 GE1087 NB1076_1087 NB1087_1076 NB1077_1087 NB1087_1077 kj22 HJ22 t1092 t1093 A34 t1094 t1095 A35 kj35 HJ35 t1096 t1097 t1098 t1099 t1100 t1101 t1102 t1103 t1104 A45 t1107 t1110 A46 t1111 t1114 A47 gb1105 GW1105 GE1105 NB1076_1105 NB1105_1076 NB1077_1105 NB1105_1077 NB1087_1105 NB1105_1087 gb1106 GW1106 GE1106 NB1076_1106 NB1106_1076 NB1077_1106 NB1106_1077 NB1087_1106 NB1106_1087 NB1105_1106 NB1106_1105 v1108 w64 v1112 HO1109 HO1113 kj47 HJ47 t1116 t1119 A70 t1120 t1123 A71 hnb78 hnb79 hnb80 v1117 _ _ w85 v1121 HO_24 HO1118 HO1122 BK1076 BK1077 BK1087 BK1105 BK1106 HB _ _ wc _ _ _ _ _ _ _ _ _ _ _ _ _ _ _ _ _ _ _ _ _ _ _ _ _ _ _ _ _ _ _ _ _ _ _ _ _ _ _ _ _ _ _ _ _ _ _ _ _ _ _ _ _ _ _ _ _ _ _ _ _ _ _ _ _ _ _ _ _ _ _ _ _ _ _ _ _ _ _ _ _ _ _ _ _ _ _ _ _ _ _ _ _ _ _ _ _ _ _ _ _ _ _ _ _ _ _ _ _ _ _ _ _ _ _ _ _ _ _ _ _ _ _ _ _ _ _ _ _ _ _ _ _ _ _ _ _ _ _ _ _ _ _ _ _ _ _ _ _ _ _ _ _ _ _ _ _ _ _ _ _ _ _ _ _ _ _ _ _ _ _ _ _ _ _ _ _ _ _ _ _ _ _ _ _ _ _ _ _ _ _ _ _ _ _ _ _ _ _ _ _ _ _ _ _ _ _ _ _ _ _ _ _ _ _ _ _ _ _ _ _ _ _ _ _ _ _ _ _ _ _ _ _ _ _ _ _ _ _ _ _ _ _ _ _ _ _ _ _ _ _ _ _ _ _ _ _ _ _ _ _ _ _ _ _ _ _ _ _ _ _ _ _ hcut
  obtain ⟨kq,x181_71,rfl,HA,HJ71,HO_24,HO_28,BK1076,BK1077,BK1087,BK1105,BK1106,HB⟩:=hcut
  cases kq with
  | zero=>exact absurd HA.out (by simp [laws_FnTranslations.j4])
  | succ kj71=>
   have H:=HA.out
   clear HA
   simp only [laws_FnTranslations.j4] at H
   by_cases c90:x181_71=true
   ·
    subst c90
    rw [if_pos rfl] at H
    try dsimp only at H
    exact absurd H (by simp)
   replace c90:=Bool.eq_false_iff.mpr c90
   subst c90
   rw [if_neg (show ¬ (false=true) by decide)] at H
   try dsimp only at H
   have H':=Aside0.mk H
   clear H
   go_wp2
   go_loopg [32] kj71 (fun kq v32 w'=>∃ (x32_6:Int),v32=.int .i64 x32_6∧Aside0 (laws_FnTranslations.l0 kq t1068 t1078 t1079 t1082 t1088 t1089 t1092 t1096 t1107 t1116 x32_6 t1069 t1070 t1071 t1072 t1083 t1084 t1085 t1086 t1097 t1098 t1099 t1100=some r)∧Aside0 (kq≤kj71)∧Aside0 (Kd.R k28 28 w' w.heap.size (fun k_=>some k_≠(v1117:Value).ownBlock∧k_≠gb1077∧k_≠gb1106) v1108 t1107)∧Aside0 (Kd.R k28 28 w' w.heap.size (fun k_=>some k_≠(v1108:Value).ownBlock∧k_≠gb1077∧k_≠gb1106) v1117 t1116)∧Aside0 (w'.heap[gb1076]?=some (.cells #[.int .i64 t1069,.int .i64 t1070,.int .i64 t1071,.int .i64 t1072] 26 (0,0)))∧Aside0 (w'.heap[gb1077]?=some (.cells #[.int .i64 t1073,.int .i64 t1074,.int .i64 t1075] 28 (0,0)))∧Aside0 (w'.heap[gb1087]?=some (.cells #[.int .i64 t1083,.int .i64 t1084,.int .i64 t1085,.int .i64 t1086] 26 (0,0)))∧Aside0 (w'.heap[gb1105]?=some (.cells #[.int .i64 t1097,.int .i64 t1098,.int .i64 t1099,.int .i64 t1100] 26 (0,0)))∧Aside0 (w'.heap[gb1106]?=some (.cells #[.int .i64 t1101,.int .i64 t1102,.int .i64 t1103] 28 (0,0)))∧Aside0 (Below w.heap.size w w'))
   case atStart=>exact ⟨(0),hB,H',⟨Nat.le_refl _⟩,⟨rA HO_24⟩,⟨rA HO_28⟩,⟨bkA BK1076⟩,⟨bkA BK1077⟩,⟨bkA BK1087⟩,⟨bkA BK1105⟩,⟨bkA BK1106⟩,⟨blA⟩⟩
   case round=>
    expose_names
    clear HO_24_1 BK1076_1 BK1077_1 BK1087_1 BK1105_1 BK1106_1 HB_1 H'
    revert k A0 c0 l0 r w hu26 hu28 t1068 t1069 t1070 t1071 t1072 t1073 t1074 t1075 t1078 t1079 t1080 t1081 gb1076 gb1077 kj6 t1082 t1083 t1084 t1085 t1086 t1088 t1089 t1090 t1091 gb1087 kj22 t1092 t1093 t1094 t1095 kj35 t1096 t1097 t1098 t1099 t1100 t1101 t1102 t1103 t1104 t1107 t1110 t1111 t1114 gb1105 gb1106 v1108 w64 v1112 kj47 t1116 t1119 t1120 t1123 v1117 w85 v1121 wc u50 u51 u52 u53 u54 u55 u56 u57 u58 u59 u60 u61 u62 u63 u64 u65 u66 u67 u68 u69 u70 u71 u72 u73 u74 u75 u76 u77 u78 u79 u80 u81 u82 u83 u84 u85 u86 u87 u88 u89 u90 u91 u92 u93 u94 u95 u96 u97 u98 u99 u100 u101 u102 u103 u104 u105 u106 u107 u108 u109 u110 u111 u112 u113 u114 u115 u116 u117 u118 u119 u120 u121 u122 u123 u124 u125 u126 u127 u128 u129 u130 u131 u132 u133 u134 u135 u136 u137 u138 u139 u140 u141 u142 u143 u144 u145 u146 u147 u148 u149 u150 u151 u152 u153 u154 u155 u156 u157 u158 u159 u160 u161 u162 u163 u164 u165 u166 u167 u168 u169 u170 u171 u172 u173 u174 u175 u176 u177 u178 u179 u180 u208 u209 u210 u211 u212 u213 u214 u215 u216 u217 u218 u219 u220 u221 u222 u223 u224 u225 u226 u227 u228 u229 u230 u231 u232 u233 u234 u235 u236 u237 u238 u239 u240 u241 u242 u243 u244 u245 u246 u247 u248 u249 u250 u251 u252 u253 u254 u255 u256 u257 u258 u259 u260 u261 u262 u263 u264 u265 u266 u267 u268 u269 u270 u271 u272 u273 u274 u275 u276 u277 u278 u279 u280 u281 u282 u283 u284 u285 u286 u287 u288 u289 u290 u291 u292 u293 u294 u295 u296 u297 u298 u299 u300 u301 u302 u303 u304 u305 u306 u307 u308 u309 u310 u311 u312 u313 u314 u315 u316 u317 u318 u319 u320 u321 u322 kj71 K gk wr u2 u32 u33 u34 u182 u183 u184 u185 u186 u187 u188 u189 u190 u191 u192 u193 u194 u195 u196 u197 u198 u199 u200 u201 u202 u203 u204 u205 u206 u207 J K_1
    exact hcutP.out
set_option maxHeartbeats 100000000 in
set_option maxRecDepth 100000 in
noncomputable def laws_FnTranslations.cut5:PSigma fun P:Prop=>Aside0 P→(laws_FnTranslations.cut4.1):=by
 apply PSigma.mk
 ·
  intro hcutP
  conv=>whnf
  intro k A0 c0 l0 r w hu26 hu28 HR0 HC0 A2 t1068 t1069 t1070 t1071 t1072 t1073 t1074 t1075 A4 t1078 t1079 A5 t1080 t1081 A6 _ gb1076 GW1076 GE1076 gb1077 GW1077 GE1077 NB1076_1077 NB1077_1076 kj6 HJ6 t1082 t1083 t1084 t1085 t1086 A20 t1088 t1089 A21 t1090 t1091 A22 gb1087 GW1087 GE1087 NB1076_1087 NB1087_1076 NB1077_1087 NB1087_1077 kj22 HJ22 t1092 t1093 A34 t1094 t1095 A35 kj35 HJ35 t1096 t1097 t1098 t1099 t1100 t1101 t1102 t1103 t1104 A45 t1107 t1110 A46 t1111 t1114 A47 gb1105 GW1105 GE1105 NB1076_1105 NB1105_1076 NB1077_1105 NB1105_1077 NB1087_1105 NB1105_1087 gb1106 GW1106 GE1106 NB1076_1106 NB1106_1076 NB1077_1106 NB1106_1077 NB1087_1106 NB1106_1087 NB1105_1106 NB1106_1105 v1108 w64 v1112 HO1109 HO1113 kj47 HJ47 t1116 t1119 A70 t1120 t1123 A71 hnb78 hnb79 hnb80 v1117 w85 v1121 HO1118 HO1122 wc _ _ _ _ _ _ _ _ _ _ _ _ _ _ _ _ _ _ _ _ _ _ _ _ _ _ _ _ _ _ _ _ _ _ _ _ _ _ _ _ _ _ _ _ _ _ _ _ _ _ _ _ _ _ _ _ _ _ _ _ _ _ _ _ _ _ _ _ _ _ _ _ _ _ _ _ _ _ _ _ _ _ _ _ _ _ _ _ _ _ _ _ _ _ _ _ _ _ _ _ _ _ _ _ _ _ _ _ _ _ _ _ _ _ _ _ _ _ _ _ _ _ _ _ _ _ _ _ _ _ _ _ _ _ _ _ _ _ _ _ _ _ _ _ _ _ _ _ _ _ _ _ _ _ _ _ _ _ _ _ _ _ _ _ _ _ _ _ _ _ _ _ _ _ _ _ _ _ _ _ _ _ _ _ _ _ _ _ _ _ _ _ _ _ _ _ _ _ _ _ _ _ _ _ _ _ _ _ _ _ _ _ _ _ _ _ _ _ _ _ _ _ _ _ _ _ _ _ _ _ _ _ _ _ _ _ _ _ _ _ _ _ _ _ _ _ HO_24 HO_28 BK1076 BK1077 BK1087 BK1105 BK1106 HB kj71 HJ71 _ _ gk wr _ _ _ _ _ _ _ _ _ _ _ _ _ _ _ _ _ _ _ _ _ _ _ _ _ _ _ _ _ _ hrel _ _ _ _
  obtain ⟨x32_6,rfl,HA,HK6,HO_24,HO_28,BK1076,BK1077,BK1087,BK1105,BK1106,HB⟩:=hrel
  cases gk with
  | zero=>exact absurd HA.out (by simp [laws_FnTranslations.l0])
  | succ k6=>
   have H:=HA.out
   clear HA
   simp only [laws_FnTranslations.l0] at H
   by_cases c91:x32_6<(t1107.length:Int)
   ·
    rw [if_pos c91] at H
    have c91b0:=decide_eq_true c91
    clear c91
    by_cases c92:0≤x32_6
    rotate_left
    ·
     rw [if_neg c92] at H
     exact absurd H (by simp)
    rw [if_pos c92] at H
    have c92b0:=decide_eq_true c92
    clear c92
    replace H:=bS H
    obtain ⟨⟨t1126,t1127,t1128,t1129⟩,A93,H⟩:=H
    try dsimp only at H
    by_cases c94:t1129=0
    rotate_left
    ·
     rw [if_neg c94] at H
     have c94b0:(t1129 == 0)=false:=beq_eq_false_iff_ne.mpr c94
     have c94b1:(t1129 != 0)=true:=bne_iff_ne.mpr c94
     exact absurd H (by simp)
    rw [if_pos c94] at H
    have c94b0:(t1129 == 0)=true:=beq_iff_eq.mpr c94
    have c94b1:(t1129 != 0)=false:=bne_eq_false_iff_eq.mpr c94
    clear c94
    by_cases c95:(!(t1126 == ((rd_T28 t1107 x32_6).f0)) || (!(t1127 == ((rd_T28 t1107 x32_6).f1)) || (!(t1128 == ((rd_T28 t1107 x32_6).f2)))))=true
    ·
     rw [if_pos c95] at H
     exact absurd H (by simp)
    rw [if_neg c95] at H
    have c95b0:(!(t1126 == ((rd_T28 t1107 x32_6).f0)) || (!(t1127 == ((rd_T28 t1107 x32_6).f1)) || (!(t1128 == ((rd_T28 t1107 x32_6).f2)))))=false:=by simpa using c95
    clear c95
    have H':=Aside0.mk H
    clear H
    obtain ⟨Ao96,co96,eo96⟩:=Kd.R_slice HO_24.out
    subst eo96
    try go_wp2
    have n0_:=Aside0.mk (Kd.R_drew HO_24.out)
    have n1_:=Aside0.mk (Kd.R_drew HO_28.out)
    have n2_:=Aside0.mk (blk_drew BK1076.out)
    have n3_:=Aside0.mk (blk_drew BK1077.out)
    have n4_:=Aside0.mk (blk_drew BK1087.out)
    have n5_:=Aside0.mk (blk_drew BK1105.out)
    have n6_:=Aside0.mk (blk_drew BK1106.out)
    have n7_:=Aside0.mk (below_drew1 HB.out)
    clear HO_24
    clear HO_28
    clear BK1076
    clear BK1077
    clear BK1087
    clear BK1105
    clear BK1106
    clear HB
    have HO_24:=n0_
    have HO_28:=n1_
    have BK1076:=n2_
    have BK1077:=n3_
    have BK1087:=n4_
    have BK1105:=n5_
    have BK1106:=n6_
    have HB:=n7_
    clear n0_ n1_ n2_ n3_ n4_ n5_ n6_ n7_
    have p1125:0≤(x32_6:Int):=dA
    have q1125:x32_6<(t1107.length:Int):=dA
    obtain ⟨ad1125,e1125,hx1125_0,hx1125_1,hx1125_2⟩:=at_T28 (Kd.R_reads' HO_24.out).2.2 x32_6 p1125 q1125
    cases e1125
    replace p1125:=eq_true p1125
    replace q1125:=eq_true q1125
    refine start_ (n:=13) (S:=fun w'=>w'.cell? ⟨gb1105,0,none⟩=some (.int .i64 t1097)∧w'.cell? ⟨gb1105,1,none⟩=some (.int .i64 t1098)∧w'.cell? ⟨gb1105,2,none⟩=some (.int .i64 t1099)∧w'.cell? ⟨gb1105,3,none⟩=some (.int .i64 t1100)∧w'.cell? (ad1125.add ((x32_6).toNat*3))=some (.int .i64 ((rd_T28 t1107 x32_6).f0))∧w'.cell? ⟨(ad1125.add ((x32_6).toNat*3)).block,(ad1125.add ((x32_6).toNat*3)).off+1,none⟩=some (.int .i64 ((rd_T28 t1107 x32_6).f1))∧w'.cell? ⟨(ad1125.add ((x32_6).toNat*3)).block,(ad1125.add ((x32_6).toNat*3)).off+2,none⟩=some (.int .i64 ((rd_T28 t1107 x32_6).f2))) (ds:=[]) #[Z,Z,Z,Z,Z,Z,Z,Z,Z,Z,Z,Z,Z] (by kernel_rfl) rfl rfl ⟨cA BK1105 0,cA BK1105 1,cA BK1105 2,cA BK1105 3,hx1125_0,hx1125_1,hx1125_2⟩ (fun hHeld=>?_);refine with_tabW laws_FnTranslations.tab29 laws_FnTranslations.bits29 (fun HT_ HW_=>?_)
    generalize wr.drew=w97 at HO_24 HO_28 BK1076 BK1077 BK1087 BK1105 BK1106 HB hx1125_0 hx1125_1 hx1125_2 hHeld ⊢
    refine puA (i:=0) (N:=some 189) #[Y,Z,Z,Z,Z,Z,Z,Z,Z,Z,Z,Z,Z] rfl rfl HT_ ?_
    refine puA (i:=2) (N:=some 191) #[Y,Z,Y,Z,Z,Z,Z,Z,Z,Z,Z,Z,Z] rfl rfl HT_ ?_
    refine puA (i:=3) (N:=some 192) #[Y,Z,Y,Y,Z,Z,Z,Z,Z,Z,Z,Z,Z] rfl rfl HT_ ?_
    refine puA (i:=4) (N:=some 193) #[Y,Z,Y,Y,Y,Z,Z,Z,Z,Z,Z,Z,Z] rfl rfl HT_ ?_
    refine taA (i:=1) (N:=some 190) #[Y,Y,Y,Y,Y,Z,Z,Z,Z,Z,Z,Z,Z] rfl rfl HT_ HW_ hHeld ?_
    refine taA (i:=5) (N:=some 194) #[Y,Y,Y,Y,Y,Y,Z,Z,Z,Z,Z,Z,Z] rfl rfl HT_ HW_ hHeld ?_
    refine join_ (σ:=Nat) 2 #[Y,Y,Y,Y,Y,Y,Y,Y,Y,Y,Y,Z,Z] (fun s_=>[(195,.tuple #[.agg #[.int .i64 t1126,.int .i64 t1127,.int .i64 t1128],.int .i64 t1129]),(33,.pointer (some ⟨s_,0,none⟩)),(188,.tuple #[.agg #[.int .i64 t1126,.int .i64 t1127,.int .i64 t1128],.int .i64 t1129]),(196,.agg #[.int .i64 t1126,.int .i64 t1127,.int .i64 t1128]),(197,.int .i64 t1129)]) (fun s_ w'=>(w'.cell? ⟨gb1105,0,none⟩=some (.int .i64 t1097)∧w'.cell? ⟨gb1105,1,none⟩=some (.int .i64 t1098)∧w'.cell? ⟨gb1105,2,none⟩=some (.int .i64 t1099)∧w'.cell? ⟨gb1105,3,none⟩=some (.int .i64 t1100)∧w'.cell? (ad1125.add ((x32_6).toNat*3))=some (.int .i64 ((rd_T28 t1107 x32_6).f0))∧w'.cell? ⟨(ad1125.add ((x32_6).toNat*3)).block,(ad1125.add ((x32_6).toNat*3)).off+1,none⟩=some (.int .i64 ((rd_T28 t1107 x32_6).f1))∧w'.cell? ⟨(ad1125.add ((x32_6).toNat*3)).block,(ad1125.add ((x32_6).toNat*3)).off+2,none⟩=some (.int .i64 ((rd_T28 t1107 x32_6).f2)))∧(Kd.R k28 28 w' w.heap.size (fun k_=>some k_≠(v1117:Value).ownBlock∧k_≠gb1077∧k_≠gb1106∧k_≠s_) (.slice (some ad1125) t1107.length co96) t1107)∧(Kd.R k28 28 w' w.heap.size (fun k_=>some k_≠(.slice (some ad1125) t1107.length co96:Value).ownBlock∧k_≠gb1077∧k_≠gb1106∧k_≠s_) v1117 t1116)∧(w'.heap[gb1076]?=some (.cells #[.int .i64 t1069,.int .i64 t1070,.int .i64 t1071,.int .i64 t1072] 26 (0,0)))∧(w'.heap[gb1077]?=some (.cells #[.int .i64 t1073,.int .i64 t1074,.int .i64 t1075] 28 (0,0)))∧(w'.heap[gb1087]?=some (.cells #[.int .i64 t1083,.int .i64 t1084,.int .i64 t1085,.int .i64 t1086] 26 (0,0)))∧(w'.heap[gb1105]?=some (.cells #[.int .i64 t1097,.int .i64 t1098,.int .i64 t1099,.int .i64 t1100] 26 (0,0)))∧(w'.heap[gb1106]?=some (.cells #[.int .i64 t1101,.int .i64 t1102,.int .i64 t1103] 28 (0,0)))∧(w'.heap[s_]?=some (.cells #[.int .i64 0,.int .i64 0,.int .i64 0] 28 (0,0)))∧(w.heap.size≤s_)∧(w.heap.size≤s_)∧(gb1076≠s_)∧(s_≠gb1076)∧(gb1077≠s_)∧(s_≠gb1077)∧(gb1087≠s_)∧(s_≠gb1087)∧(gb1105≠s_)∧(s_≠gb1105)∧(gb1106≠s_)∧(s_≠gb1106)∧(Below w.heap.size w w')) ?_ ?_
    rotate_left
    ·
     intro hCont
     refine two_ (i:=6) (j:=10) (Ni:=some 195) (Nj:=some 33) #[Y,Y,Y,Y,Y,Y,Y,Z,Z,Z,Z,Z,Z] #[Y,Y,Y,Y,Y,Y,Z,Z,Z,Z,Y,Z,Z] rfl rfl rfl rfl (two_of HT_.out (by kernel_rfl)) (by decide) (by decide) (fun K hK=>?_) (fun K hK=>?_)
     ·
      skip
      refine goes_ Try.func8 (by kernel_rfl) rfl #[.int .i64 t1096,.agg #[.int .i64 t1097,.int .i64 t1098,.int .i64 t1099,.int .i64 t1100],.agg #[.int .i64 ((rd_T28 t1107 x32_6).f0),.int .i64 ((rd_T28 t1107 x32_6).f1),.int .i64 ((rd_T28 t1107 x32_6).f2)]] (by rfl) rfl rfl hA ?_
      with_reducible refine (impl_MoveBall.calls k6 t1096 t1097 t1098 t1099 t1100 ((rd_T28 t1107 x32_6).f0) ((rd_T28 t1107 x32_6).f1) ((rd_T28 t1107 x32_6).f2) t1126 t1127 t1128 t1129 _ A93.out).mono ?_
      rintro e w98 ⟨rfl,hb⟩
      have HS4_:=(hb.cell (World.block_lt_of_cell? _ _ (hHeld.2.2.2.2.1))).trans (hHeld.2.2.2.2.1)
      have HS5_:=(hb.cell (World.block_lt_of_cell? _ _ (hHeld.2.2.2.2.2.1))).trans (hHeld.2.2.2.2.2.1)
      have HS6_:=(hb.cell (World.block_lt_of_cell? _ _ (hHeld.2.2.2.2.2.2))).trans (hHeld.2.2.2.2.2.2)
      refine ⟨_,rfl,?_⟩
      replace HO_24:=Aside0.mk (Kd.R_below (rA HO_24) hb)
      replace HO_28:=Aside0.mk (Kd.R_below (rA HO_28) hb)
      replace BK1076:=kB BK1076 hb
      replace BK1077:=kB BK1077 hb
      replace BK1087:=kB BK1087 hb
      replace BK1105:=kB BK1105 hb
      replace BK1106:=kB BK1106 hb
      replace HB:=lB hb
      (try clear hb)
      (try clear hb2)
      (try clear hk)
      (try clear hi)
      refine hK.out _ _ ⟨cA BK1105 0,cA BK1105 1,cA BK1105 2,cA BK1105 3,HS4_,HS5_,HS6_⟩ (fun hHeld=>?_)
      clear hK K
      refine nmA ?_
      refine puA (i:=7) (N:=some 188) #[Y,Y,Y,Y,Y,Y,Y,Y,Z,Z,Z,Z,Z] rfl rfl HT_ ?_
      refine puA (i:=8) (N:=some 196) #[Y,Y,Y,Y,Y,Y,Y,Y,Y,Z,Z,Z,Z] rfl rfl HT_ ?_
      refine puA (i:=9) (N:=some 197) #[Y,Y,Y,Y,Y,Y,Y,Y,Y,Y,Z,Z,Z] rfl rfl HT_ ?_
      refine one_ (i:=10) (N:=some 33) #[Y,Y,Y,Y,Y,Y,Y,Y,Y,Y,Y,Z,Z] rfl rfl (one_of HT_.out (by kernel_rfl)) (by decide) (fun K hK=>?_)
      refine box_step ?hg (N:=33) ?hd (cs:=#[.int .i64 0,.int .i64 0,.int .i64 0]) (t:=28) ?hr ?_;(case hd=>rfl);(case hg=>rfl);(case hr=>first|(go_simp;done)|(go_simp;rfl))
      intro gb1130 hg w99 hbox hb
      have HS4_:=(hb.cell (World.block_lt_of_cell? _ _ (hHeld.2.2.2.2.1))).trans (hHeld.2.2.2.2.1)
      have HS5_:=(hb.cell (World.block_lt_of_cell? _ _ (hHeld.2.2.2.2.2.1))).trans (hHeld.2.2.2.2.2.1)
      have HS6_:=(hb.cell (World.block_lt_of_cell? _ _ (hHeld.2.2.2.2.2.2))).trans (hHeld.2.2.2.2.2.2)
      have BK1130:=Aside0.mk hbox
      have GW1130:=sA hg
      have GE1130:=sA hg
      have NB1076_1130:=nA hg BK1076
      have NB1130_1076:=nB hg BK1076
      have NB1077_1130:=nA hg BK1077
      have NB1130_1077:=nB hg BK1077
      have NB1087_1130:=nA hg BK1087
      have NB1130_1087:=nB hg BK1087
      have NB1105_1130:=nA hg BK1105
      have NB1130_1105:=nB hg BK1105
      have NB1106_1130:=nA hg BK1106
      have NB1130_1106:=nB hg BK1106
      replace HO_24:=Aside0.mk (Kd.R_below (Kd.R_elderB (rA HO_24) gb1130 (Nat.le_of_eq hg.symm)) hb)
      replace HO_28:=Aside0.mk (Kd.R_below (Kd.R_elderB (rA HO_28) gb1130 (Nat.le_of_eq hg.symm)) hb)
      replace BK1076:=kB BK1076 hb
      replace BK1077:=kB BK1077 hb
      replace BK1087:=kB BK1087 hb
      replace BK1105:=kB BK1105 hb
      replace BK1106:=kB BK1106 hb
      replace HB:=lB hb
      clear hb hbox hg
      refine hK.out _ _ ⟨cA BK1105 0,cA BK1105 1,cA BK1105 2,cA BK1105 3,HS4_,HS5_,HS6_⟩ (fun hHeld=>?_)
      clear hK K
      refine nmA ?_
      exact norm_ (by simp only [putAll,Act.put,List.setIfInBounds_toArray,List.set_cons_zero,List.set_cons_succ]) (hCont (gb1130) _ ⟨hHeld,(by (with_reducible repeat (first|apply Kd.R_alloc|apply Kd.R_drewN|apply Kd.R_drew));exact Kd.R_mono HO_24.out (fun _ hk=>⟨hk.1.1,⟨hk.1.2.1,⟨hk.1.2.2,hk.2⟩⟩⟩)),(by (with_reducible repeat (first|apply Kd.R_alloc|apply Kd.R_drewN|apply Kd.R_drew));exact Kd.R_mono HO_28.out (fun _ hk=>⟨hk.1.1,⟨hk.1.2.1,⟨hk.1.2.2,hk.2⟩⟩⟩)),(bkA BK1076),(bkA BK1077),(bkA BK1087),(bkA BK1105),(bkA BK1106),(bkA BK1130),GW1130.out,GE1130.out,NB1076_1130.out,NB1130_1076.out,NB1077_1130.out,NB1130_1077.out,NB1087_1130.out,NB1130_1087.out,NB1105_1130.out,NB1130_1105.out,NB1106_1130.out,NB1130_1106.out,blA⟩)
     ·
      skip
      refine box_step ?hg (N:=33) ?hd (cs:=#[.int .i64 0,.int .i64 0,.int .i64 0]) (t:=28) ?hr ?_;(case hd=>rfl);(case hg=>rfl);(case hr=>first|(go_simp;done)|(go_simp;rfl))
      intro gb1130 hg w98 hbox hb
      have HS4_:=(hb.cell (World.block_lt_of_cell? _ _ (hHeld.2.2.2.2.1))).trans (hHeld.2.2.2.2.1)
      have HS5_:=(hb.cell (World.block_lt_of_cell? _ _ (hHeld.2.2.2.2.2.1))).trans (hHeld.2.2.2.2.2.1)
      have HS6_:=(hb.cell (World.block_lt_of_cell? _ _ (hHeld.2.2.2.2.2.2))).trans (hHeld.2.2.2.2.2.2)
      have BK1130:=Aside0.mk hbox
      have GW1130:=sA hg
      have GE1130:=sA hg
      have NB1076_1130:=nA hg BK1076
      have NB1130_1076:=nB hg BK1076
      have NB1077_1130:=nA hg BK1077
      have NB1130_1077:=nB hg BK1077
      have NB1087_1130:=nA hg BK1087
      have NB1130_1087:=nB hg BK1087
      have NB1105_1130:=nA hg BK1105
      have NB1130_1105:=nB hg BK1105
      have NB1106_1130:=nA hg BK1106
      have NB1130_1106:=nB hg BK1106
      replace HO_24:=Aside0.mk (Kd.R_below (Kd.R_elderB (rA HO_24) gb1130 (Nat.le_of_eq hg.symm)) hb)
      replace HO_28:=Aside0.mk (Kd.R_below (Kd.R_elderB (rA HO_28) gb1130 (Nat.le_of_eq hg.symm)) hb)
      replace BK1076:=kB BK1076 hb
      replace BK1077:=kB BK1077 hb
      replace BK1087:=kB BK1087 hb
      replace BK1105:=kB BK1105 hb
      replace BK1106:=kB BK1106 hb
      replace HB:=lB hb
      clear hb hbox hg
      refine hK.out _ _ ⟨cA BK1105 0,cA BK1105 1,cA BK1105 2,cA BK1105 3,HS4_,HS5_,HS6_⟩ (fun hHeld=>?_)
      clear hK K
      refine nmA ?_
      refine one_ (i:=6) (N:=some 195) #[Y,Y,Y,Y,Y,Y,Y,Z,Z,Z,Y,Z,Z] rfl rfl (one_of HT_.out (by kernel_rfl)) (by decide) (fun K hK=>?_)
      refine goes_ Try.func8 (by kernel_rfl) rfl #[.int .i64 t1096,.agg #[.int .i64 t1097,.int .i64 t1098,.int .i64 t1099,.int .i64 t1100],.agg #[.int .i64 ((rd_T28 t1107 x32_6).f0),.int .i64 ((rd_T28 t1107 x32_6).f1),.int .i64 ((rd_T28 t1107 x32_6).f2)]] (by rfl) rfl rfl hA ?_
      with_reducible refine (impl_MoveBall.calls k6 t1096 t1097 t1098 t1099 t1100 ((rd_T28 t1107 x32_6).f0) ((rd_T28 t1107 x32_6).f1) ((rd_T28 t1107 x32_6).f2) t1126 t1127 t1128 t1129 _ A93.out).mono ?_
      rintro e w99 ⟨rfl,hb⟩
      have HS4_:=(hb.cell (World.block_lt_of_cell? _ _ (hHeld.2.2.2.2.1))).trans (hHeld.2.2.2.2.1)
      have HS5_:=(hb.cell (World.block_lt_of_cell? _ _ (hHeld.2.2.2.2.2.1))).trans (hHeld.2.2.2.2.2.1)
      have HS6_:=(hb.cell (World.block_lt_of_cell? _ _ (hHeld.2.2.2.2.2.2))).trans (hHeld.2.2.2.2.2.2)
      refine ⟨_,rfl,?_⟩
      replace HO_24:=Aside0.mk (Kd.R_below (rA HO_24) hb)
      replace HO_28:=Aside0.mk (Kd.R_below (rA HO_28) hb)
      replace BK1076:=kB BK1076 hb
      replace BK1077:=kB BK1077 hb
      replace BK1087:=kB BK1087 hb
      replace BK1105:=kB BK1105 hb
      replace BK1106:=kB BK1106 hb
      replace BK1130:=kB BK1130 hb
      replace HB:=lB hb
      (try clear hb)
      (try clear hb2)
      (try clear hk)
      (try clear hi)
      refine hK.out _ _ ⟨cA BK1105 0,cA BK1105 1,cA BK1105 2,cA BK1105 3,HS4_,HS5_,HS6_⟩ (fun hHeld=>?_)
      clear hK K
      refine nmA ?_
      refine puA (i:=7) (N:=some 188) #[Y,Y,Y,Y,Y,Y,Y,Y,Z,Z,Y,Z,Z] rfl rfl HT_ ?_
      refine puA (i:=8) (N:=some 196) #[Y,Y,Y,Y,Y,Y,Y,Y,Y,Z,Y,Z,Z] rfl rfl HT_ ?_
      refine puA (i:=9) (N:=some 197) #[Y,Y,Y,Y,Y,Y,Y,Y,Y,Y,Y,Z,Z] rfl rfl HT_ ?_
      exact norm_ (by simp only [putAll,Act.put,List.setIfInBounds_toArray,List.set_cons_zero,List.set_cons_succ]) (hCont (gb1130) _ ⟨hHeld,(by (with_reducible repeat (first|apply Kd.R_alloc|apply Kd.R_drewN|apply Kd.R_drew));exact Kd.R_mono HO_24.out (fun _ hk=>⟨hk.1.1,⟨hk.1.2.1,⟨hk.1.2.2,hk.2⟩⟩⟩)),(by (with_reducible repeat (first|apply Kd.R_alloc|apply Kd.R_drewN|apply Kd.R_drew));exact Kd.R_mono HO_28.out (fun _ hk=>⟨hk.1.1,⟨hk.1.2.1,⟨hk.1.2.2,hk.2⟩⟩⟩)),(bkA BK1076),(bkA BK1077),(bkA BK1087),(bkA BK1105),(bkA BK1106),(bkA BK1130),GW1130.out,GE1130.out,NB1076_1130.out,NB1130_1076.out,NB1077_1130.out,NB1130_1077.out,NB1087_1130.out,NB1130_1087.out,NB1105_1130.out,NB1130_1105.out,NB1106_1130.out,NB1130_1106.out,blA⟩)
    rintro gb1130 w100 ⟨hS_,h0_,h1_,h2_,h3_,h4_,h5_,h6_,h7_,h8_,h9_,h10_,h11_,h12_,h13_,h14_,h15_,h16_,h17_,h18_,h19_,h20_⟩
    have BK1130:=Aside0.mk h7_
    have GW1130:=Aside0.mk h8_
    have GE1130:=Aside0.mk h9_
    have NB1076_1130:=Aside0.mk h10_
    have NB1130_1076:=Aside0.mk h11_
    have NB1077_1130:=Aside0.mk h12_
    have NB1130_1077:=Aside0.mk h13_
    have NB1087_1130:=Aside0.mk h14_
    have NB1130_1087:=Aside0.mk h15_
    have NB1105_1130:=Aside0.mk h16_
    have NB1130_1105:=Aside0.mk h17_
    have NB1106_1130:=Aside0.mk h18_
    have NB1130_1106:=Aside0.mk h19_
    replace HO_24:=Aside0.mk h0_
    replace HO_28:=Aside0.mk h1_
    replace BK1076:=Aside0.mk h2_
    replace BK1077:=Aside0.mk h3_
    replace BK1087:=Aside0.mk h4_
    replace BK1105:=Aside0.mk h5_
    replace BK1106:=Aside0.mk h6_
    replace HB:=Aside0.mk h20_
    clear h0_ h1_ h2_ h3_ h4_ h5_ h6_ h7_ h8_ h9_ h10_ h11_ h12_ h13_ h14_ h15_ h16_ h17_ h18_ h19_ h20_
    have hHeld:w100.cell? ⟨gb1105,0,none⟩=some (.int .i64 t1097)∧w100.cell? ⟨gb1105,1,none⟩=some (.int .i64 t1098)∧w100.cell? ⟨gb1105,2,none⟩=some (.int .i64 t1099)∧w100.cell? ⟨gb1105,3,none⟩=some (.int .i64 t1100)∧w100.cell? (ad1125.add ((x32_6).toNat*3))=some (.int .i64 ((rd_T28 t1107 x32_6).f0))∧w100.cell? ⟨(ad1125.add ((x32_6).toNat*3)).block,(ad1125.add ((x32_6).toNat*3)).off+1,none⟩=some (.int .i64 ((rd_T28 t1107 x32_6).f1))∧w100.cell? ⟨(ad1125.add ((x32_6).toNat*3)).block,(ad1125.add ((x32_6).toNat*3)).off+2,none⟩=some (.int .i64 ((rd_T28 t1107 x32_6).f2)):=hS_
    refine norm_ (a':=?_) ?_ ?_
    rotate_left
    ·
     simp only [putAll,Act.put,List.setIfInBounds_toArray,List.set_cons_zero,List.set_cons_succ]
     rfl
    refine one_ (i:=11) (N:=none) #[Y,Y,Y,Y,Y,Y,Y,Y,Y,Y,Y,Y,Z] rfl rfl (one_of HT_.out (by kernel_rfl)) (by decide) (fun K hK=>?_)
    have hs101:w100.cell? ⟨gb1130,0,none⟩=some (.int .i64 0):=cA BK1130 0
    have hfs101:=blk_frozen BK1130.out 0
    have hns101_0:=NB1076_1130.out
    have hns101_1:=NB1077_1130.out
    have hns101_2:=NB1087_1130.out
    have hns101_3:=NB1105_1130.out
    have hns101_4:=NB1106_1130.out
    have hms101_0:=NB1130_1076.out
    have hms101_1:=NB1130_1077.out
    have hms101_2:=NB1130_1087.out
    have hms101_3:=NB1130_1105.out
    have hms101_4:=NB1130_1106.out
    have hs102:w100.cell? ⟨gb1130,1,none⟩=some (.int .i64 0):=cA BK1130 1
    have hfs102:=blk_frozen BK1130.out 1
    have hns102_0:=NB1076_1130.out
    have hns102_1:=NB1077_1130.out
    have hns102_2:=NB1087_1130.out
    have hns102_3:=NB1105_1130.out
    have hns102_4:=NB1106_1130.out
    have hms102_0:=NB1130_1076.out
    have hms102_1:=NB1130_1077.out
    have hms102_2:=NB1130_1087.out
    have hms102_3:=NB1130_1105.out
    have hms102_4:=NB1130_1106.out
    have hs103:w100.cell? ⟨gb1130,2,none⟩=some (.int .i64 0):=cA BK1130 2
    have hfs103:=blk_frozen BK1130.out 2
    have hns103_0:=NB1076_1130.out
    have hns103_1:=NB1077_1130.out
    have hns103_2:=NB1087_1130.out
    have hns103_3:=NB1105_1130.out
    have hns103_4:=NB1106_1130.out
    have hms103_0:=NB1130_1076.out
    have hms103_1:=NB1130_1077.out
    have hms103_2:=NB1130_1087.out
    have hms103_3:=NB1130_1105.out
    have hms103_4:=NB1130_1106.out
    refine skip_ (w1:=?_) (by rfl) rfl ?_ ?_
    rotate_left
    ·
     go_simp
     rfl
    refine hK.out _ _ ⟨cfH hHeld.1,cfH hHeld.2.1,cfH hHeld.2.2.1,cfH hHeld.2.2.2.1,((cell_far (p:=⟨gb1130,_,none⟩) (fB (Kd.own_blk (Kd.R_away HO_24.out (fun _ hk=>hk.2.2.2)))) _).trans (((cell_far (p:=⟨gb1130,_,none⟩) (fB (Kd.own_blk (Kd.R_away HO_24.out (fun _ hk=>hk.2.2.2)))) _).trans (((cell_far (p:=⟨gb1130,_,none⟩) (fB (Kd.own_blk (Kd.R_away HO_24.out (fun _ hk=>hk.2.2.2)))) _).trans (hHeld.2.2.2.2.1)))))),((cell_far (p:=⟨gb1130,_,none⟩) (fB (Kd.own_blk (Kd.R_away HO_24.out (fun _ hk=>hk.2.2.2)))) _).trans (((cell_far (p:=⟨gb1130,_,none⟩) (fB (Kd.own_blk (Kd.R_away HO_24.out (fun _ hk=>hk.2.2.2)))) _).trans (((cell_far (p:=⟨gb1130,_,none⟩) (fB (Kd.own_blk (Kd.R_away HO_24.out (fun _ hk=>hk.2.2.2)))) _).trans (hHeld.2.2.2.2.2.1)))))),((cell_far (p:=⟨gb1130,_,none⟩) (fB (Kd.own_blk (Kd.R_away HO_24.out (fun _ hk=>hk.2.2.2)))) _).trans (((cell_far (p:=⟨gb1130,_,none⟩) (fB (Kd.own_blk (Kd.R_away HO_24.out (fun _ hk=>hk.2.2.2)))) _).trans (((cell_far (p:=⟨gb1130,_,none⟩) (fB (Kd.own_blk (Kd.R_away HO_24.out (fun _ hk=>hk.2.2.2)))) _).trans (hHeld.2.2.2.2.2.2))))))⟩ (fun hHeld=>?_)
    clear hK K
    refine puA (i:=12) (N:=some 34) #[Y,Y,Y,Y,Y,Y,Y,Y,Y,Y,Y,Y,Y] rfl rfl HT_ ?_
    refine done_ (done_of HT_.out (by kernel_rfl)) ?_
    try go_wp2
    have n0_:Aside0 (Kd.R k28 28 (((w100.setCell ⟨gb1130,0,none⟩ (.int .i64 t1126)).setCell ⟨gb1130,1,none⟩ (.int .i64 t1127)).setCell ⟨gb1130,2,none⟩ (.int .i64 t1128)) w.heap.size (fun k_=>some k_≠(v1117:Value).ownBlock∧k_≠gb1077∧k_≠gb1106∧k_≠gb1130) (.slice (some ad1125) t1107.length co96) t1107):=⟨by (with_reducible repeat (first|apply Kd.R_alloc|apply Kd.R_drewN|apply Kd.R_drew));exact Kd.R_mono (Kd.R_far (p:=⟨gb1130,2,none⟩) (Kd.R_far (p:=⟨gb1130,1,none⟩) (Kd.R_far (p:=⟨gb1130,0,none⟩) (Kd.R_mono HO_24.out (fun k_ hk=>(⟨hk,hk.2.2.2⟩:_∧k_≠gb1130))) (fun _ hk=>hk.2) (.int .i64 t1126)) (fun _ hk=>hk.2) (.int .i64 t1127)) (fun _ hk=>hk.2) (.int .i64 t1128)) (fun _ hk=>⟨hk.1.1,⟨hk.1.2.1,⟨hk.1.2.2.1,hk.1.2.2.2⟩⟩⟩)⟩
    have n1_:Aside0 (Kd.R k28 28 (((w100.setCell ⟨gb1130,0,none⟩ (.int .i64 t1126)).setCell ⟨gb1130,1,none⟩ (.int .i64 t1127)).setCell ⟨gb1130,2,none⟩ (.int .i64 t1128)) w.heap.size (fun k_=>some k_≠(.slice (some ad1125) t1107.length co96:Value).ownBlock∧k_≠gb1077∧k_≠gb1106∧k_≠gb1130) v1117 t1116):=⟨by (with_reducible repeat (first|apply Kd.R_alloc|apply Kd.R_drewN|apply Kd.R_drew));exact Kd.R_mono (Kd.R_far (p:=⟨gb1130,2,none⟩) (Kd.R_far (p:=⟨gb1130,1,none⟩) (Kd.R_far (p:=⟨gb1130,0,none⟩) (Kd.R_mono HO_28.out (fun k_ hk=>(⟨hk,hk.2.2.2⟩:_∧k_≠gb1130))) (fun _ hk=>hk.2) (.int .i64 t1126)) (fun _ hk=>hk.2) (.int .i64 t1127)) (fun _ hk=>hk.2) (.int .i64 t1128)) (fun _ hk=>⟨hk.1.1,⟨hk.1.2.1,⟨hk.1.2.2.1,hk.1.2.2.2⟩⟩⟩)⟩
    have n2_:Aside0 ((((w100.setCell ⟨gb1130,0,none⟩ (.int .i64 t1126)).setCell ⟨gb1130,1,none⟩ (.int .i64 t1127)).setCell ⟨gb1130,2,none⟩ (.int .i64 t1128)).heap[gb1076]?=some (.cells #[.int .i64 t1069,.int .i64 t1070,.int .i64 t1071,.int .i64 t1072] 26 (0,0))):=⟨bkF BK1076⟩
    have n3_:Aside0 ((((w100.setCell ⟨gb1130,0,none⟩ (.int .i64 t1126)).setCell ⟨gb1130,1,none⟩ (.int .i64 t1127)).setCell ⟨gb1130,2,none⟩ (.int .i64 t1128)).heap[gb1077]?=some (.cells #[.int .i64 t1073,.int .i64 t1074,.int .i64 t1075] 28 (0,0))):=⟨bkF BK1077⟩
    have n4_:Aside0 ((((w100.setCell ⟨gb1130,0,none⟩ (.int .i64 t1126)).setCell ⟨gb1130,1,none⟩ (.int .i64 t1127)).setCell ⟨gb1130,2,none⟩ (.int .i64 t1128)).heap[gb1087]?=some (.cells #[.int .i64 t1083,.int .i64 t1084,.int .i64 t1085,.int .i64 t1086] 26 (0,0))):=⟨bkF BK1087⟩
    have n5_:Aside0 ((((w100.setCell ⟨gb1130,0,none⟩ (.int .i64 t1126)).setCell ⟨gb1130,1,none⟩ (.int .i64 t1127)).setCell ⟨gb1130,2,none⟩ (.int .i64 t1128)).heap[gb1105]?=some (.cells #[.int .i64 t1097,.int .i64 t1098,.int .i64 t1099,.int .i64 t1100] 26 (0,0))):=⟨bkF BK1105⟩
    have n6_:Aside0 ((((w100.setCell ⟨gb1130,0,none⟩ (.int .i64 t1126)).setCell ⟨gb1130,1,none⟩ (.int .i64 t1127)).setCell ⟨gb1130,2,none⟩ (.int .i64 t1128)).heap[gb1106]?=some (.cells #[.int .i64 t1101,.int .i64 t1102,.int .i64 t1103] 28 (0,0))):=⟨bkF BK1106⟩
    have n7_:Aside0 ((((w100.setCell ⟨gb1130,0,none⟩ (.int .i64 t1126)).setCell ⟨gb1130,1,none⟩ (.int .i64 t1127)).setCell ⟨gb1130,2,none⟩ (.int .i64 t1128)).heap[gb1130]?=some (.cells #[.int .i64 t1126,.int .i64 t1127,.int .i64 t1128] 28 (0,0))):=⟨bpA BK1130⟩
    have n8_:Aside0 (Below w.heap.size w (((w100.setCell ⟨gb1130,0,none⟩ (.int .i64 t1126)).setCell ⟨gb1130,1,none⟩ (.int .i64 t1127)).setCell ⟨gb1130,2,none⟩ (.int .i64 t1128))):=⟨blA⟩
    (try clear HO_24)
    (try clear HO_28)
    (try clear BK1076)
    (try clear BK1077)
    (try clear BK1087)
    (try clear BK1105)
    (try clear BK1106)
    (try clear BK1130)
    (try clear HB)
    generalize (((w100.setCell ⟨gb1130,0,none⟩ (.int .i64 t1126)).setCell ⟨gb1130,1,none⟩ (.int .i64 t1127)).setCell ⟨gb1130,2,none⟩ (.int .i64 t1128))=w104 at n0_ n1_ n2_ n3_ n4_ n5_ n6_ n7_ n8_ ⊢
    have HO_24:=n0_
    have HO_28:=n1_
    have BK1076:=n2_
    have BK1077:=n3_
    have BK1087:=n4_
    have BK1105:=n5_
    have BK1106:=n6_
    have BK1130:=n7_
    have HB:=n8_
    clear n0_ n1_ n2_ n3_ n4_ n5_ n6_ n7_ n8_
    have n0_:=Aside0.mk (Kd.R_drew HO_24.out)
    have n1_:=Aside0.mk (Kd.R_drew HO_28.out)
    have n2_:=Aside0.mk (blk_drew BK1076.out)
    have n3_:=Aside0.mk (blk_drew BK1077.out)
    have n4_:=Aside0.mk (blk_drew BK1087.out)
    have n5_:=Aside0.mk (blk_drew BK1105.out)
    have n6_:=Aside0.mk (blk_drew BK1106.out)
    have n7_:=Aside0.mk (blk_drew BK1130.out)
    have n8_:=Aside0.mk (below_drew1 HB.out)
    clear HO_24
    clear HO_28
    clear BK1076
    clear BK1077
    clear BK1087
    clear BK1105
    clear BK1106
    clear BK1130
    clear HB
    have HO_24:=n0_
    have HO_28:=n1_
    have BK1076:=n2_
    have BK1077:=n3_
    have BK1087:=n4_
    have BK1105:=n5_
    have BK1106:=n6_
    have BK1130:=n7_
    have HB:=n8_
    clear n0_ n1_ n2_ n3_ n4_ n5_ n6_ n7_ n8_
    have p1131:0≤(x32_6:Int):=dA
    have q1131:x32_6<(t1107.length:Int):=dA
    obtain ⟨ad1131,e1131,hx1131_0,hx1131_1,hx1131_2⟩:=at_T28 (Kd.R_reads' HO_24.out).2.2 x32_6 p1131 q1131
    obtain rfl:ad1125=ad1131:=(by injection e1131)
    replace p1131:=eq_true p1131
    replace q1131:=eq_true q1131
    refine start_ (n:=10) (S:=fun w'=>w'.cell? ⟨gb1130,0,none⟩=some (.int .i64 t1126)∧w'.cell? ⟨gb1130,1,none⟩=some (.int .i64 t1127)∧w'.cell? ⟨gb1130,2,none⟩=some (.int .i64 t1128)∧w'.cell? (ad1125.add ((x32_6).toNat*3))=some (.int .i64 ((rd_T28 t1107 x32_6).f0))∧w'.cell? ⟨(ad1125.add ((x32_6).toNat*3)).block,(ad1125.add ((x32_6).toNat*3)).off+1,none⟩=some (.int .i64 ((rd_T28 t1107 x32_6).f1))∧w'.cell? ⟨(ad1125.add ((x32_6).toNat*3)).block,(ad1125.add ((x32_6).toNat*3)).off+2,none⟩=some (.int .i64 ((rd_T28 t1107 x32_6).f2))) (ds:=[]) #[Z,Z,Z,Z,Z,Z,Z,Z,Z,Z] (by kernel_rfl) rfl rfl ⟨cA BK1130 0,cA BK1130 1,cA BK1130 2,hx1131_0,hx1131_1,hx1131_2⟩ (fun hHeld=>?_);refine with_tabW laws_FnTranslations.tab30 laws_FnTranslations.bits30 (fun HT_ HW_=>?_)
    generalize w104.drew=w105 at HO_24 HO_28 BK1076 BK1077 BK1087 BK1105 BK1106 BK1130 HB hx1131_0 hx1131_1 hx1131_2 hHeld ⊢
    refine puA (i:=0) (N:=some 198) #[Y,Z,Z,Z,Z,Z,Z,Z,Z,Z] rfl rfl HT_ ?_
    refine puA (i:=1) (N:=some 199) #[Y,Y,Z,Z,Z,Z,Z,Z,Z,Z] rfl rfl HT_ ?_
    refine puA (i:=2) (N:=some 200) #[Y,Y,Y,Z,Z,Z,Z,Z,Z,Z] rfl rfl HT_ ?_
    refine puA (i:=4) (N:=some 202) #[Y,Y,Y,Z,Y,Z,Z,Z,Z,Z] rfl rfl HT_ ?_
    refine puA (i:=5) (N:=some 203) #[Y,Y,Y,Z,Y,Y,Z,Z,Z,Z] rfl rfl HT_ ?_
    refine puA (i:=6) (N:=some 204) #[Y,Y,Y,Z,Y,Y,Y,Z,Z,Z] rfl rfl HT_ ?_
    refine taA (i:=3) (N:=some 201) #[Y,Y,Y,Y,Y,Y,Y,Z,Z,Z] rfl rfl HT_ HW_ hHeld ?_
    refine taA (i:=7) (N:=some 205) #[Y,Y,Y,Y,Y,Y,Y,Y,Z,Z] rfl rfl HT_ HW_ hHeld ?_
    refine puA (i:=8) (N:=some 206) #[Y,Y,Y,Y,Y,Y,Y,Y,Y,Z] rfl rfl HT_ ?_
    refine puA (i:=9) (N:=some 207) #[Y,Y,Y,Y,Y,Y,Y,Y,Y,Y] rfl rfl HT_ ?_
    refine done_ (done_of HT_.out (by kernel_rfl)) ?_
    try go_wp2
    go_roundg k6
    case measure=>have:=HJ6.out;have:=HJ22.out;have:=HJ35.out;have:=HJ47.out;have:=HJ71.out;have:=HK6.out;omega
    case rel=>exact ⟨(wrap64 (x32_6+1)),hB,H',⟨by have:=HJ6.out;have:=HJ22.out;have:=HJ35.out;have:=HJ47.out;have:=HJ71.out;have:=HK6.out;omega⟩,⟨by (with_reducible repeat (first|apply Kd.R_alloc|apply Kd.R_drewN|apply Kd.R_drew));exact Kd.R_mono HO_24.out (fun _ hk=>⟨hk.1,⟨hk.2.1,hk.2.2.1⟩⟩)⟩,⟨by (with_reducible repeat (first|apply Kd.R_alloc|apply Kd.R_drewN|apply Kd.R_drew));exact Kd.R_mono HO_28.out (fun _ hk=>⟨hk.1,⟨hk.2.1,hk.2.2.1⟩⟩)⟩,⟨bkA BK1076⟩,⟨bkA BK1077⟩,⟨bkA BK1087⟩,⟨bkA BK1105⟩,⟨bkA BK1106⟩,⟨blA⟩⟩
   ·
    rw [if_neg c91] at H
    have c91b0:=decide_eq_false c91
    clear c91
    have H':=Aside0.mk H
    clear H
    obtain ⟨Ao106,co106,eo106⟩:=Kd.R_slice HO_24.out
    subst eo106
    go_wp2
    go_loopg [35] k6 (fun kq v35 w'=>∃ (x35_7:Int),v35=.int .i64 x35_7∧Aside0 (laws_FnTranslations.l1 kq t1068 t1078 t1079 t1082 t1088 t1089 t1092 t1096 t1116 x35_7 t1069 t1070 t1071 t1072 t1083 t1084 t1085 t1086 t1097 t1098 t1099 t1100=some r)∧Aside0 (kq≤k6)∧Aside0 (Kd.R k28 28 w' w.heap.size (fun k_=>k_≠gb1077∧k_≠gb1106) v1117 t1116)∧Aside0 (w'.heap[gb1076]?=some (.cells #[.int .i64 t1069,.int .i64 t1070,.int .i64 t1071,.int .i64 t1072] 26 (0,0)))∧Aside0 (w'.heap[gb1077]?=some (.cells #[.int .i64 t1073,.int .i64 t1074,.int .i64 t1075] 28 (0,0)))∧Aside0 (w'.heap[gb1087]?=some (.cells #[.int .i64 t1083,.int .i64 t1084,.int .i64 t1085,.int .i64 t1086] 26 (0,0)))∧Aside0 (w'.heap[gb1105]?=some (.cells #[.int .i64 t1097,.int .i64 t1098,.int .i64 t1099,.int .i64 t1100] 26 (0,0)))∧Aside0 (w'.heap[gb1106]?=some (.cells #[.int .i64 t1101,.int .i64 t1102,.int .i64 t1103] 28 (0,0)))∧Aside0 (Below w.heap.size w w'))
    case atStart=>exact ⟨(0),hB,H',⟨Nat.le_refl _⟩,⟨by (with_reducible repeat (first|apply Kd.R_alloc|apply Kd.R_drewN|apply Kd.R_drew));exact Kd.R_mono HO_28.out (fun _ hk=>⟨hk.2.1,hk.2.2⟩)⟩,⟨bkA BK1076⟩,⟨bkA BK1077⟩,⟨bkA BK1087⟩,⟨bkA BK1105⟩,⟨bkA BK1106⟩,⟨blA⟩⟩
    case round=>
     expose_names
     clear BK1076_1 BK1077_1 BK1087_1 BK1105_1 BK1106_1 HB_1 h_2 c91b0 H' HO_24_1 HO_28_1 h_1 h
     revert k A0 c0 l0 r w hu26 hu28 t1068 t1069 t1070 t1071 t1072 t1073 t1074 t1075 t1078 t1079 t1080 t1081 gb1076 gb1077 kj6 t1082 t1083 t1084 t1085 t1086 t1088 t1089 t1090 t1091 gb1087 kj22 t1092 t1093 t1094 t1095 kj35 t1096 t1097 t1098 t1099 t1100 t1101 t1102 t1103 t1104 t1107 t1110 t1111 t1114 gb1105 gb1106 w64 v1112 kj47 t1116 t1119 t1120 t1123 v1117 w85 v1121 u50 u51 u52 u53 u54 u55 u56 u57 u58 u59 u60 u61 u62 u63 u64 u65 u66 u67 u68 u69 u70 u71 u72 u73 u74 u75 u76 u77 u78 u79 u80 u81 u82 u83 u84 u85 u86 u87 u88 u89 u90 u91 u92 u93 u94 u95 u96 u97 u98 u99 u100 u101 u102 u103 u104 u105 u106 u107 u108 u109 u110 u111 u112 u113 u114 u115 u116 u117 u118 u119 u120 u121 u122 u123 u124 u125 u126 u127 u128 u129 u130 u131 u132 u133 u134 u135 u136 u137 u138 u139 u140 u141 u142 u143 u144 u145 u146 u147 u148 u149 u150 u151 u152 u153 u154 u155 u156 u157 u158 u159 u160 u161 u162 u163 u164 u165 u166 u167 u168 u169 u170 u171 u172 u173 u174 u175 u176 u177 u178 u179 u180 u241 u242 u243 u244 u245 u246 u247 u248 u249 u250 u251 u252 u253 u254 u255 u256 u257 u258 u259 u260 u261 u262 u263 u264 u265 u266 u267 u268 u269 u270 u271 u272 u273 u274 u275 u276 u277 u278 u279 u280 u281 u282 u283 u284 u285 u286 u287 u288 u289 u290 u291 u292 u293 u294 u295 u296 u297 u298 u299 u300 u301 u302 u303 u304 u305 u306 u307 u308 u309 u310 u311 u312 u313 u314 u315 u316 u317 u318 u319 u320 u321 u322 kj71 wr_1 u33 u34 u186 u187 u188 u189 u190 u191 u192 u193 u194 u195 u196 u197 u198 u199 u200 u201 u202 u203 u204 u205 u206 u207 x32_6 k6 Ao106 co106 K_3 gk wr u2 u35 u36 u37 u38 u39 u208 u209 u210 u211 u212 u213 u214 u215 u216 u217 u218 u219 u220 u221 u222 u223 u224 u225 u226 u227 u228 u229 u230 u231 u232 u233 u234 u235 u236 u237 u238 u239 u240 J_1 K_4
     exact hcutP.out
set_option maxHeartbeats 100000000 in
set_option maxRecDepth 100000 in
noncomputable def laws_FnTranslations.cut6:PSigma fun P:Prop=>Aside0 P→(laws_FnTranslations.cut5.1):=by
 apply PSigma.mk
 ·
  intro hcutP
  conv=>whnf
  intro k A0 c0 l0 r w hu26 hu28 HR0 HC0 A2 t1068 t1069 t1070 t1071 t1072 t1073 t1074 t1075 A4 t1078 t1079 A5 t1080 t1081 A6 _ gb1076 GW1076 GE1076 gb1077 GW1077 GE1077 NB1076_1077 NB1077_1076 kj6 HJ6 t1082 t1083 t1084 t1085 t1086 A20 t1088 t1089 A21 t1090 t1091 A22 gb1087 GW1087 GE1087 NB1076_1087 NB1087_1076 NB1077_1087 NB1087_1077 kj22 HJ22 t1092 t1093 A34 t1094 t1095 A35 kj35 HJ35 t1096 t1097 t1098 t1099 t1100 t1101 t1102 t1103 t1104 A45 t1107 t1110 A46 t1111 t1114 A47 gb1105 GW1105 GE1105 NB1076_1105 NB1105_1076 NB1077_1105 NB1105_1077 NB1087_1105 NB1105_1087 gb1106 GW1106 GE1106 NB1076_1106 NB1106_1076 NB1077_1106 NB1106_1077 NB1087_1106 NB1106_1087 NB1105_1106 NB1106_1105 w64 v1112 kj47 HJ47 t1116 t1119 A70 t1120 t1123 A71 hnb78 hnb79 hnb80 v1117 w85 v1121 _ _ _ _ _ _ _ _ _ _ _ _ _ _ _ _ _ _ _ _ _ _ _ _ _ _ _ _ _ _ _ _ _ _ _ _ _ _ _ _ _ _ _ _ _ _ _ _ _ _ _ _ _ _ _ _ _ _ _ _ _ _ _ _ _ _ _ _ _ _ _ _ _ _ _ _ _ _ _ _ _ _ _ _ _ _ _ _ _ _ _ _ _ _ _ _ _ _ _ _ _ _ _ _ _ _ _ _ _ _ _ _ _ _ _ _ _ _ _ _ _ _ _ _ _ _ _ _ _ _ _ _ _ _ _ _ _ _ _ _ _ _ _ _ _ _ _ _ _ _ _ _ _ _ _ _ _ _ _ _ _ _ _ _ _ _ _ _ _ _ _ _ _ _ _ _ _ _ _ _ _ _ _ _ _ _ _ _ _ _ _ _ _ _ _ _ _ _ _ _ _ _ _ _ _ _ _ _ _ _ _ _ _ kj71 HJ71 _ _ _ _ _ _ _ _ _ _ _ _ _ _ _ _ _ _ _ _ _ _ _ _ _ x32_6 BK1076 BK1077 BK1087 BK1105 BK1106 HB k6 HK6 Ao106 co106 HO1109 HO1113 HO1118 HO1122 HO_24 HO_28 _ _ gk wr _ _ _ _ _ _ _ _ _ _ _ _ _ _ _ _ _ _ _ _ _ _ _ _ _ _ _ _ _ _ _ _ _ _ _ _ _ _ _ hrel _ _ _ _
  obtain ⟨x35_7,rfl,HA,HK7,HO_28,BK1076,BK1077,BK1087,BK1105,BK1106,HB⟩:=hrel
  cases gk with
  | zero=>exact absurd HA.out (by simp [laws_FnTranslations.l1])
  | succ k7=>
   have H:=HA.out
   clear HA
   simp only [laws_FnTranslations.l1] at H
   by_cases c107:x35_7<(t1116.length:Int)
   ·
    rw [if_pos c107] at H
    have c107b0:=decide_eq_true c107
    clear c107
    by_cases c108:0≤x35_7
    rotate_left
    ·
     rw [if_neg c108] at H
     exact absurd H (by simp)
    rw [if_pos c108] at H
    have c108b0:=decide_eq_true c108
    clear c108
    replace H:=bS H
    obtain ⟨⟨t1133,t1134⟩,A109,H⟩:=H
    try dsimp only at H
    replace H:=bS H
    obtain ⟨⟨t1135,t1136⟩,A110,H⟩:=H
    try dsimp only at H
    by_cases c111:t1134=0
    rotate_left
    ·
     rw [if_neg c111] at H
     exact absurd H (by simp)
    rw [if_pos c111] at H
    have c111b0:(t1134 == 0)=true:=beq_iff_eq.mpr c111
    have c111b1:(t1134 != 0)=false:=bne_eq_false_iff_eq.mpr c111
    clear c111
    by_cases c112:t1136=0
    rotate_left
    ·
     rw [if_neg c112] at H
     exact absurd H (by simp)
    rw [if_pos c112] at H
    have c112b0:(t1136 == 0)=true:=beq_iff_eq.mpr c112
    have c112b1:(t1136 != 0)=false:=bne_eq_false_iff_eq.mpr c112
    clear c112
    by_cases c113:t1133=t1135
    rotate_left
    ·
     rw [if_neg c113] at H
     exact absurd H (by simp)
    rw [if_pos c113] at H
    have c113b0:(t1133 == t1135)=true:=beq_iff_eq.mpr c113
    have c113b1:(t1133 != t1135)=false:=bne_eq_false_iff_eq.mpr c113
    clear c113
    have H':=Aside0.mk H
    clear H
    obtain ⟨Ao114,co114,eo114⟩:=Kd.R_slice HO_28.out
    subst eo114
    try go_wp2
    have n0_:=Aside0.mk (Kd.R_drew HO_28.out)
    have n1_:=Aside0.mk (blk_drew BK1076.out)
    have n2_:=Aside0.mk (blk_drew BK1077.out)
    have n3_:=Aside0.mk (blk_drew BK1087.out)
    have n4_:=Aside0.mk (blk_drew BK1105.out)
    have n5_:=Aside0.mk (blk_drew BK1106.out)
    have n6_:=Aside0.mk (below_drew1 HB.out)
    clear HO_28
    clear BK1076
    clear BK1077
    clear BK1087
    clear BK1105
    clear BK1106
    clear HB
    have HO_28:=n0_
    have BK1076:=n1_
    have BK1077:=n2_
    have BK1087:=n3_
    have BK1105:=n4_
    have BK1106:=n5_
    have HB:=n6_
    clear n0_ n1_ n2_ n3_ n4_ n5_ n6_
    have p1132:0≤(x35_7:Int):=dA
    have q1132:x35_7<(t1116.length:Int):=dA
    obtain ⟨ad1132,e1132,hx1132_0,hx1132_1,hx1132_2⟩:=at_T28 (Kd.R_reads' HO_28.out).2.2 x35_7 p1132 q1132
    cases e1132
    replace p1132:=eq_true p1132
    replace q1132:=eq_true q1132
    refine start_ (n:=12) (S:=fun w'=>w'.cell? ⟨gb1105,0,none⟩=some (.int .i64 t1097)∧w'.cell? ⟨gb1105,1,none⟩=some (.int .i64 t1098)∧w'.cell? ⟨gb1105,2,none⟩=some (.int .i64 t1099)∧w'.cell? ⟨gb1105,3,none⟩=some (.int .i64 t1100)∧w'.cell? (ad1132.add ((x35_7).toNat*3))=some (.int .i64 ((rd_T28 t1116 x35_7).f0))∧w'.cell? ⟨(ad1132.add ((x35_7).toNat*3)).block,(ad1132.add ((x35_7).toNat*3)).off+1,none⟩=some (.int .i64 ((rd_T28 t1116 x35_7).f1))∧w'.cell? ⟨(ad1132.add ((x35_7).toNat*3)).block,(ad1132.add ((x35_7).toNat*3)).off+2,none⟩=some (.int .i64 ((rd_T28 t1116 x35_7).f2))) (ds:=[]) #[Z,Z,Z,Z,Z,Z,Z,Z,Z,Z,Z,Z] (by kernel_rfl) rfl rfl ⟨cA BK1105 0,cA BK1105 1,cA BK1105 2,cA BK1105 3,hx1132_0,hx1132_1,hx1132_2⟩ (fun hHeld=>?_);refine with_tabW laws_FnTranslations.tab35 laws_FnTranslations.bits35 (fun HT_ HW_=>?_)
    generalize wr.drew=w115 at HO_28 BK1076 BK1077 BK1087 BK1105 BK1106 HB hx1132_0 hx1132_1 hx1132_2 hHeld ⊢
    refine puA (i:=0) (N:=some 215) #[Y,Z,Z,Z,Z,Z,Z,Z,Z,Z,Z,Z] rfl rfl HT_ ?_
    refine puA (i:=2) (N:=some 217) #[Y,Z,Y,Z,Z,Z,Z,Z,Z,Z,Z,Z] rfl rfl HT_ ?_
    refine puA (i:=3) (N:=some 218) #[Y,Z,Y,Y,Z,Z,Z,Z,Z,Z,Z,Z] rfl rfl HT_ ?_
    refine puA (i:=4) (N:=some 219) #[Y,Z,Y,Y,Y,Z,Z,Z,Z,Z,Z,Z] rfl rfl HT_ ?_
    refine taA (i:=1) (N:=some 216) #[Y,Y,Y,Y,Y,Z,Z,Z,Z,Z,Z,Z] rfl rfl HT_ HW_ hHeld ?_
    refine taA (i:=5) (N:=some 220) #[Y,Y,Y,Y,Y,Y,Z,Z,Z,Z,Z,Z] rfl rfl HT_ HW_ hHeld ?_
    refine one_ (i:=6) (N:=some 221) #[Y,Y,Y,Y,Y,Y,Y,Z,Z,Z,Z,Z] rfl rfl (one_of HT_.out (by kernel_rfl)) (by decide) (fun K hK=>?_)
    refine goes_ Try.func28 (by kernel_rfl) rfl #[.int .i64 t1096,.agg #[.int .i64 t1097,.int .i64 t1098,.int .i64 t1099,.int .i64 t1100],.agg #[.int .i64 ((rd_T28 t1116 x35_7).f0),.int .i64 ((rd_T28 t1116 x35_7).f1),.int .i64 ((rd_T28 t1116 x35_7).f2)]] (by rfl) rfl rfl hA ?_
    with_reducible refine (impl_DisplacementOf.calls k7 t1096 t1097 t1098 t1099 t1100 ((rd_T28 t1116 x35_7).f0) ((rd_T28 t1116 x35_7).f1) ((rd_T28 t1116 x35_7).f2) t1133 t1134 _ A109.out).mono ?_
    rintro e w116 ⟨rfl,hb⟩
    have HS4_:=(hb.cell (World.block_lt_of_cell? _ _ (hHeld.2.2.2.2.1))).trans (hHeld.2.2.2.2.1)
    have HS5_:=(hb.cell (World.block_lt_of_cell? _ _ (hHeld.2.2.2.2.2.1))).trans (hHeld.2.2.2.2.2.1)
    have HS6_:=(hb.cell (World.block_lt_of_cell? _ _ (hHeld.2.2.2.2.2.2))).trans (hHeld.2.2.2.2.2.2)
    refine ⟨_,rfl,?_⟩
    replace HO_28:=Aside0.mk (Kd.R_below (rA HO_28) hb)
    replace BK1076:=kB BK1076 hb
    replace BK1077:=kB BK1077 hb
    replace BK1087:=kB BK1087 hb
    replace BK1105:=kB BK1105 hb
    replace BK1106:=kB BK1106 hb
    replace HB:=lB hb
    (try clear hb)
    (try clear hb2)
    (try clear hk)
    (try clear hi)
    refine hK.out _ _ ⟨cA BK1105 0,cA BK1105 1,cA BK1105 2,cA BK1105 3,HS4_,HS5_,HS6_⟩ (fun hHeld=>?_)
    clear hK K
    refine nmA ?_
    refine puA (i:=7) (N:=some 214) #[Y,Y,Y,Y,Y,Y,Y,Y,Z,Z,Z,Z] rfl rfl HT_ ?_
    refine puA (i:=8) (N:=some 222) #[Y,Y,Y,Y,Y,Y,Y,Y,Y,Z,Z,Z] rfl rfl HT_ ?_
    refine puA (i:=9) (N:=some 223) #[Y,Y,Y,Y,Y,Y,Y,Y,Y,Y,Z,Z] rfl rfl HT_ ?_
    refine puA (i:=10) (N:=some 36) #[Y,Y,Y,Y,Y,Y,Y,Y,Y,Y,Y,Z] rfl rfl HT_ ?_
    refine puA (i:=11) (N:=some 37) #[Y,Y,Y,Y,Y,Y,Y,Y,Y,Y,Y,Y] rfl rfl HT_ ?_
    refine done_ (done_of HT_.out (by kernel_rfl)) ?_
    try clear hnb78 hnb79 hnb80
    have hnb117:=NB1105_1076.out
    have hnb118:=NB1105_1077.out
    have hnb119:=NB1105_1087.out
    have hnb120:=NB1105_1106.out
    obtain ⟨hcz121_0,hcz121_1,hcz121_2,hcz121_3,hfz121_0,hfz121_1,hfz121_2,hfz121_3⟩:=cz4 BK1105
    try go_wp2_with (first|((with_reducible refine gd 227 rfl ?_);refine gC (some 227) rfl Try.func31 (impl_LengthOf.calls (w:=_) (h:=A110.out)) ?_;intro w122 hb;have n0_:=Aside0.mk (Kd.R_below (rA HO_28) hb);have n1_:=kB BK1076 hb;have n2_:=kB BK1077 hb;have n3_:=kB BK1087 hb;have n4_:=kB BK1105 hb;have n5_:=kB BK1106 hb;have n6_:=lB hb;clear HO_28;clear BK1076;clear BK1077;clear BK1087;clear BK1105;clear BK1106;clear HB;have HO_28:=n0_;have BK1076:=n1_;have BK1077:=n2_;have BK1087:=n3_;have BK1105:=n4_;have BK1106:=n5_;have HB:=n6_;clear n0_ n1_ n2_ n3_ n4_ n5_ n6_;clear hb))
    go_roundg k7
    case measure=>have:=HJ6.out;have:=HJ22.out;have:=HJ35.out;have:=HJ47.out;have:=HJ71.out;have:=HK6.out;have:=HK7.out;omega
    case rel=>exact ⟨(wrap64 (x35_7+1)),hB,H',⟨by have:=HJ6.out;have:=HJ22.out;have:=HJ35.out;have:=HJ47.out;have:=HJ71.out;have:=HK6.out;have:=HK7.out;omega⟩,⟨rA HO_28⟩,⟨bkA BK1076⟩,⟨bkA BK1077⟩,⟨bkA BK1087⟩,⟨bkA BK1105⟩,⟨bkA BK1106⟩,⟨blA⟩⟩
   ·
    rw [if_neg c107] at H
    have c107b0:=decide_eq_false c107
    clear c107
    have HC123:=Aside0.mk H
    clear H
    obtain ⟨Ao124,co124,eo124⟩:=Kd.R_slice HO_28.out
    subst eo124
    go_upto_if 242 with (fail)
    go_cut [] (fun wc=>∃ (kq:Nat),Aside0 (laws_FnTranslations.j7 kq t1068 t1078 t1079 t1069 t1070 t1071 t1072=some r)∧Aside0 (kq≤k7)∧Aside0 (wc.heap[gb1076]?=some (.cells #[.int .i64 t1069,.int .i64 t1070,.int .i64 t1071,.int .i64 t1072] 26 (0,0)))∧Aside0 (wc.heap[gb1077]?=some (.cells #[.int .i64 t1073,.int .i64 t1074,.int .i64 t1075] 28 (0,0)))∧Aside0 (wc.heap[gb1087]?=some (.cells #[.int .i64 t1083,.int .i64 t1084,.int .i64 t1085,.int .i64 t1086] 26 (0,0)))∧Aside0 (wc.heap[gb1105]?=some (.cells #[.int .i64 t1097,.int .i64 t1098,.int .i64 t1099,.int .i64 t1100] 26 (0,0)))∧Aside0 (wc.heap[gb1106]?=some (.cells #[.int .i64 t1101,.int .i64 t1102,.int .i64 t1103] 28 (0,0)))∧Aside0 (Below w.heap.size w wc))
    case first=>
     have H:=HC123.out
     clear HC123
     by_cases c125:t1089=0
     ·
      rw [if_pos c125] at H
      have c125b0:(t1089 == 0)=true:=beq_iff_eq.mpr c125
      have c125b1:(t1089 != 0)=false:=bne_eq_false_iff_eq.mpr c125
      clear c125
      (first|rw [c125b0]|(simp only [i64_w,i32_w];rw [c125b0])|skip)
      replace H:=bS H
      obtain ⟨⟨t1137,t1138,t1139,t1140,t1141⟩,A126,H⟩:=H
      try dsimp only at H
      replace H:=bS H
      obtain ⟨⟨t1143,t1144⟩,A127,H⟩:=H
      try dsimp only at H
      replace H:=bS H
      obtain ⟨⟨t1145,t1146⟩,A128,H⟩:=H
      try dsimp only at H
      by_cases c129:t1141=0
      rotate_left
      ·
       rw [if_neg c129] at H
       exact absurd H (by simp)
      rw [if_pos c129] at H
      have c129b0:(t1141 == 0)=true:=beq_iff_eq.mpr c129
      have c129b1:(t1141 != 0)=false:=bne_eq_false_iff_eq.mpr c129
      clear c129
      by_cases c130:t1144=0
      rotate_left
      ·
       rw [if_neg c130] at H
       exact absurd H (by simp)
      rw [if_pos c130] at H
      have c130b0:(t1144 == 0)=true:=beq_iff_eq.mpr c130
      have c130b1:(t1144 != 0)=false:=bne_eq_false_iff_eq.mpr c130
      clear c130
      by_cases c131:t1143=t1088
      rotate_left
      ·
       rw [if_neg c131] at H
       exact absurd H (by simp)
      rw [if_pos c131] at H
      have c131b0:(t1143 == t1088)=true:=beq_iff_eq.mpr c131
      have c131b1:(t1143 != t1088)=false:=bne_eq_false_iff_eq.mpr c131
      clear c131
      by_cases c132:t1146=0
      rotate_left
      ·
       rw [if_neg c132] at H
       exact absurd H (by simp)
      rw [if_pos c132] at H
      have c132b0:(t1146 == 0)=true:=beq_iff_eq.mpr c132
      have c132b1:(t1146 != 0)=false:=bne_eq_false_iff_eq.mpr c132
      clear c132
      by_cases c133:t1145=t1092
      rotate_left
      ·
       rw [if_neg c133] at H
       exact absurd H (by simp)
      rw [if_pos c133] at H
      have c133b0:(t1145 == t1092)=true:=beq_iff_eq.mpr c133
      have c133b1:(t1145 != t1092)=false:=bne_eq_false_iff_eq.mpr c133
      clear c133
      by_cases c134:((t1092 == 2) != (decide (t1088>0)))=true
      ·
       rw [if_pos c134] at H
       exact absurd H (by simp)
      rw [if_neg c134] at H
      have c134b0:((t1092 == 2) != (decide (t1088>0)))=false:=by simpa using c134
      (try (have c134b1:decide ((t1092 == 2)=(decide (t1088>0)))=true:=by simpa using c134))
      (try (have c134b2:((t1092 == 2) == (decide (t1088>0)))=true:=by simpa using c134))
      clear c134
      have H':=Aside0.mk H
      clear H
      try clear hnb78 hnb79 hnb80
      have hnb135:=NB1087_1076.out
      have hnb136:=NB1087_1077.out
      have hnb137:=NB1087_1105.out
      have hnb138:=NB1087_1106.out
      obtain ⟨hcz139_0,hcz139_1,hcz139_2,hcz139_3,hfz139_0,hfz139_1,hfz139_2,hfz139_3⟩:=cz4 BK1087
      go_wp2_with (first|((with_reducible refine gd 245 rfl ?_);refine gC (some 245) rfl Try.func13 (impl_InverseMatrix.calls (w:=_) (h:=A126.out)) ?_;intro w140 hb;have n0_:=Aside0.mk (Kd.R_below (rA HO_28) hb);have n1_:=kB BK1076 hb;have n2_:=kB BK1077 hb;have n3_:=kB BK1087 hb;have n4_:=kB BK1105 hb;have n5_:=kB BK1106 hb;have n6_:=lB hb;clear HO_28;clear BK1076;clear BK1077;clear BK1087;clear BK1105;clear BK1106;clear HB;have HO_28:=n0_;have BK1076:=n1_;have BK1077:=n2_;have BK1087:=n3_;have BK1105:=n4_;have BK1106:=n5_;have HB:=n6_;clear n0_ n1_ n2_ n3_ n4_ n5_ n6_;clear hb)|((with_reducible refine gate_dst (N:=40) rfl ?_);refine bxE (cs:=#[.int .i64 0,.int .i64 0,.int .i64 0,.int .i64 0]) (t:=26) ?_;intro gb1142 hg w141 hbox hb;have n0_:=Aside0.mk (Kd.R_below (rA HO_28) hb);have n1_:=kB BK1076 hb;have n2_:=kB BK1077 hb;have n3_:=kB BK1087 hb;have n4_:=kB BK1105 hb;have n5_:=kB BK1106 hb;have n6_:=lB hb;have n7_:=Aside0.mk hbox;have n8_:=sA hg;have n9_:=sA hg;have n10_:=nA hg BK1076;have n11_:=nB hg BK1076;have n12_:=nA hg BK1077;have n13_:=nB hg BK1077;have n14_:=nA hg BK1087;have n15_:=nB hg BK1087;have n16_:=nA hg BK1105;have n17_:=nB hg BK1105;have n18_:=nA hg BK1106;have n19_:=nB hg BK1106;clear HO_28;clear BK1076;clear BK1077;clear BK1087;clear BK1105;clear BK1106;clear HB;have HO_28:=n0_;have BK1076:=n1_;have BK1077:=n2_;have BK1087:=n3_;have BK1105:=n4_;have BK1106:=n5_;have HB:=n6_;have BK1142:=n7_;have GW1142:=n8_;have GE1142:=n9_;have NB1076_1142:=n10_;have NB1142_1076:=n11_;have NB1077_1142:=n12_;have NB1142_1077:=n13_;have NB1087_1142:=n14_;have NB1142_1087:=n15_;have NB1105_1142:=n16_;have NB1142_1105:=n17_;have NB1106_1142:=n18_;have NB1142_1106:=n19_;clear n0_ n1_ n2_ n3_ n4_ n5_ n6_ n7_ n8_ n9_ n10_ n11_ n12_ n13_ n14_ n15_ n16_ n17_ n18_ n19_;clear hb hbox hg;have hnb142:=NB1142_1076.out;have hnb143:=NB1142_1077.out;have hnb144:=NB1142_1087.out;have hnb145:=NB1142_1105.out;have hnb146:=NB1142_1106.out;obtain ⟨hcz147_0,hcz147_1,hcz147_2,hcz147_3,hfz147_0,hfz147_1,hfz147_2,hfz147_3⟩:=cz4 BK1142)|((with_reducible refine gd 251 rfl ?_);refine gC (some 251) rfl Try.func31 (impl_LengthOf.calls (w:=_) (h:=A127.out)) ?_;intro w148 hb;have n0_:=Aside0.mk (Kd.R_below (by (with_reducible repeat (first|apply Kd.R_alloc|apply Kd.R_drewN|apply Kd.R_drew));exact (Kd.R_mono (Kd.R_far (p:=⟨gb1142,3,none⟩) (Kd.R_far (p:=⟨gb1142,2,none⟩) (Kd.R_far (p:=⟨gb1142,1,none⟩) (Kd.R_far (p:=⟨gb1142,0,none⟩) (Kd.R_types HO_28.out BK1142.out (by decide)) (fun _ hk=>hk.2) (.int .i64 t1137)) (fun _ hk=>hk.2) (.int .i64 t1138)) (fun _ hk=>hk.2) (.int .i64 t1139)) (fun _ hk=>hk.2) (.int .i64 t1140)) (fun _ h_=>h_.1))) hb);have n1_:=Aside0.mk (blk_below (g:=gb1076) (o:=.cells #[.int .i64 t1069,.int .i64 t1070,.int .i64 t1071,.int .i64 t1072] 26 (0,0)) (bkF BK1076) hb);have n2_:=Aside0.mk (blk_below (g:=gb1077) (o:=.cells #[.int .i64 t1073,.int .i64 t1074,.int .i64 t1075] 28 (0,0)) (bkF BK1077) hb);have n3_:=Aside0.mk (blk_below (g:=gb1087) (o:=.cells #[.int .i64 t1083,.int .i64 t1084,.int .i64 t1085,.int .i64 t1086] 26 (0,0)) (bkF BK1087) hb);have n4_:=Aside0.mk (blk_below (g:=gb1105) (o:=.cells #[.int .i64 t1097,.int .i64 t1098,.int .i64 t1099,.int .i64 t1100] 26 (0,0)) (bkF BK1105) hb);have n5_:=Aside0.mk (blk_below (g:=gb1106) (o:=.cells #[.int .i64 t1101,.int .i64 t1102,.int .i64 t1103] 28 (0,0)) (bkF BK1106) hb);have n6_:=Aside0.mk (blk_below (g:=gb1142) (o:=.cells #[.int .i64 t1137,.int .i64 t1138,.int .i64 t1139,.int .i64 t1140] 26 (0,0)) (bpA BK1142) hb);have n7_:=lB hb;clear HO_28;clear BK1076;clear BK1077;clear BK1087;clear BK1105;clear BK1106;clear BK1142;clear HB;have HO_28:=n0_;have BK1076:=n1_;have BK1077:=n2_;have BK1087:=n3_;have BK1105:=n4_;have BK1106:=n5_;have BK1142:=n6_;have HB:=n7_;clear n0_ n1_ n2_ n3_ n4_ n5_ n6_ n7_;clear hb;obtain ⟨hcz149_0,hcz149_1,hcz149_2,hcz149_3,hfz149_0,hfz149_1,hfz149_2,hfz149_3⟩:=cz4 BK1142)|((with_reducible refine gd 257 rfl ?_);refine gC (some 257) rfl Try.func33 (impl_KindOf.calls (w:=_) (h:=A128.out)) ?_;intro w150 hb;have n0_:=Aside0.mk (Kd.R_below (rA HO_28) hb);have n1_:=kB BK1076 hb;have n2_:=kB BK1077 hb;have n3_:=kB BK1087 hb;have n4_:=kB BK1105 hb;have n5_:=kB BK1106 hb;have n6_:=kB BK1142 hb;have n7_:=lB hb;clear HO_28;clear BK1076;clear BK1077;clear BK1087;clear BK1105;clear BK1106;clear BK1142;clear HB;have HO_28:=n0_;have BK1076:=n1_;have BK1077:=n2_;have BK1087:=n3_;have BK1105:=n4_;have BK1106:=n5_;have BK1142:=n6_;have HB:=n7_;clear n0_ n1_ n2_ n3_ n4_ n5_ n6_ n7_;clear hb))
      go_meet
      case rel=>exact ⟨_,H',⟨by have:=HJ6.out;have:=HJ22.out;have:=HJ35.out;have:=HJ47.out;have:=HJ71.out;have:=HK6.out;have:=HK7.out;first|omega|exact Nat.le_refl _⟩,⟨bkA BK1076⟩,⟨bkA BK1077⟩,⟨bkA BK1087⟩,⟨bkA BK1105⟩,⟨bkA BK1106⟩,⟨blA⟩⟩
     ·
      rw [if_neg c125] at H
      have c125b0:(t1089 == 0)=false:=beq_eq_false_iff_ne.mpr c125
      have c125b1:(t1089 != 0)=true:=bne_iff_ne.mpr c125
      (first|rw [c125b0]|(simp only [i64_w,i32_w];rw [c125b0])|skip)
      have H':=Aside0.mk H
      clear H
      go_wp2
      go_meet
      case rel=>exact ⟨_,H',⟨by have:=HJ6.out;have:=HJ22.out;have:=HJ35.out;have:=HJ47.out;have:=HJ71.out;have:=HK6.out;have:=HK7.out;first|omega|exact Nat.le_refl _⟩,⟨bkA BK1076⟩,⟨bkA BK1077⟩,⟨bkA BK1087⟩,⟨bkA BK1105⟩,⟨bkA BK1106⟩,⟨blA⟩⟩
    case rest=>
     expose_names
     clear BK1076_1 BK1077_1 BK1087_1 BK1105_1 BK1106_1 HB_1 h_5 c107b0 HC123 HO_28_1 h_4 h
     revert k A0 c0 l0 r w hu26 hu28 t1068 t1069 t1070 t1071 t1072 t1073 t1074 t1075 t1078 t1079 t1080 t1081 gb1076 gb1077 kj6 t1082 t1083 t1084 t1085 t1086 t1088 t1089 t1090 t1091 gb1087 kj22 t1092 t1093 t1094 t1095 kj35 t1096 t1097 t1098 t1099 t1100 t1101 t1102 t1103 t1104 t1107 t1110 t1111 t1114 gb1105 gb1106 w64 v1112 kj47 t1116 t1119 t1120 t1123 w85 v1121 kj71 wr_1 u33 u34 x32_6 k6 Ao106 co106 wr u36 u37 u38 u39 x35_7 k7 Ao124 co124 K_1 wc u2 u40 u41 u42 u43 u44 u45 u50 u51 u52 u53 u54 u55 u56 u57 u58 u59 u60 u61 u62 u63 u64 u65 u66 u67 u68 u69 u70 u71 u72 u73 u74 u75 u76 u77 u78 u79 u80 u81 u82 u83 u84 u85 u86 u87 u88 u89 u90 u91 u92 u93 u94 u95 u96 u97 u98 u99 u100 u101 u102 u103 u104 u105 u106 u107 u108 u109 u110 u111 u112 u113 u114 u115 u116 u117 u118 u119 u120 u121 u122 u123 u124 u125 u126 u127 u128 u129 u130 u131 u132 u133 u134 u135 u136 u137 u138 u139 u140 u141 u142 u143 u144 u145 u146 u147 u148 u149 u150 u151 u152 u153 u154 u155 u156 u157 u158 u159 u160 u161 u162 u163 u164 u165 u166 u167 u168 u169 u170 u171 u172 u173 u174 u175 u176 u177 u178 u179 u180 u181 u182 u183 u184 u185 u186 u187 u188 u189 u190 u191 u192 u193 u194 u195 u196 u197 u198 u199 u200 u201 u202 u203 u204 u205 u206 u207 u208 u209 u210 u211 u212 u213 u214 u215 u216 u217 u218 u219 u220 u221 u222 u223 u224 u225 u226 u227 u228 u229 u230 u231 u232 u233 u234 u235 u236 u237 u238 u239 u240 u241 u242 u243 u244 u245 u246 u247 u248 u249 u250 u251 u252 u253 u254 u255 u256 u257 u258 u259 u260 u261 u262 u263 u264 u265 u266 u267 u268 u269 u270 u271 u272 u273 u274 u275 u276 u277 u278 u279 u280 u281 u282 u283 u284 u285 u286 u287 u288 u289 u290 u291 u292 u293 u294 u295 u296 u297 u298 u299 u300 u301 u302 u303 u304 u305 u306 u307 u308 u309 u310 u311 u312 u313 u314 u315 u316 u317 u318 u319 u320 u321 u322
     exact hcutP.out
set_option maxHeartbeats 100000000 in
set_option maxRecDepth 100000 in
theorem laws_FnTranslations.cut7:laws_FnTranslations.cut6.1:=by
 conv=>whnf
 intro k A0 c0 l0 r w hu26 hu28 HR0 HC0 A2 t1068 t1069 t1070 t1071 t1072 t1073 t1074 t1075 A4 t1078 t1079 A5 t1080 t1081 A6 _ gb1076 GW1076 GE1076 gb1077 GW1077 GE1077 NB1076_1077 NB1077_1076 kj6 HJ6 t1082 t1083 t1084 t1085 t1086 A20 t1088 t1089 A21 t1090 t1091 A22 gb1087 GW1087 GE1087 NB1076_1087 NB1087_1076 NB1077_1087 NB1087_1077 kj22 HJ22 t1092 t1093 A34 t1094 t1095 A35 kj35 HJ35 t1096 t1097 t1098 t1099 t1100 t1101 t1102 t1103 t1104 A45 t1107 t1110 A46 t1111 t1114 A47 gb1105 GW1105 GE1105 NB1076_1105 NB1105_1076 NB1077_1105 NB1105_1077 NB1087_1105 NB1105_1087 gb1106 GW1106 GE1106 NB1076_1106 NB1106_1076 NB1077_1106 NB1106_1077 NB1087_1106 NB1106_1087 NB1105_1106 NB1106_1105 w64 v1112 kj47 HJ47 t1116 t1119 A70 t1120 t1123 A71 hnb78 hnb79 hnb80 w85 v1121 kj71 HJ71 _ _ _ x32_6 k6 HK6 Ao106 co106 HO1109 HO1113 wr _ _ _ _ x35_7 BK1076 BK1077 BK1087 BK1105 BK1106 HB k7 HK7 Ao124 co124 HO1118 HO1122 HO_24 HO_28 _ _ wc _ _ _ _ _ _ _ _ _ _ _ _ _ _ _ _ _ _ _ _ _ _ _ _ _ _ _ _ _ _ _ _ _ _ _ _ _ _ _ _ _ _ _ _ _ _ _ _ _ _ _ _ _ _ _ _ _ _ _ _ _ _ _ _ _ _ _ _ _ _ _ _ _ _ _ _ _ _ _ _ _ _ _ _ _ _ _ _ _ _ _ _ _ _ _ _ _ _ _ _ _ _ _ _ _ _ _ _ _ _ _ _ _ _ _ _ _ _ _ _ _ _ _ _ _ _ _ _ _ _ _ _ _ _ _ _ _ _ _ _ _ _ _ _ _ _ _ _ _ _ _ _ _ _ _ _ _ _ _ _ _ _ _ _ _ _ _ _ _ _ _ _ _ _ _ _ _ _ _ _ _ _ _ _ _ _ _ _ _ _ _ _ _ _ _ _ _ _ _ _ _ _ _ _ _ _ _ _ _ _ _ _ _ _ _ _ _ _ _ _ _ _ _ _ _ _ _ _ _ _ _ _ _ _ _ _ _ _ _ _ _ _ _ _ _ _ _ _ _ _ _ _ _ _ _ _ _ _ _ _ _ _ _ _ _ _ _ _ _ _ _ _ _ _ _ _ _ _ _ _ hcut
 obtain ⟨kq,HA,HJ122,BK1076,BK1077,BK1087,BK1105,BK1106,HB⟩:=hcut
 cases kq with
 | zero=>exact absurd HA.out (by simp [laws_FnTranslations.j7])
 | succ kj122=>
  have H:=HA.out
  clear HA
  simp only [laws_FnTranslations.j7] at H
  by_cases c151:t1079=0
  ·
   rw [if_pos c151] at H
   have c151b0:(t1079 == 0)=true:=beq_iff_eq.mpr c151
   have c151b1:(t1079 != 0)=false:=bne_eq_false_iff_eq.mpr c151
   clear c151
   replace H:=bS H
   obtain ⟨⟨t1147,t1148⟩,A152,H⟩:=H
   try dsimp only at H
   replace H:=bS H
   obtain ⟨⟨t1149,t1150⟩,A153,H⟩:=H
   try dsimp only at H
   by_cases c154:t1149=1
   ·
    rw [if_pos c154] at H
    have c154b0:(t1149 == 1)=true:=beq_iff_eq.mpr c154
    have c154b1:(t1149 != 1)=false:=bne_eq_false_iff_eq.mpr c154
    clear c154
    by_cases c155:t1148=0
    ·
     rw [if_pos c155] at H
     have c155b0:(t1148 == 0)=true:=beq_iff_eq.mpr c155
     have c155b1:(t1148 != 0)=false:=bne_eq_false_iff_eq.mpr c155
     clear c155
     by_cases c156:t1150=0
     ·
      rw [if_pos c156] at H
      have c156b0:(t1150 == 0)=true:=beq_iff_eq.mpr c156
      have c156b1:(t1150 != 0)=false:=bne_eq_false_iff_eq.mpr c156
      clear c156
      by_cases c157:t1078≥1
      focus
       rw [if_pos c157] at H
       have c157b0:decide (1≤t1078)=true:=decide_eq_true c157
       clear c157
       obtain rfl:=Option.some.inj H
       try clear hnb78 hnb79 hnb80
       have hnb158:=NB1076_1077.out
       have hnb159:=NB1076_1087.out
       have hnb160:=NB1076_1105.out
       have hnb161:=NB1076_1106.out
       obtain ⟨hcz162_0,hcz162_1,hcz162_2,hcz162_3,hfz162_0,hfz162_1,hfz162_2,hfz162_3⟩:=cz4 BK1076
      rotate_left
      focus
       rw [if_neg c157] at H
       have c157b0:decide (1≤t1078)=false:=decide_eq_false c157
       clear c157
       obtain rfl:=Option.some.inj H
       try clear hnb78 hnb79 hnb80
       have hnb166:=NB1076_1077.out
       have hnb167:=NB1076_1087.out
       have hnb168:=NB1076_1105.out
       have hnb169:=NB1076_1106.out
       obtain ⟨hcz170_0,hcz170_1,hcz170_2,hcz170_3,hfz170_0,hfz170_1,hfz170_2,hfz170_3⟩:=cz4 BK1076
      rotate_left
      all_goals
       go_wp2_with (first|((with_reducible refine gd 294 rfl ?_);refine gC (some 294) rfl Try.func31 (impl_LengthOf.calls (w:=_) (h:=A152.out)) ?_;intro w163 hb;have n0_:=kB BK1076 hb;have n1_:=kB BK1077 hb;have n2_:=kB BK1087 hb;have n3_:=kB BK1105 hb;have n4_:=kB BK1106 hb;have n5_:=lB hb;clear BK1076;clear BK1077;clear BK1087;clear BK1105;clear BK1106;clear HB;have BK1076:=n0_;have BK1077:=n1_;have BK1087:=n2_;have BK1105:=n3_;have BK1106:=n4_;have HB:=n5_;clear n0_ n1_ n2_ n3_ n4_ n5_;clear hb;obtain ⟨hcz164_0,hcz164_1,hcz164_2,hcz164_3,hfz164_0,hfz164_1,hfz164_2,hfz164_3⟩:=cz4 BK1076)|((with_reducible refine gd 300 rfl ?_);refine gC (some 300) rfl Try.func33 (impl_KindOf.calls (w:=_) (h:=A153.out)) ?_;intro w165 hb;have n0_:=kB BK1076 hb;have n1_:=kB BK1077 hb;have n2_:=kB BK1087 hb;have n3_:=kB BK1105 hb;have n4_:=kB BK1106 hb;have n5_:=lB hb;clear BK1076;clear BK1077;clear BK1087;clear BK1105;clear BK1106;clear HB;have BK1076:=n0_;have BK1077:=n1_;have BK1087:=n2_;have BK1105:=n3_;have BK1106:=n4_;have HB:=n5_;clear n0_ n1_ n2_ n3_ n4_ n5_;clear hb))
      ·
       go_ret
       exact finA blA
      ·
       go_ret
       exact finA blA
     ·
      rw [if_neg c156] at H
      have c156b0:(t1150 == 0)=false:=beq_eq_false_iff_ne.mpr c156
      have c156b1:(t1150 != 0)=true:=bne_iff_ne.mpr c156
      obtain rfl:=Option.some.inj H
      try clear hnb78 hnb79 hnb80
      have hnb174:=NB1076_1077.out
      have hnb175:=NB1076_1087.out
      have hnb176:=NB1076_1105.out
      have hnb177:=NB1076_1106.out
      obtain ⟨hcz178_0,hcz178_1,hcz178_2,hcz178_3,hfz178_0,hfz178_1,hfz178_2,hfz178_3⟩:=cz4 BK1076
      go_wp2_with (first|((with_reducible refine gd 294 rfl ?_);refine gC (some 294) rfl Try.func31 (impl_LengthOf.calls (w:=_) (h:=A152.out)) ?_;intro w179 hb;have n0_:=kB BK1076 hb;have n1_:=kB BK1077 hb;have n2_:=kB BK1087 hb;have n3_:=kB BK1105 hb;have n4_:=kB BK1106 hb;have n5_:=lB hb;clear BK1076;clear BK1077;clear BK1087;clear BK1105;clear BK1106;clear HB;have BK1076:=n0_;have BK1077:=n1_;have BK1087:=n2_;have BK1105:=n3_;have BK1106:=n4_;have HB:=n5_;clear n0_ n1_ n2_ n3_ n4_ n5_;clear hb;obtain ⟨hcz180_0,hcz180_1,hcz180_2,hcz180_3,hfz180_0,hfz180_1,hfz180_2,hfz180_3⟩:=cz4 BK1076)|((with_reducible refine gd 300 rfl ?_);refine gC (some 300) rfl Try.func33 (impl_KindOf.calls (w:=_) (h:=A153.out)) ?_;intro w181 hb;have n0_:=kB BK1076 hb;have n1_:=kB BK1077 hb;have n2_:=kB BK1087 hb;have n3_:=kB BK1105 hb;have n4_:=kB BK1106 hb;have n5_:=lB hb;clear BK1076;clear BK1077;clear BK1087;clear BK1105;clear BK1106;clear HB;have BK1076:=n0_;have BK1077:=n1_;have BK1087:=n2_;have BK1105:=n3_;have BK1106:=n4_;have HB:=n5_;clear n0_ n1_ n2_ n3_ n4_ n5_;clear hb))
      go_ret
      exact finA blA
    ·
     rw [if_neg c155] at H
     have c155b0:(t1148 == 0)=false:=beq_eq_false_iff_ne.mpr c155
     have c155b1:(t1148 != 0)=true:=bne_iff_ne.mpr c155
     obtain rfl:=Option.some.inj H
     try clear hnb78 hnb79 hnb80
     have hnb182:=NB1076_1077.out
     have hnb183:=NB1076_1087.out
     have hnb184:=NB1076_1105.out
     have hnb185:=NB1076_1106.out
     obtain ⟨hcz186_0,hcz186_1,hcz186_2,hcz186_3,hfz186_0,hfz186_1,hfz186_2,hfz186_3⟩:=cz4 BK1076
     go_wp2_with (first|((with_reducible refine gd 294 rfl ?_);refine gC (some 294) rfl Try.func31 (impl_LengthOf.calls (w:=_) (h:=A152.out)) ?_;intro w187 hb;have n0_:=kB BK1076 hb;have n1_:=kB BK1077 hb;have n2_:=kB BK1087 hb;have n3_:=kB BK1105 hb;have n4_:=kB BK1106 hb;have n5_:=lB hb;clear BK1076;clear BK1077;clear BK1087;clear BK1105;clear BK1106;clear HB;have BK1076:=n0_;have BK1077:=n1_;have BK1087:=n2_;have BK1105:=n3_;have BK1106:=n4_;have HB:=n5_;clear n0_ n1_ n2_ n3_ n4_ n5_;clear hb;obtain ⟨hcz188_0,hcz188_1,hcz188_2,hcz188_3,hfz188_0,hfz188_1,hfz188_2,hfz188_3⟩:=cz4 BK1076)|((with_reducible refine gd 300 rfl ?_);refine gC (some 300) rfl Try.func33 (impl_KindOf.calls (w:=_) (h:=A153.out)) ?_;intro w189 hb;have n0_:=kB BK1076 hb;have n1_:=kB BK1077 hb;have n2_:=kB BK1087 hb;have n3_:=kB BK1105 hb;have n4_:=kB BK1106 hb;have n5_:=lB hb;clear BK1076;clear BK1077;clear BK1087;clear BK1105;clear BK1106;clear HB;have BK1076:=n0_;have BK1077:=n1_;have BK1087:=n2_;have BK1105:=n3_;have BK1106:=n4_;have HB:=n5_;clear n0_ n1_ n2_ n3_ n4_ n5_;clear hb))
     go_ret
     exact finA blA
   ·
    rw [if_neg c154] at H
    have c154b0:(t1149 == 1)=false:=beq_eq_false_iff_ne.mpr c154
    have c154b1:(t1149 != 1)=true:=bne_iff_ne.mpr c154
    by_cases c190:t1148=0
    ·
     rw [if_pos c190] at H
     have c190b0:(t1148 == 0)=true:=beq_iff_eq.mpr c190
     have c190b1:(t1148 != 0)=false:=bne_eq_false_iff_eq.mpr c190
     clear c190
     by_cases c191:t1150=0
     ·
      rw [if_pos c191] at H
      have c191b0:(t1150 == 0)=true:=beq_iff_eq.mpr c191
      have c191b1:(t1150 != 0)=false:=bne_eq_false_iff_eq.mpr c191
      clear c191
      by_cases c192:t1078≥t1147
      focus
       rw [if_pos c192] at H
       have c192b0:decide (t1147≤t1078)=true:=decide_eq_true c192
       clear c192
       obtain rfl:=Option.some.inj H
       try clear hnb78 hnb79 hnb80
       have hnb193:=NB1076_1077.out
       have hnb194:=NB1076_1087.out
       have hnb195:=NB1076_1105.out
       have hnb196:=NB1076_1106.out
       obtain ⟨hcz197_0,hcz197_1,hcz197_2,hcz197_3,hfz197_0,hfz197_1,hfz197_2,hfz197_3⟩:=cz4 BK1076
      rotate_left
      focus
       rw [if_neg c192] at H
       have c192b0:decide (t1147≤t1078)=false:=decide_eq_false c192
       clear c192
       obtain rfl:=Option.some.inj H
       try clear hnb78 hnb79 hnb80
       have hnb201:=NB1076_1077.out
       have hnb202:=NB1076_1087.out
       have hnb203:=NB1076_1105.out
       have hnb204:=NB1076_1106.out
       obtain ⟨hcz205_0,hcz205_1,hcz205_2,hcz205_3,hfz205_0,hfz205_1,hfz205_2,hfz205_3⟩:=cz4 BK1076
      rotate_left
      all_goals
       go_wp2_with (first|((with_reducible refine gd 294 rfl ?_);refine gC (some 294) rfl Try.func31 (impl_LengthOf.calls (w:=_) (h:=A152.out)) ?_;intro w198 hb;have n0_:=kB BK1076 hb;have n1_:=kB BK1077 hb;have n2_:=kB BK1087 hb;have n3_:=kB BK1105 hb;have n4_:=kB BK1106 hb;have n5_:=lB hb;clear BK1076;clear BK1077;clear BK1087;clear BK1105;clear BK1106;clear HB;have BK1076:=n0_;have BK1077:=n1_;have BK1087:=n2_;have BK1105:=n3_;have BK1106:=n4_;have HB:=n5_;clear n0_ n1_ n2_ n3_ n4_ n5_;clear hb;obtain ⟨hcz199_0,hcz199_1,hcz199_2,hcz199_3,hfz199_0,hfz199_1,hfz199_2,hfz199_3⟩:=cz4 BK1076)|((with_reducible refine gd 300 rfl ?_);refine gC (some 300) rfl Try.func33 (impl_KindOf.calls (w:=_) (h:=A153.out)) ?_;intro w200 hb;have n0_:=kB BK1076 hb;have n1_:=kB BK1077 hb;have n2_:=kB BK1087 hb;have n3_:=kB BK1105 hb;have n4_:=kB BK1106 hb;have n5_:=lB hb;clear BK1076;clear BK1077;clear BK1087;clear BK1105;clear BK1106;clear HB;have BK1076:=n0_;have BK1077:=n1_;have BK1087:=n2_;have BK1105:=n3_;have BK1106:=n4_;have HB:=n5_;clear n0_ n1_ n2_ n3_ n4_ n5_;clear hb))
      ·
       go_ret
       exact finA blA
      ·
       go_ret
       exact finA blA
     ·
      rw [if_neg c191] at H
      have c191b0:(t1150 == 0)=false:=beq_eq_false_iff_ne.mpr c191
      have c191b1:(t1150 != 0)=true:=bne_iff_ne.mpr c191
      obtain rfl:=Option.some.inj H
      try clear hnb78 hnb79 hnb80
      have hnb209:=NB1076_1077.out
      have hnb210:=NB1076_1087.out
      have hnb211:=NB1076_1105.out
      have hnb212:=NB1076_1106.out
      obtain ⟨hcz213_0,hcz213_1,hcz213_2,hcz213_3,hfz213_0,hfz213_1,hfz213_2,hfz213_3⟩:=cz4 BK1076
      go_wp2_with (first|((with_reducible refine gd 294 rfl ?_);refine gC (some 294) rfl Try.func31 (impl_LengthOf.calls (w:=_) (h:=A152.out)) ?_;intro w214 hb;have n0_:=kB BK1076 hb;have n1_:=kB BK1077 hb;have n2_:=kB BK1087 hb;have n3_:=kB BK1105 hb;have n4_:=kB BK1106 hb;have n5_:=lB hb;clear BK1076;clear BK1077;clear BK1087;clear BK1105;clear BK1106;clear HB;have BK1076:=n0_;have BK1077:=n1_;have BK1087:=n2_;have BK1105:=n3_;have BK1106:=n4_;have HB:=n5_;clear n0_ n1_ n2_ n3_ n4_ n5_;clear hb;obtain ⟨hcz215_0,hcz215_1,hcz215_2,hcz215_3,hfz215_0,hfz215_1,hfz215_2,hfz215_3⟩:=cz4 BK1076)|((with_reducible refine gd 300 rfl ?_);refine gC (some 300) rfl Try.func33 (impl_KindOf.calls (w:=_) (h:=A153.out)) ?_;intro w216 hb;have n0_:=kB BK1076 hb;have n1_:=kB BK1077 hb;have n2_:=kB BK1087 hb;have n3_:=kB BK1105 hb;have n4_:=kB BK1106 hb;have n5_:=lB hb;clear BK1076;clear BK1077;clear BK1087;clear BK1105;clear BK1106;clear HB;have BK1076:=n0_;have BK1077:=n1_;have BK1087:=n2_;have BK1105:=n3_;have BK1106:=n4_;have HB:=n5_;clear n0_ n1_ n2_ n3_ n4_ n5_;clear hb))
      go_ret
      exact finA blA
    ·
     rw [if_neg c190] at H
     have c190b0:(t1148 == 0)=false:=beq_eq_false_iff_ne.mpr c190
     have c190b1:(t1148 != 0)=true:=bne_iff_ne.mpr c190
     obtain rfl:=Option.some.inj H
     try clear hnb78 hnb79 hnb80
     have hnb217:=NB1076_1077.out
     have hnb218:=NB1076_1087.out
     have hnb219:=NB1076_1105.out
     have hnb220:=NB1076_1106.out
     obtain ⟨hcz221_0,hcz221_1,hcz221_2,hcz221_3,hfz221_0,hfz221_1,hfz221_2,hfz221_3⟩:=cz4 BK1076
     go_wp2_with (first|((with_reducible refine gd 294 rfl ?_);refine gC (some 294) rfl Try.func31 (impl_LengthOf.calls (w:=_) (h:=A152.out)) ?_;intro w222 hb;have n0_:=kB BK1076 hb;have n1_:=kB BK1077 hb;have n2_:=kB BK1087 hb;have n3_:=kB BK1105 hb;have n4_:=kB BK1106 hb;have n5_:=lB hb;clear BK1076;clear BK1077;clear BK1087;clear BK1105;clear BK1106;clear HB;have BK1076:=n0_;have BK1077:=n1_;have BK1087:=n2_;have BK1105:=n3_;have BK1106:=n4_;have HB:=n5_;clear n0_ n1_ n2_ n3_ n4_ n5_;clear hb;obtain ⟨hcz223_0,hcz223_1,hcz223_2,hcz223_3,hfz223_0,hfz223_1,hfz223_2,hfz223_3⟩:=cz4 BK1076)|((with_reducible refine gd 300 rfl ?_);refine gC (some 300) rfl Try.func33 (impl_KindOf.calls (w:=_) (h:=A153.out)) ?_;intro w224 hb;have n0_:=kB BK1076 hb;have n1_:=kB BK1077 hb;have n2_:=kB BK1087 hb;have n3_:=kB BK1105 hb;have n4_:=kB BK1106 hb;have n5_:=lB hb;clear BK1076;clear BK1077;clear BK1087;clear BK1105;clear BK1106;clear HB;have BK1076:=n0_;have BK1077:=n1_;have BK1087:=n2_;have BK1105:=n3_;have BK1106:=n4_;have HB:=n5_;clear n0_ n1_ n2_ n3_ n4_ n5_;clear hb))
     go_ret
     exact finA blA
  ·
   rw [if_neg c151] at H
   have c151b0:(t1079 == 0)=false:=beq_eq_false_iff_ne.mpr c151
   have c151b1:(t1079 != 0)=true:=bne_iff_ne.mpr c151
   obtain rfl:=Option.some.inj H
   go_wp2
   go_ret
   exact finA blA
theorem laws_FnTranslations.calls (k:Nat) (A0:Option Addr) (c0:Nat) (l0:List Int) (r:Bool) (w:World) (hr0:Kd.C (Kd.int .u8) w A0 l0.length l0) (hc0:l0.length≤c0) (h:laws_FnTranslations.f k l0=some r) :
  Calls Try.prog 5 #[.slice A0 l0.length c0] w fun e w'=>e=.returned (.bool r)∧Below w.heap.size w w':=(laws_FnTranslations.cut0.2 (Aside0.mk (laws_FnTranslations.cut1.2 (Aside0.mk (laws_FnTranslations.cut2.2 (Aside0.mk (laws_FnTranslations.cut3.2 (Aside0.mk (laws_FnTranslations.cut4.2 (Aside0.mk (laws_FnTranslations.cut5.2 (Aside0.mk (laws_FnTranslations.cut6.2 (Aside0.mk (laws_FnTranslations.cut7))))))))))))))) k A0 c0 l0 r w hr0 hc0 h

/-- THE ONE PURE STATEMENT of laws_FnTranslations: yours. -/
def laws_FnTranslations.Pure:Prop:=∀ (l0:List Int),l0.length≤maxLen→l0.length*1≤140737488351232→(∀ x ∈ l0,(Lit.int .u8 x).wf=true)→∃ k,laws_FnTranslations.f k l0=some true
theorem laws_FnTranslations.walk (P:laws_FnTranslations.Pure) (a0:Option Addr) (len0 cap0:Nat) (z0:List Int) (w:World) (w0:(a0=none∧len0=0∧cap0=0∧z0=[])∨∃ x,a0=some x∧len0≤cap0∧cap0≤maxLen∧z0.length=cap0∧(∀ i,i<z0.length→w.cell? (x.add i)=some (.int .u8 (z0.getD i 0)))∧∀ n ∈ z0,(Lit.int .u8 n).wf=true) (y0:len0*1≤140737488351232) :
  Calls Try.prog 5 #[.slice a0 len0 cap0] w fun e w'=>e=.returned (.bool true)∧Below w.heap.size w w':=by
 obtain ⟨l0,rfl,hr0,hm0,hw0,hc0⟩:=ReadsInt.ofRowC w0
 obtain ⟨k,h⟩:=P l0 hm0 y0 hw0
 refine (laws_FnTranslations.calls k _ _ l0 true w (Kd.C_of_reads (d:=(0:Int)) (h1:=fun _=>rfl) hr0) hc0 h).mono ?_
 rintro e w' ⟨rfl,hd⟩
 exact ⟨rfl,hd⟩
end Go.Proofs.Ytlpmefmaplhfdaa.PAll
