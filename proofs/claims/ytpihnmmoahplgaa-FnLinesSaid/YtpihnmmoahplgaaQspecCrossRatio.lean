import Derived.Test.YtpihnmmoahplgaaQx
import Derived.Test.YtpihnmmoahplgaaQspecl01End
import Derived.Test.YtpihnmmoahplgaaQspecl01EndOf
import Derived.Test.YtpihnmmoahplgaaQspecl05Code
namespace Go.Proofs.Ytpihnmmoahplgaa.PAll
open Go.RowKit Go.Proofs.YtpihnmmoahplgaaW.PrintWords Go.Proofs.YtpihnmmoahplgaaW.PrintLast Go.Proofs.YtpihnmmoahplgaaW.PrintMore
attribute [local go_sem] Go.Proofs.Ytpihnmmoahplgaa.Aux.setCell_drewN Go.Proofs.Ytpihnmmoahplgaa.Aux.isSome_setCell Go.Proofs.Ytpihnmmoahplgaa.Aux.max_eight bq bo cG cF ba bZ bp bm
set_option linter.unusedVariables false
set_option linter.unusedSimpArgs false
def aM.f (k:Nat) (a0_0 a0_1 a1_0 a1_1 a2_0 a2_1 a3_0 a3_1:Int):Option (Int × Int × Int):=(ax.f k 2 ([]:List (S25)) (([(⟨a0_0,a0_1⟩:S28),(⟨a1_0,a1_1⟩:S28),(⟨a2_0,a2_1⟩:S28),(⟨a3_0,a3_1⟩:S28)]:List (S28)))).bind fun t629=>(if t629=0 then ((aj.f a0_0 a0_1 a2_0 a2_1).bind fun t630=>((aj.f a1_0 a1_1 a3_0 a3_1).bind fun t631=>((aj.f a0_0 a0_1 a3_0 a3_1).bind fun t632=>((aj.f a1_0 a1_1 a2_0 a2_1).bind fun t633=>((a9.f k t630 t632).bind fun t634=>(if t634=0 then (none) else ((a9.f k (wrap64 (Int.tdiv t630 t634)) t633).bind fun t635=>(if t635=0 then (none) else ((a9.f k t631 (wrap64 (Int.tdiv t632 t634))).bind fun t636=>(if t636=0 then (none) else ((a9.f k (wrap64 (Int.tdiv t631 t636)) (wrap64 (Int.tdiv t633 t635))).bind fun t637=>(if t637=0 then (none) else (if (mx (mx (mx (mx (mx (mx (mx (wrap64 (Int.tdiv (wrap64 (Int.tdiv t630 t634)) t635)) (wrap64 (-(wrap64 (Int.tdiv (wrap64 (Int.tdiv t630 t634)) t635))))) (wrap64 (Int.tdiv (wrap64 (Int.tdiv t631 t636)) t637))) (wrap64 (-(wrap64 (Int.tdiv (wrap64 (Int.tdiv t631 t636)) t637))))) (wrap64 (Int.tdiv (wrap64 (Int.tdiv t632 t634)) t636))) (wrap64 (-(wrap64 (Int.tdiv (wrap64 (Int.tdiv t632 t634)) t636))))) (wrap64 (Int.tdiv (wrap64 (Int.tdiv t633 t635)) t637))) (wrap64 (-(wrap64 (Int.tdiv (wrap64 (Int.tdiv t633 t635)) t637)))))>1000000 then (some (0,0,3)) else ((aZ.f k (wrap64 ((wrap64 (Int.tdiv (wrap64 (Int.tdiv t630 t634)) t635))*(wrap64 (Int.tdiv (wrap64 (Int.tdiv t631 t636)) t637)))) (wrap64 ((wrap64 (Int.tdiv (wrap64 (Int.tdiv t632 t634)) t636))*(wrap64 (Int.tdiv (wrap64 (Int.tdiv t633 t635)) t637))))).bind fun bt638=>(if bt638.2.2=true then (some (bt638.1,bt638.2.1,0)) else (some (0,0,3))))))))))))))))) else (some (0,0,t629)))
def aM.T4:Bool × List (List Nat × List Nat):=(true,[([],[]),([],[]),([0,1],[0,1]),([],[]),([],[]),([3,4,2],[3,4]),([],[]),([],[]),([6,7,5],[6,7]),([],[]),([],[]),([9,10,8],[9,10]),([2,11,0,1,2],[2]),([5,12,0,1,2,3,4,5,12],[5]),([8,13,0,1,2,3,4,5,6,7,8,12,13],[8]),([11,14,0,1,2,3,4,5,6,7,8,9,10,11,12,13,14],[11])])
def aM.B4:List Nat:=[0,0,3,0,0,31,0,0,255,0,0,2047,4095,8191,16383,32767]
theorem aM.tab4:ck .any (dC Try.f21 4)=aM.T4:=by kernel_rfl
theorem aM.bits4:br aM.T4.2 aM.B4=true:=by kernel_rfl
def aM.T6:Bool × List (List Nat × List Nat):=(true,[([],[]),([],[]),([0,1],[0,1]),([],[]),([],[]),([3,4],[3,4]),([2,0,1,2],[0,2]),([5,6,0,1,2,3,4,5,6],[3,5])])
def aM.B6:List Nat:=[0,0,3,0,0,24,7,127]
theorem aM.tab6:ck .any (dC Try.f21 6)=aM.T6:=by kernel_rfl
theorem aM.bits6:br aM.T6.2 aM.B6=true:=by kernel_rfl
def aM.T8:Bool × List (List Nat × List Nat):=(true,[([],[]),([],[]),([0,1],[0,1]),([],[]),([],[]),([3,4],[3,4]),([2,0,1,2],[0,2]),([5,6,0,1,2,3,4,5,6],[3,5])])
def aM.B8:List Nat:=[0,0,3,0,0,24,7,127]
theorem aM.tab8:ck .any (dC Try.f21 8)=aM.T8:=by kernel_rfl
theorem aM.bits8:br aM.T8.2 aM.B8=true:=by kernel_rfl
def aM.T10:Bool × List (List Nat × List Nat):=(true,[([],[]),([],[]),([0,1],[0,1]),([],[]),([],[]),([3,4],[3,4]),([2,0,1,2],[0,2]),([5,6,0,1,2,3,4,5,6],[3,5])])
def aM.B10:List Nat:=[0,0,3,0,0,24,7,127]
theorem aM.tab10:ck .any (dC Try.f21 10)=aM.T10:=by kernel_rfl
theorem aM.bits10:br aM.T10.2 aM.B10=true:=by kernel_rfl
def aM.T12:Bool × List (List Nat × List Nat):=(true,[([],[]),([],[]),([0,1],[0,1]),([],[]),([],[]),([3,4],[3,4]),([2,0,1,2],[0,2]),([5,6,0,1,2,3,4,5,6],[3,5])])
def aM.B12:List Nat:=[0,0,3,0,0,24,7,127]
theorem aM.tab12:ck .any (dC Try.f21 12)=aM.T12:=by kernel_rfl
theorem aM.bits12:br aM.T12.2 aM.B12=true:=by kernel_rfl
set_option maxHeartbeats 8000000 in
set_option maxRecDepth 100000 in
theorem aM.calls (k:Nat) (a0_0 a0_1 a1_0 a1_1 a2_0 a2_1 a3_0 a3_1 r1 r2 r3:Int) (w:World) (h:aM.f k a0_0 a0_1 a1_0 a1_1 a2_0 a2_1 a3_0 a3_1=some (r1,r2,r3)) :
  Calls Try.prog 21 #[.agg #[.int .i64 a0_0,.int .i64 a0_1],.agg #[.int .i64 a1_0,.int .i64 a1_1],.agg #[.int .i64 a2_0,.int .i64 a2_1],.agg #[.int .i64 a3_0,.int .i64 a3_1]] w fun e w'=>e=.returned (.tuple #[.agg #[.int .i64 r1,.int .i64 r2],.int .i64 r3])∧Below w.heap.size w w':=by
 have hu28:=Try.underlying28
 have HB:=aA.mk (Below.refl w.heap.size w)
 have H:=h
 unfold aM.f at H
 clear h
 obtain ⟨y626,hy626⟩:∃ y_:List (S28),y_=(([(⟨a0_0,a0_1⟩:S28),(⟨a1_0,a1_1⟩:S28),(⟨a2_0,a2_1⟩:S28),(⟨a3_0,a3_1⟩:S28)]:List (S28))):=⟨_,rfl⟩
 replace H:((ax.f k 2 ([]:List (S25)) y626).bind fun t629=>(if t629=0 then ((aj.f a0_0 a0_1 a2_0 a2_1).bind fun t630=>((aj.f a1_0 a1_1 a3_0 a3_1).bind fun t631=>((aj.f a0_0 a0_1 a3_0 a3_1).bind fun t632=>((aj.f a1_0 a1_1 a2_0 a2_1).bind fun t633=>((a9.f k t630 t632).bind fun t634=>(if t634=0 then (none) else ((a9.f k (wrap64 (Int.tdiv t630 t634)) t633).bind fun t635=>(if t635=0 then (none) else ((a9.f k t631 (wrap64 (Int.tdiv t632 t634))).bind fun t636=>(if t636=0 then (none) else ((a9.f k (wrap64 (Int.tdiv t631 t636)) (wrap64 (Int.tdiv t633 t635))).bind fun t637=>(if t637=0 then (none) else (if (mx (mx (mx (mx (mx (mx (mx (wrap64 (Int.tdiv (wrap64 (Int.tdiv t630 t634)) t635)) (wrap64 (-(wrap64 (Int.tdiv (wrap64 (Int.tdiv t630 t634)) t635))))) (wrap64 (Int.tdiv (wrap64 (Int.tdiv t631 t636)) t637))) (wrap64 (-(wrap64 (Int.tdiv (wrap64 (Int.tdiv t631 t636)) t637))))) (wrap64 (Int.tdiv (wrap64 (Int.tdiv t632 t634)) t636))) (wrap64 (-(wrap64 (Int.tdiv (wrap64 (Int.tdiv t632 t634)) t636))))) (wrap64 (Int.tdiv (wrap64 (Int.tdiv t633 t635)) t637))) (wrap64 (-(wrap64 (Int.tdiv (wrap64 (Int.tdiv t633 t635)) t637)))))>1000000 then (some (0,0,3)) else ((aZ.f k (wrap64 ((wrap64 (Int.tdiv (wrap64 (Int.tdiv t630 t634)) t635))*(wrap64 (Int.tdiv (wrap64 (Int.tdiv t631 t636)) t637)))) (wrap64 ((wrap64 (Int.tdiv (wrap64 (Int.tdiv t632 t634)) t636))*(wrap64 (Int.tdiv (wrap64 (Int.tdiv t633 t635)) t637))))).bind fun bt638=>(if bt638.2.2=true then (some (bt638.1,bt638.2.1,0)) else (some (0,0,3))))))))))))))))) else (some (0,0,t629))))=some (r1,r2,r3):=rH hy626 H
 have Ny626:=aA.mk hy626
 clear hy626
 replace H:=bS H
 obtain ⟨t629,A5,H⟩:=H
 try dsimp only at H
 by_cases c6:t629=0
 ·
  rw [if_pos c6] at H
  have c6b0:(t629 == 0)=true:=beq_iff_eq.mpr c6
  have c6b1:(t629 != 0)=false:=bne_eq_false_iff_eq.mpr c6
  clear c6
  replace H:=bS H
  obtain ⟨t630,A7,H⟩:=H
  try dsimp only at H
  replace H:=bS H
  obtain ⟨t631,A8,H⟩:=H
  try dsimp only at H
  replace H:=bS H
  obtain ⟨t632,A9,H⟩:=H
  try dsimp only at H
  replace H:=bS H
  obtain ⟨t633,A10,H⟩:=H
  try dsimp only at H
  replace H:=bS H
  obtain ⟨t634,A11,H⟩:=H
  try dsimp only at H
  by_cases c12:t634=0
  ·
   rw [if_pos c12] at H
   exact absurd H (by simp)
  rw [if_neg c12] at H
  have c12b0:(t634 == 0)=false:=beq_eq_false_iff_ne.mpr c12
  have c12b1:(t634 != 0)=true:=bne_iff_ne.mpr c12
  replace H:=bS H
  obtain ⟨t635,A13,H⟩:=H
  try dsimp only at H
  by_cases c14:t635=0
  ·
   rw [if_pos c14] at H
   exact absurd H (by simp)
  rw [if_neg c14] at H
  have c14b0:(t635 == 0)=false:=beq_eq_false_iff_ne.mpr c14
  have c14b1:(t635 != 0)=true:=bne_iff_ne.mpr c14
  replace H:=bS H
  obtain ⟨t636,A15,H⟩:=H
  try dsimp only at H
  by_cases c16:t636=0
  ·
   rw [if_pos c16] at H
   exact absurd H (by simp)
  rw [if_neg c16] at H
  have c16b0:(t636 == 0)=false:=beq_eq_false_iff_ne.mpr c16
  have c16b1:(t636 != 0)=true:=bne_iff_ne.mpr c16
  replace H:=bS H
  obtain ⟨t637,A17,H⟩:=H
  try dsimp only at H
  by_cases c18:t637=0
  ·
   rw [if_pos c18] at H
   exact absurd H (by simp)
  rw [if_neg c18] at H
  have c18b0:(t637 == 0)=false:=beq_eq_false_iff_ne.mpr c18
  have c18b1:(t637 != 0)=true:=bne_iff_ne.mpr c18
  obtain ⟨q1,hq1⟩:∃ j_:Int,wrap64 (Int.tdiv t630 t634)=j_:=⟨_,rfl⟩
  (try simp only [hq1] at H)
  (try simp only [hq1] at A13)
  (try simp only [hq1] at A15)
  (try simp only [hq1] at A17)
  obtain ⟨q2,hq2⟩:∃ j_:Int,wrap64 (Int.tdiv t632 t634)=j_:=⟨_,rfl⟩
  (try simp only [hq2] at H)
  (try simp only [hq2] at A13)
  (try simp only [hq2] at A15)
  (try simp only [hq2] at A17)
  obtain ⟨q3,hq3⟩:∃ j_:Int,wrap64 (Int.tdiv q1 t635)=j_:=⟨_,rfl⟩
  (try simp only [hq3] at H)
  (try simp only [hq3] at A13)
  (try simp only [hq3] at A15)
  (try simp only [hq3] at A17)
  obtain ⟨q4,hq4⟩:∃ j_:Int,wrap64 (Int.tdiv t633 t635)=j_:=⟨_,rfl⟩
  (try simp only [hq4] at H)
  (try simp only [hq4] at A13)
  (try simp only [hq4] at A15)
  (try simp only [hq4] at A17)
  obtain ⟨q5,hq5⟩:∃ j_:Int,wrap64 (Int.tdiv t631 t636)=j_:=⟨_,rfl⟩
  (try simp only [hq5] at H)
  (try simp only [hq5] at A13)
  (try simp only [hq5] at A15)
  (try simp only [hq5] at A17)
  obtain ⟨q6,hq6⟩:∃ j_:Int,wrap64 (Int.tdiv q2 t636)=j_:=⟨_,rfl⟩
  (try simp only [hq6] at H)
  (try simp only [hq6] at A13)
  (try simp only [hq6] at A15)
  (try simp only [hq6] at A17)
  obtain ⟨q7,hq7⟩:∃ j_:Int,wrap64 (Int.tdiv q5 t637)=j_:=⟨_,rfl⟩
  (try simp only [hq7] at H)
  (try simp only [hq7] at A13)
  (try simp only [hq7] at A15)
  (try simp only [hq7] at A17)
  obtain ⟨q8,hq8⟩:∃ j_:Int,wrap64 (Int.tdiv q4 t637)=j_:=⟨_,rfl⟩
  (try simp only [hq8] at H)
  (try simp only [hq8] at A13)
  (try simp only [hq8] at A15)
  (try simp only [hq8] at A17)
  obtain ⟨ji19,hji19⟩:∃ j_:Int,(mx q3 (wrap64 (-q3)))=j_:=⟨_,rfl⟩
  replace H:(if (mx (mx (mx (mx (mx (mx (ji19) q7) (wrap64 (-q7))) q6) (wrap64 (-q6))) q8) (wrap64 (-q8)))>1000000 then (some (0,0,3)) else ((aZ.f k (wrap64 (q3*q7)) (wrap64 (q6*q8))).bind fun bt638=>(if bt638.2.2=true then (some (bt638.1,bt638.2.1,0)) else (some (0,0,3)))))=some (r1,r2,r3):=by first|(rw [hji19] at H;exact H)|(simp only [hji19] at H ⊢;exact H)
  (try rw [hji19] at A5)
  (try rw [hji19] at A7)
  (try rw [hji19] at A8)
  (try rw [hji19] at A9)
  (try rw [hji19] at A10)
  (try rw [hji19] at A11)
  (try rw [hji19] at A13)
  (try rw [hji19] at A15)
  (try rw [hji19] at A17)
  have hji19_:(if q3<(wrap64 (-q3)) then (wrap64 (-q3)) else q3)=ji19:=hji19
  obtain ⟨ji20,hji20⟩:∃ j_:Int,(mx (ji19) q7)=j_:=⟨_,rfl⟩
  replace H:(if (mx (mx (mx (mx (mx (ji20) (wrap64 (-q7))) q6) (wrap64 (-q6))) q8) (wrap64 (-q8)))>1000000 then (some (0,0,3)) else ((aZ.f k (wrap64 (q3*q7)) (wrap64 (q6*q8))).bind fun bt638=>(if bt638.2.2=true then (some (bt638.1,bt638.2.1,0)) else (some (0,0,3)))))=some (r1,r2,r3):=by first|(rw [hji20] at H;exact H)|(simp only [hji20] at H ⊢;exact H)
  (try rw [hji20] at A5)
  (try rw [hji20] at A7)
  (try rw [hji20] at A8)
  (try rw [hji20] at A9)
  (try rw [hji20] at A10)
  (try rw [hji20] at A11)
  (try rw [hji20] at A13)
  (try rw [hji20] at A15)
  (try rw [hji20] at A17)
  have hji20_:(if (ji19)<q7 then q7 else (ji19))=ji20:=hji20
  obtain ⟨ji21,hji21⟩:∃ j_:Int,(mx (ji20) (wrap64 (-q7)))=j_:=⟨_,rfl⟩
  replace H:(if (mx (mx (mx (mx (ji21) q6) (wrap64 (-q6))) q8) (wrap64 (-q8)))>1000000 then (some (0,0,3)) else ((aZ.f k (wrap64 (q3*q7)) (wrap64 (q6*q8))).bind fun bt638=>(if bt638.2.2=true then (some (bt638.1,bt638.2.1,0)) else (some (0,0,3)))))=some (r1,r2,r3):=by first|(rw [hji21] at H;exact H)|(simp only [hji21] at H ⊢;exact H)
  (try rw [hji21] at A5)
  (try rw [hji21] at A7)
  (try rw [hji21] at A8)
  (try rw [hji21] at A9)
  (try rw [hji21] at A10)
  (try rw [hji21] at A11)
  (try rw [hji21] at A13)
  (try rw [hji21] at A15)
  (try rw [hji21] at A17)
  have hji21_:(if (ji20)<(wrap64 (-q7)) then (wrap64 (-q7)) else (ji20))=ji21:=hji21
  obtain ⟨ji22,hji22⟩:∃ j_:Int,(mx (ji21) q6)=j_:=⟨_,rfl⟩
  replace H:(if (mx (mx (mx (ji22) (wrap64 (-q6))) q8) (wrap64 (-q8)))>1000000 then (some (0,0,3)) else ((aZ.f k (wrap64 (q3*q7)) (wrap64 (q6*q8))).bind fun bt638=>(if bt638.2.2=true then (some (bt638.1,bt638.2.1,0)) else (some (0,0,3)))))=some (r1,r2,r3):=by first|(rw [hji22] at H;exact H)|(simp only [hji22] at H ⊢;exact H)
  (try rw [hji22] at A5)
  (try rw [hji22] at A7)
  (try rw [hji22] at A8)
  (try rw [hji22] at A9)
  (try rw [hji22] at A10)
  (try rw [hji22] at A11)
  (try rw [hji22] at A13)
  (try rw [hji22] at A15)
  (try rw [hji22] at A17)
  have hji22_:(if (ji21)<q6 then q6 else (ji21))=ji22:=hji22
  obtain ⟨ji23,hji23⟩:∃ j_:Int,(mx (ji22) (wrap64 (-q6)))=j_:=⟨_,rfl⟩
  replace H:(if (mx (mx (ji23) q8) (wrap64 (-q8)))>1000000 then (some (0,0,3)) else ((aZ.f k (wrap64 (q3*q7)) (wrap64 (q6*q8))).bind fun bt638=>(if bt638.2.2=true then (some (bt638.1,bt638.2.1,0)) else (some (0,0,3)))))=some (r1,r2,r3):=by first|(rw [hji23] at H;exact H)|(simp only [hji23] at H ⊢;exact H)
  (try rw [hji23] at A5)
  (try rw [hji23] at A7)
  (try rw [hji23] at A8)
  (try rw [hji23] at A9)
  (try rw [hji23] at A10)
  (try rw [hji23] at A11)
  (try rw [hji23] at A13)
  (try rw [hji23] at A15)
  (try rw [hji23] at A17)
  have hji23_:(if (ji22)<(wrap64 (-q6)) then (wrap64 (-q6)) else (ji22))=ji23:=hji23
  obtain ⟨ji24,hji24⟩:∃ j_:Int,(mx (ji23) q8)=j_:=⟨_,rfl⟩
  replace H:(if (mx (ji24) (wrap64 (-q8)))>1000000 then (some (0,0,3)) else ((aZ.f k (wrap64 (q3*q7)) (wrap64 (q6*q8))).bind fun bt638=>(if bt638.2.2=true then (some (bt638.1,bt638.2.1,0)) else (some (0,0,3)))))=some (r1,r2,r3):=by first|(rw [hji24] at H;exact H)|(simp only [hji24] at H ⊢;exact H)
  (try rw [hji24] at A5)
  (try rw [hji24] at A7)
  (try rw [hji24] at A8)
  (try rw [hji24] at A9)
  (try rw [hji24] at A10)
  (try rw [hji24] at A11)
  (try rw [hji24] at A13)
  (try rw [hji24] at A15)
  (try rw [hji24] at A17)
  have hji24_:(if (ji23)<q8 then q8 else (ji23))=ji24:=hji24
  obtain ⟨ji25,hji25⟩:∃ j_:Int,(mx (ji24) (wrap64 (-q8)))=j_:=⟨_,rfl⟩
  replace H:(if (ji25)>1000000 then (some (0,0,3)) else ((aZ.f k (wrap64 (q3*q7)) (wrap64 (q6*q8))).bind fun bt638=>(if bt638.2.2=true then (some (bt638.1,bt638.2.1,0)) else (some (0,0,3)))))=some (r1,r2,r3):=by first|(rw [hji25] at H;exact H)|(simp only [hji25] at H ⊢;exact H)
  (try rw [hji25] at A5)
  (try rw [hji25] at A7)
  (try rw [hji25] at A8)
  (try rw [hji25] at A9)
  (try rw [hji25] at A10)
  (try rw [hji25] at A11)
  (try rw [hji25] at A13)
  (try rw [hji25] at A15)
  (try rw [hji25] at A17)
  have hji25_:(if (ji24)<(wrap64 (-q8)) then (wrap64 (-q8)) else (ji24))=ji25:=hji25
  by_cases c26:(ji25)>1000000
  ·
   rw [if_pos c26] at H
   have c26b0:decide (1000000<(ji25))=true:=decide_eq_true c26
   clear c26
   simp only [Option.some.injEq,Prod.mk.injEq] at H
   obtain ⟨rfl,rfl,rfl⟩:=H
   go_enter Try.func21,Try.ntmps21
   try go_wp2_with (first|((with_reducible refine aH (N:=4) rfl ?_);refine bxE (cs:=#[.int .i64 a0_0,.int .i64 a0_1]) (t:=28) ?_;intro gb621 hg w27 hbox hb;have BK621:=aA.mk hbox;have GW621:=sA hg;have GE621:=sA hg;replace HB:=lB hb;clear hb hbox hg)|((with_reducible refine aH (N:=5) rfl ?_);refine bxE (cs:=#[.int .i64 a1_0,.int .i64 a1_1]) (t:=28) ?_;intro gb622 hg w28 hbox hb;have LT621_622:=nL hg BK621;have BK622:=aA.mk hbox;have GW622:=sA hg;have GE622:=sA hg;replace BK621:=kB BK621 hb;replace HB:=lB hb;clear hb hbox hg)|((with_reducible refine aH (N:=6) rfl ?_);refine bxE (cs:=#[.int .i64 a2_0,.int .i64 a2_1]) (t:=28) ?_;intro gb623 hg w29 hbox hb;have LT621_623:=nL hg BK621;have LT622_623:=nL hg BK622;have BK623:=aA.mk hbox;have GW623:=sA hg;have GE623:=sA hg;replace BK621:=kB BK621 hb;replace BK622:=kB BK622 hb;replace HB:=lB hb;clear hb hbox hg)|((with_reducible refine aH (N:=7) rfl ?_);refine bxE (cs:=#[.int .i64 a3_0,.int .i64 a3_1]) (t:=28) ?_;intro gb624 hg w30 hbox hb;have LT621_624:=nL hg BK621;have LT622_624:=nL hg BK622;have LT623_624:=nL hg BK623;have BK624:=aA.mk hbox;have GW624:=sA hg;have GE624:=sA hg;replace BK621:=kB BK621 hb;replace BK622:=kB BK622 hb;replace BK623:=kB BK623 hb;replace HB:=lB hb;clear hb hbox hg)|((with_reducible refine aH (N:=8) rfl ?_);refine bxE (cs:=#[.int .i64 0,.int .i64 0]) (t:=28) ?_;intro gb625 hg w31 hbox hb;have LT621_625:=nL hg BK621;have LT622_625:=nL hg BK622;have LT623_625:=nL hg BK623;have LT624_625:=nL hg BK624;have BK625:=aA.mk hbox;have GW625:=sA hg;have GE625:=sA hg;replace BK621:=kB BK621 hb;replace BK622:=kB BK622 hb;replace BK623:=kB BK623 hb;replace BK624:=kB BK624 hb;replace HB:=lB hb;clear hb hbox hg;have hnb32:=LT621_622.out;have hnb33:=LT621_623.out;have hnb34:=LT621_624.out;have hnb35:=LT621_625.out;obtain ⟨hcz36_0,hcz36_1,hfz36_0,hfz36_1⟩:=cz2 BK621;have hnb37:=LT622_623.out;have hnb38:=LT622_624.out;have hnb39:=LT622_625.out;obtain ⟨hcz40_0,hcz40_1,hfz40_0,hfz40_1⟩:=cz2 BK622;have hnb41:=LT623_624.out;have hnb42:=LT623_625.out;obtain ⟨hcz43_0,hcz43_1,hfz43_0,hfz43_1⟩:=cz2 BK623;have hnb44:=LT624_625.out;obtain ⟨hcz45_0,hcz45_1,hfz45_0,hfz45_1⟩:=cz2 BK624)|((with_reducible refine aH (N:=22) rfl ?_);refine Kd.R_lit k28 _ 28 ?hg (N:=22) ?hd (xs:=([(⟨a0_0,a0_1⟩:S28),(⟨a1_0,a1_1⟩:S28),(⟨a2_0,a2_1⟩:S28),(⟨a3_0,a3_1⟩:S28)]:List (S28))) (inner:=[.int .i64 a0_0,.int .i64 a0_1,.int .i64 a1_0,.int .i64 a1_1,.int .i64 a2_0,.int .i64 a2_1,.int .i64 a3_0,.int .i64 a3_1]) (ok:=fun _=>True) (okp:=fun _=>True) ?hr ?hp (fun _ hk=>hk) trivial (Below.refl _ _) (Nat.le_refl _) (by simp) ?_;(case hd=>rfl);(case hg=>rfl);(case hr=>first|(go_simp;done)|(go_simp;rfl));(case hp=>exact (aY.c2 (show Kd.M k28 _ _ _ (⟨a0_0,a0_1⟩:S28) [.int .i64 a0_0,.int .i64 a0_1] from (aw _ _ _ (⟨a0_0,a0_1⟩:S28) )) (aY.c2 (show Kd.M k28 _ _ _ (⟨a1_0,a1_1⟩:S28) [.int .i64 a1_0,.int .i64 a1_1] from (aw _ _ _ (⟨a1_0,a1_1⟩:S28) )) (aY.c2 (show Kd.M k28 _ _ _ (⟨a2_0,a2_1⟩:S28) [.int .i64 a2_0,.int .i64 a2_1] from (aw _ _ _ (⟨a2_0,a2_1⟩:S28) )) (aY.c2 (show Kd.M k28 _ _ _ (⟨a3_0,a3_1⟩:S28) [.int .i64 a3_0,.int .i64 a3_1] from (aw _ _ _ (⟨a3_0,a3_1⟩:S28) )) (aY.none _ _))))));intro v627 w46 ho47 hb hg_ hnew_;clear hg_ hnew_;(first|rw [← Ny626.out] at ho47|(simp only [Int.reduceToNat] at ho47;rw [← Ny626.out] at ho47));have HO628:=aA.mk (Kd.R_lower (Kd.R_newB (Kd.R_newB (Kd.R_newB (Kd.R_newB (Kd.R_newB ho47 (bkA BK621)) (bkA BK622)) (bkA BK623)) (bkA BK624)) (bkA BK625)) (ak blA));replace BK621:=kB BK621 hb;replace BK622:=kB BK622 hb;replace BK623:=kB BK623 hb;replace BK624:=kB BK624 hb;replace BK625:=kB BK625 hb;replace HB:=lB hb;clear hb ho47;obtain ⟨Ao48,co48,eo48⟩:=Kd.R_slice HO628.out;subst eo48)|((with_reducible refine bK (f:=28) rfl ?_);refine gL (some 23) rfl Try.func28 #[.int .i64 2,.slice none 0 0,.slice Ao48 y626.length co48] ?_;(refine (ax.calls k 2 _ _ ([]:List (S25)) _ _ y626 t629 _ ?side1 ?side2 ?side3 ?side4 A5.out).mono ?_);(case side1=>exact Kd.C_nil _ _);(case side2=>exact Nat.le_refl _);(case side3=>exact cR (Kd.R_reads' HO628.out).2.2);(case side4=>exact (Kd.R_reads' HO628.out).2.1);rintro e w49 ⟨rfl,hb⟩;refine ⟨_,rfl,?_⟩;replace HO628:=aA.mk (Kd.R_below (rA HO628) hb);replace BK621:=kB BK621 hb;replace BK622:=kB BK622 hb;replace BK623:=kB BK623 hb;replace BK624:=kB BK624 hb;replace BK625:=kB BK625 hb;replace HB:=lB hb;clear hb))
   have n0_:=aA.mk (Kd.R_drew HO628.out)
   have n1_:=aA.mk (aK BK621.out)
   have n2_:=aA.mk (aK BK622.out)
   have n3_:=aA.mk (aK BK623.out)
   have n4_:=aA.mk (aK BK624.out)
   have n5_:=aA.mk (aK BK625.out)
   have n6_:=aA.mk (aV HB.out)
   clear HO628
   clear BK621
   clear BK622
   clear BK623
   clear BK624
   clear BK625
   clear HB
   have HO628:=n0_
   have BK621:=n1_
   have BK622:=n2_
   have BK623:=n3_
   have BK624:=n4_
   have BK625:=n5_
   have HB:=n6_
   clear n0_ n1_ n2_ n3_ n4_ n5_ n6_
   refine bf (n:=16) (S:=fun w'=>w'.cell? ⟨gb621,0,none⟩=some (.int .i64 a0_0)∧w'.cell? ⟨gb621,1,none⟩=some (.int .i64 a0_1)∧w'.cell? ⟨gb623,0,none⟩=some (.int .i64 a2_0)∧w'.cell? ⟨gb623,1,none⟩=some (.int .i64 a2_1)∧w'.cell? ⟨gb622,0,none⟩=some (.int .i64 a1_0)∧w'.cell? ⟨gb622,1,none⟩=some (.int .i64 a1_1)∧w'.cell? ⟨gb624,0,none⟩=some (.int .i64 a3_0)∧w'.cell? ⟨gb624,1,none⟩=some (.int .i64 a3_1)) (ds:=[]) #[Z,Z,Z,Z,Z,Z,Z,Z,Z,Z,Z,Z,Z,Z,Z,Z] (by kernel_rfl) rfl rfl ⟨cA BK621 0,cA BK621 1,cA BK623 0,cA BK623 1,cA BK622 0,cA BK622 1,cA BK624 0,cA BK624 1⟩ (fun hHeld=>?_);refine bH aM.tab4 aM.bits4 (fun HT_ HW_=>?_)
   generalize w49.drew=w50 at HO628 BK621 BK622 BK623 BK624 BK625 HB hHeld ⊢
   refine taA (i:=0) (N:=some 28) #[Y,Z,Z,Z,Z,Z,Z,Z,Z,Z,Z,Z,Z,Z,Z,Z] rfl rfl HT_ HW_ hHeld ?_
   refine taA (i:=1) (N:=some 29) #[Y,Y,Z,Z,Z,Z,Z,Z,Z,Z,Z,Z,Z,Z,Z,Z] rfl rfl HT_ HW_ hHeld ?_
   refine taA (i:=3) (N:=some 31) #[Y,Y,Z,Y,Z,Z,Z,Z,Z,Z,Z,Z,Z,Z,Z,Z] rfl rfl HT_ HW_ hHeld ?_
   refine taA (i:=4) (N:=some 32) #[Y,Y,Z,Y,Y,Z,Z,Z,Z,Z,Z,Z,Z,Z,Z,Z] rfl rfl HT_ HW_ hHeld ?_
   refine taA (i:=6) (N:=some 34) #[Y,Y,Z,Y,Y,Z,Y,Z,Z,Z,Z,Z,Z,Z,Z,Z] rfl rfl HT_ HW_ hHeld ?_
   refine taA (i:=7) (N:=some 35) #[Y,Y,Z,Y,Y,Z,Y,Y,Z,Z,Z,Z,Z,Z,Z,Z] rfl rfl HT_ HW_ hHeld ?_
   refine taA (i:=9) (N:=some 37) #[Y,Y,Z,Y,Y,Z,Y,Y,Z,Y,Z,Z,Z,Z,Z,Z] rfl rfl HT_ HW_ hHeld ?_
   refine taA (i:=10) (N:=some 38) #[Y,Y,Z,Y,Y,Z,Y,Y,Z,Y,Y,Z,Z,Z,Z,Z] rfl rfl HT_ HW_ hHeld ?_
   refine bg (i:=2) (N:=some 30) #[Y,Y,Y,Y,Y,Z,Y,Y,Z,Y,Y,Z,Z,Z,Z,Z] rfl rfl (az HT_.out (by kernel_rfl)) (by decide) (fun K hK=>?_)
   refine goC Try.func57 (aj.calls (w:=_) (h:=A7.out)) ?_
   intro w51 hb
   replace HO628:=aA.mk (Kd.R_below (rA HO628) hb)
   replace BK621:=kB BK621 hb
   replace BK622:=kB BK622 hb
   replace BK623:=kB BK623 hb
   replace BK624:=kB BK624 hb
   replace BK625:=kB BK625 hb
   replace HB:=lB hb
   (try clear hb)
   (try clear hb2)
   (try clear hk)
   (try clear hi)
   refine hK.out _ _ ⟨cA BK621 0,cA BK621 1,cA BK623 0,cA BK623 1,cA BK622 0,cA BK622 1,cA BK624 0,cA BK624 1⟩ (fun hHeld=>?_)
   clear hK K
   refine nmA ?_
   refine bg (i:=5) (N:=some 33) #[Y,Y,Y,Y,Y,Y,Y,Y,Z,Y,Y,Z,Z,Z,Z,Z] rfl rfl (az HT_.out (by kernel_rfl)) (by decide) (fun K hK=>?_)
   refine goC Try.func57 (aj.calls (w:=_) (h:=A8.out)) ?_
   intro w52 hb
   replace HO628:=aA.mk (Kd.R_below (rA HO628) hb)
   replace BK621:=kB BK621 hb
   replace BK622:=kB BK622 hb
   replace BK623:=kB BK623 hb
   replace BK624:=kB BK624 hb
   replace BK625:=kB BK625 hb
   replace HB:=lB hb
   (try clear hb)
   (try clear hb2)
   (try clear hk)
   (try clear hi)
   refine hK.out _ _ ⟨cA BK621 0,cA BK621 1,cA BK623 0,cA BK623 1,cA BK622 0,cA BK622 1,cA BK624 0,cA BK624 1⟩ (fun hHeld=>?_)
   clear hK K
   refine nmA ?_
   refine bg (i:=8) (N:=some 36) #[Y,Y,Y,Y,Y,Y,Y,Y,Y,Y,Y,Z,Z,Z,Z,Z] rfl rfl (az HT_.out (by kernel_rfl)) (by decide) (fun K hK=>?_)
   refine goC Try.func57 (aj.calls (w:=_) (h:=A9.out)) ?_
   intro w53 hb
   replace HO628:=aA.mk (Kd.R_below (rA HO628) hb)
   replace BK621:=kB BK621 hb
   replace BK622:=kB BK622 hb
   replace BK623:=kB BK623 hb
   replace BK624:=kB BK624 hb
   replace BK625:=kB BK625 hb
   replace HB:=lB hb
   (try clear hb)
   (try clear hb2)
   (try clear hk)
   (try clear hi)
   refine hK.out _ _ ⟨cA BK621 0,cA BK621 1,cA BK623 0,cA BK623 1,cA BK622 0,cA BK622 1,cA BK624 0,cA BK624 1⟩ (fun hHeld=>?_)
   clear hK K
   refine nmA ?_
   refine bg (i:=11) (N:=some 39) #[Y,Y,Y,Y,Y,Y,Y,Y,Y,Y,Y,Y,Z,Z,Z,Z] rfl rfl (az HT_.out (by kernel_rfl)) (by decide) (fun K hK=>?_)
   refine goC Try.func57 (aj.calls (w:=_) (h:=A10.out)) ?_
   intro w54 hb
   replace HO628:=aA.mk (Kd.R_below (rA HO628) hb)
   replace BK621:=kB BK621 hb
   replace BK622:=kB BK622 hb
   replace BK623:=kB BK623 hb
   replace BK624:=kB BK624 hb
   replace BK625:=kB BK625 hb
   replace HB:=lB hb
   (try clear hb)
   (try clear hb2)
   (try clear hk)
   (try clear hi)
   refine hK.out _ _ ⟨cA BK621 0,cA BK621 1,cA BK623 0,cA BK623 1,cA BK622 0,cA BK622 1,cA BK624 0,cA BK624 1⟩ (fun hHeld=>?_)
   clear hK K
   refine nmA ?_
   refine puA (i:=12) (N:=some 11) #[Y,Y,Y,Y,Y,Y,Y,Y,Y,Y,Y,Y,Y,Z,Z,Z] rfl rfl HT_ ?_
   refine puA (i:=13) (N:=some 12) #[Y,Y,Y,Y,Y,Y,Y,Y,Y,Y,Y,Y,Y,Y,Z,Z] rfl rfl HT_ ?_
   refine puA (i:=14) (N:=some 13) #[Y,Y,Y,Y,Y,Y,Y,Y,Y,Y,Y,Y,Y,Y,Y,Z] rfl rfl HT_ ?_
   refine puA (i:=15) (N:=some 14) #[Y,Y,Y,Y,Y,Y,Y,Y,Y,Y,Y,Y,Y,Y,Y,Y] rfl rfl HT_ ?_
   refine cL (bX HT_.out (by kernel_rfl)) ?_
   try go_wp2_with (first|((with_reducible refine gd 42 rfl ?_);refine gC (some 42) rfl Try.func62 (a9.calls (w:=_) (h:=A11.out)) ?_;intro w55 hb;replace HO628:=aA.mk (Kd.R_below (rA HO628) hb);replace BK621:=kB BK621 hb;replace BK622:=kB BK622 hb;replace BK623:=kB BK623 hb;replace BK624:=kB BK624 hb;replace BK625:=kB BK625 hb;replace HB:=lB hb;clear hb))
   have n0_:=aA.mk (Kd.R_drew HO628.out)
   have n1_:=aA.mk (aK BK621.out)
   have n2_:=aA.mk (aK BK622.out)
   have n3_:=aA.mk (aK BK623.out)
   have n4_:=aA.mk (aK BK624.out)
   have n5_:=aA.mk (aK BK625.out)
   have n6_:=aA.mk (aV HB.out)
   clear HO628
   clear BK621
   clear BK622
   clear BK623
   clear BK624
   clear BK625
   clear HB
   have HO628:=n0_
   have BK621:=n1_
   have BK622:=n2_
   have BK623:=n3_
   have BK624:=n4_
   have BK625:=n5_
   have HB:=n6_
   clear n0_ n1_ n2_ n3_ n4_ n5_ n6_
   refine bf (n:=8) (S:=fun w'=>True) (ds:=[]) #[Z,Z,Z,Z,Z,Z,Z,Z] (by kernel_rfl) rfl rfl trivial (fun hHeld=>?_);refine bH aM.tab6 aM.bits6 (fun HT_ HW_=>?_)
   generalize w55.drew=w56 at HO628 BK621 BK622 BK623 BK624 BK625 HB hHeld ⊢
   refine puA (i:=0) (N:=some 43) #[Y,Z,Z,Z,Z,Z,Z,Z] rfl rfl HT_ ?_
   refine puA (i:=1) (N:=some 44) #[Y,Y,Z,Z,Z,Z,Z,Z] rfl rfl HT_ ?_
   refine puA (i:=2) (N:=some 45) #[Y,Y,Y,Z,Z,Z,Z,Z] rfl rfl HT_ ?_
   refine puA (i:=3) (N:=some 46) #[Y,Y,Y,Y,Z,Z,Z,Z] rfl rfl HT_ ?_
   refine puA (i:=4) (N:=some 47) #[Y,Y,Y,Y,Y,Z,Z,Z] rfl rfl HT_ ?_
   refine puA (i:=5) (N:=some 48) #[Y,Y,Y,Y,Y,Y,Z,Z] rfl rfl HT_ ?_
   refine puA (i:=6) (N:=some 11) #[Y,Y,Y,Y,Y,Y,Y,Z] rfl rfl HT_ ?_
   refine puA (i:=7) (N:=some 13) #[Y,Y,Y,Y,Y,Y,Y,Y] rfl rfl HT_ ?_
   refine cL (bX HT_.out (by kernel_rfl)) ?_
   try go_wp2_with (first|((with_reducible refine gd 51 rfl ?_);refine gC (some 51) rfl Try.func62 (a9.calls (w:=_) (h:=A13.out)) ?_;intro w57 hb;replace HO628:=aA.mk (Kd.R_below (rA HO628) hb);replace BK621:=kB BK621 hb;replace BK622:=kB BK622 hb;replace BK623:=kB BK623 hb;replace BK624:=kB BK624 hb;replace BK625:=kB BK625 hb;replace HB:=lB hb;clear hb))
   have n0_:=aA.mk (Kd.R_drew HO628.out)
   have n1_:=aA.mk (aK BK621.out)
   have n2_:=aA.mk (aK BK622.out)
   have n3_:=aA.mk (aK BK623.out)
   have n4_:=aA.mk (aK BK624.out)
   have n5_:=aA.mk (aK BK625.out)
   have n6_:=aA.mk (aV HB.out)
   clear HO628
   clear BK621
   clear BK622
   clear BK623
   clear BK624
   clear BK625
   clear HB
   have HO628:=n0_
   have BK621:=n1_
   have BK622:=n2_
   have BK623:=n3_
   have BK624:=n4_
   have BK625:=n5_
   have HB:=n6_
   clear n0_ n1_ n2_ n3_ n4_ n5_ n6_
   refine bf (n:=8) (S:=fun w'=>True) (ds:=[]) #[Z,Z,Z,Z,Z,Z,Z,Z] (by kernel_rfl) rfl rfl trivial (fun hHeld=>?_);refine bH aM.tab8 aM.bits8 (fun HT_ HW_=>?_)
   generalize w57.drew=w58 at HO628 BK621 BK622 BK623 BK624 BK625 HB hHeld ⊢
   refine puA (i:=0) (N:=some 52) #[Y,Z,Z,Z,Z,Z,Z,Z] rfl rfl HT_ ?_
   refine puA (i:=1) (N:=some 53) #[Y,Y,Z,Z,Z,Z,Z,Z] rfl rfl HT_ ?_
   refine puA (i:=2) (N:=some 54) #[Y,Y,Y,Z,Z,Z,Z,Z] rfl rfl HT_ ?_
   refine puA (i:=3) (N:=some 55) #[Y,Y,Y,Y,Z,Z,Z,Z] rfl rfl HT_ ?_
   refine puA (i:=4) (N:=some 56) #[Y,Y,Y,Y,Y,Z,Z,Z] rfl rfl HT_ ?_
   refine puA (i:=5) (N:=some 57) #[Y,Y,Y,Y,Y,Y,Z,Z] rfl rfl HT_ ?_
   refine puA (i:=6) (N:=some 11) #[Y,Y,Y,Y,Y,Y,Y,Z] rfl rfl HT_ ?_
   refine puA (i:=7) (N:=some 14) #[Y,Y,Y,Y,Y,Y,Y,Y] rfl rfl HT_ ?_
   refine cL (bX HT_.out (by kernel_rfl)) ?_
   try go_wp2_with (first|((with_reducible refine gd 60 rfl ?_);refine gC (some 60) rfl Try.func62 (a9.calls (w:=_) (h:=A15.out)) ?_;intro w59 hb;replace HO628:=aA.mk (Kd.R_below (rA HO628) hb);replace BK621:=kB BK621 hb;replace BK622:=kB BK622 hb;replace BK623:=kB BK623 hb;replace BK624:=kB BK624 hb;replace BK625:=kB BK625 hb;replace HB:=lB hb;clear hb))
   have n0_:=aA.mk (Kd.R_drew HO628.out)
   have n1_:=aA.mk (aK BK621.out)
   have n2_:=aA.mk (aK BK622.out)
   have n3_:=aA.mk (aK BK623.out)
   have n4_:=aA.mk (aK BK624.out)
   have n5_:=aA.mk (aK BK625.out)
   have n6_:=aA.mk (aV HB.out)
   clear HO628
   clear BK621
   clear BK622
   clear BK623
   clear BK624
   clear BK625
   clear HB
   have HO628:=n0_
   have BK621:=n1_
   have BK622:=n2_
   have BK623:=n3_
   have BK624:=n4_
   have BK625:=n5_
   have HB:=n6_
   clear n0_ n1_ n2_ n3_ n4_ n5_ n6_
   refine bf (n:=8) (S:=fun w'=>True) (ds:=[]) #[Z,Z,Z,Z,Z,Z,Z,Z] (by kernel_rfl) rfl rfl trivial (fun hHeld=>?_);refine bH aM.tab10 aM.bits10 (fun HT_ HW_=>?_)
   generalize w59.drew=w60 at HO628 BK621 BK622 BK623 BK624 BK625 HB hHeld ⊢
   refine puA (i:=0) (N:=some 61) #[Y,Z,Z,Z,Z,Z,Z,Z] rfl rfl HT_ ?_
   refine puA (i:=1) (N:=some 62) #[Y,Y,Z,Z,Z,Z,Z,Z] rfl rfl HT_ ?_
   refine puA (i:=2) (N:=some 63) #[Y,Y,Y,Z,Z,Z,Z,Z] rfl rfl HT_ ?_
   refine puA (i:=3) (N:=some 64) #[Y,Y,Y,Y,Z,Z,Z,Z] rfl rfl HT_ ?_
   refine puA (i:=4) (N:=some 65) #[Y,Y,Y,Y,Y,Z,Z,Z] rfl rfl HT_ ?_
   refine puA (i:=5) (N:=some 66) #[Y,Y,Y,Y,Y,Y,Z,Z] rfl rfl HT_ ?_
   refine puA (i:=6) (N:=some 12) #[Y,Y,Y,Y,Y,Y,Y,Z] rfl rfl HT_ ?_
   refine puA (i:=7) (N:=some 13) #[Y,Y,Y,Y,Y,Y,Y,Y] rfl rfl HT_ ?_
   refine cL (bX HT_.out (by kernel_rfl)) ?_
   try go_wp2_with (first|((with_reducible refine gd 69 rfl ?_);refine gC (some 69) rfl Try.func62 (a9.calls (w:=_) (h:=A17.out)) ?_;intro w61 hb;replace HO628:=aA.mk (Kd.R_below (rA HO628) hb);replace BK621:=kB BK621 hb;replace BK622:=kB BK622 hb;replace BK623:=kB BK623 hb;replace BK624:=kB BK624 hb;replace BK625:=kB BK625 hb;replace HB:=lB hb;clear hb))
   have n0_:=aA.mk (Kd.R_drew HO628.out)
   have n1_:=aA.mk (aK BK621.out)
   have n2_:=aA.mk (aK BK622.out)
   have n3_:=aA.mk (aK BK623.out)
   have n4_:=aA.mk (aK BK624.out)
   have n5_:=aA.mk (aK BK625.out)
   have n6_:=aA.mk (aV HB.out)
   clear HO628
   clear BK621
   clear BK622
   clear BK623
   clear BK624
   clear BK625
   clear HB
   have HO628:=n0_
   have BK621:=n1_
   have BK622:=n2_
   have BK623:=n3_
   have BK624:=n4_
   have BK625:=n5_
   have HB:=n6_
   clear n0_ n1_ n2_ n3_ n4_ n5_ n6_
   refine bf (n:=8) (S:=fun w'=>True) (ds:=[]) #[Z,Z,Z,Z,Z,Z,Z,Z] (by kernel_rfl) rfl rfl trivial (fun hHeld=>?_);refine bH aM.tab12 aM.bits12 (fun HT_ HW_=>?_)
   generalize w61.drew=w62 at HO628 BK621 BK622 BK623 BK624 BK625 HB hHeld ⊢
   refine puA (i:=0) (N:=some 70) #[Y,Z,Z,Z,Z,Z,Z,Z] rfl rfl HT_ ?_
   refine puA (i:=1) (N:=some 71) #[Y,Y,Z,Z,Z,Z,Z,Z] rfl rfl HT_ ?_
   refine puA (i:=2) (N:=some 72) #[Y,Y,Y,Z,Z,Z,Z,Z] rfl rfl HT_ ?_
   refine puA (i:=3) (N:=some 73) #[Y,Y,Y,Y,Z,Z,Z,Z] rfl rfl HT_ ?_
   refine puA (i:=4) (N:=some 74) #[Y,Y,Y,Y,Y,Z,Z,Z] rfl rfl HT_ ?_
   refine puA (i:=5) (N:=some 75) #[Y,Y,Y,Y,Y,Y,Z,Z] rfl rfl HT_ ?_
   refine puA (i:=6) (N:=some 12) #[Y,Y,Y,Y,Y,Y,Y,Z] rfl rfl HT_ ?_
   refine puA (i:=7) (N:=some 14) #[Y,Y,Y,Y,Y,Y,Y,Y] rfl rfl HT_ ?_
   refine cL (bX HT_.out (by kernel_rfl)) ?_
   obtain ⟨hcz63_0,hcz63_1,hfz63_0,hfz63_1⟩:=cz2 BK625
   try go_wp2
   refine bodyPost_ret (bC rfl _ _ gb625 28 #[.int .i64 0,.int .i64 0] (0,0) _ rfl (bpA BK625) Try.underlying28 rfl (by kernel_rfl)) rfl ?_
   exact ⟨by first|rfl|(simp [bB,bA] <;> rfl)|(simp only [← hji19,← hji20,← hji21,← hji22,← hji23,← hji24,← hji25];first|rfl|(simp [bB,bA] <;> rfl))|(simp [*,bB,bA] <;> rfl),blA⟩
  ·
   rw [if_neg c26] at H
   have c26b0:decide (1000000<(ji25))=false:=decide_eq_false c26
   clear c26
   replace H:=bS H
   obtain ⟨⟨t638,t639,t640⟩,A64,H⟩:=H
   try dsimp only at H
   by_cases c65:t640=true
   ·
    subst c65
    rw [if_pos rfl] at H
    try dsimp only at H
    simp only [Option.some.injEq,Prod.mk.injEq] at H
    obtain ⟨rfl,rfl,rfl⟩:=H
    go_enter Try.func21,Try.ntmps21
    try go_wp2_with (first|((with_reducible refine aH (N:=4) rfl ?_);refine bxE (cs:=#[.int .i64 a0_0,.int .i64 a0_1]) (t:=28) ?_;intro gb621 hg w66 hbox hb;have BK621:=aA.mk hbox;have GW621:=sA hg;have GE621:=sA hg;replace HB:=lB hb;clear hb hbox hg)|((with_reducible refine aH (N:=5) rfl ?_);refine bxE (cs:=#[.int .i64 a1_0,.int .i64 a1_1]) (t:=28) ?_;intro gb622 hg w67 hbox hb;have LT621_622:=nL hg BK621;have BK622:=aA.mk hbox;have GW622:=sA hg;have GE622:=sA hg;replace BK621:=kB BK621 hb;replace HB:=lB hb;clear hb hbox hg)|((with_reducible refine aH (N:=6) rfl ?_);refine bxE (cs:=#[.int .i64 a2_0,.int .i64 a2_1]) (t:=28) ?_;intro gb623 hg w68 hbox hb;have LT621_623:=nL hg BK621;have LT622_623:=nL hg BK622;have BK623:=aA.mk hbox;have GW623:=sA hg;have GE623:=sA hg;replace BK621:=kB BK621 hb;replace BK622:=kB BK622 hb;replace HB:=lB hb;clear hb hbox hg)|((with_reducible refine aH (N:=7) rfl ?_);refine bxE (cs:=#[.int .i64 a3_0,.int .i64 a3_1]) (t:=28) ?_;intro gb624 hg w69 hbox hb;have LT621_624:=nL hg BK621;have LT622_624:=nL hg BK622;have LT623_624:=nL hg BK623;have BK624:=aA.mk hbox;have GW624:=sA hg;have GE624:=sA hg;replace BK621:=kB BK621 hb;replace BK622:=kB BK622 hb;replace BK623:=kB BK623 hb;replace HB:=lB hb;clear hb hbox hg)|((with_reducible refine aH (N:=8) rfl ?_);refine bxE (cs:=#[.int .i64 0,.int .i64 0]) (t:=28) ?_;intro gb625 hg w70 hbox hb;have LT621_625:=nL hg BK621;have LT622_625:=nL hg BK622;have LT623_625:=nL hg BK623;have LT624_625:=nL hg BK624;have BK625:=aA.mk hbox;have GW625:=sA hg;have GE625:=sA hg;replace BK621:=kB BK621 hb;replace BK622:=kB BK622 hb;replace BK623:=kB BK623 hb;replace BK624:=kB BK624 hb;replace HB:=lB hb;clear hb hbox hg;have hnb71:=LT621_622.out;have hnb72:=LT621_623.out;have hnb73:=LT621_624.out;have hnb74:=LT621_625.out;obtain ⟨hcz75_0,hcz75_1,hfz75_0,hfz75_1⟩:=cz2 BK621;have hnb76:=LT622_623.out;have hnb77:=LT622_624.out;have hnb78:=LT622_625.out;obtain ⟨hcz79_0,hcz79_1,hfz79_0,hfz79_1⟩:=cz2 BK622;have hnb80:=LT623_624.out;have hnb81:=LT623_625.out;obtain ⟨hcz82_0,hcz82_1,hfz82_0,hfz82_1⟩:=cz2 BK623;have hnb83:=LT624_625.out;obtain ⟨hcz84_0,hcz84_1,hfz84_0,hfz84_1⟩:=cz2 BK624)|((with_reducible refine aH (N:=22) rfl ?_);refine Kd.R_lit k28 _ 28 ?hg (N:=22) ?hd (xs:=([(⟨a0_0,a0_1⟩:S28),(⟨a1_0,a1_1⟩:S28),(⟨a2_0,a2_1⟩:S28),(⟨a3_0,a3_1⟩:S28)]:List (S28))) (inner:=[.int .i64 a0_0,.int .i64 a0_1,.int .i64 a1_0,.int .i64 a1_1,.int .i64 a2_0,.int .i64 a2_1,.int .i64 a3_0,.int .i64 a3_1]) (ok:=fun _=>True) (okp:=fun _=>True) ?hr ?hp (fun _ hk=>hk) trivial (Below.refl _ _) (Nat.le_refl _) (by simp) ?_;(case hd=>rfl);(case hg=>rfl);(case hr=>first|(go_simp;done)|(go_simp;rfl));(case hp=>exact (aY.c2 (show Kd.M k28 _ _ _ (⟨a0_0,a0_1⟩:S28) [.int .i64 a0_0,.int .i64 a0_1] from (aw _ _ _ (⟨a0_0,a0_1⟩:S28) )) (aY.c2 (show Kd.M k28 _ _ _ (⟨a1_0,a1_1⟩:S28) [.int .i64 a1_0,.int .i64 a1_1] from (aw _ _ _ (⟨a1_0,a1_1⟩:S28) )) (aY.c2 (show Kd.M k28 _ _ _ (⟨a2_0,a2_1⟩:S28) [.int .i64 a2_0,.int .i64 a2_1] from (aw _ _ _ (⟨a2_0,a2_1⟩:S28) )) (aY.c2 (show Kd.M k28 _ _ _ (⟨a3_0,a3_1⟩:S28) [.int .i64 a3_0,.int .i64 a3_1] from (aw _ _ _ (⟨a3_0,a3_1⟩:S28) )) (aY.none _ _))))));intro v627 w85 ho86 hb hg_ hnew_;clear hg_ hnew_;(first|rw [← Ny626.out] at ho86|(simp only [Int.reduceToNat] at ho86;rw [← Ny626.out] at ho86));have HO628:=aA.mk (Kd.R_lower (Kd.R_newB (Kd.R_newB (Kd.R_newB (Kd.R_newB (Kd.R_newB ho86 (bkA BK621)) (bkA BK622)) (bkA BK623)) (bkA BK624)) (bkA BK625)) (ak blA));replace BK621:=kB BK621 hb;replace BK622:=kB BK622 hb;replace BK623:=kB BK623 hb;replace BK624:=kB BK624 hb;replace BK625:=kB BK625 hb;replace HB:=lB hb;clear hb ho86;obtain ⟨Ao87,co87,eo87⟩:=Kd.R_slice HO628.out;subst eo87)|((with_reducible refine bK (f:=28) rfl ?_);refine gL (some 23) rfl Try.func28 #[.int .i64 2,.slice none 0 0,.slice Ao87 y626.length co87] ?_;(refine (ax.calls k 2 _ _ ([]:List (S25)) _ _ y626 t629 _ ?side1 ?side2 ?side3 ?side4 A5.out).mono ?_);(case side1=>exact Kd.C_nil _ _);(case side2=>exact Nat.le_refl _);(case side3=>exact cR (Kd.R_reads' HO628.out).2.2);(case side4=>exact (Kd.R_reads' HO628.out).2.1);rintro e w88 ⟨rfl,hb⟩;refine ⟨_,rfl,?_⟩;replace HO628:=aA.mk (Kd.R_below (rA HO628) hb);replace BK621:=kB BK621 hb;replace BK622:=kB BK622 hb;replace BK623:=kB BK623 hb;replace BK624:=kB BK624 hb;replace BK625:=kB BK625 hb;replace HB:=lB hb;clear hb))
    have n0_:=aA.mk (Kd.R_drew HO628.out)
    have n1_:=aA.mk (aK BK621.out)
    have n2_:=aA.mk (aK BK622.out)
    have n3_:=aA.mk (aK BK623.out)
    have n4_:=aA.mk (aK BK624.out)
    have n5_:=aA.mk (aK BK625.out)
    have n6_:=aA.mk (aV HB.out)
    clear HO628
    clear BK621
    clear BK622
    clear BK623
    clear BK624
    clear BK625
    clear HB
    have HO628:=n0_
    have BK621:=n1_
    have BK622:=n2_
    have BK623:=n3_
    have BK624:=n4_
    have BK625:=n5_
    have HB:=n6_
    clear n0_ n1_ n2_ n3_ n4_ n5_ n6_
    refine bf (n:=16) (S:=fun w'=>w'.cell? ⟨gb621,0,none⟩=some (.int .i64 a0_0)∧w'.cell? ⟨gb621,1,none⟩=some (.int .i64 a0_1)∧w'.cell? ⟨gb623,0,none⟩=some (.int .i64 a2_0)∧w'.cell? ⟨gb623,1,none⟩=some (.int .i64 a2_1)∧w'.cell? ⟨gb622,0,none⟩=some (.int .i64 a1_0)∧w'.cell? ⟨gb622,1,none⟩=some (.int .i64 a1_1)∧w'.cell? ⟨gb624,0,none⟩=some (.int .i64 a3_0)∧w'.cell? ⟨gb624,1,none⟩=some (.int .i64 a3_1)) (ds:=[]) #[Z,Z,Z,Z,Z,Z,Z,Z,Z,Z,Z,Z,Z,Z,Z,Z] (by kernel_rfl) rfl rfl ⟨cA BK621 0,cA BK621 1,cA BK623 0,cA BK623 1,cA BK622 0,cA BK622 1,cA BK624 0,cA BK624 1⟩ (fun hHeld=>?_);refine bH aM.tab4 aM.bits4 (fun HT_ HW_=>?_)
    generalize w88.drew=w89 at HO628 BK621 BK622 BK623 BK624 BK625 HB hHeld ⊢
    refine taA (i:=0) (N:=some 28) #[Y,Z,Z,Z,Z,Z,Z,Z,Z,Z,Z,Z,Z,Z,Z,Z] rfl rfl HT_ HW_ hHeld ?_
    refine taA (i:=1) (N:=some 29) #[Y,Y,Z,Z,Z,Z,Z,Z,Z,Z,Z,Z,Z,Z,Z,Z] rfl rfl HT_ HW_ hHeld ?_
    refine taA (i:=3) (N:=some 31) #[Y,Y,Z,Y,Z,Z,Z,Z,Z,Z,Z,Z,Z,Z,Z,Z] rfl rfl HT_ HW_ hHeld ?_
    refine taA (i:=4) (N:=some 32) #[Y,Y,Z,Y,Y,Z,Z,Z,Z,Z,Z,Z,Z,Z,Z,Z] rfl rfl HT_ HW_ hHeld ?_
    refine taA (i:=6) (N:=some 34) #[Y,Y,Z,Y,Y,Z,Y,Z,Z,Z,Z,Z,Z,Z,Z,Z] rfl rfl HT_ HW_ hHeld ?_
    refine taA (i:=7) (N:=some 35) #[Y,Y,Z,Y,Y,Z,Y,Y,Z,Z,Z,Z,Z,Z,Z,Z] rfl rfl HT_ HW_ hHeld ?_
    refine taA (i:=9) (N:=some 37) #[Y,Y,Z,Y,Y,Z,Y,Y,Z,Y,Z,Z,Z,Z,Z,Z] rfl rfl HT_ HW_ hHeld ?_
    refine taA (i:=10) (N:=some 38) #[Y,Y,Z,Y,Y,Z,Y,Y,Z,Y,Y,Z,Z,Z,Z,Z] rfl rfl HT_ HW_ hHeld ?_
    refine bg (i:=2) (N:=some 30) #[Y,Y,Y,Y,Y,Z,Y,Y,Z,Y,Y,Z,Z,Z,Z,Z] rfl rfl (az HT_.out (by kernel_rfl)) (by decide) (fun K hK=>?_)
    refine goC Try.func57 (aj.calls (w:=_) (h:=A7.out)) ?_
    intro w90 hb
    replace HO628:=aA.mk (Kd.R_below (rA HO628) hb)
    replace BK621:=kB BK621 hb
    replace BK622:=kB BK622 hb
    replace BK623:=kB BK623 hb
    replace BK624:=kB BK624 hb
    replace BK625:=kB BK625 hb
    replace HB:=lB hb
    (try clear hb)
    (try clear hb2)
    (try clear hk)
    (try clear hi)
    refine hK.out _ _ ⟨cA BK621 0,cA BK621 1,cA BK623 0,cA BK623 1,cA BK622 0,cA BK622 1,cA BK624 0,cA BK624 1⟩ (fun hHeld=>?_)
    clear hK K
    refine nmA ?_
    refine bg (i:=5) (N:=some 33) #[Y,Y,Y,Y,Y,Y,Y,Y,Z,Y,Y,Z,Z,Z,Z,Z] rfl rfl (az HT_.out (by kernel_rfl)) (by decide) (fun K hK=>?_)
    refine goC Try.func57 (aj.calls (w:=_) (h:=A8.out)) ?_
    intro w91 hb
    replace HO628:=aA.mk (Kd.R_below (rA HO628) hb)
    replace BK621:=kB BK621 hb
    replace BK622:=kB BK622 hb
    replace BK623:=kB BK623 hb
    replace BK624:=kB BK624 hb
    replace BK625:=kB BK625 hb
    replace HB:=lB hb
    (try clear hb)
    (try clear hb2)
    (try clear hk)
    (try clear hi)
    refine hK.out _ _ ⟨cA BK621 0,cA BK621 1,cA BK623 0,cA BK623 1,cA BK622 0,cA BK622 1,cA BK624 0,cA BK624 1⟩ (fun hHeld=>?_)
    clear hK K
    refine nmA ?_
    refine bg (i:=8) (N:=some 36) #[Y,Y,Y,Y,Y,Y,Y,Y,Y,Y,Y,Z,Z,Z,Z,Z] rfl rfl (az HT_.out (by kernel_rfl)) (by decide) (fun K hK=>?_)
    refine goC Try.func57 (aj.calls (w:=_) (h:=A9.out)) ?_
    intro w92 hb
    replace HO628:=aA.mk (Kd.R_below (rA HO628) hb)
    replace BK621:=kB BK621 hb
    replace BK622:=kB BK622 hb
    replace BK623:=kB BK623 hb
    replace BK624:=kB BK624 hb
    replace BK625:=kB BK625 hb
    replace HB:=lB hb
    (try clear hb)
    (try clear hb2)
    (try clear hk)
    (try clear hi)
    refine hK.out _ _ ⟨cA BK621 0,cA BK621 1,cA BK623 0,cA BK623 1,cA BK622 0,cA BK622 1,cA BK624 0,cA BK624 1⟩ (fun hHeld=>?_)
    clear hK K
    refine nmA ?_
    refine bg (i:=11) (N:=some 39) #[Y,Y,Y,Y,Y,Y,Y,Y,Y,Y,Y,Y,Z,Z,Z,Z] rfl rfl (az HT_.out (by kernel_rfl)) (by decide) (fun K hK=>?_)
    refine goC Try.func57 (aj.calls (w:=_) (h:=A10.out)) ?_
    intro w93 hb
    replace HO628:=aA.mk (Kd.R_below (rA HO628) hb)
    replace BK621:=kB BK621 hb
    replace BK622:=kB BK622 hb
    replace BK623:=kB BK623 hb
    replace BK624:=kB BK624 hb
    replace BK625:=kB BK625 hb
    replace HB:=lB hb
    (try clear hb)
    (try clear hb2)
    (try clear hk)
    (try clear hi)
    refine hK.out _ _ ⟨cA BK621 0,cA BK621 1,cA BK623 0,cA BK623 1,cA BK622 0,cA BK622 1,cA BK624 0,cA BK624 1⟩ (fun hHeld=>?_)
    clear hK K
    refine nmA ?_
    refine puA (i:=12) (N:=some 11) #[Y,Y,Y,Y,Y,Y,Y,Y,Y,Y,Y,Y,Y,Z,Z,Z] rfl rfl HT_ ?_
    refine puA (i:=13) (N:=some 12) #[Y,Y,Y,Y,Y,Y,Y,Y,Y,Y,Y,Y,Y,Y,Z,Z] rfl rfl HT_ ?_
    refine puA (i:=14) (N:=some 13) #[Y,Y,Y,Y,Y,Y,Y,Y,Y,Y,Y,Y,Y,Y,Y,Z] rfl rfl HT_ ?_
    refine puA (i:=15) (N:=some 14) #[Y,Y,Y,Y,Y,Y,Y,Y,Y,Y,Y,Y,Y,Y,Y,Y] rfl rfl HT_ ?_
    refine cL (bX HT_.out (by kernel_rfl)) ?_
    try go_wp2_with (first|((with_reducible refine gd 42 rfl ?_);refine gC (some 42) rfl Try.func62 (a9.calls (w:=_) (h:=A11.out)) ?_;intro w94 hb;replace HO628:=aA.mk (Kd.R_below (rA HO628) hb);replace BK621:=kB BK621 hb;replace BK622:=kB BK622 hb;replace BK623:=kB BK623 hb;replace BK624:=kB BK624 hb;replace BK625:=kB BK625 hb;replace HB:=lB hb;clear hb))
    have n0_:=aA.mk (Kd.R_drew HO628.out)
    have n1_:=aA.mk (aK BK621.out)
    have n2_:=aA.mk (aK BK622.out)
    have n3_:=aA.mk (aK BK623.out)
    have n4_:=aA.mk (aK BK624.out)
    have n5_:=aA.mk (aK BK625.out)
    have n6_:=aA.mk (aV HB.out)
    clear HO628
    clear BK621
    clear BK622
    clear BK623
    clear BK624
    clear BK625
    clear HB
    have HO628:=n0_
    have BK621:=n1_
    have BK622:=n2_
    have BK623:=n3_
    have BK624:=n4_
    have BK625:=n5_
    have HB:=n6_
    clear n0_ n1_ n2_ n3_ n4_ n5_ n6_
    refine bf (n:=8) (S:=fun w'=>True) (ds:=[]) #[Z,Z,Z,Z,Z,Z,Z,Z] (by kernel_rfl) rfl rfl trivial (fun hHeld=>?_);refine bH aM.tab6 aM.bits6 (fun HT_ HW_=>?_)
    generalize w94.drew=w95 at HO628 BK621 BK622 BK623 BK624 BK625 HB hHeld ⊢
    refine puA (i:=0) (N:=some 43) #[Y,Z,Z,Z,Z,Z,Z,Z] rfl rfl HT_ ?_
    refine puA (i:=1) (N:=some 44) #[Y,Y,Z,Z,Z,Z,Z,Z] rfl rfl HT_ ?_
    refine puA (i:=2) (N:=some 45) #[Y,Y,Y,Z,Z,Z,Z,Z] rfl rfl HT_ ?_
    refine puA (i:=3) (N:=some 46) #[Y,Y,Y,Y,Z,Z,Z,Z] rfl rfl HT_ ?_
    refine puA (i:=4) (N:=some 47) #[Y,Y,Y,Y,Y,Z,Z,Z] rfl rfl HT_ ?_
    refine puA (i:=5) (N:=some 48) #[Y,Y,Y,Y,Y,Y,Z,Z] rfl rfl HT_ ?_
    refine puA (i:=6) (N:=some 11) #[Y,Y,Y,Y,Y,Y,Y,Z] rfl rfl HT_ ?_
    refine puA (i:=7) (N:=some 13) #[Y,Y,Y,Y,Y,Y,Y,Y] rfl rfl HT_ ?_
    refine cL (bX HT_.out (by kernel_rfl)) ?_
    try go_wp2_with (first|((with_reducible refine gd 51 rfl ?_);refine gC (some 51) rfl Try.func62 (a9.calls (w:=_) (h:=A13.out)) ?_;intro w96 hb;replace HO628:=aA.mk (Kd.R_below (rA HO628) hb);replace BK621:=kB BK621 hb;replace BK622:=kB BK622 hb;replace BK623:=kB BK623 hb;replace BK624:=kB BK624 hb;replace BK625:=kB BK625 hb;replace HB:=lB hb;clear hb))
    have n0_:=aA.mk (Kd.R_drew HO628.out)
    have n1_:=aA.mk (aK BK621.out)
    have n2_:=aA.mk (aK BK622.out)
    have n3_:=aA.mk (aK BK623.out)
    have n4_:=aA.mk (aK BK624.out)
    have n5_:=aA.mk (aK BK625.out)
    have n6_:=aA.mk (aV HB.out)
    clear HO628
    clear BK621
    clear BK622
    clear BK623
    clear BK624
    clear BK625
    clear HB
    have HO628:=n0_
    have BK621:=n1_
    have BK622:=n2_
    have BK623:=n3_
    have BK624:=n4_
    have BK625:=n5_
    have HB:=n6_
    clear n0_ n1_ n2_ n3_ n4_ n5_ n6_
    refine bf (n:=8) (S:=fun w'=>True) (ds:=[]) #[Z,Z,Z,Z,Z,Z,Z,Z] (by kernel_rfl) rfl rfl trivial (fun hHeld=>?_);refine bH aM.tab8 aM.bits8 (fun HT_ HW_=>?_)
    generalize w96.drew=w97 at HO628 BK621 BK622 BK623 BK624 BK625 HB hHeld ⊢
    refine puA (i:=0) (N:=some 52) #[Y,Z,Z,Z,Z,Z,Z,Z] rfl rfl HT_ ?_
    refine puA (i:=1) (N:=some 53) #[Y,Y,Z,Z,Z,Z,Z,Z] rfl rfl HT_ ?_
    refine puA (i:=2) (N:=some 54) #[Y,Y,Y,Z,Z,Z,Z,Z] rfl rfl HT_ ?_
    refine puA (i:=3) (N:=some 55) #[Y,Y,Y,Y,Z,Z,Z,Z] rfl rfl HT_ ?_
    refine puA (i:=4) (N:=some 56) #[Y,Y,Y,Y,Y,Z,Z,Z] rfl rfl HT_ ?_
    refine puA (i:=5) (N:=some 57) #[Y,Y,Y,Y,Y,Y,Z,Z] rfl rfl HT_ ?_
    refine puA (i:=6) (N:=some 11) #[Y,Y,Y,Y,Y,Y,Y,Z] rfl rfl HT_ ?_
    refine puA (i:=7) (N:=some 14) #[Y,Y,Y,Y,Y,Y,Y,Y] rfl rfl HT_ ?_
    refine cL (bX HT_.out (by kernel_rfl)) ?_
    try go_wp2_with (first|((with_reducible refine gd 60 rfl ?_);refine gC (some 60) rfl Try.func62 (a9.calls (w:=_) (h:=A15.out)) ?_;intro w98 hb;replace HO628:=aA.mk (Kd.R_below (rA HO628) hb);replace BK621:=kB BK621 hb;replace BK622:=kB BK622 hb;replace BK623:=kB BK623 hb;replace BK624:=kB BK624 hb;replace BK625:=kB BK625 hb;replace HB:=lB hb;clear hb))
    have n0_:=aA.mk (Kd.R_drew HO628.out)
    have n1_:=aA.mk (aK BK621.out)
    have n2_:=aA.mk (aK BK622.out)
    have n3_:=aA.mk (aK BK623.out)
    have n4_:=aA.mk (aK BK624.out)
    have n5_:=aA.mk (aK BK625.out)
    have n6_:=aA.mk (aV HB.out)
    clear HO628
    clear BK621
    clear BK622
    clear BK623
    clear BK624
    clear BK625
    clear HB
    have HO628:=n0_
    have BK621:=n1_
    have BK622:=n2_
    have BK623:=n3_
    have BK624:=n4_
    have BK625:=n5_
    have HB:=n6_
    clear n0_ n1_ n2_ n3_ n4_ n5_ n6_
    refine bf (n:=8) (S:=fun w'=>True) (ds:=[]) #[Z,Z,Z,Z,Z,Z,Z,Z] (by kernel_rfl) rfl rfl trivial (fun hHeld=>?_);refine bH aM.tab10 aM.bits10 (fun HT_ HW_=>?_)
    generalize w98.drew=w99 at HO628 BK621 BK622 BK623 BK624 BK625 HB hHeld ⊢
    refine puA (i:=0) (N:=some 61) #[Y,Z,Z,Z,Z,Z,Z,Z] rfl rfl HT_ ?_
    refine puA (i:=1) (N:=some 62) #[Y,Y,Z,Z,Z,Z,Z,Z] rfl rfl HT_ ?_
    refine puA (i:=2) (N:=some 63) #[Y,Y,Y,Z,Z,Z,Z,Z] rfl rfl HT_ ?_
    refine puA (i:=3) (N:=some 64) #[Y,Y,Y,Y,Z,Z,Z,Z] rfl rfl HT_ ?_
    refine puA (i:=4) (N:=some 65) #[Y,Y,Y,Y,Y,Z,Z,Z] rfl rfl HT_ ?_
    refine puA (i:=5) (N:=some 66) #[Y,Y,Y,Y,Y,Y,Z,Z] rfl rfl HT_ ?_
    refine puA (i:=6) (N:=some 12) #[Y,Y,Y,Y,Y,Y,Y,Z] rfl rfl HT_ ?_
    refine puA (i:=7) (N:=some 13) #[Y,Y,Y,Y,Y,Y,Y,Y] rfl rfl HT_ ?_
    refine cL (bX HT_.out (by kernel_rfl)) ?_
    try go_wp2_with (first|((with_reducible refine gd 69 rfl ?_);refine gC (some 69) rfl Try.func62 (a9.calls (w:=_) (h:=A17.out)) ?_;intro w100 hb;replace HO628:=aA.mk (Kd.R_below (rA HO628) hb);replace BK621:=kB BK621 hb;replace BK622:=kB BK622 hb;replace BK623:=kB BK623 hb;replace BK624:=kB BK624 hb;replace BK625:=kB BK625 hb;replace HB:=lB hb;clear hb))
    have n0_:=aA.mk (Kd.R_drew HO628.out)
    have n1_:=aA.mk (aK BK621.out)
    have n2_:=aA.mk (aK BK622.out)
    have n3_:=aA.mk (aK BK623.out)
    have n4_:=aA.mk (aK BK624.out)
    have n5_:=aA.mk (aK BK625.out)
    have n6_:=aA.mk (aV HB.out)
    clear HO628
    clear BK621
    clear BK622
    clear BK623
    clear BK624
    clear BK625
    clear HB
    have HO628:=n0_
    have BK621:=n1_
    have BK622:=n2_
    have BK623:=n3_
    have BK624:=n4_
    have BK625:=n5_
    have HB:=n6_
    clear n0_ n1_ n2_ n3_ n4_ n5_ n6_
    refine bf (n:=8) (S:=fun w'=>True) (ds:=[]) #[Z,Z,Z,Z,Z,Z,Z,Z] (by kernel_rfl) rfl rfl trivial (fun hHeld=>?_);refine bH aM.tab12 aM.bits12 (fun HT_ HW_=>?_)
    generalize w100.drew=w101 at HO628 BK621 BK622 BK623 BK624 BK625 HB hHeld ⊢
    refine puA (i:=0) (N:=some 70) #[Y,Z,Z,Z,Z,Z,Z,Z] rfl rfl HT_ ?_
    refine puA (i:=1) (N:=some 71) #[Y,Y,Z,Z,Z,Z,Z,Z] rfl rfl HT_ ?_
    refine puA (i:=2) (N:=some 72) #[Y,Y,Y,Z,Z,Z,Z,Z] rfl rfl HT_ ?_
    refine puA (i:=3) (N:=some 73) #[Y,Y,Y,Y,Z,Z,Z,Z] rfl rfl HT_ ?_
    refine puA (i:=4) (N:=some 74) #[Y,Y,Y,Y,Y,Z,Z,Z] rfl rfl HT_ ?_
    refine puA (i:=5) (N:=some 75) #[Y,Y,Y,Y,Y,Y,Z,Z] rfl rfl HT_ ?_
    refine puA (i:=6) (N:=some 12) #[Y,Y,Y,Y,Y,Y,Y,Z] rfl rfl HT_ ?_
    refine puA (i:=7) (N:=some 14) #[Y,Y,Y,Y,Y,Y,Y,Y] rfl rfl HT_ ?_
    refine cL (bX HT_.out (by kernel_rfl)) ?_
    try go_wp2_with (first|((with_reducible refine bK (f:=63) rfl ?_);refine gL (some 98) rfl Try.func63 #[.int .i64 (wrap64 (q3*q7)),.int .i64 (wrap64 (q6*q8))] ?_;(with_reducible refine (aZ.calls k (wrap64 (q3*q7)) (wrap64 (q6*q8)) t638 t639 true _ A64.out).mono ?_);rintro e w102 ⟨rfl,hb⟩;refine ⟨_,rfl,?_⟩;replace HO628:=aA.mk (Kd.R_below (rA HO628) hb);replace BK621:=kB BK621 hb;replace BK622:=kB BK622 hb;replace BK623:=kB BK623 hb;replace BK624:=kB BK624 hb;replace BK625:=kB BK625 hb;replace HB:=lB hb;clear hb)|((with_reducible refine aH (N:=16) rfl ?_);refine bxE (cs:=#[.int .i64 0,.int .i64 0]) (t:=28) ?_;intro gb641 hg w103 hbox hb;have LT621_641:=nL hg BK621;have LT622_641:=nL hg BK622;have LT623_641:=nL hg BK623;have LT624_641:=nL hg BK624;have LT625_641:=nL hg BK625;have BK641:=aA.mk hbox;have GW641:=sA hg;have GE641:=sA hg;replace HO628:=aA.mk (Kd.R_below (Kd.R_elderB (rA HO628) gb641 (Nat.le_of_eq hg.symm)) hb);replace BK621:=kB BK621 hb;replace BK622:=kB BK622 hb;replace BK623:=kB BK623 hb;replace BK624:=kB BK624 hb;replace BK625:=kB BK625 hb;replace HB:=lB hb;clear hb hbox hg;have hnb104:=LT621_641.out;have hnb105:=LT622_641.out;have hnb106:=LT623_641.out;have hnb107:=LT624_641.out;have hnb108:=LT625_641.out;obtain ⟨hcz109_0,hcz109_1,hfz109_0,hfz109_1⟩:=cz2 BK641;obtain ⟨hcz110_0,hcz110_1,hfz110_0,hfz110_1⟩:=cz2 BK625))
    refine bodyPost_ret (bC rfl _ _ gb625 28 #[.int .i64 t638,.int .i64 t639] (0,0) _ rfl (bpA BK625) Try.underlying28 rfl (by kernel_rfl)) rfl ?_
    exact ⟨by first|rfl|(simp [bB,bA] <;> rfl)|(simp only [← hji19,← hji20,← hji21,← hji22,← hji23,← hji24,← hji25];first|rfl|(simp [bB,bA] <;> rfl))|(simp [*,bB,bA] <;> rfl),blA⟩
   ·
    replace c65:=Bool.eq_false_iff.mpr c65
    subst c65
    rw [if_neg (show ¬ (false=true) by decide)] at H
    try dsimp only at H
    simp only [Option.some.injEq,Prod.mk.injEq] at H
    obtain ⟨rfl,rfl,rfl⟩:=H
    go_enter Try.func21,Try.ntmps21
    try go_wp2_with (first|((with_reducible refine aH (N:=4) rfl ?_);refine bxE (cs:=#[.int .i64 a0_0,.int .i64 a0_1]) (t:=28) ?_;intro gb621 hg w111 hbox hb;have BK621:=aA.mk hbox;have GW621:=sA hg;have GE621:=sA hg;replace HB:=lB hb;clear hb hbox hg)|((with_reducible refine aH (N:=5) rfl ?_);refine bxE (cs:=#[.int .i64 a1_0,.int .i64 a1_1]) (t:=28) ?_;intro gb622 hg w112 hbox hb;have LT621_622:=nL hg BK621;have BK622:=aA.mk hbox;have GW622:=sA hg;have GE622:=sA hg;replace BK621:=kB BK621 hb;replace HB:=lB hb;clear hb hbox hg)|((with_reducible refine aH (N:=6) rfl ?_);refine bxE (cs:=#[.int .i64 a2_0,.int .i64 a2_1]) (t:=28) ?_;intro gb623 hg w113 hbox hb;have LT621_623:=nL hg BK621;have LT622_623:=nL hg BK622;have BK623:=aA.mk hbox;have GW623:=sA hg;have GE623:=sA hg;replace BK621:=kB BK621 hb;replace BK622:=kB BK622 hb;replace HB:=lB hb;clear hb hbox hg)|((with_reducible refine aH (N:=7) rfl ?_);refine bxE (cs:=#[.int .i64 a3_0,.int .i64 a3_1]) (t:=28) ?_;intro gb624 hg w114 hbox hb;have LT621_624:=nL hg BK621;have LT622_624:=nL hg BK622;have LT623_624:=nL hg BK623;have BK624:=aA.mk hbox;have GW624:=sA hg;have GE624:=sA hg;replace BK621:=kB BK621 hb;replace BK622:=kB BK622 hb;replace BK623:=kB BK623 hb;replace HB:=lB hb;clear hb hbox hg)|((with_reducible refine aH (N:=8) rfl ?_);refine bxE (cs:=#[.int .i64 0,.int .i64 0]) (t:=28) ?_;intro gb625 hg w115 hbox hb;have LT621_625:=nL hg BK621;have LT622_625:=nL hg BK622;have LT623_625:=nL hg BK623;have LT624_625:=nL hg BK624;have BK625:=aA.mk hbox;have GW625:=sA hg;have GE625:=sA hg;replace BK621:=kB BK621 hb;replace BK622:=kB BK622 hb;replace BK623:=kB BK623 hb;replace BK624:=kB BK624 hb;replace HB:=lB hb;clear hb hbox hg;have hnb116:=LT621_622.out;have hnb117:=LT621_623.out;have hnb118:=LT621_624.out;have hnb119:=LT621_625.out;obtain ⟨hcz120_0,hcz120_1,hfz120_0,hfz120_1⟩:=cz2 BK621;have hnb121:=LT622_623.out;have hnb122:=LT622_624.out;have hnb123:=LT622_625.out;obtain ⟨hcz124_0,hcz124_1,hfz124_0,hfz124_1⟩:=cz2 BK622;have hnb125:=LT623_624.out;have hnb126:=LT623_625.out;obtain ⟨hcz127_0,hcz127_1,hfz127_0,hfz127_1⟩:=cz2 BK623;have hnb128:=LT624_625.out;obtain ⟨hcz129_0,hcz129_1,hfz129_0,hfz129_1⟩:=cz2 BK624)|((with_reducible refine aH (N:=22) rfl ?_);refine Kd.R_lit k28 _ 28 ?hg (N:=22) ?hd (xs:=([(⟨a0_0,a0_1⟩:S28),(⟨a1_0,a1_1⟩:S28),(⟨a2_0,a2_1⟩:S28),(⟨a3_0,a3_1⟩:S28)]:List (S28))) (inner:=[.int .i64 a0_0,.int .i64 a0_1,.int .i64 a1_0,.int .i64 a1_1,.int .i64 a2_0,.int .i64 a2_1,.int .i64 a3_0,.int .i64 a3_1]) (ok:=fun _=>True) (okp:=fun _=>True) ?hr ?hp (fun _ hk=>hk) trivial (Below.refl _ _) (Nat.le_refl _) (by simp) ?_;(case hd=>rfl);(case hg=>rfl);(case hr=>first|(go_simp;done)|(go_simp;rfl));(case hp=>exact (aY.c2 (show Kd.M k28 _ _ _ (⟨a0_0,a0_1⟩:S28) [.int .i64 a0_0,.int .i64 a0_1] from (aw _ _ _ (⟨a0_0,a0_1⟩:S28) )) (aY.c2 (show Kd.M k28 _ _ _ (⟨a1_0,a1_1⟩:S28) [.int .i64 a1_0,.int .i64 a1_1] from (aw _ _ _ (⟨a1_0,a1_1⟩:S28) )) (aY.c2 (show Kd.M k28 _ _ _ (⟨a2_0,a2_1⟩:S28) [.int .i64 a2_0,.int .i64 a2_1] from (aw _ _ _ (⟨a2_0,a2_1⟩:S28) )) (aY.c2 (show Kd.M k28 _ _ _ (⟨a3_0,a3_1⟩:S28) [.int .i64 a3_0,.int .i64 a3_1] from (aw _ _ _ (⟨a3_0,a3_1⟩:S28) )) (aY.none _ _))))));intro v627 w130 ho131 hb hg_ hnew_;clear hg_ hnew_;(first|rw [← Ny626.out] at ho131|(simp only [Int.reduceToNat] at ho131;rw [← Ny626.out] at ho131));have HO628:=aA.mk (Kd.R_lower (Kd.R_newB (Kd.R_newB (Kd.R_newB (Kd.R_newB (Kd.R_newB ho131 (bkA BK621)) (bkA BK622)) (bkA BK623)) (bkA BK624)) (bkA BK625)) (ak blA));replace BK621:=kB BK621 hb;replace BK622:=kB BK622 hb;replace BK623:=kB BK623 hb;replace BK624:=kB BK624 hb;replace BK625:=kB BK625 hb;replace HB:=lB hb;clear hb ho131;obtain ⟨Ao132,co132,eo132⟩:=Kd.R_slice HO628.out;subst eo132)|((with_reducible refine bK (f:=28) rfl ?_);refine gL (some 23) rfl Try.func28 #[.int .i64 2,.slice none 0 0,.slice Ao132 y626.length co132] ?_;(refine (ax.calls k 2 _ _ ([]:List (S25)) _ _ y626 t629 _ ?side1 ?side2 ?side3 ?side4 A5.out).mono ?_);(case side1=>exact Kd.C_nil _ _);(case side2=>exact Nat.le_refl _);(case side3=>exact cR (Kd.R_reads' HO628.out).2.2);(case side4=>exact (Kd.R_reads' HO628.out).2.1);rintro e w133 ⟨rfl,hb⟩;refine ⟨_,rfl,?_⟩;replace HO628:=aA.mk (Kd.R_below (rA HO628) hb);replace BK621:=kB BK621 hb;replace BK622:=kB BK622 hb;replace BK623:=kB BK623 hb;replace BK624:=kB BK624 hb;replace BK625:=kB BK625 hb;replace HB:=lB hb;clear hb))
    have n0_:=aA.mk (Kd.R_drew HO628.out)
    have n1_:=aA.mk (aK BK621.out)
    have n2_:=aA.mk (aK BK622.out)
    have n3_:=aA.mk (aK BK623.out)
    have n4_:=aA.mk (aK BK624.out)
    have n5_:=aA.mk (aK BK625.out)
    have n6_:=aA.mk (aV HB.out)
    clear HO628
    clear BK621
    clear BK622
    clear BK623
    clear BK624
    clear BK625
    clear HB
    have HO628:=n0_
    have BK621:=n1_
    have BK622:=n2_
    have BK623:=n3_
    have BK624:=n4_
    have BK625:=n5_
    have HB:=n6_
    clear n0_ n1_ n2_ n3_ n4_ n5_ n6_
    refine bf (n:=16) (S:=fun w'=>w'.cell? ⟨gb621,0,none⟩=some (.int .i64 a0_0)∧w'.cell? ⟨gb621,1,none⟩=some (.int .i64 a0_1)∧w'.cell? ⟨gb623,0,none⟩=some (.int .i64 a2_0)∧w'.cell? ⟨gb623,1,none⟩=some (.int .i64 a2_1)∧w'.cell? ⟨gb622,0,none⟩=some (.int .i64 a1_0)∧w'.cell? ⟨gb622,1,none⟩=some (.int .i64 a1_1)∧w'.cell? ⟨gb624,0,none⟩=some (.int .i64 a3_0)∧w'.cell? ⟨gb624,1,none⟩=some (.int .i64 a3_1)) (ds:=[]) #[Z,Z,Z,Z,Z,Z,Z,Z,Z,Z,Z,Z,Z,Z,Z,Z] (by kernel_rfl) rfl rfl ⟨cA BK621 0,cA BK621 1,cA BK623 0,cA BK623 1,cA BK622 0,cA BK622 1,cA BK624 0,cA BK624 1⟩ (fun hHeld=>?_);refine bH aM.tab4 aM.bits4 (fun HT_ HW_=>?_)
    generalize w133.drew=w134 at HO628 BK621 BK622 BK623 BK624 BK625 HB hHeld ⊢
    refine taA (i:=0) (N:=some 28) #[Y,Z,Z,Z,Z,Z,Z,Z,Z,Z,Z,Z,Z,Z,Z,Z] rfl rfl HT_ HW_ hHeld ?_
    refine taA (i:=1) (N:=some 29) #[Y,Y,Z,Z,Z,Z,Z,Z,Z,Z,Z,Z,Z,Z,Z,Z] rfl rfl HT_ HW_ hHeld ?_
    refine taA (i:=3) (N:=some 31) #[Y,Y,Z,Y,Z,Z,Z,Z,Z,Z,Z,Z,Z,Z,Z,Z] rfl rfl HT_ HW_ hHeld ?_
    refine taA (i:=4) (N:=some 32) #[Y,Y,Z,Y,Y,Z,Z,Z,Z,Z,Z,Z,Z,Z,Z,Z] rfl rfl HT_ HW_ hHeld ?_
    refine taA (i:=6) (N:=some 34) #[Y,Y,Z,Y,Y,Z,Y,Z,Z,Z,Z,Z,Z,Z,Z,Z] rfl rfl HT_ HW_ hHeld ?_
    refine taA (i:=7) (N:=some 35) #[Y,Y,Z,Y,Y,Z,Y,Y,Z,Z,Z,Z,Z,Z,Z,Z] rfl rfl HT_ HW_ hHeld ?_
    refine taA (i:=9) (N:=some 37) #[Y,Y,Z,Y,Y,Z,Y,Y,Z,Y,Z,Z,Z,Z,Z,Z] rfl rfl HT_ HW_ hHeld ?_
    refine taA (i:=10) (N:=some 38) #[Y,Y,Z,Y,Y,Z,Y,Y,Z,Y,Y,Z,Z,Z,Z,Z] rfl rfl HT_ HW_ hHeld ?_
    refine bg (i:=2) (N:=some 30) #[Y,Y,Y,Y,Y,Z,Y,Y,Z,Y,Y,Z,Z,Z,Z,Z] rfl rfl (az HT_.out (by kernel_rfl)) (by decide) (fun K hK=>?_)
    refine goC Try.func57 (aj.calls (w:=_) (h:=A7.out)) ?_
    intro w135 hb
    replace HO628:=aA.mk (Kd.R_below (rA HO628) hb)
    replace BK621:=kB BK621 hb
    replace BK622:=kB BK622 hb
    replace BK623:=kB BK623 hb
    replace BK624:=kB BK624 hb
    replace BK625:=kB BK625 hb
    replace HB:=lB hb
    (try clear hb)
    (try clear hb2)
    (try clear hk)
    (try clear hi)
    refine hK.out _ _ ⟨cA BK621 0,cA BK621 1,cA BK623 0,cA BK623 1,cA BK622 0,cA BK622 1,cA BK624 0,cA BK624 1⟩ (fun hHeld=>?_)
    clear hK K
    refine nmA ?_
    refine bg (i:=5) (N:=some 33) #[Y,Y,Y,Y,Y,Y,Y,Y,Z,Y,Y,Z,Z,Z,Z,Z] rfl rfl (az HT_.out (by kernel_rfl)) (by decide) (fun K hK=>?_)
    refine goC Try.func57 (aj.calls (w:=_) (h:=A8.out)) ?_
    intro w136 hb
    replace HO628:=aA.mk (Kd.R_below (rA HO628) hb)
    replace BK621:=kB BK621 hb
    replace BK622:=kB BK622 hb
    replace BK623:=kB BK623 hb
    replace BK624:=kB BK624 hb
    replace BK625:=kB BK625 hb
    replace HB:=lB hb
    (try clear hb)
    (try clear hb2)
    (try clear hk)
    (try clear hi)
    refine hK.out _ _ ⟨cA BK621 0,cA BK621 1,cA BK623 0,cA BK623 1,cA BK622 0,cA BK622 1,cA BK624 0,cA BK624 1⟩ (fun hHeld=>?_)
    clear hK K
    refine nmA ?_
    refine bg (i:=8) (N:=some 36) #[Y,Y,Y,Y,Y,Y,Y,Y,Y,Y,Y,Z,Z,Z,Z,Z] rfl rfl (az HT_.out (by kernel_rfl)) (by decide) (fun K hK=>?_)
    refine goC Try.func57 (aj.calls (w:=_) (h:=A9.out)) ?_
    intro w137 hb
    replace HO628:=aA.mk (Kd.R_below (rA HO628) hb)
    replace BK621:=kB BK621 hb
    replace BK622:=kB BK622 hb
    replace BK623:=kB BK623 hb
    replace BK624:=kB BK624 hb
    replace BK625:=kB BK625 hb
    replace HB:=lB hb
    (try clear hb)
    (try clear hb2)
    (try clear hk)
    (try clear hi)
    refine hK.out _ _ ⟨cA BK621 0,cA BK621 1,cA BK623 0,cA BK623 1,cA BK622 0,cA BK622 1,cA BK624 0,cA BK624 1⟩ (fun hHeld=>?_)
    clear hK K
    refine nmA ?_
    refine bg (i:=11) (N:=some 39) #[Y,Y,Y,Y,Y,Y,Y,Y,Y,Y,Y,Y,Z,Z,Z,Z] rfl rfl (az HT_.out (by kernel_rfl)) (by decide) (fun K hK=>?_)
    refine goC Try.func57 (aj.calls (w:=_) (h:=A10.out)) ?_
    intro w138 hb
    replace HO628:=aA.mk (Kd.R_below (rA HO628) hb)
    replace BK621:=kB BK621 hb
    replace BK622:=kB BK622 hb
    replace BK623:=kB BK623 hb
    replace BK624:=kB BK624 hb
    replace BK625:=kB BK625 hb
    replace HB:=lB hb
    (try clear hb)
    (try clear hb2)
    (try clear hk)
    (try clear hi)
    refine hK.out _ _ ⟨cA BK621 0,cA BK621 1,cA BK623 0,cA BK623 1,cA BK622 0,cA BK622 1,cA BK624 0,cA BK624 1⟩ (fun hHeld=>?_)
    clear hK K
    refine nmA ?_
    refine puA (i:=12) (N:=some 11) #[Y,Y,Y,Y,Y,Y,Y,Y,Y,Y,Y,Y,Y,Z,Z,Z] rfl rfl HT_ ?_
    refine puA (i:=13) (N:=some 12) #[Y,Y,Y,Y,Y,Y,Y,Y,Y,Y,Y,Y,Y,Y,Z,Z] rfl rfl HT_ ?_
    refine puA (i:=14) (N:=some 13) #[Y,Y,Y,Y,Y,Y,Y,Y,Y,Y,Y,Y,Y,Y,Y,Z] rfl rfl HT_ ?_
    refine puA (i:=15) (N:=some 14) #[Y,Y,Y,Y,Y,Y,Y,Y,Y,Y,Y,Y,Y,Y,Y,Y] rfl rfl HT_ ?_
    refine cL (bX HT_.out (by kernel_rfl)) ?_
    try go_wp2_with (first|((with_reducible refine gd 42 rfl ?_);refine gC (some 42) rfl Try.func62 (a9.calls (w:=_) (h:=A11.out)) ?_;intro w139 hb;replace HO628:=aA.mk (Kd.R_below (rA HO628) hb);replace BK621:=kB BK621 hb;replace BK622:=kB BK622 hb;replace BK623:=kB BK623 hb;replace BK624:=kB BK624 hb;replace BK625:=kB BK625 hb;replace HB:=lB hb;clear hb))
    have n0_:=aA.mk (Kd.R_drew HO628.out)
    have n1_:=aA.mk (aK BK621.out)
    have n2_:=aA.mk (aK BK622.out)
    have n3_:=aA.mk (aK BK623.out)
    have n4_:=aA.mk (aK BK624.out)
    have n5_:=aA.mk (aK BK625.out)
    have n6_:=aA.mk (aV HB.out)
    clear HO628
    clear BK621
    clear BK622
    clear BK623
    clear BK624
    clear BK625
    clear HB
    have HO628:=n0_
    have BK621:=n1_
    have BK622:=n2_
    have BK623:=n3_
    have BK624:=n4_
    have BK625:=n5_
    have HB:=n6_
    clear n0_ n1_ n2_ n3_ n4_ n5_ n6_
    refine bf (n:=8) (S:=fun w'=>True) (ds:=[]) #[Z,Z,Z,Z,Z,Z,Z,Z] (by kernel_rfl) rfl rfl trivial (fun hHeld=>?_);refine bH aM.tab6 aM.bits6 (fun HT_ HW_=>?_)
    generalize w139.drew=w140 at HO628 BK621 BK622 BK623 BK624 BK625 HB hHeld ⊢
    refine puA (i:=0) (N:=some 43) #[Y,Z,Z,Z,Z,Z,Z,Z] rfl rfl HT_ ?_
    refine puA (i:=1) (N:=some 44) #[Y,Y,Z,Z,Z,Z,Z,Z] rfl rfl HT_ ?_
    refine puA (i:=2) (N:=some 45) #[Y,Y,Y,Z,Z,Z,Z,Z] rfl rfl HT_ ?_
    refine puA (i:=3) (N:=some 46) #[Y,Y,Y,Y,Z,Z,Z,Z] rfl rfl HT_ ?_
    refine puA (i:=4) (N:=some 47) #[Y,Y,Y,Y,Y,Z,Z,Z] rfl rfl HT_ ?_
    refine puA (i:=5) (N:=some 48) #[Y,Y,Y,Y,Y,Y,Z,Z] rfl rfl HT_ ?_
    refine puA (i:=6) (N:=some 11) #[Y,Y,Y,Y,Y,Y,Y,Z] rfl rfl HT_ ?_
    refine puA (i:=7) (N:=some 13) #[Y,Y,Y,Y,Y,Y,Y,Y] rfl rfl HT_ ?_
    refine cL (bX HT_.out (by kernel_rfl)) ?_
    try go_wp2_with (first|((with_reducible refine gd 51 rfl ?_);refine gC (some 51) rfl Try.func62 (a9.calls (w:=_) (h:=A13.out)) ?_;intro w141 hb;replace HO628:=aA.mk (Kd.R_below (rA HO628) hb);replace BK621:=kB BK621 hb;replace BK622:=kB BK622 hb;replace BK623:=kB BK623 hb;replace BK624:=kB BK624 hb;replace BK625:=kB BK625 hb;replace HB:=lB hb;clear hb))
    have n0_:=aA.mk (Kd.R_drew HO628.out)
    have n1_:=aA.mk (aK BK621.out)
    have n2_:=aA.mk (aK BK622.out)
    have n3_:=aA.mk (aK BK623.out)
    have n4_:=aA.mk (aK BK624.out)
    have n5_:=aA.mk (aK BK625.out)
    have n6_:=aA.mk (aV HB.out)
    clear HO628
    clear BK621
    clear BK622
    clear BK623
    clear BK624
    clear BK625
    clear HB
    have HO628:=n0_
    have BK621:=n1_
    have BK622:=n2_
    have BK623:=n3_
    have BK624:=n4_
    have BK625:=n5_
    have HB:=n6_
    clear n0_ n1_ n2_ n3_ n4_ n5_ n6_
    refine bf (n:=8) (S:=fun w'=>True) (ds:=[]) #[Z,Z,Z,Z,Z,Z,Z,Z] (by kernel_rfl) rfl rfl trivial (fun hHeld=>?_);refine bH aM.tab8 aM.bits8 (fun HT_ HW_=>?_)
    generalize w141.drew=w142 at HO628 BK621 BK622 BK623 BK624 BK625 HB hHeld ⊢
    refine puA (i:=0) (N:=some 52) #[Y,Z,Z,Z,Z,Z,Z,Z] rfl rfl HT_ ?_
    refine puA (i:=1) (N:=some 53) #[Y,Y,Z,Z,Z,Z,Z,Z] rfl rfl HT_ ?_
    refine puA (i:=2) (N:=some 54) #[Y,Y,Y,Z,Z,Z,Z,Z] rfl rfl HT_ ?_
    refine puA (i:=3) (N:=some 55) #[Y,Y,Y,Y,Z,Z,Z,Z] rfl rfl HT_ ?_
    refine puA (i:=4) (N:=some 56) #[Y,Y,Y,Y,Y,Z,Z,Z] rfl rfl HT_ ?_
    refine puA (i:=5) (N:=some 57) #[Y,Y,Y,Y,Y,Y,Z,Z] rfl rfl HT_ ?_
    refine puA (i:=6) (N:=some 11) #[Y,Y,Y,Y,Y,Y,Y,Z] rfl rfl HT_ ?_
    refine puA (i:=7) (N:=some 14) #[Y,Y,Y,Y,Y,Y,Y,Y] rfl rfl HT_ ?_
    refine cL (bX HT_.out (by kernel_rfl)) ?_
    try go_wp2_with (first|((with_reducible refine gd 60 rfl ?_);refine gC (some 60) rfl Try.func62 (a9.calls (w:=_) (h:=A15.out)) ?_;intro w143 hb;replace HO628:=aA.mk (Kd.R_below (rA HO628) hb);replace BK621:=kB BK621 hb;replace BK622:=kB BK622 hb;replace BK623:=kB BK623 hb;replace BK624:=kB BK624 hb;replace BK625:=kB BK625 hb;replace HB:=lB hb;clear hb))
    have n0_:=aA.mk (Kd.R_drew HO628.out)
    have n1_:=aA.mk (aK BK621.out)
    have n2_:=aA.mk (aK BK622.out)
    have n3_:=aA.mk (aK BK623.out)
    have n4_:=aA.mk (aK BK624.out)
    have n5_:=aA.mk (aK BK625.out)
    have n6_:=aA.mk (aV HB.out)
    clear HO628
    clear BK621
    clear BK622
    clear BK623
    clear BK624
    clear BK625
    clear HB
    have HO628:=n0_
    have BK621:=n1_
    have BK622:=n2_
    have BK623:=n3_
    have BK624:=n4_
    have BK625:=n5_
    have HB:=n6_
    clear n0_ n1_ n2_ n3_ n4_ n5_ n6_
    refine bf (n:=8) (S:=fun w'=>True) (ds:=[]) #[Z,Z,Z,Z,Z,Z,Z,Z] (by kernel_rfl) rfl rfl trivial (fun hHeld=>?_);refine bH aM.tab10 aM.bits10 (fun HT_ HW_=>?_)
    generalize w143.drew=w144 at HO628 BK621 BK622 BK623 BK624 BK625 HB hHeld ⊢
    refine puA (i:=0) (N:=some 61) #[Y,Z,Z,Z,Z,Z,Z,Z] rfl rfl HT_ ?_
    refine puA (i:=1) (N:=some 62) #[Y,Y,Z,Z,Z,Z,Z,Z] rfl rfl HT_ ?_
    refine puA (i:=2) (N:=some 63) #[Y,Y,Y,Z,Z,Z,Z,Z] rfl rfl HT_ ?_
    refine puA (i:=3) (N:=some 64) #[Y,Y,Y,Y,Z,Z,Z,Z] rfl rfl HT_ ?_
    refine puA (i:=4) (N:=some 65) #[Y,Y,Y,Y,Y,Z,Z,Z] rfl rfl HT_ ?_
    refine puA (i:=5) (N:=some 66) #[Y,Y,Y,Y,Y,Y,Z,Z] rfl rfl HT_ ?_
    refine puA (i:=6) (N:=some 12) #[Y,Y,Y,Y,Y,Y,Y,Z] rfl rfl HT_ ?_
    refine puA (i:=7) (N:=some 13) #[Y,Y,Y,Y,Y,Y,Y,Y] rfl rfl HT_ ?_
    refine cL (bX HT_.out (by kernel_rfl)) ?_
    try go_wp2_with (first|((with_reducible refine gd 69 rfl ?_);refine gC (some 69) rfl Try.func62 (a9.calls (w:=_) (h:=A17.out)) ?_;intro w145 hb;replace HO628:=aA.mk (Kd.R_below (rA HO628) hb);replace BK621:=kB BK621 hb;replace BK622:=kB BK622 hb;replace BK623:=kB BK623 hb;replace BK624:=kB BK624 hb;replace BK625:=kB BK625 hb;replace HB:=lB hb;clear hb))
    have n0_:=aA.mk (Kd.R_drew HO628.out)
    have n1_:=aA.mk (aK BK621.out)
    have n2_:=aA.mk (aK BK622.out)
    have n3_:=aA.mk (aK BK623.out)
    have n4_:=aA.mk (aK BK624.out)
    have n5_:=aA.mk (aK BK625.out)
    have n6_:=aA.mk (aV HB.out)
    clear HO628
    clear BK621
    clear BK622
    clear BK623
    clear BK624
    clear BK625
    clear HB
    have HO628:=n0_
    have BK621:=n1_
    have BK622:=n2_
    have BK623:=n3_
    have BK624:=n4_
    have BK625:=n5_
    have HB:=n6_
    clear n0_ n1_ n2_ n3_ n4_ n5_ n6_
    refine bf (n:=8) (S:=fun w'=>True) (ds:=[]) #[Z,Z,Z,Z,Z,Z,Z,Z] (by kernel_rfl) rfl rfl trivial (fun hHeld=>?_);refine bH aM.tab12 aM.bits12 (fun HT_ HW_=>?_)
    generalize w145.drew=w146 at HO628 BK621 BK622 BK623 BK624 BK625 HB hHeld ⊢
    refine puA (i:=0) (N:=some 70) #[Y,Z,Z,Z,Z,Z,Z,Z] rfl rfl HT_ ?_
    refine puA (i:=1) (N:=some 71) #[Y,Y,Z,Z,Z,Z,Z,Z] rfl rfl HT_ ?_
    refine puA (i:=2) (N:=some 72) #[Y,Y,Y,Z,Z,Z,Z,Z] rfl rfl HT_ ?_
    refine puA (i:=3) (N:=some 73) #[Y,Y,Y,Y,Z,Z,Z,Z] rfl rfl HT_ ?_
    refine puA (i:=4) (N:=some 74) #[Y,Y,Y,Y,Y,Z,Z,Z] rfl rfl HT_ ?_
    refine puA (i:=5) (N:=some 75) #[Y,Y,Y,Y,Y,Y,Z,Z] rfl rfl HT_ ?_
    refine puA (i:=6) (N:=some 12) #[Y,Y,Y,Y,Y,Y,Y,Z] rfl rfl HT_ ?_
    refine puA (i:=7) (N:=some 14) #[Y,Y,Y,Y,Y,Y,Y,Y] rfl rfl HT_ ?_
    refine cL (bX HT_.out (by kernel_rfl)) ?_
    try go_wp2_with (first|((with_reducible refine bK (f:=63) rfl ?_);refine gL (some 98) rfl Try.func63 #[.int .i64 (wrap64 (q3*q7)),.int .i64 (wrap64 (q6*q8))] ?_;(with_reducible refine (aZ.calls k (wrap64 (q3*q7)) (wrap64 (q6*q8)) t638 t639 false _ A64.out).mono ?_);rintro e w147 ⟨rfl,hb⟩;refine ⟨_,rfl,?_⟩;replace HO628:=aA.mk (Kd.R_below (rA HO628) hb);replace BK621:=kB BK621 hb;replace BK622:=kB BK622 hb;replace BK623:=kB BK623 hb;replace BK624:=kB BK624 hb;replace BK625:=kB BK625 hb;replace HB:=lB hb;clear hb)|((with_reducible refine aH (N:=16) rfl ?_);refine bxE (cs:=#[.int .i64 0,.int .i64 0]) (t:=28) ?_;intro gb641 hg w148 hbox hb;have LT621_641:=nL hg BK621;have LT622_641:=nL hg BK622;have LT623_641:=nL hg BK623;have LT624_641:=nL hg BK624;have LT625_641:=nL hg BK625;have BK641:=aA.mk hbox;have GW641:=sA hg;have GE641:=sA hg;replace HO628:=aA.mk (Kd.R_below (Kd.R_elderB (rA HO628) gb641 (Nat.le_of_eq hg.symm)) hb);replace BK621:=kB BK621 hb;replace BK622:=kB BK622 hb;replace BK623:=kB BK623 hb;replace BK624:=kB BK624 hb;replace BK625:=kB BK625 hb;replace HB:=lB hb;clear hb hbox hg;have hnb149:=LT621_641.out;have hnb150:=LT622_641.out;have hnb151:=LT623_641.out;have hnb152:=LT624_641.out;have hnb153:=LT625_641.out;obtain ⟨hcz154_0,hcz154_1,hfz154_0,hfz154_1⟩:=cz2 BK641;obtain ⟨hcz155_0,hcz155_1,hfz155_0,hfz155_1⟩:=cz2 BK625))
    refine bodyPost_ret (bC rfl _ _ gb625 28 #[.int .i64 0,.int .i64 0] (0,0) _ rfl (bpA BK625) Try.underlying28 rfl (by kernel_rfl)) rfl ?_
    exact ⟨by first|rfl|(simp [bB,bA] <;> rfl)|(simp only [← hji19,← hji20,← hji21,← hji22,← hji23,← hji24,← hji25];first|rfl|(simp [bB,bA] <;> rfl))|(simp [*,bB,bA] <;> rfl),blA⟩
 ·
  rw [if_neg c6] at H
  have c6b0:(t629 == 0)=false:=beq_eq_false_iff_ne.mpr c6
  have c6b1:(t629 != 0)=true:=bne_iff_ne.mpr c6
  simp only [Option.some.injEq,Prod.mk.injEq] at H
  obtain ⟨rfl,rfl,rfl⟩:=H
  go_enter Try.func21,Try.ntmps21
  go_wp2_with (first|((with_reducible refine aH (N:=4) rfl ?_);refine bxE (cs:=#[.int .i64 a0_0,.int .i64 a0_1]) (t:=28) ?_;intro gb621 hg w156 hbox hb;have BK621:=aA.mk hbox;have GW621:=sA hg;have GE621:=sA hg;replace HB:=lB hb;clear hb hbox hg)|((with_reducible refine aH (N:=5) rfl ?_);refine bxE (cs:=#[.int .i64 a1_0,.int .i64 a1_1]) (t:=28) ?_;intro gb622 hg w157 hbox hb;have LT621_622:=nL hg BK621;have BK622:=aA.mk hbox;have GW622:=sA hg;have GE622:=sA hg;replace BK621:=kB BK621 hb;replace HB:=lB hb;clear hb hbox hg)|((with_reducible refine aH (N:=6) rfl ?_);refine bxE (cs:=#[.int .i64 a2_0,.int .i64 a2_1]) (t:=28) ?_;intro gb623 hg w158 hbox hb;have LT621_623:=nL hg BK621;have LT622_623:=nL hg BK622;have BK623:=aA.mk hbox;have GW623:=sA hg;have GE623:=sA hg;replace BK621:=kB BK621 hb;replace BK622:=kB BK622 hb;replace HB:=lB hb;clear hb hbox hg)|((with_reducible refine aH (N:=7) rfl ?_);refine bxE (cs:=#[.int .i64 a3_0,.int .i64 a3_1]) (t:=28) ?_;intro gb624 hg w159 hbox hb;have LT621_624:=nL hg BK621;have LT622_624:=nL hg BK622;have LT623_624:=nL hg BK623;have BK624:=aA.mk hbox;have GW624:=sA hg;have GE624:=sA hg;replace BK621:=kB BK621 hb;replace BK622:=kB BK622 hb;replace BK623:=kB BK623 hb;replace HB:=lB hb;clear hb hbox hg)|((with_reducible refine aH (N:=8) rfl ?_);refine bxE (cs:=#[.int .i64 0,.int .i64 0]) (t:=28) ?_;intro gb625 hg w160 hbox hb;have LT621_625:=nL hg BK621;have LT622_625:=nL hg BK622;have LT623_625:=nL hg BK623;have LT624_625:=nL hg BK624;have BK625:=aA.mk hbox;have GW625:=sA hg;have GE625:=sA hg;replace BK621:=kB BK621 hb;replace BK622:=kB BK622 hb;replace BK623:=kB BK623 hb;replace BK624:=kB BK624 hb;replace HB:=lB hb;clear hb hbox hg;have hnb161:=LT621_622.out;have hnb162:=LT621_623.out;have hnb163:=LT621_624.out;have hnb164:=LT621_625.out;obtain ⟨hcz165_0,hcz165_1,hfz165_0,hfz165_1⟩:=cz2 BK621;have hnb166:=LT622_623.out;have hnb167:=LT622_624.out;have hnb168:=LT622_625.out;obtain ⟨hcz169_0,hcz169_1,hfz169_0,hfz169_1⟩:=cz2 BK622;have hnb170:=LT623_624.out;have hnb171:=LT623_625.out;obtain ⟨hcz172_0,hcz172_1,hfz172_0,hfz172_1⟩:=cz2 BK623;have hnb173:=LT624_625.out;obtain ⟨hcz174_0,hcz174_1,hfz174_0,hfz174_1⟩:=cz2 BK624)|((with_reducible refine aH (N:=22) rfl ?_);refine Kd.R_lit k28 _ 28 ?hg (N:=22) ?hd (xs:=([(⟨a0_0,a0_1⟩:S28),(⟨a1_0,a1_1⟩:S28),(⟨a2_0,a2_1⟩:S28),(⟨a3_0,a3_1⟩:S28)]:List (S28))) (inner:=[.int .i64 a0_0,.int .i64 a0_1,.int .i64 a1_0,.int .i64 a1_1,.int .i64 a2_0,.int .i64 a2_1,.int .i64 a3_0,.int .i64 a3_1]) (ok:=fun _=>True) (okp:=fun _=>True) ?hr ?hp (fun _ hk=>hk) trivial (Below.refl _ _) (Nat.le_refl _) (by simp) ?_;(case hd=>rfl);(case hg=>rfl);(case hr=>first|(go_simp;done)|(go_simp;rfl));(case hp=>exact (aY.c2 (show Kd.M k28 _ _ _ (⟨a0_0,a0_1⟩:S28) [.int .i64 a0_0,.int .i64 a0_1] from (aw _ _ _ (⟨a0_0,a0_1⟩:S28) )) (aY.c2 (show Kd.M k28 _ _ _ (⟨a1_0,a1_1⟩:S28) [.int .i64 a1_0,.int .i64 a1_1] from (aw _ _ _ (⟨a1_0,a1_1⟩:S28) )) (aY.c2 (show Kd.M k28 _ _ _ (⟨a2_0,a2_1⟩:S28) [.int .i64 a2_0,.int .i64 a2_1] from (aw _ _ _ (⟨a2_0,a2_1⟩:S28) )) (aY.c2 (show Kd.M k28 _ _ _ (⟨a3_0,a3_1⟩:S28) [.int .i64 a3_0,.int .i64 a3_1] from (aw _ _ _ (⟨a3_0,a3_1⟩:S28) )) (aY.none _ _))))));intro v627 w175 ho176 hb hg_ hnew_;clear hg_ hnew_;(first|rw [← Ny626.out] at ho176|(simp only [Int.reduceToNat] at ho176;rw [← Ny626.out] at ho176));have HO628:=aA.mk (Kd.R_lower (Kd.R_newB (Kd.R_newB (Kd.R_newB (Kd.R_newB (Kd.R_newB ho176 (bkA BK621)) (bkA BK622)) (bkA BK623)) (bkA BK624)) (bkA BK625)) (ak blA));replace BK621:=kB BK621 hb;replace BK622:=kB BK622 hb;replace BK623:=kB BK623 hb;replace BK624:=kB BK624 hb;replace BK625:=kB BK625 hb;replace HB:=lB hb;clear hb ho176;obtain ⟨Ao177,co177,eo177⟩:=Kd.R_slice HO628.out;subst eo177)|((with_reducible refine bK (f:=28) rfl ?_);refine gL (some 23) rfl Try.func28 #[.int .i64 2,.slice none 0 0,.slice Ao177 y626.length co177] ?_;(refine (ax.calls k 2 _ _ ([]:List (S25)) _ _ y626 t629 _ ?side1 ?side2 ?side3 ?side4 A5.out).mono ?_);(case side1=>exact Kd.C_nil _ _);(case side2=>exact Nat.le_refl _);(case side3=>exact cR (Kd.R_reads' HO628.out).2.2);(case side4=>exact (Kd.R_reads' HO628.out).2.1);rintro e w178 ⟨rfl,hb⟩;refine ⟨_,rfl,?_⟩;replace HO628:=aA.mk (Kd.R_below (rA HO628) hb);replace BK621:=kB BK621 hb;replace BK622:=kB BK622 hb;replace BK623:=kB BK623 hb;replace BK624:=kB BK624 hb;replace BK625:=kB BK625 hb;replace HB:=lB hb;clear hb;obtain ⟨hcz179_0,hcz179_1,hfz179_0,hfz179_1⟩:=cz2 BK625))
  refine bodyPost_ret (bC rfl _ _ gb625 28 #[.int .i64 0,.int .i64 0] (0,0) _ rfl (bpA BK625) Try.underlying28 rfl (by kernel_rfl)) rfl ?_
  exact bU blA
end Go.Proofs.Ytpihnmmoahplgaa.PAll
