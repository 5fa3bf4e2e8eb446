-- turned out of the kit's print
import Derived.Test.YtnhiehpbkimaeaaQx
import Derived.Test.YtnhiehpbkimaeaaQimplBall56
namespace Go.Proofs.Ytnhiehpbkimaeaa.PAll
open Go.RowKit Go.Proofs.YtnhiehpbkimaeaaW.PrintWords Go.Proofs.YtnhiehpbkimaeaaW.PrintLast Go.Proofs.YtnhiehpbkimaeaaW.PrintMore
attribute [local go_sem] Go.Proofs.Ytnhiehpbkimaeaa.Aux.setCell_drewN Go.Proofs.Ytnhiehpbkimaeaa.Aux.isSome_setCell max2_int min2_int max_two min_two max_three min_three max_four min_four
set_option linter.unusedVariables false
set_option linter.unusedSimpArgs false
mutual
def bits_Div64.j2:Nat→Int→Int→Int→Int→Int→Int→Int→Int→Option (Int × Int)
 | 0,_,_,_,_,_,_,_,_=>none
 | k+1,x2,x8,x9,x10,x11,x13,x14,x15=>if x9=0 then (none) else (bits_Div64.l1 k x2 x8 x9 x10 x14 x15 (IntKind.u64.wrap ((IntKind.u64.wrap ((IntKind.u64.wrap ((IntKind.u64.wrap (x11*4294967296))+x13)) - (IntKind.u64.wrap (x15*x2)))) - (IntKind.u64.wrap ((IntKind.u64.wrap (Int.tdiv (IntKind.u64.wrap ((IntKind.u64.wrap ((IntKind.u64.wrap (x11*4294967296))+x13)) - (IntKind.u64.wrap (x15*x2)))) x9))*x9)))) (IntKind.u64.wrap ((IntKind.u64.wrap ((IntKind.u64.wrap (x11*4294967296))+x13)) - (IntKind.u64.wrap (x15*x2)))) (IntKind.u64.wrap (Int.tdiv (IntKind.u64.wrap ((IntKind.u64.wrap ((IntKind.u64.wrap (x11*4294967296))+x13)) - (IntKind.u64.wrap (x15*x2)))) x9)))
def bits_Div64.l1:Nat→Int→Int→Int→Int→Int→Int→Int→Int→Int→Option (Int × Int)
 | 0,_,_,_,_,_,_,_,_,_=>none
 | k+1,x2,x8,x9,x10,x14,x15,x16,x17,x18=>if x18≥4294967296 then (bits_Div64.j4 k x2 x8 x9 x10 x14 x15 x16 x17 x18 true) else (bits_Div64.j4 k x2 x8 x9 x10 x14 x15 x16 x17 x18 (decide ((IntKind.u64.wrap (x18*x10))>(IntKind.u64.wrap ((IntKind.u64.wrap (4294967296*x16))+x14)))))
def bits_Div64.j4:Nat→Int→Int→Int→Int→Int→Int→Int→Int→Int→Bool→Option (Int × Int)
 | 0,_,_,_,_,_,_,_,_,_,_=>none
 | k+1,x2,x8,x9,x10,x14,x15,x16,x17,x18,x113=>if x113=true then (if (IntKind.u64.wrap (x16+x9))≥4294967296 then (if 0≤x8 then (some (IntKind.u64.wrap ((IntKind.u64.wrap (x15*4294967296))+(IntKind.u64.wrap (x18 - 1))),shr .u64 (IntKind.u64.wrap ((IntKind.u64.wrap ((IntKind.u64.wrap (x17*4294967296))+x14)) - (IntKind.u64.wrap ((IntKind.u64.wrap (x18 - 1))*x2)))) x8)) else (none)) else (bits_Div64.l1 k x2 x8 x9 x10 x14 x15 (IntKind.u64.wrap (x16+x9)) x17 (IntKind.u64.wrap (x18 - 1)))) else (if 0≤x8 then (some (IntKind.u64.wrap ((IntKind.u64.wrap (x15*4294967296))+x18),shr .u64 (IntKind.u64.wrap ((IntKind.u64.wrap ((IntKind.u64.wrap (x17*4294967296))+x14)) - (IntKind.u64.wrap (x18*x2)))) x8)) else (none))
def bits_Div64.l0:Nat→Int→Int→Int→Int→Int→Int→Int→Int→Int→Option (Int × Int)
 | 0,_,_,_,_,_,_,_,_,_=>none
 | k+1,x2,x8,x9,x10,x11,x13,x14,x15,x16=>if x15≥4294967296 then (bits_Div64.j1 k x2 x8 x9 x10 x11 x13 x14 x15 x16 true) else (bits_Div64.j1 k x2 x8 x9 x10 x11 x13 x14 x15 x16 (decide ((IntKind.u64.wrap (x15*x10))>(IntKind.u64.wrap ((IntKind.u64.wrap (4294967296*x16))+x13)))))
def bits_Div64.j1:Nat→Int→Int→Int→Int→Int→Int→Int→Int→Int→Bool→Option (Int × Int)
 | 0,_,_,_,_,_,_,_,_,_,_=>none
 | k+1,x2,x8,x9,x10,x11,x13,x14,x15,x16,x78=>if x78=true then (if (IntKind.u64.wrap (x16+x9))≥4294967296 then (bits_Div64.j2 k x2 x8 x9 x10 x11 x13 x14 (IntKind.u64.wrap (x15 - 1))) else (bits_Div64.l0 k x2 x8 x9 x10 x11 x13 x14 (IntKind.u64.wrap (x15 - 1)) (IntKind.u64.wrap (x16+x9)))) else (bits_Div64.j2 k x2 x8 x9 x10 x11 x13 x14 x15)
end
def bits_Div64.f (k:Nat) (a0 a1 a2:Int):Option (Int × Int):=if a2=0 then (none) else (if a2≤a0 then (none) else (if a0=0 then (some (IntKind.u64.wrap (Int.tdiv a1 a2),Int.tmod a1 a2)) else ((bits_LeadingZeros64.f a2).bind fun t316=>(if 0≤(IntKind.u64.wrap (t316)) then (if 0≤(IntKind.u64.wrap (64 - (IntKind.u64.wrap (t316)))) then (if ((shl .u64 a2 (IntKind.u64.wrap (t316))) / 4294967296)=0 then (none) else (bits_Div64.l0 k (shl .u64 a2 (IntKind.u64.wrap (t316))) (IntKind.u64.wrap (t316)) ((shl .u64 a2 (IntKind.u64.wrap (t316))) / 4294967296) (Go.bits .and .u64 (shl .u64 a2 (IntKind.u64.wrap (t316))) 4294967295) (Go.bits .or .u64 (shl .u64 a0 (IntKind.u64.wrap (t316))) (shr .u64 a1 (IntKind.u64.wrap (64 - (IntKind.u64.wrap (t316)))))) ((shl .u64 a1 (IntKind.u64.wrap (t316))) / 4294967296) (Go.bits .and .u64 (shl .u64 a1 (IntKind.u64.wrap (t316))) 4294967295) (IntKind.u64.wrap (Int.tdiv (Go.bits .or .u64 (shl .u64 a0 (IntKind.u64.wrap (t316))) (shr .u64 a1 (IntKind.u64.wrap (64 - (IntKind.u64.wrap (t316)))))) ((shl .u64 a2 (IntKind.u64.wrap (t316))) / 4294967296))) (IntKind.u64.wrap ((Go.bits .or .u64 (shl .u64 a0 (IntKind.u64.wrap (t316))) (shr .u64 a1 (IntKind.u64.wrap (64 - (IntKind.u64.wrap (t316)))))) - (IntKind.u64.wrap ((IntKind.u64.wrap (Int.tdiv (Go.bits .or .u64 (shl .u64 a0 (IntKind.u64.wrap (t316))) (shr .u64 a1 (IntKind.u64.wrap (64 - (IntKind.u64.wrap (t316)))))) ((shl .u64 a2 (IntKind.u64.wrap (t316))) / 4294967296)))*((shl .u64 a2 (IntKind.u64.wrap (t316))) / 4294967296))))))) else (none)) else (none)))))
theorem bits_Div64.mono_l:∀ k,(∀ y0 y1 y2 y3 y4 y5 y6 y7,LeO (bits_Div64.j2 k y0 y1 y2 y3 y4 y5 y6 y7) (bits_Div64.j2 (k+1) y0 y1 y2 y3 y4 y5 y6 y7))∧(∀ y0 y1 y2 y3 y4 y5 y6 y7 y8,LeO (bits_Div64.l1 k y0 y1 y2 y3 y4 y5 y6 y7 y8) (bits_Div64.l1 (k+1) y0 y1 y2 y3 y4 y5 y6 y7 y8))∧(∀ y0 y1 y2 y3 y4 y5 y6 y7 y8 y9,LeO (bits_Div64.j4 k y0 y1 y2 y3 y4 y5 y6 y7 y8 y9) (bits_Div64.j4 (k+1) y0 y1 y2 y3 y4 y5 y6 y7 y8 y9))∧(∀ y0 y1 y2 y3 y4 y5 y6 y7 y8,LeO (bits_Div64.l0 k y0 y1 y2 y3 y4 y5 y6 y7 y8) (bits_Div64.l0 (k+1) y0 y1 y2 y3 y4 y5 y6 y7 y8))∧(∀ y0 y1 y2 y3 y4 y5 y6 y7 y8 y9,LeO (bits_Div64.j1 k y0 y1 y2 y3 y4 y5 y6 y7 y8 y9) (bits_Div64.j1 (k+1) y0 y1 y2 y3 y4 y5 y6 y7 y8 y9))
 | 0=>by refine ⟨?_,?_,?_,?_,?_⟩ <;> (intros;intro r h;simp [bits_Div64.j2,bits_Div64.l1,bits_Div64.j4,bits_Div64.l0,bits_Div64.j1] at h)
 | k+1=>by
  obtain ⟨ih0,ih1,ih2,ih3,ih4⟩:=bits_Div64.mono_l k
  refine ⟨?_,?_,?_,?_,?_⟩ <;> (intros;first|unfold bits_Div64.j2|unfold bits_Div64.l1|unfold bits_Div64.j4|unfold bits_Div64.l0|unfold bits_Div64.j1)
  all_goals repeat' first
  | with_reducible first|exact ih0 ..|exact ih1 ..|exact ih2 ..|exact ih3 ..|exact ih4 ..|exact LeO.refl _|exact LeO.none _|refine LeO.ite ?_ ?_|refine LeO.bind ?_ fun _=>?_
theorem bits_Div64.mono:∀ a0 a1 a2 k,LeO (bits_Div64.f k a0 a1 a2) (bits_Div64.f (k+1) a0 a1 a2):=by
 intro a0 a1 a2 k
 obtain ⟨ih0,ih1,ih2,ih3,ih4⟩:=bits_Div64.mono_l k
 unfold bits_Div64.f
 repeat' first
   | with_reducible first|exact ih0 ..|exact ih1 ..|exact ih2 ..|exact ih3 ..|exact ih4 ..|exact LeO.refl _|exact LeO.none _|refine LeO.ite ?_ ?_|refine LeO.bind ?_ fun _=>?_
set_option maxHeartbeats 8000000 in
set_option maxRecDepth 100000 in
theorem bits_Div64.calls (k:Nat) (a0 a1 a2 r1 r2:Int) (w:World) (h:bits_Div64.f k a0 a1 a2=some (r1,r2)) :
  Calls Try.prog 76 #[.int .u64 a0,.int .u64 a1,.int .u64 a2] w fun e w'=>e=.returned (.tuple #[.int .u64 r1,.int .u64 r2])∧Drawn0 w w':=by
 have H:=h
 unfold bits_Div64.f at H
 clear h
 by_cases c4:a2=0
 ·
  rw [if_pos c4] at H
  exact absurd H (by simp)
 rw [if_neg c4] at H
 have c4b0:(a2 == 0)=false:=beq_eq_false_iff_ne.mpr c4
 have c4b1:(a2 != 0)=true:=bne_iff_ne.mpr c4
 by_cases c5:a2≤a0
 ·
  rw [if_pos c5] at H
  exact absurd H (by simp)
 rw [if_neg c5] at H
 have c5b0:=decide_eq_false c5
 clear c5
 by_cases c6:a0=0
 ·
  rw [if_pos c6] at H
  have c6b0:(a0 == 0)=true:=beq_iff_eq.mpr c6
  have c6b1:(a0 != 0)=false:=bne_eq_false_iff_eq.mpr c6
  clear c6
  simp only [Option.some.injEq,Prod.mk.injEq] at H
  obtain ⟨rfl,rfl⟩:=H
  go_enter Try.func76,Try.ntmps76
  go_wp2
  repeat (go_quiet (fail);try go_wp2)
  go_ret2
  exact ⟨by first|rfl|(simp;done)|(simp [*];done),by repeat (first|exact Drawn0.refl _|apply Drawn0.step)⟩
 ·
  rw [if_neg c6] at H
  have c6b0:(a0 == 0)=false:=beq_eq_false_iff_ne.mpr c6
  have c6b1:(a0 != 0)=true:=bne_iff_ne.mpr c6
  replace H:=bS H
  obtain ⟨t316,A7,H⟩:=H
  try dsimp only at H
  obtain ⟨ji8,hji8⟩:∃ j_:Int,(IntKind.u64.wrap (t316))=j_:=⟨_,rfl⟩
  replace H:(if 0≤(ji8) then (if 0≤(IntKind.u64.wrap (64 - (ji8))) then (if ((shl .u64 a2 (ji8)) / 4294967296)=0 then (none) else (bits_Div64.l0 k (shl .u64 a2 (ji8)) ji8 ((shl .u64 a2 (ji8)) / 4294967296) (Go.bits .and .u64 (shl .u64 a2 (ji8)) 4294967295) (Go.bits .or .u64 (shl .u64 a0 (ji8)) (shr .u64 a1 (IntKind.u64.wrap (64 - (ji8))))) ((shl .u64 a1 (ji8)) / 4294967296) (Go.bits .and .u64 (shl .u64 a1 (ji8)) 4294967295) (IntKind.u64.wrap (Int.tdiv (Go.bits .or .u64 (shl .u64 a0 (ji8)) (shr .u64 a1 (IntKind.u64.wrap (64 - (ji8))))) ((shl .u64 a2 (ji8)) / 4294967296))) (IntKind.u64.wrap ((Go.bits .or .u64 (shl .u64 a0 (ji8)) (shr .u64 a1 (IntKind.u64.wrap (64 - (ji8))))) - (IntKind.u64.wrap ((IntKind.u64.wrap (Int.tdiv (Go.bits .or .u64 (shl .u64 a0 (ji8)) (shr .u64 a1 (IntKind.u64.wrap (64 - (ji8))))) ((shl .u64 a2 (ji8)) / 4294967296)))*((shl .u64 a2 (ji8)) / 4294967296))))))) else (none)) else (none))=some (r1,r2):=by first|(rw [hji8] at H;exact H)|(simp only [hji8] at H ⊢;exact H)
  (try rw [hji8] at A7)
  by_cases c9:0≤(ji8)
  rotate_left
  ·
   rw [if_neg c9] at H
   exact absurd H (by simp)
  rw [if_pos c9] at H
  have c9b0:=eq_true c9
  have c9b1:=decide_eq_true c9
  clear c9
  obtain ⟨ji10,hji10⟩:∃ j_:Int,(shl .u64 a2 (ji8))=j_:=⟨_,rfl⟩
  replace H:(if 0≤(IntKind.u64.wrap (64 - (ji8))) then (if ((ji10) / 4294967296)=0 then (none) else (bits_Div64.l0 k ji10 ji8 ((ji10) / 4294967296) (Go.bits .and .u64 (ji10) 4294967295) (Go.bits .or .u64 (shl .u64 a0 (ji8)) (shr .u64 a1 (IntKind.u64.wrap (64 - (ji8))))) ((shl .u64 a1 (ji8)) / 4294967296) (Go.bits .and .u64 (shl .u64 a1 (ji8)) 4294967295) (IntKind.u64.wrap (Int.tdiv (Go.bits .or .u64 (shl .u64 a0 (ji8)) (shr .u64 a1 (IntKind.u64.wrap (64 - (ji8))))) ((ji10) / 4294967296))) (IntKind.u64.wrap ((Go.bits .or .u64 (shl .u64 a0 (ji8)) (shr .u64 a1 (IntKind.u64.wrap (64 - (ji8))))) - (IntKind.u64.wrap ((IntKind.u64.wrap (Int.tdiv (Go.bits .or .u64 (shl .u64 a0 (ji8)) (shr .u64 a1 (IntKind.u64.wrap (64 - (ji8))))) ((ji10) / 4294967296)))*((ji10) / 4294967296))))))) else (none))=some (r1,r2):=by first|(rw [hji10] at H;exact H)|(simp only [hji10] at H ⊢;exact H)
  (try rw [hji10] at A7)
  have hji10_:(IntKind.u64.wrap (a2*2 ^ min (ji8).toNat 64))=ji10:=hji10
  have hji10z:(ji8)≤64→(IntKind.u64.wrap (a2*2 ^ (ji8).toNat))=ji10:=shl_small hji10
  have c11b0:=eq_true (dA:0≤(ji8))
  obtain ⟨ji12,hji12⟩:∃ j_:Int,(shl .u64 a0 (ji8))=j_:=⟨_,rfl⟩
  replace H:(if 0≤(IntKind.u64.wrap (64 - (ji8))) then (if ((ji10) / 4294967296)=0 then (none) else (bits_Div64.l0 k ji10 ji8 ((ji10) / 4294967296) (Go.bits .and .u64 (ji10) 4294967295) (Go.bits .or .u64 (ji12) (shr .u64 a1 (IntKind.u64.wrap (64 - (ji8))))) ((shl .u64 a1 (ji8)) / 4294967296) (Go.bits .and .u64 (shl .u64 a1 (ji8)) 4294967295) (IntKind.u64.wrap (Int.tdiv (Go.bits .or .u64 (ji12) (shr .u64 a1 (IntKind.u64.wrap (64 - (ji8))))) ((ji10) / 4294967296))) (IntKind.u64.wrap ((Go.bits .or .u64 (ji12) (shr .u64 a1 (IntKind.u64.wrap (64 - (ji8))))) - (IntKind.u64.wrap ((IntKind.u64.wrap (Int.tdiv (Go.bits .or .u64 (ji12) (shr .u64 a1 (IntKind.u64.wrap (64 - (ji8))))) ((ji10) / 4294967296)))*((ji10) / 4294967296))))))) else (none))=some (r1,r2):=by first|(rw [hji12] at H;exact H)|(simp only [hji12] at H ⊢;exact H)
  (try rw [hji12] at A7)
  have hji12_:(IntKind.u64.wrap (a0*2 ^ min (ji8).toNat 64))=ji12:=hji12
  have hji12z:(ji8)≤64→(IntKind.u64.wrap (a0*2 ^ (ji8).toNat))=ji12:=shl_small hji12
  obtain ⟨ji13,hji13⟩:∃ j_:Int,(IntKind.u64.wrap (64 - (ji8)))=j_:=⟨_,rfl⟩
  replace H:(if 0≤(ji13) then (if ((ji10) / 4294967296)=0 then (none) else (bits_Div64.l0 k ji10 ji8 ((ji10) / 4294967296) (Go.bits .and .u64 (ji10) 4294967295) (Go.bits .or .u64 (ji12) (shr .u64 a1 (ji13))) ((shl .u64 a1 (ji8)) / 4294967296) (Go.bits .and .u64 (shl .u64 a1 (ji8)) 4294967295) (IntKind.u64.wrap (Int.tdiv (Go.bits .or .u64 (ji12) (shr .u64 a1 (ji13))) ((ji10) / 4294967296))) (IntKind.u64.wrap ((Go.bits .or .u64 (ji12) (shr .u64 a1 (ji13))) - (IntKind.u64.wrap ((IntKind.u64.wrap (Int.tdiv (Go.bits .or .u64 (ji12) (shr .u64 a1 (ji13))) ((ji10) / 4294967296)))*((ji10) / 4294967296))))))) else (none))=some (r1,r2):=by first|(rw [hji13] at H;exact H)|(simp only [hji13] at H ⊢;exact H)
  (try rw [hji13] at A7)
  by_cases c14:0≤(ji13)
  rotate_left
  ·
   rw [if_neg c14] at H
   exact absurd H (by simp)
  rw [if_pos c14] at H
  have c14b0:=eq_true c14
  have c14b1:=decide_eq_true c14
  clear c14
  obtain ⟨ji15,hji15⟩:∃ j_:Int,(shr .u64 a1 (ji13))=j_:=⟨_,rfl⟩
  replace H:(if ((ji10) / 4294967296)=0 then (none) else (bits_Div64.l0 k ji10 ji8 ((ji10) / 4294967296) (Go.bits .and .u64 (ji10) 4294967295) (Go.bits .or .u64 (ji12) (ji15)) ((shl .u64 a1 (ji8)) / 4294967296) (Go.bits .and .u64 (shl .u64 a1 (ji8)) 4294967295) (IntKind.u64.wrap (Int.tdiv (Go.bits .or .u64 (ji12) (ji15)) ((ji10) / 4294967296))) (IntKind.u64.wrap ((Go.bits .or .u64 (ji12) (ji15)) - (IntKind.u64.wrap ((IntKind.u64.wrap (Int.tdiv (Go.bits .or .u64 (ji12) (ji15)) ((ji10) / 4294967296)))*((ji10) / 4294967296)))))))=some (r1,r2):=by first|(rw [hji15] at H;exact H)|(simp only [hji15] at H ⊢;exact H)
  (try rw [hji15] at A7)
  have hji15_:(a1 / 2 ^ min (ji13).toNat 64)=ji15:=hji15
  have hji15z:(ji13)≤64→(a1 / 2 ^ (ji13).toNat)=ji15:=shr_small hji15
  have c16b0:=eq_true (dA:0≤(ji8))
  obtain ⟨ji17,hji17⟩:∃ j_:Int,(shl .u64 a1 (ji8))=j_:=⟨_,rfl⟩
  replace H:(if ((ji10) / 4294967296)=0 then (none) else (bits_Div64.l0 k ji10 ji8 ((ji10) / 4294967296) (Go.bits .and .u64 (ji10) 4294967295) (Go.bits .or .u64 (ji12) (ji15)) ((ji17) / 4294967296) (Go.bits .and .u64 (ji17) 4294967295) (IntKind.u64.wrap (Int.tdiv (Go.bits .or .u64 (ji12) (ji15)) ((ji10) / 4294967296))) (IntKind.u64.wrap ((Go.bits .or .u64 (ji12) (ji15)) - (IntKind.u64.wrap ((IntKind.u64.wrap (Int.tdiv (Go.bits .or .u64 (ji12) (ji15)) ((ji10) / 4294967296)))*((ji10) / 4294967296)))))))=some (r1,r2):=by first|(rw [hji17] at H;exact H)|(simp only [hji17] at H ⊢;exact H)
  (try rw [hji17] at A7)
  have hji17_:(IntKind.u64.wrap (a1*2 ^ min (ji8).toNat 64))=ji17:=hji17
  have hji17z:(ji8)≤64→(IntKind.u64.wrap (a1*2 ^ (ji8).toNat))=ji17:=shl_small hji17
  by_cases c18:((ji10) / 4294967296)=0
  ·
   rw [if_pos c18] at H
   exact absurd H (by simp)
  rw [if_neg c18] at H
  have c18b0:(((ji10) / 4294967296) == 0)=false:=beq_eq_false_iff_ne.mpr c18
  have c18b1:(((ji10) / 4294967296) != 0)=true:=bne_iff_ne.mpr c18
  have HC19:=Aside0.mk H
  clear H
  go_enter Try.func76,Try.ntmps76
  go_upto_block 0 with (first|(go_at_call 79;(with_reducible refine (bits_LeadingZeros64.calls a2 t316 _ A7.out).mono ?_);rintro e w' ⟨rfl,⟨nd,rfl⟩⟩;(try exact dd)))
  repeat (go_quiet (first|(go_at_call 79;(with_reducible refine (bits_LeadingZeros64.calls a2 t316 _ A7.out).mono ?_);rintro e w' ⟨rfl,⟨nd,rfl⟩⟩;(try exact dd)));go_upto_block 0 with (first|(go_at_call 79;(with_reducible refine (bits_LeadingZeros64.calls a2 t316 _ A7.out).mono ?_);rintro e w' ⟨rfl,⟨nd,rfl⟩⟩;(try exact dd))))
  (try simp only [Act.put,List.setIfInBounds_toArray,List.set_cons_zero,List.set_cons_succ])
  go_cut [15] (fun v15 wc=>∃ (kq:Nat) (x15_18:Int),v15=.int .u64 x15_18∧Aside0 (bits_Div64.j2 kq ji10 ji8 ((ji10) / 4294967296) (Go.bits .and .u64 (ji10) 4294967295) (Go.bits .or .u64 (ji12) (ji15)) ((ji17) / 4294967296) (Go.bits .and .u64 (ji17) 4294967295) x15_18=some (r1,r2))∧Aside0 (kq≤k)∧Drawn0 w wc)
  case first=>
   have H:=HC19.out
   clear HC19
   have H':=Aside0.mk H
   clear H
   go_wp2
   repeat (go_quiet (fail);try go_wp2)
   go_loopg [15,16] k (fun kq v15 v16 w'=>∃ (x15_1:Int) (x16_1:Int),v15=.int .u64 x15_1∧v16=.int .u64 x16_1∧Aside0 (bits_Div64.l0 kq ji10 ji8 ((ji10) / 4294967296) (Go.bits .and .u64 (ji10) 4294967295) (Go.bits .or .u64 (ji12) (ji15)) ((ji17) / 4294967296) (Go.bits .and .u64 (ji17) 4294967295) x15_1 x16_1=some (r1,r2))∧Aside0 (kq≤k)∧Drawn0 w w')
   case atStart=>exact ⟨(IntKind.u64.wrap (Int.tdiv (Go.bits .or .u64 (ji12) (ji15)) ((ji10) / 4294967296))),(IntKind.u64.wrap ((Go.bits .or .u64 (ji12) (ji15)) - (IntKind.u64.wrap ((IntKind.u64.wrap (Int.tdiv (Go.bits .or .u64 (ji12) (ji15)) ((ji10) / 4294967296)))*((ji10) / 4294967296))))),(by first|rfl|(simp;done)|(simp only [← hji10,← hji12,← hji15] <;> (first|rfl|simp))|(simp [*];done)),(by first|rfl|(simp;done)|(simp only [← hji10,← hji12,← hji15] <;> (first|rfl|simp))|(simp [*];done)),H',⟨Nat.le_refl _⟩,by repeat (first|exact Drawn0.refl _|apply Drawn0.step)⟩
   case round=>
    clear H'
    try clear c4
    try clear c4b0
    try clear c4b1
    try clear c5
    try clear c5b0
    try clear c6
    try clear c6b0
    try clear c6b1
    try clear c9
    try clear c9b0
    try clear c9b1
    try clear c11b0
    try clear c14
    try clear c14b0
    try clear c14b1
    try clear c16b0
    try clear c18
    try clear c18b0
    try clear c18b1
    obtain ⟨x15_1,x16_1,rfl,rfl,HA,HK1,⟨m1,rfl⟩⟩:=hrel
    cases gk with
    | zero=>exact absurd HA.out (by simp [bits_Div64.l0])
    | succ k1=>
     have H:=HA.out
     clear HA
     simp only [bits_Div64.l0] at H
     have HC20:=Aside0.mk H
     clear H
     go_upto_region 17 with (fail)
     repeat (go_quiet (fail);go_upto_region 17 with (fail))
     go_cut [78] (fun v78 wc=>∃ (kq:Nat) (x78_19:Bool),v78=.bool x78_19∧Aside0 (bits_Div64.j1 kq ji10 ji8 ((ji10) / 4294967296) (Go.bits .and .u64 (ji10) 4294967295) (Go.bits .or .u64 (ji12) (ji15)) ((ji17) / 4294967296) (Go.bits .and .u64 (ji17) 4294967295) x15_1 x16_1 x78_19=some (r1,r2))∧Aside0 (kq≤k1)∧Drawn0 w wc)
     case first=>
      have H:=HC20.out
      clear HC20
      by_cases c21:x15_1≥4294967296
      ·
       rw [if_pos c21] at H
       have c21b0:decide (4294967296≤x15_1)=true:=decide_eq_true c21
       clear c21
       (first|rw [c21b0]|(simp only [i64_w,i32_w];rw [c21b0])|skip)
       have H':=Aside0.mk H
       clear H
       go_wp2
       repeat (go_quiet (fail);try go_wp2)
       go_meet
       case rel=>exact ⟨_,(true),hB,H',⟨by have:=HK1.out;first|omega|exact Nat.le_refl _⟩,by repeat (first|exact Drawn0.refl _|apply Drawn0.step)⟩
      ·
       rw [if_neg c21] at H
       have c21b0:decide (4294967296≤x15_1)=false:=decide_eq_false c21
       clear c21
       (first|rw [c21b0]|(simp only [i64_w,i32_w];rw [c21b0])|skip)
       have H':=Aside0.mk H
       clear H
       go_wp2
       repeat (go_quiet (fail);try go_wp2)
       go_meet
       case rel=>exact ⟨_,(decide ((IntKind.u64.wrap (x15_1*(Go.bits .and .u64 (ji10) 4294967295)))>(IntKind.u64.wrap ((IntKind.u64.wrap (4294967296*x16_1))+((ji17) / 4294967296))))),(by first|rfl|(simp;done)|(simp only [← hji10,← hji17] <;> (first|rfl|simp))|(simp [*];done)),H',⟨by have:=HK1.out;first|omega|exact Nat.le_refl _⟩,by repeat (first|exact Drawn0.refl _|apply Drawn0.step)⟩
     case rest=>
      clear HC20
      try clear c4
      try clear c4b0
      try clear c4b1
      try clear c5
      try clear c5b0
      try clear c6
      try clear c6b0
      try clear c6b1
      try clear c9
      try clear c9b0
      try clear c9b1
      try clear c11b0
      try clear c14
      try clear c14b0
      try clear c14b1
      try clear c16b0
      try clear c18
      try clear c18b0
      try clear c18b1
      try clear c21
      try clear c21b0
      obtain ⟨kq,x78_19,rfl,HA,HJ19,⟨mc19,rfl⟩⟩:=hcut
      cases kq with
      | zero=>exact absurd HA.out (by simp [bits_Div64.j1])
      | succ kj19=>
       have H:=HA.out
       clear HA
       simp only [bits_Div64.j1] at H
       by_cases c22:x78_19=true
       ·
        subst c22
        rw [if_pos rfl] at H
        try dsimp only at H
        by_cases c23:(IntKind.u64.wrap (x16_1+((ji10) / 4294967296)))≥4294967296
        ·
         rw [if_pos c23] at H
         have c23b0:decide (4294967296≤(IntKind.u64.wrap (x16_1+((ji10) / 4294967296))))=true:=decide_eq_true c23
         clear c23
         have H':=Aside0.mk H
         clear H
         go_wp2
         repeat (go_quiet (fail);try go_wp2)
         go_meet
         case rel=>exact ⟨_,(IntKind.u64.wrap (x15_1 - 1)),hB,H',⟨by have:=HK1.out;have:=HJ19.out;first|omega|exact Nat.le_refl _⟩,by repeat (first|exact Drawn0.refl _|apply Drawn0.step)⟩
        ·
         rw [if_neg c23] at H
         have c23b0:decide (4294967296≤(IntKind.u64.wrap (x16_1+((ji10) / 4294967296))))=false:=decide_eq_false c23
         clear c23
         have H':=Aside0.mk H
         clear H
         go_wp2
         repeat (go_quiet (fail);try go_wp2)
         go_roundg kj19
         case measure=>have:=HK1.out;have:=HJ19.out;omega
         case rel=>exact ⟨(IntKind.u64.wrap (x15_1 - 1)),(IntKind.u64.wrap (x16_1+((ji10) / 4294967296))),hB,(by first|rfl|(simp;done)|(simp only [← hji10] <;> (first|rfl|simp))|(simp [*];done)),H',⟨by have:=HK1.out;have:=HJ19.out;omega⟩,by repeat (first|exact Drawn0.refl _|apply Drawn0.step)⟩
       ·
        replace c22:=Bool.eq_false_iff.mpr c22
        subst c22
        rw [if_neg (show ¬ (false=true) by decide)] at H
        try dsimp only at H
        have H':=Aside0.mk H
        clear H
        go_wp2
        repeat (go_quiet (fail);try go_wp2)
        go_meet
        case rel=>exact ⟨_,(x15_1),hB,H',⟨by have:=HK1.out;have:=HJ19.out;first|omega|exact Nat.le_refl _⟩,by repeat (first|exact Drawn0.refl _|apply Drawn0.step)⟩
  case rest=>
   clear HC19
   try clear c4
   try clear c4b0
   try clear c4b1
   try clear c5
   try clear c5b0
   try clear c6
   try clear c6b0
   try clear c6b1
   try clear c9
   try clear c9b0
   try clear c9b1
   try clear c11b0
   try clear c14
   try clear c14b0
   try clear c14b1
   try clear c16b0
   try clear c18
   try clear c18b0
   try clear c18b1
   try clear c21
   try clear c21b0
   try clear c22
   try clear c23
   try clear c23b0
   obtain ⟨kq,x15_18,rfl,HA,HJ18,⟨mc18,rfl⟩⟩:=hcut
   cases kq with
   | zero=>exact absurd HA.out (by simp [bits_Div64.j2])
   | succ kj18=>
    have H:=HA.out
    clear HA
    simp only [bits_Div64.j2] at H
    by_cases c24:((ji10) / 4294967296)=0
    ·
     rw [if_pos c24] at H
     exact absurd H (by simp)
    rw [if_neg c24] at H
    have c24b0:(((ji10) / 4294967296) == 0)=false:=beq_eq_false_iff_ne.mpr c24
    have c24b1:(((ji10) / 4294967296) != 0)=true:=bne_iff_ne.mpr c24
    have H':=Aside0.mk H
    clear H
    go_wp2
    repeat (go_quiet (fail);try go_wp2)
    go_loopg [16,18] kj18 (fun kq v16 v18 w'=>∃ (x16_2:Int) (x18_2:Int),v16=.int .u64 x16_2∧v18=.int .u64 x18_2∧Aside0 (bits_Div64.l1 kq ji10 ji8 ((ji10) / 4294967296) (Go.bits .and .u64 (ji10) 4294967295) (Go.bits .and .u64 (ji17) 4294967295) x15_18 x16_2 (IntKind.u64.wrap ((IntKind.u64.wrap ((IntKind.u64.wrap ((Go.bits .or .u64 (ji12) (ji15))*4294967296))+((ji17) / 4294967296))) - (IntKind.u64.wrap (x15_18*ji10)))) x18_2=some (r1,r2))∧Aside0 (kq≤kj18)∧Drawn0 w w')
    case atStart=>exact ⟨(IntKind.u64.wrap ((IntKind.u64.wrap ((IntKind.u64.wrap ((IntKind.u64.wrap ((Go.bits .or .u64 (ji12) (ji15))*4294967296))+((ji17) / 4294967296))) - (IntKind.u64.wrap (x15_18*ji10)))) - (IntKind.u64.wrap ((IntKind.u64.wrap (Int.tdiv (IntKind.u64.wrap ((IntKind.u64.wrap ((IntKind.u64.wrap ((Go.bits .or .u64 (ji12) (ji15))*4294967296))+((ji17) / 4294967296))) - (IntKind.u64.wrap (x15_18*ji10)))) ((ji10) / 4294967296)))*((ji10) / 4294967296))))),(IntKind.u64.wrap (Int.tdiv (IntKind.u64.wrap ((IntKind.u64.wrap ((IntKind.u64.wrap ((Go.bits .or .u64 (ji12) (ji15))*4294967296))+((ji17) / 4294967296))) - (IntKind.u64.wrap (x15_18*ji10)))) ((ji10) / 4294967296))),(by first|rfl|(simp;done)|(simp only [← hji10,← hji12,← hji15,← hji17] <;> (first|rfl|simp))|(simp [*];done)),(by first|rfl|(simp;done)|(simp only [← hji10,← hji12,← hji15,← hji17] <;> (first|rfl|simp))|(simp [*];done)),H',⟨Nat.le_refl _⟩,by repeat (first|exact Drawn0.refl _|apply Drawn0.step)⟩
    case round=>
     clear H'
     try clear c4
     try clear c4b0
     try clear c4b1
     try clear c5
     try clear c5b0
     try clear c6
     try clear c6b0
     try clear c6b1
     try clear c9
     try clear c9b0
     try clear c9b1
     try clear c11b0
     try clear c14
     try clear c14b0
     try clear c14b1
     try clear c16b0
     try clear c18
     try clear c18b0
     try clear c18b1
     try clear c21
     try clear c21b0
     try clear c22
     try clear c23
     try clear c23b0
     try clear c24
     try clear c24b0
     try clear c24b1
     obtain ⟨x16_2,x18_2,rfl,rfl,HA,HK2,⟨m2,rfl⟩⟩:=hrel
     cases gk with
     | zero=>exact absurd HA.out (by simp [bits_Div64.l1])
     | succ k2=>
      have H:=HA.out
      clear HA
      simp only [bits_Div64.l1] at H
      have HC25:=Aside0.mk H
      clear H
      go_upto_region 24 with (fail)
      repeat (go_quiet (fail);go_upto_region 24 with (fail))
      go_cut [113] (fun v113 wc=>∃ (kq:Nat) (x113_24:Bool),v113=.bool x113_24∧Aside0 (bits_Div64.j4 kq ji10 ji8 ((ji10) / 4294967296) (Go.bits .and .u64 (ji10) 4294967295) (Go.bits .and .u64 (ji17) 4294967295) x15_18 x16_2 (IntKind.u64.wrap ((IntKind.u64.wrap ((IntKind.u64.wrap ((Go.bits .or .u64 (ji12) (ji15))*4294967296))+((ji17) / 4294967296))) - (IntKind.u64.wrap (x15_18*ji10)))) x18_2 x113_24=some (r1,r2))∧Aside0 (kq≤k2)∧Drawn0 w wc)
      case first=>
       have H:=HC25.out
       clear HC25
       by_cases c26:x18_2≥4294967296
       ·
        rw [if_pos c26] at H
        have c26b0:decide (4294967296≤x18_2)=true:=decide_eq_true c26
        clear c26
        (first|rw [c26b0]|(simp only [i64_w,i32_w];rw [c26b0])|skip)
        have H':=Aside0.mk H
        clear H
        go_wp2
        repeat (go_quiet (fail);try go_wp2)
        go_meet
        case rel=>exact ⟨_,(true),hB,H',⟨by have:=HJ18.out;have:=HK2.out;first|omega|exact Nat.le_refl _⟩,by repeat (first|exact Drawn0.refl _|apply Drawn0.step)⟩
       ·
        rw [if_neg c26] at H
        have c26b0:decide (4294967296≤x18_2)=false:=decide_eq_false c26
        clear c26
        (first|rw [c26b0]|(simp only [i64_w,i32_w];rw [c26b0])|skip)
        have H':=Aside0.mk H
        clear H
        go_wp2
        repeat (go_quiet (fail);try go_wp2)
        go_meet
        case rel=>exact ⟨_,(decide ((IntKind.u64.wrap (x18_2*(Go.bits .and .u64 (ji10) 4294967295)))>(IntKind.u64.wrap ((IntKind.u64.wrap (4294967296*x16_2))+(Go.bits .and .u64 (ji17) 4294967295))))),(by first|rfl|(simp;done)|(simp only [← hji10,← hji17] <;> (first|rfl|simp))|(simp [*];done)),H',⟨by have:=HJ18.out;have:=HK2.out;first|omega|exact Nat.le_refl _⟩,by repeat (first|exact Drawn0.refl _|apply Drawn0.step)⟩
      case rest=>
       clear HC25
       try clear c4
       try clear c4b0
       try clear c4b1
       try clear c5
       try clear c5b0
       try clear c6
       try clear c6b0
       try clear c6b1
       try clear c9
       try clear c9b0
       try clear c9b1
       try clear c11b0
       try clear c14
       try clear c14b0
       try clear c14b1
       try clear c16b0
       try clear c18
       try clear c18b0
       try clear c18b1
       try clear c21
       try clear c21b0
       try clear c22
       try clear c23
       try clear c23b0
       try clear c24
       try clear c24b0
       try clear c24b1
       try clear c26
       try clear c26b0
       obtain ⟨kq,x113_24,rfl,HA,HJ24,⟨mc24,rfl⟩⟩:=hcut
       cases kq with
       | zero=>exact absurd HA.out (by simp [bits_Div64.j4])
       | succ kj24=>
        have H:=HA.out
        clear HA
        simp only [bits_Div64.j4] at H
        by_cases c27:x113_24=true
        ·
         subst c27
         rw [if_pos rfl] at H
         try dsimp only at H
         by_cases c28:(IntKind.u64.wrap (x16_2+((ji10) / 4294967296)))≥4294967296
         ·
          rw [if_pos c28] at H
          have c28b0:decide (4294967296≤(IntKind.u64.wrap (x16_2+((ji10) / 4294967296))))=true:=decide_eq_true c28
          clear c28
          by_cases c29:0≤ji8
          rotate_left
          ·
           rw [if_neg c29] at H
           exact absurd H (by simp)
          rw [if_pos c29] at H
          have c29b0:=eq_true c29
          have c29b1:=decide_eq_true c29
          clear c29
          obtain ⟨ji30,hji30⟩:∃ j_:Int,(shr .u64 (IntKind.u64.wrap ((IntKind.u64.wrap ((IntKind.u64.wrap ((IntKind.u64.wrap ((IntKind.u64.wrap ((IntKind.u64.wrap ((Go.bits .or .u64 (ji12) (ji15))*4294967296))+((ji17) / 4294967296))) - (IntKind.u64.wrap (x15_18*ji10))))*4294967296))+(Go.bits .and .u64 (ji17) 4294967295))) - (IntKind.u64.wrap ((IntKind.u64.wrap (x18_2 - 1))*ji10)))) ji8)=j_:=⟨_,rfl⟩
          replace H:(some (IntKind.u64.wrap ((IntKind.u64.wrap (x15_18*4294967296))+(IntKind.u64.wrap (x18_2 - 1))),ji30))=some (r1,r2):=by first|(rw [hji30] at H;exact H)|(simp only [hji30] at H ⊢;exact H)
          have hji30_:((IntKind.u64.wrap ((IntKind.u64.wrap ((IntKind.u64.wrap ((IntKind.u64.wrap ((IntKind.u64.wrap ((IntKind.u64.wrap ((Go.bits .or .u64 (ji12) (ji15))*4294967296))+((ji17) / 4294967296))) - (IntKind.u64.wrap (x15_18*ji10))))*4294967296))+(Go.bits .and .u64 (ji17) 4294967295))) - (IntKind.u64.wrap ((IntKind.u64.wrap (x18_2 - 1))*ji10)))) / 2 ^ min ji8.toNat 64)=ji30:=hji30
          have hji30z:ji8≤64→((IntKind.u64.wrap ((IntKind.u64.wrap ((IntKind.u64.wrap ((IntKind.u64.wrap ((IntKind.u64.wrap ((IntKind.u64.wrap ((Go.bits .or .u64 (ji12) (ji15))*4294967296))+((ji17) / 4294967296))) - (IntKind.u64.wrap (x15_18*ji10))))*4294967296))+(Go.bits .and .u64 (ji17) 4294967295))) - (IntKind.u64.wrap ((IntKind.u64.wrap (x18_2 - 1))*ji10)))) / 2 ^ ji8.toNat)=ji30:=shr_small hji30
          simp only [Option.some.injEq,Prod.mk.injEq] at H
          obtain ⟨rfl,rfl⟩:=H
          go_wp2
          repeat (go_quiet (fail);try go_wp2)
          go_ret2
          exact ⟨by first|rfl|(simp;done)|(simp only [← hji8,← hji10,← hji12,← hji13,← hji15,← hji17,← hji30] <;> (first|rfl|simp))|(simp [*];done),by repeat (first|exact Drawn0.refl _|apply Drawn0.step)⟩
         ·
          rw [if_neg c28] at H
          have c28b0:decide (4294967296≤(IntKind.u64.wrap (x16_2+((ji10) / 4294967296))))=false:=decide_eq_false c28
          clear c28
          have H':=Aside0.mk H
          clear H
          go_wp2
          repeat (go_quiet (fail);try go_wp2)
          go_roundg kj24
          case measure=>have:=HJ18.out;have:=HK2.out;have:=HJ24.out;omega
          case rel=>exact ⟨(IntKind.u64.wrap (x16_2+((ji10) / 4294967296))),(IntKind.u64.wrap (x18_2 - 1)),(by first|rfl|(simp;done)|(simp only [← hji10] <;> (first|rfl|simp))|(simp [*];done)),hB,H',⟨by have:=HJ18.out;have:=HK2.out;have:=HJ24.out;omega⟩,by repeat (first|exact Drawn0.refl _|apply Drawn0.step)⟩
        ·
         replace c27:=Bool.eq_false_iff.mpr c27
         subst c27
         rw [if_neg (show ¬ (false=true) by decide)] at H
         try dsimp only at H
         by_cases c31:0≤ji8
         rotate_left
         ·
          rw [if_neg c31] at H
          exact absurd H (by simp)
         rw [if_pos c31] at H
         have c31b0:=eq_true c31
         have c31b1:=decide_eq_true c31
         clear c31
         obtain ⟨ji32,hji32⟩:∃ j_:Int,(shr .u64 (IntKind.u64.wrap ((IntKind.u64.wrap ((IntKind.u64.wrap ((IntKind.u64.wrap ((IntKind.u64.wrap ((IntKind.u64.wrap ((Go.bits .or .u64 (ji12) (ji15))*4294967296))+((ji17) / 4294967296))) - (IntKind.u64.wrap (x15_18*ji10))))*4294967296))+(Go.bits .and .u64 (ji17) 4294967295))) - (IntKind.u64.wrap (x18_2*ji10)))) ji8)=j_:=⟨_,rfl⟩
         replace H:(some (IntKind.u64.wrap ((IntKind.u64.wrap (x15_18*4294967296))+x18_2),ji32))=some (r1,r2):=by first|(rw [hji32] at H;exact H)|(simp only [hji32] at H ⊢;exact H)
         have hji32_:((IntKind.u64.wrap ((IntKind.u64.wrap ((IntKind.u64.wrap ((IntKind.u64.wrap ((IntKind.u64.wrap ((IntKind.u64.wrap ((Go.bits .or .u64 (ji12) (ji15))*4294967296))+((ji17) / 4294967296))) - (IntKind.u64.wrap (x15_18*ji10))))*4294967296))+(Go.bits .and .u64 (ji17) 4294967295))) - (IntKind.u64.wrap (x18_2*ji10)))) / 2 ^ min ji8.toNat 64)=ji32:=hji32
         have hji32z:ji8≤64→((IntKind.u64.wrap ((IntKind.u64.wrap ((IntKind.u64.wrap ((IntKind.u64.wrap ((IntKind.u64.wrap ((IntKind.u64.wrap ((Go.bits .or .u64 (ji12) (ji15))*4294967296))+((ji17) / 4294967296))) - (IntKind.u64.wrap (x15_18*ji10))))*4294967296))+(Go.bits .and .u64 (ji17) 4294967295))) - (IntKind.u64.wrap (x18_2*ji10)))) / 2 ^ ji8.toNat)=ji32:=shr_small hji32
         simp only [Option.some.injEq,Prod.mk.injEq] at H
         obtain ⟨rfl,rfl⟩:=H
         go_wp2
         repeat (go_quiet (fail);try go_wp2)
         go_ret2
         exact ⟨by first|rfl|(simp;done)|(simp only [← hji8,← hji10,← hji12,← hji13,← hji15,← hji17,← hji32] <;> (first|rfl|simp))|(simp [*];done),by repeat (first|exact Drawn0.refl _|apply Drawn0.step)⟩
def impl_unit.f (k:Nat) (a0 a1:Int):Option (Int):=(impl_valuation.f k a0 a1).bind fun t323=>((impl_power.f k a0 t323).bind fun t324=>(if t324=0 then (none) else (some (wrap64 (Int.tdiv a1 t324)))))
theorem impl_unit.mono:∀ a0 a1 k,LeO (impl_unit.f k a0 a1) (impl_unit.f (k+1) a0 a1):=by
 intro a0 a1 k
 unfold impl_unit.f
 repeat' first
   | with_reducible first|exact impl_power.mono ..|exact impl_valuation.mono ..|exact LeO.refl _|exact LeO.none _|refine LeO.ite ?_ ?_|refine LeO.bind ?_ fun _=>?_
set_option maxHeartbeats 8000000 in
set_option maxRecDepth 100000 in
theorem impl_unit.calls (k:Nat) (a0 a1 r:Int) (w:World) (h:impl_unit.f k a0 a1=some r) :
  Calls Try.prog 66 #[.int .i64 a0,.int .i64 a1] w fun e w'=>e=.returned (.int .i64 r)∧Drawn0 w w':=by
 have H:=h
 unfold impl_unit.f at H
 clear h
 replace H:=bS H
 obtain ⟨t323,A3,H⟩:=H
 try dsimp only at H
 replace H:=bS H
 obtain ⟨t324,A4,H⟩:=H
 try dsimp only at H
 by_cases c5:t324=0
 ·
  rw [if_pos c5] at H
  exact absurd H (by simp)
 rw [if_neg c5] at H
 have c5b0:(t324 == 0)=false:=beq_eq_false_iff_ne.mpr c5
 have c5b1:(t324 != 0)=true:=bne_iff_ne.mpr c5
 obtain rfl:=Option.some.inj H
 go_enter Try.func66,Try.ntmps66
 go_wp2_with (first|((with_reducible refine gd 9 rfl ?_);refine gC (some 9) rfl Try.func51 (impl_valuation.calls (w:=_) (h:=A3.out)) ?_;rintro _ ⟨nd,rfl⟩)|((with_reducible refine gd 10 rfl ?_);refine gC (some 10) rfl Try.func50 (impl_power.calls (w:=_) (h:=A4.out)) ?_;rintro _ ⟨nd,rfl⟩))
 go_ret
 exact ⟨by first|rfl|(simp;done)|(simp [*];done),by repeat (first|exact Drawn0.refl _|apply Drawn0.step)⟩
def impl_inverse.l0:Nat→Int→Int→Int→Int→Int→Option (Int)
 | 0,_,_,_,_,_=>none
 | k+1,x1,x5,x6,x7,x8=>if x6=0 then ((impl_mod.f x7 x1).bind fun t326=>(some t326)) else (impl_inverse.l0 k x1 x6 (wrap64 (x5 - (wrap64 ((wrap64 (Int.tdiv x5 x6))*x6)))) x8 (wrap64 (x7 - (wrap64 ((wrap64 (Int.tdiv x5 x6))*x8)))))
def impl_inverse.f (k:Nat) (a0 a1:Int):Option (Int):=(impl_mod.f a0 a1).bind fun t325=>(impl_inverse.l0 k a1 t325 a1 1 0)
theorem impl_inverse.mono_l:∀ k,(∀ y0 y1 y2 y3 y4,LeO (impl_inverse.l0 k y0 y1 y2 y3 y4) (impl_inverse.l0 (k+1) y0 y1 y2 y3 y4))
 | 0=>fun _ _ _ _ _ r h=>by simp [impl_inverse.l0] at h
 | k+1=>by
  have ih0:=impl_inverse.mono_l k
  ·
   intro y0 y1 y2 y3 y4
   unfold impl_inverse.l0
   repeat' first
   | with_reducible first|exact ih0 ..|exact LeO.refl _|exact LeO.none _|refine LeO.ite ?_ ?_|refine LeO.bind ?_ fun _=>?_
theorem impl_inverse.mono:∀ a0 a1 k,LeO (impl_inverse.f k a0 a1) (impl_inverse.f (k+1) a0 a1):=by
 intro a0 a1 k
 have ih0:=impl_inverse.mono_l k
 unfold impl_inverse.f
 repeat' first
   | with_reducible first|exact ih0 ..|exact LeO.refl _|exact LeO.none _|refine LeO.ite ?_ ?_|refine LeO.bind ?_ fun _=>?_
set_option maxHeartbeats 8000000 in
set_option maxRecDepth 100000 in
theorem impl_inverse.calls (k:Nat) (a0 a1 r:Int) (w:World) (h:impl_inverse.f k a0 a1=some r) :
  Calls Try.prog 67 #[.int .i64 a0,.int .i64 a1] w fun e w'=>e=.returned (.int .i64 r)∧Drawn0 w w':=by
 have H:=h
 unfold impl_inverse.f at H
 clear h
 replace H:=bS H
 obtain ⟨t325,A3,H⟩:=H
 try dsimp only at H
 have H':=Aside0.mk H
 clear H
 go_enter Try.func67,Try.ntmps67
 go_wp2_with (first|((with_reducible refine gd 12 rfl ?_);refine gC (some 12) rfl Try.func75 (impl_mod.calls (w:=_) (h:=A3.out)) ?_;rintro _ ⟨nd,rfl⟩))
 go_loopg [5,6,7,8] k (fun kq v5 v6 v7 v8 w'=>∃ (x5_1:Int) (x6_1:Int) (x7_1:Int) (x8_1:Int),v5=.int .i64 x5_1∧v6=.int .i64 x6_1∧v7=.int .i64 x7_1∧v8=.int .i64 x8_1∧Aside0 (impl_inverse.l0 kq a1 x5_1 x6_1 x7_1 x8_1=some r)∧Aside0 (kq≤k)∧Drawn0 w w')
 case atStart=>exact ⟨(t325),(a1),(1),(0),hB,hB,hB,hB,H',⟨Nat.le_refl _⟩,by repeat (first|exact Drawn0.refl _|apply Drawn0.step)⟩
 case round=>
  clear H'
  obtain ⟨x5_1,x6_1,x7_1,x8_1,rfl,rfl,rfl,rfl,HA,HK1,⟨m1,rfl⟩⟩:=hrel
  cases gk with
  | zero=>exact absurd HA.out (by simp [impl_inverse.l0])
  | succ k1=>
   have H:=HA.out
   clear HA
   simp only [impl_inverse.l0] at H
   by_cases c4:x6_1=0
   ·
    rw [if_pos c4] at H
    have c4b0:(x6_1 == 0)=true:=beq_iff_eq.mpr c4
    have c4b1:(x6_1 != 0)=false:=bne_eq_false_iff_eq.mpr c4
    clear c4
    replace H:=bS H
    obtain ⟨t326,A5,H⟩:=H
    try dsimp only at H
    obtain rfl:=Option.some.inj H
    go_wp2_with (first|((with_reducible refine gd 33 rfl ?_);refine gC (some 33) rfl Try.func75 (impl_mod.calls (w:=_) (h:=A5.out)) ?_;rintro _ ⟨nd,rfl⟩))
    go_ret
    exact ⟨by first|rfl|(simp;done)|(simp [*];done),by repeat (first|exact Drawn0.refl _|apply Drawn0.step)⟩
   ·
    rw [if_neg c4] at H
    have c4b0:(x6_1 == 0)=false:=beq_eq_false_iff_ne.mpr c4
    have c4b1:(x6_1 != 0)=true:=bne_iff_ne.mpr c4
    have H':=Aside0.mk H
    clear H
    go_wp2
    go_roundg k1
    case measure=>have:=HK1.out;omega
    case rel=>exact ⟨(x6_1),(wrap64 (x5_1 - (wrap64 ((wrap64 (Int.tdiv x5_1 x6_1))*x6_1)))),(x8_1),(wrap64 (x7_1 - (wrap64 ((wrap64 (Int.tdiv x5_1 x6_1))*x8_1)))),hB,hB,hB,hB,H',⟨by have:=HK1.out;omega⟩,by repeat (first|exact Drawn0.refl _|apply Drawn0.step)⟩
def impl_ofMark.f (k:Nat) (a0 a1 a2:Int):Option (Int × Int × Int × Bool):=(impl_isLevel.f a1).bind fun t328=>(if t328=true then ((impl_power.f k a0 (wrap64 (a1+6))).bind fun t329=>((impl_mod.f a2 t329).bind fun t330=>((impl_valuation.f k a0 t330).bind fun t331=>((impl_power.f k a0 (wrap64 (6 - (mx (wrap64 (6 - t331)) 0)))).bind fun t332=>(if t332=0 then (none) else (some (a1,wrap64 (Int.tdiv t330 t332),mx (wrap64 (6 - t331)) 0,true))))))) else (some (0,0,0,false)))
theorem impl_ofMark.mono:∀ a0 a1 a2 k,LeO (impl_ofMark.f k a0 a1 a2) (impl_ofMark.f (k+1) a0 a1 a2):=by
 intro a0 a1 a2 k
 unfold impl_ofMark.f
 repeat' first
   | with_reducible first|exact impl_power.mono ..|exact impl_valuation.mono ..|exact LeO.refl _|exact LeO.none _|refine LeO.ite ?_ ?_|refine LeO.bind ?_ fun _=>?_
set_option maxHeartbeats 8000000 in
set_option maxRecDepth 100000 in
theorem impl_ofMark.calls (k:Nat) (a0 a1 a2 r1 r2 r3:Int) (r4:Bool) (w:World) (h:impl_ofMark.f k a0 a1 a2=some (r1,r2,r3,r4)) :
  Calls Try.prog 68 #[.int .i64 a0,.int .i64 a1,.int .i64 a2] w fun e w'=>e=.returned (.tuple #[.agg #[.int .i64 r1,.int .i64 r2,.int .i64 r3],.bool r4])∧Below w.heap.size w w':=by
 have hu53:=Try.underlying53
 have HB:=Aside0.mk (Below.refl w.heap.size w)
 have H:=h
 unfold impl_ofMark.f at H
 clear h
 replace H:=bS H
 obtain ⟨t328,A4,H⟩:=H
 try dsimp only at H
 by_cases c5:t328=true
 focus
  subst c5
  rw [if_pos rfl] at H
  try dsimp only at H
  replace H:=bS H
  obtain ⟨t329,A6,H⟩:=H
  try dsimp only at H
  replace H:=bS H
  obtain ⟨t330,A7,H⟩:=H
  try dsimp only at H
  replace H:=bS H
  obtain ⟨t331,A8,H⟩:=H
  try dsimp only at H
  obtain ⟨ji9,hji9⟩:∃ j_:Int,(mx (wrap64 (6 - t331)) 0)=j_:=⟨_,rfl⟩
  replace H:((impl_power.f k a0 (wrap64 (6 - (ji9)))).bind fun t332=>(if t332=0 then (none) else (some (a1,wrap64 (Int.tdiv t330 t332),ji9,true))))=some (r1,r2,r3,r4):=by first|(rw [hji9] at H;exact H)|(simp only [hji9] at H ⊢;exact H)
  (try rw [hji9] at A4)
  (try rw [hji9] at A6)
  (try rw [hji9] at A7)
  (try rw [hji9] at A8)
  (try (have hji9l:0≤ji9:=by (rw [← hji9];unfold mx;(repeat' split) <;> omega)))
  (try (have hji9m:0≤ji9:=by omega))
  have hji9_:(if (wrap64 (6 - t331))<0 then 0 else (wrap64 (6 - t331)))=ji9:=hji9
  replace H:=bS H
  obtain ⟨t332,A10,H⟩:=H
  try dsimp only at H
  by_cases c11:t332=0
  ·
   rw [if_pos c11] at H
   exact absurd H (by simp)
  rw [if_neg c11] at H
  have c11b0:(t332 == 0)=false:=beq_eq_false_iff_ne.mpr c11
  have c11b1:(t332 != 0)=true:=bne_iff_ne.mpr c11
  simp only [Option.some.injEq,Prod.mk.injEq] at H
  obtain ⟨rfl,rfl,rfl,rfl⟩:=H
 rotate_left
 focus
  replace c5:=Bool.eq_false_iff.mpr c5
  subst c5
  rw [if_neg (show ¬ (false=true) by decide)] at H
  try dsimp only at H
  simp only [Option.some.injEq,Prod.mk.injEq] at H
  obtain ⟨rfl,rfl,rfl,rfl⟩:=H
 rotate_left
 all_goals
  go_enter Try.func68,Try.ntmps68
  go_wp2_with (first|((with_reducible refine gate_dst (N:=6) rfl ?_);refine bxE (cs:=#[.int .i64 0,.int .i64 0,.int .i64 0]) (t:=53) ?_;intro gb327 hg w12 hbox hb;have BK327:=Aside0.mk hbox;have GW327:=sA hg;have GE327:=sA hg;replace HB:=lB hb;clear hb hbox hg)|((with_reducible refine gd 10 rfl ?_);refine gC (some 10) rfl Try.func64 (impl_isLevel.calls (w:=_) (h:=A4.out)) ?_;rintro _ ⟨nd,rfl⟩;(try (rw [drewN_self w12];generalize hq_:World.drewN w12 _=w12;replace BK327:=Aside0.mk (by rw [← hq_];exact (bkA BK327));replace HB:=Aside0.mk (by rw [← hq_];exact blA);clear hq_));obtain ⟨hcz15_0,hcz15_1,hcz15_2,hfz15_0,hfz15_1,hfz15_2⟩:=cz3 BK327)|((with_reducible refine gd 17 rfl ?_);refine gC (some 17) rfl Try.func50 (impl_power.calls (w:=_) (h:=A6.out)) ?_;rintro _ ⟨nd,rfl⟩;(try (rw [drewN_self w12];generalize hq_:World.drewN w12 _=w12;replace BK327:=Aside0.mk (by rw [← hq_];exact (bkA BK327));replace HB:=Aside0.mk (by rw [← hq_];exact blA);clear hq_)))|((with_reducible refine gd 18 rfl ?_);refine gC (some 18) rfl Try.func75 (impl_mod.calls (w:=_) (h:=A7.out)) ?_;rintro _ ⟨nd,rfl⟩;(try (rw [drewN_self w12];generalize hq_:World.drewN w12 _=w12;replace BK327:=Aside0.mk (by rw [← hq_];exact (bkA BK327));replace HB:=Aside0.mk (by rw [← hq_];exact blA);clear hq_)))|((with_reducible refine gd 21 rfl ?_);refine gC (some 21) rfl Try.func51 (impl_valuation.calls (w:=_) (h:=A8.out)) ?_;rintro _ ⟨nd,rfl⟩;(try (rw [drewN_self w12];generalize hq_:World.drewN w12 _=w12;replace BK327:=Aside0.mk (by rw [← hq_];exact (bkA BK327));replace HB:=Aside0.mk (by rw [← hq_];exact blA);clear hq_)))|((with_reducible refine gate_callee (f:=50) rfl ?_);refine goesL_ (some 29) rfl rfl Try.func50 (by kernel_rfl) rfl #[.int .i64 a0,.int .i64 (wrap64 (6 - (ji9)))] rfl (by (try simp only [List.map_toArray,List.map_cons,List.map_nil]);first|done|(simp only [hji9];rfl)|rfl|(simp only [List.length_drop,List.length_take];rfl)) ?_;(with_reducible refine (impl_power.calls k a0 (wrap64 (6 - (ji9))) t332 _ A10.out).mono ?_);rintro e w' ⟨rfl,⟨nd,rfl⟩⟩;refine ⟨_,rfl,?_⟩;(try (rw [drewN_self w12];generalize hq_:World.drewN w12 _=w12;replace BK327:=Aside0.mk (by rw [← hq_];exact (bkA BK327));replace HB:=Aside0.mk (by rw [← hq_];exact blA);clear hq_));obtain ⟨hcz13_0,hcz13_1,hcz13_2,hfz13_0,hfz13_1,hfz13_2⟩:=cz3 BK327))
 ·
  refine bodyPost_ret (results_ct rfl _ _ gb327 53 #[.int .i64 a1,.int .i64 (wrap64 (Int.tdiv t330 t332)),.int .i64 ji9] (0,0) _ rfl (bpA BK327) Try.underlying53 rfl (by kernel_rfl)) rfl ?_
  exact ⟨by first|rfl|(simp [errW_none,errW_some] <;> rfl)|(simp only [← hji9];first|rfl|(simp [errW_none,errW_some] <;> rfl))|(simp [*,errW_none,errW_some] <;> rfl),blA⟩
 ·
  refine bodyPost_ret (results_ct rfl _ _ gb327 53 #[.int .i64 0,.int .i64 0,.int .i64 0] (0,0) _ rfl (bpA BK327) Try.underlying53 rfl (by kernel_rfl)) rfl ?_
  exact finA blA
mutual
def impl_Ball_38.l0:Nat→List (List (S53))→Int→List (List (S53))→Int→Int→Option ((List (S53)))
 | 0,_,_,_,_,_=>none
 | k+1,x0,x3,x9,x10,x11=>if x11<x10 then (if 0≤x11 then (if x11<(x9.length:Int) then (if (wrap64 (x3+((rd_L6 x9 x11).length:Int)))<0 then (none) else (impl_Ball_38.l0 k x0 (wrap64 (x3+((rd_L6 x9 x11).length:Int))) x9 x10 (wrap64 (x11+1)))) else (none)) else (none)) else ((impl_Ball_56.f 0 x3).bind fun t488=>(impl_Ball_38.l1 k t488 x0 (x0.length:Int) 0))
def impl_Ball_38.l1:Nat→List (S53)→List (List (S53))→Int→Int→Option ((List (S53)))
 | 0,_,_,_,_=>none
 | k+1,x6,x25,x26,x27=>if x27<x26 then (if 0≤x27 then (if x27<(x25.length:Int) then (if x6.length+(rd_L6 x25 x27).length<5864062014805 then (impl_Ball_38.l1 k (x6 ++ (rd_L6 x25 x27)) x25 x26 (wrap64 (x27+1))) else (none)) else (none)) else (none)) else (some x6)
end
def impl_Ball_38.f (k:Nat) (l0:List (List (S53))):Option ((List (S53))):=impl_Ball_38.l0 k l0 0 l0 (l0.length:Int) 0
theorem impl_Ball_38.mono_l:∀ k,(∀ y0 y1 y2 y3 y4,LeO (impl_Ball_38.l0 k y0 y1 y2 y3 y4) (impl_Ball_38.l0 (k+1) y0 y1 y2 y3 y4))∧(∀ y0 y1 y2 y3,LeO (impl_Ball_38.l1 k y0 y1 y2 y3) (impl_Ball_38.l1 (k+1) y0 y1 y2 y3))
 | 0=>by refine ⟨?_,?_⟩ <;> (intros;intro r h;simp [impl_Ball_38.l0,impl_Ball_38.l1] at h)
 | k+1=>by
  obtain ⟨ih0,ih1⟩:=impl_Ball_38.mono_l k
  refine ⟨?_,?_⟩ <;> (intros;first|unfold impl_Ball_38.l0|unfold impl_Ball_38.l1)
  all_goals repeat' first
  | with_reducible first|exact ih0 ..|exact ih1 ..|exact LeO.refl _|exact LeO.none _|refine LeO.ite ?_ ?_|refine LeO.bind ?_ fun _=>?_
theorem impl_Ball_38.mono:∀ a0 k,LeO (impl_Ball_38.f k a0) (impl_Ball_38.f (k+1) a0):=by
 intro a0 k
 obtain ⟨ih0,ih1⟩:=impl_Ball_38.mono_l k
 unfold impl_Ball_38.f
 repeat' first
   | with_reducible first|exact ih0 ..|exact ih1 ..|exact LeO.refl _|exact LeO.none _|refine LeO.ite ?_ ?_|refine LeO.bind ?_ fun _=>?_
set_option maxHeartbeats 8000000 in
set_option maxRecDepth 100000 in
theorem impl_Ball_38.calls (k:Nat) (A0:Option Addr) (c0:Nat) (l0:List (List (S53))) (r:List (S53)) (w:World) (hr0:Kd.C (Kd.slice 53 k53) w A0 l0.length l0) (hc0:l0.length≤c0) (h:impl_Ball_38.f k l0=some r) :
  Calls Try.prog 38 #[.slice A0 l0.length c0] w fun e w'=>∃ v0_:Value,e=.returned (v0_)∧Kd.R k53 53 w' w.heap.size (fun _=>True) v0_ r∧Below w.heap.size w w':=by
 have HR0:=Aside0.mk hr0
 have HC0:=Aside0.mk hc0
 clear hr0 hc0
 have HB:=Aside0.mk (Below.refl w.heap.size w)
 have H:=h
 unfold impl_Ball_38.f at H
 clear h
 have H':=Aside0.mk H
 clear H
 go_enter Try.func38,Try.ntmps38
 go_wp2
 go_loopg [3,11] k (fun kq v3 v11 w'=>∃ (x3_1:Int) (x11_1:Int),v3=.int .i64 x3_1∧v11=.int .i64 x11_1∧Aside0 (impl_Ball_38.l0 kq l0 x3_1 l0 (l0.length:Int) x11_1=some r)∧Aside0 (kq≤k)∧Aside0 (Below w.heap.size w w'))
 case atStart=>exact ⟨(0),(0),hB,hB,H',⟨Nat.le_refl _⟩,⟨blA⟩⟩
 case round=>
  clear H'
  obtain ⟨x3_1,x11_1,rfl,rfl,HA,HK1,HB⟩:=hrel
  cases gk with
  | zero=>exact absurd HA.out (by simp [impl_Ball_38.l0])
  | succ k1=>
   have H:=HA.out
   clear HA
   simp only [impl_Ball_38.l0] at H
   by_cases c2:x11_1<(l0.length:Int)
   ·
    rw [if_pos c2] at H
    have c2b0:=decide_eq_true c2
    clear c2
    by_cases c3:0≤x11_1
    rotate_left
    ·
     rw [if_neg c3] at H
     exact absurd H (by simp)
    rw [if_pos c3] at H
    have c3b0:=decide_eq_true c3
    clear c3
    by_cases c4:x11_1<(l0.length:Int)
    rotate_left
    ·
     rw [if_neg c4] at H
     exact absurd H (by simp)
    rw [if_pos c4] at H
    have c4b0:=decide_eq_true c4
    clear c4
    by_cases c5:(wrap64 (x3_1+((rd_L6 l0 x11_1).length:Int)))<0
    ·
     rw [if_pos c5] at H
     exact absurd H (by simp)
    rw [if_neg c5] at H
    have c5b0:=decide_eq_false c5
    clear c5
    have H':=Aside0.mk H
    clear H
    have p487:0≤(x11_1:Int):=dA
    have q487:x11_1<(l0.length:Int):=dA
    obtain ⟨ad487,A487_0,c487_0,e487,hx487_0,hl487_0,hi487_0⟩:=at_L6 HR0.out x11_1 p487 q487
    cases e487
    replace hx487_0:=(HB.out.cell (World.block_lt_of_cell? w _ hx487_0)).trans hx487_0
    have HR487_0:=Aside0.mk hi487_0
    have HC487_0:=Aside0.mk hl487_0
    clear hi487_0 hl487_0
    replace p487:=eq_true p487
    replace q487:=eq_true q487
    go_wp2
    go_roundg k1
    case measure=>have:=HK1.out;omega
    case rel=>exact ⟨(wrap64 (x3_1+((rd_L6 l0 x11_1).length:Int))),(wrap64 (x11_1+1)),hB,hB,H',⟨by have:=HK1.out;omega⟩,⟨blA⟩⟩
   ·
    rw [if_neg c2] at H
    have c2b0:=decide_eq_false c2
    clear c2
    replace H:=bS H
    obtain ⟨t488,A6,H⟩:=H
    try dsimp only at H
    have H':=Aside0.mk H
    clear H
    go_wp2_with (first|((with_reducible refine gate_callee (f:=56) rfl ?_);refine gL (some 24) rfl Try.func56 #[.slice none 0 0,.int .i64 x3_1] ?_;(with_reducible refine (impl_Ball_56.calls 0 x3_1 t488 _ A6.out).mono ?_);rintro e w7 ⟨v489,rfl,ho0,hb⟩;refine ⟨_,rfl,?_⟩;have HO490:=Aside0.mk (Kd.R_lower ho0 (below_size blA));replace HB:=lB hb;clear ho0 hb))
    go_loopg [6,27] k1 (fun kq v6 v27 w'=>∃ (x6_2:List (S53)) (x27_2:Int),v27=.int .i64 x27_2∧Aside0 (impl_Ball_38.l1 kq x6_2 l0 (l0.length:Int) x27_2=some r)∧Aside0 (kq≤k1)∧Aside0 (Kd.R k53 53 w' w.heap.size (fun _=>True) v6 x6_2)∧Aside0 (Below w.heap.size w w'))
    case atStart=>exact ⟨(t488),(0),hB,H',⟨Nat.le_refl _⟩,⟨rA HO490⟩,⟨blA⟩⟩
    case round=>
     clear H'
     try clear c2
     try clear c2b0
     try clear c3
     try clear c3b0
     try clear c4
     try clear c4b0
     try clear c5
     try clear c5b0
     try clear hx487_0
     try clear p487
     try clear q487
     obtain ⟨x6_2,x27_2,rfl,HA,HK2,HO_6,HB⟩:=hrel
     cases gk with
     | zero=>exact absurd HA.out (by simp [impl_Ball_38.l1])
     | succ k2=>
      have H:=HA.out
      clear HA
      simp only [impl_Ball_38.l1] at H
      by_cases c8:x27_2<(l0.length:Int)
      ·
       rw [if_pos c8] at H
       have c8b0:=decide_eq_true c8
       clear c8
       by_cases c9:0≤x27_2
       rotate_left
       ·
        rw [if_neg c9] at H
        exact absurd H (by simp)
       rw [if_pos c9] at H
       have c9b0:=decide_eq_true c9
       clear c9
       by_cases c10:x27_2<(l0.length:Int)
       rotate_left
       ·
        rw [if_neg c10] at H
        exact absurd H (by simp)
       rw [if_pos c10] at H
       have c10b0:=decide_eq_true c10
       clear c10
       by_cases c11:x6_2.length+(rd_L6 l0 x27_2).length<5864062014805
       rotate_left
       ·
        rw [if_neg c11] at H
        exact absurd H (by simp)
       rw [if_pos c11] at H
       have LMc11:=Aside0.mk c11
       clear c11
       obtain ⟨y492,hy492⟩:∃ y_:List (S53),y_=(x6_2 ++ (rd_L6 l0 x27_2)):=⟨_,rfl⟩
       replace H:(impl_Ball_38.l1 k2 y492 l0 (l0.length:Int) (wrap64 (x27_2+1)))=some r:=rH hy492 H
       have Ny492:=Aside0.mk hy492
       clear hy492
       have H':=Aside0.mk H
       clear H
       have p491:0≤(x27_2:Int):=dA
       have q491:x27_2<(l0.length:Int):=dA
       obtain ⟨ad491,A491_0,c491_0,e491,hx491_0,hl491_0,hi491_0⟩:=at_L6 HR0.out x27_2 p491 q491
       cases e491
       replace hx491_0:=(HB.out.cell (World.block_lt_of_cell? w _ hx491_0)).trans hx491_0
       have HR491_0:=Aside0.mk hi491_0
       have HC491_0:=Aside0.mk hl491_0
       clear hi491_0 hl491_0
       replace p491:=eq_true p491
       replace q491:=eq_true q491
       go_wp2_with (first|((with_reducible refine gate_builtin (b:=.append) (xs:=#[.tmp 31,.tmp 32]) rfl ?_);at_builtin;refine Kd.R_append_rows k53 (w0:=w) w.heap.size rfl (.tmp 31) (.tmp 32) 38 53 (.agg #[(.int .i64 0),(.int .i64 0),(.int .i64 0)]) 24 rfl Try.underlying38 info53 rfl (by decide) (by omega) u6 x6_2 (rd_L6 l0 x27_2) _ _ _ (fun _=>True) (fun _=>False) rfl rfl ?aO ?aR (fun _ _ h=>h) (fun _ h=>h.elim) ?aF ?aB ?aS ?aL ?_;(case aR=>exact cR (Kd.C_below HR491_0.out HB.out));(case aB=>exact blA);(case aF=>exact (fun _ _=>trivial));(case aO=>exact (rA HO_6));(case aS=>exact (below_size blA));(case aL=>have:=LMc11.out;omega);intro v493 w12 ho hb hg hat;rw [← Ny492.out] at ho;have HO494:=Aside0.mk ho;replace HB:=Aside0.mk hb;clear HO_6;clear ho hb hg hat))
       go_roundg k2
       case measure=>have:=HK1.out;have:=HK2.out;omega
       case rel=>exact ⟨(y492),(wrap64 (x27_2+1)),hB,H',⟨by have:=HK1.out;have:=HK2.out;omega⟩,⟨rA HO494⟩,⟨blA⟩⟩
      ·
       rw [if_neg c8] at H
       have c8b0:=decide_eq_false c8
       clear c8
       obtain rfl:=Option.some.inj H
       go_wp2
       go_ret
       exact ⟨_,eW,rA HO_6,blA⟩
end Go.Proofs.Ytnhiehpbkimaeaa.PAll
