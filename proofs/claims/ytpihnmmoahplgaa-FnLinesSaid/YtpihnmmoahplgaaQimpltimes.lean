import Derived.Test.YtpihnmmoahplgaaQx
import Derived.Test.YtpihnmmoahplgaaQimplIsEnd
import Derived.Test.YtpihnmmoahplgaaQspecl01End
namespace Go.Proofs.Ytpihnmmoahplgaa.PAll
open Go.RowKit Go.Proofs.YtpihnmmoahplgaaW.PrintWords Go.Proofs.YtpihnmmoahplgaaW.PrintLast Go.Proofs.YtpihnmmoahplgaaW.PrintMore
attribute [local go_sem] Go.Proofs.Ytpihnmmoahplgaa.Aux.setCell_drewN Go.Proofs.Ytpihnmmoahplgaa.Aux.isSome_setCell Go.Proofs.Ytpihnmmoahplgaa.Aux.max_eight bq bo cG cF ba bZ bp bm
set_option linter.unusedVariables false
set_option linter.unusedSimpArgs false
mutual
def ah.j2:Nat→Int→Int→Int→Int→Int→Int→Int→Int→Option (Int × Int)
 | 0,_,_,_,_,_,_,_,_=>none
 | k+1,x2,x8,x9,x10,x11,x13,x14,x15=>if x9=0 then (none) else (ah.l1 k x2 x8 x9 x10 x14 x15 (IntKind.u64.wrap ((IntKind.u64.wrap ((IntKind.u64.wrap ((IntKind.u64.wrap (x11*4294967296))+x13)) - (IntKind.u64.wrap (x15*x2)))) - (IntKind.u64.wrap ((IntKind.u64.wrap (Int.tdiv (IntKind.u64.wrap ((IntKind.u64.wrap ((IntKind.u64.wrap (x11*4294967296))+x13)) - (IntKind.u64.wrap (x15*x2)))) x9))*x9)))) (IntKind.u64.wrap ((IntKind.u64.wrap ((IntKind.u64.wrap (x11*4294967296))+x13)) - (IntKind.u64.wrap (x15*x2)))) (IntKind.u64.wrap (Int.tdiv (IntKind.u64.wrap ((IntKind.u64.wrap ((IntKind.u64.wrap (x11*4294967296))+x13)) - (IntKind.u64.wrap (x15*x2)))) x9)))
def ah.l1:Nat→Int→Int→Int→Int→Int→Int→Int→Int→Int→Option (Int × Int)
 | 0,_,_,_,_,_,_,_,_,_=>none
 | k+1,x2,x8,x9,x10,x14,x15,x16,x17,x18=>if x18≥4294967296 then (ah.j4 k x2 x8 x9 x10 x14 x15 x16 x17 x18 true) else (ah.j4 k x2 x8 x9 x10 x14 x15 x16 x17 x18 (decide ((IntKind.u64.wrap (x18*x10))>(IntKind.u64.wrap ((IntKind.u64.wrap (4294967296*x16))+x14)))))
def ah.j4:Nat→Int→Int→Int→Int→Int→Int→Int→Int→Int→Bool→Option (Int × Int)
 | 0,_,_,_,_,_,_,_,_,_,_=>none
 | k+1,x2,x8,x9,x10,x14,x15,x16,x17,x18,x113=>if x113=true then (if (IntKind.u64.wrap (x16+x9))≥4294967296 then (if 0≤x8 then (some (IntKind.u64.wrap ((IntKind.u64.wrap (x15*4294967296))+(IntKind.u64.wrap (x18 - 1))),shr .u64 (IntKind.u64.wrap ((IntKind.u64.wrap ((IntKind.u64.wrap (x17*4294967296))+x14)) - (IntKind.u64.wrap ((IntKind.u64.wrap (x18 - 1))*x2)))) x8)) else (none)) else (ah.l1 k x2 x8 x9 x10 x14 x15 (IntKind.u64.wrap (x16+x9)) x17 (IntKind.u64.wrap (x18 - 1)))) else (if 0≤x8 then (some (IntKind.u64.wrap ((IntKind.u64.wrap (x15*4294967296))+x18),shr .u64 (IntKind.u64.wrap ((IntKind.u64.wrap ((IntKind.u64.wrap (x17*4294967296))+x14)) - (IntKind.u64.wrap (x18*x2)))) x8)) else (none))
def ah.l0:Nat→Int→Int→Int→Int→Int→Int→Int→Int→Int→Option (Int × Int)
 | 0,_,_,_,_,_,_,_,_,_=>none
 | k+1,x2,x8,x9,x10,x11,x13,x14,x15,x16=>if x15≥4294967296 then (ah.j1 k x2 x8 x9 x10 x11 x13 x14 x15 x16 true) else (ah.j1 k x2 x8 x9 x10 x11 x13 x14 x15 x16 (decide ((IntKind.u64.wrap (x15*x10))>(IntKind.u64.wrap ((IntKind.u64.wrap (4294967296*x16))+x13)))))
def ah.j1:Nat→Int→Int→Int→Int→Int→Int→Int→Int→Int→Bool→Option (Int × Int)
 | 0,_,_,_,_,_,_,_,_,_,_=>none
 | k+1,x2,x8,x9,x10,x11,x13,x14,x15,x16,x78=>if x78=true then (if (IntKind.u64.wrap (x16+x9))≥4294967296 then (ah.j2 k x2 x8 x9 x10 x11 x13 x14 (IntKind.u64.wrap (x15 - 1))) else (ah.l0 k x2 x8 x9 x10 x11 x13 x14 (IntKind.u64.wrap (x15 - 1)) (IntKind.u64.wrap (x16+x9)))) else (ah.j2 k x2 x8 x9 x10 x11 x13 x14 x15)
end
def ah.f (k:Nat) (a0 a1 a2:Int):Option (Int × Int):=if a2=0 then (none) else (if a2≤a0 then (none) else (if a0=0 then (some (IntKind.u64.wrap (Int.tdiv a1 a2),Int.tmod a1 a2)) else ((bits_LeadingZeros64.f a2).bind fun t174=>(if 0≤(IntKind.u64.wrap (t174)) then (if 0≤(IntKind.u64.wrap (64 - (IntKind.u64.wrap (t174)))) then (if ((shl .u64 a2 (IntKind.u64.wrap (t174))) / 4294967296)=0 then (none) else (ah.l0 k (shl .u64 a2 (IntKind.u64.wrap (t174))) (IntKind.u64.wrap (t174)) ((shl .u64 a2 (IntKind.u64.wrap (t174))) / 4294967296) (Go.bits .and .u64 (shl .u64 a2 (IntKind.u64.wrap (t174))) 4294967295) (Go.bits .or .u64 (shl .u64 a0 (IntKind.u64.wrap (t174))) (shr .u64 a1 (IntKind.u64.wrap (64 - (IntKind.u64.wrap (t174)))))) ((shl .u64 a1 (IntKind.u64.wrap (t174))) / 4294967296) (Go.bits .and .u64 (shl .u64 a1 (IntKind.u64.wrap (t174))) 4294967295) (IntKind.u64.wrap (Int.tdiv (Go.bits .or .u64 (shl .u64 a0 (IntKind.u64.wrap (t174))) (shr .u64 a1 (IntKind.u64.wrap (64 - (IntKind.u64.wrap (t174)))))) ((shl .u64 a2 (IntKind.u64.wrap (t174))) / 4294967296))) (IntKind.u64.wrap ((Go.bits .or .u64 (shl .u64 a0 (IntKind.u64.wrap (t174))) (shr .u64 a1 (IntKind.u64.wrap (64 - (IntKind.u64.wrap (t174)))))) - (IntKind.u64.wrap ((IntKind.u64.wrap (Int.tdiv (Go.bits .or .u64 (shl .u64 a0 (IntKind.u64.wrap (t174))) (shr .u64 a1 (IntKind.u64.wrap (64 - (IntKind.u64.wrap (t174)))))) ((shl .u64 a2 (IntKind.u64.wrap (t174))) / 4294967296)))*((shl .u64 a2 (IntKind.u64.wrap (t174))) / 4294967296))))))) else (none)) else (none)))))
set_option maxHeartbeats 8000000 in
set_option maxRecDepth 100000 in
theorem ah.calls (k:Nat) (a0 a1 a2 r1 r2:Int) (w:World) (h:ah.f k a0 a1 a2=some (r1,r2)) :
  Calls Try.prog 90 #[.int .u64 a0,.int .u64 a1,.int .u64 a2] w fun e w'=>e=.returned (.tuple #[.int .u64 r1,.int .u64 r2])∧aU w w':=by
 have H:=h
 unfold ah.f at H
 clear h
 by_cases c4:a2=0
 ·
  rw [if_pos c4] at H
  exact absurd H (by simp)
 rw [if_neg c4] at H
 have c4b0:(a2 == 0)=false:=beq_eq_false_iff_ne.mpr c4
 have c4b1:(a2 != 0)=true:=bne_iff_ne.mpr c4
 by_cases c5:a2≤a0
 ·
  rw [if_pos c5] at H
  exact absurd H (by simp)
 rw [if_neg c5] at H
 have c5b0:=decide_eq_false c5
 clear c5
 by_cases c6:a0=0
 ·
  rw [if_pos c6] at H
  have c6b0:(a0 == 0)=true:=beq_iff_eq.mpr c6
  have c6b1:(a0 != 0)=false:=bne_eq_false_iff_eq.mpr c6
  clear c6
  simp only [Option.some.injEq,Prod.mk.injEq] at H
  obtain ⟨rfl,rfl⟩:=H
  go_enter Try.func90,Try.ntmps90
  go_wp2
  repeat (go_quiet (fail);try go_wp2)
  go_ret2
  exact ⟨by first|rfl|(simp;done)|(simp [*];done),by repeat (first|exact aU.refl _|apply aU.step)⟩
 ·
  rw [if_neg c6] at H
  have c6b0:(a0 == 0)=false:=beq_eq_false_iff_ne.mpr c6
  have c6b1:(a0 != 0)=true:=bne_iff_ne.mpr c6
  replace H:=bS H
  obtain ⟨t174,A7,H⟩:=H
  try dsimp only at H
  obtain ⟨ji8,hji8⟩:∃ j_:Int,(IntKind.u64.wrap (t174))=j_:=⟨_,rfl⟩
  replace H:(if 0≤(ji8) then (if 0≤(IntKind.u64.wrap (64 - (ji8))) then (if ((shl .u64 a2 (ji8)) / 4294967296)=0 then (none) else (ah.l0 k (shl .u64 a2 (ji8)) ji8 ((shl .u64 a2 (ji8)) / 4294967296) (Go.bits .and .u64 (shl .u64 a2 (ji8)) 4294967295) (Go.bits .or .u64 (shl .u64 a0 (ji8)) (shr .u64 a1 (IntKind.u64.wrap (64 - (ji8))))) ((shl .u64 a1 (ji8)) / 4294967296) (Go.bits .and .u64 (shl .u64 a1 (ji8)) 4294967295) (IntKind.u64.wrap (Int.tdiv (Go.bits .or .u64 (shl .u64 a0 (ji8)) (shr .u64 a1 (IntKind.u64.wrap (64 - (ji8))))) ((shl .u64 a2 (ji8)) / 4294967296))) (IntKind.u64.wrap ((Go.bits .or .u64 (shl .u64 a0 (ji8)) (shr .u64 a1 (IntKind.u64.wrap (64 - (ji8))))) - (IntKind.u64.wrap ((IntKind.u64.wrap (Int.tdiv (Go.bits .or .u64 (shl .u64 a0 (ji8)) (shr .u64 a1 (IntKind.u64.wrap (64 - (ji8))))) ((shl .u64 a2 (ji8)) / 4294967296)))*((shl .u64 a2 (ji8)) / 4294967296))))))) else (none)) else (none))=some (r1,r2):=by first|(rw [hji8] at H;exact H)|(simp only [hji8] at H ⊢;exact H)
  (try rw [hji8] at A7)
  by_cases c9:0≤(ji8)
  rotate_left
  ·
   rw [if_neg c9] at H
   exact absurd H (by simp)
  rw [if_pos c9] at H
  have c9b0:=eq_true c9
  have c9b1:=decide_eq_true c9
  clear c9
  obtain ⟨ji10,hji10⟩:∃ j_:Int,(shl .u64 a2 (ji8))=j_:=⟨_,rfl⟩
  replace H:(if 0≤(IntKind.u64.wrap (64 - (ji8))) then (if ((ji10) / 4294967296)=0 then (none) else (ah.l0 k ji10 ji8 ((ji10) / 4294967296) (Go.bits .and .u64 (ji10) 4294967295) (Go.bits .or .u64 (shl .u64 a0 (ji8)) (shr .u64 a1 (IntKind.u64.wrap (64 - (ji8))))) ((shl .u64 a1 (ji8)) / 4294967296) (Go.bits .and .u64 (shl .u64 a1 (ji8)) 4294967295) (IntKind.u64.wrap (Int.tdiv (Go.bits .or .u64 (shl .u64 a0 (ji8)) (shr .u64 a1 (IntKind.u64.wrap (64 - (ji8))))) ((ji10) / 4294967296))) (IntKind.u64.wrap ((Go.bits .or .u64 (shl .u64 a0 (ji8)) (shr .u64 a1 (IntKind.u64.wrap (64 - (ji8))))) - (IntKind.u64.wrap ((IntKind.u64.wrap (Int.tdiv (Go.bits .or .u64 (shl .u64 a0 (ji8)) (shr .u64 a1 (IntKind.u64.wrap (64 - (ji8))))) ((ji10) / 4294967296)))*((ji10) / 4294967296))))))) else (none))=some (r1,r2):=by first|(rw [hji10] at H;exact H)|(simp only [hji10] at H ⊢;exact H)
  (try rw [hji10] at A7)
  have hji10_:(IntKind.u64.wrap (a2*2 ^ min (ji8).toNat 64))=ji10:=hji10
  have hji10z:(ji8)≤64→(IntKind.u64.wrap (a2*2 ^ (ji8).toNat))=ji10:=shl_small hji10
  have c11b0:=eq_true (dA:0≤(ji8))
  obtain ⟨ji12,hji12⟩:∃ j_:Int,(shl .u64 a0 (ji8))=j_:=⟨_,rfl⟩
  replace H:(if 0≤(IntKind.u64.wrap (64 - (ji8))) then (if ((ji10) / 4294967296)=0 then (none) else (ah.l0 k ji10 ji8 ((ji10) / 4294967296) (Go.bits .and .u64 (ji10) 4294967295) (Go.bits .or .u64 (ji12) (shr .u64 a1 (IntKind.u64.wrap (64 - (ji8))))) ((shl .u64 a1 (ji8)) / 4294967296) (Go.bits .and .u64 (shl .u64 a1 (ji8)) 4294967295) (IntKind.u64.wrap (Int.tdiv (Go.bits .or .u64 (ji12) (shr .u64 a1 (IntKind.u64.wrap (64 - (ji8))))) ((ji10) / 4294967296))) (IntKind.u64.wrap ((Go.bits .or .u64 (ji12) (shr .u64 a1 (IntKind.u64.wrap (64 - (ji8))))) - (IntKind.u64.wrap ((IntKind.u64.wrap (Int.tdiv (Go.bits .or .u64 (ji12) (shr .u64 a1 (IntKind.u64.wrap (64 - (ji8))))) ((ji10) / 4294967296)))*((ji10) / 4294967296))))))) else (none))=some (r1,r2):=by first|(rw [hji12] at H;exact H)|(simp only [hji12] at H ⊢;exact H)
  (try rw [hji12] at A7)
  have hji12_:(IntKind.u64.wrap (a0*2 ^ min (ji8).toNat 64))=ji12:=hji12
  have hji12z:(ji8)≤64→(IntKind.u64.wrap (a0*2 ^ (ji8).toNat))=ji12:=shl_small hji12
  obtain ⟨ji13,hji13⟩:∃ j_:Int,(IntKind.u64.wrap (64 - (ji8)))=j_:=⟨_,rfl⟩
  replace H:(if 0≤(ji13) then (if ((ji10) / 4294967296)=0 then (none) else (ah.l0 k ji10 ji8 ((ji10) / 4294967296) (Go.bits .and .u64 (ji10) 4294967295) (Go.bits .or .u64 (ji12) (shr .u64 a1 (ji13))) ((shl .u64 a1 (ji8)) / 4294967296) (Go.bits .and .u64 (shl .u64 a1 (ji8)) 4294967295) (IntKind.u64.wrap (Int.tdiv (Go.bits .or .u64 (ji12) (shr .u64 a1 (ji13))) ((ji10) / 4294967296))) (IntKind.u64.wrap ((Go.bits .or .u64 (ji12) (shr .u64 a1 (ji13))) - (IntKind.u64.wrap ((IntKind.u64.wrap (Int.tdiv (Go.bits .or .u64 (ji12) (shr .u64 a1 (ji13))) ((ji10) / 4294967296)))*((ji10) / 4294967296))))))) else (none))=some (r1,r2):=by first|(rw [hji13] at H;exact H)|(simp only [hji13] at H ⊢;exact H)
  (try rw [hji13] at A7)
  by_cases c14:0≤(ji13)
  rotate_left
  ·
   rw [if_neg c14] at H
   exact absurd H (by simp)
  rw [if_pos c14] at H
  have c14b0:=eq_true c14
  have c14b1:=decide_eq_true c14
  clear c14
  obtain ⟨ji15,hji15⟩:∃ j_:Int,(shr .u64 a1 (ji13))=j_:=⟨_,rfl⟩
  replace H:(if ((ji10) / 4294967296)=0 then (none) else (ah.l0 k ji10 ji8 ((ji10) / 4294967296) (Go.bits .and .u64 (ji10) 4294967295) (Go.bits .or .u64 (ji12) (ji15)) ((shl .u64 a1 (ji8)) / 4294967296) (Go.bits .and .u64 (shl .u64 a1 (ji8)) 4294967295) (IntKind.u64.wrap (Int.tdiv (Go.bits .or .u64 (ji12) (ji15)) ((ji10) / 4294967296))) (IntKind.u64.wrap ((Go.bits .or .u64 (ji12) (ji15)) - (IntKind.u64.wrap ((IntKind.u64.wrap (Int.tdiv (Go.bits .or .u64 (ji12) (ji15)) ((ji10) / 4294967296)))*((ji10) / 4294967296)))))))=some (r1,r2):=by first|(rw [hji15] at H;exact H)|(simp only [hji15] at H ⊢;exact H)
  (try rw [hji15] at A7)
  have hji15_:(a1 / 2 ^ min (ji13).toNat 64)=ji15:=hji15
  have hji15z:(ji13)≤64→(a1 / 2 ^ (ji13).toNat)=ji15:=shr_small hji15
  have c16b0:=eq_true (dA:0≤(ji8))
  obtain ⟨ji17,hji17⟩:∃ j_:Int,(shl .u64 a1 (ji8))=j_:=⟨_,rfl⟩
  replace H:(if ((ji10) / 4294967296)=0 then (none) else (ah.l0 k ji10 ji8 ((ji10) / 4294967296) (Go.bits .and .u64 (ji10) 4294967295) (Go.bits .or .u64 (ji12) (ji15)) ((ji17) / 4294967296) (Go.bits .and .u64 (ji17) 4294967295) (IntKind.u64.wrap (Int.tdiv (Go.bits .or .u64 (ji12) (ji15)) ((ji10) / 4294967296))) (IntKind.u64.wrap ((Go.bits .or .u64 (ji12) (ji15)) - (IntKind.u64.wrap ((IntKind.u64.wrap (Int.tdiv (Go.bits .or .u64 (ji12) (ji15)) ((ji10) / 4294967296)))*((ji10) / 4294967296)))))))=some (r1,r2):=by first|(rw [hji17] at H;exact H)|(simp only [hji17] at H ⊢;exact H)
  (try rw [hji17] at A7)
  have hji17_:(IntKind.u64.wrap (a1*2 ^ min (ji8).toNat 64))=ji17:=hji17
  have hji17z:(ji8)≤64→(IntKind.u64.wrap (a1*2 ^ (ji8).toNat))=ji17:=shl_small hji17
  by_cases c18:((ji10) / 4294967296)=0
  ·
   rw [if_pos c18] at H
   exact absurd H (by simp)
  rw [if_neg c18] at H
  have c18b0:(((ji10) / 4294967296) == 0)=false:=beq_eq_false_iff_ne.mpr c18
  have c18b1:(((ji10) / 4294967296) != 0)=true:=bne_iff_ne.mpr c18
  have HC19:=aA.mk H
  clear H
  go_enter Try.func90,Try.ntmps90
  go_upto_block 0 with (first|(go_at_call 92;(with_reducible refine (bits_LeadingZeros64.calls a2 t174 _ A7.out).mono ?_);rintro e w' ⟨rfl,⟨nd,rfl⟩⟩;(try exact dd)))
  repeat (go_quiet (first|(go_at_call 92;(with_reducible refine (bits_LeadingZeros64.calls a2 t174 _ A7.out).mono ?_);rintro e w' ⟨rfl,⟨nd,rfl⟩⟩;(try exact dd)));go_upto_block 0 with (first|(go_at_call 92;(with_reducible refine (bits_LeadingZeros64.calls a2 t174 _ A7.out).mono ?_);rintro e w' ⟨rfl,⟨nd,rfl⟩⟩;(try exact dd))))
  (try simp only [Act.put,List.setIfInBounds_toArray,List.set_cons_zero,List.set_cons_succ])
  go_cut [15] (fun v15 wc=>∃ (kq:Nat) (x15_18:Int),v15=.int .u64 x15_18∧aA (ah.j2 kq ji10 ji8 ((ji10) / 4294967296) (Go.bits .and .u64 (ji10) 4294967295) (Go.bits .or .u64 (ji12) (ji15)) ((ji17) / 4294967296) (Go.bits .and .u64 (ji17) 4294967295) x15_18=some (r1,r2))∧aA (kq≤k)∧aU w wc)
  case first=>
   have H:=HC19.out
   clear HC19
   have H':=aA.mk H
   clear H
   go_wp2
   repeat (go_quiet (fail);try go_wp2)
   go_loopg [15,16] k (fun kq v15 v16 w'=>∃ (x15_1:Int) (x16_1:Int),v15=.int .u64 x15_1∧v16=.int .u64 x16_1∧aA (ah.l0 kq ji10 ji8 ((ji10) / 4294967296) (Go.bits .and .u64 (ji10) 4294967295) (Go.bits .or .u64 (ji12) (ji15)) ((ji17) / 4294967296) (Go.bits .and .u64 (ji17) 4294967295) x15_1 x16_1=some (r1,r2))∧aA (kq≤k)∧aU w w')
   case atStart=>exact ⟨(IntKind.u64.wrap (Int.tdiv (Go.bits .or .u64 (ji12) (ji15)) ((ji10) / 4294967296))),(IntKind.u64.wrap ((Go.bits .or .u64 (ji12) (ji15)) - (IntKind.u64.wrap ((IntKind.u64.wrap (Int.tdiv (Go.bits .or .u64 (ji12) (ji15)) ((ji10) / 4294967296)))*((ji10) / 4294967296))))),(by first|rfl|(simp;done)|(simp only [← hji10,← hji12,← hji15] <;> (first|rfl|simp))|(simp [*];done)),(by first|rfl|(simp;done)|(simp only [← hji10,← hji12,← hji15] <;> (first|rfl|simp))|(simp [*];done)),H',⟨Nat.le_refl _⟩,by repeat (first|exact aU.refl _|apply aU.step)⟩
   case round=>
    clear H'
    try clear c4
    try clear c4b0
    try clear c4b1
    try clear c5
    try clear c5b0
    try clear c6
    try clear c6b0
    try clear c6b1
    try clear c9
    try clear c9b0
    try clear c9b1
    try clear c11b0
    try clear c14
    try clear c14b0
    try clear c14b1
    try clear c16b0
    try clear c18
    try clear c18b0
    try clear c18b1
    obtain ⟨x15_1,x16_1,rfl,rfl,HA,HK1,⟨m1,rfl⟩⟩:=hrel
    cases gk with
    | zero=>exact absurd HA.out (by simp [ah.l0])
    | succ k1=>
     have H:=HA.out
     clear HA
     simp only [ah.l0] at H
     have HC20:=aA.mk H
     clear H
     go_upto_region 17 with (fail)
     repeat (go_quiet (fail);go_upto_region 17 with (fail))
     go_cut [78] (fun v78 wc=>∃ (kq:Nat) (x78_19:Bool),v78=.bool x78_19∧aA (ah.j1 kq ji10 ji8 ((ji10) / 4294967296) (Go.bits .and .u64 (ji10) 4294967295) (Go.bits .or .u64 (ji12) (ji15)) ((ji17) / 4294967296) (Go.bits .and .u64 (ji17) 4294967295) x15_1 x16_1 x78_19=some (r1,r2))∧aA (kq≤k1)∧aU w wc)
     case first=>
      have H:=HC20.out
      clear HC20
      by_cases c21:x15_1≥4294967296
      ·
       rw [if_pos c21] at H
       have c21b0:decide (4294967296≤x15_1)=true:=decide_eq_true c21
       clear c21
       (first|rw [c21b0]|(simp only [cl,co];rw [c21b0])|skip)
       have H':=aA.mk H
       clear H
       go_wp2
       repeat (go_quiet (fail);try go_wp2)
       go_meet
       case rel=>exact ⟨_,(true),hB,H',⟨by have:=HK1.out;first|omega|exact Nat.le_refl _⟩,by repeat (first|exact aU.refl _|apply aU.step)⟩
      ·
       rw [if_neg c21] at H
       have c21b0:decide (4294967296≤x15_1)=false:=decide_eq_false c21
       clear c21
       (first|rw [c21b0]|(simp only [cl,co];rw [c21b0])|skip)
       have H':=aA.mk H
       clear H
       go_wp2
       repeat (go_quiet (fail);try go_wp2)
       go_meet
       case rel=>exact ⟨_,(decide ((IntKind.u64.wrap (x15_1*(Go.bits .and .u64 (ji10) 4294967295)))>(IntKind.u64.wrap ((IntKind.u64.wrap (4294967296*x16_1))+((ji17) / 4294967296))))),(by first|rfl|(simp;done)|(simp only [← hji10,← hji17] <;> (first|rfl|simp))|(simp [*];done)),H',⟨by have:=HK1.out;first|omega|exact Nat.le_refl _⟩,by repeat (first|exact aU.refl _|apply aU.step)⟩
     case rest=>
      clear HC20
      try clear c4
      try clear c4b0
      try clear c4b1
      try clear c5
      try clear c5b0
      try clear c6
      try clear c6b0
      try clear c6b1
      try clear c9
      try clear c9b0
      try clear c9b1
      try clear c11b0
      try clear c14
      try clear c14b0
      try clear c14b1
      try clear c16b0
      try clear c18
      try clear c18b0
      try clear c18b1
      try clear c21
      try clear c21b0
      obtain ⟨kq,x78_19,rfl,HA,HJ19,⟨mc19,rfl⟩⟩:=hcut
      cases kq with
      | zero=>exact absurd HA.out (by simp [ah.j1])
      | succ kj19=>
       have H:=HA.out
       clear HA
       simp only [ah.j1] at H
       by_cases c22:x78_19=true
       ·
        subst c22
        rw [if_pos rfl] at H
        try dsimp only at H
        by_cases c23:(IntKind.u64.wrap (x16_1+((ji10) / 4294967296)))≥4294967296
        ·
         rw [if_pos c23] at H
         have c23b0:decide (4294967296≤(IntKind.u64.wrap (x16_1+((ji10) / 4294967296))))=true:=decide_eq_true c23
         clear c23
         have H':=aA.mk H
         clear H
         go_wp2
         repeat (go_quiet (fail);try go_wp2)
         go_meet
         case rel=>exact ⟨_,(IntKind.u64.wrap (x15_1 - 1)),hB,H',⟨by have:=HK1.out;have:=HJ19.out;first|omega|exact Nat.le_refl _⟩,by repeat (first|exact aU.refl _|apply aU.step)⟩
        ·
         rw [if_neg c23] at H
         have c23b0:decide (4294967296≤(IntKind.u64.wrap (x16_1+((ji10) / 4294967296))))=false:=decide_eq_false c23
         clear c23
         have H':=aA.mk H
         clear H
         go_wp2
         repeat (go_quiet (fail);try go_wp2)
         go_roundg kj19
         case measure=>have:=HK1.out;have:=HJ19.out;omega
         case rel=>exact ⟨(IntKind.u64.wrap (x15_1 - 1)),(IntKind.u64.wrap (x16_1+((ji10) / 4294967296))),hB,(by first|rfl|(simp;done)|(simp only [← hji10] <;> (first|rfl|simp))|(simp [*];done)),H',⟨by have:=HK1.out;have:=HJ19.out;omega⟩,by repeat (first|exact aU.refl _|apply aU.step)⟩
       ·
        replace c22:=Bool.eq_false_iff.mpr c22
        subst c22
        rw [if_neg (show ¬ (false=true) by decide)] at H
        try dsimp only at H
        have H':=aA.mk H
        clear H
        go_wp2
        repeat (go_quiet (fail);try go_wp2)
        go_meet
        case rel=>exact ⟨_,(x15_1),hB,H',⟨by have:=HK1.out;have:=HJ19.out;first|omega|exact Nat.le_refl _⟩,by repeat (first|exact aU.refl _|apply aU.step)⟩
  case rest=>
   clear HC19
   try clear c4
   try clear c4b0
   try clear c4b1
   try clear c5
   try clear c5b0
   try clear c6
   try clear c6b0
   try clear c6b1
   try clear c9
   try clear c9b0
   try clear c9b1
   try clear c11b0
   try clear c14
   try clear c14b0
   try clear c14b1
   try clear c16b0
   try clear c18
   try clear c18b0
   try clear c18b1
   try clear c21
   try clear c21b0
   try clear c22
   try clear c23
   try clear c23b0
   obtain ⟨kq,x15_18,rfl,HA,HJ18,⟨mc18,rfl⟩⟩:=hcut
   cases kq with
   | zero=>exact absurd HA.out (by simp [ah.j2])
   | succ kj18=>
    have H:=HA.out
    clear HA
    simp only [ah.j2] at H
    by_cases c24:((ji10) / 4294967296)=0
    ·
     rw [if_pos c24] at H
     exact absurd H (by simp)
    rw [if_neg c24] at H
    have c24b0:(((ji10) / 4294967296) == 0)=false:=beq_eq_false_iff_ne.mpr c24
    have c24b1:(((ji10) / 4294967296) != 0)=true:=bne_iff_ne.mpr c24
    have H':=aA.mk H
    clear H
    go_wp2
    repeat (go_quiet (fail);try go_wp2)
    go_loopg [16,18] kj18 (fun kq v16 v18 w'=>∃ (x16_2:Int) (x18_2:Int),v16=.int .u64 x16_2∧v18=.int .u64 x18_2∧aA (ah.l1 kq ji10 ji8 ((ji10) / 4294967296) (Go.bits .and .u64 (ji10) 4294967295) (Go.bits .and .u64 (ji17) 4294967295) x15_18 x16_2 (IntKind.u64.wrap ((IntKind.u64.wrap ((IntKind.u64.wrap ((Go.bits .or .u64 (ji12) (ji15))*4294967296))+((ji17) / 4294967296))) - (IntKind.u64.wrap (x15_18*ji10)))) x18_2=some (r1,r2))∧aA (kq≤kj18)∧aU w w')
    case atStart=>exact ⟨(IntKind.u64.wrap ((IntKind.u64.wrap ((IntKind.u64.wrap ((IntKind.u64.wrap ((Go.bits .or .u64 (ji12) (ji15))*4294967296))+((ji17) / 4294967296))) - (IntKind.u64.wrap (x15_18*ji10)))) - (IntKind.u64.wrap ((IntKind.u64.wrap (Int.tdiv (IntKind.u64.wrap ((IntKind.u64.wrap ((IntKind.u64.wrap ((Go.bits .or .u64 (ji12) (ji15))*4294967296))+((ji17) / 4294967296))) - (IntKind.u64.wrap (x15_18*ji10)))) ((ji10) / 4294967296)))*((ji10) / 4294967296))))),(IntKind.u64.wrap (Int.tdiv (IntKind.u64.wrap ((IntKind.u64.wrap ((IntKind.u64.wrap ((Go.bits .or .u64 (ji12) (ji15))*4294967296))+((ji17) / 4294967296))) - (IntKind.u64.wrap (x15_18*ji10)))) ((ji10) / 4294967296))),(by first|rfl|(simp;done)|(simp only [← hji10,← hji12,← hji15,← hji17] <;> (first|rfl|simp))|(simp [*];done)),(by first|rfl|(simp;done)|(simp only [← hji10,← hji12,← hji15,← hji17] <;> (first|rfl|simp))|(simp [*];done)),H',⟨Nat.le_refl _⟩,by repeat (first|exact aU.refl _|apply aU.step)⟩
    case round=>
     clear H'
     try clear c4
     try clear c4b0
     try clear c4b1
     try clear c5
     try clear c5b0
     try clear c6
     try clear c6b0
     try clear c6b1
     try clear c9
     try clear c9b0
     try clear c9b1
     try clear c11b0
     try clear c14
     try clear c14b0
     try clear c14b1
     try clear c16b0
     try clear c18
     try clear c18b0
     try clear c18b1
     try clear c21
     try clear c21b0
     try clear c22
     try clear c23
     try clear c23b0
     try clear c24
     try clear c24b0
     try clear c24b1
     obtain ⟨x16_2,x18_2,rfl,rfl,HA,HK2,⟨m2,rfl⟩⟩:=hrel
     cases gk with
     | zero=>exact absurd HA.out (by simp [ah.l1])
     | succ k2=>
      have H:=HA.out
      clear HA
      simp only [ah.l1] at H
      have HC25:=aA.mk H
      clear H
      go_upto_region 24 with (fail)
      repeat (go_quiet (fail);go_upto_region 24 with (fail))
      go_cut [113] (fun v113 wc=>∃ (kq:Nat) (x113_24:Bool),v113=.bool x113_24∧aA (ah.j4 kq ji10 ji8 ((ji10) / 4294967296) (Go.bits .and .u64 (ji10) 4294967295) (Go.bits .and .u64 (ji17) 4294967295) x15_18 x16_2 (IntKind.u64.wrap ((IntKind.u64.wrap ((IntKind.u64.wrap ((Go.bits .or .u64 (ji12) (ji15))*4294967296))+((ji17) / 4294967296))) - (IntKind.u64.wrap (x15_18*ji10)))) x18_2 x113_24=some (r1,r2))∧aA (kq≤k2)∧aU w wc)
      case first=>
       have H:=HC25.out
       clear HC25
       by_cases c26:x18_2≥4294967296
       ·
        rw [if_pos c26] at H
        have c26b0:decide (4294967296≤x18_2)=true:=decide_eq_true c26
        clear c26
        (first|rw [c26b0]|(simp only [cl,co];rw [c26b0])|skip)
        have H':=aA.mk H
        clear H
        go_wp2
        repeat (go_quiet (fail);try go_wp2)
        go_meet
        case rel=>exact ⟨_,(true),hB,H',⟨by have:=HJ18.out;have:=HK2.out;first|omega|exact Nat.le_refl _⟩,by repeat (first|exact aU.refl _|apply aU.step)⟩
       ·
        rw [if_neg c26] at H
        have c26b0:decide (4294967296≤x18_2)=false:=decide_eq_false c26
        clear c26
        (first|rw [c26b0]|(simp only [cl,co];rw [c26b0])|skip)
        have H':=aA.mk H
        clear H
        go_wp2
        repeat (go_quiet (fail);try go_wp2)
        go_meet
        case rel=>exact ⟨_,(decide ((IntKind.u64.wrap (x18_2*(Go.bits .and .u64 (ji10) 4294967295)))>(IntKind.u64.wrap ((IntKind.u64.wrap (4294967296*x16_2))+(Go.bits .and .u64 (ji17) 4294967295))))),(by first|rfl|(simp;done)|(simp only [← hji10,← hji17] <;> (first|rfl|simp))|(simp [*];done)),H',⟨by have:=HJ18.out;have:=HK2.out;first|omega|exact Nat.le_refl _⟩,by repeat (first|exact aU.refl _|apply aU.step)⟩
      case rest=>
       clear HC25
       try clear c4
       try clear c4b0
       try clear c4b1
       try clear c5
       try clear c5b0
       try clear c6
       try clear c6b0
       try clear c6b1
       try clear c9
       try clear c9b0
       try clear c9b1
       try clear c11b0
       try clear c14
       try clear c14b0
       try clear c14b1
       try clear c16b0
       try clear c18
       try clear c18b0
       try clear c18b1
       try clear c21
       try clear c21b0
       try clear c22
       try clear c23
       try clear c23b0
       try clear c24
       try clear c24b0
       try clear c24b1
       try clear c26
       try clear c26b0
       obtain ⟨kq,x113_24,rfl,HA,HJ24,⟨mc24,rfl⟩⟩:=hcut
       cases kq with
       | zero=>exact absurd HA.out (by simp [ah.j4])
       | succ kj24=>
        have H:=HA.out
        clear HA
        simp only [ah.j4] at H
        by_cases c27:x113_24=true
        ·
         subst c27
         rw [if_pos rfl] at H
         try dsimp only at H
         by_cases c28:(IntKind.u64.wrap (x16_2+((ji10) / 4294967296)))≥4294967296
         ·
          rw [if_pos c28] at H
          have c28b0:decide (4294967296≤(IntKind.u64.wrap (x16_2+((ji10) / 4294967296))))=true:=decide_eq_true c28
          clear c28
          by_cases c29:0≤ji8
          rotate_left
          ·
           rw [if_neg c29] at H
           exact absurd H (by simp)
          rw [if_pos c29] at H
          have c29b0:=eq_true c29
          have c29b1:=decide_eq_true c29
          clear c29
          obtain ⟨ji30,hji30⟩:∃ j_:Int,(shr .u64 (IntKind.u64.wrap ((IntKind.u64.wrap ((IntKind.u64.wrap ((IntKind.u64.wrap ((IntKind.u64.wrap ((IntKind.u64.wrap ((Go.bits .or .u64 (ji12) (ji15))*4294967296))+((ji17) / 4294967296))) - (IntKind.u64.wrap (x15_18*ji10))))*4294967296))+(Go.bits .and .u64 (ji17) 4294967295))) - (IntKind.u64.wrap ((IntKind.u64.wrap (x18_2 - 1))*ji10)))) ji8)=j_:=⟨_,rfl⟩
          replace H:(some (IntKind.u64.wrap ((IntKind.u64.wrap (x15_18*4294967296))+(IntKind.u64.wrap (x18_2 - 1))),ji30))=some (r1,r2):=by first|(rw [hji30] at H;exact H)|(simp only [hji30] at H ⊢;exact H)
          have hji30_:((IntKind.u64.wrap ((IntKind.u64.wrap ((IntKind.u64.wrap ((IntKind.u64.wrap ((IntKind.u64.wrap ((IntKind.u64.wrap ((Go.bits .or .u64 (ji12) (ji15))*4294967296))+((ji17) / 4294967296))) - (IntKind.u64.wrap (x15_18*ji10))))*4294967296))+(Go.bits .and .u64 (ji17) 4294967295))) - (IntKind.u64.wrap ((IntKind.u64.wrap (x18_2 - 1))*ji10)))) / 2 ^ min ji8.toNat 64)=ji30:=hji30
          have hji30z:ji8≤64→((IntKind.u64.wrap ((IntKind.u64.wrap ((IntKind.u64.wrap ((IntKind.u64.wrap ((IntKind.u64.wrap ((IntKind.u64.wrap ((Go.bits .or .u64 (ji12) (ji15))*4294967296))+((ji17) / 4294967296))) - (IntKind.u64.wrap (x15_18*ji10))))*4294967296))+(Go.bits .and .u64 (ji17) 4294967295))) - (IntKind.u64.wrap ((IntKind.u64.wrap (x18_2 - 1))*ji10)))) / 2 ^ ji8.toNat)=ji30:=shr_small hji30
          simp only [Option.some.injEq,Prod.mk.injEq] at H
          obtain ⟨rfl,rfl⟩:=H
          go_wp2
          repeat (go_quiet (fail);try go_wp2)
          go_ret2
          exact ⟨by first|rfl|(simp;done)|(simp only [← hji8,← hji10,← hji12,← hji13,← hji15,← hji17,← hji30] <;> (first|rfl|simp))|(simp [*];done),by repeat (first|exact aU.refl _|apply aU.step)⟩
         ·
          rw [if_neg c28] at H
          have c28b0:decide (4294967296≤(IntKind.u64.wrap (x16_2+((ji10) / 4294967296))))=false:=decide_eq_false c28
          clear c28
          have H':=aA.mk H
          clear H
          go_wp2
          repeat (go_quiet (fail);try go_wp2)
          go_roundg kj24
          case measure=>have:=HJ18.out;have:=HK2.out;have:=HJ24.out;omega
          case rel=>exact ⟨(IntKind.u64.wrap (x16_2+((ji10) / 4294967296))),(IntKind.u64.wrap (x18_2 - 1)),(by first|rfl|(simp;done)|(simp only [← hji10] <;> (first|rfl|simp))|(simp [*];done)),hB,H',⟨by have:=HJ18.out;have:=HK2.out;have:=HJ24.out;omega⟩,by repeat (first|exact aU.refl _|apply aU.step)⟩
        ·
         replace c27:=Bool.eq_false_iff.mpr c27
         subst c27
         rw [if_neg (show ¬ (false=true) by decide)] at H
         try dsimp only at H
         by_cases c31:0≤ji8
         rotate_left
         ·
          rw [if_neg c31] at H
          exact absurd H (by simp)
         rw [if_pos c31] at H
         have c31b0:=eq_true c31
         have c31b1:=decide_eq_true c31
         clear c31
         obtain ⟨ji32,hji32⟩:∃ j_:Int,(shr .u64 (IntKind.u64.wrap ((IntKind.u64.wrap ((IntKind.u64.wrap ((IntKind.u64.wrap ((IntKind.u64.wrap ((IntKind.u64.wrap ((Go.bits .or .u64 (ji12) (ji15))*4294967296))+((ji17) / 4294967296))) - (IntKind.u64.wrap (x15_18*ji10))))*4294967296))+(Go.bits .and .u64 (ji17) 4294967295))) - (IntKind.u64.wrap (x18_2*ji10)))) ji8)=j_:=⟨_,rfl⟩
         replace H:(some (IntKind.u64.wrap ((IntKind.u64.wrap (x15_18*4294967296))+x18_2),ji32))=some (r1,r2):=by first|(rw [hji32] at H;exact H)|(simp only [hji32] at H ⊢;exact H)
         have hji32_:((IntKind.u64.wrap ((IntKind.u64.wrap ((IntKind.u64.wrap ((IntKind.u64.wrap ((IntKind.u64.wrap ((IntKind.u64.wrap ((Go.bits .or .u64 (ji12) (ji15))*4294967296))+((ji17) / 4294967296))) - (IntKind.u64.wrap (x15_18*ji10))))*4294967296))+(Go.bits .and .u64 (ji17) 4294967295))) - (IntKind.u64.wrap (x18_2*ji10)))) / 2 ^ min ji8.toNat 64)=ji32:=hji32
         have hji32z:ji8≤64→((IntKind.u64.wrap ((IntKind.u64.wrap ((IntKind.u64.wrap ((IntKind.u64.wrap ((IntKind.u64.wrap ((IntKind.u64.wrap ((Go.bits .or .u64 (ji12) (ji15))*4294967296))+((ji17) / 4294967296))) - (IntKind.u64.wrap (x15_18*ji10))))*4294967296))+(Go.bits .and .u64 (ji17) 4294967295))) - (IntKind.u64.wrap (x18_2*ji10)))) / 2 ^ ji8.toNat)=ji32:=shr_small hji32
         simp only [Option.some.injEq,Prod.mk.injEq] at H
         obtain ⟨rfl,rfl⟩:=H
         go_wp2
         repeat (go_quiet (fail);try go_wp2)
         go_ret2
         exact ⟨by first|rfl|(simp;done)|(simp only [← hji8,← hji10,← hji12,← hji13,← hji15,← hji17,← hji32] <;> (first|rfl|simp))|(simp [*];done),by repeat (first|exact aU.refl _|apply aU.step)⟩
def dN.f (k:Nat) (a0 a1:Int):Option (Int):=(aX.f k a0 a1).bind fun t181=>((ar.f k a0 t181).bind fun t182=>(if t182=0 then (none) else (some (wrap64 (Int.tdiv a1 t182)))))
set_option maxHeartbeats 8000000 in
set_option maxRecDepth 100000 in
theorem dN.calls (k:Nat) (a0 a1 r:Int) (w:World) (h:dN.f k a0 a1=some r) :
  Calls Try.prog 78 #[.int .i64 a0,.int .i64 a1] w fun e w'=>e=.returned (.int .i64 r)∧aU w w':=by
 have H:=h
 unfold dN.f at H
 clear h
 replace H:=bS H
 obtain ⟨t181,A3,H⟩:=H
 try dsimp only at H
 replace H:=bS H
 obtain ⟨t182,A4,H⟩:=H
 try dsimp only at H
 by_cases c5:t182=0
 ·
  rw [if_pos c5] at H
  exact absurd H (by simp)
 rw [if_neg c5] at H
 have c5b0:(t182 == 0)=false:=beq_eq_false_iff_ne.mpr c5
 have c5b1:(t182 != 0)=true:=bne_iff_ne.mpr c5
 obtain rfl:=Option.some.inj H
 go_enter Try.func78,Try.ntmps78
 go_wp2_with (first|((with_reducible refine gd 9 rfl ?_);refine gC (some 9) rfl Try.func54 (aX.calls (w:=_) (h:=A3.out)) ?_;rintro _ ⟨nd,rfl⟩)|((with_reducible refine gd 10 rfl ?_);refine gC (some 10) rfl Try.func76 (ar.calls (w:=_) (h:=A4.out)) ?_;rintro _ ⟨nd,rfl⟩))
 go_ret
 exact ⟨by first|rfl|(simp;done)|(simp [*];done),by repeat (first|exact aU.refl _|apply aU.step)⟩
def bw.l0:Nat→Int→Int→Int→Int→Int→Option (Int)
 | 0,_,_,_,_,_=>none
 | k+1,x1,x5,x6,x7,x8=>if x6=0 then ((cz.f x7 x1).bind fun t184=>(some t184)) else (bw.l0 k x1 x6 (wrap64 (x5 - (wrap64 ((wrap64 (Int.tdiv x5 x6))*x6)))) x8 (wrap64 (x7 - (wrap64 ((wrap64 (Int.tdiv x5 x6))*x8)))))
def bw.f (k:Nat) (a0 a1:Int):Option (Int):=(cz.f a0 a1).bind fun t183=>(bw.l0 k a1 t183 a1 1 0)
set_option maxHeartbeats 8000000 in
set_option maxRecDepth 100000 in
theorem bw.calls (k:Nat) (a0 a1 r:Int) (w:World) (h:bw.f k a0 a1=some r) :
  Calls Try.prog 79 #[.int .i64 a0,.int .i64 a1] w fun e w'=>e=.returned (.int .i64 r)∧aU w w':=by
 have H:=h
 unfold bw.f at H
 clear h
 replace H:=bS H
 obtain ⟨t183,A3,H⟩:=H
 try dsimp only at H
 have H':=aA.mk H
 clear H
 go_enter Try.func79,Try.ntmps79
 go_wp2_with (first|((with_reducible refine gd 12 rfl ?_);refine gC (some 12) rfl Try.func89 (cz.calls (w:=_) (h:=A3.out)) ?_;rintro _ ⟨nd,rfl⟩))
 go_loopg [5,6,7,8] k (fun kq v5 v6 v7 v8 w'=>∃ (x5_1:Int) (x6_1:Int) (x7_1:Int) (x8_1:Int),v5=.int .i64 x5_1∧v6=.int .i64 x6_1∧v7=.int .i64 x7_1∧v8=.int .i64 x8_1∧aA (bw.l0 kq a1 x5_1 x6_1 x7_1 x8_1=some r)∧aA (kq≤k)∧aU w w')
 case atStart=>exact ⟨(t183),(a1),(1),(0),hB,hB,hB,hB,H',⟨Nat.le_refl _⟩,by repeat (first|exact aU.refl _|apply aU.step)⟩
 case round=>
  clear H'
  obtain ⟨x5_1,x6_1,x7_1,x8_1,rfl,rfl,rfl,rfl,HA,HK1,⟨m1,rfl⟩⟩:=hrel
  cases gk with
  | zero=>exact absurd HA.out (by simp [bw.l0])
  | succ k1=>
   have H:=HA.out
   clear HA
   simp only [bw.l0] at H
   by_cases c4:x6_1=0
   ·
    rw [if_pos c4] at H
    have c4b0:(x6_1 == 0)=true:=beq_iff_eq.mpr c4
    have c4b1:(x6_1 != 0)=false:=bne_eq_false_iff_eq.mpr c4
    clear c4
    replace H:=bS H
    obtain ⟨t184,A5,H⟩:=H
    try dsimp only at H
    obtain rfl:=Option.some.inj H
    go_wp2_with (first|((with_reducible refine gd 33 rfl ?_);refine gC (some 33) rfl Try.func89 (cz.calls (w:=_) (h:=A5.out)) ?_;rintro _ ⟨nd,rfl⟩))
    go_ret
    exact ⟨by first|rfl|(simp;done)|(simp [*];done),by repeat (first|exact aU.refl _|apply aU.step)⟩
   ·
    rw [if_neg c4] at H
    have c4b0:(x6_1 == 0)=false:=beq_eq_false_iff_ne.mpr c4
    have c4b1:(x6_1 != 0)=true:=bne_iff_ne.mpr c4
    have H':=aA.mk H
    clear H
    go_wp2
    go_roundg k1
    case measure=>have:=HK1.out;omega
    case rel=>exact ⟨(x6_1),(wrap64 (x5_1 - (wrap64 ((wrap64 (Int.tdiv x5_1 x6_1))*x6_1)))),(x8_1),(wrap64 (x7_1 - (wrap64 ((wrap64 (Int.tdiv x5_1 x6_1))*x8_1)))),hB,hB,hB,hB,H',⟨by have:=HK1.out;omega⟩,by repeat (first|exact aU.refl _|apply aU.step)⟩
def dX.f (k:Nat) (a0 a1 a2:Int):Option (Int × Int × Int × Bool):=(bW.f a1).bind fun t186=>(if t186=true then ((ar.f k a0 (wrap64 (a1+6))).bind fun t187=>((cz.f a2 t187).bind fun t188=>((aX.f k a0 t188).bind fun t189=>((ar.f k a0 (wrap64 (6 - (mx (wrap64 (6 - t189)) 0)))).bind fun t190=>(if t190=0 then (none) else (some (a1,wrap64 (Int.tdiv t188 t190),mx (wrap64 (6 - t189)) 0,true))))))) else (some (0,0,0,false)))
set_option maxHeartbeats 8000000 in
set_option maxRecDepth 100000 in
theorem dX.calls (k:Nat) (a0 a1 a2 r1 r2 r3:Int) (r4:Bool) (w:World) (h:dX.f k a0 a1 a2=some (r1,r2,r3,r4)) :
  Calls Try.prog 80 #[.int .i64 a0,.int .i64 a1,.int .i64 a2] w fun e w'=>e=.returned (.tuple #[.agg #[.int .i64 r1,.int .i64 r2,.int .i64 r3],.bool r4])∧Below w.heap.size w w':=by
 have hu25:=Try.underlying25
 have HB:=aA.mk (Below.refl w.heap.size w)
 have H:=h
 unfold dX.f at H
 clear h
 replace H:=bS H
 obtain ⟨t186,A4,H⟩:=H
 try dsimp only at H
 by_cases c5:t186=true
 focus
  subst c5
  rw [if_pos rfl] at H
  try dsimp only at H
  replace H:=bS H
  obtain ⟨t187,A6,H⟩:=H
  try dsimp only at H
  replace H:=bS H
  obtain ⟨t188,A7,H⟩:=H
  try dsimp only at H
  replace H:=bS H
  obtain ⟨t189,A8,H⟩:=H
  try dsimp only at H
  obtain ⟨ji9,hji9⟩:∃ j_:Int,(mx (wrap64 (6 - t189)) 0)=j_:=⟨_,rfl⟩
  replace H:((ar.f k a0 (wrap64 (6 - (ji9)))).bind fun t190=>(if t190=0 then (none) else (some (a1,wrap64 (Int.tdiv t188 t190),ji9,true))))=some (r1,r2,r3,r4):=by first|(rw [hji9] at H;exact H)|(simp only [hji9] at H ⊢;exact H)
  (try rw [hji9] at A4)
  (try rw [hji9] at A6)
  (try rw [hji9] at A7)
  (try rw [hji9] at A8)
  (try (have hji9l:0≤ji9:=by (rw [← hji9];unfold mx;(repeat' split) <;> omega)))
  (try (have hji9m:0≤ji9:=by omega))
  have hji9_:(if (wrap64 (6 - t189))<0 then 0 else (wrap64 (6 - t189)))=ji9:=hji9
  replace H:=bS H
  obtain ⟨t190,A10,H⟩:=H
  try dsimp only at H
  by_cases c11:t190=0
  ·
   rw [if_pos c11] at H
   exact absurd H (by simp)
  rw [if_neg c11] at H
  have c11b0:(t190 == 0)=false:=beq_eq_false_iff_ne.mpr c11
  have c11b1:(t190 != 0)=true:=bne_iff_ne.mpr c11
  simp only [Option.some.injEq,Prod.mk.injEq] at H
  obtain ⟨rfl,rfl,rfl,rfl⟩:=H
 rotate_left
 focus
  replace c5:=Bool.eq_false_iff.mpr c5
  subst c5
  rw [if_neg (show ¬ (false=true) by decide)] at H
  try dsimp only at H
  simp only [Option.some.injEq,Prod.mk.injEq] at H
  obtain ⟨rfl,rfl,rfl,rfl⟩:=H
 rotate_left
 all_goals
  go_enter Try.func80,Try.ntmps80
  go_wp2_with (first|((with_reducible refine aH (N:=6) rfl ?_);refine bxE (cs:=#[.int .i64 0,.int .i64 0,.int .i64 0]) (t:=25) ?_;intro gb185 hg w12 hbox hb;have BK185:=aA.mk hbox;have GW185:=sA hg;have GE185:=sA hg;replace HB:=lB hb;clear hb hbox hg)|((with_reducible refine gd 10 rfl ?_);refine gC (some 10) rfl Try.func75 (bW.calls (w:=_) (h:=A4.out)) ?_;rintro _ ⟨nd,rfl⟩;(try (rw [cB w12];generalize hq_:World.drewN w12 _=w12;replace BK185:=aA.mk (by rw [← hq_];exact (bkA BK185));replace HB:=aA.mk (by rw [← hq_];exact blA);clear hq_));obtain ⟨hcz15_0,hcz15_1,hcz15_2,hfz15_0,hfz15_1,hfz15_2⟩:=cz3 BK185)|((with_reducible refine gd 17 rfl ?_);refine gC (some 17) rfl Try.func76 (ar.calls (w:=_) (h:=A6.out)) ?_;rintro _ ⟨nd,rfl⟩;(try (rw [cB w12];generalize hq_:World.drewN w12 _=w12;replace BK185:=aA.mk (by rw [← hq_];exact (bkA BK185));replace HB:=aA.mk (by rw [← hq_];exact blA);clear hq_)))|((with_reducible refine gd 18 rfl ?_);refine gC (some 18) rfl Try.func89 (cz.calls (w:=_) (h:=A7.out)) ?_;rintro _ ⟨nd,rfl⟩;(try (rw [cB w12];generalize hq_:World.drewN w12 _=w12;replace BK185:=aA.mk (by rw [← hq_];exact (bkA BK185));replace HB:=aA.mk (by rw [← hq_];exact blA);clear hq_)))|((with_reducible refine gd 21 rfl ?_);refine gC (some 21) rfl Try.func54 (aX.calls (w:=_) (h:=A8.out)) ?_;rintro _ ⟨nd,rfl⟩;(try (rw [cB w12];generalize hq_:World.drewN w12 _=w12;replace BK185:=aA.mk (by rw [← hq_];exact (bkA BK185));replace HB:=aA.mk (by rw [← hq_];exact blA);clear hq_)))|((with_reducible refine bK (f:=76) rfl ?_);refine goesL_ (some 29) rfl rfl Try.func76 (by kernel_rfl) rfl #[.int .i64 a0,.int .i64 (wrap64 (6 - (ji9)))] rfl (by (try simp only [List.map_toArray,List.map_cons,List.map_nil]);first|done|(simp only [hji9];rfl)|rfl|(simp only [List.length_drop,List.length_take];rfl)) ?_;(with_reducible refine (ar.calls k a0 (wrap64 (6 - (ji9))) t190 _ A10.out).mono ?_);rintro e w' ⟨rfl,⟨nd,rfl⟩⟩;refine ⟨_,rfl,?_⟩;(try (rw [cB w12];generalize hq_:World.drewN w12 _=w12;replace BK185:=aA.mk (by rw [← hq_];exact (bkA BK185));replace HB:=aA.mk (by rw [← hq_];exact blA);clear hq_));obtain ⟨hcz13_0,hcz13_1,hcz13_2,hfz13_0,hfz13_1,hfz13_2⟩:=cz3 BK185))
 ·
  refine bodyPost_ret (bC rfl _ _ gb185 25 #[.int .i64 a1,.int .i64 (wrap64 (Int.tdiv t188 t190)),.int .i64 ji9] (0,0) _ rfl (bpA BK185) Try.underlying25 rfl (by kernel_rfl)) rfl ?_
  exact ⟨by first|rfl|(simp [bB,bA] <;> rfl)|(simp only [← hji9];first|rfl|(simp [bB,bA] <;> rfl))|(simp [*,bB,bA] <;> rfl),blA⟩
 ·
  refine bodyPost_ret (bC rfl _ _ gb185 25 #[.int .i64 0,.int .i64 0,.int .i64 0] (0,0) _ rfl (bpA BK185) Try.underlying25 rfl (by kernel_rfl)) rfl ?_
  exact bU blA
def bv.l0:Nat→Int→List (S25)→Int→Option (Int)
 | 0,_,_,_=>none
 | k+1,x0,x1,x5=>if x5<(x1.length:Int) then (if 0≤x5 then ((cN.f k x0 ((an x1 x5).f0) ((an x1 x5).f1) ((an x1 x5).f2)).bind fun t109=>(if t109=true then (bv.l0 k x0 x1 (wrap64 (x5+1))) else (some 1))) else (none)) else (some 0)
def bv.f (k:Nat) (a0:Int) (l1:List (S25)):Option (Int):=(bV.f a0).bind fun t107=>(if t107=true then (bv.l0 k a0 l1 0) else (some 1))
set_option maxHeartbeats 8000000 in
set_option maxRecDepth 100000 in
theorem bv.calls (k:Nat) (a0:Int) (A1:Option Addr) (c1:Nat) (l1:List (S25)) (r:Int) (w:World) (hr1:Kd.C k25 w A1 l1.length l1) (hc1:l1.length≤c1) (h:bv.f k a0 l1=some r) :
  Calls Try.prog 66 #[.int .i64 a0,.slice A1 l1.length c1] w fun e w'=>e=.returned (.int .i64 r)∧Below w.heap.size w w':=by
 have hu25:=Try.underlying25
 have HR1:=aA.mk hr1
 have HC1:=aA.mk hc1
 clear hr1 hc1
 have HB:=aA.mk (Below.refl w.heap.size w)
 have H:=h
 unfold bv.f at H
 clear h
 replace H:=bS H
 obtain ⟨t107,A3,H⟩:=H
 try dsimp only at H
 by_cases c4:t107=true
 focus
  subst c4
  rw [if_pos rfl] at H
  try dsimp only at H
  have H':=aA.mk H
  clear H
 rotate_left
 focus
  replace c4:=Bool.eq_false_iff.mpr c4
  subst c4
  rw [if_neg (show ¬ (false=true) by decide)] at H
  try dsimp only at H
  obtain rfl:=Option.some.inj H
 rotate_left
 all_goals
  go_enter Try.func66,Try.ntmps66
  go_wp2_with (first|((with_reducible refine gd 7 rfl ?_);refine gC (some 7) rfl Try.func85 (bV.calls (w:=_) (h:=A3.out)) ?_;rintro _ ⟨nd,rfl⟩))
 ·
  go_loopg [5] k (fun kq v5 w'=>∃ (x5_1:Int),v5=.int .i64 x5_1∧aA (bv.l0 kq a0 l1 x5_1=some r)∧aA (kq≤k)∧aA (Below w.heap.size w w'))
  case atStart=>exact ⟨(0),hB,H',⟨Nat.le_refl _⟩,⟨blA⟩⟩
  case round=>
   clear H'
   try clear c1
   try clear c4
   obtain ⟨x5_1,rfl,HA,HK1,HB⟩:=hrel
   cases gk with
   | zero=>exact absurd HA.out (by simp [bv.l0])
   | succ k1=>
    have H:=HA.out
    clear HA
    simp only [bv.l0] at H
    by_cases c5:x5_1<(l1.length:Int)
    ·
     rw [if_pos c5] at H
     have c5b0:=decide_eq_true c5
     clear c5
     by_cases c6:0≤x5_1
     rotate_left
     ·
      rw [if_neg c6] at H
      exact absurd H (by simp)
     rw [if_pos c6] at H
     have c6b0:=decide_eq_true c6
     clear c6
     replace H:=bS H
     obtain ⟨t109,A7,H⟩:=H
     try dsimp only at H
     by_cases c8:t109=true
     focus
      subst c8
      rw [if_pos rfl] at H
      try dsimp only at H
      have H':=aA.mk H
      clear H
      have p108:0≤(x5_1:Int):=dA
      have q108:x5_1<(l1.length:Int):=dA
      obtain ⟨ad108,e108,hx108_0,hx108_1,hx108_2⟩:=eH HR1.out x5_1 p108 q108
      cases e108
      replace hx108_0:=(HB.out.cell (World.block_lt_of_cell? w _ hx108_0)).trans hx108_0
      replace hx108_1:=(HB.out.cell (World.block_lt_of_cell? w _ hx108_1)).trans hx108_1
      replace hx108_2:=(HB.out.cell (World.block_lt_of_cell? w _ hx108_2)).trans hx108_2
      replace p108:=eq_true p108
      replace q108:=eq_true q108
     rotate_left
     focus
      replace c8:=Bool.eq_false_iff.mpr c8
      subst c8
      rw [if_neg (show ¬ (false=true) by decide)] at H
      try dsimp only at H
      obtain rfl:=Option.some.inj H
      have p108:0≤(x5_1:Int):=dA
      have q108:x5_1<(l1.length:Int):=dA
      obtain ⟨ad108,e108,hx108_0,hx108_1,hx108_2⟩:=eH HR1.out x5_1 p108 q108
      cases e108
      replace hx108_0:=(HB.out.cell (World.block_lt_of_cell? w _ hx108_0)).trans hx108_0
      replace hx108_1:=(HB.out.cell (World.block_lt_of_cell? w _ hx108_1)).trans hx108_1
      replace hx108_2:=(HB.out.cell (World.block_lt_of_cell? w _ hx108_2)).trans hx108_2
      replace p108:=eq_true p108
      replace q108:=eq_true q108
     rotate_left
     all_goals
      go_wp2_with (first|((with_reducible refine gd 20 rfl ?_);refine gC (some 20) rfl Try.func86 (cN.calls (w:=_) (h:=A7.out)) ?_;intro w9 hb;replace HB:=lB hb;clear hb))
     ·
      go_roundg k1
      case measure=>have:=HK1.out;omega
      case rel=>exact ⟨(wrap64 (x5_1+1)),hB,H',⟨by have:=HK1.out;omega⟩,⟨blA⟩⟩
     ·
      go_ret
      exact bU blA
    ·
     rw [if_neg c5] at H
     have c5b0:=decide_eq_false c5
     clear c5
     obtain rfl:=Option.some.inj H
     go_wp2
     go_ret
     exact bU blA
 ·
  go_ret
  exact bU blA
def bL.l0:Nat→List (S28)→Int→Int→Option (Bool)
 | 0,_,_,_=>none
 | k+1,x5,x6,x7=>if x7<x6 then (if 0≤x7 then (if x7<(x5.length:Int) then ((cj.f k ((am x5 x7).f0) ((am x5 x7).f1)).bind fun t152=>(if t152=true then (bL.l0 k x5 x6 (wrap64 (x7+1))) else (some false))) else (none)) else (none)) else (some true)
def bL.f (k:Nat) (l0:List (S28)):Option (Bool):=bL.l0 k l0 (l0.length:Int) 0
set_option maxHeartbeats 8000000 in
set_option maxRecDepth 100000 in
theorem bL.calls (k:Nat) (A0:Option Addr) (c0:Nat) (l0:List (S28)) (r:Bool) (w:World) (hr0:Kd.C k28 w A0 l0.length l0) (hc0:l0.length≤c0) (h:bL.f k l0=some r) :
  Calls Try.prog 32 #[.slice A0 l0.length c0] w fun e w'=>e=.returned (.bool r)∧Below w.heap.size w w':=by
 have hu28:=Try.underlying28
 have HR0:=aA.mk hr0
 have HC0:=aA.mk hc0
 clear hr0 hc0
 have HB:=aA.mk (Below.refl w.heap.size w)
 have H:=h
 unfold bL.f at H
 clear h
 have H':=aA.mk H
 clear H
 go_enter Try.func32,Try.ntmps32
 go_wp2
 go_loopg [7] k (fun kq v7 w'=>∃ (x7_1:Int),v7=.int .i64 x7_1∧aA (bL.l0 kq l0 (l0.length:Int) x7_1=some r)∧aA (kq≤k)∧aA (Below w.heap.size w w'))
 case atStart=>exact ⟨(0),hB,H',⟨Nat.le_refl _⟩,⟨blA⟩⟩
 case round=>
  clear H'
  obtain ⟨x7_1,rfl,HA,HK1,HB⟩:=hrel
  cases gk with
  | zero=>exact absurd HA.out (by simp [bL.l0])
  | succ k1=>
   have H:=HA.out
   clear HA
   simp only [bL.l0] at H
   by_cases c2:x7_1<(l0.length:Int)
   ·
    rw [if_pos c2] at H
    have c2b0:=decide_eq_true c2
    clear c2
    by_cases c3:0≤x7_1
    rotate_left
    ·
     rw [if_neg c3] at H
     exact absurd H (by simp)
    rw [if_pos c3] at H
    have c3b0:=decide_eq_true c3
    clear c3
    by_cases c4:x7_1<(l0.length:Int)
    rotate_left
    ·
     rw [if_neg c4] at H
     exact absurd H (by simp)
    rw [if_pos c4] at H
    have c4b0:=decide_eq_true c4
    clear c4
    replace H:=bS H
    obtain ⟨t152,A5,H⟩:=H
    try dsimp only at H
    by_cases c6:t152=true
    focus
     subst c6
     rw [if_pos rfl] at H
     try dsimp only at H
     have H':=aA.mk H
     clear H
     have p150:0≤(x7_1:Int):=dA
     have q150:x7_1<(l0.length:Int):=dA
     obtain ⟨ad150,e150,hx150_0,hx150_1⟩:=eG HR0.out x7_1 p150 q150
     cases e150
     replace hx150_0:=(HB.out.cell (World.block_lt_of_cell? w _ hx150_0)).trans hx150_0
     replace hx150_1:=(HB.out.cell (World.block_lt_of_cell? w _ hx150_1)).trans hx150_1
     replace p150:=eq_true p150
     replace q150:=eq_true q150
    rotate_left
    focus
     replace c6:=Bool.eq_false_iff.mpr c6
     subst c6
     rw [if_neg (show ¬ (false=true) by decide)] at H
     try dsimp only at H
     obtain rfl:=Option.some.inj H
     have p150:0≤(x7_1:Int):=dA
     have q150:x7_1<(l0.length:Int):=dA
     obtain ⟨ad150,e150,hx150_0,hx150_1⟩:=eG HR0.out x7_1 p150 q150
     cases e150
     replace hx150_0:=(HB.out.cell (World.block_lt_of_cell? w _ hx150_0)).trans hx150_0
     replace hx150_1:=(HB.out.cell (World.block_lt_of_cell? w _ hx150_1)).trans hx150_1
     replace p150:=eq_true p150
     replace q150:=eq_true q150
    rotate_left
    all_goals
     go_wp2_with (first|((with_reducible refine aH (N:=4) rfl ?_);refine bxE (cs:=#[.int .i64 0,.int .i64 0]) (t:=28) ?_;intro gb151 hg w7 hbox hb;have BK151:=aA.mk hbox;have GW151:=sA hg;have GE151:=sA hg;replace HB:=lB hb;clear hb hbox hg;obtain ⟨hcz8_0,hcz8_1,hfz8_0,hfz8_1⟩:=cz2 BK151)|((with_reducible refine gd 12 rfl ?_);refine gC (some 12) rfl Try.func72 (cj.calls (w:=_) (h:=A5.out)) ?_;intro w9 hb;replace BK151:=aA.mk (aE (g:=gb151) (o:=.cells #[.int .i64 ((am l0 x7_1).f0),.int .i64 ((am l0 x7_1).f1)] 28 (0,0)) (bpA BK151) hb);replace HB:=lB hb;clear hb))
    ·
     go_roundg k1
     case measure=>have:=HK1.out;omega
     case rel=>exact ⟨(wrap64 (x7_1+1)),hB,H',⟨by have:=HK1.out;omega⟩,⟨blA⟩⟩
    ·
     go_ret
     exact bU blA
   ·
    rw [if_neg c2] at H
    have c2b0:=decide_eq_false c2
    clear c2
    obtain rfl:=Option.some.inj H
    go_wp2
    go_ret
    exact bU blA
def cy.f (k:Nat) (a0 a1 a2:Int):Option (Int):=(cz.f a0 a2).bind fun t175=>((cz.f a1 a2).bind fun t176=>((bits_Mul64.f (IntKind.u64.wrap (t175)) (IntKind.u64.wrap (t176))).bind fun bt177=>(if (IntKind.u64.wrap (a2))=0 then (none) else ((ah.f k (Int.tmod bt177.1 (IntKind.u64.wrap (a2))) bt177.2 (IntKind.u64.wrap (a2))).bind fun bt179=>(some (wrap64 (bt179.2)))))))
set_option maxHeartbeats 8000000 in
set_option maxRecDepth 100000 in
theorem cy.calls (k:Nat) (a0 a1 a2 r:Int) (w:World) (h:cy.f k a0 a1 a2=some r) :
  Calls Try.prog 77 #[.int .i64 a0,.int .i64 a1,.int .i64 a2] w fun e w'=>e=.returned (.int .i64 r)∧aU w w':=by
 have H:=h
 unfold cy.f at H
 clear h
 replace H:=bS H
 obtain ⟨t175,A4,H⟩:=H
 try dsimp only at H
 replace H:=bS H
 obtain ⟨t176,A5,H⟩:=H
 try dsimp only at H
 replace H:=bS H
 obtain ⟨⟨t177,t178⟩,A6,H⟩:=H
 try dsimp only at H
 by_cases c7:(IntKind.u64.wrap (a2))=0
 ·
  rw [if_pos c7] at H
  exact absurd H (by simp)
 rw [if_neg c7] at H
 have c7b0:((IntKind.u64.wrap (a2)) == 0)=false:=beq_eq_false_iff_ne.mpr c7
 have c7b1:((IntKind.u64.wrap (a2)) != 0)=true:=bne_iff_ne.mpr c7
 replace H:=bS H
 obtain ⟨⟨t179,t180⟩,A8,H⟩:=H
 try dsimp only at H
 obtain rfl:=Option.some.inj H
 go_enter Try.func77,Try.ntmps77
 go_wp2_with (first|((with_reducible refine gd 14 rfl ?_);refine gC (some 14) rfl Try.func89 (cz.calls (w:=_) (h:=A4.out)) ?_;rintro _ ⟨nd,rfl⟩)|((with_reducible refine gd 18 rfl ?_);refine gC (some 18) rfl Try.func89 (cz.calls (w:=_) (h:=A5.out)) ?_;rintro _ ⟨nd,rfl⟩)|((with_reducible refine gd 20 rfl ?_);refine gC (some 20) rfl Try.func88 (bits_Mul64.calls (w:=_) (h:=A6.out)) ?_;rintro _ ⟨nd,rfl⟩)|((with_reducible refine gd 31 rfl ?_);refine gC (some 31) rfl Try.func90 (ah.calls (w:=_) (h:=A8.out)) ?_;rintro _ ⟨nd,rfl⟩))
 go_ret
 exact ⟨by first|rfl|(simp;done)|(simp [*];done),by repeat (first|exact aU.refl _|apply aU.step)⟩
end Go.Proofs.Ytpihnmmoahplgaa.PAll
