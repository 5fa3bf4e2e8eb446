import Derived.Test.YtnhiehpbkimaeaaGreatQx
import Derived.Test.YtnhiehpbkimaeaaGreatQcmpisNaNint64
namespace Go.Proofs.YtnhiehpbkimaeaaGreat.PAll
open Go.RowKit Go.Proofs.YtnhiehpbkimaeaaGreatW.PrintWords Go.Proofs.YtnhiehpbkimaeaaGreatW.PrintLast Go.Proofs.YtnhiehpbkimaeaaGreatW.PrintMore
attribute [local go_sem] Go.Proofs.YtnhiehpbkimaeaaGreat.Aux.setCell_drewN Go.Proofs.YtnhiehpbkimaeaaGreat.Aux.isSome_setCell cC b9 cQ cP bm bl cB b8
set_option linter.unusedVariables false
set_option linter.unusedSimpArgs false
mutual
def az.l0:Nat→List (List (S43))→Int→List (List (S43))→Int→Int→Option ((List (S43)))
 | 0,_,_,_,_,_=>none
 | k+1,x0,x3,x9,x10,x11=>if x11<x10 then (if 0≤x11 then (if x11<(x9.length:Int) then (if (wrap64 (x3+((ax x9 x11).length:Int)))<0 then (none) else (az.l0 k x0 (wrap64 (x3+((ax x9 x11).length:Int))) x9 x10 (wrap64 (x11+1)))) else (none)) else (none)) else ((cW.f 0 x3).bind fun t434=>(az.l1 k t434 x0 (x0.length:Int) 0))
def az.l1:Nat→List (S43)→List (List (S43))→Int→Int→Option ((List (S43)))
 | 0,_,_,_,_=>none
 | k+1,x6,x25,x26,x27=>if x27<x26 then (if 0≤x27 then (if x27<(x25.length:Int) then (if x6.length+(ax x25 x27).length<5864062014805 then (az.l1 k (x6 ++ (ax x25 x27)) x25 x26 (wrap64 (x27+1))) else (none)) else (none)) else (none)) else (some x6)
end
def az.f (k:Nat) (l0:List (List (S43))):Option ((List (S43))):=az.l0 k l0 0 l0 (l0.length:Int) 0
set_option maxHeartbeats 8000000 in
set_option maxRecDepth 100000 in
theorem az.calls (k:Nat) (A0:Option Addr) (c0:Nat) (l0:List (List (S43))) (r:List (S43)) (w:World) (hr0:Kd.C (Kd.slice 43 k43) w A0 l0.length l0) (hc0:l0.length≤c0) (h:az.f k l0=some r) :
  Calls Tryz.prog 72 #[.slice A0 l0.length c0] w fun e w'=>∃ v0_:Value,e=.returned (v0_)∧Kd.R k43 43 w' w.heap.size (fun _=>True) v0_ r∧Below w.heap.size w w':=by
 have HR0:=aA.mk hr0
 have HC0:=aA.mk hc0
 clear hr0 hc0
 have HB:=aA.mk (Below.refl w.heap.size w)
 have H:=h
 unfold az.f at H
 clear h
 have H':=aA.mk H
 clear H
 go_enter Tryz.func72,Tryz.ntmps72
 go_wp2
 go_loopg [3,11] k (fun kq v3 v11 w'=>∃ (x3_1:Int) (x11_1:Int),v3=.int .i64 x3_1∧v11=.int .i64 x11_1∧aA (az.l0 kq l0 x3_1 l0 (l0.length:Int) x11_1=some r)∧aA (kq≤k)∧aA (Below w.heap.size w w'))
 case atStart=>exact ⟨(0),(0),hB,hB,H',⟨Nat.le_refl _⟩,⟨blA⟩⟩
 case round=>
  clear H'
  obtain ⟨x3_1,x11_1,rfl,rfl,HA,HK1,HB⟩:=hrel
  cases gk with
  | zero=>exact absurd HA.out (by simp [az.l0])
  | succ k1=>
   have H:=HA.out
   clear HA
   simp only [az.l0] at H
   by_cases c2:x11_1<(l0.length:Int)
   ·
    rw [if_pos c2] at H
    have c2b0:=decide_eq_true c2
    clear c2
    by_cases c3:0≤x11_1
    rotate_left
    ·
     rw [if_neg c3] at H
     exact absurd H (by simp)
    rw [if_pos c3] at H
    have c3b0:=decide_eq_true c3
    clear c3
    by_cases c4:x11_1<(l0.length:Int)
    rotate_left
    ·
     rw [if_neg c4] at H
     exact absurd H (by simp)
    rw [if_pos c4] at H
    have c4b0:=decide_eq_true c4
    clear c4
    by_cases c5:(wrap64 (x3_1+((ax l0 x11_1).length:Int)))<0
    ·
     rw [if_pos c5] at H
     exact absurd H (by simp)
    rw [if_neg c5] at H
    have c5b0:=decide_eq_false c5
    clear c5
    have H':=aA.mk H
    clear H
    have p433:0≤(x11_1:Int):=dA
    have q433:x11_1<(l0.length:Int):=dA
    obtain ⟨ad433,A433_0,c433_0,e433,hx433_0,hl433_0,hi433_0⟩:=at_L8 HR0.out x11_1 p433 q433
    cases e433
    replace hx433_0:=(HB.out.cell (World.block_lt_of_cell? w _ hx433_0)).trans hx433_0
    have HR433_0:=aA.mk hi433_0
    have HC433_0:=aA.mk hl433_0
    clear hi433_0 hl433_0
    replace p433:=eq_true p433
    replace q433:=eq_true q433
    go_wp2
    go_roundg k1
    case measure=>have:=HK1.out;omega
    case rel=>exact ⟨(wrap64 (x3_1+((ax l0 x11_1).length:Int))),(wrap64 (x11_1+1)),hB,hB,H',⟨by have:=HK1.out;omega⟩,⟨blA⟩⟩
   ·
    rw [if_neg c2] at H
    have c2b0:=decide_eq_false c2
    clear c2
    replace H:=bS H
    obtain ⟨t434,A6,H⟩:=H
    try dsimp only at H
    have H':=aA.mk H
    clear H
    go_wp2_with (first|((with_reducible refine a6 (f:=99) rfl ?_);refine gL (some 24) rfl Tryz.func99 #[.slice none 0 0,.int .i64 x3_1] ?_;(with_reducible refine (cW.calls 0 x3_1 t434 _ A6.out).mono ?_);rintro e w7 ⟨v435,rfl,ho0,hb⟩;refine ⟨_,rfl,?_⟩;have HO436:=aA.mk (Kd.R_lower ho0 (aQ blA));replace HB:=lB hb;clear ho0 hb))
    go_loopg [6,27] k1 (fun kq v6 v27 w'=>∃ (x6_2:List (S43)) (x27_2:Int),v27=.int .i64 x27_2∧aA (az.l1 kq x6_2 l0 (l0.length:Int) x27_2=some r)∧aA (kq≤k1)∧aA (Kd.R k43 43 w' w.heap.size (fun _=>True) v6 x6_2)∧aA (Below w.heap.size w w'))
    case atStart=>exact ⟨(t434),(0),hB,H',⟨Nat.le_refl _⟩,⟨rA HO436⟩,⟨blA⟩⟩
    case round=>
     clear H'
     try clear c2
     try clear c2b0
     try clear c3
     try clear c3b0
     try clear c4
     try clear c4b0
     try clear c5
     try clear c5b0
     try clear hx433_0
     try clear p433
     try clear q433
     obtain ⟨x6_2,x27_2,rfl,HA,HK2,HO_6,HB⟩:=hrel
     cases gk with
     | zero=>exact absurd HA.out (by simp [az.l1])
     | succ k2=>
      have H:=HA.out
      clear HA
      simp only [az.l1] at H
      by_cases c8:x27_2<(l0.length:Int)
      ·
       rw [if_pos c8] at H
       have c8b0:=decide_eq_true c8
       clear c8
       by_cases c9:0≤x27_2
       rotate_left
       ·
        rw [if_neg c9] at H
        exact absurd H (by simp)
       rw [if_pos c9] at H
       have c9b0:=decide_eq_true c9
       clear c9
       by_cases c10:x27_2<(l0.length:Int)
       rotate_left
       ·
        rw [if_neg c10] at H
        exact absurd H (by simp)
       rw [if_pos c10] at H
       have c10b0:=decide_eq_true c10
       clear c10
       by_cases c11:x6_2.length+(ax l0 x27_2).length<5864062014805
       rotate_left
       ·
        rw [if_neg c11] at H
        exact absurd H (by simp)
       rw [if_pos c11] at H
       have LMc11:=aA.mk c11
       clear c11
       obtain ⟨y438,hy438⟩:∃ y_:List (S43),y_=(x6_2 ++ (ax l0 x27_2)):=⟨_,rfl⟩
       replace H:(az.l1 k2 y438 l0 (l0.length:Int) (wrap64 (x27_2+1)))=some r:=rH hy438 H
       have Ny438:=aA.mk hy438
       clear hy438
       have H':=aA.mk H
       clear H
       have p437:0≤(x27_2:Int):=dA
       have q437:x27_2<(l0.length:Int):=dA
       obtain ⟨ad437,A437_0,c437_0,e437,hx437_0,hl437_0,hi437_0⟩:=at_L8 HR0.out x27_2 p437 q437
       cases e437
       replace hx437_0:=(HB.out.cell (World.block_lt_of_cell? w _ hx437_0)).trans hx437_0
       have HR437_0:=aA.mk hi437_0
       have HC437_0:=aA.mk hl437_0
       clear hi437_0 hl437_0
       replace p437:=eq_true p437
       replace q437:=eq_true q437
       go_wp2_with (first|((with_reducible refine bY (b:=.append) (xs:=#[.tmp 31,.tmp 32]) rfl ?_);at_builtin;refine Kd.R_append_rows k43 (w0:=w) w.heap.size rfl (.tmp 31) (.tmp 32) 38 43 (.agg #[(.int .i64 0),(.int .i64 0),(.int .i64 0)]) 24 rfl Tryz.underlying38 eE rfl (by decide) (by omega) u6 x6_2 (ax l0 x27_2) _ _ _ (fun _=>True) (fun _=>False) rfl rfl ?aO ?aR (fun _ _ h=>h) (fun _ h=>h.elim) ?aF ?aB ?aS ?aL ?_;(case aR=>exact cR (Kd.C_below HR437_0.out HB.out));(case aB=>exact blA);(case aF=>exact (fun _ _=>trivial));(case aO=>exact (rA HO_6));(case aS=>exact (aQ blA));(case aL=>have:=LMc11.out;omega);intro v439 w12 ho hb hg hat;rw [← Ny438.out] at ho;have HO440:=aA.mk ho;replace HB:=aA.mk hb;clear HO_6;clear ho hb hg hat))
       go_roundg k2
       case measure=>have:=HK1.out;have:=HK2.out;omega
       case rel=>exact ⟨(y438),(wrap64 (x27_2+1)),hB,H',⟨by have:=HK1.out;have:=HK2.out;omega⟩,⟨rA HO440⟩,⟨blA⟩⟩
      ·
       rw [if_neg c8] at H
       have c8b0:=decide_eq_false c8
       clear c8
       obtain rfl:=Option.some.inj H
       go_wp2
       go_ret
       exact ⟨_,eW,rA HO_6,blA⟩
mutual
def aX.j2:Nat→Int→Int→Int→Int→Int→Int→Int→Int→Option (Int × Int)
 | 0,_,_,_,_,_,_,_,_=>none
 | k+1,x2,x8,x9,x10,x11,x13,x14,x15=>if x9=0 then (none) else (aX.l1 k x2 x8 x9 x10 x14 x15 (IntKind.u64.wrap ((IntKind.u64.wrap ((IntKind.u64.wrap ((IntKind.u64.wrap (x11*4294967296))+x13)) - (IntKind.u64.wrap (x15*x2)))) - (IntKind.u64.wrap ((IntKind.u64.wrap (Int.tdiv (IntKind.u64.wrap ((IntKind.u64.wrap ((IntKind.u64.wrap (x11*4294967296))+x13)) - (IntKind.u64.wrap (x15*x2)))) x9))*x9)))) (IntKind.u64.wrap ((IntKind.u64.wrap ((IntKind.u64.wrap (x11*4294967296))+x13)) - (IntKind.u64.wrap (x15*x2)))) (IntKind.u64.wrap (Int.tdiv (IntKind.u64.wrap ((IntKind.u64.wrap ((IntKind.u64.wrap (x11*4294967296))+x13)) - (IntKind.u64.wrap (x15*x2)))) x9)))
def aX.l1:Nat→Int→Int→Int→Int→Int→Int→Int→Int→Int→Option (Int × Int)
 | 0,_,_,_,_,_,_,_,_,_=>none
 | k+1,x2,x8,x9,x10,x14,x15,x16,x17,x18=>if x18≥4294967296 then (aX.j4 k x2 x8 x9 x10 x14 x15 x16 x17 x18 true) else (aX.j4 k x2 x8 x9 x10 x14 x15 x16 x17 x18 (decide ((IntKind.u64.wrap (x18*x10))>(IntKind.u64.wrap ((IntKind.u64.wrap (4294967296*x16))+x14)))))
def aX.j4:Nat→Int→Int→Int→Int→Int→Int→Int→Int→Int→Bool→Option (Int × Int)
 | 0,_,_,_,_,_,_,_,_,_,_=>none
 | k+1,x2,x8,x9,x10,x14,x15,x16,x17,x18,x113=>if x113=true then (if (IntKind.u64.wrap (x16+x9))≥4294967296 then (if 0≤x8 then (some (IntKind.u64.wrap ((IntKind.u64.wrap (x15*4294967296))+(IntKind.u64.wrap (x18 - 1))),shr .u64 (IntKind.u64.wrap ((IntKind.u64.wrap ((IntKind.u64.wrap (x17*4294967296))+x14)) - (IntKind.u64.wrap ((IntKind.u64.wrap (x18 - 1))*x2)))) x8)) else (none)) else (aX.l1 k x2 x8 x9 x10 x14 x15 (IntKind.u64.wrap (x16+x9)) x17 (IntKind.u64.wrap (x18 - 1)))) else (if 0≤x8 then (some (IntKind.u64.wrap ((IntKind.u64.wrap (x15*4294967296))+x18),shr .u64 (IntKind.u64.wrap ((IntKind.u64.wrap ((IntKind.u64.wrap (x17*4294967296))+x14)) - (IntKind.u64.wrap (x18*x2)))) x8)) else (none))
def aX.l0:Nat→Int→Int→Int→Int→Int→Int→Int→Int→Int→Option (Int × Int)
 | 0,_,_,_,_,_,_,_,_,_=>none
 | k+1,x2,x8,x9,x10,x11,x13,x14,x15,x16=>if x15≥4294967296 then (aX.j1 k x2 x8 x9 x10 x11 x13 x14 x15 x16 true) else (aX.j1 k x2 x8 x9 x10 x11 x13 x14 x15 x16 (decide ((IntKind.u64.wrap (x15*x10))>(IntKind.u64.wrap ((IntKind.u64.wrap (4294967296*x16))+x13)))))
def aX.j1:Nat→Int→Int→Int→Int→Int→Int→Int→Int→Int→Bool→Option (Int × Int)
 | 0,_,_,_,_,_,_,_,_,_,_=>none
 | k+1,x2,x8,x9,x10,x11,x13,x14,x15,x16,x78=>if x78=true then (if (IntKind.u64.wrap (x16+x9))≥4294967296 then (aX.j2 k x2 x8 x9 x10 x11 x13 x14 (IntKind.u64.wrap (x15 - 1))) else (aX.l0 k x2 x8 x9 x10 x11 x13 x14 (IntKind.u64.wrap (x15 - 1)) (IntKind.u64.wrap (x16+x9)))) else (aX.j2 k x2 x8 x9 x10 x11 x13 x14 x15)
end
def aX.f (k:Nat) (a0 a1 a2:Int):Option (Int × Int):=if a2=0 then (none) else (if a2≤a0 then (none) else (if a0=0 then (some (IntKind.u64.wrap (Int.tdiv a1 a2),Int.tmod a1 a2)) else ((bits_LeadingZeros64.f a2).bind fun t448=>(if 0≤(IntKind.u64.wrap (t448)) then (if 0≤(IntKind.u64.wrap (64 - (IntKind.u64.wrap (t448)))) then (if ((shl .u64 a2 (IntKind.u64.wrap (t448))) / 4294967296)=0 then (none) else (aX.l0 k (shl .u64 a2 (IntKind.u64.wrap (t448))) (IntKind.u64.wrap (t448)) ((shl .u64 a2 (IntKind.u64.wrap (t448))) / 4294967296) (Go.bits .and .u64 (shl .u64 a2 (IntKind.u64.wrap (t448))) 4294967295) (Go.bits .or .u64 (shl .u64 a0 (IntKind.u64.wrap (t448))) (shr .u64 a1 (IntKind.u64.wrap (64 - (IntKind.u64.wrap (t448)))))) ((shl .u64 a1 (IntKind.u64.wrap (t448))) / 4294967296) (Go.bits .and .u64 (shl .u64 a1 (IntKind.u64.wrap (t448))) 4294967295) (IntKind.u64.wrap (Int.tdiv (Go.bits .or .u64 (shl .u64 a0 (IntKind.u64.wrap (t448))) (shr .u64 a1 (IntKind.u64.wrap (64 - (IntKind.u64.wrap (t448)))))) ((shl .u64 a2 (IntKind.u64.wrap (t448))) / 4294967296))) (IntKind.u64.wrap ((Go.bits .or .u64 (shl .u64 a0 (IntKind.u64.wrap (t448))) (shr .u64 a1 (IntKind.u64.wrap (64 - (IntKind.u64.wrap (t448)))))) - (IntKind.u64.wrap ((IntKind.u64.wrap (Int.tdiv (Go.bits .or .u64 (shl .u64 a0 (IntKind.u64.wrap (t448))) (shr .u64 a1 (IntKind.u64.wrap (64 - (IntKind.u64.wrap (t448)))))) ((shl .u64 a2 (IntKind.u64.wrap (t448))) / 4294967296)))*((shl .u64 a2 (IntKind.u64.wrap (t448))) / 4294967296))))))) else (none)) else (none)))))
set_option maxHeartbeats 8000000 in
set_option maxRecDepth 100000 in
theorem aX.calls (k:Nat) (a0 a1 a2 r1 r2:Int) (w:World) (h:aX.f k a0 a1 a2=some (r1,r2)) :
  Calls Tryz.prog 131 #[.int .u64 a0,.int .u64 a1,.int .u64 a2] w fun e w'=>e=.returned (.tuple #[.int .u64 r1,.int .u64 r2])∧aI w w':=by
 have H:=h
 unfold aX.f at H
 clear h
 by_cases c4:a2=0
 ·
  rw [if_pos c4] at H
  exact absurd H (by simp)
 rw [if_neg c4] at H
 have c4b0:(a2 == 0)=false:=beq_eq_false_iff_ne.mpr c4
 have c4b1:(a2 != 0)=true:=bne_iff_ne.mpr c4
 by_cases c5:a2≤a0
 ·
  rw [if_pos c5] at H
  exact absurd H (by simp)
 rw [if_neg c5] at H
 have c5b0:=decide_eq_false c5
 clear c5
 by_cases c6:a0=0
 ·
  rw [if_pos c6] at H
  have c6b0:(a0 == 0)=true:=beq_iff_eq.mpr c6
  have c6b1:(a0 != 0)=false:=bne_eq_false_iff_eq.mpr c6
  clear c6
  simp only [Option.some.injEq,Prod.mk.injEq] at H
  obtain ⟨rfl,rfl⟩:=H
  go_enter Tryz.func131,Tryz.ntmps131
  go_wp2
  repeat (go_quiet (fail);try go_wp2)
  go_ret2
  exact ⟨by first|rfl|(simp;done)|(simp [*];done),by repeat (first|exact aI.refl _|apply aI.step)⟩
 ·
  rw [if_neg c6] at H
  have c6b0:(a0 == 0)=false:=beq_eq_false_iff_ne.mpr c6
  have c6b1:(a0 != 0)=true:=bne_iff_ne.mpr c6
  replace H:=bS H
  obtain ⟨t448,A7,H⟩:=H
  try dsimp only at H
  obtain ⟨ji8,hji8⟩:∃ j_:Int,(IntKind.u64.wrap (t448))=j_:=⟨_,rfl⟩
  replace H:(if 0≤(ji8) then (if 0≤(IntKind.u64.wrap (64 - (ji8))) then (if ((shl .u64 a2 (ji8)) / 4294967296)=0 then (none) else (aX.l0 k (shl .u64 a2 (ji8)) ji8 ((shl .u64 a2 (ji8)) / 4294967296) (Go.bits .and .u64 (shl .u64 a2 (ji8)) 4294967295) (Go.bits .or .u64 (shl .u64 a0 (ji8)) (shr .u64 a1 (IntKind.u64.wrap (64 - (ji8))))) ((shl .u64 a1 (ji8)) / 4294967296) (Go.bits .and .u64 (shl .u64 a1 (ji8)) 4294967295) (IntKind.u64.wrap (Int.tdiv (Go.bits .or .u64 (shl .u64 a0 (ji8)) (shr .u64 a1 (IntKind.u64.wrap (64 - (ji8))))) ((shl .u64 a2 (ji8)) / 4294967296))) (IntKind.u64.wrap ((Go.bits .or .u64 (shl .u64 a0 (ji8)) (shr .u64 a1 (IntKind.u64.wrap (64 - (ji8))))) - (IntKind.u64.wrap ((IntKind.u64.wrap (Int.tdiv (Go.bits .or .u64 (shl .u64 a0 (ji8)) (shr .u64 a1 (IntKind.u64.wrap (64 - (ji8))))) ((shl .u64 a2 (ji8)) / 4294967296)))*((shl .u64 a2 (ji8)) / 4294967296))))))) else (none)) else (none))=some (r1,r2):=by first|(rw [hji8] at H;exact H)|(simp only [hji8] at H ⊢;exact H)
  (try rw [hji8] at A7)
  by_cases c9:0≤(ji8)
  rotate_left
  ·
   rw [if_neg c9] at H
   exact absurd H (by simp)
  rw [if_pos c9] at H
  have c9b0:=eq_true c9
  have c9b1:=decide_eq_true c9
  clear c9
  obtain ⟨ji10,hji10⟩:∃ j_:Int,(shl .u64 a2 (ji8))=j_:=⟨_,rfl⟩
  replace H:(if 0≤(IntKind.u64.wrap (64 - (ji8))) then (if ((ji10) / 4294967296)=0 then (none) else (aX.l0 k ji10 ji8 ((ji10) / 4294967296) (Go.bits .and .u64 (ji10) 4294967295) (Go.bits .or .u64 (shl .u64 a0 (ji8)) (shr .u64 a1 (IntKind.u64.wrap (64 - (ji8))))) ((shl .u64 a1 (ji8)) / 4294967296) (Go.bits .and .u64 (shl .u64 a1 (ji8)) 4294967295) (IntKind.u64.wrap (Int.tdiv (Go.bits .or .u64 (shl .u64 a0 (ji8)) (shr .u64 a1 (IntKind.u64.wrap (64 - (ji8))))) ((ji10) / 4294967296))) (IntKind.u64.wrap ((Go.bits .or .u64 (shl .u64 a0 (ji8)) (shr .u64 a1 (IntKind.u64.wrap (64 - (ji8))))) - (IntKind.u64.wrap ((IntKind.u64.wrap (Int.tdiv (Go.bits .or .u64 (shl .u64 a0 (ji8)) (shr .u64 a1 (IntKind.u64.wrap (64 - (ji8))))) ((ji10) / 4294967296)))*((ji10) / 4294967296))))))) else (none))=some (r1,r2):=by first|(rw [hji10] at H;exact H)|(simp only [hji10] at H ⊢;exact H)
  (try rw [hji10] at A7)
  have hji10_:(IntKind.u64.wrap (a2*2 ^ min (ji8).toNat 64))=ji10:=hji10
  have hji10z:(ji8)≤64→(IntKind.u64.wrap (a2*2 ^ (ji8).toNat))=ji10:=shl_small hji10
  have c11b0:=eq_true (dA:0≤(ji8))
  obtain ⟨ji12,hji12⟩:∃ j_:Int,(shl .u64 a0 (ji8))=j_:=⟨_,rfl⟩
  replace H:(if 0≤(IntKind.u64.wrap (64 - (ji8))) then (if ((ji10) / 4294967296)=0 then (none) else (aX.l0 k ji10 ji8 ((ji10) / 4294967296) (Go.bits .and .u64 (ji10) 4294967295) (Go.bits .or .u64 (ji12) (shr .u64 a1 (IntKind.u64.wrap (64 - (ji8))))) ((shl .u64 a1 (ji8)) / 4294967296) (Go.bits .and .u64 (shl .u64 a1 (ji8)) 4294967295) (IntKind.u64.wrap (Int.tdiv (Go.bits .or .u64 (ji12) (shr .u64 a1 (IntKind.u64.wrap (64 - (ji8))))) ((ji10) / 4294967296))) (IntKind.u64.wrap ((Go.bits .or .u64 (ji12) (shr .u64 a1 (IntKind.u64.wrap (64 - (ji8))))) - (IntKind.u64.wrap ((IntKind.u64.wrap (Int.tdiv (Go.bits .or .u64 (ji12) (shr .u64 a1 (IntKind.u64.wrap (64 - (ji8))))) ((ji10) / 4294967296)))*((ji10) / 4294967296))))))) else (none))=some (r1,r2):=by first|(rw [hji12] at H;exact H)|(simp only [hji12] at H ⊢;exact H)
  (try rw [hji12] at A7)
  have hji12_:(IntKind.u64.wrap (a0*2 ^ min (ji8).toNat 64))=ji12:=hji12
  have hji12z:(ji8)≤64→(IntKind.u64.wrap (a0*2 ^ (ji8).toNat))=ji12:=shl_small hji12
  obtain ⟨ji13,hji13⟩:∃ j_:Int,(IntKind.u64.wrap (64 - (ji8)))=j_:=⟨_,rfl⟩
  replace H:(if 0≤(ji13) then (if ((ji10) / 4294967296)=0 then (none) else (aX.l0 k ji10 ji8 ((ji10) / 4294967296) (Go.bits .and .u64 (ji10) 4294967295) (Go.bits .or .u64 (ji12) (shr .u64 a1 (ji13))) ((shl .u64 a1 (ji8)) / 4294967296) (Go.bits .and .u64 (shl .u64 a1 (ji8)) 4294967295) (IntKind.u64.wrap (Int.tdiv (Go.bits .or .u64 (ji12) (shr .u64 a1 (ji13))) ((ji10) / 4294967296))) (IntKind.u64.wrap ((Go.bits .or .u64 (ji12) (shr .u64 a1 (ji13))) - (IntKind.u64.wrap ((IntKind.u64.wrap (Int.tdiv (Go.bits .or .u64 (ji12) (shr .u64 a1 (ji13))) ((ji10) / 4294967296)))*((ji10) / 4294967296))))))) else (none))=some (r1,r2):=by first|(rw [hji13] at H;exact H)|(simp only [hji13] at H ⊢;exact H)
  (try rw [hji13] at A7)
  by_cases c14:0≤(ji13)
  rotate_left
  ·
   rw [if_neg c14] at H
   exact absurd H (by simp)
  rw [if_pos c14] at H
  have c14b0:=eq_true c14
  have c14b1:=decide_eq_true c14
  clear c14
  obtain ⟨ji15,hji15⟩:∃ j_:Int,(shr .u64 a1 (ji13))=j_:=⟨_,rfl⟩
  replace H:(if ((ji10) / 4294967296)=0 then (none) else (aX.l0 k ji10 ji8 ((ji10) / 4294967296) (Go.bits .and .u64 (ji10) 4294967295) (Go.bits .or .u64 (ji12) (ji15)) ((shl .u64 a1 (ji8)) / 4294967296) (Go.bits .and .u64 (shl .u64 a1 (ji8)) 4294967295) (IntKind.u64.wrap (Int.tdiv (Go.bits .or .u64 (ji12) (ji15)) ((ji10) / 4294967296))) (IntKind.u64.wrap ((Go.bits .or .u64 (ji12) (ji15)) - (IntKind.u64.wrap ((IntKind.u64.wrap (Int.tdiv (Go.bits .or .u64 (ji12) (ji15)) ((ji10) / 4294967296)))*((ji10) / 4294967296)))))))=some (r1,r2):=by first|(rw [hji15] at H;exact H)|(simp only [hji15] at H ⊢;exact H)
  (try rw [hji15] at A7)
  have hji15_:(a1 / 2 ^ min (ji13).toNat 64)=ji15:=hji15
  have hji15z:(ji13)≤64→(a1 / 2 ^ (ji13).toNat)=ji15:=shr_small hji15
  have c16b0:=eq_true (dA:0≤(ji8))
  obtain ⟨ji17,hji17⟩:∃ j_:Int,(shl .u64 a1 (ji8))=j_:=⟨_,rfl⟩
  replace H:(if ((ji10) / 4294967296)=0 then (none) else (aX.l0 k ji10 ji8 ((ji10) / 4294967296) (Go.bits .and .u64 (ji10) 4294967295) (Go.bits .or .u64 (ji12) (ji15)) ((ji17) / 4294967296) (Go.bits .and .u64 (ji17) 4294967295) (IntKind.u64.wrap (Int.tdiv (Go.bits .or .u64 (ji12) (ji15)) ((ji10) / 4294967296))) (IntKind.u64.wrap ((Go.bits .or .u64 (ji12) (ji15)) - (IntKind.u64.wrap ((IntKind.u64.wrap (Int.tdiv (Go.bits .or .u64 (ji12) (ji15)) ((ji10) / 4294967296)))*((ji10) / 4294967296)))))))=some (r1,r2):=by first|(rw [hji17] at H;exact H)|(simp only [hji17] at H ⊢;exact H)
  (try rw [hji17] at A7)
  have hji17_:(IntKind.u64.wrap (a1*2 ^ min (ji8).toNat 64))=ji17:=hji17
  have hji17z:(ji8)≤64→(IntKind.u64.wrap (a1*2 ^ (ji8).toNat))=ji17:=shl_small hji17
  by_cases c18:((ji10) / 4294967296)=0
  ·
   rw [if_pos c18] at H
   exact absurd H (by simp)
  rw [if_neg c18] at H
  have c18b0:(((ji10) / 4294967296) == 0)=false:=beq_eq_false_iff_ne.mpr c18
  have c18b1:(((ji10) / 4294967296) != 0)=true:=bne_iff_ne.mpr c18
  have HC19:=aA.mk H
  clear H
  go_enter Tryz.func131,Tryz.ntmps131
  go_upto_block 0 with (first|(go_at_call 137;(with_reducible refine (bits_LeadingZeros64.calls a2 t448 _ A7.out).mono ?_);rintro e w' ⟨rfl,⟨nd,rfl⟩⟩;(try exact dd)))
  repeat (go_quiet (first|(go_at_call 137;(with_reducible refine (bits_LeadingZeros64.calls a2 t448 _ A7.out).mono ?_);rintro e w' ⟨rfl,⟨nd,rfl⟩⟩;(try exact dd)));go_upto_block 0 with (first|(go_at_call 137;(with_reducible refine (bits_LeadingZeros64.calls a2 t448 _ A7.out).mono ?_);rintro e w' ⟨rfl,⟨nd,rfl⟩⟩;(try exact dd))))
  (try simp only [Act.put,List.setIfInBounds_toArray,List.set_cons_zero,List.set_cons_succ])
  go_cut [15] (fun v15 wc=>∃ (kq:Nat) (x15_18:Int),v15=.int .u64 x15_18∧aA (aX.j2 kq ji10 ji8 ((ji10) / 4294967296) (Go.bits .and .u64 (ji10) 4294967295) (Go.bits .or .u64 (ji12) (ji15)) ((ji17) / 4294967296) (Go.bits .and .u64 (ji17) 4294967295) x15_18=some (r1,r2))∧aA (kq≤k)∧aI w wc)
  case first=>
   have H:=HC19.out
   clear HC19
   have H':=aA.mk H
   clear H
   go_wp2
   repeat (go_quiet (fail);try go_wp2)
   go_loopg [15,16] k (fun kq v15 v16 w'=>∃ (x15_1:Int) (x16_1:Int),v15=.int .u64 x15_1∧v16=.int .u64 x16_1∧aA (aX.l0 kq ji10 ji8 ((ji10) / 4294967296) (Go.bits .and .u64 (ji10) 4294967295) (Go.bits .or .u64 (ji12) (ji15)) ((ji17) / 4294967296) (Go.bits .and .u64 (ji17) 4294967295) x15_1 x16_1=some (r1,r2))∧aA (kq≤k)∧aI w w')
   case atStart=>exact ⟨(IntKind.u64.wrap (Int.tdiv (Go.bits .or .u64 (ji12) (ji15)) ((ji10) / 4294967296))),(IntKind.u64.wrap ((Go.bits .or .u64 (ji12) (ji15)) - (IntKind.u64.wrap ((IntKind.u64.wrap (Int.tdiv (Go.bits .or .u64 (ji12) (ji15)) ((ji10) / 4294967296)))*((ji10) / 4294967296))))),(by first|rfl|(simp;done)|(simp only [← hji10,← hji12,← hji15] <;> (first|rfl|simp))|(simp [*];done)),(by first|rfl|(simp;done)|(simp only [← hji10,← hji12,← hji15] <;> (first|rfl|simp))|(simp [*];done)),H',⟨Nat.le_refl _⟩,by repeat (first|exact aI.refl _|apply aI.step)⟩
   case round=>
    clear H'
    try clear c4
    try clear c4b0
    try clear c4b1
    try clear c5
    try clear c5b0
    try clear c6
    try clear c6b0
    try clear c6b1
    try clear c9
    try clear c9b0
    try clear c9b1
    try clear c11b0
    try clear c14
    try clear c14b0
    try clear c14b1
    try clear c16b0
    try clear c18
    try clear c18b0
    try clear c18b1
    obtain ⟨x15_1,x16_1,rfl,rfl,HA,HK1,⟨m1,rfl⟩⟩:=hrel
    cases gk with
    | zero=>exact absurd HA.out (by simp [aX.l0])
    | succ k1=>
     have H:=HA.out
     clear HA
     simp only [aX.l0] at H
     have HC20:=aA.mk H
     clear H
     go_upto_region 17 with (fail)
     repeat (go_quiet (fail);go_upto_region 17 with (fail))
     go_cut [78] (fun v78 wc=>∃ (kq:Nat) (x78_19:Bool),v78=.bool x78_19∧aA (aX.j1 kq ji10 ji8 ((ji10) / 4294967296) (Go.bits .and .u64 (ji10) 4294967295) (Go.bits .or .u64 (ji12) (ji15)) ((ji17) / 4294967296) (Go.bits .and .u64 (ji17) 4294967295) x15_1 x16_1 x78_19=some (r1,r2))∧aA (kq≤k1)∧aI w wc)
     case first=>
      have H:=HC20.out
      clear HC20
      by_cases c21:x15_1≥4294967296
      ·
       rw [if_pos c21] at H
       have c21b0:decide (4294967296≤x15_1)=true:=decide_eq_true c21
       clear c21
       (first|rw [c21b0]|(simp only [dh,di];rw [c21b0])|skip)
       have H':=aA.mk H
       clear H
       go_wp2
       repeat (go_quiet (fail);try go_wp2)
       go_meet
       case rel=>exact ⟨_,(true),hB,H',⟨by have:=HK1.out;first|omega|exact Nat.le_refl _⟩,by repeat (first|exact aI.refl _|apply aI.step)⟩
      ·
       rw [if_neg c21] at H
       have c21b0:decide (4294967296≤x15_1)=false:=decide_eq_false c21
       clear c21
       (first|rw [c21b0]|(simp only [dh,di];rw [c21b0])|skip)
       have H':=aA.mk H
       clear H
       go_wp2
       repeat (go_quiet (fail);try go_wp2)
       go_meet
       case rel=>exact ⟨_,(decide ((IntKind.u64.wrap (x15_1*(Go.bits .and .u64 (ji10) 4294967295)))>(IntKind.u64.wrap ((IntKind.u64.wrap (4294967296*x16_1))+((ji17) / 4294967296))))),(by first|rfl|(simp;done)|(simp only [← hji10,← hji17] <;> (first|rfl|simp))|(simp [*];done)),H',⟨by have:=HK1.out;first|omega|exact Nat.le_refl _⟩,by repeat (first|exact aI.refl _|apply aI.step)⟩
     case rest=>
      clear HC20
      try clear c4
      try clear c4b0
      try clear c4b1
      try clear c5
      try clear c5b0
      try clear c6
      try clear c6b0
      try clear c6b1
      try clear c9
      try clear c9b0
      try clear c9b1
      try clear c11b0
      try clear c14
      try clear c14b0
      try clear c14b1
      try clear c16b0
      try clear c18
      try clear c18b0
      try clear c18b1
      try clear c21
      try clear c21b0
      obtain ⟨kq,x78_19,rfl,HA,HJ19,⟨mc19,rfl⟩⟩:=hcut
      cases kq with
      | zero=>exact absurd HA.out (by simp [aX.j1])
      | succ kj19=>
       have H:=HA.out
       clear HA
       simp only [aX.j1] at H
       by_cases c22:x78_19=true
       ·
        subst c22
        rw [if_pos rfl] at H
        try dsimp only at H
        by_cases c23:(IntKind.u64.wrap (x16_1+((ji10) / 4294967296)))≥4294967296
        ·
         rw [if_pos c23] at H
         have c23b0:decide (4294967296≤(IntKind.u64.wrap (x16_1+((ji10) / 4294967296))))=true:=decide_eq_true c23
         clear c23
         have H':=aA.mk H
         clear H
         go_wp2
         repeat (go_quiet (fail);try go_wp2)
         go_meet
         case rel=>exact ⟨_,(IntKind.u64.wrap (x15_1 - 1)),hB,H',⟨by have:=HK1.out;have:=HJ19.out;first|omega|exact Nat.le_refl _⟩,by repeat (first|exact aI.refl _|apply aI.step)⟩
        ·
         rw [if_neg c23] at H
         have c23b0:decide (4294967296≤(IntKind.u64.wrap (x16_1+((ji10) / 4294967296))))=false:=decide_eq_false c23
         clear c23
         have H':=aA.mk H
         clear H
         go_wp2
         repeat (go_quiet (fail);try go_wp2)
         go_roundg kj19
         case measure=>have:=HK1.out;have:=HJ19.out;omega
         case rel=>exact ⟨(IntKind.u64.wrap (x15_1 - 1)),(IntKind.u64.wrap (x16_1+((ji10) / 4294967296))),hB,(by first|rfl|(simp;done)|(simp only [← hji10] <;> (first|rfl|simp))|(simp [*];done)),H',⟨by have:=HK1.out;have:=HJ19.out;omega⟩,by repeat (first|exact aI.refl _|apply aI.step)⟩
       ·
        replace c22:=Bool.eq_false_iff.mpr c22
        subst c22
        rw [if_neg (show ¬ (false=true) by decide)] at H
        try dsimp only at H
        have H':=aA.mk H
        clear H
        go_wp2
        repeat (go_quiet (fail);try go_wp2)
        go_meet
        case rel=>exact ⟨_,(x15_1),hB,H',⟨by have:=HK1.out;have:=HJ19.out;first|omega|exact Nat.le_refl _⟩,by repeat (first|exact aI.refl _|apply aI.step)⟩
  case rest=>
   clear HC19
   try clear c4
   try clear c4b0
   try clear c4b1
   try clear c5
   try clear c5b0
   try clear c6
   try clear c6b0
   try clear c6b1
   try clear c9
   try clear c9b0
   try clear c9b1
   try clear c11b0
   try clear c14
   try clear c14b0
   try clear c14b1
   try clear c16b0
   try clear c18
   try clear c18b0
   try clear c18b1
   try clear c21
   try clear c21b0
   try clear c22
   try clear c23
   try clear c23b0
   obtain ⟨kq,x15_18,rfl,HA,HJ18,⟨mc18,rfl⟩⟩:=hcut
   cases kq with
   | zero=>exact absurd HA.out (by simp [aX.j2])
   | succ kj18=>
    have H:=HA.out
    clear HA
    simp only [aX.j2] at H
    by_cases c24:((ji10) / 4294967296)=0
    ·
     rw [if_pos c24] at H
     exact absurd H (by simp)
    rw [if_neg c24] at H
    have c24b0:(((ji10) / 4294967296) == 0)=false:=beq_eq_false_iff_ne.mpr c24
    have c24b1:(((ji10) / 4294967296) != 0)=true:=bne_iff_ne.mpr c24
    have H':=aA.mk H
    clear H
    go_wp2
    repeat (go_quiet (fail);try go_wp2)
    go_loopg [16,18] kj18 (fun kq v16 v18 w'=>∃ (x16_2:Int) (x18_2:Int),v16=.int .u64 x16_2∧v18=.int .u64 x18_2∧aA (aX.l1 kq ji10 ji8 ((ji10) / 4294967296) (Go.bits .and .u64 (ji10) 4294967295) (Go.bits .and .u64 (ji17) 4294967295) x15_18 x16_2 (IntKind.u64.wrap ((IntKind.u64.wrap ((IntKind.u64.wrap ((Go.bits .or .u64 (ji12) (ji15))*4294967296))+((ji17) / 4294967296))) - (IntKind.u64.wrap (x15_18*ji10)))) x18_2=some (r1,r2))∧aA (kq≤kj18)∧aI w w')
    case atStart=>exact ⟨(IntKind.u64.wrap ((IntKind.u64.wrap ((IntKind.u64.wrap ((IntKind.u64.wrap ((Go.bits .or .u64 (ji12) (ji15))*4294967296))+((ji17) / 4294967296))) - (IntKind.u64.wrap (x15_18*ji10)))) - (IntKind.u64.wrap ((IntKind.u64.wrap (Int.tdiv (IntKind.u64.wrap ((IntKind.u64.wrap ((IntKind.u64.wrap ((Go.bits .or .u64 (ji12) (ji15))*4294967296))+((ji17) / 4294967296))) - (IntKind.u64.wrap (x15_18*ji10)))) ((ji10) / 4294967296)))*((ji10) / 4294967296))))),(IntKind.u64.wrap (Int.tdiv (IntKind.u64.wrap ((IntKind.u64.wrap ((IntKind.u64.wrap ((Go.bits .or .u64 (ji12) (ji15))*4294967296))+((ji17) / 4294967296))) - (IntKind.u64.wrap (x15_18*ji10)))) ((ji10) / 4294967296))),(by first|rfl|(simp;done)|(simp only [← hji10,← hji12,← hji15,← hji17] <;> (first|rfl|simp))|(simp [*];done)),(by first|rfl|(simp;done)|(simp only [← hji10,← hji12,← hji15,← hji17] <;> (first|rfl|simp))|(simp [*];done)),H',⟨Nat.le_refl _⟩,by repeat (first|exact aI.refl _|apply aI.step)⟩
    case round=>
     clear H'
     try clear c4
     try clear c4b0
     try clear c4b1
     try clear c5
     try clear c5b0
     try clear c6
     try clear c6b0
     try clear c6b1
     try clear c9
     try clear c9b0
     try clear c9b1
     try clear c11b0
     try clear c14
     try clear c14b0
     try clear c14b1
     try clear c16b0
     try clear c18
     try clear c18b0
     try clear c18b1
     try clear c21
     try clear c21b0
     try clear c22
     try clear c23
     try clear c23b0
     try clear c24
     try clear c24b0
     try clear c24b1
     obtain ⟨x16_2,x18_2,rfl,rfl,HA,HK2,⟨m2,rfl⟩⟩:=hrel
     cases gk with
     | zero=>exact absurd HA.out (by simp [aX.l1])
     | succ k2=>
      have H:=HA.out
      clear HA
      simp only [aX.l1] at H
      have HC25:=aA.mk H
      clear H
      go_upto_region 24 with (fail)
      repeat (go_quiet (fail);go_upto_region 24 with (fail))
      go_cut [113] (fun v113 wc=>∃ (kq:Nat) (x113_24:Bool),v113=.bool x113_24∧aA (aX.j4 kq ji10 ji8 ((ji10) / 4294967296) (Go.bits .and .u64 (ji10) 4294967295) (Go.bits .and .u64 (ji17) 4294967295) x15_18 x16_2 (IntKind.u64.wrap ((IntKind.u64.wrap ((IntKind.u64.wrap ((Go.bits .or .u64 (ji12) (ji15))*4294967296))+((ji17) / 4294967296))) - (IntKind.u64.wrap (x15_18*ji10)))) x18_2 x113_24=some (r1,r2))∧aA (kq≤k2)∧aI w wc)
      case first=>
       have H:=HC25.out
       clear HC25
       by_cases c26:x18_2≥4294967296
       ·
        rw [if_pos c26] at H
        have c26b0:decide (4294967296≤x18_2)=true:=decide_eq_true c26
        clear c26
        (first|rw [c26b0]|(simp only [dh,di];rw [c26b0])|skip)
        have H':=aA.mk H
        clear H
        go_wp2
        repeat (go_quiet (fail);try go_wp2)
        go_meet
        case rel=>exact ⟨_,(true),hB,H',⟨by have:=HJ18.out;have:=HK2.out;first|omega|exact Nat.le_refl _⟩,by repeat (first|exact aI.refl _|apply aI.step)⟩
       ·
        rw [if_neg c26] at H
        have c26b0:decide (4294967296≤x18_2)=false:=decide_eq_false c26
        clear c26
        (first|rw [c26b0]|(simp only [dh,di];rw [c26b0])|skip)
        have H':=aA.mk H
        clear H
        go_wp2
        repeat (go_quiet (fail);try go_wp2)
        go_meet
        case rel=>exact ⟨_,(decide ((IntKind.u64.wrap (x18_2*(Go.bits .and .u64 (ji10) 4294967295)))>(IntKind.u64.wrap ((IntKind.u64.wrap (4294967296*x16_2))+(Go.bits .and .u64 (ji17) 4294967295))))),(by first|rfl|(simp;done)|(simp only [← hji10,← hji17] <;> (first|rfl|simp))|(simp [*];done)),H',⟨by have:=HJ18.out;have:=HK2.out;first|omega|exact Nat.le_refl _⟩,by repeat (first|exact aI.refl _|apply aI.step)⟩
      case rest=>
       clear HC25
       try clear c4
       try clear c4b0
       try clear c4b1
       try clear c5
       try clear c5b0
       try clear c6
       try clear c6b0
       try clear c6b1
       try clear c9
       try clear c9b0
       try clear c9b1
       try clear c11b0
       try clear c14
       try clear c14b0
       try clear c14b1
       try clear c16b0
       try clear c18
       try clear c18b0
       try clear c18b1
       try clear c21
       try clear c21b0
       try clear c22
       try clear c23
       try clear c23b0
       try clear c24
       try clear c24b0
       try clear c24b1
       try clear c26
       try clear c26b0
       obtain ⟨kq,x113_24,rfl,HA,HJ24,⟨mc24,rfl⟩⟩:=hcut
       cases kq with
       | zero=>exact absurd HA.out (by simp [aX.j4])
       | succ kj24=>
        have H:=HA.out
        clear HA
        simp only [aX.j4] at H
        by_cases c27:x113_24=true
        ·
         subst c27
         rw [if_pos rfl] at H
         try dsimp only at H
         by_cases c28:(IntKind.u64.wrap (x16_2+((ji10) / 4294967296)))≥4294967296
         ·
          rw [if_pos c28] at H
          have c28b0:decide (4294967296≤(IntKind.u64.wrap (x16_2+((ji10) / 4294967296))))=true:=decide_eq_true c28
          clear c28
          by_cases c29:0≤ji8
          rotate_left
          ·
           rw [if_neg c29] at H
           exact absurd H (by simp)
          rw [if_pos c29] at H
          have c29b0:=eq_true c29
          have c29b1:=decide_eq_true c29
          clear c29
          obtain ⟨ji30,hji30⟩:∃ j_:Int,(shr .u64 (IntKind.u64.wrap ((IntKind.u64.wrap ((IntKind.u64.wrap ((IntKind.u64.wrap ((IntKind.u64.wrap ((IntKind.u64.wrap ((Go.bits .or .u64 (ji12) (ji15))*4294967296))+((ji17) / 4294967296))) - (IntKind.u64.wrap (x15_18*ji10))))*4294967296))+(Go.bits .and .u64 (ji17) 4294967295))) - (IntKind.u64.wrap ((IntKind.u64.wrap (x18_2 - 1))*ji10)))) ji8)=j_:=⟨_,rfl⟩
          replace H:(some (IntKind.u64.wrap ((IntKind.u64.wrap (x15_18*4294967296))+(IntKind.u64.wrap (x18_2 - 1))),ji30))=some (r1,r2):=by first|(rw [hji30] at H;exact H)|(simp only [hji30] at H ⊢;exact H)
          have hji30_:((IntKind.u64.wrap ((IntKind.u64.wrap ((IntKind.u64.wrap ((IntKind.u64.wrap ((IntKind.u64.wrap ((IntKind.u64.wrap ((Go.bits .or .u64 (ji12) (ji15))*4294967296))+((ji17) / 4294967296))) - (IntKind.u64.wrap (x15_18*ji10))))*4294967296))+(Go.bits .and .u64 (ji17) 4294967295))) - (IntKind.u64.wrap ((IntKind.u64.wrap (x18_2 - 1))*ji10)))) / 2 ^ min ji8.toNat 64)=ji30:=hji30
          have hji30z:ji8≤64→((IntKind.u64.wrap ((IntKind.u64.wrap ((IntKind.u64.wrap ((IntKind.u64.wrap ((IntKind.u64.wrap ((IntKind.u64.wrap ((Go.bits .or .u64 (ji12) (ji15))*4294967296))+((ji17) / 4294967296))) - (IntKind.u64.wrap (x15_18*ji10))))*4294967296))+(Go.bits .and .u64 (ji17) 4294967295))) - (IntKind.u64.wrap ((IntKind.u64.wrap (x18_2 - 1))*ji10)))) / 2 ^ ji8.toNat)=ji30:=shr_small hji30
          simp only [Option.some.injEq,Prod.mk.injEq] at H
          obtain ⟨rfl,rfl⟩:=H
          go_wp2
          repeat (go_quiet (fail);try go_wp2)
          go_ret2
          exact ⟨by first|rfl|(simp;done)|(simp only [← hji8,← hji10,← hji12,← hji13,← hji15,← hji17,← hji30] <;> (first|rfl|simp))|(simp [*];done),by repeat (first|exact aI.refl _|apply aI.step)⟩
         ·
          rw [if_neg c28] at H
          have c28b0:decide (4294967296≤(IntKind.u64.wrap (x16_2+((ji10) / 4294967296))))=false:=decide_eq_false c28
          clear c28
          have H':=aA.mk H
          clear H
          go_wp2
          repeat (go_quiet (fail);try go_wp2)
          go_roundg kj24
          case measure=>have:=HJ18.out;have:=HK2.out;have:=HJ24.out;omega
          case rel=>exact ⟨(IntKind.u64.wrap (x16_2+((ji10) / 4294967296))),(IntKind.u64.wrap (x18_2 - 1)),(by first|rfl|(simp;done)|(simp only [← hji10] <;> (first|rfl|simp))|(simp [*];done)),hB,H',⟨by have:=HJ18.out;have:=HK2.out;have:=HJ24.out;omega⟩,by repeat (first|exact aI.refl _|apply aI.step)⟩
        ·
         replace c27:=Bool.eq_false_iff.mpr c27
         subst c27
         rw [if_neg (show ¬ (false=true) by decide)] at H
         try dsimp only at H
         by_cases c31:0≤ji8
         rotate_left
         ·
          rw [if_neg c31] at H
          exact absurd H (by simp)
         rw [if_pos c31] at H
         have c31b0:=eq_true c31
         have c31b1:=decide_eq_true c31
         clear c31
         obtain ⟨ji32,hji32⟩:∃ j_:Int,(shr .u64 (IntKind.u64.wrap ((IntKind.u64.wrap ((IntKind.u64.wrap ((IntKind.u64.wrap ((IntKind.u64.wrap ((IntKind.u64.wrap ((Go.bits .or .u64 (ji12) (ji15))*4294967296))+((ji17) / 4294967296))) - (IntKind.u64.wrap (x15_18*ji10))))*4294967296))+(Go.bits .and .u64 (ji17) 4294967295))) - (IntKind.u64.wrap (x18_2*ji10)))) ji8)=j_:=⟨_,rfl⟩
         replace H:(some (IntKind.u64.wrap ((IntKind.u64.wrap (x15_18*4294967296))+x18_2),ji32))=some (r1,r2):=by first|(rw [hji32] at H;exact H)|(simp only [hji32] at H ⊢;exact H)
         have hji32_:((IntKind.u64.wrap ((IntKind.u64.wrap ((IntKind.u64.wrap ((IntKind.u64.wrap ((IntKind.u64.wrap ((IntKind.u64.wrap ((Go.bits .or .u64 (ji12) (ji15))*4294967296))+((ji17) / 4294967296))) - (IntKind.u64.wrap (x15_18*ji10))))*4294967296))+(Go.bits .and .u64 (ji17) 4294967295))) - (IntKind.u64.wrap (x18_2*ji10)))) / 2 ^ min ji8.toNat 64)=ji32:=hji32
         have hji32z:ji8≤64→((IntKind.u64.wrap ((IntKind.u64.wrap ((IntKind.u64.wrap ((IntKind.u64.wrap ((IntKind.u64.wrap ((IntKind.u64.wrap ((Go.bits .or .u64 (ji12) (ji15))*4294967296))+((ji17) / 4294967296))) - (IntKind.u64.wrap (x15_18*ji10))))*4294967296))+(Go.bits .and .u64 (ji17) 4294967295))) - (IntKind.u64.wrap (x18_2*ji10)))) / 2 ^ ji8.toNat)=ji32:=shr_small hji32
         simp only [Option.some.injEq,Prod.mk.injEq] at H
         obtain ⟨rfl,rfl⟩:=H
         go_wp2
         repeat (go_quiet (fail);try go_wp2)
         go_ret2
         exact ⟨by first|rfl|(simp;done)|(simp only [← hji8,← hji10,← hji12,← hji13,← hji15,← hji17,← hji32] <;> (first|rfl|simp))|(simp [*];done),by repeat (first|exact aI.refl _|apply aI.step)⟩
def dK.f (k:Nat) (a0 a1:Int):Option (Int):=(aa.f k a0 a1).bind fun t455=>((ag.f k a0 t455).bind fun t456=>(if t456=0 then (none) else (some (wrap64 (Int.tdiv a1 t456)))))
set_option maxHeartbeats 8000000 in
set_option maxRecDepth 100000 in
theorem dK.calls (k:Nat) (a0 a1 r:Int) (w:World) (h:dK.f k a0 a1=some r) :
  Calls Tryz.prog 115 #[.int .i64 a0,.int .i64 a1] w fun e w'=>e=.returned (.int .i64 r)∧aI w w':=by
 have H:=h
 unfold dK.f at H
 clear h
 replace H:=bS H
 obtain ⟨t455,A3,H⟩:=H
 try dsimp only at H
 replace H:=bS H
 obtain ⟨t456,A4,H⟩:=H
 try dsimp only at H
 by_cases c5:t456=0
 ·
  rw [if_pos c5] at H
  exact absurd H (by simp)
 rw [if_neg c5] at H
 have c5b0:(t456 == 0)=false:=beq_eq_false_iff_ne.mpr c5
 have c5b1:(t456 != 0)=true:=bne_iff_ne.mpr c5
 obtain rfl:=Option.some.inj H
 go_enter Tryz.func115,Tryz.ntmps115
 go_wp2_with (first|((with_reducible refine gd 9 rfl ?_);refine gC (some 9) rfl Tryz.func87 (aa.calls (w:=_) (h:=A3.out)) ?_;rintro _ ⟨nd,rfl⟩)|((with_reducible refine gd 10 rfl ?_);refine gC (some 10) rfl Tryz.func84 (ag.calls (w:=_) (h:=A4.out)) ?_;rintro _ ⟨nd,rfl⟩))
 go_ret
 exact ⟨by first|rfl|(simp;done)|(simp [*];done),by repeat (first|exact aI.refl _|apply aI.step)⟩
def bg.l0:Nat→Int→Int→Int→Int→Int→Option (Int)
 | 0,_,_,_,_,_=>none
 | k+1,x1,x5,x6,x7,x8=>if x6=0 then ((cf.f x7 x1).bind fun t458=>(some t458)) else (bg.l0 k x1 x6 (wrap64 (x5 - (wrap64 ((wrap64 (Int.tdiv x5 x6))*x6)))) x8 (wrap64 (x7 - (wrap64 ((wrap64 (Int.tdiv x5 x6))*x8)))))
def bg.f (k:Nat) (a0 a1:Int):Option (Int):=(cf.f a0 a1).bind fun t457=>(bg.l0 k a1 t457 a1 1 0)
set_option maxHeartbeats 8000000 in
set_option maxRecDepth 100000 in
theorem bg.calls (k:Nat) (a0 a1 r:Int) (w:World) (h:bg.f k a0 a1=some r) :
  Calls Tryz.prog 116 #[.int .i64 a0,.int .i64 a1] w fun e w'=>e=.returned (.int .i64 r)∧aI w w':=by
 have H:=h
 unfold bg.f at H
 clear h
 replace H:=bS H
 obtain ⟨t457,A3,H⟩:=H
 try dsimp only at H
 have H':=aA.mk H
 clear H
 go_enter Tryz.func116,Tryz.ntmps116
 go_wp2_with (first|((with_reducible refine gd 12 rfl ?_);refine gC (some 12) rfl Tryz.func130 (cf.calls (w:=_) (h:=A3.out)) ?_;rintro _ ⟨nd,rfl⟩))
 go_loopg [5,6,7,8] k (fun kq v5 v6 v7 v8 w'=>∃ (x5_1:Int) (x6_1:Int) (x7_1:Int) (x8_1:Int),v5=.int .i64 x5_1∧v6=.int .i64 x6_1∧v7=.int .i64 x7_1∧v8=.int .i64 x8_1∧aA (bg.l0 kq a1 x5_1 x6_1 x7_1 x8_1=some r)∧aA (kq≤k)∧aI w w')
 case atStart=>exact ⟨(t457),(a1),(1),(0),hB,hB,hB,hB,H',⟨Nat.le_refl _⟩,by repeat (first|exact aI.refl _|apply aI.step)⟩
 case round=>
  clear H'
  obtain ⟨x5_1,x6_1,x7_1,x8_1,rfl,rfl,rfl,rfl,HA,HK1,⟨m1,rfl⟩⟩:=hrel
  cases gk with
  | zero=>exact absurd HA.out (by simp [bg.l0])
  | succ k1=>
   have H:=HA.out
   clear HA
   simp only [bg.l0] at H
   by_cases c4:x6_1=0
   ·
    rw [if_pos c4] at H
    have c4b0:(x6_1 == 0)=true:=beq_iff_eq.mpr c4
    have c4b1:(x6_1 != 0)=false:=bne_eq_false_iff_eq.mpr c4
    clear c4
    replace H:=bS H
    obtain ⟨t458,A5,H⟩:=H
    try dsimp only at H
    obtain rfl:=Option.some.inj H
    go_wp2_with (first|((with_reducible refine gd 33 rfl ?_);refine gC (some 33) rfl Tryz.func130 (cf.calls (w:=_) (h:=A5.out)) ?_;rintro _ ⟨nd,rfl⟩))
    go_ret
    exact ⟨by first|rfl|(simp;done)|(simp [*];done),by repeat (first|exact aI.refl _|apply aI.step)⟩
   ·
    rw [if_neg c4] at H
    have c4b0:(x6_1 == 0)=false:=beq_eq_false_iff_ne.mpr c4
    have c4b1:(x6_1 != 0)=true:=bne_iff_ne.mpr c4
    have H':=aA.mk H
    clear H
    go_wp2
    go_roundg k1
    case measure=>have:=HK1.out;omega
    case rel=>exact ⟨(x6_1),(wrap64 (x5_1 - (wrap64 ((wrap64 (Int.tdiv x5_1 x6_1))*x6_1)))),(x8_1),(wrap64 (x7_1 - (wrap64 ((wrap64 (Int.tdiv x5_1 x6_1))*x8_1)))),hB,hB,hB,hB,H',⟨by have:=HK1.out;omega⟩,by repeat (first|exact aI.refl _|apply aI.step)⟩
def cF.f (a0 a1:Int):Option (Int):=(bU.f a0).bind fun t544=>((bU.f a1).bind fun t545=>(if t544=true then (if t545=true then (some 0) else (some (-1))) else (if t545=true then (some 1) else (if a0<a1 then (some (-1)) else (if a0>a1 then (some 1) else (some 0))))))
set_option maxHeartbeats 8000000 in
set_option maxRecDepth 100000 in
theorem cF.calls (a0 a1 r:Int) (w:World) (h:cF.f a0 a1=some r) :
  Calls Tryz.prog 77 #[.int .i64 a0,.int .i64 a1] w fun e w'=>e=.returned (.int .i64 r)∧aI w w':=by
 have H:=h
 unfold cF.f at H
 clear h
 replace H:=bS H
 obtain ⟨t544,A3,H⟩:=H
 try dsimp only at H
 replace H:=bS H
 obtain ⟨t545,A4,H⟩:=H
 try dsimp only at H
 by_cases c5:t544=true
 ·
  subst c5
  rw [if_pos rfl] at H
  try dsimp only at H
  by_cases c6:t545=true
  focus
   subst c6
   rw [if_pos rfl] at H
   try dsimp only at H
   obtain rfl:=Option.some.inj H
  rotate_left
  focus
   replace c6:=Bool.eq_false_iff.mpr c6
   subst c6
   rw [if_neg (show ¬ (false=true) by decide)] at H
   try dsimp only at H
   obtain rfl:=Option.some.inj H
  rotate_left
  all_goals
   go_enter Tryz.func77,Tryz.ntmps77
   go_wp2_with (first|((with_reducible refine gd 8 rfl ?_);refine gC (some 8) rfl Tryz.func110 (bU.calls (w:=_) (h:=A3.out)) ?_;rintro _ ⟨nd,rfl⟩)|((with_reducible refine gd 10 rfl ?_);refine gC (some 10) rfl Tryz.func110 (bU.calls (w:=_) (h:=A4.out)) ?_;rintro _ ⟨nd,rfl⟩))
  ·
   go_ret
   exact ⟨by first|rfl|(simp;done)|(simp [*];done),by repeat (first|exact aI.refl _|apply aI.step)⟩
  ·
   go_ret
   exact ⟨by first|rfl|(simp;done)|(simp [*];done),by repeat (first|exact aI.refl _|apply aI.step)⟩
 ·
  replace c5:=Bool.eq_false_iff.mpr c5
  subst c5
  rw [if_neg (show ¬ (false=true) by decide)] at H
  try dsimp only at H
  by_cases c7:t545=true
  ·
   subst c7
   rw [if_pos rfl] at H
   try dsimp only at H
   obtain rfl:=Option.some.inj H
   go_enter Tryz.func77,Tryz.ntmps77
   go_wp2_with (first|((with_reducible refine gd 8 rfl ?_);refine gC (some 8) rfl Tryz.func110 (bU.calls (w:=_) (h:=A3.out)) ?_;rintro _ ⟨nd,rfl⟩)|((with_reducible refine gd 10 rfl ?_);refine gC (some 10) rfl Tryz.func110 (bU.calls (w:=_) (h:=A4.out)) ?_;rintro _ ⟨nd,rfl⟩))
   go_ret
   exact ⟨by first|rfl|(simp;done)|(simp [*];done),by repeat (first|exact aI.refl _|apply aI.step)⟩
  ·
   replace c7:=Bool.eq_false_iff.mpr c7
   subst c7
   rw [if_neg (show ¬ (false=true) by decide)] at H
   try dsimp only at H
   by_cases c8:a0<a1
   ·
    rw [if_pos c8] at H
    have c8b0:=decide_eq_true c8
    clear c8
    obtain rfl:=Option.some.inj H
    go_enter Tryz.func77,Tryz.ntmps77
    go_wp2_with (first|((with_reducible refine gd 8 rfl ?_);refine gC (some 8) rfl Tryz.func110 (bU.calls (w:=_) (h:=A3.out)) ?_;rintro _ ⟨nd,rfl⟩)|((with_reducible refine gd 10 rfl ?_);refine gC (some 10) rfl Tryz.func110 (bU.calls (w:=_) (h:=A4.out)) ?_;rintro _ ⟨nd,rfl⟩))
    go_ret
    exact ⟨by first|rfl|(simp;done)|(simp [*];done),by repeat (first|exact aI.refl _|apply aI.step)⟩
   ·
    rw [if_neg c8] at H
    have c8b0:=decide_eq_false c8
    clear c8
    by_cases c9:a0>a1
    focus
     rw [if_pos c9] at H
     have c9b0:decide (a1<a0)=true:=decide_eq_true c9
     clear c9
     obtain rfl:=Option.some.inj H
    rotate_left
    focus
     rw [if_neg c9] at H
     have c9b0:decide (a1<a0)=false:=decide_eq_false c9
     clear c9
     obtain rfl:=Option.some.inj H
    rotate_left
    all_goals
     go_enter Tryz.func77,Tryz.ntmps77
     go_wp2_with (first|((with_reducible refine gd 8 rfl ?_);refine gC (some 8) rfl Tryz.func110 (bU.calls (w:=_) (h:=A3.out)) ?_;rintro _ ⟨nd,rfl⟩)|((with_reducible refine gd 10 rfl ?_);refine gC (some 10) rfl Tryz.func110 (bU.calls (w:=_) (h:=A4.out)) ?_;rintro _ ⟨nd,rfl⟩))
    ·
     go_ret
     exact ⟨by first|rfl|(simp;done)|(simp [*];done),by repeat (first|exact aI.refl _|apply aI.step)⟩
    ·
     go_ret
     exact ⟨by first|rfl|(simp;done)|(simp [*];done),by repeat (first|exact aI.refl _|apply aI.step)⟩
end Go.Proofs.YtnhiehpbkimaeaaGreat.PAll
