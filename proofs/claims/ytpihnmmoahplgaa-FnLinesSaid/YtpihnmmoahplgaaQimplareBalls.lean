import Derived.Test.YtpihnmmoahplgaaQx
import Derived.Test.YtpihnmmoahplgaaQimplIsBall
import Derived.Test.YtpihnmmoahplgaaQspecl01End
namespace Go.Proofs.Ytpihnmmoahplgaa.PAll
open Go.RowKit Go.Proofs.YtpihnmmoahplgaaW.PrintWords Go.Proofs.YtpihnmmoahplgaaW.PrintLast Go.Proofs.YtpihnmmoahplgaaW.PrintMore
attribute [local go_sem] Go.Proofs.Ytpihnmmoahplgaa.Aux.setCell_drewN Go.Proofs.Ytpihnmmoahplgaa.Aux.isSome_setCell Go.Proofs.Ytpihnmmoahplgaa.Aux.max_eight bq bo cG cF ba bZ bp bm
set_option linter.unusedVariables false
set_option linter.unusedSimpArgs false
def b7.l0:Nat→Int→List (S25)→Int→Int→Option (Bool)
 | 0,_,_,_,_=>none
 | k+1,x0,x7,x8,x9=>if x9<x8 then (if 0≤x9 then (if x9<(x7.length:Int) then ((bj.f k x0 ((an x7 x9).f0) ((an x7 x9).f1) ((an x7 x9).f2)).bind fun t385=>(if t385=true then (b7.l0 k x0 x7 x8 (wrap64 (x9+1))) else (some false))) else (none)) else (none)) else ((av.f x0).bind fun t386=>(some t386))
def b7.f (k:Nat) (a0:Int) (l1:List (S25)):Option (Bool):=b7.l0 k a0 l1 (l1.length:Int) 0
set_option maxHeartbeats 8000000 in
set_option maxRecDepth 100000 in
theorem b7.calls (k:Nat) (a0:Int) (A1:Option Addr) (c1:Nat) (l1:List (S25)) (r:Bool) (w:World) (hr1:Kd.C k25 w A1 l1.length l1) (hc1:l1.length≤c1) (h:b7.f k a0 l1=some r) :
  Calls Try.prog 48 #[.int .i64 a0,.slice A1 l1.length c1] w fun e w'=>e=.returned (.bool r)∧Below w.heap.size w w':=by
 have hu25:=Try.underlying25
 have HR1:=aA.mk hr1
 have HC1:=aA.mk hc1
 clear hr1 hc1
 have HB:=aA.mk (Below.refl w.heap.size w)
 have H:=h
 unfold b7.f at H
 clear h
 have H':=aA.mk H
 clear H
 go_enter Try.func48,Try.ntmps48
 go_wp2
 go_loopg [9] k (fun kq v9 w'=>∃ (x9_1:Int),v9=.int .i64 x9_1∧aA (b7.l0 kq a0 l1 (l1.length:Int) x9_1=some r)∧aA (kq≤k)∧aA (Below w.heap.size w w'))
 case atStart=>exact ⟨(0),hB,H',⟨Nat.le_refl _⟩,⟨blA⟩⟩
 case round=>
  clear H'
  try clear c1
  obtain ⟨x9_1,rfl,HA,HK1,HB⟩:=hrel
  cases gk with
  | zero=>exact absurd HA.out (by simp [b7.l0])
  | succ k1=>
   have H:=HA.out
   clear HA
   simp only [b7.l0] at H
   by_cases c3:x9_1<(l1.length:Int)
   ·
    rw [if_pos c3] at H
    have c3b0:=decide_eq_true c3
    clear c3
    by_cases c4:0≤x9_1
    rotate_left
    ·
     rw [if_neg c4] at H
     exact absurd H (by simp)
    rw [if_pos c4] at H
    have c4b0:=decide_eq_true c4
    clear c4
    by_cases c5:x9_1<(l1.length:Int)
    rotate_left
    ·
     rw [if_neg c5] at H
     exact absurd H (by simp)
    rw [if_pos c5] at H
    have c5b0:=decide_eq_true c5
    clear c5
    replace H:=bS H
    obtain ⟨t385,A6,H⟩:=H
    try dsimp only at H
    by_cases c7:t385=true
    focus
     subst c7
     rw [if_pos rfl] at H
     try dsimp only at H
     have H':=aA.mk H
     clear H
     have p383:0≤(x9_1:Int):=dA
     have q383:x9_1<(l1.length:Int):=dA
     obtain ⟨ad383,e383,hx383_0,hx383_1,hx383_2⟩:=eH HR1.out x9_1 p383 q383
     cases e383
     replace hx383_0:=(HB.out.cell (World.block_lt_of_cell? w _ hx383_0)).trans hx383_0
     replace hx383_1:=(HB.out.cell (World.block_lt_of_cell? w _ hx383_1)).trans hx383_1
     replace hx383_2:=(HB.out.cell (World.block_lt_of_cell? w _ hx383_2)).trans hx383_2
     replace p383:=eq_true p383
     replace q383:=eq_true q383
    rotate_left
    focus
     replace c7:=Bool.eq_false_iff.mpr c7
     subst c7
     rw [if_neg (show ¬ (false=true) by decide)] at H
     try dsimp only at H
     obtain rfl:=Option.some.inj H
     have p383:0≤(x9_1:Int):=dA
     have q383:x9_1<(l1.length:Int):=dA
     obtain ⟨ad383,e383,hx383_0,hx383_1,hx383_2⟩:=eH HR1.out x9_1 p383 q383
     cases e383
     replace hx383_0:=(HB.out.cell (World.block_lt_of_cell? w _ hx383_0)).trans hx383_0
     replace hx383_1:=(HB.out.cell (World.block_lt_of_cell? w _ hx383_1)).trans hx383_1
     replace hx383_2:=(HB.out.cell (World.block_lt_of_cell? w _ hx383_2)).trans hx383_2
     replace p383:=eq_true p383
     replace q383:=eq_true q383
    rotate_left
    all_goals
     go_wp2_with (first|((with_reducible refine aH (N:=6) rfl ?_);refine bxE (cs:=#[.int .i64 0,.int .i64 0,.int .i64 0]) (t:=25) ?_;intro gb384 hg w8 hbox hb;have BK384:=aA.mk hbox;have GW384:=sA hg;have GE384:=sA hg;replace HB:=lB hb;clear hb hbox hg;obtain ⟨hcz9_0,hcz9_1,hcz9_2,hfz9_0,hfz9_1,hfz9_2⟩:=cz3 BK384)|((with_reducible refine gd 15 rfl ?_);refine gC (some 15) rfl Try.func81 (bj.calls (w:=_) (h:=A6.out)) ?_;intro w10 hb;replace BK384:=aA.mk (aE (g:=gb384) (o:=.cells #[.int .i64 ((an l1 x9_1).f0),.int .i64 ((an l1 x9_1).f1),.int .i64 ((an l1 x9_1).f2)] 25 (0,0)) (bpA BK384) hb);replace HB:=lB hb;clear hb))
    ·
     go_roundg k1
     case measure=>have:=HK1.out;omega
     case rel=>exact ⟨(wrap64 (x9_1+1)),hB,H',⟨by have:=HK1.out;omega⟩,⟨blA⟩⟩
    ·
     go_ret
     exact bU blA
   ·
    rw [if_neg c3] at H
    have c3b0:=decide_eq_false c3
    clear c3
    replace H:=bS H
    obtain ⟨t386,A14,H⟩:=H
    try dsimp only at H
    obtain rfl:=Option.some.inj H
    go_wp2_with (first|((with_reducible refine gd 19 rfl ?_);refine gC (some 19) rfl Try.func31 (av.calls (w:=_) (h:=A14.out)) ?_;rintro _ ⟨nd,rfl⟩))
    go_ret
    exact bU blA
end Go.Proofs.Ytpihnmmoahplgaa.PAll
