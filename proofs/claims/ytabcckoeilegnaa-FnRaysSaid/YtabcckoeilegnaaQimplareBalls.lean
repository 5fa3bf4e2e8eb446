-- turned out of the kit's print
import Derived.Test.YtabcckoeilegnaaQx
import Derived.Test.YtabcckoeilegnaaQimplmark
import Derived.Test.YtabcckoeilegnaaQimplmod
namespace Go.Proofs.Ytabcckoeilegnaa.PAll
open Go.RowKit Go.Proofs.YtabcckoeilegnaaW.PrintWords Go.Proofs.YtabcckoeilegnaaW.PrintLast Go.Proofs.YtabcckoeilegnaaW.PrintMore
attribute [local go_sem] Go.Proofs.Ytabcckoeilegnaa.Aux.setCell_drewN Go.Proofs.Ytabcckoeilegnaa.Aux.isSome_setCell max2_int min2_int max_two min_two max_three min_three max_four min_four
set_option linter.unusedVariables false
set_option linter.unusedSimpArgs false
attribute [local go_sem high] eqA25
def laws_balls5.l0:Nat→List (S25)→List (S25)→Int→Option (Bool)
 | 0,_,_,_=>none
 | k+1,x0,x1,x5=>if x5<(x0.length:Int) then (if 0≤x5 then (if x5<(x1.length:Int) then (if (!(((rd_T25 x0 x5).f0) == ((rd_T25 x1 x5).f0)) || (!(((rd_T25 x0 x5).f1) == ((rd_T25 x1 x5).f1)) || (!(((rd_T25 x0 x5).f2) == ((rd_T25 x1 x5).f2)))))=true then (some false) else (laws_balls5.l0 k x0 x1 (wrap64 (x5+1)))) else (none)) else (none)) else (some true)
def laws_balls5.f (k:Nat) (l0:List (S25)) (l1:List (S25)):Option (Bool):=if (l0.length:Int)=(l1.length:Int) then (laws_balls5.l0 k l0 l1 0) else (some false)
theorem laws_balls5.mono_l:∀ k,(∀ y0 y1 y2,LeO (laws_balls5.l0 k y0 y1 y2) (laws_balls5.l0 (k+1) y0 y1 y2))
 | 0=>fun _ _ _ r h=>by simp [laws_balls5.l0] at h
 | k+1=>by
  have ih0:=laws_balls5.mono_l k
  ·
   intro y0 y1 y2
   unfold laws_balls5.l0
   repeat' first
   | with_reducible first|exact ih0 ..|exact LeO.refl _|exact LeO.none _|refine LeO.ite ?_ ?_|refine LeO.bind ?_ fun _=>?_
theorem laws_balls5.mono:∀ a0 a1 k,LeO (laws_balls5.f k a0 a1) (laws_balls5.f (k+1) a0 a1):=by
 intro a0 a1 k
 have ih0:=laws_balls5.mono_l k
 unfold laws_balls5.f
 repeat' first
   | with_reducible first|exact ih0 ..|exact LeO.refl _|exact LeO.none _|refine LeO.ite ?_ ?_|refine LeO.bind ?_ fun _=>?_
set_option maxHeartbeats 8000000 in
set_option maxRecDepth 100000 in
theorem laws_balls5.calls (k:Nat) (A0:Option Addr) (c0:Nat) (l0:List (S25)) (A1:Option Addr) (c1:Nat) (l1:List (S25)) (r:Bool) (w:World) (hr0:Kd.C k25 w A0 l0.length l0) (hc0:l0.length≤c0) (hr1:Kd.C k25 w A1 l1.length l1) (hc1:l1.length≤c1) (h:laws_balls5.f k l0 l1=some r) :
  Calls Try.prog 8 #[.slice A0 l0.length c0,.slice A1 l1.length c1] w fun e w'=>e=.returned (.bool r)∧Drawn0 w w':=by
 have hu25:=Try.underlying25
 have HR0:=Aside0.mk hr0
 have HC0:=Aside0.mk hc0
 clear hr0 hc0
 have HR1:=Aside0.mk hr1
 have HC1:=Aside0.mk hc1
 clear hr1 hc1
 have H:=h
 unfold laws_balls5.f at H
 clear h
 by_cases c3:(l0.length:Int)=(l1.length:Int)
 focus
  rw [if_pos c3] at H
  have c3b0:((l0.length:Int) == (l1.length:Int))=true:=beq_iff_eq.mpr c3
  have c3b1:((l0.length:Int) != (l1.length:Int))=false:=bne_eq_false_iff_eq.mpr c3
  have c3b2:(l0.length == l1.length)=true:=by first|simpa using c3|(simp at c3 ⊢;omega)
  clear c3
  have H':=Aside0.mk H
  clear H
 rotate_left
 focus
  rw [if_neg c3] at H
  have c3b0:((l0.length:Int) == (l1.length:Int))=false:=beq_eq_false_iff_ne.mpr c3
  have c3b1:((l0.length:Int) != (l1.length:Int))=true:=bne_iff_ne.mpr c3
  have c3b2:(l0.length == l1.length)=false:=by first|simpa using c3|(simp at c3 ⊢;omega)
  obtain rfl:=Option.some.inj H
 rotate_left
 all_goals
  go_enter Try.func8,Try.ntmps8
  go_wp2
  repeat (go_quiet (fail);try go_wp2)
 ·
  go_loopg [5] k (fun kq v5 w'=>∃ (x5_1:Int),v5=.int .i64 x5_1∧Aside0 (laws_balls5.l0 kq l0 l1 x5_1=some r)∧Aside0 (kq≤k)∧Drawn0 w w')
  case atStart=>exact ⟨(0),hB,H',⟨Nat.le_refl _⟩,by repeat (first|exact Drawn0.refl _|apply Drawn0.step)⟩
  case round=>
   clear H'
   try clear c1
   try clear c3
   try clear c3b0
   try clear c3b1
   try clear c3b2
   obtain ⟨x5_1,rfl,HA,HK1,⟨m1,rfl⟩⟩:=hrel
   cases gk with
   | zero=>exact absurd HA.out (by simp [laws_balls5.l0])
   | succ k1=>
    have H:=HA.out
    clear HA
    simp only [laws_balls5.l0] at H
    by_cases c4:x5_1<(l0.length:Int)
    ·
     rw [if_pos c4] at H
     have c4b0:=decide_eq_true c4
     clear c4
     by_cases c5:0≤x5_1
     rotate_left
     ·
      rw [if_neg c5] at H
      exact absurd H (by simp)
     rw [if_pos c5] at H
     have c5b0:=decide_eq_true c5
     clear c5
     by_cases c6:x5_1<(l1.length:Int)
     rotate_left
     ·
      rw [if_neg c6] at H
      exact absurd H (by simp)
     rw [if_pos c6] at H
     have c6b0:=decide_eq_true c6
     clear c6
     by_cases c7:(!(((rd_T25 l0 x5_1).f0) == ((rd_T25 l1 x5_1).f0)) || (!(((rd_T25 l0 x5_1).f1) == ((rd_T25 l1 x5_1).f1)) || (!(((rd_T25 l0 x5_1).f2) == ((rd_T25 l1 x5_1).f2)))))=true
     ·
      rw [if_pos c7] at H
      have c7b0:(!(((rd_T25 l0 x5_1).f0) == ((rd_T25 l1 x5_1).f0)) || (!(((rd_T25 l0 x5_1).f1) == ((rd_T25 l1 x5_1).f1)) || (!(((rd_T25 l0 x5_1).f2) == ((rd_T25 l1 x5_1).f2)))))=true:=c7
      clear c7
      obtain rfl:=Option.some.inj H
      have p521:0≤(x5_1:Int):=dA
      have q521:x5_1<(l0.length:Int):=dA
      obtain ⟨ad521,e521,hx521_0,hx521_1,hx521_2⟩:=at_T25 HR0.out x5_1 p521 q521
      cases e521
      replace p521:=eq_true p521
      replace q521:=eq_true q521
      have p522:0≤(x5_1:Int):=dA
      have q522:x5_1<(l1.length:Int):=dA
      obtain ⟨ad522,e522,hx522_0,hx522_1,hx522_2⟩:=at_T25 HR1.out x5_1 p522 q522
      cases e522
      replace p522:=eq_true p522
      replace q522:=eq_true q522
      go_wp2
      repeat (go_quiet (fail);try go_wp2)
      go_ret
      exact ⟨by first|rfl|(simp;done)|(simp [*];done),by repeat (first|exact Drawn0.refl _|apply Drawn0.step)⟩
     ·
      rw [if_neg c7] at H
      have c7b0:(!(((rd_T25 l0 x5_1).f0) == ((rd_T25 l1 x5_1).f0)) || (!(((rd_T25 l0 x5_1).f1) == ((rd_T25 l1 x5_1).f1)) || (!(((rd_T25 l0 x5_1).f2) == ((rd_T25 l1 x5_1).f2)))))=false:=by simpa using c7
      clear c7
      have H':=Aside0.mk H
      clear H
      have p521:0≤(x5_1:Int):=dA
      have q521:x5_1<(l0.length:Int):=dA
      obtain ⟨ad521,e521,hx521_0,hx521_1,hx521_2⟩:=at_T25 HR0.out x5_1 p521 q521
      cases e521
      replace p521:=eq_true p521
      replace q521:=eq_true q521
      have p522:0≤(x5_1:Int):=dA
      have q522:x5_1<(l1.length:Int):=dA
      obtain ⟨ad522,e522,hx522_0,hx522_1,hx522_2⟩:=at_T25 HR1.out x5_1 p522 q522
      cases e522
      replace p522:=eq_true p522
      replace q522:=eq_true q522
      go_wp2
      repeat (go_quiet (fail);try go_wp2)
      go_roundg k1
      case measure=>have:=HK1.out;omega
      case rel=>exact ⟨(wrap64 (x5_1+1)),hB,H',⟨by have:=HK1.out;omega⟩,by repeat (first|exact Drawn0.refl _|apply Drawn0.step)⟩
    ·
     rw [if_neg c4] at H
     have c4b0:=decide_eq_false c4
     clear c4
     obtain rfl:=Option.some.inj H
     go_wp2
     repeat (go_quiet (fail);try go_wp2)
     go_ret
     exact ⟨by first|rfl|(simp;done)|(simp [*];done),by repeat (first|exact Drawn0.refl _|apply Drawn0.step)⟩
 ·
  go_ret
  exact ⟨by first|rfl|(simp;done)|(simp [*];done),by repeat (first|exact Drawn0.refl _|apply Drawn0.step)⟩
def impl_areBalls.l0:Nat→Int→List (S25)→Int→Int→Option (Bool)
 | 0,_,_,_,_=>none
 | k+1,x0,x7,x8,x9=>if x9<x8 then (if 0≤x9 then (if x9<(x7.length:Int) then ((impl_IsBall.f k x0 ((rd_T25 x7 x9).f0) ((rd_T25 x7 x9).f1) ((rd_T25 x7 x9).f2)).bind fun t525=>(if t525=true then (impl_areBalls.l0 k x0 x7 x8 (wrap64 (x9+1))) else (some false))) else (none)) else (none)) else ((impl_isPrime.f x0).bind fun t526=>(some t526))
def impl_areBalls.f (k:Nat) (a0:Int) (l1:List (S25)):Option (Bool):=impl_areBalls.l0 k a0 l1 (l1.length:Int) 0
theorem impl_areBalls.mono_l:∀ k,(∀ y0 y1 y2 y3,LeO (impl_areBalls.l0 k y0 y1 y2 y3) (impl_areBalls.l0 (k+1) y0 y1 y2 y3))
 | 0=>fun _ _ _ _ r h=>by simp [impl_areBalls.l0] at h
 | k+1=>by
  have ih0:=impl_areBalls.mono_l k
  ·
   intro y0 y1 y2 y3
   unfold impl_areBalls.l0
   repeat' first
   | with_reducible first|exact ih0 ..|exact impl_IsBall.mono ..|exact LeO.refl _|exact LeO.none _|refine LeO.ite ?_ ?_|refine LeO.bind ?_ fun _=>?_
theorem impl_areBalls.mono:∀ a0 a1 k,LeO (impl_areBalls.f k a0 a1) (impl_areBalls.f (k+1) a0 a1):=by
 intro a0 a1 k
 have ih0:=impl_areBalls.mono_l k
 unfold impl_areBalls.f
 repeat' first
   | with_reducible first|exact ih0 ..|exact impl_IsBall.mono ..|exact LeO.refl _|exact LeO.none _|refine LeO.ite ?_ ?_|refine LeO.bind ?_ fun _=>?_
set_option maxHeartbeats 8000000 in
set_option maxRecDepth 100000 in
theorem impl_areBalls.calls (k:Nat) (a0:Int) (A1:Option Addr) (c1:Nat) (l1:List (S25)) (r:Bool) (w:World) (hr1:Kd.C k25 w A1 l1.length l1) (hc1:l1.length≤c1) (h:impl_areBalls.f k a0 l1=some r) :
  Calls Try.prog 34 #[.int .i64 a0,.slice A1 l1.length c1] w fun e w'=>e=.returned (.bool r)∧Below w.heap.size w w':=by
 have hu25:=Try.underlying25
 have HR1:=Aside0.mk hr1
 have HC1:=Aside0.mk hc1
 clear hr1 hc1
 have HB:=Aside0.mk (Below.refl w.heap.size w)
 have H:=h
 unfold impl_areBalls.f at H
 clear h
 have H':=Aside0.mk H
 clear H
 go_enter Try.func34,Try.ntmps34
 go_wp2
 go_loopg [9] k (fun kq v9 w'=>∃ (x9_1:Int),v9=.int .i64 x9_1∧Aside0 (impl_areBalls.l0 kq a0 l1 (l1.length:Int) x9_1=some r)∧Aside0 (kq≤k)∧Aside0 (Below w.heap.size w w'))
 case atStart=>exact ⟨(0),hB,H',⟨Nat.le_refl _⟩,⟨blA⟩⟩
 case round=>
  clear H'
  try clear c1
  obtain ⟨x9_1,rfl,HA,HK1,HB⟩:=hrel
  cases gk with
  | zero=>exact absurd HA.out (by simp [impl_areBalls.l0])
  | succ k1=>
   have H:=HA.out
   clear HA
   simp only [impl_areBalls.l0] at H
   by_cases c3:x9_1<(l1.length:Int)
   ·
    rw [if_pos c3] at H
    have c3b0:=decide_eq_true c3
    clear c3
    by_cases c4:0≤x9_1
    rotate_left
    ·
     rw [if_neg c4] at H
     exact absurd H (by simp)
    rw [if_pos c4] at H
    have c4b0:=decide_eq_true c4
    clear c4
    by_cases c5:x9_1<(l1.length:Int)
    rotate_left
    ·
     rw [if_neg c5] at H
     exact absurd H (by simp)
    rw [if_pos c5] at H
    have c5b0:=decide_eq_true c5
    clear c5
    replace H:=bS H
    obtain ⟨t525,A6,H⟩:=H
    try dsimp only at H
    by_cases c7:t525=true
    focus
     subst c7
     rw [if_pos rfl] at H
     try dsimp only at H
     have H':=Aside0.mk H
     clear H
     have p523:0≤(x9_1:Int):=dA
     have q523:x9_1<(l1.length:Int):=dA
     obtain ⟨ad523,e523,hx523_0,hx523_1,hx523_2⟩:=at_T25 HR1.out x9_1 p523 q523
     cases e523
     replace hx523_0:=(HB.out.cell (World.block_lt_of_cell? w _ hx523_0)).trans hx523_0
     replace hx523_1:=(HB.out.cell (World.block_lt_of_cell? w _ hx523_1)).trans hx523_1
     replace hx523_2:=(HB.out.cell (World.block_lt_of_cell? w _ hx523_2)).trans hx523_2
     replace p523:=eq_true p523
     replace q523:=eq_true q523
    rotate_left
    focus
     replace c7:=Bool.eq_false_iff.mpr c7
     subst c7
     rw [if_neg (show ¬ (false=true) by decide)] at H
     try dsimp only at H
     obtain rfl:=Option.some.inj H
     have p523:0≤(x9_1:Int):=dA
     have q523:x9_1<(l1.length:Int):=dA
     obtain ⟨ad523,e523,hx523_0,hx523_1,hx523_2⟩:=at_T25 HR1.out x9_1 p523 q523
     cases e523
     replace hx523_0:=(HB.out.cell (World.block_lt_of_cell? w _ hx523_0)).trans hx523_0
     replace hx523_1:=(HB.out.cell (World.block_lt_of_cell? w _ hx523_1)).trans hx523_1
     replace hx523_2:=(HB.out.cell (World.block_lt_of_cell? w _ hx523_2)).trans hx523_2
     replace p523:=eq_true p523
     replace q523:=eq_true q523
    rotate_left
    all_goals
     go_wp2_with (first|((with_reducible refine gate_dst (N:=6) rfl ?_);refine bxE (cs:=#[.int .i64 0,.int .i64 0,.int .i64 0]) (t:=25) ?_;intro gb524 hg w8 hbox hb;have BK524:=Aside0.mk hbox;have GW524:=sA hg;have GE524:=sA hg;replace HB:=lB hb;clear hb hbox hg;obtain ⟨hcz9_0,hcz9_1,hcz9_2,hfz9_0,hfz9_1,hfz9_2⟩:=cz3 BK524)|((with_reducible refine gd 15 rfl ?_);refine gC (some 15) rfl Try.func27 (impl_IsBall.calls (w:=_) (h:=A6.out)) ?_;intro w10 hb;have n0_:=Aside0.mk (blk_below (g:=gb524) (o:=.cells #[.int .i64 ((rd_T25 l1 x9_1).f0),.int .i64 ((rd_T25 l1 x9_1).f1),.int .i64 ((rd_T25 l1 x9_1).f2)] 25 (0,0)) (bpA BK524) hb);have n1_:=lB hb;clear BK524;clear HB;have BK524:=n0_;have HB:=n1_;clear n0_ n1_;clear hb))
    ·
     go_roundg k1
     case measure=>have:=HK1.out;omega
     case rel=>exact ⟨(wrap64 (x9_1+1)),hB,H',⟨by have:=HK1.out;omega⟩,⟨blA⟩⟩
    ·
     go_ret
     exact finA blA
   ·
    rw [if_neg c3] at H
    have c3b0:=decide_eq_false c3
    clear c3
    replace H:=bS H
    obtain ⟨t526,A14,H⟩:=H
    try dsimp only at H
    obtain rfl:=Option.some.inj H
    go_wp2_with (first|((with_reducible refine gd 19 rfl ?_);refine gC (some 19) rfl Try.func55 (impl_isPrime.calls (w:=_) (h:=A14.out)) ?_;rintro _ ⟨nd,rfl⟩))
    go_ret
    exact finA blA
end Go.Proofs.Ytabcckoeilegnaa.PAll
