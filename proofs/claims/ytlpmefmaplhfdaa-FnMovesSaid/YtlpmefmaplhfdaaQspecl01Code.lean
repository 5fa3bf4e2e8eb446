-- turned out of the kit's print
import Derived.Test.YtlpmefmaplhfdaaQx
import Derived.Test.YtlpmefmaplhfdaaQbitsLeadingZeros64
import Derived.Test.YtlpmefmaplhfdaaQimplofMark
import Derived.Test.YtlpmefmaplhfdaaQspecl01Is
namespace Go.Proofs.Ytlpmefmaplhfdaa.PAll
open Go.RowKit Go.Proofs.YtlpmefmaplhfdaaW.PrintWords Go.Proofs.YtlpmefmaplhfdaaW.PrintLast Go.Proofs.YtlpmefmaplhfdaaW.PrintMore
attribute [local go_sem] Go.Proofs.Ytlpmefmaplhfdaa.Aux.setCell_drewN Go.Proofs.Ytlpmefmaplhfdaa.Aux.isSome_setCell max2_int min2_int max_two min_two max_three min_three max_four min_four
set_option linter.unusedVariables false
set_option linter.unusedSimpArgs false
def impl_times.f (k:Nat) (a0 a1 a2:Int):Option (Int):=(impl_mod.f a0 a2).bind fun t332=>((impl_mod.f a1 a2).bind fun t333=>((bits_Mul64.f (IntKind.u64.wrap (t332)) (IntKind.u64.wrap (t333))).bind fun bt334=>(if (IntKind.u64.wrap (a2))=0 then (none) else ((bits_Div64.f k (Int.tmod bt334.1 (IntKind.u64.wrap (a2))) bt334.2 (IntKind.u64.wrap (a2))).bind fun bt336=>(some (wrap64 (bt336.2)))))))
theorem impl_times.mono:∀ a0 a1 a2 k,LeO (impl_times.f k a0 a1 a2) (impl_times.f (k+1) a0 a1 a2):=by
 intro a0 a1 a2 k
 unfold impl_times.f
 repeat' first
   | with_reducible first|exact bits_Div64.mono ..|exact LeO.refl _|exact LeO.none _|refine LeO.ite ?_ ?_|refine LeO.bind ?_ fun _=>?_
set_option maxHeartbeats 8000000 in
set_option maxRecDepth 100000 in
theorem impl_times.calls (k:Nat) (a0 a1 a2 r:Int) (w:World) (h:impl_times.f k a0 a1 a2=some r) :
  Calls Try.prog 121 #[.int .i64 a0,.int .i64 a1,.int .i64 a2] w fun e w'=>e=.returned (.int .i64 r)∧Drawn0 w w':=by
 have H:=h
 unfold impl_times.f at H
 clear h
 replace H:=bS H
 obtain ⟨t332,A4,H⟩:=H
 try dsimp only at H
 replace H:=bS H
 obtain ⟨t333,A5,H⟩:=H
 try dsimp only at H
 replace H:=bS H
 obtain ⟨⟨t334,t335⟩,A6,H⟩:=H
 try dsimp only at H
 by_cases c7:(IntKind.u64.wrap (a2))=0
 ·
  rw [if_pos c7] at H
  exact absurd H (by simp)
 rw [if_neg c7] at H
 have c7b0:((IntKind.u64.wrap (a2)) == 0)=false:=beq_eq_false_iff_ne.mpr c7
 have c7b1:((IntKind.u64.wrap (a2)) != 0)=true:=bne_iff_ne.mpr c7
 replace H:=bS H
 obtain ⟨⟨t336,t337⟩,A8,H⟩:=H
 try dsimp only at H
 obtain rfl:=Option.some.inj H
 go_enter Try.func121,Try.ntmps121
 go_wp2_with (first|((with_reducible refine gd 14 rfl ?_);refine gC (some 14) rfl Try.func127 (impl_mod.calls (w:=_) (h:=A4.out)) ?_;rintro _ ⟨nd,rfl⟩)|((with_reducible refine gd 18 rfl ?_);refine gC (some 18) rfl Try.func127 (impl_mod.calls (w:=_) (h:=A5.out)) ?_;rintro _ ⟨nd,rfl⟩)|((with_reducible refine gd 20 rfl ?_);refine gC (some 20) rfl Try.func132 (bits_Mul64.calls (w:=_) (h:=A6.out)) ?_;rintro _ ⟨nd,rfl⟩)|((with_reducible refine gd 31 rfl ?_);refine gC (some 31) rfl Try.func133 (bits_Div64.calls (w:=_) (h:=A8.out)) ?_;rintro _ ⟨nd,rfl⟩))
 go_ret
 exact ⟨by first|rfl|(simp;done)|(simp [*];done),by repeat (first|exact Drawn0.refl _|apply Drawn0.step)⟩
def spec_l01Code.l0:Nat→Int→List (S28)→Int→Option (Int)
 | 0,_,_,_=>none
 | k+1,x0,x1,x5=>if x5<(x1.length:Int) then (if 0≤x5 then ((spec_l01Is.f k x0 ((rd_T28 x1 x5).f0) ((rd_T28 x1 x5).f1) ((rd_T28 x1 x5).f2)).bind fun t395=>(if t395=true then (spec_l01Code.l0 k x0 x1 (wrap64 (x5+1))) else (some 1))) else (none)) else (some 0)
def spec_l01Code.f (k:Nat) (a0:Int) (l1:List (S28)):Option (Int):=(spec_l01Prime.f a0).bind fun t393=>(if t393=true then (spec_l01Code.l0 k a0 l1 0) else (some 1))
theorem spec_l01Code.mono_l:∀ k,(∀ y0 y1 y2,LeO (spec_l01Code.l0 k y0 y1 y2) (spec_l01Code.l0 (k+1) y0 y1 y2))
 | 0=>fun _ _ _ r h=>by simp [spec_l01Code.l0] at h
 | k+1=>by
  have ih0:=spec_l01Code.mono_l k
  ·
   intro y0 y1 y2
   unfold spec_l01Code.l0
   repeat' first
   | with_reducible first|exact ih0 ..|exact spec_l01Is.mono ..|exact LeO.refl _|exact LeO.none _|refine LeO.ite ?_ ?_|refine LeO.bind ?_ fun _=>?_
theorem spec_l01Code.mono:∀ a0 a1 k,LeO (spec_l01Code.f k a0 a1) (spec_l01Code.f (k+1) a0 a1):=by
 intro a0 a1 k
 have ih0:=spec_l01Code.mono_l k
 unfold spec_l01Code.f
 repeat' first
   | with_reducible first|exact ih0 ..|exact spec_l01Is.mono ..|exact LeO.refl _|exact LeO.none _|refine LeO.ite ?_ ?_|refine LeO.bind ?_ fun _=>?_
set_option maxHeartbeats 8000000 in
set_option maxRecDepth 100000 in
theorem spec_l01Code.calls (k:Nat) (a0:Int) (A1:Option Addr) (c1:Nat) (l1:List (S28)) (r:Int) (w:World) (hr1:Kd.C k28 w A1 l1.length l1) (hc1:l1.length≤c1) (h:spec_l01Code.f k a0 l1=some r) :
  Calls Try.prog 93 #[.int .i64 a0,.slice A1 l1.length c1] w fun e w'=>e=.returned (.int .i64 r)∧Below w.heap.size w w':=by
 have hu28:=Try.underlying28
 have HR1:=Aside0.mk hr1
 have HC1:=Aside0.mk hc1
 clear hr1 hc1
 have HB:=Aside0.mk (Below.refl w.heap.size w)
 have H:=h
 unfold spec_l01Code.f at H
 clear h
 replace H:=bS H
 obtain ⟨t393,A3,H⟩:=H
 try dsimp only at H
 by_cases c4:t393=true
 focus
  subst c4
  rw [if_pos rfl] at H
  try dsimp only at H
  have H':=Aside0.mk H
  clear H
 rotate_left
 focus
  replace c4:=Bool.eq_false_iff.mpr c4
  subst c4
  rw [if_neg (show ¬ (false=true) by decide)] at H
  try dsimp only at H
  obtain rfl:=Option.some.inj H
 rotate_left
 all_goals
  go_enter Try.func93,Try.ntmps93
  go_wp2_with (first|((with_reducible refine gd 7 rfl ?_);refine gC (some 7) rfl Try.func106 (spec_l01Prime.calls (w:=_) (h:=A3.out)) ?_;rintro _ ⟨nd,rfl⟩))
 ·
  go_loopg [5] k (fun kq v5 w'=>∃ (x5_1:Int),v5=.int .i64 x5_1∧Aside0 (spec_l01Code.l0 kq a0 l1 x5_1=some r)∧Aside0 (kq≤k)∧Aside0 (Below w.heap.size w w'))
  case atStart=>exact ⟨(0),hB,H',⟨Nat.le_refl _⟩,⟨blA⟩⟩
  case round=>
   clear H'
   try clear c1
   try clear c4
   obtain ⟨x5_1,rfl,HA,HK1,HB⟩:=hrel
   cases gk with
   | zero=>exact absurd HA.out (by simp [spec_l01Code.l0])
   | succ k1=>
    have H:=HA.out
    clear HA
    simp only [spec_l01Code.l0] at H
    by_cases c5:x5_1<(l1.length:Int)
    ·
     rw [if_pos c5] at H
     have c5b0:=decide_eq_true c5
     clear c5
     by_cases c6:0≤x5_1
     rotate_left
     ·
      rw [if_neg c6] at H
      exact absurd H (by simp)
     rw [if_pos c6] at H
     have c6b0:=decide_eq_true c6
     clear c6
     replace H:=bS H
     obtain ⟨t395,A7,H⟩:=H
     try dsimp only at H
     by_cases c8:t395=true
     focus
      subst c8
      rw [if_pos rfl] at H
      try dsimp only at H
      have H':=Aside0.mk H
      clear H
      have p394:0≤(x5_1:Int):=dA
      have q394:x5_1<(l1.length:Int):=dA
      obtain ⟨ad394,e394,hx394_0,hx394_1,hx394_2⟩:=at_T28 HR1.out x5_1 p394 q394
      cases e394
      replace hx394_0:=(HB.out.cell (World.block_lt_of_cell? w _ hx394_0)).trans hx394_0
      replace hx394_1:=(HB.out.cell (World.block_lt_of_cell? w _ hx394_1)).trans hx394_1
      replace hx394_2:=(HB.out.cell (World.block_lt_of_cell? w _ hx394_2)).trans hx394_2
      replace p394:=eq_true p394
      replace q394:=eq_true q394
     rotate_left
     focus
      replace c8:=Bool.eq_false_iff.mpr c8
      subst c8
      rw [if_neg (show ¬ (false=true) by decide)] at H
      try dsimp only at H
      obtain rfl:=Option.some.inj H
      have p394:0≤(x5_1:Int):=dA
      have q394:x5_1<(l1.length:Int):=dA
      obtain ⟨ad394,e394,hx394_0,hx394_1,hx394_2⟩:=at_T28 HR1.out x5_1 p394 q394
      cases e394
      replace hx394_0:=(HB.out.cell (World.block_lt_of_cell? w _ hx394_0)).trans hx394_0
      replace hx394_1:=(HB.out.cell (World.block_lt_of_cell? w _ hx394_1)).trans hx394_1
      replace hx394_2:=(HB.out.cell (World.block_lt_of_cell? w _ hx394_2)).trans hx394_2
      replace p394:=eq_true p394
      replace q394:=eq_true q394
     rotate_left
     all_goals
      go_wp2_with (first|((with_reducible refine gd 20 rfl ?_);refine gC (some 20) rfl Try.func124 (spec_l01Is.calls (w:=_) (h:=A7.out)) ?_;intro w9 hb;replace HB:=lB hb;clear hb))
     ·
      go_roundg k1
      case measure=>have:=HK1.out;omega
      case rel=>exact ⟨(wrap64 (x5_1+1)),hB,H',⟨by have:=HK1.out;omega⟩,⟨blA⟩⟩
     ·
      go_ret
      exact finA blA
    ·
     rw [if_neg c5] at H
     have c5b0:=decide_eq_false c5
     clear c5
     obtain rfl:=Option.some.inj H
     go_wp2
     go_ret
     exact finA blA
 ·
  go_ret
  exact finA blA
end Go.Proofs.Ytlpmefmaplhfdaa.PAll
