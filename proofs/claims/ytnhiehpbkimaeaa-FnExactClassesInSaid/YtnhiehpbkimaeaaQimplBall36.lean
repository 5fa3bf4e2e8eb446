-- turned out of the kit's print
import Derived.Test.YtnhiehpbkimaeaaQx
namespace Go.Proofs.Ytnhiehpbkimaeaa.PAll
open Go.RowKit Go.Proofs.YtnhiehpbkimaeaaW.PrintWords Go.Proofs.YtnhiehpbkimaeaaW.PrintLast Go.Proofs.YtnhiehpbkimaeaaW.PrintMore
attribute [local go_sem] Go.Proofs.Ytnhiehpbkimaeaa.Aux.setCell_drewN Go.Proofs.Ytnhiehpbkimaeaa.Aux.isSome_setCell max2_int min2_int max_two min_two max_three min_three max_four min_four
set_option linter.unusedVariables false
set_option linter.unusedSimpArgs false
attribute [local go_sem high] eqA53
def spec_l06Find.l0:Nat→List (S53)→Int→Int→Int→Int→Option (Int)
 | 0,_,_,_,_,_=>none
 | k+1,x0,x5,x151000,x151001,x151002=>if x5<(x0.length:Int) then (if 0≤x5 then (if (((rd_T53 x0 x5).f0) == x151000 && (((rd_T53 x0 x5).f1) == x151001 && (((rd_T53 x0 x5).f2) == x151002)))=true then (some x5) else (spec_l06Find.l0 k x0 (wrap64 (x5+1)) x151000 x151001 x151002)) else (none)) else (some (-1))
def spec_l06Find.f (k:Nat) (l0:List (S53)) (a1_0 a1_1 a1_2:Int):Option (Int):=spec_l06Find.l0 k l0 0 a1_0 a1_1 a1_2
theorem spec_l06Find.mono_l:∀ k,(∀ y0 y1 y2 y3 y4,LeO (spec_l06Find.l0 k y0 y1 y2 y3 y4) (spec_l06Find.l0 (k+1) y0 y1 y2 y3 y4))
 | 0=>fun _ _ _ _ _ r h=>by simp [spec_l06Find.l0] at h
 | k+1=>by
  have ih0:=spec_l06Find.mono_l k
  ·
   intro y0 y1 y2 y3 y4
   unfold spec_l06Find.l0
   repeat' first
   | with_reducible first|exact ih0 ..|exact LeO.refl _|exact LeO.none _|refine LeO.ite ?_ ?_|refine LeO.bind ?_ fun _=>?_
theorem spec_l06Find.mono:∀ a0 a1 a2 a3 k,LeO (spec_l06Find.f k a0 a1 a2 a3) (spec_l06Find.f (k+1) a0 a1 a2 a3):=by
 intro a0 a1 a2 a3 k
 have ih0:=spec_l06Find.mono_l k
 unfold spec_l06Find.f
 repeat' first
   | with_reducible first|exact ih0 ..|exact LeO.refl _|exact LeO.none _|refine LeO.ite ?_ ?_|refine LeO.bind ?_ fun _=>?_
set_option maxHeartbeats 8000000 in
set_option maxRecDepth 100000 in
theorem spec_l06Find.calls (k:Nat) (A0:Option Addr) (c0:Nat) (l0:List (S53)) (a1_0 a1_1 a1_2 r:Int) (w:World) (hr0:Kd.C k53 w A0 l0.length l0) (hc0:l0.length≤c0) (h:spec_l06Find.f k l0 a1_0 a1_1 a1_2=some r) :
  Calls Try.prog 29 #[.slice A0 l0.length c0,.agg #[.int .i64 a1_0,.int .i64 a1_1,.int .i64 a1_2]] w fun e w'=>e=.returned (.int .i64 r)∧Below w.heap.size w w':=by
 have hu53:=Try.underlying53
 have HR0:=Aside0.mk hr0
 have HC0:=Aside0.mk hc0
 clear hr0 hc0
 have HB:=Aside0.mk (Below.refl w.heap.size w)
 have H:=h
 unfold spec_l06Find.f at H
 clear h
 have H':=Aside0.mk H
 clear H
 go_enter Try.func29,Try.ntmps29
 go_wp2_with (first|((with_reducible refine gate_dst (N:=3) rfl ?_);refine bxE (cs:=#[.int .i64 a1_0,.int .i64 a1_1,.int .i64 a1_2]) (t:=53) ?_;intro gb150 hg w3 hbox hb;have BK150:=Aside0.mk hbox;have GW150:=sA hg;have GE150:=sA hg;replace HB:=lB hb;clear hb hbox hg))
 repeat (go_quiet (first|((with_reducible refine gate_dst (N:=3) rfl ?_);refine bxE (cs:=#[.int .i64 a1_0,.int .i64 a1_1,.int .i64 a1_2]) (t:=53) ?_;intro gb150 hg w3 hbox hb;have BK150:=Aside0.mk hbox;have GW150:=sA hg;have GE150:=sA hg;replace HB:=lB hb;clear hb hbox hg));try go_wp2_with (first|((with_reducible refine gate_dst (N:=3) rfl ?_);refine bxE (cs:=#[.int .i64 a1_0,.int .i64 a1_1,.int .i64 a1_2]) (t:=53) ?_;intro gb150 hg w3 hbox hb;have BK150:=Aside0.mk hbox;have GW150:=sA hg;have GE150:=sA hg;replace HB:=lB hb;clear hb hbox hg)))
 go_loopg [5] k (fun kq v5 w'=>∃ (x5_1:Int),v5=.int .i64 x5_1∧Aside0 (spec_l06Find.l0 kq l0 x5_1 a1_0 a1_1 a1_2=some r)∧Aside0 (kq≤k)∧Aside0 (w'.heap[gb150]?=some (.cells #[.int .i64 a1_0,.int .i64 a1_1,.int .i64 a1_2] 53 (0,0)))∧Aside0 (Below w.heap.size w w'))
 case atStart=>exact ⟨(0),hB,H',⟨Nat.le_refl _⟩,⟨bkA BK150⟩,⟨blA⟩⟩
 case round=>
  clear H'
  obtain ⟨x5_1,rfl,HA,HK1,BK150,HB⟩:=hrel
  cases gk with
  | zero=>exact absurd HA.out (by simp [spec_l06Find.l0])
  | succ k1=>
   have H:=HA.out
   clear HA
   simp only [spec_l06Find.l0] at H
   by_cases c4:x5_1<(l0.length:Int)
   ·
    rw [if_pos c4] at H
    have c4b0:=decide_eq_true c4
    clear c4
    by_cases c5:0≤x5_1
    rotate_left
    ·
     rw [if_neg c5] at H
     exact absurd H (by simp)
    rw [if_pos c5] at H
    have c5b0:=decide_eq_true c5
    clear c5
    by_cases c6:(((rd_T53 l0 x5_1).f0) == a1_0 && (((rd_T53 l0 x5_1).f1) == a1_1 && (((rd_T53 l0 x5_1).f2) == a1_2)))=true
    ·
     rw [if_pos c6] at H
     have c6b0:(((rd_T53 l0 x5_1).f0) == a1_0 && (((rd_T53 l0 x5_1).f1) == a1_1 && (((rd_T53 l0 x5_1).f2) == a1_2)))=true:=c6
     (try (have c6b1:decide (((rd_T53 l0 x5_1).f0)=a1_0 && (((rd_T53 l0 x5_1).f1) == a1_1 && (((rd_T53 l0 x5_1).f2) == a1_2)))=true:=by simpa using c6))
     (try (have c6b2:(((rd_T53 l0 x5_1).f0) == a1_0 && (((rd_T53 l0 x5_1).f1) == a1_1 && (((rd_T53 l0 x5_1).f2) == a1_2)))=true:=by simpa using c6))
     clear c6
     obtain rfl:=Option.some.inj H
     have p151:0≤(x5_1:Int):=dA
     have q151:x5_1<(l0.length:Int):=dA
     obtain ⟨ad151,e151,hx151_0,hx151_1,hx151_2⟩:=at_T53 HR0.out x5_1 p151 q151
     cases e151
     replace hx151_0:=(HB.out.cell (World.block_lt_of_cell? w _ hx151_0)).trans hx151_0
     replace hx151_1:=(HB.out.cell (World.block_lt_of_cell? w _ hx151_1)).trans hx151_1
     replace hx151_2:=(HB.out.cell (World.block_lt_of_cell? w _ hx151_2)).trans hx151_2
     replace p151:=eq_true p151
     replace q151:=eq_true q151
     obtain ⟨hcz7_0,hcz7_1,hcz7_2,hfz7_0,hfz7_1,hfz7_2⟩:=cz3 BK150
     go_wp2
     repeat (go_quiet (fail);try go_wp2)
     go_ret
     exact finA blA
    ·
     rw [if_neg c6] at H
     have c6b0:(((rd_T53 l0 x5_1).f0) == a1_0 && (((rd_T53 l0 x5_1).f1) == a1_1 && (((rd_T53 l0 x5_1).f2) == a1_2)))=false:=by simpa using c6
     (try (have c6b1:decide (((rd_T53 l0 x5_1).f0)=a1_0 && (((rd_T53 l0 x5_1).f1) == a1_1 && (((rd_T53 l0 x5_1).f2) == a1_2)))=false:=by simpa using c6))
     (try (have c6b2:(((rd_T53 l0 x5_1).f0) == a1_0 && (((rd_T53 l0 x5_1).f1) == a1_1 && (((rd_T53 l0 x5_1).f2) == a1_2)))=false:=by simpa using c6))
     (try (have c6b3:¬ (((rd_T53 l0 x5_1).f0)=a1_0 && (((rd_T53 l0 x5_1).f1) == a1_1 && (((rd_T53 l0 x5_1).f2) == a1_2))):=by simpa using c6))
     clear c6
     have H':=Aside0.mk H
     clear H
     have p151:0≤(x5_1:Int):=dA
     have q151:x5_1<(l0.length:Int):=dA
     obtain ⟨ad151,e151,hx151_0,hx151_1,hx151_2⟩:=at_T53 HR0.out x5_1 p151 q151
     cases e151
     replace hx151_0:=(HB.out.cell (World.block_lt_of_cell? w _ hx151_0)).trans hx151_0
     replace hx151_1:=(HB.out.cell (World.block_lt_of_cell? w _ hx151_1)).trans hx151_1
     replace hx151_2:=(HB.out.cell (World.block_lt_of_cell? w _ hx151_2)).trans hx151_2
     replace p151:=eq_true p151
     replace q151:=eq_true q151
     obtain ⟨hcz8_0,hcz8_1,hcz8_2,hfz8_0,hfz8_1,hfz8_2⟩:=cz3 BK150
     go_wp2
     repeat (go_quiet (fail);try go_wp2)
     go_roundg k1
     case measure=>have:=HK1.out;omega
     case rel=>exact ⟨(wrap64 (x5_1+1)),hB,H',⟨by have:=HK1.out;omega⟩,⟨bkA BK150⟩,⟨blA⟩⟩
   ·
    rw [if_neg c4] at H
    have c4b0:=decide_eq_false c4
    clear c4
    obtain rfl:=Option.some.inj H
    go_wp2
    repeat (go_quiet (fail);try go_wp2)
    go_ret
    exact finA blA
def impl_Ball_36.l0:Nat→List (S53)→Int→Int→Int→Int→Int→Option (Int)
 | 0,_,_,_,_,_,_=>none
 | k+1,x0,x7,x8,x366000,x366001,x366002=>if x8<x7 then (if 0≤x8 then (if x8<(x0.length:Int) then (if (x366000 == ((rd_T53 x0 x8).f0) && (x366001 == ((rd_T53 x0 x8).f1) && (x366002 == ((rd_T53 x0 x8).f2))))=true then (some x8) else (impl_Ball_36.l0 k x0 x7 (wrap64 (x8+1)) x366000 x366001 x366002)) else (none)) else (none)) else (some (-1))
def impl_Ball_36.f (k:Nat) (l0:List (S53)) (a1_0 a1_1 a1_2:Int):Option (Int):=impl_Ball_36.l0 k l0 (l0.length:Int) 0 a1_0 a1_1 a1_2
theorem impl_Ball_36.mono_l:∀ k,(∀ y0 y1 y2 y3 y4 y5,LeO (impl_Ball_36.l0 k y0 y1 y2 y3 y4 y5) (impl_Ball_36.l0 (k+1) y0 y1 y2 y3 y4 y5))
 | 0=>fun _ _ _ _ _ _ r h=>by simp [impl_Ball_36.l0] at h
 | k+1=>by
  have ih0:=impl_Ball_36.mono_l k
  ·
   intro y0 y1 y2 y3 y4 y5
   unfold impl_Ball_36.l0
   repeat' first
   | with_reducible first|exact ih0 ..|exact LeO.refl _|exact LeO.none _|refine LeO.ite ?_ ?_|refine LeO.bind ?_ fun _=>?_
theorem impl_Ball_36.mono:∀ a0 a1 a2 a3 k,LeO (impl_Ball_36.f k a0 a1 a2 a3) (impl_Ball_36.f (k+1) a0 a1 a2 a3):=by
 intro a0 a1 a2 a3 k
 have ih0:=impl_Ball_36.mono_l k
 unfold impl_Ball_36.f
 repeat' first
   | with_reducible first|exact ih0 ..|exact LeO.refl _|exact LeO.none _|refine LeO.ite ?_ ?_|refine LeO.bind ?_ fun _=>?_
set_option maxHeartbeats 8000000 in
set_option maxRecDepth 100000 in
theorem impl_Ball_36.calls (k:Nat) (A0:Option Addr) (c0:Nat) (l0:List (S53)) (a1_0 a1_1 a1_2 r:Int) (w:World) (hr0:Kd.C k53 w A0 l0.length l0) (hc0:l0.length≤c0) (h:impl_Ball_36.f k l0 a1_0 a1_1 a1_2=some r) :
  Calls Try.prog 36 #[.slice A0 l0.length c0,.agg #[.int .i64 a1_0,.int .i64 a1_1,.int .i64 a1_2]] w fun e w'=>e=.returned (.int .i64 r)∧Below w.heap.size w w':=by
 have hu53:=Try.underlying53
 have HR0:=Aside0.mk hr0
 have HC0:=Aside0.mk hc0
 clear hr0 hc0
 have HB:=Aside0.mk (Below.refl w.heap.size w)
 have H:=h
 unfold impl_Ball_36.f at H
 clear h
 have H':=Aside0.mk H
 clear H
 go_enter Try.func36,Try.ntmps36
 go_wp2_with (first|((with_reducible refine gate_dst (N:=3) rfl ?_);refine bxE (cs:=#[.int .i64 a1_0,.int .i64 a1_1,.int .i64 a1_2]) (t:=53) ?_;intro gb365 hg w3 hbox hb;have BK365:=Aside0.mk hbox;have GW365:=sA hg;have GE365:=sA hg;replace HB:=lB hb;clear hb hbox hg))
 repeat (go_quiet (first|((with_reducible refine gate_dst (N:=3) rfl ?_);refine bxE (cs:=#[.int .i64 a1_0,.int .i64 a1_1,.int .i64 a1_2]) (t:=53) ?_;intro gb365 hg w3 hbox hb;have BK365:=Aside0.mk hbox;have GW365:=sA hg;have GE365:=sA hg;replace HB:=lB hb;clear hb hbox hg));try go_wp2_with (first|((with_reducible refine gate_dst (N:=3) rfl ?_);refine bxE (cs:=#[.int .i64 a1_0,.int .i64 a1_1,.int .i64 a1_2]) (t:=53) ?_;intro gb365 hg w3 hbox hb;have BK365:=Aside0.mk hbox;have GW365:=sA hg;have GE365:=sA hg;replace HB:=lB hb;clear hb hbox hg)))
 go_loopg [8] k (fun kq v8 w'=>∃ (x8_1:Int),v8=.int .i64 x8_1∧Aside0 (impl_Ball_36.l0 kq l0 (l0.length:Int) x8_1 a1_0 a1_1 a1_2=some r)∧Aside0 (kq≤k)∧Aside0 (w'.heap[gb365]?=some (.cells #[.int .i64 a1_0,.int .i64 a1_1,.int .i64 a1_2] 53 (0,0)))∧Aside0 (Below w.heap.size w w'))
 case atStart=>exact ⟨(0),hB,H',⟨Nat.le_refl _⟩,⟨bkA BK365⟩,⟨blA⟩⟩
 case round=>
  clear H'
  obtain ⟨x8_1,rfl,HA,HK1,BK365,HB⟩:=hrel
  cases gk with
  | zero=>exact absurd HA.out (by simp [impl_Ball_36.l0])
  | succ k1=>
   have H:=HA.out
   clear HA
   simp only [impl_Ball_36.l0] at H
   by_cases c4:x8_1<(l0.length:Int)
   ·
    rw [if_pos c4] at H
    have c4b0:=decide_eq_true c4
    clear c4
    by_cases c5:0≤x8_1
    rotate_left
    ·
     rw [if_neg c5] at H
     exact absurd H (by simp)
    rw [if_pos c5] at H
    have c5b0:=decide_eq_true c5
    clear c5
    by_cases c6:x8_1<(l0.length:Int)
    rotate_left
    ·
     rw [if_neg c6] at H
     exact absurd H (by simp)
    rw [if_pos c6] at H
    have c6b0:=decide_eq_true c6
    clear c6
    by_cases c7:(a1_0 == ((rd_T53 l0 x8_1).f0) && (a1_1 == ((rd_T53 l0 x8_1).f1) && (a1_2 == ((rd_T53 l0 x8_1).f2))))=true
    ·
     rw [if_pos c7] at H
     have c7b0:(a1_0 == ((rd_T53 l0 x8_1).f0) && (a1_1 == ((rd_T53 l0 x8_1).f1) && (a1_2 == ((rd_T53 l0 x8_1).f2))))=true:=c7
     (try (have c7b1:decide (a1_0=((rd_T53 l0 x8_1).f0) && (a1_1 == ((rd_T53 l0 x8_1).f1) && (a1_2 == ((rd_T53 l0 x8_1).f2))))=true:=by simpa using c7))
     (try (have c7b2:(a1_0 == ((rd_T53 l0 x8_1).f0) && (a1_1 == ((rd_T53 l0 x8_1).f1) && (a1_2 == ((rd_T53 l0 x8_1).f2))))=true:=by simpa using c7))
     clear c7
     obtain rfl:=Option.some.inj H
     obtain ⟨hcz8_0,hcz8_1,hcz8_2,hfz8_0,hfz8_1,hfz8_2⟩:=cz3 BK365
     have p366:0≤(x8_1:Int):=dA
     have q366:x8_1<(l0.length:Int):=dA
     obtain ⟨ad366,e366,hx366_0,hx366_1,hx366_2⟩:=at_T53 HR0.out x8_1 p366 q366
     cases e366
     replace hx366_0:=(HB.out.cell (World.block_lt_of_cell? w _ hx366_0)).trans hx366_0
     replace hx366_1:=(HB.out.cell (World.block_lt_of_cell? w _ hx366_1)).trans hx366_1
     replace hx366_2:=(HB.out.cell (World.block_lt_of_cell? w _ hx366_2)).trans hx366_2
     replace p366:=eq_true p366
     replace q366:=eq_true q366
     go_wp2
     repeat (go_quiet (fail);try go_wp2)
     go_ret
     exact finA blA
    ·
     rw [if_neg c7] at H
     have c7b0:(a1_0 == ((rd_T53 l0 x8_1).f0) && (a1_1 == ((rd_T53 l0 x8_1).f1) && (a1_2 == ((rd_T53 l0 x8_1).f2))))=false:=by simpa using c7
     (try (have c7b1:decide (a1_0=((rd_T53 l0 x8_1).f0) && (a1_1 == ((rd_T53 l0 x8_1).f1) && (a1_2 == ((rd_T53 l0 x8_1).f2))))=false:=by simpa using c7))
     (try (have c7b2:(a1_0 == ((rd_T53 l0 x8_1).f0) && (a1_1 == ((rd_T53 l0 x8_1).f1) && (a1_2 == ((rd_T53 l0 x8_1).f2))))=false:=by simpa using c7))
     (try (have c7b3:¬ (a1_0=((rd_T53 l0 x8_1).f0) && (a1_1 == ((rd_T53 l0 x8_1).f1) && (a1_2 == ((rd_T53 l0 x8_1).f2)))):=by simpa using c7))
     clear c7
     have H':=Aside0.mk H
     clear H
     obtain ⟨hcz9_0,hcz9_1,hcz9_2,hfz9_0,hfz9_1,hfz9_2⟩:=cz3 BK365
     have p366:0≤(x8_1:Int):=dA
     have q366:x8_1<(l0.length:Int):=dA
     obtain ⟨ad366,e366,hx366_0,hx366_1,hx366_2⟩:=at_T53 HR0.out x8_1 p366 q366
     cases e366
     replace hx366_0:=(HB.out.cell (World.block_lt_of_cell? w _ hx366_0)).trans hx366_0
     replace hx366_1:=(HB.out.cell (World.block_lt_of_cell? w _ hx366_1)).trans hx366_1
     replace hx366_2:=(HB.out.cell (World.block_lt_of_cell? w _ hx366_2)).trans hx366_2
     replace p366:=eq_true p366
     replace q366:=eq_true q366
     go_wp2
     repeat (go_quiet (fail);try go_wp2)
     go_roundg k1
     case measure=>have:=HK1.out;omega
     case rel=>exact ⟨(wrap64 (x8_1+1)),hB,H',⟨by have:=HK1.out;omega⟩,⟨bkA BK365⟩,⟨blA⟩⟩
   ·
    rw [if_neg c4] at H
    have c4b0:=decide_eq_false c4
    clear c4
    obtain rfl:=Option.some.inj H
    go_wp2
    repeat (go_quiet (fail);try go_wp2)
    go_ret
    exact finA blA
end Go.Proofs.Ytnhiehpbkimaeaa.PAll
