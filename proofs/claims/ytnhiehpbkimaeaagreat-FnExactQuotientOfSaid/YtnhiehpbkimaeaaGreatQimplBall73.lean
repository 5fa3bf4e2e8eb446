import Derived.Test.YtnhiehpbkimaeaaGreatQx
namespace Go.Proofs.YtnhiehpbkimaeaaGreat.PAll
open Go.RowKit Go.Proofs.YtnhiehpbkimaeaaGreatW.PrintWords Go.Proofs.YtnhiehpbkimaeaaGreatW.PrintLast Go.Proofs.YtnhiehpbkimaeaaGreatW.PrintMore
attribute [local go_sem] Go.Proofs.YtnhiehpbkimaeaaGreat.Aux.setCell_drewN Go.Proofs.YtnhiehpbkimaeaaGreat.Aux.isSome_setCell cC b9 cQ cP bm bl cB b8
set_option linter.unusedVariables false
set_option linter.unusedSimpArgs false
attribute [local go_sem high] eqA43
def bc.l0:Nat→List (S43)→Int→Int→Int→Int→Option (Int)
 | 0,_,_,_,_,_=>none
 | k+1,x0,x5,x257000,x257001,x257002=>if x5<(x0.length:Int) then (if 0≤x5 then (if (((aD x0 x5).f0) == x257000 && (((aD x0 x5).f1) == x257001 && (((aD x0 x5).f2) == x257002)))=true then (some x5) else (bc.l0 k x0 (wrap64 (x5+1)) x257000 x257001 x257002)) else (none)) else (some (-1))
def bc.f (k:Nat) (l0:List (S43)) (a1_0 a1_1 a1_2:Int):Option (Int):=bc.l0 k l0 0 a1_0 a1_1 a1_2
set_option maxHeartbeats 8000000 in
set_option maxRecDepth 100000 in
theorem bc.calls (k:Nat) (A0:Option Addr) (c0:Nat) (l0:List (S43)) (a1_0 a1_1 a1_2 r:Int) (w:World) (hr0:Kd.C k43 w A0 l0.length l0) (hc0:l0.length≤c0) (h:bc.f k l0 a1_0 a1_1 a1_2=some r) :
  Calls Tryz.prog 64 #[.slice A0 l0.length c0,.agg #[.int .i64 a1_0,.int .i64 a1_1,.int .i64 a1_2]] w fun e w'=>e=.returned (.int .i64 r)∧Below w.heap.size w w':=by
 have hu43:=Tryz.underlying43
 have HR0:=aA.mk hr0
 have HC0:=aA.mk hc0
 clear hr0 hc0
 have HB:=aA.mk (Below.refl w.heap.size w)
 have H:=h
 unfold bc.f at H
 clear h
 have H':=aA.mk H
 clear H
 go_enter Tryz.func64,Tryz.ntmps64
 go_wp2_with (first|((with_reducible refine aN (N:=3) rfl ?_);refine bxE (cs:=#[.int .i64 a1_0,.int .i64 a1_1,.int .i64 a1_2]) (t:=43) ?_;intro gb256 hg w3 hbox hb;have BK256:=aA.mk hbox;have GW256:=sA hg;have GE256:=sA hg;replace HB:=lB hb;clear hb hbox hg))
 repeat (go_quiet (first|((with_reducible refine aN (N:=3) rfl ?_);refine bxE (cs:=#[.int .i64 a1_0,.int .i64 a1_1,.int .i64 a1_2]) (t:=43) ?_;intro gb256 hg w3 hbox hb;have BK256:=aA.mk hbox;have GW256:=sA hg;have GE256:=sA hg;replace HB:=lB hb;clear hb hbox hg));try go_wp2_with (first|((with_reducible refine aN (N:=3) rfl ?_);refine bxE (cs:=#[.int .i64 a1_0,.int .i64 a1_1,.int .i64 a1_2]) (t:=43) ?_;intro gb256 hg w3 hbox hb;have BK256:=aA.mk hbox;have GW256:=sA hg;have GE256:=sA hg;replace HB:=lB hb;clear hb hbox hg)))
 go_loopg [5] k (fun kq v5 w'=>∃ (x5_1:Int),v5=.int .i64 x5_1∧aA (bc.l0 kq l0 x5_1 a1_0 a1_1 a1_2=some r)∧aA (kq≤k)∧aA (w'.heap[gb256]?=some (.cells #[.int .i64 a1_0,.int .i64 a1_1,.int .i64 a1_2] 43 (0,0)))∧aA (Below w.heap.size w w'))
 case atStart=>exact ⟨(0),hB,H',⟨Nat.le_refl _⟩,⟨bkA BK256⟩,⟨blA⟩⟩
 case round=>
  clear H'
  obtain ⟨x5_1,rfl,HA,HK1,BK256,HB⟩:=hrel
  cases gk with
  | zero=>exact absurd HA.out (by simp [bc.l0])
  | succ k1=>
   have H:=HA.out
   clear HA
   simp only [bc.l0] at H
   by_cases c4:x5_1<(l0.length:Int)
   ·
    rw [if_pos c4] at H
    have c4b0:=decide_eq_true c4
    clear c4
    by_cases c5:0≤x5_1
    rotate_left
    ·
     rw [if_neg c5] at H
     exact absurd H (by simp)
    rw [if_pos c5] at H
    have c5b0:=decide_eq_true c5
    clear c5
    by_cases c6:(((aD l0 x5_1).f0) == a1_0 && (((aD l0 x5_1).f1) == a1_1 && (((aD l0 x5_1).f2) == a1_2)))=true
    ·
     rw [if_pos c6] at H
     have c6b0:(((aD l0 x5_1).f0) == a1_0 && (((aD l0 x5_1).f1) == a1_1 && (((aD l0 x5_1).f2) == a1_2)))=true:=c6
     (try (have c6b1:decide (((aD l0 x5_1).f0)=a1_0 && (((aD l0 x5_1).f1) == a1_1 && (((aD l0 x5_1).f2) == a1_2)))=true:=by simpa using c6))
     (try (have c6b2:(((aD l0 x5_1).f0) == a1_0 && (((aD l0 x5_1).f1) == a1_1 && (((aD l0 x5_1).f2) == a1_2)))=true:=by simpa using c6))
     clear c6
     obtain rfl:=Option.some.inj H
     have p257:0≤(x5_1:Int):=dA
     have q257:x5_1<(l0.length:Int):=dA
     obtain ⟨ad257,e257,hx257_0,hx257_1,hx257_2⟩:=cu HR0.out x5_1 p257 q257
     cases e257
     replace hx257_0:=(HB.out.cell (World.block_lt_of_cell? w _ hx257_0)).trans hx257_0
     replace hx257_1:=(HB.out.cell (World.block_lt_of_cell? w _ hx257_1)).trans hx257_1
     replace hx257_2:=(HB.out.cell (World.block_lt_of_cell? w _ hx257_2)).trans hx257_2
     replace p257:=eq_true p257
     replace q257:=eq_true q257
     obtain ⟨hcz7_0,hcz7_1,hcz7_2,hfz7_0,hfz7_1,hfz7_2⟩:=cz3 BK256
     go_wp2
     repeat (go_quiet (fail);try go_wp2)
     go_ret
     exact cE blA
    ·
     rw [if_neg c6] at H
     have c6b0:(((aD l0 x5_1).f0) == a1_0 && (((aD l0 x5_1).f1) == a1_1 && (((aD l0 x5_1).f2) == a1_2)))=false:=by simpa using c6
     (try (have c6b1:decide (((aD l0 x5_1).f0)=a1_0 && (((aD l0 x5_1).f1) == a1_1 && (((aD l0 x5_1).f2) == a1_2)))=false:=by simpa using c6))
     (try (have c6b2:(((aD l0 x5_1).f0) == a1_0 && (((aD l0 x5_1).f1) == a1_1 && (((aD l0 x5_1).f2) == a1_2)))=false:=by simpa using c6))
     (try (have c6b3:¬ (((aD l0 x5_1).f0)=a1_0 && (((aD l0 x5_1).f1) == a1_1 && (((aD l0 x5_1).f2) == a1_2))):=by simpa using c6))
     clear c6
     have H':=aA.mk H
     clear H
     have p257:0≤(x5_1:Int):=dA
     have q257:x5_1<(l0.length:Int):=dA
     obtain ⟨ad257,e257,hx257_0,hx257_1,hx257_2⟩:=cu HR0.out x5_1 p257 q257
     cases e257
     replace hx257_0:=(HB.out.cell (World.block_lt_of_cell? w _ hx257_0)).trans hx257_0
     replace hx257_1:=(HB.out.cell (World.block_lt_of_cell? w _ hx257_1)).trans hx257_1
     replace hx257_2:=(HB.out.cell (World.block_lt_of_cell? w _ hx257_2)).trans hx257_2
     replace p257:=eq_true p257
     replace q257:=eq_true q257
     obtain ⟨hcz8_0,hcz8_1,hcz8_2,hfz8_0,hfz8_1,hfz8_2⟩:=cz3 BK256
     go_wp2
     repeat (go_quiet (fail);try go_wp2)
     go_roundg k1
     case measure=>have:=HK1.out;omega
     case rel=>exact ⟨(wrap64 (x5_1+1)),hB,H',⟨by have:=HK1.out;omega⟩,⟨bkA BK256⟩,⟨blA⟩⟩
   ·
    rw [if_neg c4] at H
    have c4b0:=decide_eq_false c4
    clear c4
    obtain rfl:=Option.some.inj H
    go_wp2
    repeat (go_quiet (fail);try go_wp2)
    go_ret
    exact cE blA
def be.l0:Nat→List (S43)→Int→Int→Int→Int→Int→Option (Int)
 | 0,_,_,_,_,_,_=>none
 | k+1,x0,x7,x8,x492000,x492001,x492002=>if x8<x7 then (if 0≤x8 then (if x8<(x0.length:Int) then (if (x492000 == ((aD x0 x8).f0) && (x492001 == ((aD x0 x8).f1) && (x492002 == ((aD x0 x8).f2))))=true then (some x8) else (be.l0 k x0 x7 (wrap64 (x8+1)) x492000 x492001 x492002)) else (none)) else (none)) else (some (-1))
def be.f (k:Nat) (l0:List (S43)) (a1_0 a1_1 a1_2:Int):Option (Int):=be.l0 k l0 (l0.length:Int) 0 a1_0 a1_1 a1_2
set_option maxHeartbeats 8000000 in
set_option maxRecDepth 100000 in
theorem be.calls (k:Nat) (A0:Option Addr) (c0:Nat) (l0:List (S43)) (a1_0 a1_1 a1_2 r:Int) (w:World) (hr0:Kd.C k43 w A0 l0.length l0) (hc0:l0.length≤c0) (h:be.f k l0 a1_0 a1_1 a1_2=some r) :
  Calls Tryz.prog 73 #[.slice A0 l0.length c0,.agg #[.int .i64 a1_0,.int .i64 a1_1,.int .i64 a1_2]] w fun e w'=>e=.returned (.int .i64 r)∧Below w.heap.size w w':=by
 have hu43:=Tryz.underlying43
 have HR0:=aA.mk hr0
 have HC0:=aA.mk hc0
 clear hr0 hc0
 have HB:=aA.mk (Below.refl w.heap.size w)
 have H:=h
 unfold be.f at H
 clear h
 have H':=aA.mk H
 clear H
 go_enter Tryz.func73,Tryz.ntmps73
 go_wp2_with (first|((with_reducible refine aN (N:=3) rfl ?_);refine bxE (cs:=#[.int .i64 a1_0,.int .i64 a1_1,.int .i64 a1_2]) (t:=43) ?_;intro gb491 hg w3 hbox hb;have BK491:=aA.mk hbox;have GW491:=sA hg;have GE491:=sA hg;replace HB:=lB hb;clear hb hbox hg))
 repeat (go_quiet (first|((with_reducible refine aN (N:=3) rfl ?_);refine bxE (cs:=#[.int .i64 a1_0,.int .i64 a1_1,.int .i64 a1_2]) (t:=43) ?_;intro gb491 hg w3 hbox hb;have BK491:=aA.mk hbox;have GW491:=sA hg;have GE491:=sA hg;replace HB:=lB hb;clear hb hbox hg));try go_wp2_with (first|((with_reducible refine aN (N:=3) rfl ?_);refine bxE (cs:=#[.int .i64 a1_0,.int .i64 a1_1,.int .i64 a1_2]) (t:=43) ?_;intro gb491 hg w3 hbox hb;have BK491:=aA.mk hbox;have GW491:=sA hg;have GE491:=sA hg;replace HB:=lB hb;clear hb hbox hg)))
 go_loopg [8] k (fun kq v8 w'=>∃ (x8_1:Int),v8=.int .i64 x8_1∧aA (be.l0 kq l0 (l0.length:Int) x8_1 a1_0 a1_1 a1_2=some r)∧aA (kq≤k)∧aA (w'.heap[gb491]?=some (.cells #[.int .i64 a1_0,.int .i64 a1_1,.int .i64 a1_2] 43 (0,0)))∧aA (Below w.heap.size w w'))
 case atStart=>exact ⟨(0),hB,H',⟨Nat.le_refl _⟩,⟨bkA BK491⟩,⟨blA⟩⟩
 case round=>
  clear H'
  obtain ⟨x8_1,rfl,HA,HK1,BK491,HB⟩:=hrel
  cases gk with
  | zero=>exact absurd HA.out (by simp [be.l0])
  | succ k1=>
   have H:=HA.out
   clear HA
   simp only [be.l0] at H
   by_cases c4:x8_1<(l0.length:Int)
   ·
    rw [if_pos c4] at H
    have c4b0:=decide_eq_true c4
    clear c4
    by_cases c5:0≤x8_1
    rotate_left
    ·
     rw [if_neg c5] at H
     exact absurd H (by simp)
    rw [if_pos c5] at H
    have c5b0:=decide_eq_true c5
    clear c5
    by_cases c6:x8_1<(l0.length:Int)
    rotate_left
    ·
     rw [if_neg c6] at H
     exact absurd H (by simp)
    rw [if_pos c6] at H
    have c6b0:=decide_eq_true c6
    clear c6
    by_cases c7:(a1_0 == ((aD l0 x8_1).f0) && (a1_1 == ((aD l0 x8_1).f1) && (a1_2 == ((aD l0 x8_1).f2))))=true
    ·
     rw [if_pos c7] at H
     have c7b0:(a1_0 == ((aD l0 x8_1).f0) && (a1_1 == ((aD l0 x8_1).f1) && (a1_2 == ((aD l0 x8_1).f2))))=true:=c7
     (try (have c7b1:decide (a1_0=((aD l0 x8_1).f0) && (a1_1 == ((aD l0 x8_1).f1) && (a1_2 == ((aD l0 x8_1).f2))))=true:=by simpa using c7))
     (try (have c7b2:(a1_0 == ((aD l0 x8_1).f0) && (a1_1 == ((aD l0 x8_1).f1) && (a1_2 == ((aD l0 x8_1).f2))))=true:=by simpa using c7))
     clear c7
     obtain rfl:=Option.some.inj H
     obtain ⟨hcz8_0,hcz8_1,hcz8_2,hfz8_0,hfz8_1,hfz8_2⟩:=cz3 BK491
     have p492:0≤(x8_1:Int):=dA
     have q492:x8_1<(l0.length:Int):=dA
     obtain ⟨ad492,e492,hx492_0,hx492_1,hx492_2⟩:=cu HR0.out x8_1 p492 q492
     cases e492
     replace hx492_0:=(HB.out.cell (World.block_lt_of_cell? w _ hx492_0)).trans hx492_0
     replace hx492_1:=(HB.out.cell (World.block_lt_of_cell? w _ hx492_1)).trans hx492_1
     replace hx492_2:=(HB.out.cell (World.block_lt_of_cell? w _ hx492_2)).trans hx492_2
     replace p492:=eq_true p492
     replace q492:=eq_true q492
     go_wp2
     repeat (go_quiet (fail);try go_wp2)
     go_ret
     exact cE blA
    ·
     rw [if_neg c7] at H
     have c7b0:(a1_0 == ((aD l0 x8_1).f0) && (a1_1 == ((aD l0 x8_1).f1) && (a1_2 == ((aD l0 x8_1).f2))))=false:=by simpa using c7
     (try (have c7b1:decide (a1_0=((aD l0 x8_1).f0) && (a1_1 == ((aD l0 x8_1).f1) && (a1_2 == ((aD l0 x8_1).f2))))=false:=by simpa using c7))
     (try (have c7b2:(a1_0 == ((aD l0 x8_1).f0) && (a1_1 == ((aD l0 x8_1).f1) && (a1_2 == ((aD l0 x8_1).f2))))=false:=by simpa using c7))
     (try (have c7b3:¬ (a1_0=((aD l0 x8_1).f0) && (a1_1 == ((aD l0 x8_1).f1) && (a1_2 == ((aD l0 x8_1).f2)))):=by simpa using c7))
     clear c7
     have H':=aA.mk H
     clear H
     obtain ⟨hcz9_0,hcz9_1,hcz9_2,hfz9_0,hfz9_1,hfz9_2⟩:=cz3 BK491
     have p492:0≤(x8_1:Int):=dA
     have q492:x8_1<(l0.length:Int):=dA
     obtain ⟨ad492,e492,hx492_0,hx492_1,hx492_2⟩:=cu HR0.out x8_1 p492 q492
     cases e492
     replace hx492_0:=(HB.out.cell (World.block_lt_of_cell? w _ hx492_0)).trans hx492_0
     replace hx492_1:=(HB.out.cell (World.block_lt_of_cell? w _ hx492_1)).trans hx492_1
     replace hx492_2:=(HB.out.cell (World.block_lt_of_cell? w _ hx492_2)).trans hx492_2
     replace p492:=eq_true p492
     replace q492:=eq_true q492
     go_wp2
     repeat (go_quiet (fail);try go_wp2)
     go_roundg k1
     case measure=>have:=HK1.out;omega
     case rel=>exact ⟨(wrap64 (x8_1+1)),hB,H',⟨by have:=HK1.out;omega⟩,⟨bkA BK491⟩,⟨blA⟩⟩
   ·
    rw [if_neg c4] at H
    have c4b0:=decide_eq_false c4
    clear c4
    obtain rfl:=Option.some.inj H
    go_wp2
    repeat (go_quiet (fail);try go_wp2)
    go_ret
    exact cE blA
end Go.Proofs.YtnhiehpbkimaeaaGreat.PAll
