-- turned out of the kit's print
import Derived.Test.YtabcckoeilegnaaQx
import Derived.Test.YtabcckoeilegnaaQimplgap
import Derived.Test.YtabcckoeilegnaaQimplturning
import Derived.Test.YtabcckoeilegnaaQspecDrawRayOf
namespace Go.Proofs.Ytabcckoeilegnaa.PAll
open Go.RowKit Go.Proofs.YtabcckoeilegnaaW.PrintWords Go.Proofs.YtabcckoeilegnaaW.PrintLast Go.Proofs.YtabcckoeilegnaaW.PrintMore
attribute [local go_sem] Go.Proofs.Ytabcckoeilegnaa.Aux.setCell_drewN Go.Proofs.Ytabcckoeilegnaa.Aux.isSome_setCell max2_int min2_int max_two min_two max_three min_three max_four min_four
set_option linter.unusedVariables false
set_option linter.unusedSimpArgs false
def impl_lineAt.j0:Nat→Int→Int→Int→Int→Int→Int→Int→Int→Option (Int × Bool × Int)
 | 0,_,_,_,_,_,_,_,_=>none
 | k+1,x0,x606000,x606001,x606002,x607000,x607001,x608000,x608001=>if x607001=0 then ((impl_turning.f k x0 x606000 x606001 x606002 x608000 x608001).bind fun t608=>(some (t608,false,wrap64 (x606000 - t608)))) else ((impl_turning.f k x0 x606000 x606001 x606002 x607000 x607001).bind fun t609=>((impl_turning.f k x0 x606000 x606001 x606002 x608000 x608001).bind fun t610=>(if t609=t610 then ((impl_gap.f k x0 x607000 x607001 x608000 x608001).bind fun t611=>(some (t611,true,wrap64 ((wrap64 ((wrap64 (x606000 - t609))+t611)) - t609)))) else (some (mx t609 t610,false,wrap64 (x606000 - (mx t609 t610)))))))
def impl_lineAt.f (k:Nat) (a0 a1_0 a1_1 a1_2 a2_0 a2_1 a3_0 a3_1:Int):Option (Int × Bool × Int):=if a3_1=0 then (impl_lineAt.j0 k a0 a1_0 a1_1 a1_2 a3_0 a3_1 a2_0 a2_1) else (impl_lineAt.j0 k a0 a1_0 a1_1 a1_2 a2_0 a2_1 a3_0 a3_1)
theorem impl_lineAt.mono_l:∀ k,(∀ y0 y1 y2 y3 y4 y5 y6 y7,LeO (impl_lineAt.j0 k y0 y1 y2 y3 y4 y5 y6 y7) (impl_lineAt.j0 (k+1) y0 y1 y2 y3 y4 y5 y6 y7))
 | 0=>fun _ _ _ _ _ _ _ _ r h=>by simp [impl_lineAt.j0] at h
 | k+1=>by
  have ih0:=impl_lineAt.mono_l k
  ·
   intro y0 y1 y2 y3 y4 y5 y6 y7
   unfold impl_lineAt.j0
   repeat' first
   | with_reducible first|exact ih0 ..|exact impl_gap.mono ..|exact impl_turning.mono ..|exact LeO.refl _|exact LeO.none _|refine LeO.ite ?_ ?_|refine LeO.bind ?_ fun _=>?_
theorem impl_lineAt.mono:∀ a0 a1 a2 a3 a4 a5 a6 a7 k,LeO (impl_lineAt.f k a0 a1 a2 a3 a4 a5 a6 a7) (impl_lineAt.f (k+1) a0 a1 a2 a3 a4 a5 a6 a7):=by
 intro a0 a1 a2 a3 a4 a5 a6 a7 k
 have ih0:=impl_lineAt.mono_l k
 unfold impl_lineAt.f
 repeat' first
   | with_reducible first|exact ih0 ..|exact impl_gap.mono ..|exact impl_turning.mono ..|exact LeO.refl _|exact LeO.none _|refine LeO.ite ?_ ?_|refine LeO.bind ?_ fun _=>?_
def impl_lineAt.T5:Bool × List (List Nat × List Nat):=(true,[([],[]),([],[]),([1],[1]),([],[]),([2,3],[2,3]),([0,0],[0]),([5,0,5],[]),([4,6,0,1,2,3,4,5,6],[4])])
def impl_lineAt.B5:List Nat:=[0,0,2,0,14,1,33,127]
theorem impl_lineAt.tab5:rtab .any (opsOf Try.f38 5)=impl_lineAt.T5:=by kernel_rfl
theorem impl_lineAt.bits5:waitsOk impl_lineAt.T5.2 impl_lineAt.B5=true:=by kernel_rfl
def impl_lineAt.T6:Bool × List (List Nat × List Nat):=(true,[([],[]),([],[]),([],[]),([0,1,2],[0,1,2]),([],[]),([],[]),([],[]),([4,5,6,3],[4,5,6]),([3,7,0,1,2,3],[3]),([7,8,0,1,2,3,4,5,6,7,8],[7])])
def impl_lineAt.B6:List Nat:=[0,0,0,7,0,0,0,127,255,511]
theorem impl_lineAt.tab6:rtab .any (opsOf Try.f38 6)=impl_lineAt.T6:=by kernel_rfl
theorem impl_lineAt.bits6:waitsOk impl_lineAt.T6.2 impl_lineAt.B6=true:=by kernel_rfl
def impl_lineAt.T8:Bool × List (List Nat × List Nat):=(true,[([],[]),([],[]),([0,1],[0,1]),([],[]),([3],[3]),([],[]),([],[]),([5,6],[5,6]),([4,7],[4,7]),([2,0,1,2],[2]),([9,0,1,2,9],[]),([8,10,0,1,2,3,4,5,6,7,8,9,10],[8])])
def impl_lineAt.B8:List Nat:=[0,0,3,0,8,0,0,96,248,7,519,2047]
theorem impl_lineAt.tab8:rtab .any (opsOf Try.f38 8)=impl_lineAt.T8:=by kernel_rfl
theorem impl_lineAt.bits8:waitsOk impl_lineAt.T8.2 impl_lineAt.B8=true:=by kernel_rfl
def impl_lineAt.T10:Bool × List (List Nat × List Nat):=(true,[([],[]),([],[]),([1],[1]),([],[]),([2,3],[2,3]),([],[]),([4,5],[4,5]),([],[]),([6,7],[6,7]),([0,0],[0]),([9,0,9],[]),([8,10,0,1,2,3,4,5,6,7,8,9,10],[8])])
def impl_lineAt.B10:List Nat:=[0,0,2,0,14,0,62,0,254,1,513,2047]
theorem impl_lineAt.tab10:rtab .any (opsOf Try.f38 10)=impl_lineAt.T10:=by kernel_rfl
theorem impl_lineAt.bits10:waitsOk impl_lineAt.T10.2 impl_lineAt.B10=true:=by kernel_rfl
set_option maxHeartbeats 8000000 in
set_option maxRecDepth 100000 in
theorem impl_lineAt.calls (k:Nat) (a0 a1_0 a1_1 a1_2 a2_0 a2_1 a3_0 a3_1 r1:Int) (r2:Bool) (r3:Int) (w:World) (h:impl_lineAt.f k a0 a1_0 a1_1 a1_2 a2_0 a2_1 a3_0 a3_1=some (r1,r2,r3)) :
  Calls Try.prog 38 #[.int .i64 a0,.agg #[.int .i64 a1_0,.int .i64 a1_1,.int .i64 a1_2],.agg #[.int .i64 a2_0,.int .i64 a2_1],.agg #[.int .i64 a3_0,.int .i64 a3_1]] w fun e w'=>e=.returned (.tuple #[.int .i64 r1,.bool r2,.int .i64 r3])∧Below w.heap.size w w':=by
 have hu25:=Try.underlying25
 have hu27:=Try.underlying27
 have HB:=Aside0.mk (Below.refl w.heap.size w)
 have H:=h
 unfold impl_lineAt.f at H
 clear h
 have HC5:=Aside0.mk H
 clear H
 go_enter Try.func38,Try.ntmps38
 go_upto_if 17 with (first|((with_reducible refine gate_dst (N:=5) rfl ?_);refine bxE (cs:=#[.int .i64 a1_0,.int .i64 a1_1,.int .i64 a1_2]) (t:=25) ?_;intro gb605 hg w6 hbox hb;have n0_:=lB hb;have n1_:=Aside0.mk hbox;have n2_:=sA hg;have n3_:=sA hg;clear HB;have HB:=n0_;have BK605:=n1_;have GW605:=n2_;have GE605:=n3_;clear n0_ n1_ n2_ n3_;clear hb hbox hg)|((with_reducible refine gate_dst (N:=6) rfl ?_);refine bxE (cs:=#[.int .i64 a2_0,.int .i64 a2_1]) (t:=27) ?_;intro gb606 hg w7 hbox hb;have n0_:=kB BK605 hb;have n1_:=lB hb;have n2_:=Aside0.mk hbox;have n3_:=sA hg;have n4_:=sA hg;have n5_:=nA hg BK605;have n6_:=nB hg BK605;clear BK605;clear HB;have BK605:=n0_;have HB:=n1_;have BK606:=n2_;have GW606:=n3_;have GE606:=n4_;have NB605_606:=n5_;have NB606_605:=n6_;clear n0_ n1_ n2_ n3_ n4_ n5_ n6_;clear hb hbox hg)|((with_reducible refine gate_dst (N:=7) rfl ?_);refine bxE (cs:=#[.int .i64 a3_0,.int .i64 a3_1]) (t:=27) ?_;intro gb607 hg w8 hbox hb;have n0_:=kB BK605 hb;have n1_:=kB BK606 hb;have n2_:=lB hb;have n3_:=Aside0.mk hbox;have n4_:=sA hg;have n5_:=sA hg;have n6_:=nA hg BK605;have n7_:=nB hg BK605;have n8_:=nA hg BK606;have n9_:=nB hg BK606;clear BK605;clear BK606;clear HB;have BK605:=n0_;have BK606:=n1_;have HB:=n2_;have BK607:=n3_;have GW607:=n4_;have GE607:=n5_;have NB605_607:=n6_;have NB607_605:=n7_;have NB606_607:=n8_;have NB607_606:=n9_;clear n0_ n1_ n2_ n3_ n4_ n5_ n6_ n7_ n8_ n9_;clear hb hbox hg;have hnb9:=NB607_605.out;have hnc9:=NB605_607.out;have hnb10:=NB607_606.out;have hnc10:=NB606_607.out;obtain ⟨hcz11_0,hcz11_1,hfz11_0,hfz11_1⟩:=cz2 BK607))
 (try simp only [Act.put,List.setIfInBounds_toArray,List.set_cons_zero,List.set_cons_succ])
 go_cut [] (fun wc=>∃ (kq:Nat) (x607000_4:Int) (x607001_4:Int) (x608000_4:Int) (x608001_4:Int),Aside0 (impl_lineAt.j0 kq a0 a1_0 a1_1 a1_2 x607000_4 x607001_4 x608000_4 x608001_4=some (r1,r2,r3))∧Aside0 (kq≤k)∧Aside0 (wc.heap[gb605]?=some (.cells #[.int .i64 a1_0,.int .i64 a1_1,.int .i64 a1_2] 25 (0,0)))∧Aside0 (wc.heap[gb606]?=some (.cells #[.int .i64 x607000_4,.int .i64 x607001_4] 27 (0,0)))∧Aside0 (wc.heap[gb607]?=some (.cells #[.int .i64 x608000_4,.int .i64 x608001_4] 27 (0,0)))∧Aside0 (Below w.heap.size w wc))
 case first=>
  have H:=HC5.out
  clear HC5
  by_cases c12:a3_1=0
  ·
   rw [if_pos c12] at H
   have c12b0:(a3_1 == 0)=true:=beq_iff_eq.mpr c12
   have c12b1:(a3_1 != 0)=false:=bne_eq_false_iff_eq.mpr c12
   clear c12
   (first|rw [c12b0]|(simp only [i64_w,i32_w];rw [c12b0])|skip)
   have H':=Aside0.mk H
   clear H
   have hnb13:=NB607_605.out
   have hnc13:=NB605_607.out
   have hnb14:=NB607_606.out
   have hnc14:=NB606_607.out
   obtain ⟨hcz15_0,hcz15_1,hfz15_0,hfz15_1⟩:=cz2 BK607
   have hnb16:=NB606_605.out
   have hnc16:=NB605_606.out
   obtain ⟨hcz17_0,hcz17_1,hfz17_0,hfz17_1⟩:=cz2 BK606
   go_wp2
   go_meet
   case rel=>exact ⟨_,(a3_0),(a3_1),(a2_0),(a2_1),H',⟨by first|omega|exact Nat.le_refl _⟩,⟨bkF BK605⟩,⟨bpA BK606⟩,⟨bpA BK607⟩,⟨blA⟩⟩
  ·
   rw [if_neg c12] at H
   have c12b0:(a3_1 == 0)=false:=beq_eq_false_iff_ne.mpr c12
   have c12b1:(a3_1 != 0)=true:=bne_iff_ne.mpr c12
   (first|rw [c12b0]|(simp only [i64_w,i32_w];rw [c12b0])|skip)
   have H':=Aside0.mk H
   clear H
   go_wp2
   go_meet
   case rel=>exact ⟨_,(a2_0),(a2_1),(a3_0),(a3_1),H',⟨by first|omega|exact Nat.le_refl _⟩,⟨bkA BK605⟩,⟨bkA BK606⟩,⟨bkA BK607⟩,⟨blA⟩⟩
 case rest=>
  clear HC5
  try clear c12
  try clear c12b0
  try clear c12b1
  try clear hcz11_0
  try clear hcz11_1
  try clear hcz15_0
  try clear hcz15_1
  try clear hcz17_0
  try clear hcz17_1
  try clear hfz11_0
  try clear hfz11_1
  try clear hfz15_0
  try clear hfz15_1
  try clear hfz17_0
  try clear hfz17_1
  obtain ⟨kq,x607000_4,x607001_4,x608000_4,x608001_4,HA,HJ4,BK605,BK606,BK607,HB⟩:=hcut
  cases kq with
  | zero=>exact absurd HA.out (by simp [impl_lineAt.j0])
  | succ kj4=>
   have H:=HA.out
   clear HA
   simp only [impl_lineAt.j0] at H
   by_cases c18:x607001_4=0
   ·
    rw [if_pos c18] at H
    have c18b0:(x607001_4 == 0)=true:=beq_iff_eq.mpr c18
    have c18b1:(x607001_4 != 0)=false:=bne_eq_false_iff_eq.mpr c18
    clear c18
    replace H:=bS H
    obtain ⟨t608,A19,H⟩:=H
    try dsimp only at H
    simp only [Option.some.injEq,Prod.mk.injEq] at H
    obtain ⟨rfl,rfl,rfl⟩:=H
    have hnb20:=NB606_605.out
    have hnc20:=NB605_606.out
    have hnb21:=NB606_607.out
    have hnc21:=NB607_606.out
    obtain ⟨hcz22_0,hcz22_1,hfz22_0,hfz22_1⟩:=cz2 BK606
    have hnb23:=NB605_607.out
    have hnc23:=NB607_605.out
    obtain ⟨hcz24_0,hcz24_1,hcz24_2,hfz24_0,hfz24_1,hfz24_2⟩:=cz3 BK605
    obtain ⟨hcz25_0,hcz25_1,hfz25_0,hfz25_1⟩:=cz2 BK607
    try go_wp2_with (first|((with_reducible refine gd 26 rfl ?_);refine gC (some 26) rfl Try.func74 (impl_turning.calls (w:=_) (h:=A19.out)) ?_;intro w26 hb;have n0_:=kB BK605 hb;have n1_:=kB BK606 hb;have n2_:=kB BK607 hb;have n3_:=lB hb;clear BK605;clear BK606;clear BK607;clear HB;have BK605:=n0_;have BK606:=n1_;have BK607:=n2_;have HB:=n3_;clear n0_ n1_ n2_ n3_;clear hb))
    have n0_:=Aside0.mk (blk_drew BK605.out)
    have n1_:=Aside0.mk (blk_drew BK606.out)
    have n2_:=Aside0.mk (blk_drew BK607.out)
    have n3_:=Aside0.mk (below_drew1 HB.out)
    clear BK605
    clear BK606
    clear BK607
    clear HB
    have BK605:=n0_
    have BK606:=n1_
    have BK607:=n2_
    have HB:=n3_
    clear n0_ n1_ n2_ n3_
    refine start_ (n:=8) (S:=fun w'=>w'.cell? ⟨gb605,0,none⟩=some (.int .i64 a1_0)∧w'.cell? ⟨gb605,1,none⟩=some (.int .i64 a1_1)∧w'.cell? ⟨gb605,2,none⟩=some (.int .i64 a1_2)) (ds:=[]) #[Z,Z,Z,Z,Z,Z,Z,Z] (by kernel_rfl) rfl rfl ⟨cA BK605 0,cA BK605 1,cA BK605 2⟩ (fun hHeld=>?_);refine with_tabW impl_lineAt.tab5 impl_lineAt.bits5 (fun HT_ HW_=>?_)
    generalize w26.drew=w27 at BK605 BK606 BK607 HB hHeld ⊢
    refine puA (i:=0) (N:=some 27) #[Y,Z,Z,Z,Z,Z,Z,Z] rfl rfl HT_ ?_
    refine puA (i:=1) (N:=some 28) #[Y,Y,Z,Z,Z,Z,Z,Z] rfl rfl HT_ ?_
    refine puA (i:=3) (N:=some 30) #[Y,Y,Z,Y,Z,Z,Z,Z] rfl rfl HT_ ?_
    refine puA (i:=5) (N:=some 8) #[Y,Y,Z,Y,Z,Y,Z,Z] rfl rfl HT_ ?_
    refine puA (i:=6) (N:=some 9) #[Y,Y,Z,Y,Z,Y,Y,Z] rfl rfl HT_ ?_
    refine taA (i:=2) (N:=some 29) #[Y,Y,Y,Y,Z,Y,Y,Z] rfl rfl HT_ HW_ hHeld ?_
    refine puA (i:=4) (N:=some 31) #[Y,Y,Y,Y,Y,Y,Y,Z] rfl rfl HT_ ?_
    refine puA (i:=7) (N:=some 10) #[Y,Y,Y,Y,Y,Y,Y,Y] rfl rfl HT_ ?_
    refine done_ (done_of HT_.out (by kernel_rfl)) ?_
    try go_wp2
    go_ret3
    exact finA blA
   ·
    rw [if_neg c18] at H
    have c18b0:(x607001_4 == 0)=false:=beq_eq_false_iff_ne.mpr c18
    have c18b1:(x607001_4 != 0)=true:=bne_iff_ne.mpr c18
    replace H:=bS H
    obtain ⟨t609,A28,H⟩:=H
    try dsimp only at H
    replace H:=bS H
    obtain ⟨t610,A29,H⟩:=H
    try dsimp only at H
    by_cases c30:t609=t610
    focus
     rw [if_pos c30] at H
     have c30b0:(t609 == t610)=true:=beq_iff_eq.mpr c30
     have c30b1:(t609 != t610)=false:=bne_eq_false_iff_eq.mpr c30
     clear c30
     replace H:=bS H
     obtain ⟨t611,A31,H⟩:=H
     try dsimp only at H
     simp only [Option.some.injEq,Prod.mk.injEq] at H
     obtain ⟨rfl,rfl,rfl⟩:=H
     have hnb32:=NB606_605.out
     have hnc32:=NB605_606.out
     have hnb33:=NB606_607.out
     have hnc33:=NB607_606.out
     obtain ⟨hcz34_0,hcz34_1,hfz34_0,hfz34_1⟩:=cz2 BK606
    rotate_left
    focus
     rw [if_neg c30] at H
     have c30b0:(t609 == t610)=false:=beq_eq_false_iff_ne.mpr c30
     have c30b1:(t609 != t610)=true:=bne_iff_ne.mpr c30
     obtain ⟨ji43,hji43⟩:∃ j_:Int,(mx t609 t610)=j_:=⟨_,rfl⟩
     replace H:(some (ji43,false,wrap64 (a1_0 - (ji43))))=some (r1,r2,r3):=by first|(rw [hji43] at H;exact H)|(simp only [hji43] at H ⊢;exact H)
     (try rw [hji43] at A28)
     (try rw [hji43] at A29)
     have hji43_:(if t609<t610 then t610 else t609)=ji43:=hji43
     simp only [Option.some.injEq,Prod.mk.injEq] at H
     obtain ⟨rfl,rfl,rfl⟩:=H
     have hnb44:=NB606_605.out
     have hnc44:=NB605_606.out
     have hnb45:=NB606_607.out
     have hnc45:=NB607_606.out
     obtain ⟨hcz46_0,hcz46_1,hfz46_0,hfz46_1⟩:=cz2 BK606
    rotate_left
    all_goals
     try go_wp2
     have n0_:=Aside0.mk (blk_drew BK605.out)
     have n1_:=Aside0.mk (blk_drew BK606.out)
     have n2_:=Aside0.mk (blk_drew BK607.out)
     have n3_:=Aside0.mk (below_drew1 HB.out)
     clear BK605
     clear BK606
     clear BK607
     clear HB
     have BK605:=n0_
     have BK606:=n1_
     have BK607:=n2_
     have HB:=n3_
     clear n0_ n1_ n2_ n3_
    ·
     refine start_ (n:=10) (S:=fun w'=>w'.cell? ⟨gb605,0,none⟩=some (.int .i64 a1_0)∧w'.cell? ⟨gb605,1,none⟩=some (.int .i64 a1_1)∧w'.cell? ⟨gb605,2,none⟩=some (.int .i64 a1_2)∧w'.cell? ⟨gb606,0,none⟩=some (.int .i64 x607000_4)∧w'.cell? ⟨gb606,1,none⟩=some (.int .i64 x607001_4)∧w'.cell? ⟨gb607,0,none⟩=some (.int .i64 x608000_4)∧w'.cell? ⟨gb607,1,none⟩=some (.int .i64 x608001_4)) (ds:=[]) #[Z,Z,Z,Z,Z,Z,Z,Z,Z,Z] (by kernel_rfl) rfl rfl ⟨cA BK605 0,cA BK605 1,cA BK605 2,cA BK606 0,cA BK606 1,cA BK607 0,cA BK607 1⟩ (fun hHeld=>?_);refine with_tabW impl_lineAt.tab6 impl_lineAt.bits6 (fun HT_ HW_=>?_)
     generalize wc.drew=w35 at BK605 BK606 BK607 HB hHeld ⊢
     refine puA (i:=0) (N:=some 32) #[Y,Z,Z,Z,Z,Z,Z,Z,Z,Z] rfl rfl HT_ ?_
     refine puA (i:=4) (N:=some 36) #[Y,Z,Z,Z,Y,Z,Z,Z,Z,Z] rfl rfl HT_ ?_
     refine taA (i:=1) (N:=some 33) #[Y,Y,Z,Z,Y,Z,Z,Z,Z,Z] rfl rfl HT_ HW_ hHeld ?_
     refine taA (i:=2) (N:=some 34) #[Y,Y,Y,Z,Y,Z,Z,Z,Z,Z] rfl rfl HT_ HW_ hHeld ?_
     refine taA (i:=5) (N:=some 37) #[Y,Y,Y,Z,Y,Y,Z,Z,Z,Z] rfl rfl HT_ HW_ hHeld ?_
     refine taA (i:=6) (N:=some 38) #[Y,Y,Y,Z,Y,Y,Y,Z,Z,Z] rfl rfl HT_ HW_ hHeld ?_
     refine one_ (i:=3) (N:=some 35) #[Y,Y,Y,Y,Y,Y,Y,Z,Z,Z] rfl rfl (one_of HT_.out (by kernel_rfl)) (by decide) (fun K hK=>?_)
     refine goC Try.func74 (impl_turning.calls (w:=_) (h:=A28.out)) ?_
     intro w36 hb
     replace BK605:=kB BK605 hb
     replace BK606:=kB BK606 hb
     replace BK607:=kB BK607 hb
     replace HB:=lB hb
     (try clear hb)
     (try clear hb2)
     (try clear hk)
     (try clear hi)
     refine hK.out _ _ ⟨cA BK605 0,cA BK605 1,cA BK605 2,cA BK606 0,cA BK606 1,cA BK607 0,cA BK607 1⟩ (fun hHeld=>?_)
     clear hK K
     refine nmA ?_
     refine one_ (i:=7) (N:=some 39) #[Y,Y,Y,Y,Y,Y,Y,Y,Z,Z] rfl rfl (one_of HT_.out (by kernel_rfl)) (by decide) (fun K hK=>?_)
     refine goC Try.func74 (impl_turning.calls (w:=_) (h:=A29.out)) ?_
     intro w37 hb
     replace BK605:=kB BK605 hb
     replace BK606:=kB BK606 hb
     replace BK607:=kB BK607 hb
     replace HB:=lB hb
     (try clear hb)
     (try clear hb2)
     (try clear hk)
     (try clear hi)
     refine hK.out _ _ ⟨cA BK605 0,cA BK605 1,cA BK605 2,cA BK606 0,cA BK606 1,cA BK607 0,cA BK607 1⟩ (fun hHeld=>?_)
     clear hK K
     refine nmA ?_
     refine puA (i:=8) (N:=some 12) #[Y,Y,Y,Y,Y,Y,Y,Y,Y,Z] rfl rfl HT_ ?_
     refine puA (i:=9) (N:=some 13) #[Y,Y,Y,Y,Y,Y,Y,Y,Y,Y] rfl rfl HT_ ?_
     refine done_ (done_of HT_.out (by kernel_rfl)) ?_
     obtain ⟨hcz38_0,hcz38_1,hfz38_0,hfz38_1⟩:=cz2 BK606
     have hnb39:=NB607_605.out
     have hnc39:=NB605_607.out
     obtain ⟨hcz40_0,hcz40_1,hfz40_0,hfz40_1⟩:=cz2 BK607
     try go_wp2_with (first|((with_reducible refine gd 55 rfl ?_);refine gC (some 55) rfl Try.func75 (impl_gap.calls (w:=_) (h:=A31.out)) ?_;intro w41 hb;have n0_:=kB BK605 hb;have n1_:=kB BK606 hb;have n2_:=kB BK607 hb;have n3_:=lB hb;clear BK605;clear BK606;clear BK607;clear HB;have BK605:=n0_;have BK606:=n1_;have BK607:=n2_;have HB:=n3_;clear n0_ n1_ n2_ n3_;clear hb))
     have n0_:=Aside0.mk (blk_drew BK605.out)
     have n1_:=Aside0.mk (blk_drew BK606.out)
     have n2_:=Aside0.mk (blk_drew BK607.out)
     have n3_:=Aside0.mk (below_drew1 HB.out)
     clear BK605
     clear BK606
     clear BK607
     clear HB
     have BK605:=n0_
     have BK606:=n1_
     have BK607:=n2_
     have HB:=n3_
     clear n0_ n1_ n2_ n3_
     refine start_ (n:=12) (S:=fun w'=>w'.cell? ⟨gb605,0,none⟩=some (.int .i64 a1_0)∧w'.cell? ⟨gb605,1,none⟩=some (.int .i64 a1_1)∧w'.cell? ⟨gb605,2,none⟩=some (.int .i64 a1_2)) (ds:=[]) #[Z,Z,Z,Z,Z,Z,Z,Z,Z,Z,Z,Z] (by kernel_rfl) rfl rfl ⟨cA BK605 0,cA BK605 1,cA BK605 2⟩ (fun hHeld=>?_);refine with_tabW impl_lineAt.tab10 impl_lineAt.bits10 (fun HT_ HW_=>?_)
     generalize w41.drew=w42 at BK605 BK606 BK607 HB hHeld ⊢
     refine puA (i:=0) (N:=some 56) #[Y,Z,Z,Z,Z,Z,Z,Z,Z,Z,Z,Z] rfl rfl HT_ ?_
     refine puA (i:=1) (N:=some 57) #[Y,Y,Z,Z,Z,Z,Z,Z,Z,Z,Z,Z] rfl rfl HT_ ?_
     refine puA (i:=3) (N:=some 59) #[Y,Y,Z,Y,Z,Z,Z,Z,Z,Z,Z,Z] rfl rfl HT_ ?_
     refine puA (i:=5) (N:=some 61) #[Y,Y,Z,Y,Z,Y,Z,Z,Z,Z,Z,Z] rfl rfl HT_ ?_
     refine puA (i:=7) (N:=some 63) #[Y,Y,Z,Y,Z,Y,Z,Y,Z,Z,Z,Z] rfl rfl HT_ ?_
     refine puA (i:=9) (N:=some 8) #[Y,Y,Z,Y,Z,Y,Z,Y,Z,Y,Z,Z] rfl rfl HT_ ?_
     refine puA (i:=10) (N:=some 9) #[Y,Y,Z,Y,Z,Y,Z,Y,Z,Y,Y,Z] rfl rfl HT_ ?_
     refine taA (i:=2) (N:=some 58) #[Y,Y,Y,Y,Z,Y,Z,Y,Z,Y,Y,Z] rfl rfl HT_ HW_ hHeld ?_
     refine puA (i:=4) (N:=some 60) #[Y,Y,Y,Y,Y,Y,Z,Y,Z,Y,Y,Z] rfl rfl HT_ ?_
     refine puA (i:=6) (N:=some 62) #[Y,Y,Y,Y,Y,Y,Y,Y,Z,Y,Y,Z] rfl rfl HT_ ?_
     refine puA (i:=8) (N:=some 64) #[Y,Y,Y,Y,Y,Y,Y,Y,Y,Y,Y,Z] rfl rfl HT_ ?_
     refine puA (i:=11) (N:=some 10) #[Y,Y,Y,Y,Y,Y,Y,Y,Y,Y,Y,Y] rfl rfl HT_ ?_
     refine done_ (done_of HT_.out (by kernel_rfl)) ?_
     try go_wp2
     go_ret3
     exact finA blA
    ·
     refine start_ (n:=10) (S:=fun w'=>w'.cell? ⟨gb605,0,none⟩=some (.int .i64 a1_0)∧w'.cell? ⟨gb605,1,none⟩=some (.int .i64 a1_1)∧w'.cell? ⟨gb605,2,none⟩=some (.int .i64 a1_2)∧w'.cell? ⟨gb606,0,none⟩=some (.int .i64 x607000_4)∧w'.cell? ⟨gb606,1,none⟩=some (.int .i64 x607001_4)∧w'.cell? ⟨gb607,0,none⟩=some (.int .i64 x608000_4)∧w'.cell? ⟨gb607,1,none⟩=some (.int .i64 x608001_4)) (ds:=[]) #[Z,Z,Z,Z,Z,Z,Z,Z,Z,Z] (by kernel_rfl) rfl rfl ⟨cA BK605 0,cA BK605 1,cA BK605 2,cA BK606 0,cA BK606 1,cA BK607 0,cA BK607 1⟩ (fun hHeld=>?_);refine with_tabW impl_lineAt.tab6 impl_lineAt.bits6 (fun HT_ HW_=>?_)
     generalize wc.drew=w47 at BK605 BK606 BK607 HB hHeld ⊢
     refine puA (i:=0) (N:=some 32) #[Y,Z,Z,Z,Z,Z,Z,Z,Z,Z] rfl rfl HT_ ?_
     refine puA (i:=4) (N:=some 36) #[Y,Z,Z,Z,Y,Z,Z,Z,Z,Z] rfl rfl HT_ ?_
     refine taA (i:=1) (N:=some 33) #[Y,Y,Z,Z,Y,Z,Z,Z,Z,Z] rfl rfl HT_ HW_ hHeld ?_
     refine taA (i:=2) (N:=some 34) #[Y,Y,Y,Z,Y,Z,Z,Z,Z,Z] rfl rfl HT_ HW_ hHeld ?_
     refine taA (i:=5) (N:=some 37) #[Y,Y,Y,Z,Y,Y,Z,Z,Z,Z] rfl rfl HT_ HW_ hHeld ?_
     refine taA (i:=6) (N:=some 38) #[Y,Y,Y,Z,Y,Y,Y,Z,Z,Z] rfl rfl HT_ HW_ hHeld ?_
     refine one_ (i:=3) (N:=some 35) #[Y,Y,Y,Y,Y,Y,Y,Z,Z,Z] rfl rfl (one_of HT_.out (by kernel_rfl)) (by decide) (fun K hK=>?_)
     refine goC Try.func74 (impl_turning.calls (w:=_) (h:=A28.out)) ?_
     intro w48 hb
     replace BK605:=kB BK605 hb
     replace BK606:=kB BK606 hb
     replace BK607:=kB BK607 hb
     replace HB:=lB hb
     (try clear hb)
     (try clear hb2)
     (try clear hk)
     (try clear hi)
     refine hK.out _ _ ⟨cA BK605 0,cA BK605 1,cA BK605 2,cA BK606 0,cA BK606 1,cA BK607 0,cA BK607 1⟩ (fun hHeld=>?_)
     clear hK K
     refine nmA ?_
     refine one_ (i:=7) (N:=some 39) #[Y,Y,Y,Y,Y,Y,Y,Y,Z,Z] rfl rfl (one_of HT_.out (by kernel_rfl)) (by decide) (fun K hK=>?_)
     refine goC Try.func74 (impl_turning.calls (w:=_) (h:=A29.out)) ?_
     intro w49 hb
     replace BK605:=kB BK605 hb
     replace BK606:=kB BK606 hb
     replace BK607:=kB BK607 hb
     replace HB:=lB hb
     (try clear hb)
     (try clear hb2)
     (try clear hk)
     (try clear hi)
     refine hK.out _ _ ⟨cA BK605 0,cA BK605 1,cA BK605 2,cA BK606 0,cA BK606 1,cA BK607 0,cA BK607 1⟩ (fun hHeld=>?_)
     clear hK K
     refine nmA ?_
     refine puA (i:=8) (N:=some 12) #[Y,Y,Y,Y,Y,Y,Y,Y,Y,Z] rfl rfl HT_ ?_
     refine puA (i:=9) (N:=some 13) #[Y,Y,Y,Y,Y,Y,Y,Y,Y,Y] rfl rfl HT_ ?_
     refine done_ (done_of HT_.out (by kernel_rfl)) ?_
     try go_wp2
     have n0_:=Aside0.mk (blk_drew BK605.out)
     have n1_:=Aside0.mk (blk_drew BK606.out)
     have n2_:=Aside0.mk (blk_drew BK607.out)
     have n3_:=Aside0.mk (below_drew1 HB.out)
     clear BK605
     clear BK606
     clear BK607
     clear HB
     have BK605:=n0_
     have BK606:=n1_
     have BK607:=n2_
     have HB:=n3_
     clear n0_ n1_ n2_ n3_
     refine start_ (n:=12) (S:=fun w'=>w'.cell? ⟨gb605,0,none⟩=some (.int .i64 a1_0)∧w'.cell? ⟨gb605,1,none⟩=some (.int .i64 a1_1)∧w'.cell? ⟨gb605,2,none⟩=some (.int .i64 a1_2)) (ds:=[]) #[Z,Z,Z,Z,Z,Z,Z,Z,Z,Z,Z,Z] (by kernel_rfl) rfl rfl ⟨cA BK605 0,cA BK605 1,cA BK605 2⟩ (fun hHeld=>?_);refine with_tabW impl_lineAt.tab8 impl_lineAt.bits8 (fun HT_ HW_=>?_)
     generalize w49.drew=w50 at BK605 BK606 BK607 HB hHeld ⊢
     refine puA (i:=0) (N:=some 43) #[Y,Z,Z,Z,Z,Z,Z,Z,Z,Z,Z,Z] rfl rfl HT_ ?_
     refine puA (i:=1) (N:=some 44) #[Y,Y,Z,Z,Z,Z,Z,Z,Z,Z,Z,Z] rfl rfl HT_ ?_
     refine puA (i:=2) (N:=some 45) #[Y,Y,Y,Z,Z,Z,Z,Z,Z,Z,Z,Z] rfl rfl HT_ ?_
     refine puA (i:=3) (N:=some 46) #[Y,Y,Y,Y,Z,Z,Z,Z,Z,Z,Z,Z] rfl rfl HT_ ?_
     refine puA (i:=5) (N:=some 48) #[Y,Y,Y,Y,Z,Y,Z,Z,Z,Z,Z,Z] rfl rfl HT_ ?_
     refine puA (i:=6) (N:=some 49) #[Y,Y,Y,Y,Z,Y,Y,Z,Z,Z,Z,Z] rfl rfl HT_ ?_
     refine puA (i:=7) (N:=some 50) #[Y,Y,Y,Y,Z,Y,Y,Y,Z,Z,Z,Z] rfl rfl HT_ ?_
     refine puA (i:=9) (N:=some 8) #[Y,Y,Y,Y,Z,Y,Y,Y,Z,Y,Z,Z] rfl rfl HT_ ?_
     refine puA (i:=10) (N:=some 9) #[Y,Y,Y,Y,Z,Y,Y,Y,Z,Y,Y,Z] rfl rfl HT_ ?_
     refine taA (i:=4) (N:=some 47) #[Y,Y,Y,Y,Y,Y,Y,Y,Z,Y,Y,Z] rfl rfl HT_ HW_ hHeld ?_
     refine puA (i:=8) (N:=some 51) #[Y,Y,Y,Y,Y,Y,Y,Y,Y,Y,Y,Z] rfl rfl HT_ ?_
     refine puA (i:=11) (N:=some 10) #[Y,Y,Y,Y,Y,Y,Y,Y,Y,Y,Y,Y] rfl rfl HT_ ?_
     refine done_ (done_of HT_.out (by kernel_rfl)) ?_
     try go_wp2
     go_ret3
     exact ⟨by first|rfl|(simp [errW_none,errW_some] <;> rfl)|(simp only [← hji43];first|rfl|(simp [errW_none,errW_some] <;> rfl))|(simp [*,errW_none,errW_some] <;> rfl),blA⟩
def spec_CommonSteps.f (k:Nat) (a0 a1_0 a1_1 a1_2 a2_0 a2_1 a3_0 a3_1:Int):Option (Int × Int):=(spec_l05Code.f k a0 (([(⟨a1_0,a1_1,a1_2⟩:S25)]:List (S25))) (([(⟨a2_0,a2_1⟩:S27),(⟨a3_0,a3_1⟩:S27)]:List (S27)))).bind fun t653=>(if t653=0 then ((spec_l05Steps.f k a0 a1_0 a1_1 a1_2 a2_0 a2_1 a3_0 a3_1).bind fun t654=>(some (t654,0))) else (some (0,t653)))
theorem spec_CommonSteps.mono:∀ a0 a1 a2 a3 a4 a5 a6 a7 k,LeO (spec_CommonSteps.f k a0 a1 a2 a3 a4 a5 a6 a7) (spec_CommonSteps.f (k+1) a0 a1 a2 a3 a4 a5 a6 a7):=by
 intro a0 a1 a2 a3 a4 a5 a6 a7 k
 unfold spec_CommonSteps.f
 repeat' first
   | with_reducible first|exact spec_l05Code.mono ..|exact spec_l05Steps.mono ..|exact LeO.refl _|exact LeO.none _|refine LeO.ite ?_ ?_|refine LeO.bind ?_ fun _=>?_
set_option maxHeartbeats 8000000 in
set_option maxRecDepth 100000 in
theorem spec_CommonSteps.calls (k:Nat) (a0 a1_0 a1_1 a1_2 a2_0 a2_1 a3_0 a3_1 r1 r2:Int) (w:World) (h:spec_CommonSteps.f k a0 a1_0 a1_1 a1_2 a2_0 a2_1 a3_0 a3_1=some (r1,r2)) :
  Calls Try.prog 12 #[.int .i64 a0,.agg #[.int .i64 a1_0,.int .i64 a1_1,.int .i64 a1_2],.agg #[.int .i64 a2_0,.int .i64 a2_1],.agg #[.int .i64 a3_0,.int .i64 a3_1]] w fun e w'=>e=.returned (.tuple #[.int .i64 r1,.int .i64 r2])∧Below w.heap.size w w':=by
 have hu25:=Try.underlying25
 have hu27:=Try.underlying27
 have HB:=Aside0.mk (Below.refl w.heap.size w)
 have H:=h
 unfold spec_CommonSteps.f at H
 clear h
 obtain ⟨y647,hy647⟩:∃ y_:List (S25),y_=(([(⟨a1_0,a1_1,a1_2⟩:S25)]:List (S25))):=⟨_,rfl⟩
 replace H:((spec_l05Code.f k a0 y647 (([(⟨a2_0,a2_1⟩:S27),(⟨a3_0,a3_1⟩:S27)]:List (S27)))).bind fun t653=>(if t653=0 then ((spec_l05Steps.f k a0 a1_0 a1_1 a1_2 a2_0 a2_1 a3_0 a3_1).bind fun t654=>(some (t654,0))) else (some (0,t653))))=some (r1,r2):=rH hy647 H
 have Ny647:=Aside0.mk hy647
 clear hy647
 obtain ⟨y650,hy650⟩:∃ y_:List (S27),y_=(([(⟨a2_0,a2_1⟩:S27),(⟨a3_0,a3_1⟩:S27)]:List (S27))):=⟨_,rfl⟩
 replace H:((spec_l05Code.f k a0 y647 y650).bind fun t653=>(if t653=0 then ((spec_l05Steps.f k a0 a1_0 a1_1 a1_2 a2_0 a2_1 a3_0 a3_1).bind fun t654=>(some (t654,0))) else (some (0,t653))))=some (r1,r2):=rH hy650 H
 have Ny650:=Aside0.mk hy650
 clear hy650
 replace H:=bS H
 obtain ⟨t653,A5,H⟩:=H
 try dsimp only at H
 by_cases c6:t653=0
 ·
  rw [if_pos c6] at H
  have c6b0:(t653 == 0)=true:=beq_iff_eq.mpr c6
  have c6b1:(t653 != 0)=false:=bne_eq_false_iff_eq.mpr c6
  clear c6
  replace H:=bS H
  obtain ⟨t654,A7,H⟩:=H
  try dsimp only at H
  simp only [Option.some.injEq,Prod.mk.injEq] at H
  obtain ⟨rfl,rfl⟩:=H
  go_enter Try.func12,Try.ntmps12
  go_wp2_with (first|((with_reducible refine gate_dst (N:=5) rfl ?_);refine bxE (cs:=#[.int .i64 a1_0,.int .i64 a1_1,.int .i64 a1_2]) (t:=25) ?_;intro gb644 hg w8 hbox hb;have BK644:=Aside0.mk hbox;have GW644:=sA hg;have GE644:=sA hg;replace HB:=lB hb;clear hb hbox hg)|((with_reducible refine gate_dst (N:=6) rfl ?_);refine bxE (cs:=#[.int .i64 a2_0,.int .i64 a2_1]) (t:=27) ?_;intro gb645 hg w9 hbox hb;have BK645:=Aside0.mk hbox;have GW645:=sA hg;have GE645:=sA hg;have NB644_645:=nA hg BK644;have NB645_644:=nB hg BK644;replace BK644:=kB BK644 hb;replace HB:=lB hb;clear hb hbox hg)|((with_reducible refine gate_dst (N:=7) rfl ?_);refine bxE (cs:=#[.int .i64 a3_0,.int .i64 a3_1]) (t:=27) ?_;intro gb646 hg w10 hbox hb;have BK646:=Aside0.mk hbox;have GW646:=sA hg;have GE646:=sA hg;have NB644_646:=nA hg BK644;have NB646_644:=nB hg BK644;have NB645_646:=nA hg BK645;have NB646_645:=nB hg BK645;replace BK644:=kB BK644 hb;replace BK645:=kB BK645 hb;replace HB:=lB hb;clear hb hbox hg;have hnb11:=NB644_645.out;have hnc11:=NB645_644.out;have hnb12:=NB644_646.out;have hnc12:=NB646_644.out;obtain ⟨hcz13_0,hcz13_1,hcz13_2,hfz13_0,hfz13_1,hfz13_2⟩:=cz3 BK644)|((with_reducible refine gate_dst (N:=13) rfl ?_);refine Kd.R_lit k25 _ 25 ?hg (N:=13) ?hd (xs:=([(⟨a1_0,a1_1,a1_2⟩:S25)]:List (S25))) (inner:=[.int .i64 a1_0,.int .i64 a1_1,.int .i64 a1_2]) (ok:=fun _=>True) (okp:=fun _=>True) ?hr ?hp (fun _ hk=>hk) trivial (Below.refl _ _) (Nat.le_refl _) (by simp) ?_;(case hd=>rfl);(case hg=>rfl);(case hr=>first|(go_simp;done)|(go_simp;rfl));(case hp=>exact (Reps.c3 (show Kd.M k25 _ _ _ (⟨a1_0,a1_1,a1_2⟩:S25) [.int .i64 a1_0,.int .i64 a1_1,.int .i64 a1_2] from (k25_mkM _ _ _ (⟨a1_0,a1_1,a1_2⟩:S25) )) (Reps.none _ _)));intro v648 w14 ho15 hb hg_ hnew_;clear hg_ hnew_;(first|rw [← Ny647.out] at ho15|(simp only [Int.reduceToNat] at ho15;rw [← Ny647.out] at ho15));have HO649:=Aside0.mk (Kd.R_lower (Kd.R_newB ho15 (bkA BK644)) (below_size blA));replace BK644:=kB BK644 hb;replace BK645:=kB BK645 hb;replace BK646:=kB BK646 hb;replace HB:=lB hb;clear hb ho15;have hnb16:=NB645_646.out;have hnc16:=NB646_645.out;obtain ⟨hcz17_0,hcz17_1,hfz17_0,hfz17_1⟩:=cz2 BK645;obtain ⟨hcz18_0,hcz18_1,hfz18_0,hfz18_1⟩:=cz2 BK646)|((with_reducible refine gate_dst (N:=16) rfl ?_);refine Kd.R_lit k27 _ 27 ?hg (N:=16) ?hd (xs:=([(⟨a2_0,a2_1⟩:S27),(⟨a3_0,a3_1⟩:S27)]:List (S27))) (inner:=[.int .i64 a2_0,.int .i64 a2_1,.int .i64 a3_0,.int .i64 a3_1]) (ok:=fun _=>True) (okp:=fun _=>True) ?hr ?hp (fun _ hk=>hk) trivial (Below.refl _ _) (Nat.le_refl _) (by simp) ?_;(case hd=>rfl);(case hg=>rfl);(case hr=>first|(go_simp;done)|(go_simp;rfl));(case hp=>exact (Reps.c2 (show Kd.M k27 _ _ _ (⟨a2_0,a2_1⟩:S27) [.int .i64 a2_0,.int .i64 a2_1] from (k27_mkM _ _ _ (⟨a2_0,a2_1⟩:S27) )) (Reps.c2 (show Kd.M k27 _ _ _ (⟨a3_0,a3_1⟩:S27) [.int .i64 a3_0,.int .i64 a3_1] from (k27_mkM _ _ _ (⟨a3_0,a3_1⟩:S27) )) (Reps.none _ _))));intro v651 w19 ho20 hb hg_ hnew_;clear hg_ hnew_;(first|rw [← Ny650.out] at ho20|(simp only [Int.reduceToNat] at ho20;rw [← Ny650.out] at ho20));have HO652:=Aside0.mk (Kd.R_lower (Kd.R_newB (Kd.R_newB ho20 (bkA BK645)) (bkA BK646)) (below_size blA));replace HO649:=Aside0.mk (Kd.R_below (rA HO649) hb);replace BK644:=kB BK644 hb;replace BK645:=kB BK645 hb;replace BK646:=kB BK646 hb;replace HB:=lB hb;clear hb ho20;obtain ⟨Ao21,co21,eo21⟩:=Kd.R_slice HO649.out;subst eo21;obtain ⟨Ao22,co22,eo22⟩:=Kd.R_slice HO652.out;subst eo22)|((with_reducible refine gd 17 rfl ?_);refine gC (some 17) rfl Try.func31 (spec_l05Code.calls (w:=_) (hr1:=cR (Kd.R_reads' HO649.out).2.2) (hc1:=(Kd.R_reads' HO649.out).2.1) (hr2:=cR (Kd.R_reads' HO652.out).2.2) (hc2:=(Kd.R_reads' HO652.out).2.1) (h:=A5.out)) ?_;intro w23 hb;replace HO649:=Aside0.mk (Kd.R_below (rA HO649) hb);replace HO652:=Aside0.mk (Kd.R_below (rA HO652) hb);replace BK644:=kB BK644 hb;replace BK645:=kB BK645 hb;replace BK646:=kB BK646 hb;replace HB:=lB hb;clear hb;obtain ⟨hcz24_0,hcz24_1,hcz24_2,hfz24_0,hfz24_1,hfz24_2⟩:=cz3 BK644;obtain ⟨hcz25_0,hcz25_1,hfz25_0,hfz25_1⟩:=cz2 BK645;obtain ⟨hcz26_0,hcz26_1,hfz26_0,hfz26_1⟩:=cz2 BK646)|((with_reducible refine gd 25 rfl ?_);refine gC (some 25) rfl Try.func39 (spec_l05Steps.calls (w:=_) (h:=A7.out)) ?_;intro w27 hb;replace HO649:=Aside0.mk (Kd.R_below (rA HO649) hb);replace HO652:=Aside0.mk (Kd.R_below (rA HO652) hb);replace BK644:=kB BK644 hb;replace BK645:=kB BK645 hb;replace BK646:=kB BK646 hb;replace HB:=lB hb;clear hb))
  go_ret2
  exact finA blA
 ·
  rw [if_neg c6] at H
  have c6b0:(t653 == 0)=false:=beq_eq_false_iff_ne.mpr c6
  have c6b1:(t653 != 0)=true:=bne_iff_ne.mpr c6
  simp only [Option.some.injEq,Prod.mk.injEq] at H
  obtain ⟨rfl,rfl⟩:=H
  go_enter Try.func12,Try.ntmps12
  go_wp2_with (first|((with_reducible refine gate_dst (N:=5) rfl ?_);refine bxE (cs:=#[.int .i64 a1_0,.int .i64 a1_1,.int .i64 a1_2]) (t:=25) ?_;intro gb644 hg w28 hbox hb;have BK644:=Aside0.mk hbox;have GW644:=sA hg;have GE644:=sA hg;replace HB:=lB hb;clear hb hbox hg)|((with_reducible refine gate_dst (N:=6) rfl ?_);refine bxE (cs:=#[.int .i64 a2_0,.int .i64 a2_1]) (t:=27) ?_;intro gb645 hg w29 hbox hb;have BK645:=Aside0.mk hbox;have GW645:=sA hg;have GE645:=sA hg;have NB644_645:=nA hg BK644;have NB645_644:=nB hg BK644;replace BK644:=kB BK644 hb;replace HB:=lB hb;clear hb hbox hg)|((with_reducible refine gate_dst (N:=7) rfl ?_);refine bxE (cs:=#[.int .i64 a3_0,.int .i64 a3_1]) (t:=27) ?_;intro gb646 hg w30 hbox hb;have BK646:=Aside0.mk hbox;have GW646:=sA hg;have GE646:=sA hg;have NB644_646:=nA hg BK644;have NB646_644:=nB hg BK644;have NB645_646:=nA hg BK645;have NB646_645:=nB hg BK645;replace BK644:=kB BK644 hb;replace BK645:=kB BK645 hb;replace HB:=lB hb;clear hb hbox hg;have hnb31:=NB644_645.out;have hnc31:=NB645_644.out;have hnb32:=NB644_646.out;have hnc32:=NB646_644.out;obtain ⟨hcz33_0,hcz33_1,hcz33_2,hfz33_0,hfz33_1,hfz33_2⟩:=cz3 BK644)|((with_reducible refine gate_dst (N:=13) rfl ?_);refine Kd.R_lit k25 _ 25 ?hg (N:=13) ?hd (xs:=([(⟨a1_0,a1_1,a1_2⟩:S25)]:List (S25))) (inner:=[.int .i64 a1_0,.int .i64 a1_1,.int .i64 a1_2]) (ok:=fun _=>True) (okp:=fun _=>True) ?hr ?hp (fun _ hk=>hk) trivial (Below.refl _ _) (Nat.le_refl _) (by simp) ?_;(case hd=>rfl);(case hg=>rfl);(case hr=>first|(go_simp;done)|(go_simp;rfl));(case hp=>exact (Reps.c3 (show Kd.M k25 _ _ _ (⟨a1_0,a1_1,a1_2⟩:S25) [.int .i64 a1_0,.int .i64 a1_1,.int .i64 a1_2] from (k25_mkM _ _ _ (⟨a1_0,a1_1,a1_2⟩:S25) )) (Reps.none _ _)));intro v648 w34 ho35 hb hg_ hnew_;clear hg_ hnew_;(first|rw [← Ny647.out] at ho35|(simp only [Int.reduceToNat] at ho35;rw [← Ny647.out] at ho35));have HO649:=Aside0.mk (Kd.R_lower (Kd.R_newB ho35 (bkA BK644)) (below_size blA));replace BK644:=kB BK644 hb;replace BK645:=kB BK645 hb;replace BK646:=kB BK646 hb;replace HB:=lB hb;clear hb ho35;have hnb36:=NB645_646.out;have hnc36:=NB646_645.out;obtain ⟨hcz37_0,hcz37_1,hfz37_0,hfz37_1⟩:=cz2 BK645;obtain ⟨hcz38_0,hcz38_1,hfz38_0,hfz38_1⟩:=cz2 BK646)|((with_reducible refine gate_dst (N:=16) rfl ?_);refine Kd.R_lit k27 _ 27 ?hg (N:=16) ?hd (xs:=([(⟨a2_0,a2_1⟩:S27),(⟨a3_0,a3_1⟩:S27)]:List (S27))) (inner:=[.int .i64 a2_0,.int .i64 a2_1,.int .i64 a3_0,.int .i64 a3_1]) (ok:=fun _=>True) (okp:=fun _=>True) ?hr ?hp (fun _ hk=>hk) trivial (Below.refl _ _) (Nat.le_refl _) (by simp) ?_;(case hd=>rfl);(case hg=>rfl);(case hr=>first|(go_simp;done)|(go_simp;rfl));(case hp=>exact (Reps.c2 (show Kd.M k27 _ _ _ (⟨a2_0,a2_1⟩:S27) [.int .i64 a2_0,.int .i64 a2_1] from (k27_mkM _ _ _ (⟨a2_0,a2_1⟩:S27) )) (Reps.c2 (show Kd.M k27 _ _ _ (⟨a3_0,a3_1⟩:S27) [.int .i64 a3_0,.int .i64 a3_1] from (k27_mkM _ _ _ (⟨a3_0,a3_1⟩:S27) )) (Reps.none _ _))));intro v651 w39 ho40 hb hg_ hnew_;clear hg_ hnew_;(first|rw [← Ny650.out] at ho40|(simp only [Int.reduceToNat] at ho40;rw [← Ny650.out] at ho40));have HO652:=Aside0.mk (Kd.R_lower (Kd.R_newB (Kd.R_newB ho40 (bkA BK645)) (bkA BK646)) (below_size blA));replace HO649:=Aside0.mk (Kd.R_below (rA HO649) hb);replace BK644:=kB BK644 hb;replace BK645:=kB BK645 hb;replace BK646:=kB BK646 hb;replace HB:=lB hb;clear hb ho40;obtain ⟨Ao41,co41,eo41⟩:=Kd.R_slice HO649.out;subst eo41;obtain ⟨Ao42,co42,eo42⟩:=Kd.R_slice HO652.out;subst eo42)|((with_reducible refine gd 17 rfl ?_);refine gC (some 17) rfl Try.func31 (spec_l05Code.calls (w:=_) (hr1:=cR (Kd.R_reads' HO649.out).2.2) (hc1:=(Kd.R_reads' HO649.out).2.1) (hr2:=cR (Kd.R_reads' HO652.out).2.2) (hc2:=(Kd.R_reads' HO652.out).2.1) (h:=A5.out)) ?_;intro w43 hb;replace HO649:=Aside0.mk (Kd.R_below (rA HO649) hb);replace HO652:=Aside0.mk (Kd.R_below (rA HO652) hb);replace BK644:=kB BK644 hb;replace BK645:=kB BK645 hb;replace BK646:=kB BK646 hb;replace HB:=lB hb;clear hb))
  go_ret2
  exact finA blA
def spec_DistanceToLine.f (k:Nat) (a0 a1_0 a1_1 a1_2 a2_0 a2_1 a3_0 a3_1:Int):Option (Int × Int):=(spec_l05Code.f k a0 (([(⟨a1_0,a1_1,a1_2⟩:S25)]:List (S25))) (([(⟨a2_0,a2_1⟩:S27),(⟨a3_0,a3_1⟩:S27)]:List (S27)))).bind fun t669=>(if t669=0 then ((spec_l05Steps.f k a0 a1_0 a1_1 a1_2 a2_0 a2_1 a3_0 a3_1).bind fun t670=>(some (t670,0))) else (some (0,t669)))
theorem spec_DistanceToLine.mono:∀ a0 a1 a2 a3 a4 a5 a6 a7 k,LeO (spec_DistanceToLine.f k a0 a1 a2 a3 a4 a5 a6 a7) (spec_DistanceToLine.f (k+1) a0 a1 a2 a3 a4 a5 a6 a7):=by
 intro a0 a1 a2 a3 a4 a5 a6 a7 k
 unfold spec_DistanceToLine.f
 repeat' first
   | with_reducible first|exact spec_l05Code.mono ..|exact spec_l05Steps.mono ..|exact LeO.refl _|exact LeO.none _|refine LeO.ite ?_ ?_|refine LeO.bind ?_ fun _=>?_
set_option maxHeartbeats 8000000 in
set_option maxRecDepth 100000 in
theorem spec_DistanceToLine.calls (k:Nat) (a0 a1_0 a1_1 a1_2 a2_0 a2_1 a3_0 a3_1 r1 r2:Int) (w:World) (h:spec_DistanceToLine.f k a0 a1_0 a1_1 a1_2 a2_0 a2_1 a3_0 a3_1=some (r1,r2)) :
  Calls Try.prog 14 #[.int .i64 a0,.agg #[.int .i64 a1_0,.int .i64 a1_1,.int .i64 a1_2],.agg #[.int .i64 a2_0,.int .i64 a2_1],.agg #[.int .i64 a3_0,.int .i64 a3_1]] w fun e w'=>e=.returned (.tuple #[.int .i64 r1,.int .i64 r2])∧Below w.heap.size w w':=by
 have hu25:=Try.underlying25
 have hu27:=Try.underlying27
 have HB:=Aside0.mk (Below.refl w.heap.size w)
 have H:=h
 unfold spec_DistanceToLine.f at H
 clear h
 obtain ⟨y663,hy663⟩:∃ y_:List (S25),y_=(([(⟨a1_0,a1_1,a1_2⟩:S25)]:List (S25))):=⟨_,rfl⟩
 replace H:((spec_l05Code.f k a0 y663 (([(⟨a2_0,a2_1⟩:S27),(⟨a3_0,a3_1⟩:S27)]:List (S27)))).bind fun t669=>(if t669=0 then ((spec_l05Steps.f k a0 a1_0 a1_1 a1_2 a2_0 a2_1 a3_0 a3_1).bind fun t670=>(some (t670,0))) else (some (0,t669))))=some (r1,r2):=rH hy663 H
 have Ny663:=Aside0.mk hy663
 clear hy663
 obtain ⟨y666,hy666⟩:∃ y_:List (S27),y_=(([(⟨a2_0,a2_1⟩:S27),(⟨a3_0,a3_1⟩:S27)]:List (S27))):=⟨_,rfl⟩
 replace H:((spec_l05Code.f k a0 y663 y666).bind fun t669=>(if t669=0 then ((spec_l05Steps.f k a0 a1_0 a1_1 a1_2 a2_0 a2_1 a3_0 a3_1).bind fun t670=>(some (t670,0))) else (some (0,t669))))=some (r1,r2):=rH hy666 H
 have Ny666:=Aside0.mk hy666
 clear hy666
 replace H:=bS H
 obtain ⟨t669,A5,H⟩:=H
 try dsimp only at H
 by_cases c6:t669=0
 ·
  rw [if_pos c6] at H
  have c6b0:(t669 == 0)=true:=beq_iff_eq.mpr c6
  have c6b1:(t669 != 0)=false:=bne_eq_false_iff_eq.mpr c6
  clear c6
  replace H:=bS H
  obtain ⟨t670,A7,H⟩:=H
  try dsimp only at H
  simp only [Option.some.injEq,Prod.mk.injEq] at H
  obtain ⟨rfl,rfl⟩:=H
  go_enter Try.func14,Try.ntmps14
  go_wp2_with (first|((with_reducible refine gate_dst (N:=5) rfl ?_);refine bxE (cs:=#[.int .i64 a1_0,.int .i64 a1_1,.int .i64 a1_2]) (t:=25) ?_;intro gb660 hg w8 hbox hb;have BK660:=Aside0.mk hbox;have GW660:=sA hg;have GE660:=sA hg;replace HB:=lB hb;clear hb hbox hg)|((with_reducible refine gate_dst (N:=6) rfl ?_);refine bxE (cs:=#[.int .i64 a2_0,.int .i64 a2_1]) (t:=27) ?_;intro gb661 hg w9 hbox hb;have BK661:=Aside0.mk hbox;have GW661:=sA hg;have GE661:=sA hg;have NB660_661:=nA hg BK660;have NB661_660:=nB hg BK660;replace BK660:=kB BK660 hb;replace HB:=lB hb;clear hb hbox hg)|((with_reducible refine gate_dst (N:=7) rfl ?_);refine bxE (cs:=#[.int .i64 a3_0,.int .i64 a3_1]) (t:=27) ?_;intro gb662 hg w10 hbox hb;have BK662:=Aside0.mk hbox;have GW662:=sA hg;have GE662:=sA hg;have NB660_662:=nA hg BK660;have NB662_660:=nB hg BK660;have NB661_662:=nA hg BK661;have NB662_661:=nB hg BK661;replace BK660:=kB BK660 hb;replace BK661:=kB BK661 hb;replace HB:=lB hb;clear hb hbox hg;have hnb11:=NB660_661.out;have hnc11:=NB661_660.out;have hnb12:=NB660_662.out;have hnc12:=NB662_660.out;obtain ⟨hcz13_0,hcz13_1,hcz13_2,hfz13_0,hfz13_1,hfz13_2⟩:=cz3 BK660)|((with_reducible refine gate_dst (N:=13) rfl ?_);refine Kd.R_lit k25 _ 25 ?hg (N:=13) ?hd (xs:=([(⟨a1_0,a1_1,a1_2⟩:S25)]:List (S25))) (inner:=[.int .i64 a1_0,.int .i64 a1_1,.int .i64 a1_2]) (ok:=fun _=>True) (okp:=fun _=>True) ?hr ?hp (fun _ hk=>hk) trivial (Below.refl _ _) (Nat.le_refl _) (by simp) ?_;(case hd=>rfl);(case hg=>rfl);(case hr=>first|(go_simp;done)|(go_simp;rfl));(case hp=>exact (Reps.c3 (show Kd.M k25 _ _ _ (⟨a1_0,a1_1,a1_2⟩:S25) [.int .i64 a1_0,.int .i64 a1_1,.int .i64 a1_2] from (k25_mkM _ _ _ (⟨a1_0,a1_1,a1_2⟩:S25) )) (Reps.none _ _)));intro v664 w14 ho15 hb hg_ hnew_;clear hg_ hnew_;(first|rw [← Ny663.out] at ho15|(simp only [Int.reduceToNat] at ho15;rw [← Ny663.out] at ho15));have HO665:=Aside0.mk (Kd.R_lower (Kd.R_newB ho15 (bkA BK660)) (below_size blA));replace BK660:=kB BK660 hb;replace BK661:=kB BK661 hb;replace BK662:=kB BK662 hb;replace HB:=lB hb;clear hb ho15;have hnb16:=NB661_662.out;have hnc16:=NB662_661.out;obtain ⟨hcz17_0,hcz17_1,hfz17_0,hfz17_1⟩:=cz2 BK661;obtain ⟨hcz18_0,hcz18_1,hfz18_0,hfz18_1⟩:=cz2 BK662)|((with_reducible refine gate_dst (N:=16) rfl ?_);refine Kd.R_lit k27 _ 27 ?hg (N:=16) ?hd (xs:=([(⟨a2_0,a2_1⟩:S27),(⟨a3_0,a3_1⟩:S27)]:List (S27))) (inner:=[.int .i64 a2_0,.int .i64 a2_1,.int .i64 a3_0,.int .i64 a3_1]) (ok:=fun _=>True) (okp:=fun _=>True) ?hr ?hp (fun _ hk=>hk) trivial (Below.refl _ _) (Nat.le_refl _) (by simp) ?_;(case hd=>rfl);(case hg=>rfl);(case hr=>first|(go_simp;done)|(go_simp;rfl));(case hp=>exact (Reps.c2 (show Kd.M k27 _ _ _ (⟨a2_0,a2_1⟩:S27) [.int .i64 a2_0,.int .i64 a2_1] from (k27_mkM _ _ _ (⟨a2_0,a2_1⟩:S27) )) (Reps.c2 (show Kd.M k27 _ _ _ (⟨a3_0,a3_1⟩:S27) [.int .i64 a3_0,.int .i64 a3_1] from (k27_mkM _ _ _ (⟨a3_0,a3_1⟩:S27) )) (Reps.none _ _))));intro v667 w19 ho20 hb hg_ hnew_;clear hg_ hnew_;(first|rw [← Ny666.out] at ho20|(simp only [Int.reduceToNat] at ho20;rw [← Ny666.out] at ho20));have HO668:=Aside0.mk (Kd.R_lower (Kd.R_newB (Kd.R_newB ho20 (bkA BK661)) (bkA BK662)) (below_size blA));replace HO665:=Aside0.mk (Kd.R_below (rA HO665) hb);replace BK660:=kB BK660 hb;replace BK661:=kB BK661 hb;replace BK662:=kB BK662 hb;replace HB:=lB hb;clear hb ho20;obtain ⟨Ao21,co21,eo21⟩:=Kd.R_slice HO665.out;subst eo21;obtain ⟨Ao22,co22,eo22⟩:=Kd.R_slice HO668.out;subst eo22)|((with_reducible refine gd 17 rfl ?_);refine gC (some 17) rfl Try.func31 (spec_l05Code.calls (w:=_) (hr1:=cR (Kd.R_reads' HO665.out).2.2) (hc1:=(Kd.R_reads' HO665.out).2.1) (hr2:=cR (Kd.R_reads' HO668.out).2.2) (hc2:=(Kd.R_reads' HO668.out).2.1) (h:=A5.out)) ?_;intro w23 hb;replace HO665:=Aside0.mk (Kd.R_below (rA HO665) hb);replace HO668:=Aside0.mk (Kd.R_below (rA HO668) hb);replace BK660:=kB BK660 hb;replace BK661:=kB BK661 hb;replace BK662:=kB BK662 hb;replace HB:=lB hb;clear hb;obtain ⟨hcz24_0,hcz24_1,hcz24_2,hfz24_0,hfz24_1,hfz24_2⟩:=cz3 BK660;obtain ⟨hcz25_0,hcz25_1,hfz25_0,hfz25_1⟩:=cz2 BK661;obtain ⟨hcz26_0,hcz26_1,hfz26_0,hfz26_1⟩:=cz2 BK662)|((with_reducible refine gd 25 rfl ?_);refine gC (some 25) rfl Try.func39 (spec_l05Steps.calls (w:=_) (h:=A7.out)) ?_;intro w27 hb;replace HO665:=Aside0.mk (Kd.R_below (rA HO665) hb);replace HO668:=Aside0.mk (Kd.R_below (rA HO668) hb);replace BK660:=kB BK660 hb;replace BK661:=kB BK661 hb;replace BK662:=kB BK662 hb;replace HB:=lB hb;clear hb))
  go_ret2
  exact finA blA
 ·
  rw [if_neg c6] at H
  have c6b0:(t669 == 0)=false:=beq_eq_false_iff_ne.mpr c6
  have c6b1:(t669 != 0)=true:=bne_iff_ne.mpr c6
  simp only [Option.some.injEq,Prod.mk.injEq] at H
  obtain ⟨rfl,rfl⟩:=H
  go_enter Try.func14,Try.ntmps14
  go_wp2_with (first|((with_reducible refine gate_dst (N:=5) rfl ?_);refine bxE (cs:=#[.int .i64 a1_0,.int .i64 a1_1,.int .i64 a1_2]) (t:=25) ?_;intro gb660 hg w28 hbox hb;have BK660:=Aside0.mk hbox;have GW660:=sA hg;have GE660:=sA hg;replace HB:=lB hb;clear hb hbox hg)|((with_reducible refine gate_dst (N:=6) rfl ?_);refine bxE (cs:=#[.int .i64 a2_0,.int .i64 a2_1]) (t:=27) ?_;intro gb661 hg w29 hbox hb;have BK661:=Aside0.mk hbox;have GW661:=sA hg;have GE661:=sA hg;have NB660_661:=nA hg BK660;have NB661_660:=nB hg BK660;replace BK660:=kB BK660 hb;replace HB:=lB hb;clear hb hbox hg)|((with_reducible refine gate_dst (N:=7) rfl ?_);refine bxE (cs:=#[.int .i64 a3_0,.int .i64 a3_1]) (t:=27) ?_;intro gb662 hg w30 hbox hb;have BK662:=Aside0.mk hbox;have GW662:=sA hg;have GE662:=sA hg;have NB660_662:=nA hg BK660;have NB662_660:=nB hg BK660;have NB661_662:=nA hg BK661;have NB662_661:=nB hg BK661;replace BK660:=kB BK660 hb;replace BK661:=kB BK661 hb;replace HB:=lB hb;clear hb hbox hg;have hnb31:=NB660_661.out;have hnc31:=NB661_660.out;have hnb32:=NB660_662.out;have hnc32:=NB662_660.out;obtain ⟨hcz33_0,hcz33_1,hcz33_2,hfz33_0,hfz33_1,hfz33_2⟩:=cz3 BK660)|((with_reducible refine gate_dst (N:=13) rfl ?_);refine Kd.R_lit k25 _ 25 ?hg (N:=13) ?hd (xs:=([(⟨a1_0,a1_1,a1_2⟩:S25)]:List (S25))) (inner:=[.int .i64 a1_0,.int .i64 a1_1,.int .i64 a1_2]) (ok:=fun _=>True) (okp:=fun _=>True) ?hr ?hp (fun _ hk=>hk) trivial (Below.refl _ _) (Nat.le_refl _) (by simp) ?_;(case hd=>rfl);(case hg=>rfl);(case hr=>first|(go_simp;done)|(go_simp;rfl));(case hp=>exact (Reps.c3 (show Kd.M k25 _ _ _ (⟨a1_0,a1_1,a1_2⟩:S25) [.int .i64 a1_0,.int .i64 a1_1,.int .i64 a1_2] from (k25_mkM _ _ _ (⟨a1_0,a1_1,a1_2⟩:S25) )) (Reps.none _ _)));intro v664 w34 ho35 hb hg_ hnew_;clear hg_ hnew_;(first|rw [← Ny663.out] at ho35|(simp only [Int.reduceToNat] at ho35;rw [← Ny663.out] at ho35));have HO665:=Aside0.mk (Kd.R_lower (Kd.R_newB ho35 (bkA BK660)) (below_size blA));replace BK660:=kB BK660 hb;replace BK661:=kB BK661 hb;replace BK662:=kB BK662 hb;replace HB:=lB hb;clear hb ho35;have hnb36:=NB661_662.out;have hnc36:=NB662_661.out;obtain ⟨hcz37_0,hcz37_1,hfz37_0,hfz37_1⟩:=cz2 BK661;obtain ⟨hcz38_0,hcz38_1,hfz38_0,hfz38_1⟩:=cz2 BK662)|((with_reducible refine gate_dst (N:=16) rfl ?_);refine Kd.R_lit k27 _ 27 ?hg (N:=16) ?hd (xs:=([(⟨a2_0,a2_1⟩:S27),(⟨a3_0,a3_1⟩:S27)]:List (S27))) (inner:=[.int .i64 a2_0,.int .i64 a2_1,.int .i64 a3_0,.int .i64 a3_1]) (ok:=fun _=>True) (okp:=fun _=>True) ?hr ?hp (fun _ hk=>hk) trivial (Below.refl _ _) (Nat.le_refl _) (by simp) ?_;(case hd=>rfl);(case hg=>rfl);(case hr=>first|(go_simp;done)|(go_simp;rfl));(case hp=>exact (Reps.c2 (show Kd.M k27 _ _ _ (⟨a2_0,a2_1⟩:S27) [.int .i64 a2_0,.int .i64 a2_1] from (k27_mkM _ _ _ (⟨a2_0,a2_1⟩:S27) )) (Reps.c2 (show Kd.M k27 _ _ _ (⟨a3_0,a3_1⟩:S27) [.int .i64 a3_0,.int .i64 a3_1] from (k27_mkM _ _ _ (⟨a3_0,a3_1⟩:S27) )) (Reps.none _ _))));intro v667 w39 ho40 hb hg_ hnew_;clear hg_ hnew_;(first|rw [← Ny666.out] at ho40|(simp only [Int.reduceToNat] at ho40;rw [← Ny666.out] at ho40));have HO668:=Aside0.mk (Kd.R_lower (Kd.R_newB (Kd.R_newB ho40 (bkA BK661)) (bkA BK662)) (below_size blA));replace HO665:=Aside0.mk (Kd.R_below (rA HO665) hb);replace BK660:=kB BK660 hb;replace BK661:=kB BK661 hb;replace BK662:=kB BK662 hb;replace HB:=lB hb;clear hb ho40;obtain ⟨Ao41,co41,eo41⟩:=Kd.R_slice HO665.out;subst eo41;obtain ⟨Ao42,co42,eo42⟩:=Kd.R_slice HO668.out;subst eo42)|((with_reducible refine gd 17 rfl ?_);refine gC (some 17) rfl Try.func31 (spec_l05Code.calls (w:=_) (hr1:=cR (Kd.R_reads' HO665.out).2.2) (hc1:=(Kd.R_reads' HO665.out).2.1) (hr2:=cR (Kd.R_reads' HO668.out).2.2) (hc2:=(Kd.R_reads' HO668.out).2.1) (h:=A5.out)) ?_;intro w43 hb;replace HO665:=Aside0.mk (Kd.R_below (rA HO665) hb);replace HO668:=Aside0.mk (Kd.R_below (rA HO668) hb);replace BK660:=kB BK660 hb;replace BK661:=kB BK661 hb;replace BK662:=kB BK662 hb;replace HB:=lB hb;clear hb))
  go_ret2
  exact finA blA
end Go.Proofs.Ytabcckoeilegnaa.PAll
