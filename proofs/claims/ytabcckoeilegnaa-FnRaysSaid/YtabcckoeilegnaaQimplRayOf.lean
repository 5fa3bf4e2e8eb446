-- turned out of the kit's print
import Derived.Test.YtabcckoeilegnaaQx
import Derived.Test.YtabcckoeilegnaaQimplbranch
import Derived.Test.YtabcckoeilegnaaQimplheld
import Derived.Test.YtabcckoeilegnaaQimplmark
namespace Go.Proofs.Ytabcckoeilegnaa.PAll
open Go.RowKit Go.Proofs.YtabcckoeilegnaaW.PrintWords Go.Proofs.YtabcckoeilegnaaW.PrintLast Go.Proofs.YtabcckoeilegnaaW.PrintMore
attribute [local go_sem] Go.Proofs.Ytabcckoeilegnaa.Aux.setCell_drewN Go.Proofs.Ytabcckoeilegnaa.Aux.isSome_setCell max2_int min2_int max_two min_two max_three min_three max_four min_four
set_option linter.unusedVariables false
set_option linter.unusedSimpArgs false
mutual
def impl_RayOf.j0:Nat→Int→Int→Bool→Int→Int→Int→Int→Int→Option ((List (S25)) × Int)
 | 0,_,_,_,_,_,_,_,_=>none
 | k+1,x0,x3,x13,x416000,x416001,x416002,x417000,x417001=>if x13=true then (some (([]:List (S25)),1)) else (if x3<0 then (some (([]:List (S25)),2)) else (if x3>12 then (some (([]:List (S25)),2)) else (impl_RayOf.l0 k x0 (([(⟨x416000,x416001,x416002⟩:S25)]:List (S25))) x3 0 x416000 x416001 x416002 x417000 x417001)))
def impl_RayOf.l0:Nat→Int→List (S25)→Int→Int→Int→Int→Int→Int→Int→Option ((List (S25)) × Int)
 | 0,_,_,_,_,_,_,_,_,_=>none
 | k+1,x0,x10,x32,x33,x416000,x416001,x416002,x417000,x417001=>if x33<x32 then ((impl_branch.f k x0 x416000 x416001 x416002 x417000 x417001).bind fun t422=>((impl_neighbour.f k x0 x416000 x416001 x416002 t422).bind fun bt423=>(if bt423.2.2.2=true then (if x10.length<5864062014805 then (impl_RayOf.l0 k x0 (x10 ++ [(⟨bt423.1,bt423.2.1,bt423.2.2.1⟩:S25)]) x32 (wrap64 (x33+1)) bt423.1 bt423.2.1 bt423.2.2.1 x417000 x417001) else (none)) else (some (([]:List (S25)),3))))) else (some (x10,0))
end
def impl_RayOf.f (k:Nat) (a0 a1_0 a1_1 a1_2 a2_0 a2_1 a3:Int):Option ((List (S25)) × Int):=(impl_IsBall.f k a0 a1_0 a1_1 a1_2).bind fun t417=>(if t417=true then ((impl_IsEnd.f k a2_0 a2_1).bind fun t418=>(impl_RayOf.j0 k a0 a3 (!t418) a1_0 a1_1 a1_2 a2_0 a2_1)) else (impl_RayOf.j0 k a0 a3 true a1_0 a1_1 a1_2 a2_0 a2_1))
theorem impl_RayOf.mono_l:∀ k,(∀ y0 y1 y2 y3 y4 y5 y6 y7,LeO (impl_RayOf.j0 k y0 y1 y2 y3 y4 y5 y6 y7) (impl_RayOf.j0 (k+1) y0 y1 y2 y3 y4 y5 y6 y7))∧(∀ y0 y1 y2 y3 y4 y5 y6 y7 y8,LeO (impl_RayOf.l0 k y0 y1 y2 y3 y4 y5 y6 y7 y8) (impl_RayOf.l0 (k+1) y0 y1 y2 y3 y4 y5 y6 y7 y8))
 | 0=>by refine ⟨?_,?_⟩ <;> (intros;intro r h;simp [impl_RayOf.j0,impl_RayOf.l0] at h)
 | k+1=>by
  obtain ⟨ih0,ih1⟩:=impl_RayOf.mono_l k
  refine ⟨?_,?_⟩ <;> (intros;first|unfold impl_RayOf.j0|unfold impl_RayOf.l0)
  all_goals repeat' first
  | with_reducible first|exact ih0 ..|exact ih1 ..|exact impl_IsBall.mono ..|exact impl_IsEnd.mono ..|exact impl_branch.mono ..|exact impl_neighbour.mono ..|exact LeO.refl _|exact LeO.none _|refine LeO.ite ?_ ?_|refine LeO.bind ?_ fun _=>?_
theorem impl_RayOf.mono:∀ a0 a1 a2 a3 a4 a5 a6 k,LeO (impl_RayOf.f k a0 a1 a2 a3 a4 a5 a6) (impl_RayOf.f (k+1) a0 a1 a2 a3 a4 a5 a6):=by
 intro a0 a1 a2 a3 a4 a5 a6 k
 obtain ⟨ih0,ih1⟩:=impl_RayOf.mono_l k
 unfold impl_RayOf.f
 repeat' first
   | with_reducible first|exact ih0 ..|exact ih1 ..|exact impl_IsBall.mono ..|exact impl_IsEnd.mono ..|exact impl_branch.mono ..|exact impl_neighbour.mono ..|exact LeO.refl _|exact LeO.none _|refine LeO.ite ?_ ?_|refine LeO.bind ?_ fun _=>?_
def impl_RayOf.T8:Bool × List (List Nat × List Nat):=(true,[([],[]),([],[]),([],[]),([],[]),([],[]),([2,3,4],[2,3,4]),([0,1,5,5],[0,1,5]),([6],[6]),([7],[7]),([7],[7]),([],[]),([10,8,6,0,1,2,3,4,5,6,7,8,10],[8,10]),([9,11,0,1,2,3,4,5,6,7,8,9,10,11],[9])])
def impl_RayOf.B8:List Nat:=[0,0,0,0,0,28,63,127,255,255,0,1535,4095]
theorem impl_RayOf.tab8:rtab .any (opsOf Try.f6 8)=impl_RayOf.T8:=by kernel_rfl
theorem impl_RayOf.bits8:waitsOk impl_RayOf.T8.2 impl_RayOf.B8=true:=by kernel_rfl
set_option maxHeartbeats 8000000 in
set_option maxRecDepth 100000 in
theorem impl_RayOf.calls (k:Nat) (a0 a1_0 a1_1 a1_2 a2_0 a2_1 a3:Int) (r1:List (S25)) (r2:Int) (w:World) (h:impl_RayOf.f k a0 a1_0 a1_1 a1_2 a2_0 a2_1 a3=some (r1,r2)) :
  Calls Try.prog 6 #[.int .i64 a0,.agg #[.int .i64 a1_0,.int .i64 a1_1,.int .i64 a1_2],.agg #[.int .i64 a2_0,.int .i64 a2_1],.int .i64 a3] w fun e w'=>∃ v0_:Value,e=.returned (.tuple #[v0_,.int .i64 r2])∧Kd.R k25 25 w' w.heap.size (fun _=>True) v0_ r1∧Below w.heap.size w w':=by
 have hu25:=Try.underlying25
 have hu27:=Try.underlying27
 have HB:=Aside0.mk (Below.refl w.heap.size w)
 have H:=h
 unfold impl_RayOf.f at H
 clear h
 have HC5:=Aside0.mk H
 clear H
 go_enter Try.func6,Try.ntmps6
 go_upto_region 1 with (first|((with_reducible refine gate_dst (N:=5) rfl ?_);refine bxE (cs:=#[.int .i64 a1_0,.int .i64 a1_1,.int .i64 a1_2]) (t:=25) ?_;intro gb415 hg w6 hbox hb;have n0_:=lB hb;have n1_:=Aside0.mk hbox;have n2_:=sA hg;have n3_:=sA hg;clear HB;have HB:=n0_;have BK415:=n1_;have GW415:=n2_;have GE415:=n3_;clear n0_ n1_ n2_ n3_;clear hb hbox hg)|((with_reducible refine gate_dst (N:=6) rfl ?_);refine bxE (cs:=#[.int .i64 a2_0,.int .i64 a2_1]) (t:=27) ?_;intro gb416 hg w7 hbox hb;have n0_:=kB BK415 hb;have n1_:=lB hb;have n2_:=Aside0.mk hbox;have n3_:=sA hg;have n4_:=sA hg;have n5_:=nA hg BK415;have n6_:=nB hg BK415;clear BK415;clear HB;have BK415:=n0_;have HB:=n1_;have BK416:=n2_;have GW416:=n3_;have GE416:=n4_;have NB415_416:=n5_;have NB416_415:=n6_;clear n0_ n1_ n2_ n3_ n4_ n5_ n6_;clear hb hbox hg))
 (try simp only [Act.put,List.setIfInBounds_toArray,List.set_cons_zero,List.set_cons_succ])
 go_cut [13] (fun v13 wc=>∃ (kq:Nat) (x13_4:Bool),v13=.bool x13_4∧Aside0 (impl_RayOf.j0 kq a0 a3 x13_4 a1_0 a1_1 a1_2 a2_0 a2_1=some (r1,r2))∧Aside0 (kq≤k)∧Aside0 (wc.heap[gb415]?=some (.cells #[.int .i64 a1_0,.int .i64 a1_1,.int .i64 a1_2] 25 (0,0)))∧Aside0 (wc.heap[gb416]?=some (.cells #[.int .i64 a2_0,.int .i64 a2_1] 27 (0,0)))∧Aside0 (Below w.heap.size w wc))
 case first=>
  have H:=HC5.out
  clear HC5
  replace H:=bS H
  obtain ⟨t417,A8,H⟩:=H
  try dsimp only at H
  by_cases c9:t417=true
  ·
   subst c9
   rw [if_pos rfl] at H
   try dsimp only at H
   replace H:=bS H
   obtain ⟨t418,A10,H⟩:=H
   try dsimp only at H
   have H':=Aside0.mk H
   clear H
   have hnb11:=NB415_416.out
   have hnc11:=NB416_415.out
   obtain ⟨hcz12_0,hcz12_1,hcz12_2,hfz12_0,hfz12_1,hfz12_2⟩:=cz3 BK415
   go_wp2_with (first|((with_reducible refine gd 16 rfl ?_);refine gC (some 16) rfl Try.func27 (impl_IsBall.calls (w:=_) (h:=A8.out)) ?_;intro w13 hb;have n0_:=kB BK415 hb;have n1_:=kB BK416 hb;have n2_:=lB hb;clear BK415;clear BK416;clear HB;have BK415:=n0_;have BK416:=n1_;have HB:=n2_;clear n0_ n1_ n2_;clear hb;obtain ⟨hcz14_0,hcz14_1,hfz14_0,hfz14_1⟩:=cz2 BK416)|(go_at_call 28;(with_reducible refine (impl_IsEnd.calls k a2_0 a2_1 t418 _ A10.out).mono ?_);rintro e w15 ⟨rfl,hb⟩;have n0_:=kB BK415 hb;have n1_:=kB BK416 hb;have n2_:=lB hb;clear BK415;clear BK416;clear HB;have BK415:=n0_;have BK416:=n1_;have HB:=n2_;clear n0_ n1_ n2_;clear hb))
   go_meet
   case rel=>exact ⟨_,(!t418),hB,H',⟨by first|omega|exact Nat.le_refl _⟩,⟨bkA BK415⟩,⟨bkA BK416⟩,⟨blA⟩⟩
  ·
   replace c9:=Bool.eq_false_iff.mpr c9
   subst c9
   rw [if_neg (show ¬ (false=true) by decide)] at H
   try dsimp only at H
   have H':=Aside0.mk H
   clear H
   have hnb16:=NB415_416.out
   have hnc16:=NB416_415.out
   obtain ⟨hcz17_0,hcz17_1,hcz17_2,hfz17_0,hfz17_1,hfz17_2⟩:=cz3 BK415
   go_wp2_with (first|((with_reducible refine gd 16 rfl ?_);refine gC (some 16) rfl Try.func27 (impl_IsBall.calls (w:=_) (h:=A8.out)) ?_;intro w18 hb;have n0_:=kB BK415 hb;have n1_:=kB BK416 hb;have n2_:=lB hb;clear BK415;clear BK416;clear HB;have BK415:=n0_;have BK416:=n1_;have HB:=n2_;clear n0_ n1_ n2_;clear hb))
   go_meet
   case rel=>exact ⟨_,(true),hB,H',⟨by first|omega|exact Nat.le_refl _⟩,⟨bkA BK415⟩,⟨bkA BK416⟩,⟨blA⟩⟩
 case rest=>
  clear HC5
  try clear c9
  try clear hcz12_0
  try clear hcz12_1
  try clear hcz12_2
  try clear hcz14_0
  try clear hcz14_1
  try clear hcz17_0
  try clear hcz17_1
  try clear hcz17_2
  try clear hfz12_0
  try clear hfz12_1
  try clear hfz12_2
  try clear hfz14_0
  try clear hfz14_1
  try clear hfz17_0
  try clear hfz17_1
  try clear hfz17_2
  obtain ⟨kq,x13_4,rfl,HA,HJ4,BK415,BK416,HB⟩:=hcut
  cases kq with
  | zero=>exact absurd HA.out (by simp [impl_RayOf.j0])
  | succ kj4=>
   have H:=HA.out
   clear HA
   simp only [impl_RayOf.j0] at H
   by_cases c19:x13_4=true
   ·
    subst c19
    rw [if_pos rfl] at H
    try dsimp only at H
    simp only [Option.some.injEq,Prod.mk.injEq] at H
    obtain ⟨rfl,rfl⟩:=H
    go_wp2
    go_ret2
    exact ⟨_,eW,nlA,blA⟩
   ·
    replace c19:=Bool.eq_false_iff.mpr c19
    subst c19
    rw [if_neg (show ¬ (false=true) by decide)] at H
    try dsimp only at H
    by_cases c20:a3<0
    ·
     rw [if_pos c20] at H
     have c20b0:=decide_eq_true c20
     clear c20
     simp only [Option.some.injEq,Prod.mk.injEq] at H
     obtain ⟨rfl,rfl⟩:=H
     go_wp2
     go_ret2
     exact ⟨_,eW,nlA,blA⟩
    ·
     rw [if_neg c20] at H
     have c20b0:=decide_eq_false c20
     clear c20
     by_cases c21:a3>12
     ·
      rw [if_pos c21] at H
      have c21b0:decide (12<a3)=true:=decide_eq_true c21
      clear c21
      simp only [Option.some.injEq,Prod.mk.injEq] at H
      obtain ⟨rfl,rfl⟩:=H
      go_wp2
      go_ret2
      exact ⟨_,eW,nlA,blA⟩
     ·
      rw [if_neg c21] at H
      have c21b0:decide (12<a3)=false:=decide_eq_false c21
      clear c21
      obtain ⟨y419,hy419⟩:∃ y_:List (S25),y_=(([(⟨a1_0,a1_1,a1_2⟩:S25)]:List (S25))):=⟨_,rfl⟩
      replace H:(impl_RayOf.l0 kj4 a0 y419 a3 0 a1_0 a1_1 a1_2 a2_0 a2_1)=some (r1,r2):=rH hy419 H
      have Ny419:=Aside0.mk hy419
      clear hy419
      have H':=Aside0.mk H
      clear H
      have hnb22:=NB415_416.out
      have hnc22:=NB416_415.out
      obtain ⟨hcz23_0,hcz23_1,hcz23_2,hfz23_0,hfz23_1,hfz23_2⟩:=cz3 BK415
      go_wp2_with (first|((with_reducible refine gate_dst (N:=31) rfl ?_);refine Kd.R_lit k25 _ 25 ?hg (N:=31) ?hd (xs:=([(⟨a1_0,a1_1,a1_2⟩:S25)]:List (S25))) (inner:=[.int .i64 a1_0,.int .i64 a1_1,.int .i64 a1_2]) (ok:=fun _=>True) (okp:=fun _=>True) ?hr ?hp (fun _ hk=>hk) trivial (Below.refl _ _) (Nat.le_refl _) (by simp) ?_;(case hd=>rfl);(case hg=>rfl);(case hr=>first|(go_simp;done)|(go_simp;rfl));(case hp=>exact (Reps.c3 (show Kd.M k25 _ _ _ (⟨a1_0,a1_1,a1_2⟩:S25) [.int .i64 a1_0,.int .i64 a1_1,.int .i64 a1_2] from (k25_mkM _ _ _ (⟨a1_0,a1_1,a1_2⟩:S25) )) (Reps.none _ _)));intro v420 w24 ho25 hb hg_ hnew_;clear hg_ hnew_;(first|rw [← Ny419.out] at ho25|(simp only [Int.reduceToNat] at ho25;rw [← Ny419.out] at ho25));have n0_:=Aside0.mk (Kd.R_lower (Kd.R_newB ho25 (bkA BK415)) (below_size blA));have n1_:=kB BK415 hb;have n2_:=kB BK416 hb;have n3_:=lB hb;clear BK415;clear BK416;clear HB;have HO421:=n0_;have BK415:=n1_;have BK416:=n2_;have HB:=n3_;clear n0_ n1_ n2_ n3_;clear hb ho25))
      go_loopg [10,33] kj4 (fun kq v10 v33 w'=>∃ (x10_2:List (S25)) (x33_2:Int) (x416000_2:Int) (x416001_2:Int) (x416002_2:Int),v33=.int .i64 x33_2∧Aside0 (impl_RayOf.l0 kq a0 x10_2 a3 x33_2 x416000_2 x416001_2 x416002_2 a2_0 a2_1=some (r1,r2))∧Aside0 (kq≤kj4)∧Aside0 (Kd.R k25 25 w' w.heap.size (fun k_=>k_≠gb415) v10 x10_2)∧Aside0 (w'.heap[gb415]?=some (.cells #[.int .i64 x416000_2,.int .i64 x416001_2,.int .i64 x416002_2] 25 (0,0)))∧Aside0 (w'.heap[gb416]?=some (.cells #[.int .i64 a2_0,.int .i64 a2_1] 27 (0,0)))∧Aside0 (Below w.heap.size w w'))
      case atStart=>exact ⟨(y419),(0),(a1_0),(a1_1),(a1_2),hB,H',⟨Nat.le_refl _⟩,⟨by (with_reducible repeat (first|apply Kd.R_alloc|apply Kd.R_drewN|apply Kd.R_drew));exact Kd.R_mono HO421.out (fun _ hk=>hk.2)⟩,⟨bkA BK415⟩,⟨bkA BK416⟩,⟨blA⟩⟩
      case round=>
       clear H'
       try clear c3
       try clear c9
       try clear c19
       try clear c20
       try clear c20b0
       try clear c21
       try clear c21b0
       try clear hcz12_0
       try clear hcz12_1
       try clear hcz12_2
       try clear hcz14_0
       try clear hcz14_1
       try clear hcz17_0
       try clear hcz17_1
       try clear hcz17_2
       try clear hcz23_0
       try clear hcz23_1
       try clear hcz23_2
       try clear hfz12_0
       try clear hfz12_1
       try clear hfz12_2
       try clear hfz14_0
       try clear hfz14_1
       try clear hfz17_0
       try clear hfz17_1
       try clear hfz17_2
       try clear hfz23_0
       try clear hfz23_1
       try clear hfz23_2
       obtain ⟨x10_2,x33_2,x416000_2,x416001_2,x416002_2,rfl,HA,HK2,HO_10,BK415,BK416,HB⟩:=hrel
       cases gk with
       | zero=>exact absurd HA.out (by simp [impl_RayOf.l0])
       | succ k2=>
        have H:=HA.out
        clear HA
        simp only [impl_RayOf.l0] at H
        by_cases c26:x33_2<a3
        ·
         rw [if_pos c26] at H
         have c26b0:=decide_eq_true c26
         clear c26
         replace H:=bS H
         obtain ⟨t422,A27,H⟩:=H
         try dsimp only at H
         replace H:=bS H
         obtain ⟨⟨t423,t424,t425,t426⟩,A28,H⟩:=H
         try dsimp only at H
         by_cases c29:t426=true
         focus
          subst c29
          rw [if_pos rfl] at H
          try dsimp only at H
          by_cases c30:x10_2.length<5864062014805
          rotate_left
          ·
           rw [if_neg c30] at H
           exact absurd H (by simp)
          rw [if_pos c30] at H
          have LMc30:=Aside0.mk c30
          clear c30
          obtain ⟨y428,hy428⟩:∃ y_:List (S25),y_=(x10_2 ++ [(⟨t423,t424,t425⟩:S25)]):=⟨_,rfl⟩
          replace H:(impl_RayOf.l0 k2 a0 y428 a3 (wrap64 (x33_2+1)) t423 t424 t425 a2_0 a2_1)=some (r1,r2):=rH hy428 H
          have Ny428:=Aside0.mk hy428
          clear hy428
          have H':=Aside0.mk H
          clear H
         rotate_left
         focus
          replace c29:=Bool.eq_false_iff.mpr c29
          subst c29
          rw [if_neg (show ¬ (false=true) by decide)] at H
          try dsimp only at H
          simp only [Option.some.injEq,Prod.mk.injEq] at H
          obtain ⟨rfl,rfl⟩:=H
         rotate_left
         all_goals
          try go_wp2
          have n0_:=Aside0.mk (Kd.R_drew HO_10.out)
          have n1_:=Aside0.mk (blk_drew BK415.out)
          have n2_:=Aside0.mk (blk_drew BK416.out)
          have n3_:=Aside0.mk (below_drew1 HB.out)
          clear HO_10
          clear BK415
          clear BK416
          clear HB
          have HO_10:=n0_
          have BK415:=n1_
          have BK416:=n2_
          have HB:=n3_
          clear n0_ n1_ n2_ n3_
         ·
          refine start_ (n:=13) (S:=fun w'=>w'.cell? ⟨gb415,0,none⟩=some (.int .i64 x416000_2)∧w'.cell? ⟨gb415,1,none⟩=some (.int .i64 x416001_2)∧w'.cell? ⟨gb415,2,none⟩=some (.int .i64 x416002_2)∧w'.cell? ⟨gb416,0,none⟩=some (.int .i64 a2_0)∧w'.cell? ⟨gb416,1,none⟩=some (.int .i64 a2_1)) (ds:=[]) #[Z,Z,Z,Z,Z,Z,Z,Z,Z,Z,Z,Z,Z] (by kernel_rfl) rfl rfl ⟨cA BK415 0,cA BK415 1,cA BK415 2,cA BK416 0,cA BK416 1⟩ (fun hHeld=>?_);refine with_tabW impl_RayOf.tab8 impl_RayOf.bits8 (fun HT_ HW_=>?_)
          generalize wr.drew=w31 at HO_10 BK415 BK416 HB hHeld ⊢
          refine puA (i:=0) (N:=some 36) #[Y,Z,Z,Z,Z,Z,Z,Z,Z,Z,Z,Z,Z] rfl rfl HT_ ?_
          refine puA (i:=2) (N:=some 38) #[Y,Z,Y,Z,Z,Z,Z,Z,Z,Z,Z,Z,Z] rfl rfl HT_ ?_
          refine taA (i:=1) (N:=some 37) #[Y,Y,Y,Z,Z,Z,Z,Z,Z,Z,Z,Z,Z] rfl rfl HT_ HW_ hHeld ?_
          refine taA (i:=3) (N:=some 39) #[Y,Y,Y,Y,Z,Z,Z,Z,Z,Z,Z,Z,Z] rfl rfl HT_ HW_ hHeld ?_
          refine taA (i:=4) (N:=some 40) #[Y,Y,Y,Y,Y,Z,Z,Z,Z,Z,Z,Z,Z] rfl rfl HT_ HW_ hHeld ?_
          refine join_ (σ:=Nat) 2 #[Y,Y,Y,Y,Y,Y,Y,Y,Y,Y,Y,Z,Z] (fun s_=>[(41,.int .i64 t422),(42,.tuple #[.agg #[.int .i64 t423,.int .i64 t424,.int .i64 t425],.bool true]),(11,.pointer (some ⟨s_,0,none⟩)),(35,.tuple #[.agg #[.int .i64 t423,.int .i64 t424,.int .i64 t425],.bool true]),(43,.agg #[.int .i64 t423,.int .i64 t424,.int .i64 t425]),(44,.bool true)]) (fun s_ w'=>(w'.cell? ⟨gb415,0,none⟩=some (.int .i64 x416000_2)∧w'.cell? ⟨gb415,1,none⟩=some (.int .i64 x416001_2)∧w'.cell? ⟨gb415,2,none⟩=some (.int .i64 x416002_2)∧w'.cell? ⟨gb416,0,none⟩=some (.int .i64 a2_0)∧w'.cell? ⟨gb416,1,none⟩=some (.int .i64 a2_1))∧(Kd.R k25 25 w' w.heap.size (fun k_=>k_≠gb415∧k_≠s_) u10 x10_2)∧(w'.heap[gb415]?=some (.cells #[.int .i64 x416000_2,.int .i64 x416001_2,.int .i64 x416002_2] 25 (0,0)))∧(w'.heap[gb416]?=some (.cells #[.int .i64 a2_0,.int .i64 a2_1] 27 (0,0)))∧(w'.heap[s_]?=some (.cells #[.int .i64 0,.int .i64 0,.int .i64 0] 25 (0,0)))∧(w.heap.size≤s_)∧(w.heap.size≤s_)∧(gb415≠s_)∧(s_≠gb415)∧(gb416≠s_)∧(s_≠gb416)∧(Below w.heap.size w w')) ?_ ?_
          rotate_left
          ·
           intro hCont
           refine two_ (i:=5) (j:=10) (Ni:=some 41) (Nj:=some 11) #[Y,Y,Y,Y,Y,Y,Z,Z,Z,Z,Z,Z,Z] #[Y,Y,Y,Y,Y,Z,Z,Z,Z,Z,Y,Z,Z] rfl rfl rfl rfl (two_of HT_.out (by kernel_rfl)) (by decide) (by decide) (fun K hK=>?_) (fun K hK=>?_)
           ·
            skip
            refine goC Try.func30 (impl_branch.calls (w:=_) (h:=A27.out)) ?_
            intro w32 hb
            replace HO_10:=Aside0.mk (Kd.R_below (rA HO_10) hb)
            replace BK415:=kB BK415 hb
            replace BK416:=kB BK416 hb
            replace HB:=lB hb
            (try clear hb)
            (try clear hb2)
            (try clear hk)
            (try clear hi)
            refine hK.out _ _ ⟨cA BK415 0,cA BK415 1,cA BK415 2,cA BK416 0,cA BK416 1⟩ (fun hHeld=>?_)
            clear hK K
            refine nmA ?_
            refine two_ (i:=6) (j:=10) (Ni:=some 42) (Nj:=some 11) #[Y,Y,Y,Y,Y,Y,Y,Z,Z,Z,Z,Z,Z] #[Y,Y,Y,Y,Y,Y,Z,Z,Z,Z,Y,Z,Z] rfl rfl rfl rfl (two_of HT_.out (by kernel_rfl)) (by decide) (by decide) (fun K hK=>?_) (fun K hK=>?_)
            ·
             skip
             refine goC Try.func29 (impl_neighbour.calls (w:=_) (h:=A28.out)) ?_
             intro w33 hb
             replace HO_10:=Aside0.mk (Kd.R_below (rA HO_10) hb)
             replace BK415:=kB BK415 hb
             replace BK416:=kB BK416 hb
             replace HB:=lB hb
             (try clear hb)
             (try clear hb2)
             (try clear hk)
             (try clear hi)
             refine hK.out _ _ ⟨cA BK415 0,cA BK415 1,cA BK415 2,cA BK416 0,cA BK416 1⟩ (fun hHeld=>?_)
             clear hK K
             refine nmA ?_
             refine puA (i:=7) (N:=some 35) #[Y,Y,Y,Y,Y,Y,Y,Y,Z,Z,Z,Z,Z] rfl rfl HT_ ?_
             refine puA (i:=8) (N:=some 43) #[Y,Y,Y,Y,Y,Y,Y,Y,Y,Z,Z,Z,Z] rfl rfl HT_ ?_
             refine puA (i:=9) (N:=some 44) #[Y,Y,Y,Y,Y,Y,Y,Y,Y,Y,Z,Z,Z] rfl rfl HT_ ?_
             refine one_ (i:=10) (N:=some 11) #[Y,Y,Y,Y,Y,Y,Y,Y,Y,Y,Y,Z,Z] rfl rfl (one_of HT_.out (by kernel_rfl)) (by decide) (fun K hK=>?_)
             refine box_step ?hg (N:=11) ?hd (cs:=#[.int .i64 0,.int .i64 0,.int .i64 0]) (t:=25) ?hr ?_;(case hd=>rfl);(case hg=>rfl);(case hr=>first|(go_simp;done)|(go_simp;rfl))
             intro gb427 hg w34 hbox hb
             have BK427:=Aside0.mk hbox
             have GW427:=sA hg
             have GE427:=sA hg
             have NB415_427:=nA hg BK415
             have NB427_415:=nB hg BK415
             have NB416_427:=nA hg BK416
             have NB427_416:=nB hg BK416
             replace HO_10:=Aside0.mk (Kd.R_below (Kd.R_elderB (rA HO_10) gb427 (Nat.le_of_eq hg.symm)) hb)
             replace BK415:=kB BK415 hb
             replace BK416:=kB BK416 hb
             replace HB:=lB hb
             clear hb hbox hg
             refine hK.out _ _ ⟨cA BK415 0,cA BK415 1,cA BK415 2,cA BK416 0,cA BK416 1⟩ (fun hHeld=>?_)
             clear hK K
             refine nmA ?_
             exact norm_ (by simp only [putAll,Act.put,List.setIfInBounds_toArray,List.set_cons_zero,List.set_cons_succ]) (hCont (gb427) _ ⟨hHeld,(rA HO_10),(bkA BK415),(bkA BK416),(bkA BK427),GW427.out,GE427.out,NB415_427.out,NB427_415.out,NB416_427.out,NB427_416.out,blA⟩)
            ·
             skip
             refine box_step ?hg (N:=11) ?hd (cs:=#[.int .i64 0,.int .i64 0,.int .i64 0]) (t:=25) ?hr ?_;(case hd=>rfl);(case hg=>rfl);(case hr=>first|(go_simp;done)|(go_simp;rfl))
             intro gb427 hg w33 hbox hb
             have BK427:=Aside0.mk hbox
             have GW427:=sA hg
             have GE427:=sA hg
             have NB415_427:=nA hg BK415
             have NB427_415:=nB hg BK415
             have NB416_427:=nA hg BK416
             have NB427_416:=nB hg BK416
             replace HO_10:=Aside0.mk (Kd.R_below (Kd.R_elderB (rA HO_10) gb427 (Nat.le_of_eq hg.symm)) hb)
             replace BK415:=kB BK415 hb
             replace BK416:=kB BK416 hb
             replace HB:=lB hb
             clear hb hbox hg
             refine hK.out _ _ ⟨cA BK415 0,cA BK415 1,cA BK415 2,cA BK416 0,cA BK416 1⟩ (fun hHeld=>?_)
             clear hK K
             refine nmA ?_
             refine one_ (i:=6) (N:=some 42) #[Y,Y,Y,Y,Y,Y,Y,Z,Z,Z,Y,Z,Z] rfl rfl (one_of HT_.out (by kernel_rfl)) (by decide) (fun K hK=>?_)
             refine goC Try.func29 (impl_neighbour.calls (w:=_) (h:=A28.out)) ?_
             intro w34 hb
             replace HO_10:=Aside0.mk (Kd.R_below (rA HO_10) hb)
             replace BK415:=kB BK415 hb
             replace BK416:=kB BK416 hb
             replace BK427:=kB BK427 hb
             replace HB:=lB hb
             (try clear hb)
             (try clear hb2)
             (try clear hk)
             (try clear hi)
             refine hK.out _ _ ⟨cA BK415 0,cA BK415 1,cA BK415 2,cA BK416 0,cA BK416 1⟩ (fun hHeld=>?_)
             clear hK K
             refine nmA ?_
             refine puA (i:=7) (N:=some 35) #[Y,Y,Y,Y,Y,Y,Y,Y,Z,Z,Y,Z,Z] rfl rfl HT_ ?_
             refine puA (i:=8) (N:=some 43) #[Y,Y,Y,Y,Y,Y,Y,Y,Y,Z,Y,Z,Z] rfl rfl HT_ ?_
             refine puA (i:=9) (N:=some 44) #[Y,Y,Y,Y,Y,Y,Y,Y,Y,Y,Y,Z,Z] rfl rfl HT_ ?_
             exact norm_ (by simp only [putAll,Act.put,List.setIfInBounds_toArray,List.set_cons_zero,List.set_cons_succ]) (hCont (gb427) _ ⟨hHeld,(rA HO_10),(bkA BK415),(bkA BK416),(bkA BK427),GW427.out,GE427.out,NB415_427.out,NB427_415.out,NB416_427.out,NB427_416.out,blA⟩)
           ·
            skip
            refine box_step ?hg (N:=11) ?hd (cs:=#[.int .i64 0,.int .i64 0,.int .i64 0]) (t:=25) ?hr ?_;(case hd=>rfl);(case hg=>rfl);(case hr=>first|(go_simp;done)|(go_simp;rfl))
            intro gb427 hg w32 hbox hb
            have BK427:=Aside0.mk hbox
            have GW427:=sA hg
            have GE427:=sA hg
            have NB415_427:=nA hg BK415
            have NB427_415:=nB hg BK415
            have NB416_427:=nA hg BK416
            have NB427_416:=nB hg BK416
            replace HO_10:=Aside0.mk (Kd.R_below (Kd.R_elderB (rA HO_10) gb427 (Nat.le_of_eq hg.symm)) hb)
            replace BK415:=kB BK415 hb
            replace BK416:=kB BK416 hb
            replace HB:=lB hb
            clear hb hbox hg
            refine hK.out _ _ ⟨cA BK415 0,cA BK415 1,cA BK415 2,cA BK416 0,cA BK416 1⟩ (fun hHeld=>?_)
            clear hK K
            refine nmA ?_
            refine one_ (i:=5) (N:=some 41) #[Y,Y,Y,Y,Y,Y,Z,Z,Z,Z,Y,Z,Z] rfl rfl (one_of HT_.out (by kernel_rfl)) (by decide) (fun K hK=>?_)
            refine goC Try.func30 (impl_branch.calls (w:=_) (h:=A27.out)) ?_
            intro w33 hb
            replace HO_10:=Aside0.mk (Kd.R_below (rA HO_10) hb)
            replace BK415:=kB BK415 hb
            replace BK416:=kB BK416 hb
            replace BK427:=kB BK427 hb
            replace HB:=lB hb
            (try clear hb)
            (try clear hb2)
            (try clear hk)
            (try clear hi)
            refine hK.out _ _ ⟨cA BK415 0,cA BK415 1,cA BK415 2,cA BK416 0,cA BK416 1⟩ (fun hHeld=>?_)
            clear hK K
            refine nmA ?_
            refine one_ (i:=6) (N:=some 42) #[Y,Y,Y,Y,Y,Y,Y,Z,Z,Z,Y,Z,Z] rfl rfl (one_of HT_.out (by kernel_rfl)) (by decide) (fun K hK=>?_)
            refine goC Try.func29 (impl_neighbour.calls (w:=_) (h:=A28.out)) ?_
            intro w34 hb
            replace HO_10:=Aside0.mk (Kd.R_below (rA HO_10) hb)
            replace BK415:=kB BK415 hb
            replace BK416:=kB BK416 hb
            replace BK427:=kB BK427 hb
            replace HB:=lB hb
            (try clear hb)
            (try clear hb2)
            (try clear hk)
            (try clear hi)
            refine hK.out _ _ ⟨cA BK415 0,cA BK415 1,cA BK415 2,cA BK416 0,cA BK416 1⟩ (fun hHeld=>?_)
            clear hK K
            refine nmA ?_
            refine puA (i:=7) (N:=some 35) #[Y,Y,Y,Y,Y,Y,Y,Y,Z,Z,Y,Z,Z] rfl rfl HT_ ?_
            refine puA (i:=8) (N:=some 43) #[Y,Y,Y,Y,Y,Y,Y,Y,Y,Z,Y,Z,Z] rfl rfl HT_ ?_
            refine puA (i:=9) (N:=some 44) #[Y,Y,Y,Y,Y,Y,Y,Y,Y,Y,Y,Z,Z] rfl rfl HT_ ?_
            exact norm_ (by simp only [putAll,Act.put,List.setIfInBounds_toArray,List.set_cons_zero,List.set_cons_succ]) (hCont (gb427) _ ⟨hHeld,(rA HO_10),(bkA BK415),(bkA BK416),(bkA BK427),GW427.out,GE427.out,NB415_427.out,NB427_415.out,NB416_427.out,NB427_416.out,blA⟩)
          rintro gb427 w35 ⟨hS_,h0_,h1_,h2_,h3_,h4_,h5_,h6_,h7_,h8_,h9_,h10_⟩
          have BK427:=Aside0.mk h3_
          have GW427:=Aside0.mk h4_
          have GE427:=Aside0.mk h5_
          have NB415_427:=Aside0.mk h6_
          have NB427_415:=Aside0.mk h7_
          have NB416_427:=Aside0.mk h8_
          have NB427_416:=Aside0.mk h9_
          replace HO_10:=Aside0.mk h0_
          replace BK415:=Aside0.mk h1_
          replace BK416:=Aside0.mk h2_
          replace HB:=Aside0.mk h10_
          clear h0_ h1_ h2_ h3_ h4_ h5_ h6_ h7_ h8_ h9_ h10_
          have hHeld:w35.cell? ⟨gb415,0,none⟩=some (.int .i64 x416000_2)∧w35.cell? ⟨gb415,1,none⟩=some (.int .i64 x416001_2)∧w35.cell? ⟨gb415,2,none⟩=some (.int .i64 x416002_2)∧w35.cell? ⟨gb416,0,none⟩=some (.int .i64 a2_0)∧w35.cell? ⟨gb416,1,none⟩=some (.int .i64 a2_1):=hS_
          refine norm_ (a':=?_) ?_ ?_
          rotate_left
          ·
           simp only [putAll,Act.put,List.setIfInBounds_toArray,List.set_cons_zero,List.set_cons_succ]
           rfl
          refine one_ (i:=11) (N:=none) #[Y,Y,Y,Y,Y,Y,Y,Y,Y,Y,Y,Y,Z] rfl rfl (one_of HT_.out (by kernel_rfl)) (by decide) (fun K hK=>?_)
          have hs36:w35.cell? ⟨gb427,0,none⟩=some (.int .i64 0):=cA BK427 0
          have hfs36:=blk_frozen BK427.out 0
          have hns36_0:=NB415_427.out
          have hns36_1:=NB416_427.out
          have hms36_0:=NB427_415.out
          have hms36_1:=NB427_416.out
          have hs37:w35.cell? ⟨gb427,1,none⟩=some (.int .i64 0):=cA BK427 1
          have hfs37:=blk_frozen BK427.out 1
          have hns37_0:=NB415_427.out
          have hns37_1:=NB416_427.out
          have hms37_0:=NB427_415.out
          have hms37_1:=NB427_416.out
          have hs38:w35.cell? ⟨gb427,2,none⟩=some (.int .i64 0):=cA BK427 2
          have hfs38:=blk_frozen BK427.out 2
          have hns38_0:=NB415_427.out
          have hns38_1:=NB416_427.out
          have hms38_0:=NB427_415.out
          have hms38_1:=NB427_416.out
          refine skip_ (w1:=?_) (by rfl) rfl ?_ ?_
          rotate_left
          ·
           go_simp
           rfl
          refine hK.out _ _ ⟨cfA hHeld.1,cfA hHeld.2.1,cfA hHeld.2.2.1,cfA hHeld.2.2.2.1,cfA hHeld.2.2.2.2⟩ (fun hHeld=>?_)
          clear hK K
          refine puA (i:=12) (N:=some 12) #[Y,Y,Y,Y,Y,Y,Y,Y,Y,Y,Y,Y,Y] rfl rfl HT_ ?_
          refine done_ (done_of HT_.out (by kernel_rfl)) ?_
          have hnb39:=NB427_415.out
          have hnc39:=NB415_427.out
          have hnb40:=NB427_416.out
          have hnc40:=NB416_427.out
          obtain ⟨hcz41_0,hcz41_1,hcz41_2,hfz41_0,hfz41_1,hfz41_2⟩:=cz3 BK427
          have hnb42:=NB415_416.out
          have hnc42:=NB416_415.out
          obtain ⟨hcz43_0,hcz43_1,hcz43_2,hfz43_0,hfz43_1,hfz43_2⟩:=cz3 BK415
          try go_wp2_with (first|((with_reducible refine gate_builtin (b:=.append) (xs:=#[.tmp 48,.tmp 50]) rfl ?_);at_builtin;refine Kd.R_append k25 (w0:=w) w.heap.size rfl (.tmp 48) (.tmp 50) 30 25 (.agg #[(.int .i64 0),(.int .i64 0),(.int .i64 0)]) 24 rfl Try.underlying30 info25 rfl (by decide) (by omega) u10 x10_2 (⟨t423,t424,t425⟩:S25) [.int .i64 t423,.int .i64 t424,.int .i64 t425] (fun k_=>k_≠gb415∧k_≠gb427) (fun _=>False) rfl (by first|(go_simp;done)|(go_simp;rfl)) ?aP (fun _ hk=>hk.elim) ?aF ?aO ?aB ?aS ?aL ?_;(case aP=>exact k25_mkM _ _ _ (⟨t423,t424,t425⟩:S25));(case aB=>exact blA);(case aF=>exact (fun k_ hk=>⟨Kd.freshB (g:=gb415) (o:=.cells #[.int .i64 t423,.int .i64 t424,.int .i64 t425] 25 (0,0)) (bpA BK415) k_ hk,Kd.freshB (g:=gb427) (o:=.cells #[.int .i64 t423,.int .i64 t424,.int .i64 t425] 25 (0,0)) (bpA BK427) k_ hk⟩));(case aO=>exact (by (with_reducible repeat (first|apply Kd.R_alloc|apply Kd.R_drewN|apply Kd.R_drew));exact Kd.R_mono (Kd.R_far (p:=⟨gb415,2,none⟩) (Kd.R_far (p:=⟨gb415,1,none⟩) (Kd.R_far (p:=⟨gb415,0,none⟩) (Kd.R_far (p:=⟨gb427,2,none⟩) (Kd.R_far (p:=⟨gb427,1,none⟩) (Kd.R_far (p:=⟨gb427,0,none⟩) (Kd.R_mono (Kd.R_mono HO_10.out (fun k_ hk=>(⟨hk,hk.2⟩:_∧k_≠gb427))) (fun k_ hk=>(⟨hk,hk.1.1⟩:_∧k_≠gb415))) (fun _ hk=>hk.1.2) (.int .i64 t423)) (fun _ hk=>hk.1.2) (.int .i64 t424)) (fun _ hk=>hk.1.2) (.int .i64 t425)) (fun _ hk=>hk.2) (.int .i64 t423)) (fun _ hk=>hk.2) (.int .i64 t424)) (fun _ hk=>hk.2) (.int .i64 t425)) (fun _ hk=>⟨hk.1.1.1,hk.1.1.2⟩)));(case aS=>exact (below_size blA));(case aL=>have:=LMc30.out;omega);intro v429 w44 ho hb hg hat;rw [← Ny428.out] at ho;have n0_:=Aside0.mk (blk_grown (g:=gb415) (o:=.cells #[.int .i64 t423,.int .i64 t424,.int .i64 t425] 25 (0,0)) (bpA BK415) hg (Kd.R_away HO_10.out (fun _ hk=>hk.1)));have n1_:=Aside0.mk (blk_grown (g:=gb416) (o:=.cells #[.int .i64 a2_0,.int .i64 a2_1] 27 (0,0)) (bkF BK416) hg (Kd.R_ne HO_10.out BK416.out (by decide)));have n2_:=Aside0.mk (blk_grown (g:=gb427) (o:=.cells #[.int .i64 t423,.int .i64 t424,.int .i64 t425] 25 (0,0)) (bpA BK427) hg (Kd.R_away HO_10.out (fun _ hk=>hk.2)));have n3_:=Aside0.mk hb;have n4_:=Aside0.mk ho;clear BK415;clear BK416;clear BK427;clear HB;clear HO_10;have BK415:=n0_;have BK416:=n1_;have BK427:=n2_;have HB:=n3_;have HO430:=n4_;clear n0_ n1_ n2_ n3_ n4_;clear ho hb hg hat))
          go_roundg k2
          case measure=>have:=HJ4.out;have:=HK2.out;omega
          case rel=>exact ⟨(y428),(wrap64 (x33_2+1)),(t423),(t424),(t425),hB,H',⟨by have:=HJ4.out;have:=HK2.out;omega⟩,⟨by (with_reducible repeat (first|apply Kd.R_alloc|apply Kd.R_drewN|apply Kd.R_drew));exact Kd.R_mono HO430.out (fun _ hk=>hk.1)⟩,⟨bkA BK415⟩,⟨bkA BK416⟩,⟨blA⟩⟩
         ·
          refine start_ (n:=13) (S:=fun w'=>w'.cell? ⟨gb415,0,none⟩=some (.int .i64 x416000_2)∧w'.cell? ⟨gb415,1,none⟩=some (.int .i64 x416001_2)∧w'.cell? ⟨gb415,2,none⟩=some (.int .i64 x416002_2)∧w'.cell? ⟨gb416,0,none⟩=some (.int .i64 a2_0)∧w'.cell? ⟨gb416,1,none⟩=some (.int .i64 a2_1)) (ds:=[]) #[Z,Z,Z,Z,Z,Z,Z,Z,Z,Z,Z,Z,Z] (by kernel_rfl) rfl rfl ⟨cA BK415 0,cA BK415 1,cA BK415 2,cA BK416 0,cA BK416 1⟩ (fun hHeld=>?_);refine with_tabW impl_RayOf.tab8 impl_RayOf.bits8 (fun HT_ HW_=>?_)
          generalize wr.drew=w45 at HO_10 BK415 BK416 HB hHeld ⊢
          refine puA (i:=0) (N:=some 36) #[Y,Z,Z,Z,Z,Z,Z,Z,Z,Z,Z,Z,Z] rfl rfl HT_ ?_
          refine puA (i:=2) (N:=some 38) #[Y,Z,Y,Z,Z,Z,Z,Z,Z,Z,Z,Z,Z] rfl rfl HT_ ?_
          refine taA (i:=1) (N:=some 37) #[Y,Y,Y,Z,Z,Z,Z,Z,Z,Z,Z,Z,Z] rfl rfl HT_ HW_ hHeld ?_
          refine taA (i:=3) (N:=some 39) #[Y,Y,Y,Y,Z,Z,Z,Z,Z,Z,Z,Z,Z] rfl rfl HT_ HW_ hHeld ?_
          refine taA (i:=4) (N:=some 40) #[Y,Y,Y,Y,Y,Z,Z,Z,Z,Z,Z,Z,Z] rfl rfl HT_ HW_ hHeld ?_
          refine join_ (σ:=Nat) 2 #[Y,Y,Y,Y,Y,Y,Y,Y,Y,Y,Y,Z,Z] (fun s_=>[(41,.int .i64 t422),(42,.tuple #[.agg #[.int .i64 t423,.int .i64 t424,.int .i64 t425],.bool false]),(11,.pointer (some ⟨s_,0,none⟩)),(35,.tuple #[.agg #[.int .i64 t423,.int .i64 t424,.int .i64 t425],.bool false]),(43,.agg #[.int .i64 t423,.int .i64 t424,.int .i64 t425]),(44,.bool false)]) (fun s_ w'=>(w'.cell? ⟨gb415,0,none⟩=some (.int .i64 x416000_2)∧w'.cell? ⟨gb415,1,none⟩=some (.int .i64 x416001_2)∧w'.cell? ⟨gb415,2,none⟩=some (.int .i64 x416002_2)∧w'.cell? ⟨gb416,0,none⟩=some (.int .i64 a2_0)∧w'.cell? ⟨gb416,1,none⟩=some (.int .i64 a2_1))∧(Kd.R k25 25 w' w.heap.size (fun k_=>k_≠gb415∧k_≠s_) u10 x10_2)∧(w'.heap[gb415]?=some (.cells #[.int .i64 x416000_2,.int .i64 x416001_2,.int .i64 x416002_2] 25 (0,0)))∧(w'.heap[gb416]?=some (.cells #[.int .i64 a2_0,.int .i64 a2_1] 27 (0,0)))∧(w'.heap[s_]?=some (.cells #[.int .i64 0,.int .i64 0,.int .i64 0] 25 (0,0)))∧(w.heap.size≤s_)∧(w.heap.size≤s_)∧(gb415≠s_)∧(s_≠gb415)∧(gb416≠s_)∧(s_≠gb416)∧(Below w.heap.size w w')) ?_ ?_
          rotate_left
          ·
           intro hCont
           refine two_ (i:=5) (j:=10) (Ni:=some 41) (Nj:=some 11) #[Y,Y,Y,Y,Y,Y,Z,Z,Z,Z,Z,Z,Z] #[Y,Y,Y,Y,Y,Z,Z,Z,Z,Z,Y,Z,Z] rfl rfl rfl rfl (two_of HT_.out (by kernel_rfl)) (by decide) (by decide) (fun K hK=>?_) (fun K hK=>?_)
           ·
            skip
            refine goC Try.func30 (impl_branch.calls (w:=_) (h:=A27.out)) ?_
            intro w46 hb
            replace HO_10:=Aside0.mk (Kd.R_below (rA HO_10) hb)
            replace BK415:=kB BK415 hb
            replace BK416:=kB BK416 hb
            replace HB:=lB hb
            (try clear hb)
            (try clear hb2)
            (try clear hk)
            (try clear hi)
            refine hK.out _ _ ⟨cA BK415 0,cA BK415 1,cA BK415 2,cA BK416 0,cA BK416 1⟩ (fun hHeld=>?_)
            clear hK K
            refine nmA ?_
            refine two_ (i:=6) (j:=10) (Ni:=some 42) (Nj:=some 11) #[Y,Y,Y,Y,Y,Y,Y,Z,Z,Z,Z,Z,Z] #[Y,Y,Y,Y,Y,Y,Z,Z,Z,Z,Y,Z,Z] rfl rfl rfl rfl (two_of HT_.out (by kernel_rfl)) (by decide) (by decide) (fun K hK=>?_) (fun K hK=>?_)
            ·
             skip
             refine goC Try.func29 (impl_neighbour.calls (w:=_) (h:=A28.out)) ?_
             intro w47 hb
             replace HO_10:=Aside0.mk (Kd.R_below (rA HO_10) hb)
             replace BK415:=kB BK415 hb
             replace BK416:=kB BK416 hb
             replace HB:=lB hb
             (try clear hb)
             (try clear hb2)
             (try clear hk)
             (try clear hi)
             refine hK.out _ _ ⟨cA BK415 0,cA BK415 1,cA BK415 2,cA BK416 0,cA BK416 1⟩ (fun hHeld=>?_)
             clear hK K
             refine nmA ?_
             refine puA (i:=7) (N:=some 35) #[Y,Y,Y,Y,Y,Y,Y,Y,Z,Z,Z,Z,Z] rfl rfl HT_ ?_
             refine puA (i:=8) (N:=some 43) #[Y,Y,Y,Y,Y,Y,Y,Y,Y,Z,Z,Z,Z] rfl rfl HT_ ?_
             refine puA (i:=9) (N:=some 44) #[Y,Y,Y,Y,Y,Y,Y,Y,Y,Y,Z,Z,Z] rfl rfl HT_ ?_
             refine one_ (i:=10) (N:=some 11) #[Y,Y,Y,Y,Y,Y,Y,Y,Y,Y,Y,Z,Z] rfl rfl (one_of HT_.out (by kernel_rfl)) (by decide) (fun K hK=>?_)
             refine box_step ?hg (N:=11) ?hd (cs:=#[.int .i64 0,.int .i64 0,.int .i64 0]) (t:=25) ?hr ?_;(case hd=>rfl);(case hg=>rfl);(case hr=>first|(go_simp;done)|(go_simp;rfl))
             intro gb427 hg w48 hbox hb
             have BK427:=Aside0.mk hbox
             have GW427:=sA hg
             have GE427:=sA hg
             have NB415_427:=nA hg BK415
             have NB427_415:=nB hg BK415
             have NB416_427:=nA hg BK416
             have NB427_416:=nB hg BK416
             replace HO_10:=Aside0.mk (Kd.R_below (Kd.R_elderB (rA HO_10) gb427 (Nat.le_of_eq hg.symm)) hb)
             replace BK415:=kB BK415 hb
             replace BK416:=kB BK416 hb
             replace HB:=lB hb
             clear hb hbox hg
             refine hK.out _ _ ⟨cA BK415 0,cA BK415 1,cA BK415 2,cA BK416 0,cA BK416 1⟩ (fun hHeld=>?_)
             clear hK K
             refine nmA ?_
             exact norm_ (by simp only [putAll,Act.put,List.setIfInBounds_toArray,List.set_cons_zero,List.set_cons_succ]) (hCont (gb427) _ ⟨hHeld,(rA HO_10),(bkA BK415),(bkA BK416),(bkA BK427),GW427.out,GE427.out,NB415_427.out,NB427_415.out,NB416_427.out,NB427_416.out,blA⟩)
            ·
             skip
             refine box_step ?hg (N:=11) ?hd (cs:=#[.int .i64 0,.int .i64 0,.int .i64 0]) (t:=25) ?hr ?_;(case hd=>rfl);(case hg=>rfl);(case hr=>first|(go_simp;done)|(go_simp;rfl))
             intro gb427 hg w47 hbox hb
             have BK427:=Aside0.mk hbox
             have GW427:=sA hg
             have GE427:=sA hg
             have NB415_427:=nA hg BK415
             have NB427_415:=nB hg BK415
             have NB416_427:=nA hg BK416
             have NB427_416:=nB hg BK416
             replace HO_10:=Aside0.mk (Kd.R_below (Kd.R_elderB (rA HO_10) gb427 (Nat.le_of_eq hg.symm)) hb)
             replace BK415:=kB BK415 hb
             replace BK416:=kB BK416 hb
             replace HB:=lB hb
             clear hb hbox hg
             refine hK.out _ _ ⟨cA BK415 0,cA BK415 1,cA BK415 2,cA BK416 0,cA BK416 1⟩ (fun hHeld=>?_)
             clear hK K
             refine nmA ?_
             refine one_ (i:=6) (N:=some 42) #[Y,Y,Y,Y,Y,Y,Y,Z,Z,Z,Y,Z,Z] rfl rfl (one_of HT_.out (by kernel_rfl)) (by decide) (fun K hK=>?_)
             refine goC Try.func29 (impl_neighbour.calls (w:=_) (h:=A28.out)) ?_
             intro w48 hb
             replace HO_10:=Aside0.mk (Kd.R_below (rA HO_10) hb)
             replace BK415:=kB BK415 hb
             replace BK416:=kB BK416 hb
             replace BK427:=kB BK427 hb
             replace HB:=lB hb
             (try clear hb)
             (try clear hb2)
             (try clear hk)
             (try clear hi)
             refine hK.out _ _ ⟨cA BK415 0,cA BK415 1,cA BK415 2,cA BK416 0,cA BK416 1⟩ (fun hHeld=>?_)
             clear hK K
             refine nmA ?_
             refine puA (i:=7) (N:=some 35) #[Y,Y,Y,Y,Y,Y,Y,Y,Z,Z,Y,Z,Z] rfl rfl HT_ ?_
             refine puA (i:=8) (N:=some 43) #[Y,Y,Y,Y,Y,Y,Y,Y,Y,Z,Y,Z,Z] rfl rfl HT_ ?_
             refine puA (i:=9) (N:=some 44) #[Y,Y,Y,Y,Y,Y,Y,Y,Y,Y,Y,Z,Z] rfl rfl HT_ ?_
             exact norm_ (by simp only [putAll,Act.put,List.setIfInBounds_toArray,List.set_cons_zero,List.set_cons_succ]) (hCont (gb427) _ ⟨hHeld,(rA HO_10),(bkA BK415),(bkA BK416),(bkA BK427),GW427.out,GE427.out,NB415_427.out,NB427_415.out,NB416_427.out,NB427_416.out,blA⟩)
           ·
            skip
            refine box_step ?hg (N:=11) ?hd (cs:=#[.int .i64 0,.int .i64 0,.int .i64 0]) (t:=25) ?hr ?_;(case hd=>rfl);(case hg=>rfl);(case hr=>first|(go_simp;done)|(go_simp;rfl))
            intro gb427 hg w46 hbox hb
            have BK427:=Aside0.mk hbox
            have GW427:=sA hg
            have GE427:=sA hg
            have NB415_427:=nA hg BK415
            have NB427_415:=nB hg BK415
            have NB416_427:=nA hg BK416
            have NB427_416:=nB hg BK416
            replace HO_10:=Aside0.mk (Kd.R_below (Kd.R_elderB (rA HO_10) gb427 (Nat.le_of_eq hg.symm)) hb)
            replace BK415:=kB BK415 hb
            replace BK416:=kB BK416 hb
            replace HB:=lB hb
            clear hb hbox hg
            refine hK.out _ _ ⟨cA BK415 0,cA BK415 1,cA BK415 2,cA BK416 0,cA BK416 1⟩ (fun hHeld=>?_)
            clear hK K
            refine nmA ?_
            refine one_ (i:=5) (N:=some 41) #[Y,Y,Y,Y,Y,Y,Z,Z,Z,Z,Y,Z,Z] rfl rfl (one_of HT_.out (by kernel_rfl)) (by decide) (fun K hK=>?_)
            refine goC Try.func30 (impl_branch.calls (w:=_) (h:=A27.out)) ?_
            intro w47 hb
            replace HO_10:=Aside0.mk (Kd.R_below (rA HO_10) hb)
            replace BK415:=kB BK415 hb
            replace BK416:=kB BK416 hb
            replace BK427:=kB BK427 hb
            replace HB:=lB hb
            (try clear hb)
            (try clear hb2)
            (try clear hk)
            (try clear hi)
            refine hK.out _ _ ⟨cA BK415 0,cA BK415 1,cA BK415 2,cA BK416 0,cA BK416 1⟩ (fun hHeld=>?_)
            clear hK K
            refine nmA ?_
            refine one_ (i:=6) (N:=some 42) #[Y,Y,Y,Y,Y,Y,Y,Z,Z,Z,Y,Z,Z] rfl rfl (one_of HT_.out (by kernel_rfl)) (by decide) (fun K hK=>?_)
            refine goC Try.func29 (impl_neighbour.calls (w:=_) (h:=A28.out)) ?_
            intro w48 hb
            replace HO_10:=Aside0.mk (Kd.R_below (rA HO_10) hb)
            replace BK415:=kB BK415 hb
            replace BK416:=kB BK416 hb
            replace BK427:=kB BK427 hb
            replace HB:=lB hb
            (try clear hb)
            (try clear hb2)
            (try clear hk)
            (try clear hi)
            refine hK.out _ _ ⟨cA BK415 0,cA BK415 1,cA BK415 2,cA BK416 0,cA BK416 1⟩ (fun hHeld=>?_)
            clear hK K
            refine nmA ?_
            refine puA (i:=7) (N:=some 35) #[Y,Y,Y,Y,Y,Y,Y,Y,Z,Z,Y,Z,Z] rfl rfl HT_ ?_
            refine puA (i:=8) (N:=some 43) #[Y,Y,Y,Y,Y,Y,Y,Y,Y,Z,Y,Z,Z] rfl rfl HT_ ?_
            refine puA (i:=9) (N:=some 44) #[Y,Y,Y,Y,Y,Y,Y,Y,Y,Y,Y,Z,Z] rfl rfl HT_ ?_
            exact norm_ (by simp only [putAll,Act.put,List.setIfInBounds_toArray,List.set_cons_zero,List.set_cons_succ]) (hCont (gb427) _ ⟨hHeld,(rA HO_10),(bkA BK415),(bkA BK416),(bkA BK427),GW427.out,GE427.out,NB415_427.out,NB427_415.out,NB416_427.out,NB427_416.out,blA⟩)
          rintro gb427 w49 ⟨hS_,h0_,h1_,h2_,h3_,h4_,h5_,h6_,h7_,h8_,h9_,h10_⟩
          have BK427:=Aside0.mk h3_
          have GW427:=Aside0.mk h4_
          have GE427:=Aside0.mk h5_
          have NB415_427:=Aside0.mk h6_
          have NB427_415:=Aside0.mk h7_
          have NB416_427:=Aside0.mk h8_
          have NB427_416:=Aside0.mk h9_
          replace HO_10:=Aside0.mk h0_
          replace BK415:=Aside0.mk h1_
          replace BK416:=Aside0.mk h2_
          replace HB:=Aside0.mk h10_
          clear h0_ h1_ h2_ h3_ h4_ h5_ h6_ h7_ h8_ h9_ h10_
          have hHeld:w49.cell? ⟨gb415,0,none⟩=some (.int .i64 x416000_2)∧w49.cell? ⟨gb415,1,none⟩=some (.int .i64 x416001_2)∧w49.cell? ⟨gb415,2,none⟩=some (.int .i64 x416002_2)∧w49.cell? ⟨gb416,0,none⟩=some (.int .i64 a2_0)∧w49.cell? ⟨gb416,1,none⟩=some (.int .i64 a2_1):=hS_
          refine norm_ (a':=?_) ?_ ?_
          rotate_left
          ·
           simp only [putAll,Act.put,List.setIfInBounds_toArray,List.set_cons_zero,List.set_cons_succ]
           rfl
          refine one_ (i:=11) (N:=none) #[Y,Y,Y,Y,Y,Y,Y,Y,Y,Y,Y,Y,Z] rfl rfl (one_of HT_.out (by kernel_rfl)) (by decide) (fun K hK=>?_)
          have hs50:w49.cell? ⟨gb427,0,none⟩=some (.int .i64 0):=cA BK427 0
          have hfs50:=blk_frozen BK427.out 0
          have hns50_0:=NB415_427.out
          have hns50_1:=NB416_427.out
          have hms50_0:=NB427_415.out
          have hms50_1:=NB427_416.out
          have hs51:w49.cell? ⟨gb427,1,none⟩=some (.int .i64 0):=cA BK427 1
          have hfs51:=blk_frozen BK427.out 1
          have hns51_0:=NB415_427.out
          have hns51_1:=NB416_427.out
          have hms51_0:=NB427_415.out
          have hms51_1:=NB427_416.out
          have hs52:w49.cell? ⟨gb427,2,none⟩=some (.int .i64 0):=cA BK427 2
          have hfs52:=blk_frozen BK427.out 2
          have hns52_0:=NB415_427.out
          have hns52_1:=NB416_427.out
          have hms52_0:=NB427_415.out
          have hms52_1:=NB427_416.out
          refine skip_ (w1:=?_) (by rfl) rfl ?_ ?_
          rotate_left
          ·
           go_simp
           rfl
          refine hK.out _ _ ⟨cfA hHeld.1,cfA hHeld.2.1,cfA hHeld.2.2.1,cfA hHeld.2.2.2.1,cfA hHeld.2.2.2.2⟩ (fun hHeld=>?_)
          clear hK K
          refine puA (i:=12) (N:=some 12) #[Y,Y,Y,Y,Y,Y,Y,Y,Y,Y,Y,Y,Y] rfl rfl HT_ ?_
          refine done_ (done_of HT_.out (by kernel_rfl)) ?_
          try go_wp2
          go_ret2
          exact ⟨_,eW,nlA,blA⟩
        ·
         rw [if_neg c26] at H
         have c26b0:=decide_eq_false c26
         clear c26
         simp only [Option.some.injEq,Prod.mk.injEq] at H
         obtain ⟨rfl,rfl⟩:=H
         go_wp2
         go_ret2
         exact ⟨_,eW,by (with_reducible repeat (first|apply Kd.R_alloc|apply Kd.R_drewN|apply Kd.R_drew));exact Kd.R_mono HO_10.out (fun _ hk=>trivial),blA⟩
end Go.Proofs.Ytabcckoeilegnaa.PAll
