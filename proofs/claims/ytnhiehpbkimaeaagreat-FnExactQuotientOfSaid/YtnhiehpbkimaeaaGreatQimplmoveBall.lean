import Derived.Test.YtnhiehpbkimaeaaGreatQx
import Derived.Test.YtnhiehpbkimaeaaGreatQcmpisNaNint64
import Derived.Test.YtnhiehpbkimaeaaGreatQimplofMark
import Derived.Test.YtnhiehpbkimaeaaGreatQimplregionCode
namespace Go.Proofs.YtnhiehpbkimaeaaGreat.PAll
open Go.RowKit Go.Proofs.YtnhiehpbkimaeaaGreatW.PrintWords Go.Proofs.YtnhiehpbkimaeaaGreatW.PrintLast Go.Proofs.YtnhiehpbkimaeaaGreatW.PrintMore
attribute [local go_sem] Go.Proofs.YtnhiehpbkimaeaaGreat.Aux.setCell_drewN Go.Proofs.YtnhiehpbkimaeaaGreat.Aux.isSome_setCell cC b9 cQ cP bm bl cB b8
set_option linter.unusedVariables false
set_option linter.unusedSimpArgs false
def ae.l0:Nat→Int→List (S43)→Int→Int→Int→Int→Option ((List (S43)) × Bool)
 | 0,_,_,_,_,_,_=>none
 | k+1,x0,x8,x9,x396000,x396001,x396002=>if x9≤x0 then ((ce.f k x0 x396000 x396001 x396002 x9).bind fun bt399=>(if bt399.2.2.2=true then (if x8.length<5864062014805 then (ae.l0 k x0 (x8 ++ [(⟨bt399.1,bt399.2.1,bt399.2.2.1⟩:S43)]) (wrap64 (x9+1)) x396000 x396001 x396002) else (none)) else (some (([]:List (S43)),false)))) else (some (x8,true))
def ae.f (k:Nat) (a0 a1_0 a1_1 a1_2 a2:Int):Option ((List (S43)) × Bool):=ae.l0 k a0 (([]:List (S43))) a2 a1_0 a1_1 a1_2
set_option maxHeartbeats 8000000 in
set_option maxRecDepth 100000 in
theorem ae.calls (k:Nat) (a0 a1_0 a1_1 a1_2 a2:Int) (r1:List (S43)) (r2:Bool) (w:World) (h:ae.f k a0 a1_0 a1_1 a1_2 a2=some (r1,r2)) :
  Calls Tryz.prog 98 #[.int .i64 a0,.agg #[.int .i64 a1_0,.int .i64 a1_1,.int .i64 a1_2],.int .i64 a2] w fun e w'=>∃ v0_:Value,e=.returned (.tuple #[v0_,.bool r2])∧Kd.R k43 43 w' w.heap.size (fun _=>True) v0_ r1∧Below w.heap.size w w':=by
 have hu43:=Tryz.underlying43
 have HB:=aA.mk (Below.refl w.heap.size w)
 have H:=h
 unfold ae.f at H
 clear h
 obtain ⟨y396,hy396⟩:∃ y_:List (S43),y_=(([]:List (S43))):=⟨_,rfl⟩
 replace H:(ae.l0 k a0 y396 a2 a1_0 a1_1 a1_2)=some (r1,r2):=rH hy396 H
 have Ny396:=aA.mk hy396
 clear hy396
 have H':=aA.mk H
 clear H
 go_enter Tryz.func98,Tryz.ntmps98
 go_wp2_with (first|((with_reducible refine aN (N:=4) rfl ?_);refine bxE (cs:=#[.int .i64 a1_0,.int .i64 a1_1,.int .i64 a1_2]) (t:=43) ?_;intro gb395 hg w4 hbox hb;have BK395:=aA.mk hbox;have GW395:=sA hg;have GE395:=sA hg;replace HB:=lB hb;clear hb hbox hg)|((with_reducible refine aN (N:=12) rfl ?_);refine Kd.R_lit k43 _ 43 ?hg (N:=12) ?hd (xs:=([]:List (S43))) (inner:=[]) (ok:=fun _=>True) (okp:=fun _=>True) ?hr ?hp (fun _ hk=>hk) trivial (Below.refl _ _) (Nat.le_refl _) (by simp) ?_;(case hd=>rfl);(case hg=>rfl);(case hr=>first|(go_simp;done)|(go_simp;rfl));(case hp=>exact (bD.none _ _));intro v397 w5 ho6 hb hg_ hnew_;clear hg_ hnew_;(first|rw [← Ny396.out] at ho6|(simp only [Int.reduceToNat] at ho6;rw [← Ny396.out] at ho6));have HO398:=aA.mk (Kd.R_lower (Kd.R_newB ho6 (bkA BK395)) (aQ blA));replace BK395:=kB BK395 hb;replace HB:=lB hb;clear hb ho6))
 go_loopg [8,9] k (fun kq v8 v9 w'=>∃ (x8_1:List (S43)) (x9_1:Int),v9=.int .i64 x9_1∧aA (ae.l0 kq a0 x8_1 x9_1 a1_0 a1_1 a1_2=some (r1,r2))∧aA (kq≤k)∧aA (Kd.R k43 43 w' w.heap.size (fun k_=>k_≠gb395) v8 x8_1)∧aA (w'.heap[gb395]?=some (.cells #[.int .i64 a1_0,.int .i64 a1_1,.int .i64 a1_2] 43 (0,0)))∧aA (Below w.heap.size w w'))
 case atStart=>exact ⟨(y396),(a2),hB,H',⟨Nat.le_refl _⟩,⟨by (with_reducible repeat (first|apply Kd.R_alloc|apply Kd.R_drewN|apply Kd.R_drew));exact Kd.R_mono HO398.out (fun _ hk=>hk.2)⟩,⟨bkA BK395⟩,⟨blA⟩⟩
 case round=>
  clear H'
  obtain ⟨x8_1,x9_1,rfl,HA,HK1,HO_8,BK395,HB⟩:=hrel
  cases gk with
  | zero=>exact absurd HA.out (by simp [ae.l0])
  | succ k1=>
   have H:=HA.out
   clear HA
   simp only [ae.l0] at H
   by_cases c7:x9_1≤a0
   ·
    rw [if_pos c7] at H
    have c7b0:=decide_eq_true c7
    clear c7
    replace H:=bS H
    obtain ⟨⟨t399,t400,t401,t402⟩,A8,H⟩:=H
    try dsimp only at H
    by_cases c9:t402=true
    focus
     subst c9
     rw [if_pos rfl] at H
     try dsimp only at H
     by_cases c10:x8_1.length<5864062014805
     rotate_left
     ·
      rw [if_neg c10] at H
      exact absurd H (by simp)
     rw [if_pos c10] at H
     have LMc10:=aA.mk c10
     clear c10
     obtain ⟨y404,hy404⟩:∃ y_:List (S43),y_=(x8_1 ++ [(⟨t399,t400,t401⟩:S43)]):=⟨_,rfl⟩
     replace H:(ae.l0 k1 a0 y404 (wrap64 (x9_1+1)) a1_0 a1_1 a1_2)=some (r1,r2):=rH hy404 H
     have Ny404:=aA.mk hy404
     clear hy404
     have H':=aA.mk H
     clear H
     obtain ⟨hcz11_0,hcz11_1,hcz11_2,hfz11_0,hfz11_1,hfz11_2⟩:=cz3 BK395
    rotate_left
    focus
     replace c9:=Bool.eq_false_iff.mpr c9
     subst c9
     rw [if_neg (show ¬ (false=true) by decide)] at H
     try dsimp only at H
     simp only [Option.some.injEq,Prod.mk.injEq] at H
     obtain ⟨rfl,rfl⟩:=H
     obtain ⟨hcz17_0,hcz17_1,hcz17_2,hfz17_0,hfz17_1,hfz17_2⟩:=cz3 BK395
    rotate_left
    all_goals
     go_wp2_with (first|((with_reducible refine gd 23 rfl ?_);refine gC (some 23) rfl Tryz.func122 (ce.calls (w:=_) (h:=A8.out)) ?_;intro w12 hb;replace HO_8:=aA.mk (Kd.R_below (rA HO_8) hb);replace BK395:=kB BK395 hb;replace HB:=lB hb;clear hb)|((with_reducible refine aN (N:=10) rfl ?_);refine bxE (cs:=#[.int .i64 0,.int .i64 0,.int .i64 0]) (t:=43) ?_;intro gb403 hg w13 hbox hb;have BK403:=aA.mk hbox;have GW403:=sA hg;have GE403:=sA hg;have NB395_403:=nA hg BK395;have NB403_395:=nB hg BK395;replace HO_8:=aA.mk (Kd.R_below (Kd.R_elderB (rA HO_8) gb403 (Nat.le_of_eq hg.symm)) hb);replace BK395:=kB BK395 hb;replace HB:=lB hb;clear hb hbox hg;have hnb14:=NB403_395.out;have hnc14:=NB395_403.out;obtain ⟨hcz15_0,hcz15_1,hcz15_2,hfz15_0,hfz15_1,hfz15_2⟩:=cz3 BK403)|((with_reducible refine bY (b:=.append) (xs:=#[.tmp 28,.tmp 30]) rfl ?_);at_builtin;refine Kd.R_append k43 (w0:=w) w.heap.size rfl (.tmp 28) (.tmp 30) 38 43 (.agg #[(.int .i64 0),(.int .i64 0),(.int .i64 0)]) 24 rfl Tryz.underlying38 eE rfl (by decide) (by omega) u8 x8_1 (⟨t399,t400,t401⟩:S43) [.int .i64 t399,.int .i64 t400,.int .i64 t401] (fun k_=>k_≠gb395∧k_≠gb403) (fun _=>False) rfl (by first|(go_simp;done)|(go_simp;rfl)) ?aP (fun _ hk=>hk.elim) ?aF ?aO ?aB ?aS ?aL ?_;(case aP=>exact de _ _ _ (⟨t399,t400,t401⟩:S43));(case aB=>exact blA);(case aF=>exact (fun k_ hk=>⟨Kd.freshB (g:=gb395) (o:=.cells #[.int .i64 a1_0,.int .i64 a1_1,.int .i64 a1_2] 43 (0,0)) (bkF BK395) k_ hk,Kd.freshB (g:=gb403) (o:=.cells #[.int .i64 t399,.int .i64 t400,.int .i64 t401] 43 (0,0)) (bpA BK403) k_ hk⟩));(case aO=>exact (by (with_reducible repeat (first|apply Kd.R_alloc|apply Kd.R_drewN|apply Kd.R_drew));exact Kd.R_mono (Kd.R_far (p:=⟨gb403,2,none⟩) (Kd.R_far (p:=⟨gb403,1,none⟩) (Kd.R_far (p:=⟨gb403,0,none⟩) (Kd.R_mono HO_8.out (fun k_ hk=>(⟨hk,hk.2⟩:_∧k_≠gb403))) (fun _ hk=>hk.2) (.int .i64 t399)) (fun _ hk=>hk.2) (.int .i64 t400)) (fun _ hk=>hk.2) (.int .i64 t401)) (fun _ hk=>⟨hk.1.1,hk.1.2⟩)));(case aS=>exact (aQ blA));(case aL=>have:=LMc10.out;omega);intro v405 w16 ho hb hg hat;rw [← Ny404.out] at ho;have n0_:=aA.mk (bu (g:=gb395) (o:=.cells #[.int .i64 a1_0,.int .i64 a1_1,.int .i64 a1_2] 43 (0,0)) (bkF BK395) hg (Kd.R_away HO_8.out (fun _ hk=>hk.1)));have n1_:=aA.mk (bu (g:=gb403) (o:=.cells #[.int .i64 t399,.int .i64 t400,.int .i64 t401] 43 (0,0)) (bpA BK403) hg (Kd.R_away HO_8.out (fun _ hk=>hk.2)));have n2_:=aA.mk hb;have n3_:=aA.mk ho;clear BK395;clear BK403;clear HB;clear HO_8;have BK395:=n0_;have BK403:=n1_;have HB:=n2_;have HO406:=n3_;clear n0_ n1_ n2_ n3_;clear ho hb hg hat))
    ·
     go_roundg k1
     case measure=>have:=HK1.out;omega
     case rel=>exact ⟨(y404),(wrap64 (x9_1+1)),hB,H',⟨by have:=HK1.out;omega⟩,⟨by (with_reducible repeat (first|apply Kd.R_alloc|apply Kd.R_drewN|apply Kd.R_drew));exact Kd.R_mono HO406.out (fun _ hk=>hk.1)⟩,⟨bkA BK395⟩,⟨blA⟩⟩
    ·
     go_ret2
     exact ⟨_,eW,nlA,blA⟩
   ·
    rw [if_neg c7] at H
    have c7b0:=decide_eq_false c7
    clear c7
    simp only [Option.some.injEq,Prod.mk.injEq] at H
    obtain ⟨rfl,rfl⟩:=H
    go_wp2
    go_ret2
    exact ⟨_,eW,by (with_reducible repeat (first|apply Kd.R_alloc|apply Kd.R_drewN|apply Kd.R_drew));exact Kd.R_mono HO_8.out (fun _ hk=>trivial),blA⟩
def aV.j0:Nat→Int→Int→Int→Int→Int→Int→Int→Int→Int→Int→Option (Int × Int × Int × Bool)
 | 0,_,_,_,_,_,_,_,_,_,_=>none
 | k+1,x0,x475000,x475001,x475002,x475003,x476000,x476001,x476002,x482000,x482001=>(bj.f x475000 x475001 x475002 x475003).bind fun t484=>((aa.f k x0 t484).bind fun t485=>((aa.f k x0 x482001).bind fun t486=>((bx.f k x0 x482000 x482001 (wrap64 ((wrap64 ((wrap64 (t485+x476000))+12)) - (wrap64 (2*t486))))).bind fun bt487=>(some (bt487.1,bt487.2.1,bt487.2.2.1,bt487.2.2.2)))))
def aV.f (k:Nat) (a0 a1_0 a1_1 a1_2 a1_3 a2_0 a2_1 a2_2:Int):Option (Int × Int × Int × Bool):=(cJ.f k a0 a2_0 a2_1 a2_2).bind fun t477=>((ag.f k a0 6).bind fun t478=>((ag.f k a0 (wrap64 (a2_0+6))).bind fun t479=>((aa.f k a0 (wrap64 ((wrap64 (a1_2*t477))+(wrap64 (a1_3*t478))))).bind fun t482=>((aa.f k a0 (wrap64 (a1_2*t479))).bind fun t483=>(if t482>t483 then (aV.j0 k a0 a1_0 a1_1 a1_2 a1_3 a2_0 a2_1 a2_2 (wrap64 (a1_0*t479)) (wrap64 (a1_2*t479))) else (aV.j0 k a0 a1_0 a1_1 a1_2 a1_3 a2_0 a2_1 a2_2 (wrap64 ((wrap64 (a1_0*t477))+(wrap64 (a1_1*t478)))) (wrap64 ((wrap64 (a1_2*t477))+(wrap64 (a1_3*t478))))))))))
def aV.T1:Bool × List (List Nat × List Nat):=(true,[([],[]),([],[]),([0,1],[0,1]),([],[]),([3,2],[3]),([],[]),([],[]),([6],[6]),([7],[7]),([5,8,4],[5,8]),([2,9,0,1,2],[2]),([4,10,0,1,2,3,4,10],[4]),([9,11,0,1,2,3,4,5,6,7,8,9,10,11],[9])])
def aV.B1:List Nat:=[0,0,3,0,15,0,0,64,192,511,1023,2047,4095]
theorem aV.tab1:cZ .any (dL Tryz.f59 1)=aV.T1:=by kernel_rfl
theorem aV.bits1:bq aV.T1.2 aV.B1=true:=by kernel_rfl
def aV.T4:Bool × List (List Nat × List Nat):=(true,[([],[]),([],[]),([1],[1]),([0,2],[0,2]),([],[]),([],[]),([5],[5]),([4,6,3],[4,6]),([3,7],[3,7])])
def aV.B4:List Nat:=[0,0,2,7,0,0,32,127,255]
theorem aV.tab4:cZ .any (dL Tryz.f59 4)=aV.T4:=by kernel_rfl
theorem aV.bits4:bq aV.T4.2 aV.B4=true:=by kernel_rfl
def aV.T6:Bool × List (List Nat × List Nat):=(true,[([],[]),([],[]),([1],[1]),([0,2,2],[0,2]),([],[]),([4],[4]),([3,5],[3,5]),([6],[6]),([],[]),([],[]),([9],[9]),([8,10,3],[8,10]),([11],[11]),([7,12],[7,12]),([13,11,0,1,2,3,4,5,6,7,8,9,10,11,12,13],[13])])
def aV.B6:List Nat:=[0,0,2,7,0,16,63,127,0,0,512,1807,3855,8191,16383]
theorem aV.tab6:cZ .any (dL Tryz.f59 6)=aV.T6:=by kernel_rfl
theorem aV.bits6:bq aV.T6.2 aV.B6=true:=by kernel_rfl
set_option maxHeartbeats 8000000 in
set_option maxRecDepth 100000 in
theorem aV.calls (k:Nat) (a0 a1_0 a1_1 a1_2 a1_3 a2_0 a2_1 a2_2 r1 r2 r3:Int) (r4:Bool) (w:World) (h:aV.f k a0 a1_0 a1_1 a1_2 a1_3 a2_0 a2_1 a2_2=some (r1,r2,r3,r4)) :
  Calls Tryz.prog 59 #[.int .i64 a0,.agg #[.int .i64 a1_0,.int .i64 a1_1,.int .i64 a1_2,.int .i64 a1_3],.agg #[.int .i64 a2_0,.int .i64 a2_1,.int .i64 a2_2]] w fun e w'=>e=.returned (.tuple #[.agg #[.int .i64 r1,.int .i64 r2,.int .i64 r3],.bool r4])∧Below w.heap.size w w':=by
 have hu59:=Tryz.underlying59
 have hu43:=Tryz.underlying43
 have hu57:=Tryz.underlying57
 have HB:=aA.mk (Below.refl w.heap.size w)
 have H:=h
 unfold aV.f at H
 clear h
 replace H:=bS H
 obtain ⟨t477,A4,H⟩:=H
 try dsimp only at H
 replace H:=bS H
 obtain ⟨t478,A5,H⟩:=H
 try dsimp only at H
 replace H:=bS H
 obtain ⟨t479,A6,H⟩:=H
 try dsimp only at H
 replace H:=bS H
 obtain ⟨t482,A7,H⟩:=H
 try dsimp only at H
 replace H:=bS H
 obtain ⟨t483,A8,H⟩:=H
 try dsimp only at H
 have HC9:=aA.mk H
 clear H
 go_enter Tryz.func59,Tryz.ntmps59
 try go_wp2_with (first|((with_reducible refine aN (N:=4) rfl ?_);refine bxE (cs:=#[.int .i64 a1_0,.int .i64 a1_1,.int .i64 a1_2,.int .i64 a1_3]) (t:=59) ?_;intro gb474 hg w10 hbox hb;have n0_:=lB hb;have n1_:=aA.mk hbox;have n2_:=sA hg;have n3_:=sA hg;clear HB;have HB:=n0_;have BK474:=n1_;have GW474:=n2_;have GE474:=n3_;clear n0_ n1_ n2_ n3_;clear hb hbox hg)|((with_reducible refine aN (N:=5) rfl ?_);refine bxE (cs:=#[.int .i64 a2_0,.int .i64 a2_1,.int .i64 a2_2]) (t:=43) ?_;intro gb475 hg w11 hbox hb;have n0_:=kB BK474 hb;have n1_:=lB hb;have n2_:=aA.mk hbox;have n3_:=sA hg;have n4_:=sA hg;have n5_:=nA hg BK474;have n6_:=nB hg BK474;clear BK474;clear HB;have BK474:=n0_;have HB:=n1_;have BK475:=n2_;have GW475:=n3_;have GE475:=n4_;have NB474_475:=n5_;have NB475_474:=n6_;clear n0_ n1_ n2_ n3_ n4_ n5_ n6_;clear hb hbox hg)|((with_reducible refine aN (N:=6) rfl ?_);refine bxE (cs:=#[.int .i64 0,.int .i64 0,.int .i64 0]) (t:=43) ?_;intro gb476 hg w12 hbox hb;have n0_:=kB BK474 hb;have n1_:=kB BK475 hb;have n2_:=lB hb;have n3_:=aA.mk hbox;have n4_:=sA hg;have n5_:=sA hg;have n6_:=nA hg BK474;have n7_:=nB hg BK474;have n8_:=nA hg BK475;have n9_:=nB hg BK475;clear BK474;clear BK475;clear HB;have BK474:=n0_;have BK475:=n1_;have HB:=n2_;have BK476:=n3_;have GW476:=n4_;have GE476:=n5_;have NB474_476:=n6_;have NB476_474:=n7_;have NB475_476:=n8_;have NB476_475:=n9_;clear n0_ n1_ n2_ n3_ n4_ n5_ n6_ n7_ n8_ n9_;clear hb hbox hg))
 have n0_:=aA.mk (ac BK474.out)
 have n1_:=aA.mk (ac BK475.out)
 have n2_:=aA.mk (ac BK476.out)
 have n3_:=aA.mk (al HB.out)
 clear BK474
 clear BK475
 clear BK476
 clear HB
 have BK474:=n0_
 have BK475:=n1_
 have BK476:=n2_
 have HB:=n3_
 clear n0_ n1_ n2_ n3_
 refine b7 (n:=13) (S:=fun w'=>w'.cell? ⟨gb475,0,none⟩=some (.int .i64 a2_0)∧w'.cell? ⟨gb475,1,none⟩=some (.int .i64 a2_1)∧w'.cell? ⟨gb475,2,none⟩=some (.int .i64 a2_2)) (ds:=[]) #[Z,Z,Z,Z,Z,Z,Z,Z,Z,Z,Z,Z,Z] (by kernel_rfl) rfl rfl ⟨cA BK475 0,cA BK475 1,cA BK475 2⟩ (fun hHeld=>?_);refine bT aV.tab1 aV.bits1 (fun HT_ HW_=>?_)
 generalize w12.drew=w13 at BK474 BK475 BK476 HB hHeld ⊢
 refine puA (i:=0) (N:=some 14) #[Y,Z,Z,Z,Z,Z,Z,Z,Z,Z,Z,Z,Z] rfl rfl HT_ ?_
 refine puA (i:=3) (N:=some 17) #[Y,Z,Z,Y,Z,Z,Z,Z,Z,Z,Z,Z,Z] rfl rfl HT_ ?_
 refine puA (i:=5) (N:=some 19) #[Y,Z,Z,Y,Z,Y,Z,Z,Z,Z,Z,Z,Z] rfl rfl HT_ ?_
 refine puA (i:=6) (N:=some 20) #[Y,Z,Z,Y,Z,Y,Y,Z,Z,Z,Z,Z,Z] rfl rfl HT_ ?_
 refine taA (i:=1) (N:=some 15) #[Y,Y,Z,Y,Z,Y,Y,Z,Z,Z,Z,Z,Z] rfl rfl HT_ HW_ hHeld ?_
 refine taA (i:=7) (N:=some 21) #[Y,Y,Z,Y,Z,Y,Y,Y,Z,Z,Z,Z,Z] rfl rfl HT_ HW_ hHeld ?_
 refine puA (i:=8) (N:=some 22) #[Y,Y,Z,Y,Z,Y,Y,Y,Y,Z,Z,Z,Z] rfl rfl HT_ ?_
 refine cV (i:=2) (N:=some 16) #[Y,Y,Y,Y,Z,Y,Y,Y,Y,Z,Z,Z,Z] rfl rfl (bX HT_.out (by kernel_rfl)) (by decide) (fun K hK=>?_)
 refine goC Tryz.func86 (cJ.calls (w:=_) (h:=A4.out)) ?_
 intro w14 hb
 replace BK474:=kB BK474 hb
 replace BK475:=kB BK475 hb
 replace BK476:=kB BK476 hb
 replace HB:=lB hb
 (try clear hb)
 (try clear hb2)
 (try clear hk)
 (try clear hi)
 refine hK.out _ _ ⟨cA BK475 0,cA BK475 1,cA BK475 2⟩ (fun hHeld=>?_)
 clear hK K
 refine nmA ?_
 refine cV (i:=4) (N:=some 18) #[Y,Y,Y,Y,Y,Y,Y,Y,Y,Z,Z,Z,Z] rfl rfl (bX HT_.out (by kernel_rfl)) (by decide) (fun K hK=>?_)
 refine goC Tryz.func84 (ag.calls (w:=_) (h:=A5.out)) ?_
 rintro _ ⟨nd,rfl⟩
 refine hK.out _ _ ⟨cA BK475 0,cA BK475 1,cA BK475 2⟩ (fun hHeld=>?_)
 clear hK K
 refine nmA ?_
 refine cV (i:=9) (N:=some 23) #[Y,Y,Y,Y,Y,Y,Y,Y,Y,Y,Z,Z,Z] rfl rfl (bX HT_.out (by kernel_rfl)) (by decide) (fun K hK=>?_)
 refine goC Tryz.func84 (ag.calls (w:=_) (h:=A6.out)) ?_
 rintro _ ⟨nd,rfl⟩
 refine hK.out _ _ ⟨cA BK475 0,cA BK475 1,cA BK475 2⟩ (fun hHeld=>?_)
 clear hK K
 refine nmA ?_
 refine puA (i:=10) (N:=some 8) #[Y,Y,Y,Y,Y,Y,Y,Y,Y,Y,Y,Z,Z] rfl rfl HT_ ?_
 refine puA (i:=11) (N:=some 9) #[Y,Y,Y,Y,Y,Y,Y,Y,Y,Y,Y,Y,Z] rfl rfl HT_ ?_
 refine puA (i:=12) (N:=some 10) #[Y,Y,Y,Y,Y,Y,Y,Y,Y,Y,Y,Y,Y] rfl rfl HT_ ?_
 refine cg (br HT_.out (by kernel_rfl)) ?_
 have hnb15:=NB474_475.out
 have hnc15:=NB475_474.out
 have hnb16:=NB474_476.out
 have hnc16:=NB476_474.out
 obtain ⟨hcz17_0,hcz17_1,hcz17_2,hcz17_3,hfz17_0,hfz17_1,hfz17_2,hfz17_3⟩:=cz4 BK474
 try go_wp2_with (first|((with_reducible refine aN (N:=11) rfl ?_);refine bxE (cs:=#[.int .i64 0,.int .i64 0]) (t:=57) ?_;intro gb480 hg w18 hbox hb;have n0_:=kB BK474 hb;have n1_:=kB BK475 hb;have n2_:=kB BK476 hb;have n3_:=lB hb;have n4_:=aA.mk hbox;have n5_:=sA hg;have n6_:=sA hg;have n7_:=nA hg BK474;have n8_:=nB hg BK474;have n9_:=nA hg BK475;have n10_:=nB hg BK475;have n11_:=nA hg BK476;have n12_:=nB hg BK476;clear BK474;clear BK475;clear BK476;clear HB;have BK474:=n0_;have BK475:=n1_;have BK476:=n2_;have HB:=n3_;have BK480:=n4_;have GW480:=n5_;have GE480:=n6_;have NB474_480:=n7_;have NB480_474:=n8_;have NB475_480:=n9_;have NB480_475:=n10_;have NB476_480:=n11_;have NB480_476:=n12_;clear n0_ n1_ n2_ n3_ n4_ n5_ n6_ n7_ n8_ n9_ n10_ n11_ n12_;clear hb hbox hg;have hnb19:=NB480_474.out;have hnc19:=NB474_480.out;have hnb20:=NB480_475.out;have hnc20:=NB475_480.out;have hnb21:=NB480_476.out;have hnc21:=NB476_480.out;obtain ⟨hcz22_0,hcz22_1,hfz22_0,hfz22_1⟩:=cz2 BK480;obtain ⟨hcz23_0,hcz23_1,hcz23_2,hcz23_3,hfz23_0,hfz23_1,hfz23_2,hfz23_3⟩:=cz4 BK474)|((with_reducible refine aN (N:=12) rfl ?_);refine bxE (cs:=#[.int .i64 0,.int .i64 0]) (t:=57) ?_;intro gb481 hg w24 hbox hb;have n0_:=aA.mk (bL (g:=gb474) (o:=.cells #[.int .i64 a1_0,.int .i64 a1_1,.int .i64 a1_2,.int .i64 a1_3] 59 (0,0)) (bkF BK474) hb);have n1_:=aA.mk (bL (g:=gb475) (o:=.cells #[.int .i64 a2_0,.int .i64 a2_1,.int .i64 a2_2] 43 (0,0)) (bkF BK475) hb);have n2_:=aA.mk (bL (g:=gb476) (o:=.cells #[.int .i64 0,.int .i64 0,.int .i64 0] 43 (0,0)) (bkF BK476) hb);have n3_:=aA.mk (bL (g:=gb480) (o:=.cells #[.int .i64 (wrap64 (a1_0*t479)),.int .i64 (wrap64 (a1_2*t479))] 57 (0,0)) (bpA BK480) hb);have n4_:=lB hb;have n5_:=aA.mk hbox;have n6_:=sA hg;have n7_:=sA hg;have n8_:=aA.mk ((by rw [hg];exact Nat.ne_of_lt (cO (g:=gb474) (o:=.cells #[.int .i64 a1_0,.int .i64 a1_1,.int .i64 a1_2,.int .i64 a1_3] 59 (0,0)) (bkF BK474)):gb474≠gb481));have n9_:=aA.mk ((by rw [hg];exact Nat.ne_of_gt (cO (g:=gb474) (o:=.cells #[.int .i64 a1_0,.int .i64 a1_1,.int .i64 a1_2,.int .i64 a1_3] 59 (0,0)) (bkF BK474)):gb481≠gb474));have n10_:=aA.mk ((by rw [hg];exact Nat.ne_of_lt (cO (g:=gb475) (o:=.cells #[.int .i64 a2_0,.int .i64 a2_1,.int .i64 a2_2] 43 (0,0)) (bkF BK475)):gb475≠gb481));have n11_:=aA.mk ((by rw [hg];exact Nat.ne_of_gt (cO (g:=gb475) (o:=.cells #[.int .i64 a2_0,.int .i64 a2_1,.int .i64 a2_2] 43 (0,0)) (bkF BK475)):gb481≠gb475));have n12_:=aA.mk ((by rw [hg];exact Nat.ne_of_lt (cO (g:=gb476) (o:=.cells #[.int .i64 0,.int .i64 0,.int .i64 0] 43 (0,0)) (bkF BK476)):gb476≠gb481));have n13_:=aA.mk ((by rw [hg];exact Nat.ne_of_gt (cO (g:=gb476) (o:=.cells #[.int .i64 0,.int .i64 0,.int .i64 0] 43 (0,0)) (bkF BK476)):gb481≠gb476));have n14_:=aA.mk ((by rw [hg];exact Nat.ne_of_lt (cO (g:=gb480) (o:=.cells #[.int .i64 (wrap64 (a1_0*t479)),.int .i64 (wrap64 (a1_2*t479))] 57 (0,0)) (bpA BK480)):gb480≠gb481));have n15_:=aA.mk ((by rw [hg];exact Nat.ne_of_gt (cO (g:=gb480) (o:=.cells #[.int .i64 (wrap64 (a1_0*t479)),.int .i64 (wrap64 (a1_2*t479))] 57 (0,0)) (bpA BK480)):gb481≠gb480));clear BK474;clear BK475;clear BK476;clear BK480;clear HB;have BK474:=n0_;have BK475:=n1_;have BK476:=n2_;have BK480:=n3_;have HB:=n4_;have BK481:=n5_;have GW481:=n6_;have GE481:=n7_;have NB474_481:=n8_;have NB481_474:=n9_;have NB475_481:=n10_;have NB481_475:=n11_;have NB476_481:=n12_;have NB481_476:=n13_;have NB480_481:=n14_;have NB481_480:=n15_;clear n0_ n1_ n2_ n3_ n4_ n5_ n6_ n7_ n8_ n9_ n10_ n11_ n12_ n13_ n14_ n15_;clear hb hbox hg;have hnb25:=NB481_474.out;have hnc25:=NB474_481.out;have hnb26:=NB481_475.out;have hnc26:=NB475_481.out;have hnb27:=NB481_476.out;have hnc27:=NB476_481.out;have hnb28:=NB481_480.out;have hnc28:=NB480_481.out;obtain ⟨hcz29_0,hcz29_1,hfz29_0,hfz29_1⟩:=cz2 BK481))
 have n0_:aA (((w24.setCell ⟨gb481,0,none⟩ (.int .i64 (wrap64 ((wrap64 (a1_0*t477))+(wrap64 (a1_1*t478)))))).setCell ⟨gb481,1,none⟩ (.int .i64 (wrap64 ((wrap64 (a1_2*t477))+(wrap64 (a1_3*t478)))))).heap[gb474]?=some (.cells #[.int .i64 a1_0,.int .i64 a1_1,.int .i64 a1_2,.int .i64 a1_3] 59 (0,0))):=⟨bkF BK474⟩
 have n1_:aA (((w24.setCell ⟨gb481,0,none⟩ (.int .i64 (wrap64 ((wrap64 (a1_0*t477))+(wrap64 (a1_1*t478)))))).setCell ⟨gb481,1,none⟩ (.int .i64 (wrap64 ((wrap64 (a1_2*t477))+(wrap64 (a1_3*t478)))))).heap[gb475]?=some (.cells #[.int .i64 a2_0,.int .i64 a2_1,.int .i64 a2_2] 43 (0,0))):=⟨bkF BK475⟩
 have n2_:aA (((w24.setCell ⟨gb481,0,none⟩ (.int .i64 (wrap64 ((wrap64 (a1_0*t477))+(wrap64 (a1_1*t478)))))).setCell ⟨gb481,1,none⟩ (.int .i64 (wrap64 ((wrap64 (a1_2*t477))+(wrap64 (a1_3*t478)))))).heap[gb476]?=some (.cells #[.int .i64 0,.int .i64 0,.int .i64 0] 43 (0,0))):=⟨bkF BK476⟩
 have n3_:aA (((w24.setCell ⟨gb481,0,none⟩ (.int .i64 (wrap64 ((wrap64 (a1_0*t477))+(wrap64 (a1_1*t478)))))).setCell ⟨gb481,1,none⟩ (.int .i64 (wrap64 ((wrap64 (a1_2*t477))+(wrap64 (a1_3*t478)))))).heap[gb480]?=some (.cells #[.int .i64 (wrap64 (a1_0*t479)),.int .i64 (wrap64 (a1_2*t479))] 57 (0,0))):=⟨bkF BK480⟩
 have n4_:aA (((w24.setCell ⟨gb481,0,none⟩ (.int .i64 (wrap64 ((wrap64 (a1_0*t477))+(wrap64 (a1_1*t478)))))).setCell ⟨gb481,1,none⟩ (.int .i64 (wrap64 ((wrap64 (a1_2*t477))+(wrap64 (a1_3*t478)))))).heap[gb481]?=some (.cells #[.int .i64 (wrap64 ((wrap64 (a1_0*t477))+(wrap64 (a1_1*t478)))),.int .i64 (wrap64 ((wrap64 (a1_2*t477))+(wrap64 (a1_3*t478))))] 57 (0,0))):=⟨bpA BK481⟩
 have n5_:aA (Below w.heap.size w ((w24.setCell ⟨gb481,0,none⟩ (.int .i64 (wrap64 ((wrap64 (a1_0*t477))+(wrap64 (a1_1*t478)))))).setCell ⟨gb481,1,none⟩ (.int .i64 (wrap64 ((wrap64 (a1_2*t477))+(wrap64 (a1_3*t478))))))):=⟨blA⟩
 (try clear BK474)
 (try clear BK475)
 (try clear BK476)
 (try clear BK480)
 (try clear BK481)
 (try clear HB)
 generalize ((w24.setCell ⟨gb481,0,none⟩ (.int .i64 (wrap64 ((wrap64 (a1_0*t477))+(wrap64 (a1_1*t478)))))).setCell ⟨gb481,1,none⟩ (.int .i64 (wrap64 ((wrap64 (a1_2*t477))+(wrap64 (a1_3*t478))))))=w30 at n0_ n1_ n2_ n3_ n4_ n5_ ⊢
 have BK474:=n0_
 have BK475:=n1_
 have BK476:=n2_
 have BK480:=n3_
 have BK481:=n4_
 have HB:=n5_
 clear n0_ n1_ n2_ n3_ n4_ n5_
 have n0_:=aA.mk (ac BK474.out)
 have n1_:=aA.mk (ac BK475.out)
 have n2_:=aA.mk (ac BK476.out)
 have n3_:=aA.mk (ac BK480.out)
 have n4_:=aA.mk (ac BK481.out)
 have n5_:=aA.mk (al HB.out)
 clear BK474
 clear BK475
 clear BK476
 clear BK480
 clear BK481
 clear HB
 have BK474:=n0_
 have BK475:=n1_
 have BK476:=n2_
 have BK480:=n3_
 have BK481:=n4_
 have HB:=n5_
 clear n0_ n1_ n2_ n3_ n4_ n5_
 refine b7 (n:=9) (S:=fun w'=>w'.cell? ⟨gb481,0,none⟩=some (.int .i64 (wrap64 ((wrap64 (a1_0*t477))+(wrap64 (a1_1*t478)))))∧w'.cell? ⟨gb481,1,none⟩=some (.int .i64 (wrap64 ((wrap64 (a1_2*t477))+(wrap64 (a1_3*t478)))))∧w'.cell? ⟨gb480,0,none⟩=some (.int .i64 (wrap64 (a1_0*t479)))∧w'.cell? ⟨gb480,1,none⟩=some (.int .i64 (wrap64 (a1_2*t479)))) (ds:=[]) #[Z,Z,Z,Z,Z,Z,Z,Z,Z] (by kernel_rfl) rfl rfl ⟨cA BK481 0,cA BK481 1,cA BK480 0,cA BK480 1⟩ (fun hHeld=>?_);refine bT aV.tab4 aV.bits4 (fun HT_ HW_=>?_)
 generalize w30.drew=w31 at BK474 BK475 BK476 BK480 BK481 HB hHeld ⊢
 refine puA (i:=0) (N:=some 58) #[Y,Z,Z,Z,Z,Z,Z,Z,Z] rfl rfl HT_ ?_
 refine puA (i:=1) (N:=some 59) #[Y,Y,Z,Z,Z,Z,Z,Z,Z] rfl rfl HT_ ?_
 refine puA (i:=4) (N:=some 62) #[Y,Y,Z,Z,Y,Z,Z,Z,Z] rfl rfl HT_ ?_
 refine puA (i:=5) (N:=some 63) #[Y,Y,Z,Z,Y,Y,Z,Z,Z] rfl rfl HT_ ?_
 refine taA (i:=2) (N:=some 60) #[Y,Y,Y,Z,Y,Y,Z,Z,Z] rfl rfl HT_ HW_ hHeld ?_
 refine taA (i:=6) (N:=some 64) #[Y,Y,Y,Z,Y,Y,Y,Z,Z] rfl rfl HT_ HW_ hHeld ?_
 refine cV (i:=3) (N:=some 61) #[Y,Y,Y,Y,Y,Y,Y,Z,Z] rfl rfl (bX HT_.out (by kernel_rfl)) (by decide) (fun K hK=>?_)
 refine goC Tryz.func87 (aa.calls (w:=_) (h:=A7.out)) ?_
 rintro _ ⟨nd,rfl⟩
 refine hK.out _ _ ⟨cA BK481 0,cA BK481 1,cA BK480 0,cA BK480 1⟩ (fun hHeld=>?_)
 clear hK K
 refine nmA ?_
 refine cV (i:=7) (N:=some 65) #[Y,Y,Y,Y,Y,Y,Y,Y,Z] rfl rfl (bX HT_.out (by kernel_rfl)) (by decide) (fun K hK=>?_)
 refine goC Tryz.func87 (aa.calls (w:=_) (h:=A8.out)) ?_
 rintro _ ⟨nd,rfl⟩
 refine hK.out _ _ ⟨cA BK481 0,cA BK481 1,cA BK480 0,cA BK480 1⟩ (fun hHeld=>?_)
 clear hK K
 refine nmA ?_
 refine puA (i:=8) (N:=some 66) #[Y,Y,Y,Y,Y,Y,Y,Y,Y] rfl rfl HT_ ?_
 refine cg (br HT_.out (by kernel_rfl)) ?_
 go_upto_if 66 with (fail)
 go_cut [] (fun wc=>∃ (kq:Nat) (x482000_8:Int) (x482001_8:Int),aA (aV.j0 kq a0 a1_0 a1_1 a1_2 a1_3 a2_0 a2_1 a2_2 x482000_8 x482001_8=some (r1,r2,r3,r4))∧aA (kq≤k)∧aA (wc.heap[gb474]?=some (.cells #[.int .i64 a1_0,.int .i64 a1_1,.int .i64 a1_2,.int .i64 a1_3] 59 (0,0)))∧aA (wc.heap[gb475]?=some (.cells #[.int .i64 a2_0,.int .i64 a2_1,.int .i64 a2_2] 43 (0,0)))∧aA (wc.heap[gb476]?=some (.cells #[.int .i64 0,.int .i64 0,.int .i64 0] 43 (0,0)))∧aA (wc.heap[gb480]?=some (.cells #[.int .i64 (wrap64 (a1_0*t479)),.int .i64 (wrap64 (a1_2*t479))] 57 (0,0)))∧aA (wc.heap[gb481]?=some (.cells #[.int .i64 x482000_8,.int .i64 x482001_8] 57 (0,0)))∧aA (Below w.heap.size w wc))
 case first=>
  have H:=HC9.out
  clear HC9
  by_cases c32:t482>t483
  ·
   rw [if_pos c32] at H
   have c32b0:decide (t483<t482)=true:=decide_eq_true c32
   clear c32
   (first|rw [c32b0]|(simp only [dh,di];rw [c32b0])|skip)
   have H':=aA.mk H
   clear H
   have hnb33:=NB480_474.out
   have hnc33:=NB474_480.out
   have hnb34:=NB480_475.out
   have hnc34:=NB475_480.out
   have hnb35:=NB480_476.out
   have hnc35:=NB476_480.out
   have hnb36:=NB480_481.out
   have hnc36:=NB481_480.out
   obtain ⟨hcz37_0,hcz37_1,hfz37_0,hfz37_1⟩:=cz2 BK480
   have hnb38:=NB481_474.out
   have hnc38:=NB474_481.out
   have hnb39:=NB481_475.out
   have hnc39:=NB475_481.out
   have hnb40:=NB481_476.out
   have hnc40:=NB476_481.out
   have hcz41_0:w31.cell? ⟨gb481,0,none⟩=some (.int .i64 (wrap64 ((wrap64 (a1_0*t477))+(wrap64 (a1_1*t478))))):=cA BK481 0
   have hcz41_1:w31.cell? ⟨gb481,1,none⟩=some (.int .i64 (wrap64 ((wrap64 (a1_2*t477))+(wrap64 (a1_3*t478))))):=cA BK481 1
   have hfz41_0:=bH BK481.out 0
   have hfz41_1:=bH BK481.out 1
   go_wp2
   go_meet
   case rel=>exact ⟨_,(wrap64 (a1_0*t479)),(wrap64 (a1_2*t479)),H',⟨by first|omega|exact Nat.le_refl _⟩,⟨bkF BK474⟩,⟨bkF BK475⟩,⟨bkF BK476⟩,⟨bkF BK480⟩,⟨bpA BK481⟩,⟨blA⟩⟩
  ·
   rw [if_neg c32] at H
   have c32b0:decide (t483<t482)=false:=decide_eq_false c32
   clear c32
   (first|rw [c32b0]|(simp only [dh,di];rw [c32b0])|skip)
   have H':=aA.mk H
   clear H
   go_wp2
   go_meet
   case rel=>exact ⟨_,(wrap64 ((wrap64 (a1_0*t477))+(wrap64 (a1_1*t478)))),(wrap64 ((wrap64 (a1_2*t477))+(wrap64 (a1_3*t478)))),H',⟨by first|omega|exact Nat.le_refl _⟩,⟨bkA BK474⟩,⟨bkA BK475⟩,⟨bkA BK476⟩,⟨bkA BK480⟩,⟨bkA BK481⟩,⟨blA⟩⟩
 case rest=>
  clear HC9
  try clear c32
  try clear c32b0
  try clear hcz17_0
  try clear hcz17_1
  try clear hcz17_2
  try clear hcz17_3
  try clear hcz22_0
  try clear hcz22_1
  try clear hcz23_0
  try clear hcz23_1
  try clear hcz23_2
  try clear hcz23_3
  try clear hcz29_0
  try clear hcz29_1
  try clear hcz37_0
  try clear hcz37_1
  try clear hcz41_0
  try clear hcz41_1
  try clear hfz17_0
  try clear hfz17_1
  try clear hfz17_2
  try clear hfz17_3
  try clear hfz22_0
  try clear hfz22_1
  try clear hfz23_0
  try clear hfz23_1
  try clear hfz23_2
  try clear hfz23_3
  try clear hfz29_0
  try clear hfz29_1
  try clear hfz37_0
  try clear hfz37_1
  try clear hfz41_0
  try clear hfz41_1
  obtain ⟨kq,x482000_8,x482001_8,HA,HJ8,BK474,BK475,BK476,BK480,BK481,HB⟩:=hcut
  cases kq with
  | zero=>exact absurd HA.out (by simp [aV.j0])
  | succ kj8=>
   have H:=HA.out
   clear HA
   simp only [aV.j0] at H
   replace H:=bS H
   obtain ⟨t484,A42,H⟩:=H
   try dsimp only at H
   replace H:=bS H
   obtain ⟨t485,A43,H⟩:=H
   try dsimp only at H
   replace H:=bS H
   obtain ⟨t486,A44,H⟩:=H
   try dsimp only at H
   replace H:=bS H
   obtain ⟨⟨t487,t488,t489,t490⟩,A45,H⟩:=H
   try dsimp only at H
   simp only [Option.some.injEq,Prod.mk.injEq] at H
   obtain ⟨rfl,rfl,rfl,rfl⟩:=H
   try go_wp2
   have n0_:=aA.mk (ac BK474.out)
   have n1_:=aA.mk (ac BK475.out)
   have n2_:=aA.mk (ac BK476.out)
   have n3_:=aA.mk (ac BK480.out)
   have n4_:=aA.mk (ac BK481.out)
   have n5_:=aA.mk (al HB.out)
   clear BK474
   clear BK475
   clear BK476
   clear BK480
   clear BK481
   clear HB
   have BK474:=n0_
   have BK475:=n1_
   have BK476:=n2_
   have BK480:=n3_
   have BK481:=n4_
   have HB:=n5_
   clear n0_ n1_ n2_ n3_ n4_ n5_
   refine b7 (n:=15) (S:=fun w'=>w'.cell? ⟨gb474,0,none⟩=some (.int .i64 a1_0)∧w'.cell? ⟨gb474,1,none⟩=some (.int .i64 a1_1)∧w'.cell? ⟨gb474,2,none⟩=some (.int .i64 a1_2)∧w'.cell? ⟨gb474,3,none⟩=some (.int .i64 a1_3)∧w'.cell? ⟨gb475,0,none⟩=some (.int .i64 a2_0)∧w'.cell? ⟨gb475,1,none⟩=some (.int .i64 a2_1)∧w'.cell? ⟨gb475,2,none⟩=some (.int .i64 a2_2)∧w'.cell? ⟨gb481,0,none⟩=some (.int .i64 x482000_8)∧w'.cell? ⟨gb481,1,none⟩=some (.int .i64 x482001_8)) (ds:=[]) #[Z,Z,Z,Z,Z,Z,Z,Z,Z,Z,Z,Z,Z,Z,Z] (by kernel_rfl) rfl rfl ⟨cA BK474 0,cA BK474 1,cA BK474 2,cA BK474 3,cA BK475 0,cA BK475 1,cA BK475 2,cA BK481 0,cA BK481 1⟩ (fun hHeld=>?_);refine bT aV.tab6 aV.bits6 (fun HT_ HW_=>?_)
   generalize wc.drew=w46 at BK474 BK475 BK476 BK480 BK481 HB hHeld ⊢
   refine puA (i:=0) (N:=some 68) #[Y,Z,Z,Z,Z,Z,Z,Z,Z,Z,Z,Z,Z,Z,Z] rfl rfl HT_ ?_
   refine puA (i:=4) (N:=some 72) #[Y,Z,Z,Z,Y,Z,Z,Z,Z,Z,Z,Z,Z,Z,Z] rfl rfl HT_ ?_
   refine puA (i:=8) (N:=some 76) #[Y,Z,Z,Z,Y,Z,Z,Z,Y,Z,Z,Z,Z,Z,Z] rfl rfl HT_ ?_
   refine puA (i:=9) (N:=some 77) #[Y,Z,Z,Z,Y,Z,Z,Z,Y,Y,Z,Z,Z,Z,Z] rfl rfl HT_ ?_
   refine taA (i:=1) (N:=some 69) #[Y,Y,Z,Z,Y,Z,Z,Z,Y,Y,Z,Z,Z,Z,Z] rfl rfl HT_ HW_ hHeld ?_
   refine taA (i:=5) (N:=some 73) #[Y,Y,Z,Z,Y,Y,Z,Z,Y,Y,Z,Z,Z,Z,Z] rfl rfl HT_ HW_ hHeld ?_
   refine taA (i:=10) (N:=some 78) #[Y,Y,Z,Z,Y,Y,Z,Z,Y,Y,Y,Z,Z,Z,Z] rfl rfl HT_ HW_ hHeld ?_
   refine cV (i:=2) (N:=some 70) #[Y,Y,Y,Z,Y,Y,Z,Z,Y,Y,Y,Z,Z,Z,Z] rfl rfl (bX HT_.out (by kernel_rfl)) (by decide) (fun K hK=>?_)
   refine goC Tryz.func88 (bj.calls (w:=_) (h:=A42.out)) ?_
   intro w47 hb
   replace BK474:=kB BK474 hb
   replace BK475:=kB BK475 hb
   replace BK476:=kB BK476 hb
   replace BK480:=kB BK480 hb
   replace BK481:=kB BK481 hb
   replace HB:=lB hb
   (try clear hb)
   (try clear hb2)
   (try clear hk)
   (try clear hi)
   refine hK.out _ _ ⟨cA BK474 0,cA BK474 1,cA BK474 2,cA BK474 3,cA BK475 0,cA BK475 1,cA BK475 2,cA BK481 0,cA BK481 1⟩ (fun hHeld=>?_)
   clear hK K
   refine nmA ?_
   refine cV (i:=3) (N:=some 71) #[Y,Y,Y,Y,Y,Y,Z,Z,Y,Y,Y,Z,Z,Z,Z] rfl rfl (bX HT_.out (by kernel_rfl)) (by decide) (fun K hK=>?_)
   refine goC Tryz.func87 (aa.calls (w:=_) (h:=A43.out)) ?_
   rintro _ ⟨nd,rfl⟩
   refine hK.out _ _ ⟨cA BK474 0,cA BK474 1,cA BK474 2,cA BK474 3,cA BK475 0,cA BK475 1,cA BK475 2,cA BK481 0,cA BK481 1⟩ (fun hHeld=>?_)
   clear hK K
   refine nmA ?_
   refine puA (i:=6) (N:=some 74) #[Y,Y,Y,Y,Y,Y,Y,Z,Y,Y,Y,Z,Z,Z,Z] rfl rfl HT_ ?_
   refine puA (i:=7) (N:=some 75) #[Y,Y,Y,Y,Y,Y,Y,Y,Y,Y,Y,Z,Z,Z,Z] rfl rfl HT_ ?_
   refine cV (i:=11) (N:=some 79) #[Y,Y,Y,Y,Y,Y,Y,Y,Y,Y,Y,Y,Z,Z,Z] rfl rfl (bX HT_.out (by kernel_rfl)) (by decide) (fun K hK=>?_)
   refine goC Tryz.func87 (aa.calls (w:=_) (h:=A44.out)) ?_
   rintro _ ⟨nd,rfl⟩
   refine hK.out _ _ ⟨cA BK474 0,cA BK474 1,cA BK474 2,cA BK474 3,cA BK475 0,cA BK475 1,cA BK475 2,cA BK481 0,cA BK481 1⟩ (fun hHeld=>?_)
   clear hK K
   refine nmA ?_
   refine puA (i:=12) (N:=some 80) #[Y,Y,Y,Y,Y,Y,Y,Y,Y,Y,Y,Y,Y,Z,Z] rfl rfl HT_ ?_
   refine puA (i:=13) (N:=some 81) #[Y,Y,Y,Y,Y,Y,Y,Y,Y,Y,Y,Y,Y,Y,Z] rfl rfl HT_ ?_
   refine puA (i:=14) (N:=some 13) #[Y,Y,Y,Y,Y,Y,Y,Y,Y,Y,Y,Y,Y,Y,Y] rfl rfl HT_ ?_
   refine cg (br HT_.out (by kernel_rfl)) ?_
   have hnb48:=NB481_474.out
   have hnc48:=NB474_481.out
   have hnb49:=NB481_475.out
   have hnc49:=NB475_481.out
   have hnb50:=NB481_476.out
   have hnc50:=NB476_481.out
   have hnb51:=NB481_480.out
   have hnc51:=NB480_481.out
   obtain ⟨hcz52_0,hcz52_1,hfz52_0,hfz52_1⟩:=cz2 BK481
   try go_wp2_with (first|((with_reducible refine a6 (f:=89) rfl ?_);refine gL (some 88) rfl Tryz.func89 #[.int .i64 a0,.int .i64 x482000_8,.int .i64 x482001_8,.int .i64 (wrap64 ((wrap64 ((wrap64 (t485+a2_0))+12)) - (wrap64 (2*t486))))] ?_;(with_reducible refine (bx.calls kj8 a0 x482000_8 x482001_8 (wrap64 ((wrap64 ((wrap64 (t485+a2_0))+12)) - (wrap64 (2*t486)))) t487 t488 t489 t490 _ A45.out).mono ?_);rintro e w53 ⟨rfl,hb⟩;refine ⟨_,rfl,?_⟩;have n0_:=kB BK474 hb;have n1_:=kB BK475 hb;have n2_:=kB BK476 hb;have n3_:=kB BK480 hb;have n4_:=kB BK481 hb;have n5_:=lB hb;clear BK474;clear BK475;clear BK476;clear BK480;clear BK481;clear HB;have BK474:=n0_;have BK475:=n1_;have BK476:=n2_;have BK480:=n3_;have BK481:=n4_;have HB:=n5_;clear n0_ n1_ n2_ n3_ n4_ n5_;clear hb;have hnb54:=NB476_474.out;have hnc54:=NB474_476.out;have hnb55:=NB476_475.out;have hnc55:=NB475_476.out;have hnb56:=NB476_480.out;have hnc56:=NB480_476.out;obtain ⟨hcz57_0,hcz57_1,hcz57_2,hfz57_0,hfz57_1,hfz57_2⟩:=cz3 BK476))
   refine bodyPost_ret (bZ rfl _ _ gb476 43 #[.int .i64 t487,.int .i64 t488,.int .i64 t489] (0,0) _ rfl (bpA BK476) Tryz.underlying43 rfl (by kernel_rfl)) rfl ?_
   exact cE blA
end Go.Proofs.YtnhiehpbkimaeaaGreat.PAll
