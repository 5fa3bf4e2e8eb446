import Derived.Test.YtnhiehpbkimaeaaGreatQx
import Derived.Test.YtnhiehpbkimaeaaGreatQimplmoveBall
import Derived.Test.YtnhiehpbkimaeaaGreatQimplregionCode
namespace Go.Proofs.YtnhiehpbkimaeaaGreat.PAll
open Go.RowKit Go.Proofs.YtnhiehpbkimaeaaGreatW.PrintWords Go.Proofs.YtnhiehpbkimaeaaGreatW.PrintLast Go.Proofs.YtnhiehpbkimaeaaGreatW.PrintMore
attribute [local go_sem] Go.Proofs.YtnhiehpbkimaeaaGreat.Aux.setCell_drewN Go.Proofs.YtnhiehpbkimaeaaGreat.Aux.isSome_setCell cC b9 cQ cP bm bl cB b8
set_option linter.unusedVariables false
set_option linter.unusedSimpArgs false
mutual
def aY.l0:Nat→Int→List (List (S43))→Int→Int→Int→Int→Int→Option ((List (List (S43))) × Bool)
 | 0,_,_,_,_,_,_,_=>none
 | k+1,x0,x8,x20,x21,x408000,x408001,x408002=>if x21<x20 then (if 0≤x21 then (if x21<(x8.length:Int) then (aY.l1 k x0 x8 x21 (([]:List (S43))) x20 x21 (ax x8 x21) ((ax x8 x21).length:Int) 0 x408000 x408001 x408002) else (none)) else (none)) else (some (x8,true))
def aY.l1:Nat→Int→List (List (S43))→Int→List (S43)→Int→Int→List (S43)→Int→Int→Int→Int→Int→Option ((List (List (S43))) × Bool)
 | 0,_,_,_,_,_,_,_,_,_,_,_,_=>none
 | k+1,x0,x8,x9,x10,x20,x21,x28,x29,x30,x408000,x408001,x408002=>if x30<x29 then (if 0≤x30 then (if x30<(x28.length:Int) then ((ae.f k x0 ((aD x28 x30).f0) ((aD x28 x30).f1) ((aD x28 x30).f2) 0).bind fun bt423=>(if bt423.2=true then (aY.l2 k x0 x8 x9 x10 x20 x21 x28 x29 x30 bt423.1 (bt423.1.length:Int) 0 x408000 x408001 x408002) else (some (([]:List (List (S43))),false)))) else (none)) else (none)) else (if x8.length<5864062014805 then (aY.l0 k x0 (x8 ++ [x10]) x20 (wrap64 (x21+1)) x408000 x408001 x408002) else (none))
def aY.l2:Nat→Int→List (List (S43))→Int→List (S43)→Int→Int→List (S43)→Int→Int→List (S43)→Int→Int→Int→Int→Int→Option ((List (List (S43))) × Bool)
 | 0,_,_,_,_,_,_,_,_,_,_,_,_,_,_,_=>none
 | k+1,x0,x8,x9,x10,x20,x21,x28,x29,x30,x42,x43,x44,x408000,x408001,x408002=>if x44<x43 then (if 0≤x44 then (if x44<(x42.length:Int) then ((bG.f k x0 x408000 x408001 x408002 ((aD x42 x44).f0) ((aD x42 x44).f1) ((aD x42 x44).f2)).bind fun t429=>(if t429>x9 then (if x10.length<5864062014805 then (aY.l2 k x0 x8 x9 (x10 ++ [(⟨(aD x42 x44).f0,(aD x42 x44).f1,(aD x42 x44).f2⟩:S43)]) x20 x21 x28 x29 x30 x42 x43 (wrap64 (x44+1)) x408000 x408001 x408002) else (none)) else (aY.l2 k x0 x8 x9 x10 x20 x21 x28 x29 x30 x42 x43 (wrap64 (x44+1)) x408000 x408001 x408002))) else (none)) else (none)) else (aY.l1 k x0 x8 x9 x10 x20 x21 x28 x29 (wrap64 (x30+1)) x408000 x408001 x408002)
end
def aY.f (k:Nat) (a0 a1_0 a1_1 a1_2 a2:Int):Option ((List (List (S43))) × Bool):=aY.l0 k a0 (([(([(⟨a1_0,a1_1,a1_2⟩:S43)]:List (S43)))]:List (List (S43)))) a2 0 a1_0 a1_1 a1_2
set_option maxHeartbeats 8000000 in
set_option maxRecDepth 100000 in
theorem aY.calls (k:Nat) (a0 a1_0 a1_1 a1_2 a2:Int) (r1:List (List (S43))) (r2:Bool) (w:World) (h:aY.f k a0 a1_0 a1_1 a1_2 a2=some (r1,r2)) :
  Calls Tryz.prog 71 #[.int .i64 a0,.agg #[.int .i64 a1_0,.int .i64 a1_1,.int .i64 a1_2],.int .i64 a2] w fun e w'=>∃ v0_:Value,e=.returned (.tuple #[v0_,.bool r2])∧Kd.N (Kd.slice 43 k43) 38 w' w.heap.size (fun k_=>(w.heap.size≤k_)) v0_ r1∧Below w.heap.size w w':=by
 have hu43:=Tryz.underlying43
 have HB:=aA.mk (Below.refl w.heap.size w)
 have H:=h
 unfold aY.f at H
 clear h
 obtain ⟨y408,hy408⟩:∃ y_:List (S43),y_=(([(⟨a1_0,a1_1,a1_2⟩:S43)]:List (S43))):=⟨_,rfl⟩
 replace H:(aY.l0 k a0 (([y408]:List (List (S43)))) a2 0 a1_0 a1_1 a1_2)=some (r1,r2):=rH hy408 H
 have Ny408:=aA.mk hy408
 clear hy408
 obtain ⟨y411,hy411⟩:∃ y_:List (List (S43)),y_=(([y408]:List (List (S43)))):=⟨_,rfl⟩
 replace H:(aY.l0 k a0 y411 a2 0 a1_0 a1_1 a1_2)=some (r1,r2):=rH hy411 H
 have Ny411:=aA.mk hy411
 clear hy411
 have H':=aA.mk H
 clear H
 go_enter Tryz.func71,Tryz.ntmps71
 go_wp2_with (first|((with_reducible refine aN (N:=4) rfl ?_);refine bxE (cs:=#[.int .i64 a1_0,.int .i64 a1_1,.int .i64 a1_2]) (t:=43) ?_;intro gb407 hg w4 hbox hb;have BK407:=aA.mk hbox;have GW407:=sA hg;have GE407:=sA hg;replace HB:=lB hb;clear hb hbox hg;obtain ⟨hcz5_0,hcz5_1,hcz5_2,hfz5_0,hfz5_1,hfz5_2⟩:=cz3 BK407)|((with_reducible refine aN (N:=18) rfl ?_);refine Kd.R_lit k43 _ 43 ?hg (N:=18) ?hd (xs:=([(⟨a1_0,a1_1,a1_2⟩:S43)]:List (S43))) (inner:=[.int .i64 a1_0,.int .i64 a1_1,.int .i64 a1_2]) (ok:=fun _=>True) (okp:=fun _=>True) ?hr ?hp (fun _ hk=>hk) trivial (Below.refl _ _) (Nat.le_refl _) (by simp) ?_;(case hd=>rfl);(case hg=>rfl);(case hr=>first|(go_simp;done)|(go_simp;rfl));(case hp=>exact (bD.c3 (show Kd.M k43 _ _ _ (⟨a1_0,a1_1,a1_2⟩:S43) [.int .i64 a1_0,.int .i64 a1_1,.int .i64 a1_2] from (de _ _ _ (⟨a1_0,a1_1,a1_2⟩:S43) )) (bD.none _ _)));intro v409 w6 ho7 hb hg_ hnew_;clear hg_ hnew_;(first|rw [← Ny408.out] at ho7|(simp only [Int.reduceToNat] at ho7;rw [← Ny408.out] at ho7));have HO410:=aA.mk (Kd.R_lower (Kd.R_newB (Kd.R_newM (M:=fun k_=>(w.heap.size≤k_)) ho7 (aQ blA) (fun k_ h_=>h_)) (bkA BK407)) (aQ blA));replace BK407:=kB BK407 hb;replace HB:=lB hb;clear hb ho7;obtain ⟨Ao8,co8,eo8⟩:=Kd.R_slice HO410.out;subst eo8)|((with_reducible refine aN (N:=19) rfl ?_);refine Kd.N_lit (Kd.slice 43 k43) _ 38 ?hg (N':=19) ?hd (xs:=([y408]:List (List (S43)))) (inner:=[.slice Ao8 y408.length co8]) (ok:=(fun k_=>(w.heap.size≤k_)∧k_≠gb407)) (okp:=(fun k_=>(w.heap.size≤k_)∧k_≠gb407)) ?hr ?hp (fun _ hk=>hk) ((show ∀ k_,w6.heap.size≤k_→(fun k_=>(w.heap.size≤k_)∧k_≠gb407) k_ from fun k_ hk=>⟨(Nat.le_trans (aQ blA) hk),Kd.freshB (bkA BK407) k_ hk⟩) _ (Nat.le_refl _)) (Below.refl _ _) (Nat.le_refl _) (by simp) ?_;(case hd=>rfl);(case hg=>rfl);(case hr=>first|(go_simp;done)|(go_simp;rfl));(case hp=>exact (bD.one (show Kd.FK (Kd.slice 43 k43) _ _ y408 [.slice Ao8 y408.length co8] from (Kd.FK_slice_mk (Kd.R_reads' (Kd.R_mono (ok':=(fun k_=>(w.heap.size≤k_)∧k_≠gb407)) (HO410.out) (fun k_ hk=>⟨hk.1.1,hk.2⟩))).2.1 (Kd.R_F (Kd.R_mono (ok':=(fun k_=>(w.heap.size≤k_)∧k_≠gb407)) (HO410.out) (fun k_ hk=>⟨hk.1.1,hk.2⟩))))) (bD.none _ _)));intro v412 w9 ho10 hb hg_ hnew_;clear hg_ hnew_;(first|rw [← Ny411.out] at ho10|(simp only [Int.reduceToNat] at ho10;rw [← Ny411.out] at ho10));have HO413:=aA.mk (Kd.N_lower ho10 (aQ blA));replace BK407:=kB BK407 hb;replace HB:=lB hb;clear HO410;clear hb ho10))
 go_loopg [8,21] k (fun kq v8 v21 w'=>∃ (x8_1:List (List (S43))) (x21_1:Int),v21=.int .i64 x21_1∧aA (aY.l0 kq a0 x8_1 a2 x21_1 a1_0 a1_1 a1_2=some (r1,r2))∧aA (kq≤k)∧aA (Kd.N (Kd.slice 43 k43) 38 w' w.heap.size (fun k_=>(w.heap.size≤k_)∧k_≠gb407) v8 x8_1)∧aA (w'.heap[gb407]?=some (.cells #[.int .i64 a1_0,.int .i64 a1_1,.int .i64 a1_2] 43 (0,0)))∧aA (Below w.heap.size w w'))
 case atStart=>exact ⟨(y411),(0),hB,H',⟨Nat.le_refl _⟩,⟨rN HO413⟩,⟨bkA BK407⟩,⟨blA⟩⟩
 case round=>
  clear H'
  try clear c3
  try clear hcz5_0
  try clear hcz5_1
  try clear hcz5_2
  try clear hfz5_0
  try clear hfz5_1
  try clear hfz5_2
  obtain ⟨x8_1,x21_1,rfl,HA,HK1,HO_8,BK407,HB⟩:=hrel
  cases gk with
  | zero=>exact absurd HA.out (by simp [aY.l0])
  | succ k1=>
   have H:=HA.out
   clear HA
   simp only [aY.l0] at H
   by_cases c11:x21_1<a2
   ·
    rw [if_pos c11] at H
    have c11b0:=decide_eq_true c11
    clear c11
    obtain ⟨y414,hy414⟩:∃ y_:List (S43),y_=(([]:List (S43))):=⟨_,rfl⟩
    replace H:(if 0≤x21_1 then (if x21_1<(x8_1.length:Int) then (aY.l1 k1 a0 x8_1 x21_1 y414 a2 x21_1 (ax x8_1 x21_1) ((ax x8_1 x21_1).length:Int) 0 a1_0 a1_1 a1_2) else (none)) else (none))=some (r1,r2):=rH hy414 H
    have Ny414:=aA.mk hy414
    clear hy414
    by_cases c12:0≤x21_1
    rotate_left
    ·
     rw [if_neg c12] at H
     exact absurd H (by simp)
    rw [if_pos c12] at H
    have c12b0:=decide_eq_true c12
    clear c12
    by_cases c13:x21_1<(x8_1.length:Int)
    rotate_left
    ·
     rw [if_neg c13] at H
     exact absurd H (by simp)
    rw [if_pos c13] at H
    have c13b0:=decide_eq_true c13
    clear c13
    have H':=aA.mk H
    clear H
    go_wp2_with (first|((with_reducible refine aN (N:=24) rfl ?_);refine Kd.R_lit k43 _ 43 ?hg (N:=24) ?hd (xs:=([]:List (S43))) (inner:=[]) (ok:=fun _=>True) (okp:=fun _=>True) ?hr ?hp (fun _ hk=>hk) trivial (Below.refl _ _) (Nat.le_refl _) (by simp) ?_;(case hd=>rfl);(case hg=>rfl);(case hr=>first|(go_simp;done)|(go_simp;rfl));(case hp=>exact (bD.none _ _));intro v415 w14 ho15 hb hg_ hnew_;clear hg_ hnew_;(first|rw [← Ny414.out] at ho15|(simp only [Int.reduceToNat] at ho15;rw [← Ny414.out] at ho15));have HO416:=aA.mk (Kd.R_lower (Kd.R_newB (Kd.R_newM (M:=fun k_=>(w.heap.size≤k_)) ho15 (aQ blA) (fun k_ h_=>h_)) (bkA BK407)) (aQ blA));replace HO_8:=aA.mk (Kd.N_elder' (rN HO_8) (Kd.R_base ho15) hb);replace BK407:=kB BK407 hb;replace HB:=lB hb;clear hb ho15;obtain ⟨Ao16,co16,eo16⟩:=Kd.N_slice HO_8.out;subst eo16;have p417:0≤(x21_1:Int):=dA;have q417:x21_1<(x8_1.length:Int):=dA;obtain ⟨ad417,A417_0,c417_0,e417,hx417_0,hl417_0,hi417_0⟩:=at_L8 (Kd.N_reads' HO_8.out).2.2 x21_1 p417 q417;cases e417;obtain ⟨ce417,hce417,hMe417,hcc417⟩:=Kd.N_get HO_8.out [] x21_1 p417 (by first|exact q417|exact dA|(have e_:=(Kd.N_reads' HO_8.out).1;omega));obtain ⟨ua417_0,uc417_0,rfl,ul417_0,ge417_0⟩:=Kd.FK_slice_open hMe417;have hv417_0:=hcc417 0 _ rfl;rw [Nat.add_zero,show ((Kd.slice 43 k43)).sz=1 from rfl,Nat.mul_one] at hv417_0;replace hv417_0:=Option.some.inj (hv417_0.symm.trans hx417_0);injection hv417_0 with hva_ hvn_ hvc_;rw [hva_] at ge417_0;rw [hvc_] at ul417_0;have HL417_0:=aA.mk (show Kd.V k43 43 _ w.heap.size _ _ (ax x8_1 x21_1) from Kd.V_mk ul417_0 ge417_0);clear hva_ hvn_ hvc_ ge417_0 ul417_0;clear hcc417 hce417;have HR417_0:=aA.mk hi417_0;have HC417_0:=aA.mk hl417_0;clear hi417_0 hl417_0;replace p417:=eq_true p417;replace q417:=eq_true q417))
    go_loopg [10,30] k1 (fun kq v10 v30 w'=>∃ (x10_2:List (S43)) (x30_2:Int),v30=.int .i64 x30_2∧aA (aY.l1 kq a0 x8_1 x21_1 x10_2 a2 x21_1 (ax x8_1 x21_1) ((ax x8_1 x21_1).length:Int) x30_2 a1_0 a1_1 a1_2=some (r1,r2))∧aA (kq≤k1)∧aA (Kd.N (Kd.slice 43 k43) 38 w' w.heap.size (fun k_=>(w.heap.size≤k_)∧some k_≠(v10:Value).ownBlock∧k_≠gb407) (.slice (some ad417) x8_1.length co16) x8_1)∧aA (Kd.R k43 43 w' w.heap.size (fun k_=>(w.heap.size≤k_)∧k_≠gb407) v10 x10_2)∧aA (Kd.V k43 43 w' w.heap.size (fun k_=>(w.heap.size≤k_)∧some k_≠((.slice (some ad417) x8_1.length co16):Value).ownBlock∧some k_≠(v10:Value).ownBlock∧k_≠gb407) (.slice A417_0 (ax x8_1 x21_1).length c417_0) (ax x8_1 x21_1))∧aA (w'.heap[gb407]?=some (.cells #[.int .i64 a1_0,.int .i64 a1_1,.int .i64 a1_2] 43 (0,0)))∧aA (Below w.heap.size w w'))
    case atStart=>exact ⟨(y414),(0),hB,H',⟨Nat.le_refl _⟩,⟨by (with_reducible repeat (first|apply Kd.N_alloc|apply Kd.N_drewN|apply Kd.N_drew));exact Kd.N_mono HO_8.out (fun _ hk=>⟨hk.1.1,⟨hk.2,hk.1.2⟩⟩)⟩,⟨by (with_reducible repeat (first|apply Kd.R_alloc|apply Kd.R_drewN|apply Kd.R_drew));exact Kd.R_mono HO416.out (fun _ hk=>⟨hk.1.1,hk.2⟩)⟩,⟨by (with_reducible repeat (first|apply Kd.V_alloc|apply Kd.V_drewN|apply Kd.V_drew));exact Kd.V_mono HL417_0.out (fun _ hk=>⟨hk.1.1.1,⟨hk.2,⟨hk.1.2,hk.1.1.2⟩⟩⟩)⟩,⟨bkA BK407⟩,⟨blA⟩⟩
    case round=>
     clear H'
     try clear c3
     try clear c11
     try clear c11b0
     try clear c12
     try clear c12b0
     try clear c13
     try clear c13b0
     try clear hcz5_0
     try clear hcz5_1
     try clear hcz5_2
     try clear hfz5_0
     try clear hfz5_1
     try clear hfz5_2
     try clear hx417_0
     try clear p417
     try clear q417
     obtain ⟨x10_2,x30_2,rfl,HA,HK2,HO_8,HO_10,HO_28,BK407,HB⟩:=hrel
     cases gk with
     | zero=>exact absurd HA.out (by simp [aY.l1])
     | succ k2=>
      have H:=HA.out
      clear HA
      simp only [aY.l1] at H
      by_cases c17:x30_2<((ax x8_1 x21_1).length:Int)
      ·
       rw [if_pos c17] at H
       have c17b0:=decide_eq_true c17
       clear c17
       by_cases c18:0≤x30_2
       rotate_left
       ·
        rw [if_neg c18] at H
        exact absurd H (by simp)
       rw [if_pos c18] at H
       have c18b0:=decide_eq_true c18
       clear c18
       by_cases c19:x30_2<((ax x8_1 x21_1).length:Int)
       rotate_left
       ·
        rw [if_neg c19] at H
        exact absurd H (by simp)
       rw [if_pos c19] at H
       have c19b0:=decide_eq_true c19
       clear c19
       replace H:=bS H
       obtain ⟨⟨t423,t426⟩,A20,H⟩:=H
       try dsimp only at H
       by_cases c21:t426=true
       ·
        subst c21
        rw [if_pos rfl] at H
        try dsimp only at H
        have H':=aA.mk H
        clear H
        have p421:0≤(x30_2:Int):=dA
        have q421:x30_2<((ax x8_1 x21_1).length:Int):=dA
        obtain ⟨ad421,e421,hx421_0,hx421_1,hx421_2⟩:=cu (Kd.V_reads' HO_28.out).2.2 x30_2 p421 q421
        cases e421
        replace p421:=eq_true p421
        replace q421:=eq_true q421
        go_wp2_with (first|((with_reducible refine aN (N:=12) rfl ?_);refine bxE (cs:=#[.int .i64 0,.int .i64 0,.int .i64 0]) (t:=43) ?_;intro gb422 hg w22 hbox hb;have BK422:=aA.mk hbox;have GW422:=sA hg;have GE422:=sA hg;have NB407_422:=nA hg BK407;have NB422_407:=nB hg BK407;replace HO_8:=aA.mk (Kd.N_below (Kd.N_elderB (rN HO_8) gb422 (Nat.le_of_eq hg.symm)) hb);replace HO_10:=aA.mk (Kd.R_below (Kd.R_elderB (rA HO_10) gb422 (Nat.le_of_eq hg.symm)) hb);replace HO_28:=aA.mk (Kd.V_below (Kd.V_elderB (rV HO_28) gb422 (Nat.le_of_eq hg.symm)) hb);replace BK407:=kB BK407 hb;replace HB:=lB hb;clear hb hbox hg;have hnb23:=NB422_407.out;have hnc23:=NB407_422.out;obtain ⟨hcz24_0,hcz24_1,hcz24_2,hfz24_0,hfz24_1,hfz24_2⟩:=cz3 BK422)|((with_reducible refine a6 (f:=98) rfl ?_);refine gL (some 37) rfl Tryz.func98 #[.int .i64 a0,.agg #[.int .i64 ((aD (ax x8_1 x21_1) x30_2).f0),.int .i64 ((aD (ax x8_1 x21_1) x30_2).f1),.int .i64 ((aD (ax x8_1 x21_1) x30_2).f2)],.int .i64 0] ?_;(with_reducible refine (ae.calls k2 a0 ((aD (ax x8_1 x21_1) x30_2).f0) ((aD (ax x8_1 x21_1) x30_2).f1) ((aD (ax x8_1 x21_1) x30_2).f2) 0 t423 true _ A20.out).mono ?_);rintro e w25 ⟨v424,rfl,ho0,hb⟩;refine ⟨_,rfl,?_⟩;have n0_:=aA.mk (Kd.N_elder' (by (with_reducible repeat (first|apply Kd.N_alloc|apply Kd.N_drewN|apply Kd.N_drew));exact (Kd.N_mono (Kd.N_far (p:=⟨gb422,2,none⟩) (Kd.N_far (p:=⟨gb422,1,none⟩) (Kd.N_far (p:=⟨gb422,0,none⟩) (Kd.N_mono HO_8.out (fun k_ hk=>(⟨hk,hk.2⟩:_∧k_≠gb422))) (fun _ hk=>hk.2) (.int .i64 ((aD (ax x8_1 x21_1) x30_2).f0))) (fun _ hk=>hk.2) (.int .i64 ((aD (ax x8_1 x21_1) x30_2).f1))) (fun _ hk=>hk.2) (.int .i64 ((aD (ax x8_1 x21_1) x30_2).f2))) (fun _ h_=>h_.1))) (Kd.R_base ho0) hb);have n1_:=aA.mk (Kd.R_elder' (by (with_reducible repeat (first|apply Kd.R_alloc|apply Kd.R_drewN|apply Kd.R_drew));exact (Kd.R_mono (Kd.R_far (p:=⟨gb422,2,none⟩) (Kd.R_far (p:=⟨gb422,1,none⟩) (Kd.R_far (p:=⟨gb422,0,none⟩) (Kd.R_mono HO_10.out (fun k_ hk=>(⟨hk,hk.2⟩:_∧k_≠gb422))) (fun _ hk=>hk.2) (.int .i64 ((aD (ax x8_1 x21_1) x30_2).f0))) (fun _ hk=>hk.2) (.int .i64 ((aD (ax x8_1 x21_1) x30_2).f1))) (fun _ hk=>hk.2) (.int .i64 ((aD (ax x8_1 x21_1) x30_2).f2))) (fun _ h_=>h_.1))) (Kd.R_base ho0) hb);have n2_:=aA.mk (Kd.V_elder' (by (with_reducible repeat (first|apply Kd.V_alloc|apply Kd.V_drewN|apply Kd.V_drew));exact (Kd.V_mono (Kd.V_far (p:=⟨gb422,2,none⟩) (Kd.V_far (p:=⟨gb422,1,none⟩) (Kd.V_far (p:=⟨gb422,0,none⟩) (Kd.V_mono HO_28.out (fun k_ hk=>(⟨hk,hk.2⟩:_∧k_≠gb422))) (fun _ hk=>hk.2) (.int .i64 ((aD (ax x8_1 x21_1) x30_2).f0))) (fun _ hk=>hk.2) (.int .i64 ((aD (ax x8_1 x21_1) x30_2).f1))) (fun _ hk=>hk.2) (.int .i64 ((aD (ax x8_1 x21_1) x30_2).f2))) (fun _ h_=>h_.1))) (Kd.R_base ho0) hb);have n3_:=aA.mk (Kd.R_lower (Kd.R_newB (Kd.R_newB (Kd.R_new' (Kd.R_newM (M:=fun k_=>(w.heap.size≤k_)) ho0 (aQ blA) (fun k_ h_=>h_)) (Kd.R_lt (by (with_reducible repeat (first|apply Kd.R_alloc|apply Kd.R_drewN|apply Kd.R_drew));exact (Kd.R_mono (Kd.R_far (p:=⟨gb422,2,none⟩) (Kd.R_far (p:=⟨gb422,1,none⟩) (Kd.R_far (p:=⟨gb422,0,none⟩) (Kd.R_mono HO_10.out (fun k_ hk=>(⟨hk,hk.2⟩:_∧k_≠gb422))) (fun _ hk=>hk.2) (.int .i64 ((aD (ax x8_1 x21_1) x30_2).f0))) (fun _ hk=>hk.2) (.int .i64 ((aD (ax x8_1 x21_1) x30_2).f1))) (fun _ hk=>hk.2) (.int .i64 ((aD (ax x8_1 x21_1) x30_2).f2))) (fun _ h_=>h_.1))))) (g:=gb407) (o:=.cells #[.int .i64 a1_0,.int .i64 a1_1,.int .i64 a1_2] 43 (0,0)) (bkF BK407)) (g:=gb422) (o:=.cells #[.int .i64 ((aD (ax x8_1 x21_1) x30_2).f0),.int .i64 ((aD (ax x8_1 x21_1) x30_2).f1),.int .i64 ((aD (ax x8_1 x21_1) x30_2).f2)] 43 (0,0)) (bpA BK422)) (aQ blA));have n4_:=aA.mk (bL (g:=gb407) (o:=.cells #[.int .i64 a1_0,.int .i64 a1_1,.int .i64 a1_2] 43 (0,0)) (bkF BK407) hb);have n5_:=aA.mk (bL (g:=gb422) (o:=.cells #[.int .i64 ((aD (ax x8_1 x21_1) x30_2).f0),.int .i64 ((aD (ax x8_1 x21_1) x30_2).f1),.int .i64 ((aD (ax x8_1 x21_1) x30_2).f2)] 43 (0,0)) (bpA BK422) hb);have n6_:=lB hb;clear HO_8;clear HO_10;clear HO_28;clear BK407;clear BK422;clear HB;have HO_8:=n0_;have HO_10:=n1_;have HO_28:=n2_;have HO425:=n3_;have BK407:=n4_;have BK422:=n5_;have HB:=n6_;clear n0_ n1_ n2_ n3_ n4_ n5_ n6_;clear ho0 hb;obtain ⟨Ao26,co26,eo26⟩:=Kd.R_slice HO425.out;subst eo26))
        go_loopg [10,44] k2 (fun kq v10 v44 w'=>∃ (x10_3:List (S43)) (x44_3:Int),v44=.int .i64 x44_3∧aA (aY.l2 kq a0 x8_1 x21_1 x10_3 a2 x21_1 (ax x8_1 x21_1) ((ax x8_1 x21_1).length:Int) x30_2 t423 (t423.length:Int) x44_3 a1_0 a1_1 a1_2=some (r1,r2))∧aA (kq≤k2)∧aA (Kd.N (Kd.slice 43 k43) 38 w' w.heap.size (fun k_=>(w.heap.size≤k_)∧some k_≠(v10:Value).ownBlock∧some k_≠((.slice Ao26 t423.length co26):Value).ownBlock∧k_≠gb407∧k_≠gb422) (.slice (some ad417) x8_1.length co16) x8_1)∧aA (Kd.R k43 43 w' w.heap.size (fun k_=>(w.heap.size≤k_)∧some k_≠((.slice Ao26 t423.length co26):Value).ownBlock∧k_≠gb407∧k_≠gb422) v10 x10_3)∧aA (Kd.V k43 43 w' w.heap.size (fun k_=>(w.heap.size≤k_)∧some k_≠((.slice (some ad417) x8_1.length co16):Value).ownBlock∧some k_≠(v10:Value).ownBlock∧some k_≠((.slice Ao26 t423.length co26):Value).ownBlock∧k_≠gb407∧k_≠gb422) (.slice (some ad421) (ax x8_1 x21_1).length c417_0) (ax x8_1 x21_1))∧aA (Kd.R k43 43 w' w.heap.size (fun k_=>(w.heap.size≤k_)∧some k_≠(v10:Value).ownBlock∧k_≠gb407∧k_≠gb422) (.slice Ao26 t423.length co26) t423)∧aA (w'.heap[gb407]?=some (.cells #[.int .i64 a1_0,.int .i64 a1_1,.int .i64 a1_2] 43 (0,0)))∧aA (w'.heap[gb422]?=some (.cells #[.int .i64 ((aD (ax x8_1 x21_1) x30_2).f0),.int .i64 ((aD (ax x8_1 x21_1) x30_2).f1),.int .i64 ((aD (ax x8_1 x21_1) x30_2).f2)] 43 (0,0)))∧aA (Below w.heap.size w w'))
        case atStart=>exact ⟨(x10_2),(0),hB,H',⟨Nat.le_refl _⟩,⟨by (with_reducible repeat (first|apply Kd.N_alloc|apply Kd.N_drewN|apply Kd.N_drew));exact Kd.N_mono HO_8.out (fun _ hk=>⟨hk.1.1.1,⟨hk.1.1.2.1,⟨hk.2,⟨hk.1.1.2.2,hk.1.2⟩⟩⟩⟩)⟩,⟨by (with_reducible repeat (first|apply Kd.R_alloc|apply Kd.R_drewN|apply Kd.R_drew));exact Kd.R_mono HO_10.out (fun _ hk=>⟨hk.1.1.1,⟨hk.2,⟨hk.1.1.2,hk.1.2⟩⟩⟩)⟩,⟨by (with_reducible repeat (first|apply Kd.V_alloc|apply Kd.V_drewN|apply Kd.V_drew));exact Kd.V_mono HO_28.out (fun _ hk=>⟨hk.1.1.1,⟨hk.1.1.2.1,⟨hk.1.1.2.2.1,⟨hk.2,⟨hk.1.1.2.2.2,hk.1.2⟩⟩⟩⟩⟩)⟩,⟨by (with_reducible repeat (first|apply Kd.R_alloc|apply Kd.R_drewN|apply Kd.R_drew));exact Kd.R_mono HO425.out (fun _ hk=>⟨hk.1.1.1.1,⟨hk.1.1.2,⟨hk.1.2,hk.2⟩⟩⟩)⟩,⟨bkA BK407⟩,⟨bkA BK422⟩,⟨blA⟩⟩
        case round=>
         clear H'
         try clear c3
         try clear c11
         try clear c11b0
         try clear c12
         try clear c12b0
         try clear c13
         try clear c13b0
         try clear c17
         try clear c17b0
         try clear c18
         try clear c18b0
         try clear c19
         try clear c19b0
         try clear c21
         try clear hcz24_0
         try clear hcz24_1
         try clear hcz24_2
         try clear hcz5_0
         try clear hcz5_1
         try clear hcz5_2
         try clear hfz24_0
         try clear hfz24_1
         try clear hfz24_2
         try clear hfz5_0
         try clear hfz5_1
         try clear hfz5_2
         try clear hx417_0
         try clear hx421_0
         try clear hx421_1
         try clear hx421_2
         try clear p417
         try clear p421
         try clear q417
         try clear q421
         obtain ⟨x10_3,x44_3,rfl,HA,HK3,HO_8,HO_10,HO_28,HO_42,BK407,BK422,HB⟩:=hrel
         cases gk with
         | zero=>exact absurd HA.out (by simp [aY.l2])
         | succ k3=>
          have H:=HA.out
          clear HA
          simp only [aY.l2] at H
          by_cases c27:x44_3<(t423.length:Int)
          ·
           rw [if_pos c27] at H
           have c27b0:=decide_eq_true c27
           clear c27
           by_cases c28:0≤x44_3
           rotate_left
           ·
            rw [if_neg c28] at H
            exact absurd H (by simp)
           rw [if_pos c28] at H
           have c28b0:=decide_eq_true c28
           clear c28
           by_cases c29:x44_3<(t423.length:Int)
           rotate_left
           ·
            rw [if_neg c29] at H
            exact absurd H (by simp)
           rw [if_pos c29] at H
           have c29b0:=decide_eq_true c29
           clear c29
           replace H:=bS H
           obtain ⟨t429,A30,H⟩:=H
           try dsimp only at H
           by_cases c31:t429>x21_1
           focus
            rw [if_pos c31] at H
            have c31b0:decide (x21_1<t429)=true:=decide_eq_true c31
            clear c31
            by_cases c32:x10_3.length<5864062014805
            rotate_left
            ·
             rw [if_neg c32] at H
             exact absurd H (by simp)
            rw [if_pos c32] at H
            have LMc32:=aA.mk c32
            clear c32
            obtain ⟨y430,hy430⟩:∃ y_:List (S43),y_=(x10_3 ++ [(⟨(aD t423 x44_3).f0,(aD t423 x44_3).f1,(aD t423 x44_3).f2⟩:S43)]):=⟨_,rfl⟩
            replace H:(aY.l2 k3 a0 x8_1 x21_1 y430 a2 x21_1 (ax x8_1 x21_1) ((ax x8_1 x21_1).length:Int) x30_2 t423 (t423.length:Int) (wrap64 (x44_3+1)) a1_0 a1_1 a1_2)=some (r1,r2):=rH hy430 H
            have Ny430:=aA.mk hy430
            clear hy430
            have H':=aA.mk H
            clear H
            have p427:0≤(x44_3:Int):=dA
            have q427:x44_3<(t423.length:Int):=dA
            obtain ⟨ad427,e427,hx427_0,hx427_1,hx427_2⟩:=cu (Kd.R_reads' HO_42.out).2.2 x44_3 p427 q427
            cases e427
            replace p427:=eq_true p427
            replace q427:=eq_true q427
           rotate_left
           focus
            rw [if_neg c31] at H
            have c31b0:decide (x21_1<t429)=false:=decide_eq_false c31
            clear c31
            have H':=aA.mk H
            clear H
            have p427:0≤(x44_3:Int):=dA
            have q427:x44_3<(t423.length:Int):=dA
            obtain ⟨ad427,e427,hx427_0,hx427_1,hx427_2⟩:=cu (Kd.R_reads' HO_42.out).2.2 x44_3 p427 q427
            cases e427
            replace p427:=eq_true p427
            replace q427:=eq_true q427
           rotate_left
           all_goals
            go_wp2_with (first|((with_reducible refine aN (N:=16) rfl ?_);refine bxE (cs:=#[.int .i64 0,.int .i64 0,.int .i64 0]) (t:=43) ?_;intro gb428 hg w33 hbox hb;have BK428:=aA.mk hbox;have GW428:=sA hg;have GE428:=sA hg;have NB407_428:=nA hg BK407;have NB428_407:=nB hg BK407;have NB422_428:=nA hg BK422;have NB428_422:=nB hg BK422;replace HO_8:=aA.mk (Kd.N_below (Kd.N_elderB (rN HO_8) gb428 (Nat.le_of_eq hg.symm)) hb);replace HO_10:=aA.mk (Kd.R_below (Kd.R_elderB (rA HO_10) gb428 (Nat.le_of_eq hg.symm)) hb);replace HO_28:=aA.mk (Kd.V_below (Kd.V_elderB (rV HO_28) gb428 (Nat.le_of_eq hg.symm)) hb);replace HO_42:=aA.mk (Kd.R_below (Kd.R_elderB (rA HO_42) gb428 (Nat.le_of_eq hg.symm)) hb);replace BK407:=kB BK407 hb;replace BK422:=kB BK422 hb;replace HB:=lB hb;clear hb hbox hg;have hnb34:=NB428_407.out;have hnc34:=NB407_428.out;have hnb35:=NB428_422.out;have hnc35:=NB422_428.out;obtain ⟨hcz36_0,hcz36_1,hcz36_2,hfz36_0,hfz36_1,hfz36_2⟩:=cz3 BK428;have hnb37:=NB407_422.out;have hnc37:=NB422_407.out;obtain ⟨hcz38_0,hcz38_1,hcz38_2,hfz38_0,hfz38_1,hfz38_2⟩:=cz3 BK407)|((with_reducible refine gd 51 rfl ?_);refine gC (some 51) rfl Tryz.func35 (bG.calls (w:=_) (h:=A30.out)) ?_;intro w39 hb;have n0_:=aA.mk (Kd.N_below (by (with_reducible repeat (first|apply Kd.N_alloc|apply Kd.N_drewN|apply Kd.N_drew));exact (Kd.N_mono (Kd.N_far (p:=⟨gb428,2,none⟩) (Kd.N_far (p:=⟨gb428,1,none⟩) (Kd.N_far (p:=⟨gb428,0,none⟩) (Kd.N_mono HO_8.out (fun k_ hk=>(⟨hk,hk.2⟩:_∧k_≠gb428))) (fun _ hk=>hk.2) (.int .i64 ((aD t423 x44_3).f0))) (fun _ hk=>hk.2) (.int .i64 ((aD t423 x44_3).f1))) (fun _ hk=>hk.2) (.int .i64 ((aD t423 x44_3).f2))) (fun _ h_=>h_.1))) hb);have n1_:=aA.mk (Kd.R_below (by (with_reducible repeat (first|apply Kd.R_alloc|apply Kd.R_drewN|apply Kd.R_drew));exact (Kd.R_mono (Kd.R_far (p:=⟨gb428,2,none⟩) (Kd.R_far (p:=⟨gb428,1,none⟩) (Kd.R_far (p:=⟨gb428,0,none⟩) (Kd.R_mono HO_10.out (fun k_ hk=>(⟨hk,hk.2⟩:_∧k_≠gb428))) (fun _ hk=>hk.2) (.int .i64 ((aD t423 x44_3).f0))) (fun _ hk=>hk.2) (.int .i64 ((aD t423 x44_3).f1))) (fun _ hk=>hk.2) (.int .i64 ((aD t423 x44_3).f2))) (fun _ h_=>h_.1))) hb);have n2_:=aA.mk (Kd.V_below (by (with_reducible repeat (first|apply Kd.V_alloc|apply Kd.V_drewN|apply Kd.V_drew));exact (Kd.V_mono (Kd.V_far (p:=⟨gb428,2,none⟩) (Kd.V_far (p:=⟨gb428,1,none⟩) (Kd.V_far (p:=⟨gb428,0,none⟩) (Kd.V_mono HO_28.out (fun k_ hk=>(⟨hk,hk.2⟩:_∧k_≠gb428))) (fun _ hk=>hk.2) (.int .i64 ((aD t423 x44_3).f0))) (fun _ hk=>hk.2) (.int .i64 ((aD t423 x44_3).f1))) (fun _ hk=>hk.2) (.int .i64 ((aD t423 x44_3).f2))) (fun _ h_=>h_.1))) hb);have n3_:=aA.mk (Kd.R_below (by (with_reducible repeat (first|apply Kd.R_alloc|apply Kd.R_drewN|apply Kd.R_drew));exact (Kd.R_mono (Kd.R_far (p:=⟨gb428,2,none⟩) (Kd.R_far (p:=⟨gb428,1,none⟩) (Kd.R_far (p:=⟨gb428,0,none⟩) (Kd.R_mono HO_42.out (fun k_ hk=>(⟨hk,hk.2⟩:_∧k_≠gb428))) (fun _ hk=>hk.2) (.int .i64 ((aD t423 x44_3).f0))) (fun _ hk=>hk.2) (.int .i64 ((aD t423 x44_3).f1))) (fun _ hk=>hk.2) (.int .i64 ((aD t423 x44_3).f2))) (fun _ h_=>h_.1))) hb);have n4_:=aA.mk (bL (g:=gb407) (o:=.cells #[.int .i64 a1_0,.int .i64 a1_1,.int .i64 a1_2] 43 (0,0)) (bkF BK407) hb);have n5_:=aA.mk (bL (g:=gb422) (o:=.cells #[.int .i64 ((aD (ax x8_1 x21_1) x30_2).f0),.int .i64 ((aD (ax x8_1 x21_1) x30_2).f1),.int .i64 ((aD (ax x8_1 x21_1) x30_2).f2)] 43 (0,0)) (bkF BK422) hb);have n6_:=aA.mk (bL (g:=gb428) (o:=.cells #[.int .i64 ((aD t423 x44_3).f0),.int .i64 ((aD t423 x44_3).f1),.int .i64 ((aD t423 x44_3).f2)] 43 (0,0)) (bpA BK428) hb);have n7_:=lB hb;clear HO_8;clear HO_10;clear HO_28;clear HO_42;clear BK407;clear BK422;clear BK428;clear HB;have HO_8:=n0_;have HO_10:=n1_;have HO_28:=n2_;have HO_42:=n3_;have BK407:=n4_;have BK422:=n5_;have BK428:=n6_;have HB:=n7_;clear n0_ n1_ n2_ n3_ n4_ n5_ n6_ n7_;clear hb;obtain ⟨hcz40_0,hcz40_1,hcz40_2,hfz40_0,hfz40_1,hfz40_2⟩:=cz3 BK428)|((with_reducible refine bY (b:=.append) (xs:=#[.tmp 54,.tmp 56]) rfl ?_);at_builtin;refine Kd.R_append k43 (w0:=w) w.heap.size rfl (.tmp 54) (.tmp 56) 38 43 (.agg #[(.int .i64 0),(.int .i64 0),(.int .i64 0)]) 24 rfl Tryz.underlying38 eE rfl (by decide) (by omega) u10 x10_3 (⟨(aD t423 x44_3).f0,(aD t423 x44_3).f1,(aD t423 x44_3).f2⟩:S43) [.int .i64 ((aD t423 x44_3).f0),.int .i64 ((aD t423 x44_3).f1),.int .i64 ((aD t423 x44_3).f2)] (fun k_=>(w.heap.size≤k_)∧some k_≠(.slice (some ad427) t423.length co26:Value).ownBlock∧k_≠gb407∧k_≠gb422∧k_≠gb428) (fun _=>False) rfl rfl ?aP (fun _ hk=>hk.elim) ?aF ?aO ?aB ?aS ?aL ?_;(case aP=>exact de _ _ _ (⟨(aD t423 x44_3).f0,(aD t423 x44_3).f1,(aD t423 x44_3).f2⟩:S43));(case aB=>exact blA);(case aF=>exact (fun k_ hk=>⟨(Nat.le_trans (aQ blA) hk),Kd.fresh' (Kd.R_lt (rA HO_42)) k_ hk,Kd.freshB (bkA BK407) k_ hk,Kd.freshB (bkA BK422) k_ hk,Kd.freshB (bkA BK428) k_ hk⟩));(case aO=>exact (by (with_reducible repeat (first|apply Kd.R_alloc|apply Kd.R_drewN|apply Kd.R_drew));exact Kd.R_mono HO_10.out (fun _ hk=>⟨hk.1.1,⟨hk.1.2.1,⟨hk.1.2.2.1,⟨hk.1.2.2.2,hk.2⟩⟩⟩⟩)));(case aS=>exact (aQ blA));(case aL=>have:=LMc32.out;omega);intro v431 w41 ho hb hg hat;rw [← Ny430.out] at ho;have HO432:=aA.mk ho;replace HO_8:=aA.mk (Kd.N_afterv (ok:=(fun k_=>(w.heap.size≤k_)∧some k_≠(.slice (some ad427) t423.length co26:Value).ownBlock∧k_≠gb407∧k_≠gb422∧k_≠gb428)) (by (with_reducible repeat (first|apply Kd.N_alloc|apply Kd.N_drewN|apply Kd.N_drew));exact Kd.N_mono HO_8.out (fun _ hk=>⟨⟨hk.1.1,⟨hk.1.2.2.1,⟨hk.1.2.2.2.1,⟨hk.1.2.2.2.2,hk.2⟩⟩⟩⟩,hk.1.2.1⟩)) hg hat);replace HO_28:=aA.mk (Kd.V_afterv (ok:=(fun k_=>(w.heap.size≤k_)∧some k_≠(.slice (some ad417) x8_1.length co16:Value).ownBlock∧some k_≠(.slice (some ad427) t423.length co26:Value).ownBlock∧k_≠gb407∧k_≠gb422∧k_≠gb428)) (by (with_reducible repeat (first|apply Kd.V_alloc|apply Kd.V_drewN|apply Kd.V_drew));exact Kd.V_mono HO_28.out (fun _ hk=>⟨⟨hk.1.1,⟨hk.1.2.1,⟨hk.1.2.2.2.1,⟨hk.1.2.2.2.2.1,⟨hk.1.2.2.2.2.2,hk.2⟩⟩⟩⟩⟩,hk.1.2.2.1⟩)) hg hat);replace HO_42:=aA.mk (Kd.R_after (ok:=(fun k_=>(w.heap.size≤k_)∧k_≠gb407∧k_≠gb422∧k_≠gb428)) (by (with_reducible repeat (first|apply Kd.R_alloc|apply Kd.R_drewN|apply Kd.R_drew));exact Kd.R_mono HO_42.out (fun _ hk=>⟨⟨hk.1.1,⟨hk.1.2.2.1,⟨hk.1.2.2.2,hk.2⟩⟩⟩,hk.1.2.1⟩)) hg hat);replace BK407:=aA.mk (bu (bkA BK407) hg (Kd.R_away HO_10.out (fun _ hk=>hk.1.2.2.1)));replace BK422:=aA.mk (bu (bkA BK422) hg (Kd.R_away HO_10.out (fun _ hk=>hk.1.2.2.2)));replace BK428:=aA.mk (bu (bkA BK428) hg (Kd.R_away HO_10.out (fun _ hk=>hk.2)));replace HB:=aA.mk hb;clear HO_10;clear ho hb hg hat))
           ·
            go_roundg k3
            case measure=>have:=HK1.out;have:=HK2.out;have:=HK3.out;omega
            case rel=>exact ⟨(y430),(wrap64 (x44_3+1)),hB,H',⟨by have:=HK1.out;have:=HK2.out;have:=HK3.out;omega⟩,⟨by (with_reducible repeat (first|apply Kd.N_alloc|apply Kd.N_drewN|apply Kd.N_drew));exact Kd.N_mono HO_8.out (fun _ hk=>⟨hk.1.1,⟨hk.2,⟨hk.1.2.1,⟨hk.1.2.2.1,hk.1.2.2.2.1⟩⟩⟩⟩)⟩,⟨by (with_reducible repeat (first|apply Kd.R_alloc|apply Kd.R_drewN|apply Kd.R_drew));exact Kd.R_mono HO432.out (fun _ hk=>⟨hk.1,⟨hk.2.1,⟨hk.2.2.1,hk.2.2.2.1⟩⟩⟩)⟩,⟨by (with_reducible repeat (first|apply Kd.V_alloc|apply Kd.V_drewN|apply Kd.V_drew));exact Kd.V_mono HO_28.out (fun _ hk=>⟨hk.1.1,⟨hk.1.2.1,⟨hk.2,⟨hk.1.2.2.1,⟨hk.1.2.2.2.1,hk.1.2.2.2.2.1⟩⟩⟩⟩⟩)⟩,⟨by (with_reducible repeat (first|apply Kd.R_alloc|apply Kd.R_drewN|apply Kd.R_drew));exact Kd.R_mono HO_42.out (fun _ hk=>⟨hk.1.1,⟨hk.2,⟨hk.1.2.1,hk.1.2.2.1⟩⟩⟩)⟩,⟨bkA BK407⟩,⟨bkA BK422⟩,⟨blA⟩⟩
           ·
            go_roundg k3
            case measure=>have:=HK1.out;have:=HK2.out;have:=HK3.out;omega
            case rel=>exact ⟨(x10_3),(wrap64 (x44_3+1)),hB,H',⟨by have:=HK1.out;have:=HK2.out;have:=HK3.out;omega⟩,⟨by (with_reducible repeat (first|apply Kd.N_alloc|apply Kd.N_drewN|apply Kd.N_drew));exact Kd.N_mono HO_8.out (fun _ hk=>⟨hk.1.1,⟨hk.1.2.1,⟨hk.1.2.2.1,⟨hk.1.2.2.2.1,hk.1.2.2.2.2⟩⟩⟩⟩)⟩,⟨by (with_reducible repeat (first|apply Kd.R_alloc|apply Kd.R_drewN|apply Kd.R_drew));exact Kd.R_mono HO_10.out (fun _ hk=>⟨hk.1.1,⟨hk.1.2.1,⟨hk.1.2.2.1,hk.1.2.2.2⟩⟩⟩)⟩,⟨by (with_reducible repeat (first|apply Kd.V_alloc|apply Kd.V_drewN|apply Kd.V_drew));exact Kd.V_mono HO_28.out (fun _ hk=>⟨hk.1.1,⟨hk.1.2.1,⟨hk.1.2.2.1,⟨hk.1.2.2.2.1,⟨hk.1.2.2.2.2.1,hk.1.2.2.2.2.2⟩⟩⟩⟩⟩)⟩,⟨by (with_reducible repeat (first|apply Kd.R_alloc|apply Kd.R_drewN|apply Kd.R_drew));exact Kd.R_mono HO_42.out (fun _ hk=>⟨hk.1.1,⟨hk.1.2.1,⟨hk.1.2.2.1,hk.1.2.2.2⟩⟩⟩)⟩,⟨bkA BK407⟩,⟨bkA BK422⟩,⟨blA⟩⟩
          ·
           rw [if_neg c27] at H
           have c27b0:=decide_eq_false c27
           clear c27
           have H':=aA.mk H
           clear H
           go_wp2
           go_roundg k3
           case measure=>have:=HK1.out;have:=HK2.out;have:=HK3.out;omega
           case rel=>exact ⟨(x10_3),(wrap64 (x30_2+1)),hB,H',⟨by have:=HK1.out;have:=HK2.out;have:=HK3.out;omega⟩,⟨by (with_reducible repeat (first|apply Kd.N_alloc|apply Kd.N_drewN|apply Kd.N_drew));exact Kd.N_mono HO_8.out (fun _ hk=>⟨hk.1,⟨hk.2.1,hk.2.2.2.1⟩⟩)⟩,⟨by (with_reducible repeat (first|apply Kd.R_alloc|apply Kd.R_drewN|apply Kd.R_drew));exact Kd.R_mono HO_10.out (fun _ hk=>⟨hk.1,hk.2.2.1⟩)⟩,⟨by (with_reducible repeat (first|apply Kd.V_alloc|apply Kd.V_drewN|apply Kd.V_drew));exact Kd.V_mono HO_28.out (fun _ hk=>⟨hk.1,⟨hk.2.1,⟨hk.2.2.1,hk.2.2.2.2.1⟩⟩⟩)⟩,⟨bkA BK407⟩,⟨blA⟩⟩
       ·
        replace c21:=Bool.eq_false_iff.mpr c21
        subst c21
        rw [if_neg (show ¬ (false=true) by decide)] at H
        try dsimp only at H
        simp only [Option.some.injEq,Prod.mk.injEq] at H
        obtain ⟨rfl,rfl⟩:=H
        have p421:0≤(x30_2:Int):=dA
        have q421:x30_2<((ax x8_1 x21_1).length:Int):=dA
        obtain ⟨ad421,e421,hx421_0,hx421_1,hx421_2⟩:=cu (Kd.V_reads' HO_28.out).2.2 x30_2 p421 q421
        cases e421
        replace p421:=eq_true p421
        replace q421:=eq_true q421
        go_wp2_with (first|((with_reducible refine aN (N:=12) rfl ?_);refine bxE (cs:=#[.int .i64 0,.int .i64 0,.int .i64 0]) (t:=43) ?_;intro gb422 hg w49 hbox hb;have BK422:=aA.mk hbox;have GW422:=sA hg;have GE422:=sA hg;have NB407_422:=nA hg BK407;have NB422_407:=nB hg BK407;replace HO_8:=aA.mk (Kd.N_below (Kd.N_elderB (rN HO_8) gb422 (Nat.le_of_eq hg.symm)) hb);replace HO_10:=aA.mk (Kd.R_below (Kd.R_elderB (rA HO_10) gb422 (Nat.le_of_eq hg.symm)) hb);replace HO_28:=aA.mk (Kd.V_below (Kd.V_elderB (rV HO_28) gb422 (Nat.le_of_eq hg.symm)) hb);replace BK407:=kB BK407 hb;replace HB:=lB hb;clear hb hbox hg;have hnb50:=NB422_407.out;have hnc50:=NB407_422.out;obtain ⟨hcz51_0,hcz51_1,hcz51_2,hfz51_0,hfz51_1,hfz51_2⟩:=cz3 BK422)|((with_reducible refine a6 (f:=98) rfl ?_);refine gL (some 37) rfl Tryz.func98 #[.int .i64 a0,.agg #[.int .i64 ((aD (ax x8_1 x21_1) x30_2).f0),.int .i64 ((aD (ax x8_1 x21_1) x30_2).f1),.int .i64 ((aD (ax x8_1 x21_1) x30_2).f2)],.int .i64 0] ?_;(with_reducible refine (ae.calls k2 a0 ((aD (ax x8_1 x21_1) x30_2).f0) ((aD (ax x8_1 x21_1) x30_2).f1) ((aD (ax x8_1 x21_1) x30_2).f2) 0 t423 false _ A20.out).mono ?_);rintro e w52 ⟨v424,rfl,ho0,hb⟩;refine ⟨_,rfl,?_⟩;have n0_:=aA.mk (Kd.N_elder' (by (with_reducible repeat (first|apply Kd.N_alloc|apply Kd.N_drewN|apply Kd.N_drew));exact (Kd.N_mono (Kd.N_far (p:=⟨gb422,2,none⟩) (Kd.N_far (p:=⟨gb422,1,none⟩) (Kd.N_far (p:=⟨gb422,0,none⟩) (Kd.N_mono HO_8.out (fun k_ hk=>(⟨hk,hk.2⟩:_∧k_≠gb422))) (fun _ hk=>hk.2) (.int .i64 ((aD (ax x8_1 x21_1) x30_2).f0))) (fun _ hk=>hk.2) (.int .i64 ((aD (ax x8_1 x21_1) x30_2).f1))) (fun _ hk=>hk.2) (.int .i64 ((aD (ax x8_1 x21_1) x30_2).f2))) (fun _ h_=>h_.1))) (Kd.R_base ho0) hb);have n1_:=aA.mk (Kd.R_elder' (by (with_reducible repeat (first|apply Kd.R_alloc|apply Kd.R_drewN|apply Kd.R_drew));exact (Kd.R_mono (Kd.R_far (p:=⟨gb422,2,none⟩) (Kd.R_far (p:=⟨gb422,1,none⟩) (Kd.R_far (p:=⟨gb422,0,none⟩) (Kd.R_mono HO_10.out (fun k_ hk=>(⟨hk,hk.2⟩:_∧k_≠gb422))) (fun _ hk=>hk.2) (.int .i64 ((aD (ax x8_1 x21_1) x30_2).f0))) (fun _ hk=>hk.2) (.int .i64 ((aD (ax x8_1 x21_1) x30_2).f1))) (fun _ hk=>hk.2) (.int .i64 ((aD (ax x8_1 x21_1) x30_2).f2))) (fun _ h_=>h_.1))) (Kd.R_base ho0) hb);have n2_:=aA.mk (Kd.V_elder' (by (with_reducible repeat (first|apply Kd.V_alloc|apply Kd.V_drewN|apply Kd.V_drew));exact (Kd.V_mono (Kd.V_far (p:=⟨gb422,2,none⟩) (Kd.V_far (p:=⟨gb422,1,none⟩) (Kd.V_far (p:=⟨gb422,0,none⟩) (Kd.V_mono HO_28.out (fun k_ hk=>(⟨hk,hk.2⟩:_∧k_≠gb422))) (fun _ hk=>hk.2) (.int .i64 ((aD (ax x8_1 x21_1) x30_2).f0))) (fun _ hk=>hk.2) (.int .i64 ((aD (ax x8_1 x21_1) x30_2).f1))) (fun _ hk=>hk.2) (.int .i64 ((aD (ax x8_1 x21_1) x30_2).f2))) (fun _ h_=>h_.1))) (Kd.R_base ho0) hb);have n3_:=aA.mk (Kd.R_lower (Kd.R_newB (Kd.R_newB (Kd.R_new' (Kd.R_newM (M:=fun k_=>(w.heap.size≤k_)) ho0 (aQ blA) (fun k_ h_=>h_)) (Kd.R_lt (by (with_reducible repeat (first|apply Kd.R_alloc|apply Kd.R_drewN|apply Kd.R_drew));exact (Kd.R_mono (Kd.R_far (p:=⟨gb422,2,none⟩) (Kd.R_far (p:=⟨gb422,1,none⟩) (Kd.R_far (p:=⟨gb422,0,none⟩) (Kd.R_mono HO_10.out (fun k_ hk=>(⟨hk,hk.2⟩:_∧k_≠gb422))) (fun _ hk=>hk.2) (.int .i64 ((aD (ax x8_1 x21_1) x30_2).f0))) (fun _ hk=>hk.2) (.int .i64 ((aD (ax x8_1 x21_1) x30_2).f1))) (fun _ hk=>hk.2) (.int .i64 ((aD (ax x8_1 x21_1) x30_2).f2))) (fun _ h_=>h_.1))))) (g:=gb407) (o:=.cells #[.int .i64 a1_0,.int .i64 a1_1,.int .i64 a1_2] 43 (0,0)) (bkF BK407)) (g:=gb422) (o:=.cells #[.int .i64 ((aD (ax x8_1 x21_1) x30_2).f0),.int .i64 ((aD (ax x8_1 x21_1) x30_2).f1),.int .i64 ((aD (ax x8_1 x21_1) x30_2).f2)] 43 (0,0)) (bpA BK422)) (aQ blA));have n4_:=aA.mk (bL (g:=gb407) (o:=.cells #[.int .i64 a1_0,.int .i64 a1_1,.int .i64 a1_2] 43 (0,0)) (bkF BK407) hb);have n5_:=aA.mk (bL (g:=gb422) (o:=.cells #[.int .i64 ((aD (ax x8_1 x21_1) x30_2).f0),.int .i64 ((aD (ax x8_1 x21_1) x30_2).f1),.int .i64 ((aD (ax x8_1 x21_1) x30_2).f2)] 43 (0,0)) (bpA BK422) hb);have n6_:=lB hb;clear HO_8;clear HO_10;clear HO_28;clear BK407;clear BK422;clear HB;have HO_8:=n0_;have HO_10:=n1_;have HO_28:=n2_;have HO425:=n3_;have BK407:=n4_;have BK422:=n5_;have HB:=n6_;clear n0_ n1_ n2_ n3_ n4_ n5_ n6_;clear ho0 hb))
        go_ret2
        exact ⟨_,eW,by first|exact Kd.S_nil _ _ _ _ _|exact Kd.N_nil _ _ _ _ _|exact Kd.V_nil _ _ _ _ _|exact Kd.Q_nil _ _ _ _ _|exact Kd.R_nil _ _ _ _ _,blA⟩
      ·
       rw [if_neg c17] at H
       have c17b0:=decide_eq_false c17
       clear c17
       by_cases c53:x8_1.length<5864062014805
       rotate_left
       ·
        rw [if_neg c53] at H
        exact absurd H (by simp)
       rw [if_pos c53] at H
       have LMc53:=aA.mk c53
       clear c53
       obtain ⟨y418,hy418⟩:∃ y_:List (List (S43)),y_=(x8_1 ++ [x10_2]):=⟨_,rfl⟩
       replace H:(aY.l0 k2 a0 y418 a2 (wrap64 (x21_1+1)) a1_0 a1_1 a1_2)=some (r1,r2):=rH hy418 H
       have Ny418:=aA.mk hy418
       clear hy418
       have H':=aA.mk H
       clear H
       obtain ⟨Ao55,co55,eo55⟩:=Kd.R_slice HO_10.out
       subst eo55
       go_wp2_with (first|((with_reducible refine bY (b:=.append) (xs:=#[.tmp 60,.tmp 62]) rfl ?_);at_builtin;refine Kd.N_append (Kd.slice 43 k43) (w0:=w) w.heap.size rfl (.tmp 60) (.tmp 62) 91 38 (.slice none 0 0) 24 rfl Tryz.underlying91 info38 rfl (by decide) (by omega) (.slice (some ad417) x8_1.length co16) x8_1 x10_2 [.slice Ao55 x10_2.length co55] (fun k_=>(w.heap.size≤k_)∧k_≠gb407) (fun k_=>((fun k_=>(w.heap.size≤k_)∧k_≠gb407)) k_∧some k_≠(.slice (some ad417) x8_1.length co16:Value).ownBlock) rfl rfl ?aP (fun _ hk=>hk) ?aF ?aO ?aB ?aS ?aL ?_;(case aP=>exact (Kd.FK_slice_mk (Kd.R_reads' (Kd.R_mono (ok':=(fun k_=>((fun k_=>(w.heap.size≤k_)∧k_≠gb407)) k_∧some k_≠(.slice (some ad417) x8_1.length co16:Value).ownBlock)) (Kd.R_apart' (HO_10.out) (Kd.N_typed HO_8.out) (by decide)) (fun k_ hk=>⟨⟨hk.1.1,hk.1.2⟩,hk.2⟩))).2.1 (Kd.R_F (Kd.R_mono (ok':=(fun k_=>((fun k_=>(w.heap.size≤k_)∧k_≠gb407)) k_∧some k_≠(.slice (some ad417) x8_1.length co16:Value).ownBlock)) (Kd.R_apart' (HO_10.out) (Kd.N_typed HO_8.out) (by decide)) (fun k_ hk=>⟨⟨hk.1.1,hk.1.2⟩,hk.2⟩)))));(case aB=>exact blA);(case aF=>exact (fun k_ hk=>⟨(Nat.le_trans (aQ blA) hk),Kd.freshB (bkA BK407) k_ hk⟩));(case aO=>exact (by (with_reducible repeat (first|apply Kd.N_alloc|apply Kd.N_drewN|apply Kd.N_drew));exact Kd.N_mono HO_8.out (fun _ hk=>⟨hk.1,hk.2.2⟩)));(case aS=>exact (aQ blA));(case aL=>have:=LMc53.out;omega);intro v419 w54 ho hb hg hat;rw [← Ny418.out] at ho;have HO420:=aA.mk ho;replace HO_28:=aA.mk (Kd.V_afterv (ok:=(fun k_=>(w.heap.size≤k_)∧some k_≠(.slice Ao55 x10_2.length co55:Value).ownBlock∧k_≠gb407)) (by (with_reducible repeat (first|apply Kd.V_alloc|apply Kd.V_drewN|apply Kd.V_drew));exact Kd.V_mono HO_28.out (fun _ hk=>⟨⟨hk.1,⟨hk.2.2.1,hk.2.2.2⟩⟩,hk.2.1⟩)) hg hat);replace BK407:=aA.mk (bu (bkA BK407) hg (Kd.N_ne HO_8.out BK407.out (by decide)));replace HB:=aA.mk hb;clear HO_8 HO_10;clear ho hb hg hat))
       go_roundg k2
       case measure=>have:=HK1.out;have:=HK2.out;omega
       case rel=>exact ⟨(y418),(wrap64 (x21_1+1)),hB,H',⟨by have:=HK1.out;have:=HK2.out;omega⟩,⟨rN HO420⟩,⟨bkA BK407⟩,⟨blA⟩⟩
   ·
    rw [if_neg c11] at H
    have c11b0:=decide_eq_false c11
    clear c11
    simp only [Option.some.injEq,Prod.mk.injEq] at H
    obtain ⟨rfl,rfl⟩:=H
    go_wp2
    go_ret2
    exact ⟨_,eW,by (with_reducible repeat (first|apply Kd.N_alloc|apply Kd.N_drewN|apply Kd.N_drew));exact Kd.N_mono HO_8.out (fun _ hk=>hk.1),blA⟩
end Go.Proofs.YtnhiehpbkimaeaaGreat.PAll
