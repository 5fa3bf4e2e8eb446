-- turned out of the kit's print
import Derived.Test.YtnhiehpbkimaeaaQx
import Derived.Test.YtnhiehpbkimaeaaQimplBall38
import Derived.Test.YtnhiehpbkimaeaaQimplregionCode
import Derived.Test.YtnhiehpbkimaeaaQimplsomeNeighbours
import Derived.Test.YtnhiehpbkimaeaaQspecSphereAround
namespace Go.Proofs.Ytnhiehpbkimaeaa.PAll
open Go.RowKit Go.Proofs.YtnhiehpbkimaeaaW.PrintWords Go.Proofs.YtnhiehpbkimaeaaW.PrintLast Go.Proofs.YtnhiehpbkimaeaaW.PrintMore
attribute [local go_sem] Go.Proofs.Ytnhiehpbkimaeaa.Aux.setCell_drewN Go.Proofs.Ytnhiehpbkimaeaa.Aux.isSome_setCell max2_int min2_int max_two min_two max_three min_three max_four min_four
set_option linter.unusedVariables false
set_option linter.unusedSimpArgs false
mutual
def impl_spheres.l0:Nat→Int→List (List (S53))→Int→Int→Int→Int→Int→Option ((List (List (S53))) × Bool)
 | 0,_,_,_,_,_,_,_=>none
 | k+1,x0,x8,x20,x21,x462000,x462001,x462002=>if x21<x20 then (if 0≤x21 then (if x21<(x8.length:Int) then (impl_spheres.l1 k x0 x8 x21 (([]:List (S53))) x20 x21 (rd_L6 x8 x21) ((rd_L6 x8 x21).length:Int) 0 x462000 x462001 x462002) else (none)) else (none)) else (some (x8,true))
def impl_spheres.l1:Nat→Int→List (List (S53))→Int→List (S53)→Int→Int→List (S53)→Int→Int→Int→Int→Int→Option ((List (List (S53))) × Bool)
 | 0,_,_,_,_,_,_,_,_,_,_,_,_=>none
 | k+1,x0,x8,x9,x10,x20,x21,x28,x29,x30,x462000,x462001,x462002=>if x30<x29 then (if 0≤x30 then (if x30<(x28.length:Int) then ((impl_someNeighbours.f k x0 ((rd_T53 x28 x30).f0) ((rd_T53 x28 x30).f1) ((rd_T53 x28 x30).f2) 0).bind fun bt477=>(if bt477.2=true then (impl_spheres.l2 k x0 x8 x9 x10 x20 x21 x28 x29 x30 bt477.1 (bt477.1.length:Int) 0 x462000 x462001 x462002) else (some (([]:List (List (S53))),false)))) else (none)) else (none)) else (if x8.length<5864062014805 then (impl_spheres.l0 k x0 (x8 ++ [x10]) x20 (wrap64 (x21+1)) x462000 x462001 x462002) else (none))
def impl_spheres.l2:Nat→Int→List (List (S53))→Int→List (S53)→Int→Int→List (S53)→Int→Int→List (S53)→Int→Int→Int→Int→Int→Option ((List (List (S53))) × Bool)
 | 0,_,_,_,_,_,_,_,_,_,_,_,_,_,_,_=>none
 | k+1,x0,x8,x9,x10,x20,x21,x28,x29,x30,x42,x43,x44,x462000,x462001,x462002=>if x44<x43 then (if 0≤x44 then (if x44<(x42.length:Int) then ((impl_distance.f k x0 x462000 x462001 x462002 ((rd_T53 x42 x44).f0) ((rd_T53 x42 x44).f1) ((rd_T53 x42 x44).f2)).bind fun t483=>(if t483>x9 then (if x10.length<5864062014805 then (impl_spheres.l2 k x0 x8 x9 (x10 ++ [(⟨(rd_T53 x42 x44).f0,(rd_T53 x42 x44).f1,(rd_T53 x42 x44).f2⟩:S53)]) x20 x21 x28 x29 x30 x42 x43 (wrap64 (x44+1)) x462000 x462001 x462002) else (none)) else (impl_spheres.l2 k x0 x8 x9 x10 x20 x21 x28 x29 x30 x42 x43 (wrap64 (x44+1)) x462000 x462001 x462002))) else (none)) else (none)) else (impl_spheres.l1 k x0 x8 x9 x10 x20 x21 x28 x29 (wrap64 (x30+1)) x462000 x462001 x462002)
end
def impl_spheres.f (k:Nat) (a0 a1_0 a1_1 a1_2 a2:Int):Option ((List (List (S53))) × Bool):=impl_spheres.l0 k a0 (([(([(⟨a1_0,a1_1,a1_2⟩:S53)]:List (S53)))]:List (List (S53)))) a2 0 a1_0 a1_1 a1_2
theorem impl_spheres.mono_l:∀ k,(∀ y0 y1 y2 y3 y4 y5 y6,LeO (impl_spheres.l0 k y0 y1 y2 y3 y4 y5 y6) (impl_spheres.l0 (k+1) y0 y1 y2 y3 y4 y5 y6))∧(∀ y0 y1 y2 y3 y4 y5 y6 y7 y8 y9 y10 y11,LeO (impl_spheres.l1 k y0 y1 y2 y3 y4 y5 y6 y7 y8 y9 y10 y11) (impl_spheres.l1 (k+1) y0 y1 y2 y3 y4 y5 y6 y7 y8 y9 y10 y11))∧(∀ y0 y1 y2 y3 y4 y5 y6 y7 y8 y9 y10 y11 y12 y13 y14,LeO (impl_spheres.l2 k y0 y1 y2 y3 y4 y5 y6 y7 y8 y9 y10 y11 y12 y13 y14) (impl_spheres.l2 (k+1) y0 y1 y2 y3 y4 y5 y6 y7 y8 y9 y10 y11 y12 y13 y14))
 | 0=>by refine ⟨?_,?_,?_⟩ <;> (intros;intro r h;simp [impl_spheres.l0,impl_spheres.l1,impl_spheres.l2] at h)
 | k+1=>by
  obtain ⟨ih0,ih1,ih2⟩:=impl_spheres.mono_l k
  refine ⟨?_,?_,?_⟩ <;> (intros;first|unfold impl_spheres.l0|unfold impl_spheres.l1|unfold impl_spheres.l2)
  all_goals repeat' first
  | with_reducible first|exact ih0 ..|exact ih1 ..|exact ih2 ..|exact impl_distance.mono ..|exact impl_someNeighbours.mono ..|exact LeO.refl _|exact LeO.none _|refine LeO.ite ?_ ?_|refine LeO.bind ?_ fun _=>?_
theorem impl_spheres.mono:∀ a0 a1 a2 a3 a4 k,LeO (impl_spheres.f k a0 a1 a2 a3 a4) (impl_spheres.f (k+1) a0 a1 a2 a3 a4):=by
 intro a0 a1 a2 a3 a4 k
 obtain ⟨ih0,ih1,ih2⟩:=impl_spheres.mono_l k
 unfold impl_spheres.f
 repeat' first
   | with_reducible first|exact ih0 ..|exact ih1 ..|exact ih2 ..|exact impl_distance.mono ..|exact impl_someNeighbours.mono ..|exact LeO.refl _|exact LeO.none _|refine LeO.ite ?_ ?_|refine LeO.bind ?_ fun _=>?_
set_option maxHeartbeats 8000000 in
set_option maxRecDepth 100000 in
theorem impl_spheres.calls (k:Nat) (a0 a1_0 a1_1 a1_2 a2:Int) (r1:List (List (S53))) (r2:Bool) (w:World) (h:impl_spheres.f k a0 a1_0 a1_1 a1_2 a2=some (r1,r2)) :
  Calls Try.prog 37 #[.int .i64 a0,.agg #[.int .i64 a1_0,.int .i64 a1_1,.int .i64 a1_2],.int .i64 a2] w fun e w'=>∃ v0_:Value,e=.returned (.tuple #[v0_,.bool r2])∧Kd.N (Kd.slice 53 k53) 38 w' w.heap.size (fun k_=>(w.heap.size≤k_)) v0_ r1∧Below w.heap.size w w':=by
 have hu53:=Try.underlying53
 have HB:=Aside0.mk (Below.refl w.heap.size w)
 have H:=h
 unfold impl_spheres.f at H
 clear h
 obtain ⟨y462,hy462⟩:∃ y_:List (S53),y_=(([(⟨a1_0,a1_1,a1_2⟩:S53)]:List (S53))):=⟨_,rfl⟩
 replace H:(impl_spheres.l0 k a0 (([y462]:List (List (S53)))) a2 0 a1_0 a1_1 a1_2)=some (r1,r2):=rH hy462 H
 have Ny462:=Aside0.mk hy462
 clear hy462
 obtain ⟨y465,hy465⟩:∃ y_:List (List (S53)),y_=(([y462]:List (List (S53)))):=⟨_,rfl⟩
 replace H:(impl_spheres.l0 k a0 y465 a2 0 a1_0 a1_1 a1_2)=some (r1,r2):=rH hy465 H
 have Ny465:=Aside0.mk hy465
 clear hy465
 have H':=Aside0.mk H
 clear H
 go_enter Try.func37,Try.ntmps37
 go_wp2_with (first|((with_reducible refine gate_dst (N:=4) rfl ?_);refine bxE (cs:=#[.int .i64 a1_0,.int .i64 a1_1,.int .i64 a1_2]) (t:=53) ?_;intro gb461 hg w4 hbox hb;have BK461:=Aside0.mk hbox;have GW461:=sA hg;have GE461:=sA hg;replace HB:=lB hb;clear hb hbox hg;obtain ⟨hcz5_0,hcz5_1,hcz5_2,hfz5_0,hfz5_1,hfz5_2⟩:=cz3 BK461)|((with_reducible refine gate_dst (N:=18) rfl ?_);refine Kd.R_lit k53 _ 53 ?hg (N:=18) ?hd (xs:=([(⟨a1_0,a1_1,a1_2⟩:S53)]:List (S53))) (inner:=[.int .i64 a1_0,.int .i64 a1_1,.int .i64 a1_2]) (ok:=fun _=>True) (okp:=fun _=>True) ?hr ?hp (fun _ hk=>hk) trivial (Below.refl _ _) (Nat.le_refl _) (by simp) ?_;(case hd=>rfl);(case hg=>rfl);(case hr=>first|(go_simp;done)|(go_simp;rfl));(case hp=>exact (Reps.c3 (show Kd.M k53 _ _ _ (⟨a1_0,a1_1,a1_2⟩:S53) [.int .i64 a1_0,.int .i64 a1_1,.int .i64 a1_2] from (k53_mkM _ _ _ (⟨a1_0,a1_1,a1_2⟩:S53) )) (Reps.none _ _)));intro v463 w6 ho7 hb hg_ hnew_;clear hg_ hnew_;(first|rw [← Ny462.out] at ho7|(simp only [Int.reduceToNat] at ho7;rw [← Ny462.out] at ho7));have HO464:=Aside0.mk (Kd.R_lower (Kd.R_newB (Kd.R_newM (M:=fun k_=>(w.heap.size≤k_)) ho7 (below_size blA) (fun k_ h_=>h_)) (bkA BK461)) (below_size blA));replace BK461:=kB BK461 hb;replace HB:=lB hb;clear hb ho7;obtain ⟨Ao8,co8,eo8⟩:=Kd.R_slice HO464.out;subst eo8)|((with_reducible refine gate_dst (N:=19) rfl ?_);refine Kd.N_lit (Kd.slice 53 k53) _ 38 ?hg (N':=19) ?hd (xs:=([y462]:List (List (S53)))) (inner:=[.slice Ao8 y462.length co8]) (ok:=(fun k_=>(w.heap.size≤k_)∧k_≠gb461)) (okp:=(fun k_=>(w.heap.size≤k_)∧k_≠gb461)) ?hr ?hp (fun _ hk=>hk) ((show ∀ k_,w6.heap.size≤k_→(fun k_=>(w.heap.size≤k_)∧k_≠gb461) k_ from fun k_ hk=>⟨(Nat.le_trans (below_size blA) hk),Kd.freshB (bkA BK461) k_ hk⟩) _ (Nat.le_refl _)) (Below.refl _ _) (Nat.le_refl _) (by simp) ?_;(case hd=>rfl);(case hg=>rfl);(case hr=>first|(go_simp;done)|(go_simp;rfl));(case hp=>exact (Reps.one (show Kd.FK (Kd.slice 53 k53) _ _ y462 [.slice Ao8 y462.length co8] from (Kd.FK_slice_mk (Kd.R_reads' (Kd.R_mono (ok':=(fun k_=>(w.heap.size≤k_)∧k_≠gb461)) (HO464.out) (fun k_ hk=>⟨hk.1.1,hk.2⟩))).2.1 (Kd.R_F (Kd.R_mono (ok':=(fun k_=>(w.heap.size≤k_)∧k_≠gb461)) (HO464.out) (fun k_ hk=>⟨hk.1.1,hk.2⟩))))) (Reps.none _ _)));intro v466 w9 ho10 hb hg_ hnew_;clear hg_ hnew_;(first|rw [← Ny465.out] at ho10|(simp only [Int.reduceToNat] at ho10;rw [← Ny465.out] at ho10));have HO467:=Aside0.mk (Kd.N_lower ho10 (below_size blA));replace BK461:=kB BK461 hb;replace HB:=lB hb;clear HO464;clear hb ho10))
 go_loopg [8,21] k (fun kq v8 v21 w'=>∃ (x8_1:List (List (S53))) (x21_1:Int),v21=.int .i64 x21_1∧Aside0 (impl_spheres.l0 kq a0 x8_1 a2 x21_1 a1_0 a1_1 a1_2=some (r1,r2))∧Aside0 (kq≤k)∧Aside0 (Kd.N (Kd.slice 53 k53) 38 w' w.heap.size (fun k_=>(w.heap.size≤k_)∧k_≠gb461) v8 x8_1)∧Aside0 (w'.heap[gb461]?=some (.cells #[.int .i64 a1_0,.int .i64 a1_1,.int .i64 a1_2] 53 (0,0)))∧Aside0 (Below w.heap.size w w'))
 case atStart=>exact ⟨(y465),(0),hB,H',⟨Nat.le_refl _⟩,⟨rN HO467⟩,⟨bkA BK461⟩,⟨blA⟩⟩
 case round=>
  clear H'
  try clear c3
  try clear hcz5_0
  try clear hcz5_1
  try clear hcz5_2
  try clear hfz5_0
  try clear hfz5_1
  try clear hfz5_2
  obtain ⟨x8_1,x21_1,rfl,HA,HK1,HO_8,BK461,HB⟩:=hrel
  cases gk with
  | zero=>exact absurd HA.out (by simp [impl_spheres.l0])
  | succ k1=>
   have H:=HA.out
   clear HA
   simp only [impl_spheres.l0] at H
   by_cases c11:x21_1<a2
   ·
    rw [if_pos c11] at H
    have c11b0:=decide_eq_true c11
    clear c11
    obtain ⟨y468,hy468⟩:∃ y_:List (S53),y_=(([]:List (S53))):=⟨_,rfl⟩
    replace H:(if 0≤x21_1 then (if x21_1<(x8_1.length:Int) then (impl_spheres.l1 k1 a0 x8_1 x21_1 y468 a2 x21_1 (rd_L6 x8_1 x21_1) ((rd_L6 x8_1 x21_1).length:Int) 0 a1_0 a1_1 a1_2) else (none)) else (none))=some (r1,r2):=rH hy468 H
    have Ny468:=Aside0.mk hy468
    clear hy468
    by_cases c12:0≤x21_1
    rotate_left
    ·
     rw [if_neg c12] at H
     exact absurd H (by simp)
    rw [if_pos c12] at H
    have c12b0:=decide_eq_true c12
    clear c12
    by_cases c13:x21_1<(x8_1.length:Int)
    rotate_left
    ·
     rw [if_neg c13] at H
     exact absurd H (by simp)
    rw [if_pos c13] at H
    have c13b0:=decide_eq_true c13
    clear c13
    have H':=Aside0.mk H
    clear H
    go_wp2_with (first|((with_reducible refine gate_dst (N:=24) rfl ?_);refine Kd.R_lit k53 _ 53 ?hg (N:=24) ?hd (xs:=([]:List (S53))) (inner:=[]) (ok:=fun _=>True) (okp:=fun _=>True) ?hr ?hp (fun _ hk=>hk) trivial (Below.refl _ _) (Nat.le_refl _) (by simp) ?_;(case hd=>rfl);(case hg=>rfl);(case hr=>first|(go_simp;done)|(go_simp;rfl));(case hp=>exact (Reps.none _ _));intro v469 w14 ho15 hb hg_ hnew_;clear hg_ hnew_;(first|rw [← Ny468.out] at ho15|(simp only [Int.reduceToNat] at ho15;rw [← Ny468.out] at ho15));have HO470:=Aside0.mk (Kd.R_lower (Kd.R_newB (Kd.R_newM (M:=fun k_=>(w.heap.size≤k_)) ho15 (below_size blA) (fun k_ h_=>h_)) (bkA BK461)) (below_size blA));replace HO_8:=Aside0.mk (Kd.N_elder' (rN HO_8) (Kd.R_base ho15) hb);replace BK461:=kB BK461 hb;replace HB:=lB hb;clear hb ho15;obtain ⟨Ao16,co16,eo16⟩:=Kd.N_slice HO_8.out;subst eo16;have p471:0≤(x21_1:Int):=dA;have q471:x21_1<(x8_1.length:Int):=dA;obtain ⟨ad471,A471_0,c471_0,e471,hx471_0,hl471_0,hi471_0⟩:=at_L6 (Kd.N_reads' HO_8.out).2.2 x21_1 p471 q471;cases e471;obtain ⟨ce471,hce471,hMe471,hcc471⟩:=Kd.N_get HO_8.out [] x21_1 p471 (by first|exact q471|exact dA|(have e_:=(Kd.N_reads' HO_8.out).1;omega));obtain ⟨ua471_0,uc471_0,rfl,ul471_0,ge471_0⟩:=Kd.FK_slice_open hMe471;have hv471_0:=hcc471 0 _ rfl;rw [Nat.add_zero,show ((Kd.slice 53 k53)).sz=1 from rfl,Nat.mul_one] at hv471_0;replace hv471_0:=Option.some.inj (hv471_0.symm.trans hx471_0);injection hv471_0 with hva_ hvn_ hvc_;rw [hva_] at ge471_0;rw [hvc_] at ul471_0;have HL471_0:=Aside0.mk (show Kd.V k53 53 _ w.heap.size _ _ (rd_L6 x8_1 x21_1) from Kd.V_mk ul471_0 ge471_0);clear hva_ hvn_ hvc_ ge471_0 ul471_0;clear hcc471 hce471;have HR471_0:=Aside0.mk hi471_0;have HC471_0:=Aside0.mk hl471_0;clear hi471_0 hl471_0;replace p471:=eq_true p471;replace q471:=eq_true q471))
    go_loopg [10,30] k1 (fun kq v10 v30 w'=>∃ (x10_2:List (S53)) (x30_2:Int),v30=.int .i64 x30_2∧Aside0 (impl_spheres.l1 kq a0 x8_1 x21_1 x10_2 a2 x21_1 (rd_L6 x8_1 x21_1) ((rd_L6 x8_1 x21_1).length:Int) x30_2 a1_0 a1_1 a1_2=some (r1,r2))∧Aside0 (kq≤k1)∧Aside0 (Kd.N (Kd.slice 53 k53) 38 w' w.heap.size (fun k_=>(w.heap.size≤k_)∧some k_≠(v10:Value).ownBlock∧k_≠gb461) (.slice (some ad471) x8_1.length co16) x8_1)∧Aside0 (Kd.R k53 53 w' w.heap.size (fun k_=>(w.heap.size≤k_)∧k_≠gb461) v10 x10_2)∧Aside0 (Kd.V k53 53 w' w.heap.size (fun k_=>(w.heap.size≤k_)∧some k_≠((.slice (some ad471) x8_1.length co16):Value).ownBlock∧some k_≠(v10:Value).ownBlock∧k_≠gb461) (.slice A471_0 (rd_L6 x8_1 x21_1).length c471_0) (rd_L6 x8_1 x21_1))∧Aside0 (w'.heap[gb461]?=some (.cells #[.int .i64 a1_0,.int .i64 a1_1,.int .i64 a1_2] 53 (0,0)))∧Aside0 (Below w.heap.size w w'))
    case atStart=>exact ⟨(y468),(0),hB,H',⟨Nat.le_refl _⟩,⟨by (with_reducible repeat (first|apply Kd.N_alloc|apply Kd.N_drewN|apply Kd.N_drew));exact Kd.N_mono HO_8.out (fun _ hk=>⟨hk.1.1,⟨hk.2,hk.1.2⟩⟩)⟩,⟨by (with_reducible repeat (first|apply Kd.R_alloc|apply Kd.R_drewN|apply Kd.R_drew));exact Kd.R_mono HO470.out (fun _ hk=>⟨hk.1.1,hk.2⟩)⟩,⟨by (with_reducible repeat (first|apply Kd.V_alloc|apply Kd.V_drewN|apply Kd.V_drew));exact Kd.V_mono HL471_0.out (fun _ hk=>⟨hk.1.1.1,⟨hk.2,⟨hk.1.2,hk.1.1.2⟩⟩⟩)⟩,⟨bkA BK461⟩,⟨blA⟩⟩
    case round=>
     clear H'
     try clear c3
     try clear c11
     try clear c11b0
     try clear c12
     try clear c12b0
     try clear c13
     try clear c13b0
     try clear hcz5_0
     try clear hcz5_1
     try clear hcz5_2
     try clear hfz5_0
     try clear hfz5_1
     try clear hfz5_2
     try clear hx471_0
     try clear p471
     try clear q471
     obtain ⟨x10_2,x30_2,rfl,HA,HK2,HO_8,HO_10,HO_28,BK461,HB⟩:=hrel
     cases gk with
     | zero=>exact absurd HA.out (by simp [impl_spheres.l1])
     | succ k2=>
      have H:=HA.out
      clear HA
      simp only [impl_spheres.l1] at H
      by_cases c17:x30_2<((rd_L6 x8_1 x21_1).length:Int)
      ·
       rw [if_pos c17] at H
       have c17b0:=decide_eq_true c17
       clear c17
       by_cases c18:0≤x30_2
       rotate_left
       ·
        rw [if_neg c18] at H
        exact absurd H (by simp)
       rw [if_pos c18] at H
       have c18b0:=decide_eq_true c18
       clear c18
       by_cases c19:x30_2<((rd_L6 x8_1 x21_1).length:Int)
       rotate_left
       ·
        rw [if_neg c19] at H
        exact absurd H (by simp)
       rw [if_pos c19] at H
       have c19b0:=decide_eq_true c19
       clear c19
       replace H:=bS H
       obtain ⟨⟨t477,t480⟩,A20,H⟩:=H
       try dsimp only at H
       by_cases c21:t480=true
       ·
        subst c21
        rw [if_pos rfl] at H
        try dsimp only at H
        have H':=Aside0.mk H
        clear H
        have p475:0≤(x30_2:Int):=dA
        have q475:x30_2<((rd_L6 x8_1 x21_1).length:Int):=dA
        obtain ⟨ad475,e475,hx475_0,hx475_1,hx475_2⟩:=at_T53 (Kd.V_reads' HO_28.out).2.2 x30_2 p475 q475
        cases e475
        replace p475:=eq_true p475
        replace q475:=eq_true q475
        go_wp2_with (first|((with_reducible refine gate_dst (N:=12) rfl ?_);refine bxE (cs:=#[.int .i64 0,.int .i64 0,.int .i64 0]) (t:=53) ?_;intro gb476 hg w22 hbox hb;have BK476:=Aside0.mk hbox;have GW476:=sA hg;have GE476:=sA hg;have NB461_476:=nA hg BK461;have NB476_461:=nB hg BK461;replace HO_8:=Aside0.mk (Kd.N_below (Kd.N_elderB (rN HO_8) gb476 (Nat.le_of_eq hg.symm)) hb);replace HO_10:=Aside0.mk (Kd.R_below (Kd.R_elderB (rA HO_10) gb476 (Nat.le_of_eq hg.symm)) hb);replace HO_28:=Aside0.mk (Kd.V_below (Kd.V_elderB (rV HO_28) gb476 (Nat.le_of_eq hg.symm)) hb);replace BK461:=kB BK461 hb;replace HB:=lB hb;clear hb hbox hg;have hnb23:=NB476_461.out;have hnc23:=NB461_476.out;obtain ⟨hcz24_0,hcz24_1,hcz24_2,hfz24_0,hfz24_1,hfz24_2⟩:=cz3 BK476)|((with_reducible refine gate_callee (f:=54) rfl ?_);refine gL (some 37) rfl Try.func54 #[.int .i64 a0,.agg #[.int .i64 ((rd_T53 (rd_L6 x8_1 x21_1) x30_2).f0),.int .i64 ((rd_T53 (rd_L6 x8_1 x21_1) x30_2).f1),.int .i64 ((rd_T53 (rd_L6 x8_1 x21_1) x30_2).f2)],.int .i64 0] ?_;(with_reducible refine (impl_someNeighbours.calls k2 a0 ((rd_T53 (rd_L6 x8_1 x21_1) x30_2).f0) ((rd_T53 (rd_L6 x8_1 x21_1) x30_2).f1) ((rd_T53 (rd_L6 x8_1 x21_1) x30_2).f2) 0 t477 true _ A20.out).mono ?_);rintro e w25 ⟨v478,rfl,ho0,hb⟩;refine ⟨_,rfl,?_⟩;have n0_:=Aside0.mk (Kd.N_elder' (by (with_reducible repeat (first|apply Kd.N_alloc|apply Kd.N_drewN|apply Kd.N_drew));exact (Kd.N_mono (Kd.N_far (p:=⟨gb476,2,none⟩) (Kd.N_far (p:=⟨gb476,1,none⟩) (Kd.N_far (p:=⟨gb476,0,none⟩) (Kd.N_mono HO_8.out (fun k_ hk=>(⟨hk,hk.2⟩:_∧k_≠gb476))) (fun _ hk=>hk.2) (.int .i64 ((rd_T53 (rd_L6 x8_1 x21_1) x30_2).f0))) (fun _ hk=>hk.2) (.int .i64 ((rd_T53 (rd_L6 x8_1 x21_1) x30_2).f1))) (fun _ hk=>hk.2) (.int .i64 ((rd_T53 (rd_L6 x8_1 x21_1) x30_2).f2))) (fun _ h_=>h_.1))) (Kd.R_base ho0) hb);have n1_:=Aside0.mk (Kd.R_elder' (by (with_reducible repeat (first|apply Kd.R_alloc|apply Kd.R_drewN|apply Kd.R_drew));exact (Kd.R_mono (Kd.R_far (p:=⟨gb476,2,none⟩) (Kd.R_far (p:=⟨gb476,1,none⟩) (Kd.R_far (p:=⟨gb476,0,none⟩) (Kd.R_mono HO_10.out (fun k_ hk=>(⟨hk,hk.2⟩:_∧k_≠gb476))) (fun _ hk=>hk.2) (.int .i64 ((rd_T53 (rd_L6 x8_1 x21_1) x30_2).f0))) (fun _ hk=>hk.2) (.int .i64 ((rd_T53 (rd_L6 x8_1 x21_1) x30_2).f1))) (fun _ hk=>hk.2) (.int .i64 ((rd_T53 (rd_L6 x8_1 x21_1) x30_2).f2))) (fun _ h_=>h_.1))) (Kd.R_base ho0) hb);have n2_:=Aside0.mk (Kd.V_elder' (by (with_reducible repeat (first|apply Kd.V_alloc|apply Kd.V_drewN|apply Kd.V_drew));exact (Kd.V_mono (Kd.V_far (p:=⟨gb476,2,none⟩) (Kd.V_far (p:=⟨gb476,1,none⟩) (Kd.V_far (p:=⟨gb476,0,none⟩) (Kd.V_mono HO_28.out (fun k_ hk=>(⟨hk,hk.2⟩:_∧k_≠gb476))) (fun _ hk=>hk.2) (.int .i64 ((rd_T53 (rd_L6 x8_1 x21_1) x30_2).f0))) (fun _ hk=>hk.2) (.int .i64 ((rd_T53 (rd_L6 x8_1 x21_1) x30_2).f1))) (fun _ hk=>hk.2) (.int .i64 ((rd_T53 (rd_L6 x8_1 x21_1) x30_2).f2))) (fun _ h_=>h_.1))) (Kd.R_base ho0) hb);have n3_:=Aside0.mk (Kd.R_lower (Kd.R_newB (Kd.R_newB (Kd.R_new' (Kd.R_newM (M:=fun k_=>(w.heap.size≤k_)) ho0 (below_size blA) (fun k_ h_=>h_)) (Kd.R_lt (by (with_reducible repeat (first|apply Kd.R_alloc|apply Kd.R_drewN|apply Kd.R_drew));exact (Kd.R_mono (Kd.R_far (p:=⟨gb476,2,none⟩) (Kd.R_far (p:=⟨gb476,1,none⟩) (Kd.R_far (p:=⟨gb476,0,none⟩) (Kd.R_mono HO_10.out (fun k_ hk=>(⟨hk,hk.2⟩:_∧k_≠gb476))) (fun _ hk=>hk.2) (.int .i64 ((rd_T53 (rd_L6 x8_1 x21_1) x30_2).f0))) (fun _ hk=>hk.2) (.int .i64 ((rd_T53 (rd_L6 x8_1 x21_1) x30_2).f1))) (fun _ hk=>hk.2) (.int .i64 ((rd_T53 (rd_L6 x8_1 x21_1) x30_2).f2))) (fun _ h_=>h_.1))))) (g:=gb461) (o:=.cells #[.int .i64 a1_0,.int .i64 a1_1,.int .i64 a1_2] 53 (0,0)) (bkF BK461)) (g:=gb476) (o:=.cells #[.int .i64 ((rd_T53 (rd_L6 x8_1 x21_1) x30_2).f0),.int .i64 ((rd_T53 (rd_L6 x8_1 x21_1) x30_2).f1),.int .i64 ((rd_T53 (rd_L6 x8_1 x21_1) x30_2).f2)] 53 (0,0)) (bpA BK476)) (below_size blA));have n4_:=Aside0.mk (blk_below (g:=gb461) (o:=.cells #[.int .i64 a1_0,.int .i64 a1_1,.int .i64 a1_2] 53 (0,0)) (bkF BK461) hb);have n5_:=Aside0.mk (blk_below (g:=gb476) (o:=.cells #[.int .i64 ((rd_T53 (rd_L6 x8_1 x21_1) x30_2).f0),.int .i64 ((rd_T53 (rd_L6 x8_1 x21_1) x30_2).f1),.int .i64 ((rd_T53 (rd_L6 x8_1 x21_1) x30_2).f2)] 53 (0,0)) (bpA BK476) hb);have n6_:=lB hb;clear HO_8;clear HO_10;clear HO_28;clear BK461;clear BK476;clear HB;have HO_8:=n0_;have HO_10:=n1_;have HO_28:=n2_;have HO479:=n3_;have BK461:=n4_;have BK476:=n5_;have HB:=n6_;clear n0_ n1_ n2_ n3_ n4_ n5_ n6_;clear ho0 hb;obtain ⟨Ao26,co26,eo26⟩:=Kd.R_slice HO479.out;subst eo26))
        go_loopg [10,44] k2 (fun kq v10 v44 w'=>∃ (x10_3:List (S53)) (x44_3:Int),v44=.int .i64 x44_3∧Aside0 (impl_spheres.l2 kq a0 x8_1 x21_1 x10_3 a2 x21_1 (rd_L6 x8_1 x21_1) ((rd_L6 x8_1 x21_1).length:Int) x30_2 t477 (t477.length:Int) x44_3 a1_0 a1_1 a1_2=some (r1,r2))∧Aside0 (kq≤k2)∧Aside0 (Kd.N (Kd.slice 53 k53) 38 w' w.heap.size (fun k_=>(w.heap.size≤k_)∧some k_≠(v10:Value).ownBlock∧some k_≠((.slice Ao26 t477.length co26):Value).ownBlock∧k_≠gb461∧k_≠gb476) (.slice (some ad471) x8_1.length co16) x8_1)∧Aside0 (Kd.R k53 53 w' w.heap.size (fun k_=>(w.heap.size≤k_)∧some k_≠((.slice Ao26 t477.length co26):Value).ownBlock∧k_≠gb461∧k_≠gb476) v10 x10_3)∧Aside0 (Kd.V k53 53 w' w.heap.size (fun k_=>(w.heap.size≤k_)∧some k_≠((.slice (some ad471) x8_1.length co16):Value).ownBlock∧some k_≠(v10:Value).ownBlock∧some k_≠((.slice Ao26 t477.length co26):Value).ownBlock∧k_≠gb461∧k_≠gb476) (.slice (some ad475) (rd_L6 x8_1 x21_1).length c471_0) (rd_L6 x8_1 x21_1))∧Aside0 (Kd.R k53 53 w' w.heap.size (fun k_=>(w.heap.size≤k_)∧some k_≠(v10:Value).ownBlock∧k_≠gb461∧k_≠gb476) (.slice Ao26 t477.length co26) t477)∧Aside0 (w'.heap[gb461]?=some (.cells #[.int .i64 a1_0,.int .i64 a1_1,.int .i64 a1_2] 53 (0,0)))∧Aside0 (w'.heap[gb476]?=some (.cells #[.int .i64 ((rd_T53 (rd_L6 x8_1 x21_1) x30_2).f0),.int .i64 ((rd_T53 (rd_L6 x8_1 x21_1) x30_2).f1),.int .i64 ((rd_T53 (rd_L6 x8_1 x21_1) x30_2).f2)] 53 (0,0)))∧Aside0 (Below w.heap.size w w'))
        case atStart=>exact ⟨(x10_2),(0),hB,H',⟨Nat.le_refl _⟩,⟨by (with_reducible repeat (first|apply Kd.N_alloc|apply Kd.N_drewN|apply Kd.N_drew));exact Kd.N_mono HO_8.out (fun _ hk=>⟨hk.1.1.1,⟨hk.1.1.2.1,⟨hk.2,⟨hk.1.1.2.2,hk.1.2⟩⟩⟩⟩)⟩,⟨by (with_reducible repeat (first|apply Kd.R_alloc|apply Kd.R_drewN|apply Kd.R_drew));exact Kd.R_mono HO_10.out (fun _ hk=>⟨hk.1.1.1,⟨hk.2,⟨hk.1.1.2,hk.1.2⟩⟩⟩)⟩,⟨by (with_reducible repeat (first|apply Kd.V_alloc|apply Kd.V_drewN|apply Kd.V_drew));exact Kd.V_mono HO_28.out (fun _ hk=>⟨hk.1.1.1,⟨hk.1.1.2.1,⟨hk.1.1.2.2.1,⟨hk.2,⟨hk.1.1.2.2.2,hk.1.2⟩⟩⟩⟩⟩)⟩,⟨by (with_reducible repeat (first|apply Kd.R_alloc|apply Kd.R_drewN|apply Kd.R_drew));exact Kd.R_mono HO479.out (fun _ hk=>⟨hk.1.1.1.1,⟨hk.1.1.2,⟨hk.1.2,hk.2⟩⟩⟩)⟩,⟨bkA BK461⟩,⟨bkA BK476⟩,⟨blA⟩⟩
        case round=>
         clear H'
         try clear c3
         try clear c11
         try clear c11b0
         try clear c12
         try clear c12b0
         try clear c13
         try clear c13b0
         try clear c17
         try clear c17b0
         try clear c18
         try clear c18b0
         try clear c19
         try clear c19b0
         try clear c21
         try clear hcz24_0
         try clear hcz24_1
         try clear hcz24_2
         try clear hcz5_0
         try clear hcz5_1
         try clear hcz5_2
         try clear hfz24_0
         try clear hfz24_1
         try clear hfz24_2
         try clear hfz5_0
         try clear hfz5_1
         try clear hfz5_2
         try clear hx471_0
         try clear hx475_0
         try clear hx475_1
         try clear hx475_2
         try clear p471
         try clear p475
         try clear q471
         try clear q475
         obtain ⟨x10_3,x44_3,rfl,HA,HK3,HO_8,HO_10,HO_28,HO_42,BK461,BK476,HB⟩:=hrel
         cases gk with
         | zero=>exact absurd HA.out (by simp [impl_spheres.l2])
         | succ k3=>
          have H:=HA.out
          clear HA
          simp only [impl_spheres.l2] at H
          by_cases c27:x44_3<(t477.length:Int)
          ·
           rw [if_pos c27] at H
           have c27b0:=decide_eq_true c27
           clear c27
           by_cases c28:0≤x44_3
           rotate_left
           ·
            rw [if_neg c28] at H
            exact absurd H (by simp)
           rw [if_pos c28] at H
           have c28b0:=decide_eq_true c28
           clear c28
           by_cases c29:x44_3<(t477.length:Int)
           rotate_left
           ·
            rw [if_neg c29] at H
            exact absurd H (by simp)
           rw [if_pos c29] at H
           have c29b0:=decide_eq_true c29
           clear c29
           replace H:=bS H
           obtain ⟨t483,A30,H⟩:=H
           try dsimp only at H
           by_cases c31:t483>x21_1
           focus
            rw [if_pos c31] at H
            have c31b0:decide (x21_1<t483)=true:=decide_eq_true c31
            clear c31
            by_cases c32:x10_3.length<5864062014805
            rotate_left
            ·
             rw [if_neg c32] at H
             exact absurd H (by simp)
            rw [if_pos c32] at H
            have LMc32:=Aside0.mk c32
            clear c32
            obtain ⟨y484,hy484⟩:∃ y_:List (S53),y_=(x10_3 ++ [(⟨(rd_T53 t477 x44_3).f0,(rd_T53 t477 x44_3).f1,(rd_T53 t477 x44_3).f2⟩:S53)]):=⟨_,rfl⟩
            replace H:(impl_spheres.l2 k3 a0 x8_1 x21_1 y484 a2 x21_1 (rd_L6 x8_1 x21_1) ((rd_L6 x8_1 x21_1).length:Int) x30_2 t477 (t477.length:Int) (wrap64 (x44_3+1)) a1_0 a1_1 a1_2)=some (r1,r2):=rH hy484 H
            have Ny484:=Aside0.mk hy484
            clear hy484
            have H':=Aside0.mk H
            clear H
            have p481:0≤(x44_3:Int):=dA
            have q481:x44_3<(t477.length:Int):=dA
            obtain ⟨ad481,e481,hx481_0,hx481_1,hx481_2⟩:=at_T53 (Kd.R_reads' HO_42.out).2.2 x44_3 p481 q481
            cases e481
            replace p481:=eq_true p481
            replace q481:=eq_true q481
           rotate_left
           focus
            rw [if_neg c31] at H
            have c31b0:decide (x21_1<t483)=false:=decide_eq_false c31
            clear c31
            have H':=Aside0.mk H
            clear H
            have p481:0≤(x44_3:Int):=dA
            have q481:x44_3<(t477.length:Int):=dA
            obtain ⟨ad481,e481,hx481_0,hx481_1,hx481_2⟩:=at_T53 (Kd.R_reads' HO_42.out).2.2 x44_3 p481 q481
            cases e481
            replace p481:=eq_true p481
            replace q481:=eq_true q481
           rotate_left
           all_goals
            go_wp2_with (first|((with_reducible refine gate_dst (N:=16) rfl ?_);refine bxE (cs:=#[.int .i64 0,.int .i64 0,.int .i64 0]) (t:=53) ?_;intro gb482 hg w33 hbox hb;have BK482:=Aside0.mk hbox;have GW482:=sA hg;have GE482:=sA hg;have NB461_482:=nA hg BK461;have NB482_461:=nB hg BK461;have NB476_482:=nA hg BK476;have NB482_476:=nB hg BK476;replace HO_8:=Aside0.mk (Kd.N_below (Kd.N_elderB (rN HO_8) gb482 (Nat.le_of_eq hg.symm)) hb);replace HO_10:=Aside0.mk (Kd.R_below (Kd.R_elderB (rA HO_10) gb482 (Nat.le_of_eq hg.symm)) hb);replace HO_28:=Aside0.mk (Kd.V_below (Kd.V_elderB (rV HO_28) gb482 (Nat.le_of_eq hg.symm)) hb);replace HO_42:=Aside0.mk (Kd.R_below (Kd.R_elderB (rA HO_42) gb482 (Nat.le_of_eq hg.symm)) hb);replace BK461:=kB BK461 hb;replace BK476:=kB BK476 hb;replace HB:=lB hb;clear hb hbox hg;have hnb34:=NB482_461.out;have hnc34:=NB461_482.out;have hnb35:=NB482_476.out;have hnc35:=NB476_482.out;obtain ⟨hcz36_0,hcz36_1,hcz36_2,hfz36_0,hfz36_1,hfz36_2⟩:=cz3 BK482;have hnb37:=NB461_476.out;have hnc37:=NB476_461.out;obtain ⟨hcz38_0,hcz38_1,hcz38_2,hfz38_0,hfz38_1,hfz38_2⟩:=cz3 BK461)|((with_reducible refine gd 51 rfl ?_);refine gC (some 51) rfl Try.func55 (impl_distance.calls (w:=_) (h:=A30.out)) ?_;intro w39 hb;have n0_:=Aside0.mk (Kd.N_below (by (with_reducible repeat (first|apply Kd.N_alloc|apply Kd.N_drewN|apply Kd.N_drew));exact (Kd.N_mono (Kd.N_far (p:=⟨gb482,2,none⟩) (Kd.N_far (p:=⟨gb482,1,none⟩) (Kd.N_far (p:=⟨gb482,0,none⟩) (Kd.N_mono HO_8.out (fun k_ hk=>(⟨hk,hk.2⟩:_∧k_≠gb482))) (fun _ hk=>hk.2) (.int .i64 ((rd_T53 t477 x44_3).f0))) (fun _ hk=>hk.2) (.int .i64 ((rd_T53 t477 x44_3).f1))) (fun _ hk=>hk.2) (.int .i64 ((rd_T53 t477 x44_3).f2))) (fun _ h_=>h_.1))) hb);have n1_:=Aside0.mk (Kd.R_below (by (with_reducible repeat (first|apply Kd.R_alloc|apply Kd.R_drewN|apply Kd.R_drew));exact (Kd.R_mono (Kd.R_far (p:=⟨gb482,2,none⟩) (Kd.R_far (p:=⟨gb482,1,none⟩) (Kd.R_far (p:=⟨gb482,0,none⟩) (Kd.R_mono HO_10.out (fun k_ hk=>(⟨hk,hk.2⟩:_∧k_≠gb482))) (fun _ hk=>hk.2) (.int .i64 ((rd_T53 t477 x44_3).f0))) (fun _ hk=>hk.2) (.int .i64 ((rd_T53 t477 x44_3).f1))) (fun _ hk=>hk.2) (.int .i64 ((rd_T53 t477 x44_3).f2))) (fun _ h_=>h_.1))) hb);have n2_:=Aside0.mk (Kd.V_below (by (with_reducible repeat (first|apply Kd.V_alloc|apply Kd.V_drewN|apply Kd.V_drew));exact (Kd.V_mono (Kd.V_far (p:=⟨gb482,2,none⟩) (Kd.V_far (p:=⟨gb482,1,none⟩) (Kd.V_far (p:=⟨gb482,0,none⟩) (Kd.V_mono HO_28.out (fun k_ hk=>(⟨hk,hk.2⟩:_∧k_≠gb482))) (fun _ hk=>hk.2) (.int .i64 ((rd_T53 t477 x44_3).f0))) (fun _ hk=>hk.2) (.int .i64 ((rd_T53 t477 x44_3).f1))) (fun _ hk=>hk.2) (.int .i64 ((rd_T53 t477 x44_3).f2))) (fun _ h_=>h_.1))) hb);have n3_:=Aside0.mk (Kd.R_below (by (with_reducible repeat (first|apply Kd.R_alloc|apply Kd.R_drewN|apply Kd.R_drew));exact (Kd.R_mono (Kd.R_far (p:=⟨gb482,2,none⟩) (Kd.R_far (p:=⟨gb482,1,none⟩) (Kd.R_far (p:=⟨gb482,0,none⟩) (Kd.R_mono HO_42.out (fun k_ hk=>(⟨hk,hk.2⟩:_∧k_≠gb482))) (fun _ hk=>hk.2) (.int .i64 ((rd_T53 t477 x44_3).f0))) (fun _ hk=>hk.2) (.int .i64 ((rd_T53 t477 x44_3).f1))) (fun _ hk=>hk.2) (.int .i64 ((rd_T53 t477 x44_3).f2))) (fun _ h_=>h_.1))) hb);have n4_:=Aside0.mk (blk_below (g:=gb461) (o:=.cells #[.int .i64 a1_0,.int .i64 a1_1,.int .i64 a1_2] 53 (0,0)) (bkF BK461) hb);have n5_:=Aside0.mk (blk_below (g:=gb476) (o:=.cells #[.int .i64 ((rd_T53 (rd_L6 x8_1 x21_1) x30_2).f0),.int .i64 ((rd_T53 (rd_L6 x8_1 x21_1) x30_2).f1),.int .i64 ((rd_T53 (rd_L6 x8_1 x21_1) x30_2).f2)] 53 (0,0)) (bkF BK476) hb);have n6_:=Aside0.mk (blk_below (g:=gb482) (o:=.cells #[.int .i64 ((rd_T53 t477 x44_3).f0),.int .i64 ((rd_T53 t477 x44_3).f1),.int .i64 ((rd_T53 t477 x44_3).f2)] 53 (0,0)) (bpA BK482) hb);have n7_:=lB hb;clear HO_8;clear HO_10;clear HO_28;clear HO_42;clear BK461;clear BK476;clear BK482;clear HB;have HO_8:=n0_;have HO_10:=n1_;have HO_28:=n2_;have HO_42:=n3_;have BK461:=n4_;have BK476:=n5_;have BK482:=n6_;have HB:=n7_;clear n0_ n1_ n2_ n3_ n4_ n5_ n6_ n7_;clear hb;obtain ⟨hcz40_0,hcz40_1,hcz40_2,hfz40_0,hfz40_1,hfz40_2⟩:=cz3 BK482)|((with_reducible refine gate_builtin (b:=.append) (xs:=#[.tmp 54,.tmp 56]) rfl ?_);at_builtin;refine Kd.R_append k53 (w0:=w) w.heap.size rfl (.tmp 54) (.tmp 56) 38 53 (.agg #[(.int .i64 0),(.int .i64 0),(.int .i64 0)]) 24 rfl Try.underlying38 info53 rfl (by decide) (by omega) u10 x10_3 (⟨(rd_T53 t477 x44_3).f0,(rd_T53 t477 x44_3).f1,(rd_T53 t477 x44_3).f2⟩:S53) [.int .i64 ((rd_T53 t477 x44_3).f0),.int .i64 ((rd_T53 t477 x44_3).f1),.int .i64 ((rd_T53 t477 x44_3).f2)] (fun k_=>(w.heap.size≤k_)∧some k_≠(.slice (some ad481) t477.length co26:Value).ownBlock∧k_≠gb461∧k_≠gb476∧k_≠gb482) (fun _=>False) rfl rfl ?aP (fun _ hk=>hk.elim) ?aF ?aO ?aB ?aS ?aL ?_;(case aP=>exact k53_mkM _ _ _ (⟨(rd_T53 t477 x44_3).f0,(rd_T53 t477 x44_3).f1,(rd_T53 t477 x44_3).f2⟩:S53));(case aB=>exact blA);(case aF=>exact (fun k_ hk=>⟨(Nat.le_trans (below_size blA) hk),Kd.fresh' (Kd.R_lt (rA HO_42)) k_ hk,Kd.freshB (bkA BK461) k_ hk,Kd.freshB (bkA BK476) k_ hk,Kd.freshB (bkA BK482) k_ hk⟩));(case aO=>exact (by (with_reducible repeat (first|apply Kd.R_alloc|apply Kd.R_drewN|apply Kd.R_drew));exact Kd.R_mono HO_10.out (fun _ hk=>⟨hk.1.1,⟨hk.1.2.1,⟨hk.1.2.2.1,⟨hk.1.2.2.2,hk.2⟩⟩⟩⟩)));(case aS=>exact (below_size blA));(case aL=>have:=LMc32.out;omega);intro v485 w41 ho hb hg hat;rw [← Ny484.out] at ho;have HO486:=Aside0.mk ho;replace HO_8:=Aside0.mk (Kd.N_afterv (ok:=(fun k_=>(w.heap.size≤k_)∧some k_≠(.slice (some ad481) t477.length co26:Value).ownBlock∧k_≠gb461∧k_≠gb476∧k_≠gb482)) (by (with_reducible repeat (first|apply Kd.N_alloc|apply Kd.N_drewN|apply Kd.N_drew));exact Kd.N_mono HO_8.out (fun _ hk=>⟨⟨hk.1.1,⟨hk.1.2.2.1,⟨hk.1.2.2.2.1,⟨hk.1.2.2.2.2,hk.2⟩⟩⟩⟩,hk.1.2.1⟩)) hg hat);replace HO_28:=Aside0.mk (Kd.V_afterv (ok:=(fun k_=>(w.heap.size≤k_)∧some k_≠(.slice (some ad471) x8_1.length co16:Value).ownBlock∧some k_≠(.slice (some ad481) t477.length co26:Value).ownBlock∧k_≠gb461∧k_≠gb476∧k_≠gb482)) (by (with_reducible repeat (first|apply Kd.V_alloc|apply Kd.V_drewN|apply Kd.V_drew));exact Kd.V_mono HO_28.out (fun _ hk=>⟨⟨hk.1.1,⟨hk.1.2.1,⟨hk.1.2.2.2.1,⟨hk.1.2.2.2.2.1,⟨hk.1.2.2.2.2.2,hk.2⟩⟩⟩⟩⟩,hk.1.2.2.1⟩)) hg hat);replace HO_42:=Aside0.mk (Kd.R_after (ok:=(fun k_=>(w.heap.size≤k_)∧k_≠gb461∧k_≠gb476∧k_≠gb482)) (by (with_reducible repeat (first|apply Kd.R_alloc|apply Kd.R_drewN|apply Kd.R_drew));exact Kd.R_mono HO_42.out (fun _ hk=>⟨⟨hk.1.1,⟨hk.1.2.2.1,⟨hk.1.2.2.2,hk.2⟩⟩⟩,hk.1.2.1⟩)) hg hat);replace BK461:=Aside0.mk (blk_grown (bkA BK461) hg (Kd.R_away HO_10.out (fun _ hk=>hk.1.2.2.1)));replace BK476:=Aside0.mk (blk_grown (bkA BK476) hg (Kd.R_away HO_10.out (fun _ hk=>hk.1.2.2.2)));replace BK482:=Aside0.mk (blk_grown (bkA BK482) hg (Kd.R_away HO_10.out (fun _ hk=>hk.2)));replace HB:=Aside0.mk hb;clear HO_10;clear ho hb hg hat))
           ·
            go_roundg k3
            case measure=>have:=HK1.out;have:=HK2.out;have:=HK3.out;omega
            case rel=>exact ⟨(y484),(wrap64 (x44_3+1)),hB,H',⟨by have:=HK1.out;have:=HK2.out;have:=HK3.out;omega⟩,⟨by (with_reducible repeat (first|apply Kd.N_alloc|apply Kd.N_drewN|apply Kd.N_drew));exact Kd.N_mono HO_8.out (fun _ hk=>⟨hk.1.1,⟨hk.2,⟨hk.1.2.1,⟨hk.1.2.2.1,hk.1.2.2.2.1⟩⟩⟩⟩)⟩,⟨by (with_reducible repeat (first|apply Kd.R_alloc|apply Kd.R_drewN|apply Kd.R_drew));exact Kd.R_mono HO486.out (fun _ hk=>⟨hk.1,⟨hk.2.1,⟨hk.2.2.1,hk.2.2.2.1⟩⟩⟩)⟩,⟨by (with_reducible repeat (first|apply Kd.V_alloc|apply Kd.V_drewN|apply Kd.V_drew));exact Kd.V_mono HO_28.out (fun _ hk=>⟨hk.1.1,⟨hk.1.2.1,⟨hk.2,⟨hk.1.2.2.1,⟨hk.1.2.2.2.1,hk.1.2.2.2.2.1⟩⟩⟩⟩⟩)⟩,⟨by (with_reducible repeat (first|apply Kd.R_alloc|apply Kd.R_drewN|apply Kd.R_drew));exact Kd.R_mono HO_42.out (fun _ hk=>⟨hk.1.1,⟨hk.2,⟨hk.1.2.1,hk.1.2.2.1⟩⟩⟩)⟩,⟨bkA BK461⟩,⟨bkA BK476⟩,⟨blA⟩⟩
           ·
            go_roundg k3
            case measure=>have:=HK1.out;have:=HK2.out;have:=HK3.out;omega
            case rel=>exact ⟨(x10_3),(wrap64 (x44_3+1)),hB,H',⟨by have:=HK1.out;have:=HK2.out;have:=HK3.out;omega⟩,⟨by (with_reducible repeat (first|apply Kd.N_alloc|apply Kd.N_drewN|apply Kd.N_drew));exact Kd.N_mono HO_8.out (fun _ hk=>⟨hk.1.1,⟨hk.1.2.1,⟨hk.1.2.2.1,⟨hk.1.2.2.2.1,hk.1.2.2.2.2⟩⟩⟩⟩)⟩,⟨by (with_reducible repeat (first|apply Kd.R_alloc|apply Kd.R_drewN|apply Kd.R_drew));exact Kd.R_mono HO_10.out (fun _ hk=>⟨hk.1.1,⟨hk.1.2.1,⟨hk.1.2.2.1,hk.1.2.2.2⟩⟩⟩)⟩,⟨by (with_reducible repeat (first|apply Kd.V_alloc|apply Kd.V_drewN|apply Kd.V_drew));exact Kd.V_mono HO_28.out (fun _ hk=>⟨hk.1.1,⟨hk.1.2.1,⟨hk.1.2.2.1,⟨hk.1.2.2.2.1,⟨hk.1.2.2.2.2.1,hk.1.2.2.2.2.2⟩⟩⟩⟩⟩)⟩,⟨by (with_reducible repeat (first|apply Kd.R_alloc|apply Kd.R_drewN|apply Kd.R_drew));exact Kd.R_mono HO_42.out (fun _ hk=>⟨hk.1.1,⟨hk.1.2.1,⟨hk.1.2.2.1,hk.1.2.2.2⟩⟩⟩)⟩,⟨bkA BK461⟩,⟨bkA BK476⟩,⟨blA⟩⟩
          ·
           rw [if_neg c27] at H
           have c27b0:=decide_eq_false c27
           clear c27
           have H':=Aside0.mk H
           clear H
           go_wp2
           go_roundg k3
           case measure=>have:=HK1.out;have:=HK2.out;have:=HK3.out;omega
           case rel=>exact ⟨(x10_3),(wrap64 (x30_2+1)),hB,H',⟨by have:=HK1.out;have:=HK2.out;have:=HK3.out;omega⟩,⟨by (with_reducible repeat (first|apply Kd.N_alloc|apply Kd.N_drewN|apply Kd.N_drew));exact Kd.N_mono HO_8.out (fun _ hk=>⟨hk.1,⟨hk.2.1,hk.2.2.2.1⟩⟩)⟩,⟨by (with_reducible repeat (first|apply Kd.R_alloc|apply Kd.R_drewN|apply Kd.R_drew));exact Kd.R_mono HO_10.out (fun _ hk=>⟨hk.1,hk.2.2.1⟩)⟩,⟨by (with_reducible repeat (first|apply Kd.V_alloc|apply Kd.V_drewN|apply Kd.V_drew));exact Kd.V_mono HO_28.out (fun _ hk=>⟨hk.1,⟨hk.2.1,⟨hk.2.2.1,hk.2.2.2.2.1⟩⟩⟩)⟩,⟨bkA BK461⟩,⟨blA⟩⟩
       ·
        replace c21:=Bool.eq_false_iff.mpr c21
        subst c21
        rw [if_neg (show ¬ (false=true) by decide)] at H
        try dsimp only at H
        simp only [Option.some.injEq,Prod.mk.injEq] at H
        obtain ⟨rfl,rfl⟩:=H
        have p475:0≤(x30_2:Int):=dA
        have q475:x30_2<((rd_L6 x8_1 x21_1).length:Int):=dA
        obtain ⟨ad475,e475,hx475_0,hx475_1,hx475_2⟩:=at_T53 (Kd.V_reads' HO_28.out).2.2 x30_2 p475 q475
        cases e475
        replace p475:=eq_true p475
        replace q475:=eq_true q475
        go_wp2_with (first|((with_reducible refine gate_dst (N:=12) rfl ?_);refine bxE (cs:=#[.int .i64 0,.int .i64 0,.int .i64 0]) (t:=53) ?_;intro gb476 hg w49 hbox hb;have BK476:=Aside0.mk hbox;have GW476:=sA hg;have GE476:=sA hg;have NB461_476:=nA hg BK461;have NB476_461:=nB hg BK461;replace HO_8:=Aside0.mk (Kd.N_below (Kd.N_elderB (rN HO_8) gb476 (Nat.le_of_eq hg.symm)) hb);replace HO_10:=Aside0.mk (Kd.R_below (Kd.R_elderB (rA HO_10) gb476 (Nat.le_of_eq hg.symm)) hb);replace HO_28:=Aside0.mk (Kd.V_below (Kd.V_elderB (rV HO_28) gb476 (Nat.le_of_eq hg.symm)) hb);replace BK461:=kB BK461 hb;replace HB:=lB hb;clear hb hbox hg;have hnb50:=NB476_461.out;have hnc50:=NB461_476.out;obtain ⟨hcz51_0,hcz51_1,hcz51_2,hfz51_0,hfz51_1,hfz51_2⟩:=cz3 BK476)|((with_reducible refine gate_callee (f:=54) rfl ?_);refine gL (some 37) rfl Try.func54 #[.int .i64 a0,.agg #[.int .i64 ((rd_T53 (rd_L6 x8_1 x21_1) x30_2).f0),.int .i64 ((rd_T53 (rd_L6 x8_1 x21_1) x30_2).f1),.int .i64 ((rd_T53 (rd_L6 x8_1 x21_1) x30_2).f2)],.int .i64 0] ?_;(with_reducible refine (impl_someNeighbours.calls k2 a0 ((rd_T53 (rd_L6 x8_1 x21_1) x30_2).f0) ((rd_T53 (rd_L6 x8_1 x21_1) x30_2).f1) ((rd_T53 (rd_L6 x8_1 x21_1) x30_2).f2) 0 t477 false _ A20.out).mono ?_);rintro e w52 ⟨v478,rfl,ho0,hb⟩;refine ⟨_,rfl,?_⟩;have n0_:=Aside0.mk (Kd.N_elder' (by (with_reducible repeat (first|apply Kd.N_alloc|apply Kd.N_drewN|apply Kd.N_drew));exact (Kd.N_mono (Kd.N_far (p:=⟨gb476,2,none⟩) (Kd.N_far (p:=⟨gb476,1,none⟩) (Kd.N_far (p:=⟨gb476,0,none⟩) (Kd.N_mono HO_8.out (fun k_ hk=>(⟨hk,hk.2⟩:_∧k_≠gb476))) (fun _ hk=>hk.2) (.int .i64 ((rd_T53 (rd_L6 x8_1 x21_1) x30_2).f0))) (fun _ hk=>hk.2) (.int .i64 ((rd_T53 (rd_L6 x8_1 x21_1) x30_2).f1))) (fun _ hk=>hk.2) (.int .i64 ((rd_T53 (rd_L6 x8_1 x21_1) x30_2).f2))) (fun _ h_=>h_.1))) (Kd.R_base ho0) hb);have n1_:=Aside0.mk (Kd.R_elder' (by (with_reducible repeat (first|apply Kd.R_alloc|apply Kd.R_drewN|apply Kd.R_drew));exact (Kd.R_mono (Kd.R_far (p:=⟨gb476,2,none⟩) (Kd.R_far (p:=⟨gb476,1,none⟩) (Kd.R_far (p:=⟨gb476,0,none⟩) (Kd.R_mono HO_10.out (fun k_ hk=>(⟨hk,hk.2⟩:_∧k_≠gb476))) (fun _ hk=>hk.2) (.int .i64 ((rd_T53 (rd_L6 x8_1 x21_1) x30_2).f0))) (fun _ hk=>hk.2) (.int .i64 ((rd_T53 (rd_L6 x8_1 x21_1) x30_2).f1))) (fun _ hk=>hk.2) (.int .i64 ((rd_T53 (rd_L6 x8_1 x21_1) x30_2).f2))) (fun _ h_=>h_.1))) (Kd.R_base ho0) hb);have n2_:=Aside0.mk (Kd.V_elder' (by (with_reducible repeat (first|apply Kd.V_alloc|apply Kd.V_drewN|apply Kd.V_drew));exact (Kd.V_mono (Kd.V_far (p:=⟨gb476,2,none⟩) (Kd.V_far (p:=⟨gb476,1,none⟩) (Kd.V_far (p:=⟨gb476,0,none⟩) (Kd.V_mono HO_28.out (fun k_ hk=>(⟨hk,hk.2⟩:_∧k_≠gb476))) (fun _ hk=>hk.2) (.int .i64 ((rd_T53 (rd_L6 x8_1 x21_1) x30_2).f0))) (fun _ hk=>hk.2) (.int .i64 ((rd_T53 (rd_L6 x8_1 x21_1) x30_2).f1))) (fun _ hk=>hk.2) (.int .i64 ((rd_T53 (rd_L6 x8_1 x21_1) x30_2).f2))) (fun _ h_=>h_.1))) (Kd.R_base ho0) hb);have n3_:=Aside0.mk (Kd.R_lower (Kd.R_newB (Kd.R_newB (Kd.R_new' (Kd.R_newM (M:=fun k_=>(w.heap.size≤k_)) ho0 (below_size blA) (fun k_ h_=>h_)) (Kd.R_lt (by (with_reducible repeat (first|apply Kd.R_alloc|apply Kd.R_drewN|apply Kd.R_drew));exact (Kd.R_mono (Kd.R_far (p:=⟨gb476,2,none⟩) (Kd.R_far (p:=⟨gb476,1,none⟩) (Kd.R_far (p:=⟨gb476,0,none⟩) (Kd.R_mono HO_10.out (fun k_ hk=>(⟨hk,hk.2⟩:_∧k_≠gb476))) (fun _ hk=>hk.2) (.int .i64 ((rd_T53 (rd_L6 x8_1 x21_1) x30_2).f0))) (fun _ hk=>hk.2) (.int .i64 ((rd_T53 (rd_L6 x8_1 x21_1) x30_2).f1))) (fun _ hk=>hk.2) (.int .i64 ((rd_T53 (rd_L6 x8_1 x21_1) x30_2).f2))) (fun _ h_=>h_.1))))) (g:=gb461) (o:=.cells #[.int .i64 a1_0,.int .i64 a1_1,.int .i64 a1_2] 53 (0,0)) (bkF BK461)) (g:=gb476) (o:=.cells #[.int .i64 ((rd_T53 (rd_L6 x8_1 x21_1) x30_2).f0),.int .i64 ((rd_T53 (rd_L6 x8_1 x21_1) x30_2).f1),.int .i64 ((rd_T53 (rd_L6 x8_1 x21_1) x30_2).f2)] 53 (0,0)) (bpA BK476)) (below_size blA));have n4_:=Aside0.mk (blk_below (g:=gb461) (o:=.cells #[.int .i64 a1_0,.int .i64 a1_1,.int .i64 a1_2] 53 (0,0)) (bkF BK461) hb);have n5_:=Aside0.mk (blk_below (g:=gb476) (o:=.cells #[.int .i64 ((rd_T53 (rd_L6 x8_1 x21_1) x30_2).f0),.int .i64 ((rd_T53 (rd_L6 x8_1 x21_1) x30_2).f1),.int .i64 ((rd_T53 (rd_L6 x8_1 x21_1) x30_2).f2)] 53 (0,0)) (bpA BK476) hb);have n6_:=lB hb;clear HO_8;clear HO_10;clear HO_28;clear BK461;clear BK476;clear HB;have HO_8:=n0_;have HO_10:=n1_;have HO_28:=n2_;have HO479:=n3_;have BK461:=n4_;have BK476:=n5_;have HB:=n6_;clear n0_ n1_ n2_ n3_ n4_ n5_ n6_;clear ho0 hb))
        go_ret2
        exact ⟨_,eW,by first|exact Kd.S_nil _ _ _ _ _|exact Kd.N_nil _ _ _ _ _|exact Kd.V_nil _ _ _ _ _|exact Kd.Q_nil _ _ _ _ _|exact Kd.R_nil _ _ _ _ _,blA⟩
      ·
       rw [if_neg c17] at H
       have c17b0:=decide_eq_false c17
       clear c17
       by_cases c53:x8_1.length<5864062014805
       rotate_left
       ·
        rw [if_neg c53] at H
        exact absurd H (by simp)
       rw [if_pos c53] at H
       have LMc53:=Aside0.mk c53
       clear c53
       obtain ⟨y472,hy472⟩:∃ y_:List (List (S53)),y_=(x8_1 ++ [x10_2]):=⟨_,rfl⟩
       replace H:(impl_spheres.l0 k2 a0 y472 a2 (wrap64 (x21_1+1)) a1_0 a1_1 a1_2)=some (r1,r2):=rH hy472 H
       have Ny472:=Aside0.mk hy472
       clear hy472
       have H':=Aside0.mk H
       clear H
       obtain ⟨Ao55,co55,eo55⟩:=Kd.R_slice HO_10.out
       subst eo55
       go_wp2_with (first|((with_reducible refine gate_builtin (b:=.append) (xs:=#[.tmp 60,.tmp 62]) rfl ?_);at_builtin;refine Kd.N_append (Kd.slice 53 k53) (w0:=w) w.heap.size rfl (.tmp 60) (.tmp 62) 62 38 (.slice none 0 0) 24 rfl Try.underlying62 info38 rfl (by decide) (by omega) (.slice (some ad471) x8_1.length co16) x8_1 x10_2 [.slice Ao55 x10_2.length co55] (fun k_=>(w.heap.size≤k_)∧k_≠gb461) (fun k_=>((fun k_=>(w.heap.size≤k_)∧k_≠gb461)) k_∧some k_≠(.slice (some ad471) x8_1.length co16:Value).ownBlock) rfl rfl ?aP (fun _ hk=>hk) ?aF ?aO ?aB ?aS ?aL ?_;(case aP=>exact (Kd.FK_slice_mk (Kd.R_reads' (Kd.R_mono (ok':=(fun k_=>((fun k_=>(w.heap.size≤k_)∧k_≠gb461)) k_∧some k_≠(.slice (some ad471) x8_1.length co16:Value).ownBlock)) (Kd.R_apart' (HO_10.out) (Kd.N_typed HO_8.out) (by decide)) (fun k_ hk=>⟨⟨hk.1.1,hk.1.2⟩,hk.2⟩))).2.1 (Kd.R_F (Kd.R_mono (ok':=(fun k_=>((fun k_=>(w.heap.size≤k_)∧k_≠gb461)) k_∧some k_≠(.slice (some ad471) x8_1.length co16:Value).ownBlock)) (Kd.R_apart' (HO_10.out) (Kd.N_typed HO_8.out) (by decide)) (fun k_ hk=>⟨⟨hk.1.1,hk.1.2⟩,hk.2⟩)))));(case aB=>exact blA);(case aF=>exact (fun k_ hk=>⟨(Nat.le_trans (below_size blA) hk),Kd.freshB (bkA BK461) k_ hk⟩));(case aO=>exact (by (with_reducible repeat (first|apply Kd.N_alloc|apply Kd.N_drewN|apply Kd.N_drew));exact Kd.N_mono HO_8.out (fun _ hk=>⟨hk.1,hk.2.2⟩)));(case aS=>exact (below_size blA));(case aL=>have:=LMc53.out;omega);intro v473 w54 ho hb hg hat;rw [← Ny472.out] at ho;have HO474:=Aside0.mk ho;replace HO_28:=Aside0.mk (Kd.V_afterv (ok:=(fun k_=>(w.heap.size≤k_)∧some k_≠(.slice Ao55 x10_2.length co55:Value).ownBlock∧k_≠gb461)) (by (with_reducible repeat (first|apply Kd.V_alloc|apply Kd.V_drewN|apply Kd.V_drew));exact Kd.V_mono HO_28.out (fun _ hk=>⟨⟨hk.1,⟨hk.2.2.1,hk.2.2.2⟩⟩,hk.2.1⟩)) hg hat);replace BK461:=Aside0.mk (blk_grown (bkA BK461) hg (Kd.N_ne HO_8.out BK461.out (by decide)));replace HB:=Aside0.mk hb;clear HO_8 HO_10;clear ho hb hg hat))
       go_roundg k2
       case measure=>have:=HK1.out;have:=HK2.out;omega
       case rel=>exact ⟨(y472),(wrap64 (x21_1+1)),hB,H',⟨by have:=HK1.out;have:=HK2.out;omega⟩,⟨rN HO474⟩,⟨bkA BK461⟩,⟨blA⟩⟩
   ·
    rw [if_neg c11] at H
    have c11b0:=decide_eq_false c11
    clear c11
    simp only [Option.some.injEq,Prod.mk.injEq] at H
    obtain ⟨rfl,rfl⟩:=H
    go_wp2
    go_ret2
    exact ⟨_,eW,by (with_reducible repeat (first|apply Kd.N_alloc|apply Kd.N_drewN|apply Kd.N_drew));exact Kd.N_mono HO_8.out (fun _ hk=>hk.1),blA⟩
def spec_l06Region.l0:Nat→Int→Int→List (S53)→Int→Option ((List (S53)))
 | 0,_,_,_,_=>none
 | k+1,x0,x1,x5,x6=>if x6≤x1 then ((spec_SphereAround.f k x0 0 0 0 x6).bind fun bt273=>(if x5.length+bt273.1.length<5864062014805 then (spec_l06Region.l0 k x0 x1 (x5 ++ bt273.1) (wrap64 (x6+1))) else (none))) else (some x5)
def spec_l06Region.f (k:Nat) (a0 a1:Int):Option ((List (S53))):=spec_l06Region.l0 k a0 a1 (([]:List (S53))) 0
theorem spec_l06Region.mono_l:∀ k,(∀ y0 y1 y2 y3,LeO (spec_l06Region.l0 k y0 y1 y2 y3) (spec_l06Region.l0 (k+1) y0 y1 y2 y3))
 | 0=>fun _ _ _ _ r h=>by simp [spec_l06Region.l0] at h
 | k+1=>by
  have ih0:=spec_l06Region.mono_l k
  ·
   intro y0 y1 y2 y3
   unfold spec_l06Region.l0
   repeat' first
   | with_reducible first|exact ih0 ..|exact spec_SphereAround.mono ..|exact LeO.refl _|exact LeO.none _|refine LeO.ite ?_ ?_|refine LeO.bind ?_ fun _=>?_
theorem spec_l06Region.mono:∀ a0 a1 k,LeO (spec_l06Region.f k a0 a1) (spec_l06Region.f (k+1) a0 a1):=by
 intro a0 a1 k
 have ih0:=spec_l06Region.mono_l k
 unfold spec_l06Region.f
 repeat' first
   | with_reducible first|exact ih0 ..|exact spec_SphereAround.mono ..|exact LeO.refl _|exact LeO.none _|refine LeO.ite ?_ ?_|refine LeO.bind ?_ fun _=>?_
set_option maxHeartbeats 8000000 in
set_option maxRecDepth 100000 in
theorem spec_l06Region.calls (k:Nat) (a0 a1:Int) (r:List (S53)) (w:World) (h:spec_l06Region.f k a0 a1=some r) :
  Calls Try.prog 16 #[.int .i64 a0,.int .i64 a1] w fun e w'=>∃ v0_:Value,e=.returned (v0_)∧Kd.R k53 53 w' w.heap.size (fun _=>True) v0_ r∧Below w.heap.size w w':=by
 have hu53:=Try.underlying53
 have HB:=Aside0.mk (Below.refl w.heap.size w)
 have H:=h
 unfold spec_l06Region.f at H
 clear h
 obtain ⟨y270,hy270⟩:∃ y_:List (S53),y_=(([]:List (S53))):=⟨_,rfl⟩
 replace H:(spec_l06Region.l0 k a0 a1 y270 0)=some r:=rH hy270 H
 have Ny270:=Aside0.mk hy270
 clear hy270
 have H':=Aside0.mk H
 clear H
 go_enter Try.func16,Try.ntmps16
 go_wp2_with (first|((with_reducible refine gate_dst (N:=9) rfl ?_);refine Kd.R_lit k53 _ 53 ?hg (N:=9) ?hd (xs:=([]:List (S53))) (inner:=[]) (ok:=fun _=>True) (okp:=fun _=>True) ?hr ?hp (fun _ hk=>hk) trivial (Below.refl _ _) (Nat.le_refl _) (by simp) ?_;(case hd=>rfl);(case hg=>rfl);(case hr=>first|(go_simp;done)|(go_simp;rfl));(case hp=>exact (Reps.none _ _));intro v271 w3 ho4 hb hg_ hnew_;clear hg_ hnew_;(first|rw [← Ny270.out] at ho4|(simp only [Int.reduceToNat] at ho4;rw [← Ny270.out] at ho4));have HO272:=Aside0.mk (Kd.R_lower ho4 (below_size blA));replace HB:=lB hb;clear hb ho4))
 go_loopg [5,6] k (fun kq v5 v6 w'=>∃ (x5_1:List (S53)) (x6_1:Int),v6=.int .i64 x6_1∧Aside0 (spec_l06Region.l0 kq a0 a1 x5_1 x6_1=some r)∧Aside0 (kq≤k)∧Aside0 (Kd.R k53 53 w' w.heap.size (fun _=>True) v5 x5_1)∧Aside0 (Below w.heap.size w w'))
 case atStart=>exact ⟨(y270),(0),hB,H',⟨Nat.le_refl _⟩,⟨rA HO272⟩,⟨blA⟩⟩
 case round=>
  clear H'
  obtain ⟨x5_1,x6_1,rfl,HA,HK1,HO_5,HB⟩:=hrel
  cases gk with
  | zero=>exact absurd HA.out (by simp [spec_l06Region.l0])
  | succ k1=>
   have H:=HA.out
   clear HA
   simp only [spec_l06Region.l0] at H
   by_cases c5:x6_1≤a1
   ·
    rw [if_pos c5] at H
    have c5b0:=decide_eq_true c5
    clear c5
    replace H:=bS H
    obtain ⟨⟨t273,t276⟩,A6,H⟩:=H
    try dsimp only at H
    by_cases c7:x5_1.length+t273.length<5864062014805
    rotate_left
    ·
     rw [if_neg c7] at H
     exact absurd H (by simp)
    rw [if_pos c7] at H
    have LMc7:=Aside0.mk c7
    clear c7
    obtain ⟨y277,hy277⟩:∃ y_:List (S53),y_=(x5_1 ++ t273):=⟨_,rfl⟩
    replace H:(spec_l06Region.l0 k1 a0 a1 y277 (wrap64 (x6_1+1)))=some r:=rH hy277 H
    have Ny277:=Aside0.mk hy277
    clear hy277
    have H':=Aside0.mk H
    clear H
    go_wp2_with (first|((with_reducible refine gate_callee (f:=30) rfl ?_);refine gL (some 19) rfl Try.func30 #[.int .i64 a0,.agg #[.int .i64 0,.int .i64 0,.int .i64 0],.int .i64 x6_1] ?_;(with_reducible refine (spec_SphereAround.calls k1 a0 0 0 0 x6_1 t273 t276 _ A6.out).mono ?_);rintro e w8 ⟨v274,rfl,ho0,hb⟩;refine ⟨_,rfl,?_⟩;have HO275:=Aside0.mk (Kd.R_lower (Kd.R_new' ho0 (Kd.R_lt (rA HO_5))) (below_size blA));replace HO_5:=Aside0.mk (Kd.R_elder' (rA HO_5) (Kd.R_base ho0) hb);replace HB:=lB hb;clear ho0 hb;obtain ⟨Ao10,co10,eo10⟩:=Kd.R_slice HO275.out;subst eo10)|((with_reducible refine gate_builtin (b:=.append) (xs:=#[.tmp 22,.tmp 23]) rfl ?_);at_builtin;refine Kd.R_append_rows k53 (w0:=w) w.heap.size rfl (.tmp 22) (.tmp 23) 38 53 (.agg #[(.int .i64 0),(.int .i64 0),(.int .i64 0)]) 24 rfl Try.underlying38 info53 rfl (by decide) (by omega) u5 x5_1 t273 _ _ _ (fun k_=>some k_≠(.slice Ao10 t273.length co10:Value).ownBlock) (fun _=>False) rfl rfl ?aO ?aR (fun _ _ h=>h) (fun _ h=>h.elim) ?aF ?aB ?aS ?aL ?_;(case aR=>exact cR (Kd.R_reads' HO275.out).2.2);(case aB=>exact blA);(case aF=>exact (fun k_ hk=>Kd.fresh' (Kd.R_lt (rA HO275)) k_ hk));(case aO=>exact (by (with_reducible repeat (first|apply Kd.R_alloc|apply Kd.R_drewN|apply Kd.R_drew));exact Kd.R_mono HO_5.out (fun _ hk=>hk.2)));(case aS=>exact (below_size blA));(case aL=>have:=LMc7.out;omega);intro v278 w9 ho hb hg hat;rw [← Ny277.out] at ho;have HO279:=Aside0.mk ho;replace HO275:=Aside0.mk (Kd.R_after (ok:=(fun _=>True)) (rA HO275) hg hat);replace HB:=Aside0.mk hb;clear HO_5;clear ho hb hg hat))
    go_roundg k1
    case measure=>have:=HK1.out;omega
    case rel=>exact ⟨(y277),(wrap64 (x6_1+1)),hB,H',⟨by have:=HK1.out;omega⟩,⟨by (with_reducible repeat (first|apply Kd.R_alloc|apply Kd.R_drewN|apply Kd.R_drew));exact Kd.R_mono HO279.out (fun _ hk=>trivial)⟩,⟨blA⟩⟩
   ·
    rw [if_neg c5] at H
    have c5b0:=decide_eq_false c5
    clear c5
    obtain rfl:=Option.some.inj H
    go_wp2
    go_ret
    exact ⟨_,eW,rA HO_5,blA⟩
def impl_region.f (k:Nat) (a0 a1:Int):Option ((List (S53))):=(impl_spheres.f k a0 0 0 0 a1).bind fun bt495=>((impl_Ball_38.f k bt495.1).bind fun t499=>(some t499))
theorem impl_region.mono:∀ a0 a1 k,LeO (impl_region.f k a0 a1) (impl_region.f (k+1) a0 a1):=by
 intro a0 a1 k
 unfold impl_region.f
 repeat' first
   | with_reducible first|exact impl_Ball_38.mono ..|exact impl_spheres.mono ..|exact LeO.refl _|exact LeO.none _|refine LeO.ite ?_ ?_|refine LeO.bind ?_ fun _=>?_
set_option maxHeartbeats 8000000 in
set_option maxRecDepth 100000 in
theorem impl_region.calls (k:Nat) (a0 a1:Int) (r:List (S53)) (w:World) (h:impl_region.f k a0 a1=some r) :
  Calls Try.prog 20 #[.int .i64 a0,.int .i64 a1] w fun e w'=>∃ v0_:Value,e=.returned (v0_)∧Kd.R k53 53 w' w.heap.size (fun _=>True) v0_ r∧Below w.heap.size w w':=by
 have hu53:=Try.underlying53
 have HB:=Aside0.mk (Below.refl w.heap.size w)
 have H:=h
 unfold impl_region.f at H
 clear h
 replace H:=bS H
 obtain ⟨⟨t495,t498⟩,A3,H⟩:=H
 try dsimp only at H
 replace H:=bS H
 obtain ⟨t499,A4,H⟩:=H
 try dsimp only at H
 obtain rfl:=Option.some.inj H
 go_enter Try.func20,Try.ntmps20
 go_wp2_with (first|((with_reducible refine gate_callee (f:=37) rfl ?_);refine gL (some 11) rfl Try.func37 #[.int .i64 a0,.agg #[.int .i64 0,.int .i64 0,.int .i64 0],.int .i64 a1] ?_;(with_reducible refine (impl_spheres.calls k a0 0 0 0 a1 t495 t498 _ A3.out).mono ?_);rintro e w5 ⟨v496,rfl,ho0,hb⟩;refine ⟨_,rfl,?_⟩;have HO497:=Aside0.mk (Kd.N_lower (Kd.N_mono (ok':=fun k_=>True) ho0 (fun k_ hk_=>trivial)) (below_size blA));replace HB:=lB hb;clear ho0 hb;obtain ⟨Ao6,co6,eo6⟩:=Kd.N_slice HO497.out;subst eo6)|((with_reducible refine gate_callee (f:=38) rfl ?_);refine gL (some 15) rfl Try.func38 #[.slice Ao6 t495.length co6] ?_;(with_reducible refine (impl_Ball_38.calls k _ _ t495 t499 _ ?side1 ?side2 A4.out).mono ?_);(case side1=>exact cR (Kd.N_reads' HO497.out).2.2);(case side2=>exact (Kd.N_reads' HO497.out).2.1);rintro e w7 ⟨v500,rfl,ho0,hb⟩;refine ⟨_,rfl,?_⟩;have HO501:=Aside0.mk (Kd.R_lower ho0 (below_size blA));replace HO497:=Aside0.mk (Kd.N_elder' (rN HO497) (Kd.R_base ho0) hb);replace HB:=lB hb;clear ho0 hb))
 go_ret
 exact ⟨_,eW,rA HO501,blA⟩
end Go.Proofs.Ytnhiehpbkimaeaa.PAll
