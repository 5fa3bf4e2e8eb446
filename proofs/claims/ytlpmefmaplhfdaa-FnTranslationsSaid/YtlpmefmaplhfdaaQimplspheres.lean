-- turned out of the kit's print
import Derived.Test.YtlpmefmaplhfdaaQx
import Derived.Test.YtlpmefmaplhfdaaQspecDrawLengthOf
import Derived.Test.YtlpmefmaplhfdaaQspecl04With
namespace Go.Proofs.Ytlpmefmaplhfdaa.PAll
open Go.RowKit Go.Proofs.YtlpmefmaplhfdaaW.PrintWords Go.Proofs.YtlpmefmaplhfdaaW.PrintLast Go.Proofs.YtlpmefmaplhfdaaW.PrintMore
attribute [local go_sem] Go.Proofs.Ytlpmefmaplhfdaa.Aux.setCell_drewN Go.Proofs.Ytlpmefmaplhfdaa.Aux.isSome_setCell max2_int min2_int max_two min_two max_three min_three max_four min_four
set_option linter.unusedVariables false
set_option linter.unusedSimpArgs false
mutual
def impl_spheres.l0:Nat→Int→List (List (S28))→Int→Int→Int→Int→Int→Option ((List (List (S28))) × Bool)
 | 0,_,_,_,_,_,_,_=>none
 | k+1,x0,x8,x20,x21,x879000,x879001,x879002=>if x21<x20 then (if 0≤x21 then (if x21<(x8.length:Int) then (impl_spheres.l1 k x0 x8 x21 (([]:List (S28))) x20 x21 (rd_L5 x8 x21) ((rd_L5 x8 x21).length:Int) 0 x879000 x879001 x879002) else (none)) else (none)) else (some (x8,true))
def impl_spheres.l1:Nat→Int→List (List (S28))→Int→List (S28)→Int→Int→List (S28)→Int→Int→Int→Int→Int→Option ((List (List (S28))) × Bool)
 | 0,_,_,_,_,_,_,_,_,_,_,_,_=>none
 | k+1,x0,x8,x9,x10,x20,x21,x28,x29,x30,x879000,x879001,x879002=>if x30<x29 then (if 0≤x30 then (if x30<(x28.length:Int) then ((impl_someNeighbours.f k x0 ((rd_T28 x28 x30).f0) ((rd_T28 x28 x30).f1) ((rd_T28 x28 x30).f2) 0).bind fun bt894=>(if bt894.2=true then (impl_spheres.l2 k x0 x8 x9 x10 x20 x21 x28 x29 x30 bt894.1 (bt894.1.length:Int) 0 x879000 x879001 x879002) else (some (([]:List (List (S28))),false)))) else (none)) else (none)) else (if x8.length<5864062014805 then (impl_spheres.l0 k x0 (x8 ++ [x10]) x20 (wrap64 (x21+1)) x879000 x879001 x879002) else (none))
def impl_spheres.l2:Nat→Int→List (List (S28))→Int→List (S28)→Int→Int→List (S28)→Int→Int→List (S28)→Int→Int→Int→Int→Int→Option ((List (List (S28))) × Bool)
 | 0,_,_,_,_,_,_,_,_,_,_,_,_,_,_,_=>none
 | k+1,x0,x8,x9,x10,x20,x21,x28,x29,x30,x42,x43,x44,x879000,x879001,x879002=>if x44<x43 then (if 0≤x44 then (if x44<(x42.length:Int) then ((impl_distance.f k x0 x879000 x879001 x879002 ((rd_T28 x42 x44).f0) ((rd_T28 x42 x44).f1) ((rd_T28 x42 x44).f2)).bind fun t900=>(if t900>x9 then (if x10.length<5864062014805 then (impl_spheres.l2 k x0 x8 x9 (x10 ++ [(⟨(rd_T28 x42 x44).f0,(rd_T28 x42 x44).f1,(rd_T28 x42 x44).f2⟩:S28)]) x20 x21 x28 x29 x30 x42 x43 (wrap64 (x44+1)) x879000 x879001 x879002) else (none)) else (impl_spheres.l2 k x0 x8 x9 x10 x20 x21 x28 x29 x30 x42 x43 (wrap64 (x44+1)) x879000 x879001 x879002))) else (none)) else (none)) else (impl_spheres.l1 k x0 x8 x9 x10 x20 x21 x28 x29 (wrap64 (x30+1)) x879000 x879001 x879002)
end
def impl_spheres.f (k:Nat) (a0 a1_0 a1_1 a1_2 a2:Int):Option ((List (List (S28))) × Bool):=impl_spheres.l0 k a0 (([(([(⟨a1_0,a1_1,a1_2⟩:S28)]:List (S28)))]:List (List (S28)))) a2 0 a1_0 a1_1 a1_2
theorem impl_spheres.mono_l:∀ k,(∀ y0 y1 y2 y3 y4 y5 y6,LeO (impl_spheres.l0 k y0 y1 y2 y3 y4 y5 y6) (impl_spheres.l0 (k+1) y0 y1 y2 y3 y4 y5 y6))∧(∀ y0 y1 y2 y3 y4 y5 y6 y7 y8 y9 y10 y11,LeO (impl_spheres.l1 k y0 y1 y2 y3 y4 y5 y6 y7 y8 y9 y10 y11) (impl_spheres.l1 (k+1) y0 y1 y2 y3 y4 y5 y6 y7 y8 y9 y10 y11))∧(∀ y0 y1 y2 y3 y4 y5 y6 y7 y8 y9 y10 y11 y12 y13 y14,LeO (impl_spheres.l2 k y0 y1 y2 y3 y4 y5 y6 y7 y8 y9 y10 y11 y12 y13 y14) (impl_spheres.l2 (k+1) y0 y1 y2 y3 y4 y5 y6 y7 y8 y9 y10 y11 y12 y13 y14))
 | 0=>by refine ⟨?_,?_,?_⟩ <;> (intros;intro r h;simp [impl_spheres.l0,impl_spheres.l1,impl_spheres.l2] at h)
 | k+1=>by
  obtain ⟨ih0,ih1,ih2⟩:=impl_spheres.mono_l k
  refine ⟨?_,?_,?_⟩ <;> (intros;first|unfold impl_spheres.l0|unfold impl_spheres.l1|unfold impl_spheres.l2)
  all_goals repeat' first
  | with_reducible first|exact ih0 ..|exact ih1 ..|exact ih2 ..|exact impl_distance.mono ..|exact impl_someNeighbours.mono ..|exact LeO.refl _|exact LeO.none _|refine LeO.ite ?_ ?_|refine LeO.bind ?_ fun _=>?_
theorem impl_spheres.mono:∀ a0 a1 a2 a3 a4 k,LeO (impl_spheres.f k a0 a1 a2 a3 a4) (impl_spheres.f (k+1) a0 a1 a2 a3 a4):=by
 intro a0 a1 a2 a3 a4 k
 obtain ⟨ih0,ih1,ih2⟩:=impl_spheres.mono_l k
 unfold impl_spheres.f
 repeat' first
   | with_reducible first|exact ih0 ..|exact ih1 ..|exact ih2 ..|exact impl_distance.mono ..|exact impl_someNeighbours.mono ..|exact LeO.refl _|exact LeO.none _|refine LeO.ite ?_ ?_|refine LeO.bind ?_ fun _=>?_
set_option maxHeartbeats 8000000 in
set_option maxRecDepth 100000 in
theorem impl_spheres.calls (k:Nat) (a0 a1_0 a1_1 a1_2 a2:Int) (r1:List (List (S28))) (r2:Bool) (w:World) (h:impl_spheres.f k a0 a1_0 a1_1 a1_2 a2=some (r1,r2)) :
  Calls Try.prog 114 #[.int .i64 a0,.agg #[.int .i64 a1_0,.int .i64 a1_1,.int .i64 a1_2],.int .i64 a2] w fun e w'=>∃ v0_:Value,e=.returned (.tuple #[v0_,.bool r2])∧Kd.N (Kd.slice 28 k28) 64 w' w.heap.size (fun k_=>(w.heap.size≤k_)) v0_ r1∧Below w.heap.size w w':=by
 have hu28:=Try.underlying28
 have HB:=Aside0.mk (Below.refl w.heap.size w)
 have H:=h
 unfold impl_spheres.f at H
 clear h
 obtain ⟨y879,hy879⟩:∃ y_:List (S28),y_=(([(⟨a1_0,a1_1,a1_2⟩:S28)]:List (S28))):=⟨_,rfl⟩
 replace H:(impl_spheres.l0 k a0 (([y879]:List (List (S28)))) a2 0 a1_0 a1_1 a1_2)=some (r1,r2):=rH hy879 H
 have Ny879:=Aside0.mk hy879
 clear hy879
 obtain ⟨y882,hy882⟩:∃ y_:List (List (S28)),y_=(([y879]:List (List (S28)))):=⟨_,rfl⟩
 replace H:(impl_spheres.l0 k a0 y882 a2 0 a1_0 a1_1 a1_2)=some (r1,r2):=rH hy882 H
 have Ny882:=Aside0.mk hy882
 clear hy882
 have H':=Aside0.mk H
 clear H
 go_enter Try.func114,Try.ntmps114
 go_wp2_with (first|((with_reducible refine gate_dst (N:=4) rfl ?_);refine bxE (cs:=#[.int .i64 a1_0,.int .i64 a1_1,.int .i64 a1_2]) (t:=28) ?_;intro gb878 hg w4 hbox hb;have BK878:=Aside0.mk hbox;have GW878:=sA hg;have GE878:=sA hg;replace HB:=lB hb;clear hb hbox hg;obtain ⟨hcz5_0,hcz5_1,hcz5_2,hfz5_0,hfz5_1,hfz5_2⟩:=cz3 BK878)|((with_reducible refine gate_dst (N:=18) rfl ?_);refine Kd.R_lit k28 _ 28 ?hg (N:=18) ?hd (xs:=([(⟨a1_0,a1_1,a1_2⟩:S28)]:List (S28))) (inner:=[.int .i64 a1_0,.int .i64 a1_1,.int .i64 a1_2]) (ok:=fun _=>True) (okp:=fun _=>True) ?hr ?hp (fun _ hk=>hk) trivial (Below.refl _ _) (Nat.le_refl _) (by simp) ?_;(case hd=>rfl);(case hg=>rfl);(case hr=>first|(go_simp;done)|(go_simp;rfl));(case hp=>exact (Reps.c3 (show Kd.M k28 _ _ _ (⟨a1_0,a1_1,a1_2⟩:S28) [.int .i64 a1_0,.int .i64 a1_1,.int .i64 a1_2] from (k28_mkM _ _ _ (⟨a1_0,a1_1,a1_2⟩:S28) )) (Reps.none _ _)));intro v880 w6 ho7 hb hg_ hnew_;clear hg_ hnew_;(first|rw [← Ny879.out] at ho7|(simp only [Int.reduceToNat] at ho7;rw [← Ny879.out] at ho7));have HO881:=Aside0.mk (Kd.R_lower (Kd.R_newB (Kd.R_newM (M:=fun k_=>(w.heap.size≤k_)) ho7 (below_size blA) (fun k_ h_=>h_)) (bkA BK878)) (below_size blA));replace BK878:=kB BK878 hb;replace HB:=lB hb;clear hb ho7;obtain ⟨Ao8,co8,eo8⟩:=Kd.R_slice HO881.out;subst eo8)|((with_reducible refine gate_dst (N:=19) rfl ?_);refine Kd.N_lit (Kd.slice 28 k28) _ 64 ?hg (N':=19) ?hd (xs:=([y879]:List (List (S28)))) (inner:=[.slice Ao8 y879.length co8]) (ok:=(fun k_=>(w.heap.size≤k_)∧k_≠gb878)) (okp:=(fun k_=>(w.heap.size≤k_)∧k_≠gb878)) ?hr ?hp (fun _ hk=>hk) ((show ∀ k_,w6.heap.size≤k_→(fun k_=>(w.heap.size≤k_)∧k_≠gb878) k_ from fun k_ hk=>⟨(Nat.le_trans (below_size blA) hk),Kd.freshB (bkA BK878) k_ hk⟩) _ (Nat.le_refl _)) (Below.refl _ _) (Nat.le_refl _) (by simp) ?_;(case hd=>rfl);(case hg=>rfl);(case hr=>first|(go_simp;done)|(go_simp;rfl));(case hp=>exact (Reps.one (show Kd.FK (Kd.slice 28 k28) _ _ y879 [.slice Ao8 y879.length co8] from (Kd.FK_slice_mk (Kd.R_reads' (Kd.R_mono (ok':=(fun k_=>(w.heap.size≤k_)∧k_≠gb878)) (HO881.out) (fun k_ hk=>⟨hk.1.1,hk.2⟩))).2.1 (Kd.R_F (Kd.R_mono (ok':=(fun k_=>(w.heap.size≤k_)∧k_≠gb878)) (HO881.out) (fun k_ hk=>⟨hk.1.1,hk.2⟩))))) (Reps.none _ _)));intro v883 w9 ho10 hb hg_ hnew_;clear hg_ hnew_;(first|rw [← Ny882.out] at ho10|(simp only [Int.reduceToNat] at ho10;rw [← Ny882.out] at ho10));have HO884:=Aside0.mk (Kd.N_lower ho10 (below_size blA));replace BK878:=kB BK878 hb;replace HB:=lB hb;clear HO881;clear hb ho10))
 go_loopg [8,21] k (fun kq v8 v21 w'=>∃ (x8_1:List (List (S28))) (x21_1:Int),v21=.int .i64 x21_1∧Aside0 (impl_spheres.l0 kq a0 x8_1 a2 x21_1 a1_0 a1_1 a1_2=some (r1,r2))∧Aside0 (kq≤k)∧Aside0 (Kd.N (Kd.slice 28 k28) 64 w' w.heap.size (fun k_=>(w.heap.size≤k_)∧k_≠gb878) v8 x8_1)∧Aside0 (w'.heap[gb878]?=some (.cells #[.int .i64 a1_0,.int .i64 a1_1,.int .i64 a1_2] 28 (0,0)))∧Aside0 (Below w.heap.size w w'))
 case atStart=>exact ⟨(y882),(0),hB,H',⟨Nat.le_refl _⟩,⟨rN HO884⟩,⟨bkA BK878⟩,⟨blA⟩⟩
 case round=>
  clear H'
  try clear c3
  try clear hcz5_0
  try clear hcz5_1
  try clear hcz5_2
  try clear hfz5_0
  try clear hfz5_1
  try clear hfz5_2
  obtain ⟨x8_1,x21_1,rfl,HA,HK1,HO_8,BK878,HB⟩:=hrel
  cases gk with
  | zero=>exact absurd HA.out (by simp [impl_spheres.l0])
  | succ k1=>
   have H:=HA.out
   clear HA
   simp only [impl_spheres.l0] at H
   by_cases c11:x21_1<a2
   ·
    rw [if_pos c11] at H
    have c11b0:=decide_eq_true c11
    clear c11
    obtain ⟨y885,hy885⟩:∃ y_:List (S28),y_=(([]:List (S28))):=⟨_,rfl⟩
    replace H:(if 0≤x21_1 then (if x21_1<(x8_1.length:Int) then (impl_spheres.l1 k1 a0 x8_1 x21_1 y885 a2 x21_1 (rd_L5 x8_1 x21_1) ((rd_L5 x8_1 x21_1).length:Int) 0 a1_0 a1_1 a1_2) else (none)) else (none))=some (r1,r2):=rH hy885 H
    have Ny885:=Aside0.mk hy885
    clear hy885
    by_cases c12:0≤x21_1
    rotate_left
    ·
     rw [if_neg c12] at H
     exact absurd H (by simp)
    rw [if_pos c12] at H
    have c12b0:=decide_eq_true c12
    clear c12
    by_cases c13:x21_1<(x8_1.length:Int)
    rotate_left
    ·
     rw [if_neg c13] at H
     exact absurd H (by simp)
    rw [if_pos c13] at H
    have c13b0:=decide_eq_true c13
    clear c13
    have H':=Aside0.mk H
    clear H
    go_wp2_with (first|((with_reducible refine gate_dst (N:=24) rfl ?_);refine Kd.R_lit k28 _ 28 ?hg (N:=24) ?hd (xs:=([]:List (S28))) (inner:=[]) (ok:=fun _=>True) (okp:=fun _=>True) ?hr ?hp (fun _ hk=>hk) trivial (Below.refl _ _) (Nat.le_refl _) (by simp) ?_;(case hd=>rfl);(case hg=>rfl);(case hr=>first|(go_simp;done)|(go_simp;rfl));(case hp=>exact (Reps.none _ _));intro v886 w14 ho15 hb hg_ hnew_;clear hg_ hnew_;(first|rw [← Ny885.out] at ho15|(simp only [Int.reduceToNat] at ho15;rw [← Ny885.out] at ho15));have HO887:=Aside0.mk (Kd.R_lower (Kd.R_newB (Kd.R_newM (M:=fun k_=>(w.heap.size≤k_)) ho15 (below_size blA) (fun k_ h_=>h_)) (bkA BK878)) (below_size blA));replace HO_8:=Aside0.mk (Kd.N_elder' (rN HO_8) (Kd.R_base ho15) hb);replace BK878:=kB BK878 hb;replace HB:=lB hb;clear hb ho15;obtain ⟨Ao16,co16,eo16⟩:=Kd.N_slice HO_8.out;subst eo16;have p888:0≤(x21_1:Int):=dA;have q888:x21_1<(x8_1.length:Int):=dA;obtain ⟨ad888,A888_0,c888_0,e888,hx888_0,hl888_0,hi888_0⟩:=at_L5 (Kd.N_reads' HO_8.out).2.2 x21_1 p888 q888;cases e888;obtain ⟨ce888,hce888,hMe888,hcc888⟩:=Kd.N_get HO_8.out [] x21_1 p888 (by first|exact q888|exact dA|(have e_:=(Kd.N_reads' HO_8.out).1;omega));obtain ⟨ua888_0,uc888_0,rfl,ul888_0,ge888_0⟩:=Kd.FK_slice_open hMe888;have hv888_0:=hcc888 0 _ rfl;rw [Nat.add_zero,show ((Kd.slice 28 k28)).sz=1 from rfl,Nat.mul_one] at hv888_0;replace hv888_0:=Option.some.inj (hv888_0.symm.trans hx888_0);injection hv888_0 with hva_ hvn_ hvc_;rw [hva_] at ge888_0;rw [hvc_] at ul888_0;have HL888_0:=Aside0.mk (show Kd.V k28 28 _ w.heap.size _ _ (rd_L5 x8_1 x21_1) from Kd.V_mk ul888_0 ge888_0);clear hva_ hvn_ hvc_ ge888_0 ul888_0;clear hcc888 hce888;have HR888_0:=Aside0.mk hi888_0;have HC888_0:=Aside0.mk hl888_0;clear hi888_0 hl888_0;replace p888:=eq_true p888;replace q888:=eq_true q888))
    go_loopg [10,30] k1 (fun kq v10 v30 w'=>∃ (x10_2:List (S28)) (x30_2:Int),v30=.int .i64 x30_2∧Aside0 (impl_spheres.l1 kq a0 x8_1 x21_1 x10_2 a2 x21_1 (rd_L5 x8_1 x21_1) ((rd_L5 x8_1 x21_1).length:Int) x30_2 a1_0 a1_1 a1_2=some (r1,r2))∧Aside0 (kq≤k1)∧Aside0 (Kd.N (Kd.slice 28 k28) 64 w' w.heap.size (fun k_=>(w.heap.size≤k_)∧some k_≠(v10:Value).ownBlock∧k_≠gb878) (.slice (some ad888) x8_1.length co16) x8_1)∧Aside0 (Kd.R k28 28 w' w.heap.size (fun k_=>(w.heap.size≤k_)∧k_≠gb878) v10 x10_2)∧Aside0 (Kd.V k28 28 w' w.heap.size (fun k_=>(w.heap.size≤k_)∧some k_≠((.slice (some ad888) x8_1.length co16):Value).ownBlock∧some k_≠(v10:Value).ownBlock∧k_≠gb878) (.slice A888_0 (rd_L5 x8_1 x21_1).length c888_0) (rd_L5 x8_1 x21_1))∧Aside0 (w'.heap[gb878]?=some (.cells #[.int .i64 a1_0,.int .i64 a1_1,.int .i64 a1_2] 28 (0,0)))∧Aside0 (Below w.heap.size w w'))
    case atStart=>exact ⟨(y885),(0),hB,H',⟨Nat.le_refl _⟩,⟨by (with_reducible repeat (first|apply Kd.N_alloc|apply Kd.N_drewN|apply Kd.N_drew));exact Kd.N_mono HO_8.out (fun _ hk=>⟨hk.1.1,⟨hk.2,hk.1.2⟩⟩)⟩,⟨by (with_reducible repeat (first|apply Kd.R_alloc|apply Kd.R_drewN|apply Kd.R_drew));exact Kd.R_mono HO887.out (fun _ hk=>⟨hk.1.1,hk.2⟩)⟩,⟨by (with_reducible repeat (first|apply Kd.V_alloc|apply Kd.V_drewN|apply Kd.V_drew));exact Kd.V_mono HL888_0.out (fun _ hk=>⟨hk.1.1.1,⟨hk.2,⟨hk.1.2,hk.1.1.2⟩⟩⟩)⟩,⟨bkA BK878⟩,⟨blA⟩⟩
    case round=>
     clear H'
     try clear c3
     try clear c11
     try clear c11b0
     try clear c12
     try clear c12b0
     try clear c13
     try clear c13b0
     try clear hcz5_0
     try clear hcz5_1
     try clear hcz5_2
     try clear hfz5_0
     try clear hfz5_1
     try clear hfz5_2
     try clear hx888_0
     try clear p888
     try clear q888
     obtain ⟨x10_2,x30_2,rfl,HA,HK2,HO_8,HO_10,HO_28,BK878,HB⟩:=hrel
     cases gk with
     | zero=>exact absurd HA.out (by simp [impl_spheres.l1])
     | succ k2=>
      have H:=HA.out
      clear HA
      simp only [impl_spheres.l1] at H
      by_cases c17:x30_2<((rd_L5 x8_1 x21_1).length:Int)
      ·
       rw [if_pos c17] at H
       have c17b0:=decide_eq_true c17
       clear c17
       by_cases c18:0≤x30_2
       rotate_left
       ·
        rw [if_neg c18] at H
        exact absurd H (by simp)
       rw [if_pos c18] at H
       have c18b0:=decide_eq_true c18
       clear c18
       by_cases c19:x30_2<((rd_L5 x8_1 x21_1).length:Int)
       rotate_left
       ·
        rw [if_neg c19] at H
        exact absurd H (by simp)
       rw [if_pos c19] at H
       have c19b0:=decide_eq_true c19
       clear c19
       replace H:=bS H
       obtain ⟨⟨t894,t897⟩,A20,H⟩:=H
       try dsimp only at H
       by_cases c21:t897=true
       ·
        subst c21
        rw [if_pos rfl] at H
        try dsimp only at H
        have H':=Aside0.mk H
        clear H
        have p892:0≤(x30_2:Int):=dA
        have q892:x30_2<((rd_L5 x8_1 x21_1).length:Int):=dA
        obtain ⟨ad892,e892,hx892_0,hx892_1,hx892_2⟩:=at_T28 (Kd.V_reads' HO_28.out).2.2 x30_2 p892 q892
        cases e892
        replace p892:=eq_true p892
        replace q892:=eq_true q892
        go_wp2_with (first|((with_reducible refine gate_dst (N:=12) rfl ?_);refine bxE (cs:=#[.int .i64 0,.int .i64 0,.int .i64 0]) (t:=28) ?_;intro gb893 hg w22 hbox hb;have BK893:=Aside0.mk hbox;have GW893:=sA hg;have GE893:=sA hg;have NB878_893:=nA hg BK878;have NB893_878:=nB hg BK878;replace HO_8:=Aside0.mk (Kd.N_below (Kd.N_elderB (rN HO_8) gb893 (Nat.le_of_eq hg.symm)) hb);replace HO_10:=Aside0.mk (Kd.R_below (Kd.R_elderB (rA HO_10) gb893 (Nat.le_of_eq hg.symm)) hb);replace HO_28:=Aside0.mk (Kd.V_below (Kd.V_elderB (rV HO_28) gb893 (Nat.le_of_eq hg.symm)) hb);replace BK878:=kB BK878 hb;replace HB:=lB hb;clear hb hbox hg;have hnb23:=NB893_878.out;have hnc23:=NB878_893.out;obtain ⟨hcz24_0,hcz24_1,hcz24_2,hfz24_0,hfz24_1,hfz24_2⟩:=cz3 BK893)|((with_reducible refine gate_callee (f:=129) rfl ?_);refine gL (some 37) rfl Try.func129 #[.int .i64 a0,.agg #[.int .i64 ((rd_T28 (rd_L5 x8_1 x21_1) x30_2).f0),.int .i64 ((rd_T28 (rd_L5 x8_1 x21_1) x30_2).f1),.int .i64 ((rd_T28 (rd_L5 x8_1 x21_1) x30_2).f2)],.int .i64 0] ?_;(with_reducible refine (impl_someNeighbours.calls k2 a0 ((rd_T28 (rd_L5 x8_1 x21_1) x30_2).f0) ((rd_T28 (rd_L5 x8_1 x21_1) x30_2).f1) ((rd_T28 (rd_L5 x8_1 x21_1) x30_2).f2) 0 t894 true _ A20.out).mono ?_);rintro e w25 ⟨v895,rfl,ho0,hb⟩;refine ⟨_,rfl,?_⟩;have n0_:=Aside0.mk (Kd.N_elder' (by (with_reducible repeat (first|apply Kd.N_alloc|apply Kd.N_drewN|apply Kd.N_drew));exact (Kd.N_mono (Kd.N_far (p:=⟨gb893,2,none⟩) (Kd.N_far (p:=⟨gb893,1,none⟩) (Kd.N_far (p:=⟨gb893,0,none⟩) (Kd.N_mono HO_8.out (fun k_ hk=>(⟨hk,hk.2⟩:_∧k_≠gb893))) (fun _ hk=>hk.2) (.int .i64 ((rd_T28 (rd_L5 x8_1 x21_1) x30_2).f0))) (fun _ hk=>hk.2) (.int .i64 ((rd_T28 (rd_L5 x8_1 x21_1) x30_2).f1))) (fun _ hk=>hk.2) (.int .i64 ((rd_T28 (rd_L5 x8_1 x21_1) x30_2).f2))) (fun _ h_=>h_.1))) (Kd.R_base ho0) hb);have n1_:=Aside0.mk (Kd.R_elder' (by (with_reducible repeat (first|apply Kd.R_alloc|apply Kd.R_drewN|apply Kd.R_drew));exact (Kd.R_mono (Kd.R_far (p:=⟨gb893,2,none⟩) (Kd.R_far (p:=⟨gb893,1,none⟩) (Kd.R_far (p:=⟨gb893,0,none⟩) (Kd.R_mono HO_10.out (fun k_ hk=>(⟨hk,hk.2⟩:_∧k_≠gb893))) (fun _ hk=>hk.2) (.int .i64 ((rd_T28 (rd_L5 x8_1 x21_1) x30_2).f0))) (fun _ hk=>hk.2) (.int .i64 ((rd_T28 (rd_L5 x8_1 x21_1) x30_2).f1))) (fun _ hk=>hk.2) (.int .i64 ((rd_T28 (rd_L5 x8_1 x21_1) x30_2).f2))) (fun _ h_=>h_.1))) (Kd.R_base ho0) hb);have n2_:=Aside0.mk (Kd.V_elder' (by (with_reducible repeat (first|apply Kd.V_alloc|apply Kd.V_drewN|apply Kd.V_drew));exact (Kd.V_mono (Kd.V_far (p:=⟨gb893,2,none⟩) (Kd.V_far (p:=⟨gb893,1,none⟩) (Kd.V_far (p:=⟨gb893,0,none⟩) (Kd.V_mono HO_28.out (fun k_ hk=>(⟨hk,hk.2⟩:_∧k_≠gb893))) (fun _ hk=>hk.2) (.int .i64 ((rd_T28 (rd_L5 x8_1 x21_1) x30_2).f0))) (fun _ hk=>hk.2) (.int .i64 ((rd_T28 (rd_L5 x8_1 x21_1) x30_2).f1))) (fun _ hk=>hk.2) (.int .i64 ((rd_T28 (rd_L5 x8_1 x21_1) x30_2).f2))) (fun _ h_=>h_.1))) (Kd.R_base ho0) hb);have n3_:=Aside0.mk (Kd.R_lower (Kd.R_newB (Kd.R_newB (Kd.R_new' (Kd.R_newM (M:=fun k_=>(w.heap.size≤k_)) ho0 (below_size blA) (fun k_ h_=>h_)) (Kd.R_lt (by (with_reducible repeat (first|apply Kd.R_alloc|apply Kd.R_drewN|apply Kd.R_drew));exact (Kd.R_mono (Kd.R_far (p:=⟨gb893,2,none⟩) (Kd.R_far (p:=⟨gb893,1,none⟩) (Kd.R_far (p:=⟨gb893,0,none⟩) (Kd.R_mono HO_10.out (fun k_ hk=>(⟨hk,hk.2⟩:_∧k_≠gb893))) (fun _ hk=>hk.2) (.int .i64 ((rd_T28 (rd_L5 x8_1 x21_1) x30_2).f0))) (fun _ hk=>hk.2) (.int .i64 ((rd_T28 (rd_L5 x8_1 x21_1) x30_2).f1))) (fun _ hk=>hk.2) (.int .i64 ((rd_T28 (rd_L5 x8_1 x21_1) x30_2).f2))) (fun _ h_=>h_.1))))) (g:=gb878) (o:=.cells #[.int .i64 a1_0,.int .i64 a1_1,.int .i64 a1_2] 28 (0,0)) (bkF BK878)) (g:=gb893) (o:=.cells #[.int .i64 ((rd_T28 (rd_L5 x8_1 x21_1) x30_2).f0),.int .i64 ((rd_T28 (rd_L5 x8_1 x21_1) x30_2).f1),.int .i64 ((rd_T28 (rd_L5 x8_1 x21_1) x30_2).f2)] 28 (0,0)) (bpA BK893)) (below_size blA));have n4_:=Aside0.mk (blk_below (g:=gb878) (o:=.cells #[.int .i64 a1_0,.int .i64 a1_1,.int .i64 a1_2] 28 (0,0)) (bkF BK878) hb);have n5_:=Aside0.mk (blk_below (g:=gb893) (o:=.cells #[.int .i64 ((rd_T28 (rd_L5 x8_1 x21_1) x30_2).f0),.int .i64 ((rd_T28 (rd_L5 x8_1 x21_1) x30_2).f1),.int .i64 ((rd_T28 (rd_L5 x8_1 x21_1) x30_2).f2)] 28 (0,0)) (bpA BK893) hb);have n6_:=lB hb;clear HO_8;clear HO_10;clear HO_28;clear BK878;clear BK893;clear HB;have HO_8:=n0_;have HO_10:=n1_;have HO_28:=n2_;have HO896:=n3_;have BK878:=n4_;have BK893:=n5_;have HB:=n6_;clear n0_ n1_ n2_ n3_ n4_ n5_ n6_;clear ho0 hb;obtain ⟨Ao26,co26,eo26⟩:=Kd.R_slice HO896.out;subst eo26))
        go_loopg [10,44] k2 (fun kq v10 v44 w'=>∃ (x10_3:List (S28)) (x44_3:Int),v44=.int .i64 x44_3∧Aside0 (impl_spheres.l2 kq a0 x8_1 x21_1 x10_3 a2 x21_1 (rd_L5 x8_1 x21_1) ((rd_L5 x8_1 x21_1).length:Int) x30_2 t894 (t894.length:Int) x44_3 a1_0 a1_1 a1_2=some (r1,r2))∧Aside0 (kq≤k2)∧Aside0 (Kd.N (Kd.slice 28 k28) 64 w' w.heap.size (fun k_=>(w.heap.size≤k_)∧some k_≠(v10:Value).ownBlock∧some k_≠((.slice Ao26 t894.length co26):Value).ownBlock∧k_≠gb878∧k_≠gb893) (.slice (some ad888) x8_1.length co16) x8_1)∧Aside0 (Kd.R k28 28 w' w.heap.size (fun k_=>(w.heap.size≤k_)∧some k_≠((.slice Ao26 t894.length co26):Value).ownBlock∧k_≠gb878∧k_≠gb893) v10 x10_3)∧Aside0 (Kd.V k28 28 w' w.heap.size (fun k_=>(w.heap.size≤k_)∧some k_≠((.slice (some ad888) x8_1.length co16):Value).ownBlock∧some k_≠(v10:Value).ownBlock∧some k_≠((.slice Ao26 t894.length co26):Value).ownBlock∧k_≠gb878∧k_≠gb893) (.slice (some ad892) (rd_L5 x8_1 x21_1).length c888_0) (rd_L5 x8_1 x21_1))∧Aside0 (Kd.R k28 28 w' w.heap.size (fun k_=>(w.heap.size≤k_)∧some k_≠(v10:Value).ownBlock∧k_≠gb878∧k_≠gb893) (.slice Ao26 t894.length co26) t894)∧Aside0 (w'.heap[gb878]?=some (.cells #[.int .i64 a1_0,.int .i64 a1_1,.int .i64 a1_2] 28 (0,0)))∧Aside0 (w'.heap[gb893]?=some (.cells #[.int .i64 ((rd_T28 (rd_L5 x8_1 x21_1) x30_2).f0),.int .i64 ((rd_T28 (rd_L5 x8_1 x21_1) x30_2).f1),.int .i64 ((rd_T28 (rd_L5 x8_1 x21_1) x30_2).f2)] 28 (0,0)))∧Aside0 (Below w.heap.size w w'))
        case atStart=>exact ⟨(x10_2),(0),hB,H',⟨Nat.le_refl _⟩,⟨by (with_reducible repeat (first|apply Kd.N_alloc|apply Kd.N_drewN|apply Kd.N_drew));exact Kd.N_mono HO_8.out (fun _ hk=>⟨hk.1.1.1,⟨hk.1.1.2.1,⟨hk.2,⟨hk.1.1.2.2,hk.1.2⟩⟩⟩⟩)⟩,⟨by (with_reducible repeat (first|apply Kd.R_alloc|apply Kd.R_drewN|apply Kd.R_drew));exact Kd.R_mono HO_10.out (fun _ hk=>⟨hk.1.1.1,⟨hk.2,⟨hk.1.1.2,hk.1.2⟩⟩⟩)⟩,⟨by (with_reducible repeat (first|apply Kd.V_alloc|apply Kd.V_drewN|apply Kd.V_drew));exact Kd.V_mono HO_28.out (fun _ hk=>⟨hk.1.1.1,⟨hk.1.1.2.1,⟨hk.1.1.2.2.1,⟨hk.2,⟨hk.1.1.2.2.2,hk.1.2⟩⟩⟩⟩⟩)⟩,⟨by (with_reducible repeat (first|apply Kd.R_alloc|apply Kd.R_drewN|apply Kd.R_drew));exact Kd.R_mono HO896.out (fun _ hk=>⟨hk.1.1.1.1,⟨hk.1.1.2,⟨hk.1.2,hk.2⟩⟩⟩)⟩,⟨bkA BK878⟩,⟨bkA BK893⟩,⟨blA⟩⟩
        case round=>
         clear H'
         try clear c3
         try clear c11
         try clear c11b0
         try clear c12
         try clear c12b0
         try clear c13
         try clear c13b0
         try clear c17
         try clear c17b0
         try clear c18
         try clear c18b0
         try clear c19
         try clear c19b0
         try clear c21
         try clear hcz24_0
         try clear hcz24_1
         try clear hcz24_2
         try clear hcz5_0
         try clear hcz5_1
         try clear hcz5_2
         try clear hfz24_0
         try clear hfz24_1
         try clear hfz24_2
         try clear hfz5_0
         try clear hfz5_1
         try clear hfz5_2
         try clear hx888_0
         try clear hx892_0
         try clear hx892_1
         try clear hx892_2
         try clear p888
         try clear p892
         try clear q888
         try clear q892
         obtain ⟨x10_3,x44_3,rfl,HA,HK3,HO_8,HO_10,HO_28,HO_42,BK878,BK893,HB⟩:=hrel
         cases gk with
         | zero=>exact absurd HA.out (by simp [impl_spheres.l2])
         | succ k3=>
          have H:=HA.out
          clear HA
          simp only [impl_spheres.l2] at H
          by_cases c27:x44_3<(t894.length:Int)
          ·
           rw [if_pos c27] at H
           have c27b0:=decide_eq_true c27
           clear c27
           by_cases c28:0≤x44_3
           rotate_left
           ·
            rw [if_neg c28] at H
            exact absurd H (by simp)
           rw [if_pos c28] at H
           have c28b0:=decide_eq_true c28
           clear c28
           by_cases c29:x44_3<(t894.length:Int)
           rotate_left
           ·
            rw [if_neg c29] at H
            exact absurd H (by simp)
           rw [if_pos c29] at H
           have c29b0:=decide_eq_true c29
           clear c29
           replace H:=bS H
           obtain ⟨t900,A30,H⟩:=H
           try dsimp only at H
           by_cases c31:t900>x21_1
           focus
            rw [if_pos c31] at H
            have c31b0:decide (x21_1<t900)=true:=decide_eq_true c31
            clear c31
            by_cases c32:x10_3.length<5864062014805
            rotate_left
            ·
             rw [if_neg c32] at H
             exact absurd H (by simp)
            rw [if_pos c32] at H
            have LMc32:=Aside0.mk c32
            clear c32
            obtain ⟨y901,hy901⟩:∃ y_:List (S28),y_=(x10_3 ++ [(⟨(rd_T28 t894 x44_3).f0,(rd_T28 t894 x44_3).f1,(rd_T28 t894 x44_3).f2⟩:S28)]):=⟨_,rfl⟩
            replace H:(impl_spheres.l2 k3 a0 x8_1 x21_1 y901 a2 x21_1 (rd_L5 x8_1 x21_1) ((rd_L5 x8_1 x21_1).length:Int) x30_2 t894 (t894.length:Int) (wrap64 (x44_3+1)) a1_0 a1_1 a1_2)=some (r1,r2):=rH hy901 H
            have Ny901:=Aside0.mk hy901
            clear hy901
            have H':=Aside0.mk H
            clear H
            have p898:0≤(x44_3:Int):=dA
            have q898:x44_3<(t894.length:Int):=dA
            obtain ⟨ad898,e898,hx898_0,hx898_1,hx898_2⟩:=at_T28 (Kd.R_reads' HO_42.out).2.2 x44_3 p898 q898
            cases e898
            replace p898:=eq_true p898
            replace q898:=eq_true q898
           rotate_left
           focus
            rw [if_neg c31] at H
            have c31b0:decide (x21_1<t900)=false:=decide_eq_false c31
            clear c31
            have H':=Aside0.mk H
            clear H
            have p898:0≤(x44_3:Int):=dA
            have q898:x44_3<(t894.length:Int):=dA
            obtain ⟨ad898,e898,hx898_0,hx898_1,hx898_2⟩:=at_T28 (Kd.R_reads' HO_42.out).2.2 x44_3 p898 q898
            cases e898
            replace p898:=eq_true p898
            replace q898:=eq_true q898
           rotate_left
           all_goals
            go_wp2_with (first|((with_reducible refine gate_dst (N:=16) rfl ?_);refine bxE (cs:=#[.int .i64 0,.int .i64 0,.int .i64 0]) (t:=28) ?_;intro gb899 hg w33 hbox hb;have BK899:=Aside0.mk hbox;have GW899:=sA hg;have GE899:=sA hg;have NB878_899:=nA hg BK878;have NB899_878:=nB hg BK878;have NB893_899:=nA hg BK893;have NB899_893:=nB hg BK893;replace HO_8:=Aside0.mk (Kd.N_below (Kd.N_elderB (rN HO_8) gb899 (Nat.le_of_eq hg.symm)) hb);replace HO_10:=Aside0.mk (Kd.R_below (Kd.R_elderB (rA HO_10) gb899 (Nat.le_of_eq hg.symm)) hb);replace HO_28:=Aside0.mk (Kd.V_below (Kd.V_elderB (rV HO_28) gb899 (Nat.le_of_eq hg.symm)) hb);replace HO_42:=Aside0.mk (Kd.R_below (Kd.R_elderB (rA HO_42) gb899 (Nat.le_of_eq hg.symm)) hb);replace BK878:=kB BK878 hb;replace BK893:=kB BK893 hb;replace HB:=lB hb;clear hb hbox hg;have hnb34:=NB899_878.out;have hnc34:=NB878_899.out;have hnb35:=NB899_893.out;have hnc35:=NB893_899.out;obtain ⟨hcz36_0,hcz36_1,hcz36_2,hfz36_0,hfz36_1,hfz36_2⟩:=cz3 BK899;have hnb37:=NB878_893.out;have hnc37:=NB893_878.out;obtain ⟨hcz38_0,hcz38_1,hcz38_2,hfz38_0,hfz38_1,hfz38_2⟩:=cz3 BK878)|((with_reducible refine gd 51 rfl ?_);refine gC (some 51) rfl Try.func62 (impl_distance.calls (w:=_) (h:=A30.out)) ?_;intro w39 hb;have n0_:=Aside0.mk (Kd.N_below (by (with_reducible repeat (first|apply Kd.N_alloc|apply Kd.N_drewN|apply Kd.N_drew));exact (Kd.N_mono (Kd.N_far (p:=⟨gb899,2,none⟩) (Kd.N_far (p:=⟨gb899,1,none⟩) (Kd.N_far (p:=⟨gb899,0,none⟩) (Kd.N_mono HO_8.out (fun k_ hk=>(⟨hk,hk.2⟩:_∧k_≠gb899))) (fun _ hk=>hk.2) (.int .i64 ((rd_T28 t894 x44_3).f0))) (fun _ hk=>hk.2) (.int .i64 ((rd_T28 t894 x44_3).f1))) (fun _ hk=>hk.2) (.int .i64 ((rd_T28 t894 x44_3).f2))) (fun _ h_=>h_.1))) hb);have n1_:=Aside0.mk (Kd.R_below (by (with_reducible repeat (first|apply Kd.R_alloc|apply Kd.R_drewN|apply Kd.R_drew));exact (Kd.R_mono (Kd.R_far (p:=⟨gb899,2,none⟩) (Kd.R_far (p:=⟨gb899,1,none⟩) (Kd.R_far (p:=⟨gb899,0,none⟩) (Kd.R_mono HO_10.out (fun k_ hk=>(⟨hk,hk.2⟩:_∧k_≠gb899))) (fun _ hk=>hk.2) (.int .i64 ((rd_T28 t894 x44_3).f0))) (fun _ hk=>hk.2) (.int .i64 ((rd_T28 t894 x44_3).f1))) (fun _ hk=>hk.2) (.int .i64 ((rd_T28 t894 x44_3).f2))) (fun _ h_=>h_.1))) hb);have n2_:=Aside0.mk (Kd.V_below (by (with_reducible repeat (first|apply Kd.V_alloc|apply Kd.V_drewN|apply Kd.V_drew));exact (Kd.V_mono (Kd.V_far (p:=⟨gb899,2,none⟩) (Kd.V_far (p:=⟨gb899,1,none⟩) (Kd.V_far (p:=⟨gb899,0,none⟩) (Kd.V_mono HO_28.out (fun k_ hk=>(⟨hk,hk.2⟩:_∧k_≠gb899))) (fun _ hk=>hk.2) (.int .i64 ((rd_T28 t894 x44_3).f0))) (fun _ hk=>hk.2) (.int .i64 ((rd_T28 t894 x44_3).f1))) (fun _ hk=>hk.2) (.int .i64 ((rd_T28 t894 x44_3).f2))) (fun _ h_=>h_.1))) hb);have n3_:=Aside0.mk (Kd.R_below (by (with_reducible repeat (first|apply Kd.R_alloc|apply Kd.R_drewN|apply Kd.R_drew));exact (Kd.R_mono (Kd.R_far (p:=⟨gb899,2,none⟩) (Kd.R_far (p:=⟨gb899,1,none⟩) (Kd.R_far (p:=⟨gb899,0,none⟩) (Kd.R_mono HO_42.out (fun k_ hk=>(⟨hk,hk.2⟩:_∧k_≠gb899))) (fun _ hk=>hk.2) (.int .i64 ((rd_T28 t894 x44_3).f0))) (fun _ hk=>hk.2) (.int .i64 ((rd_T28 t894 x44_3).f1))) (fun _ hk=>hk.2) (.int .i64 ((rd_T28 t894 x44_3).f2))) (fun _ h_=>h_.1))) hb);have n4_:=Aside0.mk (blk_below (g:=gb878) (o:=.cells #[.int .i64 a1_0,.int .i64 a1_1,.int .i64 a1_2] 28 (0,0)) (bkF BK878) hb);have n5_:=Aside0.mk (blk_below (g:=gb893) (o:=.cells #[.int .i64 ((rd_T28 (rd_L5 x8_1 x21_1) x30_2).f0),.int .i64 ((rd_T28 (rd_L5 x8_1 x21_1) x30_2).f1),.int .i64 ((rd_T28 (rd_L5 x8_1 x21_1) x30_2).f2)] 28 (0,0)) (bkF BK893) hb);have n6_:=Aside0.mk (blk_below (g:=gb899) (o:=.cells #[.int .i64 ((rd_T28 t894 x44_3).f0),.int .i64 ((rd_T28 t894 x44_3).f1),.int .i64 ((rd_T28 t894 x44_3).f2)] 28 (0,0)) (bpA BK899) hb);have n7_:=lB hb;clear HO_8;clear HO_10;clear HO_28;clear HO_42;clear BK878;clear BK893;clear BK899;clear HB;have HO_8:=n0_;have HO_10:=n1_;have HO_28:=n2_;have HO_42:=n3_;have BK878:=n4_;have BK893:=n5_;have BK899:=n6_;have HB:=n7_;clear n0_ n1_ n2_ n3_ n4_ n5_ n6_ n7_;clear hb;obtain ⟨hcz40_0,hcz40_1,hcz40_2,hfz40_0,hfz40_1,hfz40_2⟩:=cz3 BK899)|((with_reducible refine gate_builtin (b:=.append) (xs:=#[.tmp 54,.tmp 56]) rfl ?_);at_builtin;refine Kd.R_append k28 (w0:=w) w.heap.size rfl (.tmp 54) (.tmp 56) 64 28 (.agg #[(.int .i64 0),(.int .i64 0),(.int .i64 0)]) 24 rfl Try.underlying64 info28 rfl (by decide) (by omega) u10 x10_3 (⟨(rd_T28 t894 x44_3).f0,(rd_T28 t894 x44_3).f1,(rd_T28 t894 x44_3).f2⟩:S28) [.int .i64 ((rd_T28 t894 x44_3).f0),.int .i64 ((rd_T28 t894 x44_3).f1),.int .i64 ((rd_T28 t894 x44_3).f2)] (fun k_=>(w.heap.size≤k_)∧some k_≠(.slice (some ad898) t894.length co26:Value).ownBlock∧k_≠gb878∧k_≠gb893∧k_≠gb899) (fun _=>False) rfl rfl ?aP (fun _ hk=>hk.elim) ?aF ?aO ?aB ?aS ?aL ?_;(case aP=>exact k28_mkM _ _ _ (⟨(rd_T28 t894 x44_3).f0,(rd_T28 t894 x44_3).f1,(rd_T28 t894 x44_3).f2⟩:S28));(case aB=>exact blA);(case aF=>exact (fun k_ hk=>⟨(Nat.le_trans (below_size blA) hk),Kd.fresh' (Kd.R_lt (rA HO_42)) k_ hk,Kd.freshB (bkA BK878) k_ hk,Kd.freshB (bkA BK893) k_ hk,Kd.freshB (bkA BK899) k_ hk⟩));(case aO=>exact (by (with_reducible repeat (first|apply Kd.R_alloc|apply Kd.R_drewN|apply Kd.R_drew));exact Kd.R_mono HO_10.out (fun _ hk=>⟨hk.1.1,⟨hk.1.2.1,⟨hk.1.2.2.1,⟨hk.1.2.2.2,hk.2⟩⟩⟩⟩)));(case aS=>exact (below_size blA));(case aL=>have:=LMc32.out;omega);intro v902 w41 ho hb hg hat;rw [← Ny901.out] at ho;have HO903:=Aside0.mk ho;replace HO_8:=Aside0.mk (Kd.N_afterv (ok:=(fun k_=>(w.heap.size≤k_)∧some k_≠(.slice (some ad898) t894.length co26:Value).ownBlock∧k_≠gb878∧k_≠gb893∧k_≠gb899)) (by (with_reducible repeat (first|apply Kd.N_alloc|apply Kd.N_drewN|apply Kd.N_drew));exact Kd.N_mono HO_8.out (fun _ hk=>⟨⟨hk.1.1,⟨hk.1.2.2.1,⟨hk.1.2.2.2.1,⟨hk.1.2.2.2.2,hk.2⟩⟩⟩⟩,hk.1.2.1⟩)) hg hat);replace HO_28:=Aside0.mk (Kd.V_afterv (ok:=(fun k_=>(w.heap.size≤k_)∧some k_≠(.slice (some ad888) x8_1.length co16:Value).ownBlock∧some k_≠(.slice (some ad898) t894.length co26:Value).ownBlock∧k_≠gb878∧k_≠gb893∧k_≠gb899)) (by (with_reducible repeat (first|apply Kd.V_alloc|apply Kd.V_drewN|apply Kd.V_drew));exact Kd.V_mono HO_28.out (fun _ hk=>⟨⟨hk.1.1,⟨hk.1.2.1,⟨hk.1.2.2.2.1,⟨hk.1.2.2.2.2.1,⟨hk.1.2.2.2.2.2,hk.2⟩⟩⟩⟩⟩,hk.1.2.2.1⟩)) hg hat);replace HO_42:=Aside0.mk (Kd.R_after (ok:=(fun k_=>(w.heap.size≤k_)∧k_≠gb878∧k_≠gb893∧k_≠gb899)) (by (with_reducible repeat (first|apply Kd.R_alloc|apply Kd.R_drewN|apply Kd.R_drew));exact Kd.R_mono HO_42.out (fun _ hk=>⟨⟨hk.1.1,⟨hk.1.2.2.1,⟨hk.1.2.2.2,hk.2⟩⟩⟩,hk.1.2.1⟩)) hg hat);replace BK878:=Aside0.mk (blk_grown (bkA BK878) hg (Kd.R_away HO_10.out (fun _ hk=>hk.1.2.2.1)));replace BK893:=Aside0.mk (blk_grown (bkA BK893) hg (Kd.R_away HO_10.out (fun _ hk=>hk.1.2.2.2)));replace BK899:=Aside0.mk (blk_grown (bkA BK899) hg (Kd.R_away HO_10.out (fun _ hk=>hk.2)));replace HB:=Aside0.mk hb;clear HO_10;clear ho hb hg hat))
           ·
            go_roundg k3
            case measure=>have:=HK1.out;have:=HK2.out;have:=HK3.out;omega
            case rel=>exact ⟨(y901),(wrap64 (x44_3+1)),hB,H',⟨by have:=HK1.out;have:=HK2.out;have:=HK3.out;omega⟩,⟨by (with_reducible repeat (first|apply Kd.N_alloc|apply Kd.N_drewN|apply Kd.N_drew));exact Kd.N_mono HO_8.out (fun _ hk=>⟨hk.1.1,⟨hk.2,⟨hk.1.2.1,⟨hk.1.2.2.1,hk.1.2.2.2.1⟩⟩⟩⟩)⟩,⟨by (with_reducible repeat (first|apply Kd.R_alloc|apply Kd.R_drewN|apply Kd.R_drew));exact Kd.R_mono HO903.out (fun _ hk=>⟨hk.1,⟨hk.2.1,⟨hk.2.2.1,hk.2.2.2.1⟩⟩⟩)⟩,⟨by (with_reducible repeat (first|apply Kd.V_alloc|apply Kd.V_drewN|apply Kd.V_drew));exact Kd.V_mono HO_28.out (fun _ hk=>⟨hk.1.1,⟨hk.1.2.1,⟨hk.2,⟨hk.1.2.2.1,⟨hk.1.2.2.2.1,hk.1.2.2.2.2.1⟩⟩⟩⟩⟩)⟩,⟨by (with_reducible repeat (first|apply Kd.R_alloc|apply Kd.R_drewN|apply Kd.R_drew));exact Kd.R_mono HO_42.out (fun _ hk=>⟨hk.1.1,⟨hk.2,⟨hk.1.2.1,hk.1.2.2.1⟩⟩⟩)⟩,⟨bkA BK878⟩,⟨bkA BK893⟩,⟨blA⟩⟩
           ·
            go_roundg k3
            case measure=>have:=HK1.out;have:=HK2.out;have:=HK3.out;omega
            case rel=>exact ⟨(x10_3),(wrap64 (x44_3+1)),hB,H',⟨by have:=HK1.out;have:=HK2.out;have:=HK3.out;omega⟩,⟨by (with_reducible repeat (first|apply Kd.N_alloc|apply Kd.N_drewN|apply Kd.N_drew));exact Kd.N_mono HO_8.out (fun _ hk=>⟨hk.1.1,⟨hk.1.2.1,⟨hk.1.2.2.1,⟨hk.1.2.2.2.1,hk.1.2.2.2.2⟩⟩⟩⟩)⟩,⟨by (with_reducible repeat (first|apply Kd.R_alloc|apply Kd.R_drewN|apply Kd.R_drew));exact Kd.R_mono HO_10.out (fun _ hk=>⟨hk.1.1,⟨hk.1.2.1,⟨hk.1.2.2.1,hk.1.2.2.2⟩⟩⟩)⟩,⟨by (with_reducible repeat (first|apply Kd.V_alloc|apply Kd.V_drewN|apply Kd.V_drew));exact Kd.V_mono HO_28.out (fun _ hk=>⟨hk.1.1,⟨hk.1.2.1,⟨hk.1.2.2.1,⟨hk.1.2.2.2.1,⟨hk.1.2.2.2.2.1,hk.1.2.2.2.2.2⟩⟩⟩⟩⟩)⟩,⟨by (with_reducible repeat (first|apply Kd.R_alloc|apply Kd.R_drewN|apply Kd.R_drew));exact Kd.R_mono HO_42.out (fun _ hk=>⟨hk.1.1,⟨hk.1.2.1,⟨hk.1.2.2.1,hk.1.2.2.2⟩⟩⟩)⟩,⟨bkA BK878⟩,⟨bkA BK893⟩,⟨blA⟩⟩
          ·
           rw [if_neg c27] at H
           have c27b0:=decide_eq_false c27
           clear c27
           have H':=Aside0.mk H
           clear H
           go_wp2
           go_roundg k3
           case measure=>have:=HK1.out;have:=HK2.out;have:=HK3.out;omega
           case rel=>exact ⟨(x10_3),(wrap64 (x30_2+1)),hB,H',⟨by have:=HK1.out;have:=HK2.out;have:=HK3.out;omega⟩,⟨by (with_reducible repeat (first|apply Kd.N_alloc|apply Kd.N_drewN|apply Kd.N_drew));exact Kd.N_mono HO_8.out (fun _ hk=>⟨hk.1,⟨hk.2.1,hk.2.2.2.1⟩⟩)⟩,⟨by (with_reducible repeat (first|apply Kd.R_alloc|apply Kd.R_drewN|apply Kd.R_drew));exact Kd.R_mono HO_10.out (fun _ hk=>⟨hk.1,hk.2.2.1⟩)⟩,⟨by (with_reducible repeat (first|apply Kd.V_alloc|apply Kd.V_drewN|apply Kd.V_drew));exact Kd.V_mono HO_28.out (fun _ hk=>⟨hk.1,⟨hk.2.1,⟨hk.2.2.1,hk.2.2.2.2.1⟩⟩⟩)⟩,⟨bkA BK878⟩,⟨blA⟩⟩
       ·
        replace c21:=Bool.eq_false_iff.mpr c21
        subst c21
        rw [if_neg (show ¬ (false=true) by decide)] at H
        try dsimp only at H
        simp only [Option.some.injEq,Prod.mk.injEq] at H
        obtain ⟨rfl,rfl⟩:=H
        have p892:0≤(x30_2:Int):=dA
        have q892:x30_2<((rd_L5 x8_1 x21_1).length:Int):=dA
        obtain ⟨ad892,e892,hx892_0,hx892_1,hx892_2⟩:=at_T28 (Kd.V_reads' HO_28.out).2.2 x30_2 p892 q892
        cases e892
        replace p892:=eq_true p892
        replace q892:=eq_true q892
        go_wp2_with (first|((with_reducible refine gate_dst (N:=12) rfl ?_);refine bxE (cs:=#[.int .i64 0,.int .i64 0,.int .i64 0]) (t:=28) ?_;intro gb893 hg w49 hbox hb;have BK893:=Aside0.mk hbox;have GW893:=sA hg;have GE893:=sA hg;have NB878_893:=nA hg BK878;have NB893_878:=nB hg BK878;replace HO_8:=Aside0.mk (Kd.N_below (Kd.N_elderB (rN HO_8) gb893 (Nat.le_of_eq hg.symm)) hb);replace HO_10:=Aside0.mk (Kd.R_below (Kd.R_elderB (rA HO_10) gb893 (Nat.le_of_eq hg.symm)) hb);replace HO_28:=Aside0.mk (Kd.V_below (Kd.V_elderB (rV HO_28) gb893 (Nat.le_of_eq hg.symm)) hb);replace BK878:=kB BK878 hb;replace HB:=lB hb;clear hb hbox hg;have hnb50:=NB893_878.out;have hnc50:=NB878_893.out;obtain ⟨hcz51_0,hcz51_1,hcz51_2,hfz51_0,hfz51_1,hfz51_2⟩:=cz3 BK893)|((with_reducible refine gate_callee (f:=129) rfl ?_);refine gL (some 37) rfl Try.func129 #[.int .i64 a0,.agg #[.int .i64 ((rd_T28 (rd_L5 x8_1 x21_1) x30_2).f0),.int .i64 ((rd_T28 (rd_L5 x8_1 x21_1) x30_2).f1),.int .i64 ((rd_T28 (rd_L5 x8_1 x21_1) x30_2).f2)],.int .i64 0] ?_;(with_reducible refine (impl_someNeighbours.calls k2 a0 ((rd_T28 (rd_L5 x8_1 x21_1) x30_2).f0) ((rd_T28 (rd_L5 x8_1 x21_1) x30_2).f1) ((rd_T28 (rd_L5 x8_1 x21_1) x30_2).f2) 0 t894 false _ A20.out).mono ?_);rintro e w52 ⟨v895,rfl,ho0,hb⟩;refine ⟨_,rfl,?_⟩;have n0_:=Aside0.mk (Kd.N_elder' (by (with_reducible repeat (first|apply Kd.N_alloc|apply Kd.N_drewN|apply Kd.N_drew));exact (Kd.N_mono (Kd.N_far (p:=⟨gb893,2,none⟩) (Kd.N_far (p:=⟨gb893,1,none⟩) (Kd.N_far (p:=⟨gb893,0,none⟩) (Kd.N_mono HO_8.out (fun k_ hk=>(⟨hk,hk.2⟩:_∧k_≠gb893))) (fun _ hk=>hk.2) (.int .i64 ((rd_T28 (rd_L5 x8_1 x21_1) x30_2).f0))) (fun _ hk=>hk.2) (.int .i64 ((rd_T28 (rd_L5 x8_1 x21_1) x30_2).f1))) (fun _ hk=>hk.2) (.int .i64 ((rd_T28 (rd_L5 x8_1 x21_1) x30_2).f2))) (fun _ h_=>h_.1))) (Kd.R_base ho0) hb);have n1_:=Aside0.mk (Kd.R_elder' (by (with_reducible repeat (first|apply Kd.R_alloc|apply Kd.R_drewN|apply Kd.R_drew));exact (Kd.R_mono (Kd.R_far (p:=⟨gb893,2,none⟩) (Kd.R_far (p:=⟨gb893,1,none⟩) (Kd.R_far (p:=⟨gb893,0,none⟩) (Kd.R_mono HO_10.out (fun k_ hk=>(⟨hk,hk.2⟩:_∧k_≠gb893))) (fun _ hk=>hk.2) (.int .i64 ((rd_T28 (rd_L5 x8_1 x21_1) x30_2).f0))) (fun _ hk=>hk.2) (.int .i64 ((rd_T28 (rd_L5 x8_1 x21_1) x30_2).f1))) (fun _ hk=>hk.2) (.int .i64 ((rd_T28 (rd_L5 x8_1 x21_1) x30_2).f2))) (fun _ h_=>h_.1))) (Kd.R_base ho0) hb);have n2_:=Aside0.mk (Kd.V_elder' (by (with_reducible repeat (first|apply Kd.V_alloc|apply Kd.V_drewN|apply Kd.V_drew));exact (Kd.V_mono (Kd.V_far (p:=⟨gb893,2,none⟩) (Kd.V_far (p:=⟨gb893,1,none⟩) (Kd.V_far (p:=⟨gb893,0,none⟩) (Kd.V_mono HO_28.out (fun k_ hk=>(⟨hk,hk.2⟩:_∧k_≠gb893))) (fun _ hk=>hk.2) (.int .i64 ((rd_T28 (rd_L5 x8_1 x21_1) x30_2).f0))) (fun _ hk=>hk.2) (.int .i64 ((rd_T28 (rd_L5 x8_1 x21_1) x30_2).f1))) (fun _ hk=>hk.2) (.int .i64 ((rd_T28 (rd_L5 x8_1 x21_1) x30_2).f2))) (fun _ h_=>h_.1))) (Kd.R_base ho0) hb);have n3_:=Aside0.mk (Kd.R_lower (Kd.R_newB (Kd.R_newB (Kd.R_new' (Kd.R_newM (M:=fun k_=>(w.heap.size≤k_)) ho0 (below_size blA) (fun k_ h_=>h_)) (Kd.R_lt (by (with_reducible repeat (first|apply Kd.R_alloc|apply Kd.R_drewN|apply Kd.R_drew));exact (Kd.R_mono (Kd.R_far (p:=⟨gb893,2,none⟩) (Kd.R_far (p:=⟨gb893,1,none⟩) (Kd.R_far (p:=⟨gb893,0,none⟩) (Kd.R_mono HO_10.out (fun k_ hk=>(⟨hk,hk.2⟩:_∧k_≠gb893))) (fun _ hk=>hk.2) (.int .i64 ((rd_T28 (rd_L5 x8_1 x21_1) x30_2).f0))) (fun _ hk=>hk.2) (.int .i64 ((rd_T28 (rd_L5 x8_1 x21_1) x30_2).f1))) (fun _ hk=>hk.2) (.int .i64 ((rd_T28 (rd_L5 x8_1 x21_1) x30_2).f2))) (fun _ h_=>h_.1))))) (g:=gb878) (o:=.cells #[.int .i64 a1_0,.int .i64 a1_1,.int .i64 a1_2] 28 (0,0)) (bkF BK878)) (g:=gb893) (o:=.cells #[.int .i64 ((rd_T28 (rd_L5 x8_1 x21_1) x30_2).f0),.int .i64 ((rd_T28 (rd_L5 x8_1 x21_1) x30_2).f1),.int .i64 ((rd_T28 (rd_L5 x8_1 x21_1) x30_2).f2)] 28 (0,0)) (bpA BK893)) (below_size blA));have n4_:=Aside0.mk (blk_below (g:=gb878) (o:=.cells #[.int .i64 a1_0,.int .i64 a1_1,.int .i64 a1_2] 28 (0,0)) (bkF BK878) hb);have n5_:=Aside0.mk (blk_below (g:=gb893) (o:=.cells #[.int .i64 ((rd_T28 (rd_L5 x8_1 x21_1) x30_2).f0),.int .i64 ((rd_T28 (rd_L5 x8_1 x21_1) x30_2).f1),.int .i64 ((rd_T28 (rd_L5 x8_1 x21_1) x30_2).f2)] 28 (0,0)) (bpA BK893) hb);have n6_:=lB hb;clear HO_8;clear HO_10;clear HO_28;clear BK878;clear BK893;clear HB;have HO_8:=n0_;have HO_10:=n1_;have HO_28:=n2_;have HO896:=n3_;have BK878:=n4_;have BK893:=n5_;have HB:=n6_;clear n0_ n1_ n2_ n3_ n4_ n5_ n6_;clear ho0 hb))
        go_ret2
        exact ⟨_,eW,by first|exact Kd.S_nil _ _ _ _ _|exact Kd.N_nil _ _ _ _ _|exact Kd.V_nil _ _ _ _ _|exact Kd.Q_nil _ _ _ _ _|exact Kd.R_nil _ _ _ _ _,blA⟩
      ·
       rw [if_neg c17] at H
       have c17b0:=decide_eq_false c17
       clear c17
       by_cases c53:x8_1.length<5864062014805
       rotate_left
       ·
        rw [if_neg c53] at H
        exact absurd H (by simp)
       rw [if_pos c53] at H
       have LMc53:=Aside0.mk c53
       clear c53
       obtain ⟨y889,hy889⟩:∃ y_:List (List (S28)),y_=(x8_1 ++ [x10_2]):=⟨_,rfl⟩
       replace H:(impl_spheres.l0 k2 a0 y889 a2 (wrap64 (x21_1+1)) a1_0 a1_1 a1_2)=some (r1,r2):=rH hy889 H
       have Ny889:=Aside0.mk hy889
       clear hy889
       have H':=Aside0.mk H
       clear H
       obtain ⟨Ao55,co55,eo55⟩:=Kd.R_slice HO_10.out
       subst eo55
       go_wp2_with (first|((with_reducible refine gate_builtin (b:=.append) (xs:=#[.tmp 60,.tmp 62]) rfl ?_);at_builtin;refine Kd.N_append (Kd.slice 28 k28) (w0:=w) w.heap.size rfl (.tmp 60) (.tmp 62) 126 64 (.slice none 0 0) 24 rfl Try.underlying126 info64 rfl (by decide) (by omega) (.slice (some ad888) x8_1.length co16) x8_1 x10_2 [.slice Ao55 x10_2.length co55] (fun k_=>(w.heap.size≤k_)∧k_≠gb878) (fun k_=>((fun k_=>(w.heap.size≤k_)∧k_≠gb878)) k_∧some k_≠(.slice (some ad888) x8_1.length co16:Value).ownBlock) rfl rfl ?aP (fun _ hk=>hk) ?aF ?aO ?aB ?aS ?aL ?_;(case aP=>exact (Kd.FK_slice_mk (Kd.R_reads' (Kd.R_mono (ok':=(fun k_=>((fun k_=>(w.heap.size≤k_)∧k_≠gb878)) k_∧some k_≠(.slice (some ad888) x8_1.length co16:Value).ownBlock)) (Kd.R_apart' (HO_10.out) (Kd.N_typed HO_8.out) (by decide)) (fun k_ hk=>⟨⟨hk.1.1,hk.1.2⟩,hk.2⟩))).2.1 (Kd.R_F (Kd.R_mono (ok':=(fun k_=>((fun k_=>(w.heap.size≤k_)∧k_≠gb878)) k_∧some k_≠(.slice (some ad888) x8_1.length co16:Value).ownBlock)) (Kd.R_apart' (HO_10.out) (Kd.N_typed HO_8.out) (by decide)) (fun k_ hk=>⟨⟨hk.1.1,hk.1.2⟩,hk.2⟩)))));(case aB=>exact blA);(case aF=>exact (fun k_ hk=>⟨(Nat.le_trans (below_size blA) hk),Kd.freshB (bkA BK878) k_ hk⟩));(case aO=>exact (by (with_reducible repeat (first|apply Kd.N_alloc|apply Kd.N_drewN|apply Kd.N_drew));exact Kd.N_mono HO_8.out (fun _ hk=>⟨hk.1,hk.2.2⟩)));(case aS=>exact (below_size blA));(case aL=>have:=LMc53.out;omega);intro v890 w54 ho hb hg hat;rw [← Ny889.out] at ho;have HO891:=Aside0.mk ho;replace HO_28:=Aside0.mk (Kd.V_afterv (ok:=(fun k_=>(w.heap.size≤k_)∧some k_≠(.slice Ao55 x10_2.length co55:Value).ownBlock∧k_≠gb878)) (by (with_reducible repeat (first|apply Kd.V_alloc|apply Kd.V_drewN|apply Kd.V_drew));exact Kd.V_mono HO_28.out (fun _ hk=>⟨⟨hk.1,⟨hk.2.2.1,hk.2.2.2⟩⟩,hk.2.1⟩)) hg hat);replace BK878:=Aside0.mk (blk_grown (bkA BK878) hg (Kd.N_ne HO_8.out BK878.out (by decide)));replace HB:=Aside0.mk hb;clear HO_8 HO_10;clear ho hb hg hat))
       go_roundg k2
       case measure=>have:=HK1.out;have:=HK2.out;omega
       case rel=>exact ⟨(y889),(wrap64 (x21_1+1)),hB,H',⟨by have:=HK1.out;have:=HK2.out;omega⟩,⟨rN HO891⟩,⟨bkA BK878⟩,⟨blA⟩⟩
   ·
    rw [if_neg c11] at H
    have c11b0:=decide_eq_false c11
    clear c11
    simp only [Option.some.injEq,Prod.mk.injEq] at H
    obtain ⟨rfl,rfl⟩:=H
    go_wp2
    go_ret2
    exact ⟨_,eW,by (with_reducible repeat (first|apply Kd.N_alloc|apply Kd.N_drewN|apply Kd.N_drew));exact Kd.N_mono HO_8.out (fun _ hk=>hk.1),blA⟩
end Go.Proofs.Ytlpmefmaplhfdaa.PAll
