-- turned out of the kit's print
import Derived.Test.YtlpmefmaplhfdaaQx
import Derived.Test.YtlpmefmaplhfdaaQimplInverseMatrix
import Derived.Test.YtlpmefmaplhfdaaQimplspheres
import Derived.Test.YtlpmefmaplhfdaaQspecl04With
namespace Go.Proofs.Ytlpmefmaplhfdaa.PAll
open Go.RowKit Go.Proofs.YtlpmefmaplhfdaaW.PrintWords Go.Proofs.YtlpmefmaplhfdaaW.PrintLast Go.Proofs.YtlpmefmaplhfdaaW.PrintMore
attribute [local go_sem] Go.Proofs.Ytlpmefmaplhfdaa.Aux.setCell_drewN Go.Proofs.Ytlpmefmaplhfdaa.Aux.isSome_setCell max2_int min2_int max_two min_two max_three min_three max_four min_four
set_option linter.unusedVariables false
set_option linter.unusedSimpArgs false
mutual
def impl_nearBalls.l0:Nat→Int→Int→List (S28)→List (List (S28))→Int→Int→Int→Int→Int→Int→Option ((List (S28)) × Int)
 | 0,_,_,_,_,_,_,_,_,_,_=>none
 | k+1,x0,x4,x14,x31,x32,x33,x905000,x905001,x905002,x905003=>if x33<x32 then (if 0≤x33 then (if x33<(x31.length:Int) then (impl_nearBalls.l1 k x0 x4 x14 x31 x32 x33 (rd_L5 x31 x33) ((rd_L5 x31 x33).length:Int) 0 x905000 x905001 x905002 x905003) else (none)) else (none)) else (some (x14,0))
def impl_nearBalls.l1:Nat→Int→Int→List (S28)→List (List (S28))→Int→Int→List (S28)→Int→Int→Int→Int→Int→Int→Option ((List (S28)) × Int)
 | 0,_,_,_,_,_,_,_,_,_,_,_,_,_=>none
 | k+1,x0,x4,x14,x31,x32,x33,x37,x38,x39,x905000,x905001,x905002,x905003=>if x39<x38 then (if 0≤x39 then (if x39<(x37.length:Int) then ((impl_moveBall.f k x0 x905000 x905001 x905002 x905003 ((rd_T28 x37 x39).f0) ((rd_T28 x37 x39).f1) ((rd_T28 x37 x39).f2)).bind fun bt916=>(if bt916.2.2.2=true then ((impl_distance.f k x0 ((rd_T28 x37 x39).f0) ((rd_T28 x37 x39).f1) ((rd_T28 x37 x39).f2) bt916.1 bt916.2.1 bt916.2.2.1).bind fun t921=>(if t921=x4 then (if x14.length<5864062014805 then (impl_nearBalls.l1 k x0 x4 (x14 ++ [(⟨(rd_T28 x37 x39).f0,(rd_T28 x37 x39).f1,(rd_T28 x37 x39).f2⟩:S28)]) x31 x32 x33 x37 x38 (wrap64 (x39+1)) x905000 x905001 x905002 x905003) else (none)) else (impl_nearBalls.l1 k x0 x4 x14 x31 x32 x33 x37 x38 (wrap64 (x39+1)) x905000 x905001 x905002 x905003))) else (some (([]:List (S28)),3)))) else (none)) else (none)) else (impl_nearBalls.l0 k x0 x4 x14 x31 x32 (wrap64 (x33+1)) x905000 x905001 x905002 x905003)
end
def impl_nearBalls.f (k:Nat) (a0 a1_0 a1_1 a1_2 a1_3 a2_0 a2_1 a2_2 a3 a4:Int):Option ((List (S28)) × Int):=(impl_spheres.f k a0 a2_0 a2_1 a2_2 a3).bind fun bt906=>(if bt906.2=true then (impl_nearBalls.l0 k a0 a4 (([]:List (S28))) bt906.1 (bt906.1.length:Int) 0 a1_0 a1_1 a1_2 a1_3) else (some (([]:List (S28)),3)))
theorem impl_nearBalls.mono_l:∀ k,(∀ y0 y1 y2 y3 y4 y5 y6 y7 y8 y9,LeO (impl_nearBalls.l0 k y0 y1 y2 y3 y4 y5 y6 y7 y8 y9) (impl_nearBalls.l0 (k+1) y0 y1 y2 y3 y4 y5 y6 y7 y8 y9))∧(∀ y0 y1 y2 y3 y4 y5 y6 y7 y8 y9 y10 y11 y12,LeO (impl_nearBalls.l1 k y0 y1 y2 y3 y4 y5 y6 y7 y8 y9 y10 y11 y12) (impl_nearBalls.l1 (k+1) y0 y1 y2 y3 y4 y5 y6 y7 y8 y9 y10 y11 y12))
 | 0=>by refine ⟨?_,?_⟩ <;> (intros;intro r h;simp [impl_nearBalls.l0,impl_nearBalls.l1] at h)
 | k+1=>by
  obtain ⟨ih0,ih1⟩:=impl_nearBalls.mono_l k
  refine ⟨?_,?_⟩ <;> (intros;first|unfold impl_nearBalls.l0|unfold impl_nearBalls.l1)
  all_goals repeat' first
  | with_reducible first|exact ih0 ..|exact ih1 ..|exact impl_distance.mono ..|exact impl_moveBall.mono ..|exact impl_spheres.mono ..|exact LeO.refl _|exact LeO.none _|refine LeO.ite ?_ ?_|refine LeO.bind ?_ fun _=>?_
theorem impl_nearBalls.mono:∀ a0 a1 a2 a3 a4 a5 a6 a7 a8 a9 k,LeO (impl_nearBalls.f k a0 a1 a2 a3 a4 a5 a6 a7 a8 a9) (impl_nearBalls.f (k+1) a0 a1 a2 a3 a4 a5 a6 a7 a8 a9):=by
 intro a0 a1 a2 a3 a4 a5 a6 a7 a8 a9 k
 obtain ⟨ih0,ih1⟩:=impl_nearBalls.mono_l k
 unfold impl_nearBalls.f
 repeat' first
   | with_reducible first|exact ih0 ..|exact ih1 ..|exact impl_distance.mono ..|exact impl_moveBall.mono ..|exact impl_spheres.mono ..|exact LeO.refl _|exact LeO.none _|refine LeO.ite ?_ ?_|refine LeO.bind ?_ fun _=>?_
set_option maxHeartbeats 8000000 in
set_option maxRecDepth 100000 in
theorem impl_nearBalls.calls (k:Nat) (a0 a1_0 a1_1 a1_2 a1_3 a2_0 a2_1 a2_2 a3 a4:Int) (r1:List (S28)) (r2:Int) (w:World) (h:impl_nearBalls.f k a0 a1_0 a1_1 a1_2 a1_3 a2_0 a2_1 a2_2 a3 a4=some (r1,r2)) :
  Calls Try.prog 84 #[.int .i64 a0,.agg #[.int .i64 a1_0,.int .i64 a1_1,.int .i64 a1_2,.int .i64 a1_3],.agg #[.int .i64 a2_0,.int .i64 a2_1,.int .i64 a2_2],.int .i64 a3,.int .i64 a4] w fun e w'=>∃ v0_:Value,e=.returned (.tuple #[v0_,.int .i64 r2])∧Kd.R k28 28 w' w.heap.size (fun _=>True) v0_ r1∧Below w.heap.size w w':=by
 have hu26:=Try.underlying26
 have hu28:=Try.underlying28
 have HB:=Aside0.mk (Below.refl w.heap.size w)
 have H:=h
 unfold impl_nearBalls.f at H
 clear h
 replace H:=bS H
 obtain ⟨⟨t906,t909⟩,A6,H⟩:=H
 try dsimp only at H
 by_cases c7:t909=true
 ·
  subst c7
  rw [if_pos rfl] at H
  try dsimp only at H
  obtain ⟨y910,hy910⟩:∃ y_:List (S28),y_=(([]:List (S28))):=⟨_,rfl⟩
  replace H:(impl_nearBalls.l0 k a0 a4 y910 t906 (t906.length:Int) 0 a1_0 a1_1 a1_2 a1_3)=some (r1,r2):=rH hy910 H
  have Ny910:=Aside0.mk hy910
  clear hy910
  have H':=Aside0.mk H
  clear H
  go_enter Try.func84,Try.ntmps84
  go_wp2_with (first|((with_reducible refine gate_dst (N:=6) rfl ?_);refine bxE (cs:=#[.int .i64 a1_0,.int .i64 a1_1,.int .i64 a1_2,.int .i64 a1_3]) (t:=26) ?_;intro gb904 hg w8 hbox hb;have BK904:=Aside0.mk hbox;have GW904:=sA hg;have GE904:=sA hg;replace HB:=lB hb;clear hb hbox hg)|((with_reducible refine gate_dst (N:=7) rfl ?_);refine bxE (cs:=#[.int .i64 a2_0,.int .i64 a2_1,.int .i64 a2_2]) (t:=28) ?_;intro gb905 hg w9 hbox hb;have BK905:=Aside0.mk hbox;have GW905:=sA hg;have GE905:=sA hg;have NB904_905:=nA hg BK904;have NB905_904:=nB hg BK904;replace BK904:=kB BK904 hb;replace HB:=lB hb;clear hb hbox hg;have hnb10:=NB905_904.out;have hnc10:=NB904_905.out;obtain ⟨hcz11_0,hcz11_1,hcz11_2,hfz11_0,hfz11_1,hfz11_2⟩:=cz3 BK905)|((with_reducible refine gate_callee (f:=114) rfl ?_);refine gL (some 25) rfl Try.func114 #[.int .i64 a0,.agg #[.int .i64 a2_0,.int .i64 a2_1,.int .i64 a2_2],.int .i64 a3] ?_;(with_reducible refine (impl_spheres.calls k a0 a2_0 a2_1 a2_2 a3 t906 true _ A6.out).mono ?_);rintro e w12 ⟨v907,rfl,ho0,hb⟩;refine ⟨_,rfl,?_⟩;have HO908:=Aside0.mk (Kd.N_lower (Kd.N_mono (ok':=fun k_=>k_≠gb904∧k_≠gb905) ho0 (fun k_ hk_=>⟨(Kd.freshB (bkA BK904) k_ hk_),(Kd.freshB (bkA BK905) k_ hk_)⟩)) (below_size blA));replace BK904:=kB BK904 hb;replace BK905:=kB BK905 hb;replace HB:=lB hb;clear ho0 hb)|((with_reducible refine gate_dst (N:=30) rfl ?_);refine Kd.R_lit k28 _ 28 ?hg (N:=30) ?hd (xs:=([]:List (S28))) (inner:=[]) (ok:=fun _=>True) (okp:=fun _=>True) ?hr ?hp (fun _ hk=>hk) trivial (Below.refl _ _) (Nat.le_refl _) (by simp) ?_;(case hd=>rfl);(case hg=>rfl);(case hr=>first|(go_simp;done)|(go_simp;rfl));(case hp=>exact (Reps.none _ _));intro v911 w13 ho14 hb hg_ hnew_;clear hg_ hnew_;(first|rw [← Ny910.out] at ho14|(simp only [Int.reduceToNat] at ho14;rw [← Ny910.out] at ho14));have HO912:=Aside0.mk (Kd.R_lower (Kd.R_newB ho14 (bkA BK905)) (below_size blA));replace HO908:=Aside0.mk (Kd.N_elder' (rN HO908) (Kd.R_base ho14) hb);replace BK904:=kB BK904 hb;replace BK905:=kB BK905 hb;replace HB:=lB hb;clear hb ho14;obtain ⟨Ao15,co15,eo15⟩:=Kd.N_slice HO908.out;subst eo15))
  go_loopg [14,33] k (fun kq v14 v33 w'=>∃ (x14_1:List (S28)) (x33_1:Int),v33=.int .i64 x33_1∧Aside0 (impl_nearBalls.l0 kq a0 a4 x14_1 t906 (t906.length:Int) x33_1 a1_0 a1_1 a1_2 a1_3=some (r1,r2))∧Aside0 (kq≤k)∧Aside0 (Kd.R k28 28 w' w.heap.size (fun k_=>k_≠gb905) v14 x14_1)∧Aside0 (Kd.N (Kd.slice 28 k28) 64 w' w.heap.size (fun k_=>some k_≠(v14:Value).ownBlock∧k_≠gb904∧k_≠gb905) (.slice Ao15 t906.length co15) t906)∧Aside0 (w'.heap[gb904]?=some (.cells #[.int .i64 a1_0,.int .i64 a1_1,.int .i64 a1_2,.int .i64 a1_3] 26 (0,0)))∧Aside0 (w'.heap[gb905]?=some (.cells #[.int .i64 a2_0,.int .i64 a2_1,.int .i64 a2_2] 28 (0,0)))∧Aside0 (Below w.heap.size w w'))
  case atStart=>exact ⟨(y910),(0),hB,H',⟨Nat.le_refl _⟩,⟨by (with_reducible repeat (first|apply Kd.R_alloc|apply Kd.R_drewN|apply Kd.R_drew));exact Kd.R_mono HO912.out (fun _ hk=>hk.2)⟩,⟨by (with_reducible repeat (first|apply Kd.N_alloc|apply Kd.N_drewN|apply Kd.N_drew));exact Kd.N_mono HO908.out (fun _ hk=>⟨hk.2,⟨hk.1.1,hk.1.2⟩⟩)⟩,⟨bkA BK904⟩,⟨bkA BK905⟩,⟨blA⟩⟩
  case round=>
   clear H'
   try clear c7
   try clear hcz11_0
   try clear hcz11_1
   try clear hcz11_2
   try clear hfz11_0
   try clear hfz11_1
   try clear hfz11_2
   obtain ⟨x14_1,x33_1,rfl,HA,HK1,HO_14,HO_31,BK904,BK905,HB⟩:=hrel
   cases gk with
   | zero=>exact absurd HA.out (by simp [impl_nearBalls.l0])
   | succ k1=>
    have H:=HA.out
    clear HA
    simp only [impl_nearBalls.l0] at H
    by_cases c16:x33_1<(t906.length:Int)
    ·
     rw [if_pos c16] at H
     have c16b0:=decide_eq_true c16
     clear c16
     by_cases c17:0≤x33_1
     rotate_left
     ·
      rw [if_neg c17] at H
      exact absurd H (by simp)
     rw [if_pos c17] at H
     have c17b0:=decide_eq_true c17
     clear c17
     by_cases c18:x33_1<(t906.length:Int)
     rotate_left
     ·
      rw [if_neg c18] at H
      exact absurd H (by simp)
     rw [if_pos c18] at H
     have c18b0:=decide_eq_true c18
     clear c18
     have H':=Aside0.mk H
     clear H
     have p913:0≤(x33_1:Int):=dA
     have q913:x33_1<(t906.length:Int):=dA
     obtain ⟨ad913,A913_0,c913_0,e913,hx913_0,hl913_0,hi913_0⟩:=at_L5 (Kd.N_reads' HO_31.out).2.2 x33_1 p913 q913
     cases e913
     obtain ⟨ce913,hce913,hMe913,hcc913⟩:=Kd.N_get HO_31.out [] x33_1 p913 (by first|exact q913|exact dA|(have e_:=(Kd.N_reads' HO_31.out).1;omega))
     obtain ⟨ua913_0,uc913_0,rfl,ul913_0,ge913_0⟩:=Kd.FK_slice_open hMe913
     have hv913_0:=hcc913 0 _ rfl
     rw [Nat.add_zero,show ((Kd.slice 28 k28)).sz=1 from rfl,Nat.mul_one] at hv913_0
     replace hv913_0:=Option.some.inj (hv913_0.symm.trans hx913_0)
     injection hv913_0 with hva_ hvn_ hvc_
     rw [hva_] at ge913_0
     rw [hvc_] at ul913_0
     have HL913_0:=Aside0.mk (show Kd.V k28 28 _ w.heap.size _ _ (rd_L5 t906 x33_1) from Kd.V_mk ul913_0 ge913_0)
     clear hva_ hvn_ hvc_ ge913_0 ul913_0
     clear hcc913 hce913
     have HR913_0:=Aside0.mk hi913_0
     have HC913_0:=Aside0.mk hl913_0
     clear hi913_0 hl913_0
     replace p913:=eq_true p913
     replace q913:=eq_true q913
     go_wp2
     go_loopg [14,39] k1 (fun kq v14 v39 w'=>∃ (x14_2:List (S28)) (x39_2:Int),v39=.int .i64 x39_2∧Aside0 (impl_nearBalls.l1 kq a0 a4 x14_2 t906 (t906.length:Int) x33_1 (rd_L5 t906 x33_1) ((rd_L5 t906 x33_1).length:Int) x39_2 a1_0 a1_1 a1_2 a1_3=some (r1,r2))∧Aside0 (kq≤k1)∧Aside0 (Kd.R k28 28 w' w.heap.size (fun k_=>k_≠gb905) v14 x14_2)∧Aside0 (Kd.N (Kd.slice 28 k28) 64 w' w.heap.size (fun k_=>some k_≠(v14:Value).ownBlock∧k_≠gb904∧k_≠gb905) (.slice (some ad913) t906.length co15) t906)∧Aside0 (Kd.V k28 28 w' w.heap.size (fun k_=>some k_≠(v14:Value).ownBlock∧some k_≠((.slice (some ad913) t906.length co15):Value).ownBlock∧k_≠gb904∧k_≠gb905) (.slice A913_0 (rd_L5 t906 x33_1).length c913_0) (rd_L5 t906 x33_1))∧Aside0 (w'.heap[gb904]?=some (.cells #[.int .i64 a1_0,.int .i64 a1_1,.int .i64 a1_2,.int .i64 a1_3] 26 (0,0)))∧Aside0 (w'.heap[gb905]?=some (.cells #[.int .i64 a2_0,.int .i64 a2_1,.int .i64 a2_2] 28 (0,0)))∧Aside0 (Below w.heap.size w w'))
     case atStart=>exact ⟨(x14_1),(0),hB,H',⟨Nat.le_refl _⟩,⟨rA HO_14⟩,⟨rN HO_31⟩,⟨by (with_reducible repeat (first|apply Kd.V_alloc|apply Kd.V_drewN|apply Kd.V_drew));exact Kd.V_mono HL913_0.out (fun _ hk=>⟨hk.1.1,⟨hk.2,⟨hk.1.2.1,hk.1.2.2⟩⟩⟩)⟩,⟨bkA BK904⟩,⟨bkA BK905⟩,⟨blA⟩⟩
     case round=>
      clear H'
      try clear c7
      try clear c16
      try clear c16b0
      try clear c17
      try clear c17b0
      try clear c18
      try clear c18b0
      try clear hcz11_0
      try clear hcz11_1
      try clear hcz11_2
      try clear hfz11_0
      try clear hfz11_1
      try clear hfz11_2
      try clear hx913_0
      try clear p913
      try clear q913
      obtain ⟨x14_2,x39_2,rfl,HA,HK2,HO_14,HO_31,HO_37,BK904,BK905,HB⟩:=hrel
      cases gk with
      | zero=>exact absurd HA.out (by simp [impl_nearBalls.l1])
      | succ k2=>
       have H:=HA.out
       clear HA
       simp only [impl_nearBalls.l1] at H
       by_cases c19:x39_2<((rd_L5 t906 x33_1).length:Int)
       ·
        rw [if_pos c19] at H
        have c19b0:=decide_eq_true c19
        clear c19
        by_cases c20:0≤x39_2
        rotate_left
        ·
         rw [if_neg c20] at H
         exact absurd H (by simp)
        rw [if_pos c20] at H
        have c20b0:=decide_eq_true c20
        clear c20
        by_cases c21:x39_2<((rd_L5 t906 x33_1).length:Int)
        rotate_left
        ·
         rw [if_neg c21] at H
         exact absurd H (by simp)
        rw [if_pos c21] at H
        have c21b0:=decide_eq_true c21
        clear c21
        replace H:=bS H
        obtain ⟨⟨t916,t917,t918,t919⟩,A22,H⟩:=H
        try dsimp only at H
        by_cases c23:t919=true
        ·
         subst c23
         rw [if_pos rfl] at H
         try dsimp only at H
         replace H:=bS H
         obtain ⟨t921,A24,H⟩:=H
         try dsimp only at H
         by_cases c25:t921=a4
         focus
          rw [if_pos c25] at H
          have c25b0:(t921 == a4)=true:=beq_iff_eq.mpr c25
          have c25b1:(t921 != a4)=false:=bne_eq_false_iff_eq.mpr c25
          clear c25
          by_cases c26:x14_2.length<5864062014805
          rotate_left
          ·
           rw [if_neg c26] at H
           exact absurd H (by simp)
          rw [if_pos c26] at H
          have LMc26:=Aside0.mk c26
          clear c26
          obtain ⟨y922,hy922⟩:∃ y_:List (S28),y_=(x14_2 ++ [(⟨(rd_T28 (rd_L5 t906 x33_1) x39_2).f0,(rd_T28 (rd_L5 t906 x33_1) x39_2).f1,(rd_T28 (rd_L5 t906 x33_1) x39_2).f2⟩:S28)]):=⟨_,rfl⟩
          replace H:(impl_nearBalls.l1 k2 a0 a4 y922 t906 (t906.length:Int) x33_1 (rd_L5 t906 x33_1) ((rd_L5 t906 x33_1).length:Int) (wrap64 (x39_2+1)) a1_0 a1_1 a1_2 a1_3)=some (r1,r2):=rH hy922 H
          have Ny922:=Aside0.mk hy922
          clear hy922
          have H':=Aside0.mk H
          clear H
          have p914:0≤(x39_2:Int):=dA
          have q914:x39_2<((rd_L5 t906 x33_1).length:Int):=dA
          obtain ⟨ad914,e914,hx914_0,hx914_1,hx914_2⟩:=at_T28 (Kd.V_reads' HO_37.out).2.2 x39_2 p914 q914
          cases e914
          replace p914:=eq_true p914
          replace q914:=eq_true q914
         rotate_left
         focus
          rw [if_neg c25] at H
          have c25b0:(t921 == a4)=false:=beq_eq_false_iff_ne.mpr c25
          have c25b1:(t921 != a4)=true:=bne_iff_ne.mpr c25
          have H':=Aside0.mk H
          clear H
          have p914:0≤(x39_2:Int):=dA
          have q914:x39_2<((rd_L5 t906 x33_1).length:Int):=dA
          obtain ⟨ad914,e914,hx914_0,hx914_1,hx914_2⟩:=at_T28 (Kd.V_reads' HO_37.out).2.2 x39_2 p914 q914
          cases e914
          replace p914:=eq_true p914
          replace q914:=eq_true q914
         rotate_left
         all_goals
          go_wp2_with (first|((with_reducible refine gate_dst (N:=18) rfl ?_);refine bxE (cs:=#[.int .i64 0,.int .i64 0,.int .i64 0]) (t:=28) ?_;intro gb915 hg w27 hbox hb;have BK915:=Aside0.mk hbox;have GW915:=sA hg;have GE915:=sA hg;have NB904_915:=nA hg BK904;have NB915_904:=nB hg BK904;have NB905_915:=nA hg BK905;have NB915_905:=nB hg BK905;replace HO_14:=Aside0.mk (Kd.R_below (Kd.R_elderB (rA HO_14) gb915 (Nat.le_of_eq hg.symm)) hb);replace HO_31:=Aside0.mk (Kd.N_below (Kd.N_elderB (rN HO_31) gb915 (Nat.le_of_eq hg.symm)) hb);replace HO_37:=Aside0.mk (Kd.V_below (Kd.V_elderB (rV HO_37) gb915 (Nat.le_of_eq hg.symm)) hb);replace BK904:=kB BK904 hb;replace BK905:=kB BK905 hb;replace HB:=lB hb;clear hb hbox hg;have hnb28:=NB915_904.out;have hnc28:=NB904_915.out;have hnb29:=NB915_905.out;have hnc29:=NB905_915.out;obtain ⟨hcz30_0,hcz30_1,hcz30_2,hfz30_0,hfz30_1,hfz30_2⟩:=cz3 BK915;have hnb31:=NB904_905.out;have hnc31:=NB905_904.out;obtain ⟨hcz32_0,hcz32_1,hcz32_2,hcz32_3,hfz32_0,hfz32_1,hfz32_2,hfz32_3⟩:=cz4 BK904)|((with_reducible refine gd 47 rfl ?_);refine gC (some 47) rfl Try.func44 (impl_moveBall.calls (w:=_) (h:=A22.out)) ?_;intro w33 hb;have n0_:=Aside0.mk (Kd.R_below (by (with_reducible repeat (first|apply Kd.R_alloc|apply Kd.R_drewN|apply Kd.R_drew));exact (Kd.R_mono (Kd.R_far (p:=⟨gb915,2,none⟩) (Kd.R_far (p:=⟨gb915,1,none⟩) (Kd.R_far (p:=⟨gb915,0,none⟩) (Kd.R_mono HO_14.out (fun k_ hk=>(⟨hk,hk.2⟩:_∧k_≠gb915))) (fun _ hk=>hk.2) (.int .i64 ((rd_T28 (rd_L5 t906 x33_1) x39_2).f0))) (fun _ hk=>hk.2) (.int .i64 ((rd_T28 (rd_L5 t906 x33_1) x39_2).f1))) (fun _ hk=>hk.2) (.int .i64 ((rd_T28 (rd_L5 t906 x33_1) x39_2).f2))) (fun _ h_=>h_.1))) hb);have n1_:=Aside0.mk (Kd.N_below (by (with_reducible repeat (first|apply Kd.N_alloc|apply Kd.N_drewN|apply Kd.N_drew));exact (Kd.N_mono (Kd.N_far (p:=⟨gb915,2,none⟩) (Kd.N_far (p:=⟨gb915,1,none⟩) (Kd.N_far (p:=⟨gb915,0,none⟩) (Kd.N_mono HO_31.out (fun k_ hk=>(⟨hk,hk.2⟩:_∧k_≠gb915))) (fun _ hk=>hk.2) (.int .i64 ((rd_T28 (rd_L5 t906 x33_1) x39_2).f0))) (fun _ hk=>hk.2) (.int .i64 ((rd_T28 (rd_L5 t906 x33_1) x39_2).f1))) (fun _ hk=>hk.2) (.int .i64 ((rd_T28 (rd_L5 t906 x33_1) x39_2).f2))) (fun _ h_=>h_.1))) hb);have n2_:=Aside0.mk (Kd.V_below (by (with_reducible repeat (first|apply Kd.V_alloc|apply Kd.V_drewN|apply Kd.V_drew));exact (Kd.V_mono (Kd.V_far (p:=⟨gb915,2,none⟩) (Kd.V_far (p:=⟨gb915,1,none⟩) (Kd.V_far (p:=⟨gb915,0,none⟩) (Kd.V_mono HO_37.out (fun k_ hk=>(⟨hk,hk.2⟩:_∧k_≠gb915))) (fun _ hk=>hk.2) (.int .i64 ((rd_T28 (rd_L5 t906 x33_1) x39_2).f0))) (fun _ hk=>hk.2) (.int .i64 ((rd_T28 (rd_L5 t906 x33_1) x39_2).f1))) (fun _ hk=>hk.2) (.int .i64 ((rd_T28 (rd_L5 t906 x33_1) x39_2).f2))) (fun _ h_=>h_.1))) hb);have n3_:=Aside0.mk (blk_below (g:=gb904) (o:=.cells #[.int .i64 a1_0,.int .i64 a1_1,.int .i64 a1_2,.int .i64 a1_3] 26 (0,0)) (bkF BK904) hb);have n4_:=Aside0.mk (blk_below (g:=gb905) (o:=.cells #[.int .i64 a2_0,.int .i64 a2_1,.int .i64 a2_2] 28 (0,0)) (bkF BK905) hb);have n5_:=Aside0.mk (blk_below (g:=gb915) (o:=.cells #[.int .i64 ((rd_T28 (rd_L5 t906 x33_1) x39_2).f0),.int .i64 ((rd_T28 (rd_L5 t906 x33_1) x39_2).f1),.int .i64 ((rd_T28 (rd_L5 t906 x33_1) x39_2).f2)] 28 (0,0)) (bpA BK915) hb);have n6_:=lB hb;clear HO_14;clear HO_31;clear HO_37;clear BK904;clear BK905;clear BK915;clear HB;have HO_14:=n0_;have HO_31:=n1_;have HO_37:=n2_;have BK904:=n3_;have BK905:=n4_;have BK915:=n5_;have HB:=n6_;clear n0_ n1_ n2_ n3_ n4_ n5_ n6_;clear hb)|((with_reducible refine gate_dst (N:=19) rfl ?_);refine bxE (cs:=#[.int .i64 0,.int .i64 0,.int .i64 0]) (t:=28) ?_;intro gb920 hg w34 hbox hb;have BK920:=Aside0.mk hbox;have GW920:=sA hg;have GE920:=sA hg;have NB904_920:=nA hg BK904;have NB920_904:=nB hg BK904;have NB905_920:=nA hg BK905;have NB920_905:=nB hg BK905;have NB915_920:=nA hg BK915;have NB920_915:=nB hg BK915;replace HO_14:=Aside0.mk (Kd.R_below (Kd.R_elderB (rA HO_14) gb920 (Nat.le_of_eq hg.symm)) hb);replace HO_31:=Aside0.mk (Kd.N_below (Kd.N_elderB (rN HO_31) gb920 (Nat.le_of_eq hg.symm)) hb);replace HO_37:=Aside0.mk (Kd.V_below (Kd.V_elderB (rV HO_37) gb920 (Nat.le_of_eq hg.symm)) hb);replace BK904:=kB BK904 hb;replace BK905:=kB BK905 hb;replace BK915:=kB BK915 hb;replace HB:=lB hb;clear hb hbox hg;have hnb35:=NB920_904.out;have hnc35:=NB904_920.out;have hnb36:=NB920_905.out;have hnc36:=NB905_920.out;have hnb37:=NB920_915.out;have hnc37:=NB915_920.out;obtain ⟨hcz38_0,hcz38_1,hcz38_2,hfz38_0,hfz38_1,hfz38_2⟩:=cz3 BK920;obtain ⟨hcz39_0,hcz39_1,hcz39_2,hfz39_0,hfz39_1,hfz39_2⟩:=cz3 BK915)|((with_reducible refine gd 55 rfl ?_);refine gC (some 55) rfl Try.func62 (impl_distance.calls (w:=_) (h:=A24.out)) ?_;intro w40 hb;have n0_:=Aside0.mk (Kd.R_below (by (with_reducible repeat (first|apply Kd.R_alloc|apply Kd.R_drewN|apply Kd.R_drew));exact (Kd.R_mono (Kd.R_far (p:=⟨gb920,2,none⟩) (Kd.R_far (p:=⟨gb920,1,none⟩) (Kd.R_far (p:=⟨gb920,0,none⟩) (Kd.R_mono HO_14.out (fun k_ hk=>(⟨hk,hk.2⟩:_∧k_≠gb920))) (fun _ hk=>hk.2) (.int .i64 t916)) (fun _ hk=>hk.2) (.int .i64 t917)) (fun _ hk=>hk.2) (.int .i64 t918)) (fun _ h_=>h_.1))) hb);have n1_:=Aside0.mk (Kd.N_below (by (with_reducible repeat (first|apply Kd.N_alloc|apply Kd.N_drewN|apply Kd.N_drew));exact (Kd.N_mono (Kd.N_far (p:=⟨gb920,2,none⟩) (Kd.N_far (p:=⟨gb920,1,none⟩) (Kd.N_far (p:=⟨gb920,0,none⟩) (Kd.N_mono HO_31.out (fun k_ hk=>(⟨hk,hk.2⟩:_∧k_≠gb920))) (fun _ hk=>hk.2) (.int .i64 t916)) (fun _ hk=>hk.2) (.int .i64 t917)) (fun _ hk=>hk.2) (.int .i64 t918)) (fun _ h_=>h_.1))) hb);have n2_:=Aside0.mk (Kd.V_below (by (with_reducible repeat (first|apply Kd.V_alloc|apply Kd.V_drewN|apply Kd.V_drew));exact (Kd.V_mono (Kd.V_far (p:=⟨gb920,2,none⟩) (Kd.V_far (p:=⟨gb920,1,none⟩) (Kd.V_far (p:=⟨gb920,0,none⟩) (Kd.V_mono HO_37.out (fun k_ hk=>(⟨hk,hk.2⟩:_∧k_≠gb920))) (fun _ hk=>hk.2) (.int .i64 t916)) (fun _ hk=>hk.2) (.int .i64 t917)) (fun _ hk=>hk.2) (.int .i64 t918)) (fun _ h_=>h_.1))) hb);have n3_:=Aside0.mk (blk_below (g:=gb904) (o:=.cells #[.int .i64 a1_0,.int .i64 a1_1,.int .i64 a1_2,.int .i64 a1_3] 26 (0,0)) (bkF BK904) hb);have n4_:=Aside0.mk (blk_below (g:=gb905) (o:=.cells #[.int .i64 a2_0,.int .i64 a2_1,.int .i64 a2_2] 28 (0,0)) (bkF BK905) hb);have n5_:=Aside0.mk (blk_below (g:=gb915) (o:=.cells #[.int .i64 ((rd_T28 (rd_L5 t906 x33_1) x39_2).f0),.int .i64 ((rd_T28 (rd_L5 t906 x33_1) x39_2).f1),.int .i64 ((rd_T28 (rd_L5 t906 x33_1) x39_2).f2)] 28 (0,0)) (bkF BK915) hb);have n6_:=Aside0.mk (blk_below (g:=gb920) (o:=.cells #[.int .i64 t916,.int .i64 t917,.int .i64 t918] 28 (0,0)) (bpA BK920) hb);have n7_:=lB hb;clear HO_14;clear HO_31;clear HO_37;clear BK904;clear BK905;clear BK915;clear BK920;clear HB;have HO_14:=n0_;have HO_31:=n1_;have HO_37:=n2_;have BK904:=n3_;have BK905:=n4_;have BK915:=n5_;have BK920:=n6_;have HB:=n7_;clear n0_ n1_ n2_ n3_ n4_ n5_ n6_ n7_;clear hb;obtain ⟨hcz41_0,hcz41_1,hcz41_2,hfz41_0,hfz41_1,hfz41_2⟩:=cz3 BK915)|((with_reducible refine gate_builtin (b:=.append) (xs:=#[.tmp 58,.tmp 60]) rfl ?_);at_builtin;refine Kd.R_append k28 (w0:=w) w.heap.size rfl (.tmp 58) (.tmp 60) 64 28 (.agg #[(.int .i64 0),(.int .i64 0),(.int .i64 0)]) 24 rfl Try.underlying64 info28 rfl (by decide) (by omega) u14 x14_2 (⟨(rd_T28 (rd_L5 t906 x33_1) x39_2).f0,(rd_T28 (rd_L5 t906 x33_1) x39_2).f1,(rd_T28 (rd_L5 t906 x33_1) x39_2).f2⟩:S28) [.int .i64 ((rd_T28 (rd_L5 t906 x33_1) x39_2).f0),.int .i64 ((rd_T28 (rd_L5 t906 x33_1) x39_2).f1),.int .i64 ((rd_T28 (rd_L5 t906 x33_1) x39_2).f2)] (fun k_=>k_≠gb905∧k_≠gb915∧k_≠gb920) (fun _=>False) rfl rfl ?aP (fun _ hk=>hk.elim) ?aF ?aO ?aB ?aS ?aL ?_;(case aP=>exact k28_mkM _ _ _ (⟨(rd_T28 (rd_L5 t906 x33_1) x39_2).f0,(rd_T28 (rd_L5 t906 x33_1) x39_2).f1,(rd_T28 (rd_L5 t906 x33_1) x39_2).f2⟩:S28));(case aB=>exact blA);(case aF=>exact (fun k_ hk=>⟨Kd.freshB (bkA BK905) k_ hk,Kd.freshB (bkA BK915) k_ hk,Kd.freshB (bkA BK920) k_ hk⟩));(case aO=>exact (by (with_reducible repeat (first|apply Kd.R_alloc|apply Kd.R_drewN|apply Kd.R_drew));exact Kd.R_mono HO_14.out (fun _ hk=>⟨hk.1.1,⟨hk.1.2,hk.2⟩⟩)));(case aS=>exact (below_size blA));(case aL=>have:=LMc26.out;omega);intro v923 w42 ho hb hg hat;rw [← Ny922.out] at ho;have HO924:=Aside0.mk ho;replace HO_31:=Aside0.mk (Kd.N_afterv (ok:=(fun k_=>k_≠gb904∧k_≠gb905∧k_≠gb915∧k_≠gb920)) (by (with_reducible repeat (first|apply Kd.N_alloc|apply Kd.N_drewN|apply Kd.N_drew));exact Kd.N_mono HO_31.out (fun _ hk=>⟨⟨hk.1.1.2.1,⟨hk.1.1.2.2,⟨hk.1.2,hk.2⟩⟩⟩,hk.1.1.1⟩)) hg hat);replace HO_37:=Aside0.mk (Kd.V_afterv (ok:=(fun k_=>some k_≠(.slice (some ad913) t906.length co15:Value).ownBlock∧k_≠gb904∧k_≠gb905∧k_≠gb915∧k_≠gb920)) (by (with_reducible repeat (first|apply Kd.V_alloc|apply Kd.V_drewN|apply Kd.V_drew));exact Kd.V_mono HO_37.out (fun _ hk=>⟨⟨hk.1.1.2.1,⟨hk.1.1.2.2.1,⟨hk.1.1.2.2.2,⟨hk.1.2,hk.2⟩⟩⟩⟩,hk.1.1.1⟩)) hg hat);replace BK904:=Aside0.mk (blk_grown (bkA BK904) hg (Kd.R_ne HO_14.out BK904.out (by decide)));replace BK905:=Aside0.mk (blk_grown (bkA BK905) hg (Kd.R_away HO_14.out (fun _ hk=>hk.1.1)));replace BK915:=Aside0.mk (blk_grown (bkA BK915) hg (Kd.R_away HO_14.out (fun _ hk=>hk.1.2)));replace BK920:=Aside0.mk (blk_grown (bkA BK920) hg (Kd.R_away HO_14.out (fun _ hk=>hk.2)));replace HB:=Aside0.mk hb;clear HO_14;clear ho hb hg hat))
         ·
          go_roundg k2
          case measure=>have:=HK1.out;have:=HK2.out;omega
          case rel=>exact ⟨(y922),(wrap64 (x39_2+1)),hB,H',⟨by have:=HK1.out;have:=HK2.out;omega⟩,⟨by (with_reducible repeat (first|apply Kd.R_alloc|apply Kd.R_drewN|apply Kd.R_drew));exact Kd.R_mono HO924.out (fun _ hk=>hk.1)⟩,⟨by (with_reducible repeat (first|apply Kd.N_alloc|apply Kd.N_drewN|apply Kd.N_drew));exact Kd.N_mono HO_31.out (fun _ hk=>⟨hk.2,⟨hk.1.1,hk.1.2.1⟩⟩)⟩,⟨by (with_reducible repeat (first|apply Kd.V_alloc|apply Kd.V_drewN|apply Kd.V_drew));exact Kd.V_mono HO_37.out (fun _ hk=>⟨hk.2,⟨hk.1.1,⟨hk.1.2.1,hk.1.2.2.1⟩⟩⟩)⟩,⟨bkA BK904⟩,⟨bkA BK905⟩,⟨blA⟩⟩
         ·
          go_roundg k2
          case measure=>have:=HK1.out;have:=HK2.out;omega
          case rel=>exact ⟨(x14_2),(wrap64 (x39_2+1)),hB,H',⟨by have:=HK1.out;have:=HK2.out;omega⟩,⟨by (with_reducible repeat (first|apply Kd.R_alloc|apply Kd.R_drewN|apply Kd.R_drew));exact Kd.R_mono HO_14.out (fun _ hk=>hk.1.1)⟩,⟨by (with_reducible repeat (first|apply Kd.N_alloc|apply Kd.N_drewN|apply Kd.N_drew));exact Kd.N_mono HO_31.out (fun _ hk=>⟨hk.1.1.1,⟨hk.1.1.2.1,hk.1.1.2.2⟩⟩)⟩,⟨by (with_reducible repeat (first|apply Kd.V_alloc|apply Kd.V_drewN|apply Kd.V_drew));exact Kd.V_mono HO_37.out (fun _ hk=>⟨hk.1.1.1,⟨hk.1.1.2.1,⟨hk.1.1.2.2.1,hk.1.1.2.2.2⟩⟩⟩)⟩,⟨bkA BK904⟩,⟨bkA BK905⟩,⟨blA⟩⟩
        ·
         replace c23:=Bool.eq_false_iff.mpr c23
         subst c23
         rw [if_neg (show ¬ (false=true) by decide)] at H
         try dsimp only at H
         simp only [Option.some.injEq,Prod.mk.injEq] at H
         obtain ⟨rfl,rfl⟩:=H
         have p914:0≤(x39_2:Int):=dA
         have q914:x39_2<((rd_L5 t906 x33_1).length:Int):=dA
         obtain ⟨ad914,e914,hx914_0,hx914_1,hx914_2⟩:=at_T28 (Kd.V_reads' HO_37.out).2.2 x39_2 p914 q914
         cases e914
         replace p914:=eq_true p914
         replace q914:=eq_true q914
         go_wp2_with (first|((with_reducible refine gate_dst (N:=18) rfl ?_);refine bxE (cs:=#[.int .i64 0,.int .i64 0,.int .i64 0]) (t:=28) ?_;intro gb915 hg w57 hbox hb;have BK915:=Aside0.mk hbox;have GW915:=sA hg;have GE915:=sA hg;have NB904_915:=nA hg BK904;have NB915_904:=nB hg BK904;have NB905_915:=nA hg BK905;have NB915_905:=nB hg BK905;replace HO_14:=Aside0.mk (Kd.R_below (Kd.R_elderB (rA HO_14) gb915 (Nat.le_of_eq hg.symm)) hb);replace HO_31:=Aside0.mk (Kd.N_below (Kd.N_elderB (rN HO_31) gb915 (Nat.le_of_eq hg.symm)) hb);replace HO_37:=Aside0.mk (Kd.V_below (Kd.V_elderB (rV HO_37) gb915 (Nat.le_of_eq hg.symm)) hb);replace BK904:=kB BK904 hb;replace BK905:=kB BK905 hb;replace HB:=lB hb;clear hb hbox hg;have hnb58:=NB915_904.out;have hnc58:=NB904_915.out;have hnb59:=NB915_905.out;have hnc59:=NB905_915.out;obtain ⟨hcz60_0,hcz60_1,hcz60_2,hfz60_0,hfz60_1,hfz60_2⟩:=cz3 BK915;have hnb61:=NB904_905.out;have hnc61:=NB905_904.out;obtain ⟨hcz62_0,hcz62_1,hcz62_2,hcz62_3,hfz62_0,hfz62_1,hfz62_2,hfz62_3⟩:=cz4 BK904)|((with_reducible refine gd 47 rfl ?_);refine gC (some 47) rfl Try.func44 (impl_moveBall.calls (w:=_) (h:=A22.out)) ?_;intro w63 hb;have n0_:=Aside0.mk (Kd.R_below (by (with_reducible repeat (first|apply Kd.R_alloc|apply Kd.R_drewN|apply Kd.R_drew));exact (Kd.R_mono (Kd.R_far (p:=⟨gb915,2,none⟩) (Kd.R_far (p:=⟨gb915,1,none⟩) (Kd.R_far (p:=⟨gb915,0,none⟩) (Kd.R_mono HO_14.out (fun k_ hk=>(⟨hk,hk.2⟩:_∧k_≠gb915))) (fun _ hk=>hk.2) (.int .i64 ((rd_T28 (rd_L5 t906 x33_1) x39_2).f0))) (fun _ hk=>hk.2) (.int .i64 ((rd_T28 (rd_L5 t906 x33_1) x39_2).f1))) (fun _ hk=>hk.2) (.int .i64 ((rd_T28 (rd_L5 t906 x33_1) x39_2).f2))) (fun _ h_=>h_.1))) hb);have n1_:=Aside0.mk (Kd.N_below (by (with_reducible repeat (first|apply Kd.N_alloc|apply Kd.N_drewN|apply Kd.N_drew));exact (Kd.N_mono (Kd.N_far (p:=⟨gb915,2,none⟩) (Kd.N_far (p:=⟨gb915,1,none⟩) (Kd.N_far (p:=⟨gb915,0,none⟩) (Kd.N_mono HO_31.out (fun k_ hk=>(⟨hk,hk.2⟩:_∧k_≠gb915))) (fun _ hk=>hk.2) (.int .i64 ((rd_T28 (rd_L5 t906 x33_1) x39_2).f0))) (fun _ hk=>hk.2) (.int .i64 ((rd_T28 (rd_L5 t906 x33_1) x39_2).f1))) (fun _ hk=>hk.2) (.int .i64 ((rd_T28 (rd_L5 t906 x33_1) x39_2).f2))) (fun _ h_=>h_.1))) hb);have n2_:=Aside0.mk (Kd.V_below (by (with_reducible repeat (first|apply Kd.V_alloc|apply Kd.V_drewN|apply Kd.V_drew));exact (Kd.V_mono (Kd.V_far (p:=⟨gb915,2,none⟩) (Kd.V_far (p:=⟨gb915,1,none⟩) (Kd.V_far (p:=⟨gb915,0,none⟩) (Kd.V_mono HO_37.out (fun k_ hk=>(⟨hk,hk.2⟩:_∧k_≠gb915))) (fun _ hk=>hk.2) (.int .i64 ((rd_T28 (rd_L5 t906 x33_1) x39_2).f0))) (fun _ hk=>hk.2) (.int .i64 ((rd_T28 (rd_L5 t906 x33_1) x39_2).f1))) (fun _ hk=>hk.2) (.int .i64 ((rd_T28 (rd_L5 t906 x33_1) x39_2).f2))) (fun _ h_=>h_.1))) hb);have n3_:=Aside0.mk (blk_below (g:=gb904) (o:=.cells #[.int .i64 a1_0,.int .i64 a1_1,.int .i64 a1_2,.int .i64 a1_3] 26 (0,0)) (bkF BK904) hb);have n4_:=Aside0.mk (blk_below (g:=gb905) (o:=.cells #[.int .i64 a2_0,.int .i64 a2_1,.int .i64 a2_2] 28 (0,0)) (bkF BK905) hb);have n5_:=Aside0.mk (blk_below (g:=gb915) (o:=.cells #[.int .i64 ((rd_T28 (rd_L5 t906 x33_1) x39_2).f0),.int .i64 ((rd_T28 (rd_L5 t906 x33_1) x39_2).f1),.int .i64 ((rd_T28 (rd_L5 t906 x33_1) x39_2).f2)] 28 (0,0)) (bpA BK915) hb);have n6_:=lB hb;clear HO_14;clear HO_31;clear HO_37;clear BK904;clear BK905;clear BK915;clear HB;have HO_14:=n0_;have HO_31:=n1_;have HO_37:=n2_;have BK904:=n3_;have BK905:=n4_;have BK915:=n5_;have HB:=n6_;clear n0_ n1_ n2_ n3_ n4_ n5_ n6_;clear hb)|((with_reducible refine gate_dst (N:=19) rfl ?_);refine bxE (cs:=#[.int .i64 0,.int .i64 0,.int .i64 0]) (t:=28) ?_;intro gb920 hg w64 hbox hb;have BK920:=Aside0.mk hbox;have GW920:=sA hg;have GE920:=sA hg;have NB904_920:=nA hg BK904;have NB920_904:=nB hg BK904;have NB905_920:=nA hg BK905;have NB920_905:=nB hg BK905;have NB915_920:=nA hg BK915;have NB920_915:=nB hg BK915;replace HO_14:=Aside0.mk (Kd.R_below (Kd.R_elderB (rA HO_14) gb920 (Nat.le_of_eq hg.symm)) hb);replace HO_31:=Aside0.mk (Kd.N_below (Kd.N_elderB (rN HO_31) gb920 (Nat.le_of_eq hg.symm)) hb);replace HO_37:=Aside0.mk (Kd.V_below (Kd.V_elderB (rV HO_37) gb920 (Nat.le_of_eq hg.symm)) hb);replace BK904:=kB BK904 hb;replace BK905:=kB BK905 hb;replace BK915:=kB BK915 hb;replace HB:=lB hb;clear hb hbox hg;have hnb65:=NB920_904.out;have hnc65:=NB904_920.out;have hnb66:=NB920_905.out;have hnc66:=NB905_920.out;have hnb67:=NB920_915.out;have hnc67:=NB915_920.out;obtain ⟨hcz68_0,hcz68_1,hcz68_2,hfz68_0,hfz68_1,hfz68_2⟩:=cz3 BK920))
         go_ret2
         exact ⟨_,eW,nlA,blA⟩
       ·
        rw [if_neg c19] at H
        have c19b0:=decide_eq_false c19
        clear c19
        have H':=Aside0.mk H
        clear H
        go_wp2
        go_roundg k2
        case measure=>have:=HK1.out;have:=HK2.out;omega
        case rel=>exact ⟨(x14_2),(wrap64 (x33_1+1)),hB,H',⟨by have:=HK1.out;have:=HK2.out;omega⟩,⟨rA HO_14⟩,⟨rN HO_31⟩,⟨bkA BK904⟩,⟨bkA BK905⟩,⟨blA⟩⟩
    ·
     rw [if_neg c16] at H
     have c16b0:=decide_eq_false c16
     clear c16
     simp only [Option.some.injEq,Prod.mk.injEq] at H
     obtain ⟨rfl,rfl⟩:=H
     go_wp2
     go_ret2
     exact ⟨_,eW,by (with_reducible repeat (first|apply Kd.R_alloc|apply Kd.R_drewN|apply Kd.R_drew));exact Kd.R_mono HO_14.out (fun _ hk=>trivial),blA⟩
 ·
  replace c7:=Bool.eq_false_iff.mpr c7
  subst c7
  rw [if_neg (show ¬ (false=true) by decide)] at H
  try dsimp only at H
  simp only [Option.some.injEq,Prod.mk.injEq] at H
  obtain ⟨rfl,rfl⟩:=H
  go_enter Try.func84,Try.ntmps84
  go_wp2_with (first|((with_reducible refine gate_dst (N:=6) rfl ?_);refine bxE (cs:=#[.int .i64 a1_0,.int .i64 a1_1,.int .i64 a1_2,.int .i64 a1_3]) (t:=26) ?_;intro gb904 hg w69 hbox hb;have BK904:=Aside0.mk hbox;have GW904:=sA hg;have GE904:=sA hg;replace HB:=lB hb;clear hb hbox hg)|((with_reducible refine gate_dst (N:=7) rfl ?_);refine bxE (cs:=#[.int .i64 a2_0,.int .i64 a2_1,.int .i64 a2_2]) (t:=28) ?_;intro gb905 hg w70 hbox hb;have BK905:=Aside0.mk hbox;have GW905:=sA hg;have GE905:=sA hg;have NB904_905:=nA hg BK904;have NB905_904:=nB hg BK904;replace BK904:=kB BK904 hb;replace HB:=lB hb;clear hb hbox hg;have hnb71:=NB905_904.out;have hnc71:=NB904_905.out;obtain ⟨hcz72_0,hcz72_1,hcz72_2,hfz72_0,hfz72_1,hfz72_2⟩:=cz3 BK905)|((with_reducible refine gate_callee (f:=114) rfl ?_);refine gL (some 25) rfl Try.func114 #[.int .i64 a0,.agg #[.int .i64 a2_0,.int .i64 a2_1,.int .i64 a2_2],.int .i64 a3] ?_;(with_reducible refine (impl_spheres.calls k a0 a2_0 a2_1 a2_2 a3 t906 false _ A6.out).mono ?_);rintro e w73 ⟨v907,rfl,ho0,hb⟩;refine ⟨_,rfl,?_⟩;have HO908:=Aside0.mk (Kd.N_lower (Kd.N_mono (ok':=fun k_=>k_≠gb904∧k_≠gb905) ho0 (fun k_ hk_=>⟨(Kd.freshB (bkA BK904) k_ hk_),(Kd.freshB (bkA BK905) k_ hk_)⟩)) (below_size blA));replace BK904:=kB BK904 hb;replace BK905:=kB BK905 hb;replace HB:=lB hb;clear ho0 hb))
  go_ret2
  exact ⟨_,eW,nlA,blA⟩
end Go.Proofs.Ytlpmefmaplhfdaa.PAll
