-- turned out of the kit's print
import Derived.Test.YtlpmefmaplhfdaaQx
import Derived.Test.YtlpmefmaplhfdaaQimplDisplacementOf
import Derived.Test.YtlpmefmaplhfdaaQspecl02Children
import Derived.Test.YtlpmefmaplhfdaaQspecl04Move
namespace Go.Proofs.Ytlpmefmaplhfdaa.PAll
open Go.RowKit Go.Proofs.YtlpmefmaplhfdaaW.PrintWords Go.Proofs.YtlpmefmaplhfdaaW.PrintLast Go.Proofs.YtlpmefmaplhfdaaW.PrintMore
attribute [local go_sem] Go.Proofs.Ytlpmefmaplhfdaa.Aux.setCell_drewN Go.Proofs.Ytlpmefmaplhfdaa.Aux.isSome_setCell max2_int min2_int max_two min_two max_three min_three max_four min_four
set_option linter.unusedVariables false
set_option linter.unusedSimpArgs false
theorem cfG {A B:Prop} (h0:B) (h:B→A:=by intro h_;repeat (first|(with_reducible exact h_)|refine (cell_far (Aside0.out (by assumption)) _).trans ?_)):A:=h h0
mutual
def spec_l04Near.l0:Nat→Int→Int→Int→List (S28)→Int→Int→Int→Int→Int→Int→Int→Int→Option ((List (S28)) × Int)
 | 0,_,_,_,_,_,_,_,_,_,_,_,_=>none
 | k+1,x0,x3,x4,x12,x13,x1008000,x1008001,x1008002,x1008003,x1009000,x1009001,x1009002=>if x13≤x3 then ((spec_SphereAround.f k x0 x1009000 x1009001 x1009002 x13).bind fun bt1012=>(if bt1012.2=0 then (spec_l04Near.l1 k x0 x3 x4 x12 x13 bt1012.1 0 x1008000 x1008001 x1008002 x1008003 x1009000 x1009001 x1009002) else (some (([]:List (S28)),bt1012.2)))) else (some (x12,0))
def spec_l04Near.l1:Nat→Int→Int→Int→List (S28)→Int→List (S28)→Int→Int→Int→Int→Int→Int→Int→Int→Option ((List (S28)) × Int)
 | 0,_,_,_,_,_,_,_,_,_,_,_,_,_,_=>none
 | k+1,x0,x3,x4,x12,x13,x14,x16,x1008000,x1008001,x1008002,x1008003,x1009000,x1009001,x1009002=>if x16<(x14.length:Int) then (if 0≤x16 then ((spec_l04Move.f k x0 x1008000 x1008001 x1008002 x1008003 ((rd_T28 x14 x16).f0) ((rd_T28 x14 x16).f1) ((rd_T28 x14 x16).f2)).bind fun bt1017=>(if bt1017.2.2.2=true then ((spec_l02Distance.f k x0 ((rd_T28 x14 x16).f0) ((rd_T28 x14 x16).f1) ((rd_T28 x14 x16).f2) bt1017.1 bt1017.2.1 bt1017.2.2.1).bind fun t1023=>(if t1023=x4 then (if x12.length<5864062014805 then (spec_l04Near.l1 k x0 x3 x4 (x12 ++ [(⟨(rd_T28 x14 x16).f0,(rd_T28 x14 x16).f1,(rd_T28 x14 x16).f2⟩:S28)]) x13 x14 (wrap64 (x16+1)) x1008000 x1008001 x1008002 x1008003 x1009000 x1009001 x1009002) else (none)) else (spec_l04Near.l1 k x0 x3 x4 x12 x13 x14 (wrap64 (x16+1)) x1008000 x1008001 x1008002 x1008003 x1009000 x1009001 x1009002))) else (some (([]:List (S28)),3)))) else (none)) else (spec_l04Near.l0 k x0 x3 x4 x12 (wrap64 (x13+1)) x1008000 x1008001 x1008002 x1008003 x1009000 x1009001 x1009002)
end
def spec_l04Near.f (k:Nat) (a0 a1_0 a1_1 a1_2 a1_3 a2_0 a2_1 a2_2 a3 a4:Int):Option ((List (S28)) × Int):=spec_l04Near.l0 k a0 a3 a4 (([]:List (S28))) 0 a1_0 a1_1 a1_2 a1_3 a2_0 a2_1 a2_2
theorem spec_l04Near.mono_l:∀ k,(∀ y0 y1 y2 y3 y4 y5 y6 y7 y8 y9 y10 y11,LeO (spec_l04Near.l0 k y0 y1 y2 y3 y4 y5 y6 y7 y8 y9 y10 y11) (spec_l04Near.l0 (k+1) y0 y1 y2 y3 y4 y5 y6 y7 y8 y9 y10 y11))∧(∀ y0 y1 y2 y3 y4 y5 y6 y7 y8 y9 y10 y11 y12 y13,LeO (spec_l04Near.l1 k y0 y1 y2 y3 y4 y5 y6 y7 y8 y9 y10 y11 y12 y13) (spec_l04Near.l1 (k+1) y0 y1 y2 y3 y4 y5 y6 y7 y8 y9 y10 y11 y12 y13))
 | 0=>by refine ⟨?_,?_⟩ <;> (intros;intro r h;simp [spec_l04Near.l0,spec_l04Near.l1] at h)
 | k+1=>by
  obtain ⟨ih0,ih1⟩:=spec_l04Near.mono_l k
  refine ⟨?_,?_⟩ <;> (intros;first|unfold spec_l04Near.l0|unfold spec_l04Near.l1)
  all_goals repeat' first
  | with_reducible first|exact ih0 ..|exact ih1 ..|exact spec_SphereAround.mono ..|exact spec_l02Distance.mono ..|exact spec_l04Move.mono ..|exact LeO.refl _|exact LeO.none _|refine LeO.ite ?_ ?_|refine LeO.bind ?_ fun _=>?_
theorem spec_l04Near.mono:∀ a0 a1 a2 a3 a4 a5 a6 a7 a8 a9 k,LeO (spec_l04Near.f k a0 a1 a2 a3 a4 a5 a6 a7 a8 a9) (spec_l04Near.f (k+1) a0 a1 a2 a3 a4 a5 a6 a7 a8 a9):=by
 intro a0 a1 a2 a3 a4 a5 a6 a7 a8 a9 k
 obtain ⟨ih0,ih1⟩:=spec_l04Near.mono_l k
 unfold spec_l04Near.f
 repeat' first
   | with_reducible first|exact ih0 ..|exact ih1 ..|exact spec_SphereAround.mono ..|exact spec_l02Distance.mono ..|exact spec_l04Move.mono ..|exact LeO.refl _|exact LeO.none _|refine LeO.ite ?_ ?_|refine LeO.bind ?_ fun _=>?_
def spec_l04Near.T11:Bool × List (List Nat × List Nat):=(true,[([],[]),([],[]),([],[]),([],[]),([2,3],[2,3]),([4],[4]),([0,1,5],[0,1,5]),([6],[6]),([7],[7]),([7],[7]),([],[]),([10,8,6,0,1,2,3,4,5,6,7,8,10],[8,10]),([9,11,0,1,2,3,4,5,6,7,8,9,10,11],[9])])
def spec_l04Near.B11:List Nat:=[0,0,0,0,12,28,63,127,255,255,0,1535,4095]
theorem spec_l04Near.tab11:rtab .any (opsOf Try.f86 11)=spec_l04Near.T11:=by kernel_rfl
theorem spec_l04Near.bits11:waitsOk spec_l04Near.T11.2 spec_l04Near.B11=true:=by kernel_rfl
def spec_l04Near.T14:Bool × List (List Nat × List Nat):=(true,[([],[]),([],[]),([],[]),([1,2],[1,2]),([3],[3]),([],[]),([0,4,5],[0,4,5]),([],[]),([6,7],[6,7])])
def spec_l04Near.B14:List Nat:=[0,0,0,6,14,0,63,0,255]
theorem spec_l04Near.tab14:rtab .any (opsOf Try.f86 14)=spec_l04Near.T14:=by kernel_rfl
theorem spec_l04Near.bits14:waitsOk spec_l04Near.T14.2 spec_l04Near.B14=true:=by kernel_rfl
set_option maxHeartbeats 8000000 in
set_option maxRecDepth 100000 in
theorem spec_l04Near.calls (k:Nat) (a0 a1_0 a1_1 a1_2 a1_3 a2_0 a2_1 a2_2 a3 a4:Int) (r1:List (S28)) (r2:Int) (w:World) (h:spec_l04Near.f k a0 a1_0 a1_1 a1_2 a1_3 a2_0 a2_1 a2_2 a3 a4=some (r1,r2)) :
  Calls Try.prog 86 #[.int .i64 a0,.agg #[.int .i64 a1_0,.int .i64 a1_1,.int .i64 a1_2,.int .i64 a1_3],.agg #[.int .i64 a2_0,.int .i64 a2_1,.int .i64 a2_2],.int .i64 a3,.int .i64 a4] w fun e w'=>∃ v0_:Value,e=.returned (.tuple #[v0_,.int .i64 r2])∧Kd.R k28 28 w' w.heap.size (fun _=>True) v0_ r1∧Below w.heap.size w w':=by
 have hu26:=Try.underlying26
 have hu28:=Try.underlying28
 have HB:=Aside0.mk (Below.refl w.heap.size w)
 have H:=h
 unfold spec_l04Near.f at H
 clear h
 obtain ⟨y1009,hy1009⟩:∃ y_:List (S28),y_=(([]:List (S28))):=⟨_,rfl⟩
 replace H:(spec_l04Near.l0 k a0 a3 a4 y1009 0 a1_0 a1_1 a1_2 a1_3 a2_0 a2_1 a2_2)=some (r1,r2):=rH hy1009 H
 have Ny1009:=Aside0.mk hy1009
 clear hy1009
 have H':=Aside0.mk H
 clear H
 go_enter Try.func86,Try.ntmps86
 go_wp2_with (first|((with_reducible refine gate_dst (N:=6) rfl ?_);refine bxE (cs:=#[.int .i64 a1_0,.int .i64 a1_1,.int .i64 a1_2,.int .i64 a1_3]) (t:=26) ?_;intro gb1007 hg w6 hbox hb;have n0_:=lB hb;have n1_:=Aside0.mk hbox;have n2_:=sA hg;have n3_:=sA hg;clear HB;have HB:=n0_;have BK1007:=n1_;have GW1007:=n2_;have GE1007:=n3_;clear n0_ n1_ n2_ n3_;clear hb hbox hg)|((with_reducible refine gate_dst (N:=7) rfl ?_);refine bxE (cs:=#[.int .i64 a2_0,.int .i64 a2_1,.int .i64 a2_2]) (t:=28) ?_;intro gb1008 hg w7 hbox hb;have n0_:=kB BK1007 hb;have n1_:=lB hb;have n2_:=Aside0.mk hbox;have n3_:=sA hg;have n4_:=sA hg;have n5_:=nA hg BK1007;have n6_:=nB hg BK1007;clear BK1007;clear HB;have BK1007:=n0_;have HB:=n1_;have BK1008:=n2_;have GW1008:=n3_;have GE1008:=n4_;have NB1007_1008:=n5_;have NB1008_1007:=n6_;clear n0_ n1_ n2_ n3_ n4_ n5_ n6_;clear hb hbox hg)|((with_reducible refine gate_dst (N:=19) rfl ?_);refine Kd.R_lit k28 _ 28 ?hg (N:=19) ?hd (xs:=([]:List (S28))) (inner:=[]) (ok:=fun _=>True) (okp:=fun _=>True) ?hr ?hp (fun _ hk=>hk) trivial (Below.refl _ _) (Nat.le_refl _) (by simp) ?_;(case hd=>rfl);(case hg=>rfl);(case hr=>first|(go_simp;done)|(go_simp;rfl));(case hp=>exact (Reps.none _ _));intro v1010 w8 ho9 hb hg_ hnew_;clear hg_ hnew_;(first|rw [← Ny1009.out] at ho9|(simp only [Int.reduceToNat] at ho9;rw [← Ny1009.out] at ho9));have n0_:=Aside0.mk (Kd.R_lower (Kd.R_newB ho9 (bkA BK1008)) (below_size blA));have n1_:=kB BK1007 hb;have n2_:=kB BK1008 hb;have n3_:=lB hb;clear BK1007;clear BK1008;clear HB;have HO1011:=n0_;have BK1007:=n1_;have BK1008:=n2_;have HB:=n3_;clear n0_ n1_ n2_ n3_;clear hb ho9))
 go_loopg [12,13] k (fun kq v12 v13 w'=>∃ (x12_1:List (S28)) (x13_1:Int),v13=.int .i64 x13_1∧Aside0 (spec_l04Near.l0 kq a0 a3 a4 x12_1 x13_1 a1_0 a1_1 a1_2 a1_3 a2_0 a2_1 a2_2=some (r1,r2))∧Aside0 (kq≤k)∧Aside0 (Kd.R k28 28 w' w.heap.size (fun k_=>k_≠gb1008) v12 x12_1)∧Aside0 (w'.heap[gb1007]?=some (.cells #[.int .i64 a1_0,.int .i64 a1_1,.int .i64 a1_2,.int .i64 a1_3] 26 (0,0)))∧Aside0 (w'.heap[gb1008]?=some (.cells #[.int .i64 a2_0,.int .i64 a2_1,.int .i64 a2_2] 28 (0,0)))∧Aside0 (Below w.heap.size w w'))
 case atStart=>exact ⟨(y1009),(0),hB,H',⟨Nat.le_refl _⟩,⟨by (with_reducible repeat (first|apply Kd.R_alloc|apply Kd.R_drewN|apply Kd.R_drew));exact Kd.R_mono HO1011.out (fun _ hk=>hk.2)⟩,⟨bkA BK1007⟩,⟨bkA BK1008⟩,⟨blA⟩⟩
 case round=>
  clear H'
  obtain ⟨x12_1,x13_1,rfl,HA,HK1,HO_12,BK1007,BK1008,HB⟩:=hrel
  cases gk with
  | zero=>exact absurd HA.out (by simp [spec_l04Near.l0])
  | succ k1=>
   have H:=HA.out
   clear HA
   simp only [spec_l04Near.l0] at H
   by_cases c10:x13_1≤a3
   ·
    rw [if_pos c10] at H
    have c10b0:=decide_eq_true c10
    clear c10
    replace H:=bS H
    obtain ⟨⟨t1012,t1015⟩,A11,H⟩:=H
    try dsimp only at H
    by_cases c12:t1015=0
    focus
     rw [if_pos c12] at H
     have c12b0:(t1015 == 0)=true:=beq_iff_eq.mpr c12
     have c12b1:(t1015 != 0)=false:=bne_eq_false_iff_eq.mpr c12
     clear c12
     have H':=Aside0.mk H
     clear H
     have hnb13:=NB1008_1007.out
     have hnc13:=NB1007_1008.out
     obtain ⟨hcz14_0,hcz14_1,hcz14_2,hfz14_0,hfz14_1,hfz14_2⟩:=cz3 BK1008
    rotate_left
    focus
     rw [if_neg c12] at H
     have c12b0:(t1015 == 0)=false:=beq_eq_false_iff_ne.mpr c12
     have c12b1:(t1015 != 0)=true:=bne_iff_ne.mpr c12
     simp only [Option.some.injEq,Prod.mk.injEq] at H
     obtain ⟨rfl,rfl⟩:=H
     have hnb55:=NB1008_1007.out
     have hnc55:=NB1007_1008.out
     obtain ⟨hcz56_0,hcz56_1,hcz56_2,hfz56_0,hfz56_1,hfz56_2⟩:=cz3 BK1008
    rotate_left
    all_goals
     go_wp2_with (first|((with_reducible refine gate_callee (f:=109) rfl ?_);refine gL (some 29) rfl Try.func109 #[.int .i64 a0,.agg #[.int .i64 a2_0,.int .i64 a2_1,.int .i64 a2_2],.int .i64 x13_1] ?_;(with_reducible refine (spec_SphereAround.calls k1 a0 a2_0 a2_1 a2_2 x13_1 t1012 t1015 _ A11.out).mono ?_);rintro e w15 ⟨v1013,rfl,ho0,hb⟩;refine ⟨_,rfl,?_⟩;have n0_:=Aside0.mk (Kd.R_elder' (rA HO_12) (Kd.R_base ho0) hb);have n1_:=Aside0.mk (Kd.R_lower (Kd.R_newB (Kd.R_new' ho0 (Kd.R_lt (rA HO_12))) (bkA BK1008)) (below_size blA));have n2_:=kB BK1007 hb;have n3_:=kB BK1008 hb;have n4_:=lB hb;clear HO_12;clear BK1007;clear BK1008;clear HB;have HO_12:=n0_;have HO1014:=n1_;have BK1007:=n2_;have BK1008:=n3_;have HB:=n4_;clear n0_ n1_ n2_ n3_ n4_;clear ho0 hb))
    ·
     go_loopg [12,16] k1 (fun kq v12 v16 w'=>∃ (x12_2:List (S28)) (x16_2:Int),v16=.int .i64 x16_2∧Aside0 (spec_l04Near.l1 kq a0 a3 a4 x12_2 x13_1 t1012 x16_2 a1_0 a1_1 a1_2 a1_3 a2_0 a2_1 a2_2=some (r1,r2))∧Aside0 (kq≤k1)∧Aside0 (Kd.R k28 28 w' w.heap.size (fun k_=>some k_≠(v1013:Value).ownBlock∧k_≠gb1008) v12 x12_2)∧Aside0 (Kd.R k28 28 w' w.heap.size (fun k_=>some k_≠(v12:Value).ownBlock∧k_≠gb1008) v1013 t1012)∧Aside0 (w'.heap[gb1007]?=some (.cells #[.int .i64 a1_0,.int .i64 a1_1,.int .i64 a1_2,.int .i64 a1_3] 26 (0,0)))∧Aside0 (w'.heap[gb1008]?=some (.cells #[.int .i64 a2_0,.int .i64 a2_1,.int .i64 a2_2] 28 (0,0)))∧Aside0 (Below w.heap.size w w'))
     case atStart=>exact ⟨(x12_1),(0),hB,H',⟨Nat.le_refl _⟩,⟨by (with_reducible repeat (first|apply Kd.R_alloc|apply Kd.R_drewN|apply Kd.R_drew));exact Kd.R_mono HO_12.out (fun _ hk=>⟨hk.2,hk.1⟩)⟩,⟨by (with_reducible repeat (first|apply Kd.R_alloc|apply Kd.R_drewN|apply Kd.R_drew));exact Kd.R_mono HO1014.out (fun _ hk=>⟨hk.1.2,hk.2⟩)⟩,⟨bkA BK1007⟩,⟨bkA BK1008⟩,⟨blA⟩⟩
     case round=>
      clear H'
      try clear c10
      try clear c10b0
      try clear c12
      try clear c12b0
      try clear c12b1
      try clear hcz14_0
      try clear hcz14_1
      try clear hcz14_2
      try clear hfz14_0
      try clear hfz14_1
      try clear hfz14_2
      obtain ⟨x12_2,x16_2,rfl,HA,HK2,HO_12,HO_14,BK1007,BK1008,HB⟩:=hrel
      cases gk with
      | zero=>exact absurd HA.out (by simp [spec_l04Near.l1])
      | succ k2=>
       have H:=HA.out
       clear HA
       simp only [spec_l04Near.l1] at H
       by_cases c16:x16_2<(t1012.length:Int)
       ·
        rw [if_pos c16] at H
        have c16b0:=decide_eq_true c16
        clear c16
        by_cases c17:0≤x16_2
        rotate_left
        ·
         rw [if_neg c17] at H
         exact absurd H (by simp)
        rw [if_pos c17] at H
        have c17b0:=decide_eq_true c17
        clear c17
        replace H:=bS H
        obtain ⟨⟨t1017,t1018,t1019,t1020⟩,A18,H⟩:=H
        try dsimp only at H
        by_cases c19:t1020=true
        focus
         subst c19
         rw [if_pos rfl] at H
         try dsimp only at H
         replace H:=bS H
         obtain ⟨t1023,A20,H⟩:=H
         try dsimp only at H
         by_cases c21:t1023=a4
         focus
          rw [if_pos c21] at H
          have c21b0:(t1023 == a4)=true:=beq_iff_eq.mpr c21
          have c21b1:(t1023 != a4)=false:=bne_eq_false_iff_eq.mpr c21
          clear c21
          by_cases c22:x12_2.length<5864062014805
          rotate_left
          ·
           rw [if_neg c22] at H
           exact absurd H (by simp)
          rw [if_pos c22] at H
          have LMc22:=Aside0.mk c22
          clear c22
          obtain ⟨y1025,hy1025⟩:∃ y_:List (S28),y_=(x12_2 ++ [(⟨(rd_T28 t1012 x16_2).f0,(rd_T28 t1012 x16_2).f1,(rd_T28 t1012 x16_2).f2⟩:S28)]):=⟨_,rfl⟩
          replace H:(spec_l04Near.l1 k2 a0 a3 a4 y1025 x13_1 t1012 (wrap64 (x16_2+1)) a1_0 a1_1 a1_2 a1_3 a2_0 a2_1 a2_2)=some (r1,r2):=rH hy1025 H
          have Ny1025:=Aside0.mk hy1025
          clear hy1025
          have H':=Aside0.mk H
          clear H
          obtain ⟨Ao23,co23,eo23⟩:=Kd.R_slice HO_14.out
          subst eo23
         rotate_left
         focus
          rw [if_neg c21] at H
          have c21b0:(t1023 == a4)=false:=beq_eq_false_iff_ne.mpr c21
          have c21b1:(t1023 != a4)=true:=bne_iff_ne.mpr c21
          have H':=Aside0.mk H
          clear H
          obtain ⟨Ao35,co23,eo35⟩:=Kd.R_slice HO_14.out
          subst eo35
         rotate_left
        rotate_left 2
        focus
         replace c19:=Bool.eq_false_iff.mpr c19
         subst c19
         rw [if_neg (show ¬ (false=true) by decide)] at H
         try dsimp only at H
         simp only [Option.some.injEq,Prod.mk.injEq] at H
         obtain ⟨rfl,rfl⟩:=H
         obtain ⟨Ao46,co46,eo46⟩:=Kd.R_slice HO_14.out
         subst eo46
        rotate_left
        all_goals
         try go_wp2
         have n0_:=Aside0.mk (Kd.R_drew HO_12.out)
         have n1_:=Aside0.mk (Kd.R_drew HO_14.out)
         have n2_:=Aside0.mk (blk_drew BK1007.out)
         have n3_:=Aside0.mk (blk_drew BK1008.out)
         have n4_:=Aside0.mk (below_drew1 HB.out)
         clear HO_12
         clear HO_14
         clear BK1007
         clear BK1008
         clear HB
         have HO_12:=n0_
         have HO_14:=n1_
         have BK1007:=n2_
         have BK1008:=n3_
         have HB:=n4_
         clear n0_ n1_ n2_ n3_ n4_
         have p1016:0≤(x16_2:Int):=dA
         have q1016:x16_2<(t1012.length:Int):=dA
         obtain ⟨ad1016,e1016,hx1016_0,hx1016_1,hx1016_2⟩:=at_T28 (Kd.R_reads' HO_14.out).2.2 x16_2 p1016 q1016
         cases e1016
         replace p1016:=eq_true p1016
         replace q1016:=eq_true q1016
        rotate_left 2
        ·
         refine start_ (n:=13) (S:=fun w'=>w'.cell? ⟨gb1007,0,none⟩=some (.int .i64 a1_0)∧w'.cell? ⟨gb1007,1,none⟩=some (.int .i64 a1_1)∧w'.cell? ⟨gb1007,2,none⟩=some (.int .i64 a1_2)∧w'.cell? ⟨gb1007,3,none⟩=some (.int .i64 a1_3)∧w'.cell? (ad1016.add ((x16_2).toNat*3))=some (.int .i64 ((rd_T28 t1012 x16_2).f0))∧w'.cell? ⟨(ad1016.add ((x16_2).toNat*3)).block,(ad1016.add ((x16_2).toNat*3)).off+1,none⟩=some (.int .i64 ((rd_T28 t1012 x16_2).f1))∧w'.cell? ⟨(ad1016.add ((x16_2).toNat*3)).block,(ad1016.add ((x16_2).toNat*3)).off+2,none⟩=some (.int .i64 ((rd_T28 t1012 x16_2).f2))) (ds:=[]) #[Z,Z,Z,Z,Z,Z,Z,Z,Z,Z,Z,Z,Z] (by kernel_rfl) rfl rfl ⟨cA BK1007 0,cA BK1007 1,cA BK1007 2,cA BK1007 3,hx1016_0,hx1016_1,hx1016_2⟩ (fun hHeld=>?_);refine with_tabW spec_l04Near.tab11 spec_l04Near.bits11 (fun HT_ HW_=>?_)
         generalize wr.drew=w47 at HO_12 HO_14 BK1007 BK1008 HB hx1016_0 hx1016_1 hx1016_2 hHeld ⊢
         refine puA (i:=0) (N:=some 42) #[Y,Z,Z,Z,Z,Z,Z,Z,Z,Z,Z,Z,Z] rfl rfl HT_ ?_
         refine puA (i:=2) (N:=some 44) #[Y,Z,Y,Z,Z,Z,Z,Z,Z,Z,Z,Z,Z] rfl rfl HT_ ?_
         refine puA (i:=3) (N:=some 45) #[Y,Z,Y,Y,Z,Z,Z,Z,Z,Z,Z,Z,Z] rfl rfl HT_ ?_
         refine puA (i:=4) (N:=some 46) #[Y,Z,Y,Y,Y,Z,Z,Z,Z,Z,Z,Z,Z] rfl rfl HT_ ?_
         refine taA (i:=1) (N:=some 43) #[Y,Y,Y,Y,Y,Z,Z,Z,Z,Z,Z,Z,Z] rfl rfl HT_ HW_ hHeld ?_
         refine taA (i:=5) (N:=some 47) #[Y,Y,Y,Y,Y,Y,Z,Z,Z,Z,Z,Z,Z] rfl rfl HT_ HW_ hHeld ?_
         refine join_ (σ:=Nat) 2 #[Y,Y,Y,Y,Y,Y,Y,Y,Y,Y,Y,Z,Z] (fun s_=>[(48,.tuple #[.agg #[.int .i64 t1017,.int .i64 t1018,.int .i64 t1019],.bool false]),(17,.pointer (some ⟨s_,0,none⟩)),(41,.tuple #[.agg #[.int .i64 t1017,.int .i64 t1018,.int .i64 t1019],.bool false]),(49,.agg #[.int .i64 t1017,.int .i64 t1018,.int .i64 t1019]),(50,.bool false)]) (fun s_ w'=>(w'.cell? ⟨gb1007,0,none⟩=some (.int .i64 a1_0)∧w'.cell? ⟨gb1007,1,none⟩=some (.int .i64 a1_1)∧w'.cell? ⟨gb1007,2,none⟩=some (.int .i64 a1_2)∧w'.cell? ⟨gb1007,3,none⟩=some (.int .i64 a1_3)∧w'.cell? (ad1016.add ((x16_2).toNat*3))=some (.int .i64 ((rd_T28 t1012 x16_2).f0))∧w'.cell? ⟨(ad1016.add ((x16_2).toNat*3)).block,(ad1016.add ((x16_2).toNat*3)).off+1,none⟩=some (.int .i64 ((rd_T28 t1012 x16_2).f1))∧w'.cell? ⟨(ad1016.add ((x16_2).toNat*3)).block,(ad1016.add ((x16_2).toNat*3)).off+2,none⟩=some (.int .i64 ((rd_T28 t1012 x16_2).f2)))∧(Kd.R k28 28 w' w.heap.size (fun k_=>some k_≠(.slice (some ad1016) t1012.length co46:Value).ownBlock∧k_≠gb1008∧k_≠s_) u12 x12_2)∧(Kd.R k28 28 w' w.heap.size (fun k_=>some k_≠(u12:Value).ownBlock∧k_≠gb1008∧k_≠s_) (.slice (some ad1016) t1012.length co46) t1012)∧(w'.heap[gb1007]?=some (.cells #[.int .i64 a1_0,.int .i64 a1_1,.int .i64 a1_2,.int .i64 a1_3] 26 (0,0)))∧(w'.heap[gb1008]?=some (.cells #[.int .i64 a2_0,.int .i64 a2_1,.int .i64 a2_2] 28 (0,0)))∧(w'.heap[s_]?=some (.cells #[.int .i64 0,.int .i64 0,.int .i64 0] 28 (0,0)))∧(w.heap.size≤s_)∧(w.heap.size≤s_)∧(gb1007≠s_)∧(s_≠gb1007)∧(gb1008≠s_)∧(s_≠gb1008)∧(Below w.heap.size w w')) ?_ ?_
         rotate_left
         ·
          intro hCont
          refine two_ (i:=6) (j:=10) (Ni:=some 48) (Nj:=some 17) #[Y,Y,Y,Y,Y,Y,Y,Z,Z,Z,Z,Z,Z] #[Y,Y,Y,Y,Y,Y,Z,Z,Z,Z,Y,Z,Z] rfl rfl rfl rfl (two_of HT_.out (by kernel_rfl)) (by decide) (by decide) (fun K hK=>?_) (fun K hK=>?_)
          ·
           skip
           refine goes_ Try.func46 (by kernel_rfl) rfl #[.int .i64 a0,.agg #[.int .i64 a1_0,.int .i64 a1_1,.int .i64 a1_2,.int .i64 a1_3],.agg #[.int .i64 ((rd_T28 t1012 x16_2).f0),.int .i64 ((rd_T28 t1012 x16_2).f1),.int .i64 ((rd_T28 t1012 x16_2).f2)]] (by rfl) rfl rfl hA ?_
           with_reducible refine (spec_l04Move.calls k2 a0 a1_0 a1_1 a1_2 a1_3 ((rd_T28 t1012 x16_2).f0) ((rd_T28 t1012 x16_2).f1) ((rd_T28 t1012 x16_2).f2) t1017 t1018 t1019 false _ A18.out).mono ?_
           rintro e w48 ⟨rfl,hb⟩
           have HS4_:=(hb.cell (World.block_lt_of_cell? _ _ (hHeld.2.2.2.2.1))).trans (hHeld.2.2.2.2.1)
           have HS5_:=(hb.cell (World.block_lt_of_cell? _ _ (hHeld.2.2.2.2.2.1))).trans (hHeld.2.2.2.2.2.1)
           have HS6_:=(hb.cell (World.block_lt_of_cell? _ _ (hHeld.2.2.2.2.2.2))).trans (hHeld.2.2.2.2.2.2)
           refine ⟨_,rfl,?_⟩
           replace HO_12:=Aside0.mk (Kd.R_below (rA HO_12) hb)
           replace HO_14:=Aside0.mk (Kd.R_below (rA HO_14) hb)
           replace BK1007:=kB BK1007 hb
           replace BK1008:=kB BK1008 hb
           replace HB:=lB hb
           (try clear hb)
           (try clear hb2)
           (try clear hk)
           (try clear hi)
           refine hK.out _ _ ⟨cA BK1007 0,cA BK1007 1,cA BK1007 2,cA BK1007 3,HS4_,HS5_,HS6_⟩ (fun hHeld=>?_)
           clear hK K
           refine nmA ?_
           refine puA (i:=7) (N:=some 41) #[Y,Y,Y,Y,Y,Y,Y,Y,Z,Z,Z,Z,Z] rfl rfl HT_ ?_
           refine puA (i:=8) (N:=some 49) #[Y,Y,Y,Y,Y,Y,Y,Y,Y,Z,Z,Z,Z] rfl rfl HT_ ?_
           refine puA (i:=9) (N:=some 50) #[Y,Y,Y,Y,Y,Y,Y,Y,Y,Y,Z,Z,Z] rfl rfl HT_ ?_
           refine one_ (i:=10) (N:=some 17) #[Y,Y,Y,Y,Y,Y,Y,Y,Y,Y,Y,Z,Z] rfl rfl (one_of HT_.out (by kernel_rfl)) (by decide) (fun K hK=>?_)
           refine box_step ?hg (N:=17) ?hd (cs:=#[.int .i64 0,.int .i64 0,.int .i64 0]) (t:=28) ?hr ?_;(case hd=>rfl);(case hg=>rfl);(case hr=>first|(go_simp;done)|(go_simp;rfl))
           intro gb1021 hg w49 hbox hb
           have HS4_:=(hb.cell (World.block_lt_of_cell? _ _ (hHeld.2.2.2.2.1))).trans (hHeld.2.2.2.2.1)
           have HS5_:=(hb.cell (World.block_lt_of_cell? _ _ (hHeld.2.2.2.2.2.1))).trans (hHeld.2.2.2.2.2.1)
           have HS6_:=(hb.cell (World.block_lt_of_cell? _ _ (hHeld.2.2.2.2.2.2))).trans (hHeld.2.2.2.2.2.2)
           have BK1021:=Aside0.mk hbox
           have GW1021:=sA hg
           have GE1021:=sA hg
           have NB1007_1021:=nA hg BK1007
           have NB1021_1007:=nB hg BK1007
           have NB1008_1021:=nA hg BK1008
           have NB1021_1008:=nB hg BK1008
           replace HO_12:=Aside0.mk (Kd.R_below (Kd.R_elderB (rA HO_12) gb1021 (Nat.le_of_eq hg.symm)) hb)
           replace HO_14:=Aside0.mk (Kd.R_below (Kd.R_elderB (rA HO_14) gb1021 (Nat.le_of_eq hg.symm)) hb)
           replace BK1007:=kB BK1007 hb
           replace BK1008:=kB BK1008 hb
           replace HB:=lB hb
           clear hb hbox hg
           refine hK.out _ _ ⟨cA BK1007 0,cA BK1007 1,cA BK1007 2,cA BK1007 3,HS4_,HS5_,HS6_⟩ (fun hHeld=>?_)
           clear hK K
           refine nmA ?_
           exact norm_ (by simp only [putAll,Act.put,List.setIfInBounds_toArray,List.set_cons_zero,List.set_cons_succ]) (hCont (gb1021) _ ⟨hHeld,(by (with_reducible repeat (first|apply Kd.R_alloc|apply Kd.R_drewN|apply Kd.R_drew));exact Kd.R_mono HO_12.out (fun _ hk=>⟨hk.1.1,⟨hk.1.2,hk.2⟩⟩)),(by (with_reducible repeat (first|apply Kd.R_alloc|apply Kd.R_drewN|apply Kd.R_drew));exact Kd.R_mono HO_14.out (fun _ hk=>⟨hk.1.1,⟨hk.1.2,hk.2⟩⟩)),(bkA BK1007),(bkA BK1008),(bkA BK1021),GW1021.out,GE1021.out,NB1007_1021.out,NB1021_1007.out,NB1008_1021.out,NB1021_1008.out,blA⟩)
          ·
           skip
           refine box_step ?hg (N:=17) ?hd (cs:=#[.int .i64 0,.int .i64 0,.int .i64 0]) (t:=28) ?hr ?_;(case hd=>rfl);(case hg=>rfl);(case hr=>first|(go_simp;done)|(go_simp;rfl))
           intro gb1021 hg w48 hbox hb
           have HS4_:=(hb.cell (World.block_lt_of_cell? _ _ (hHeld.2.2.2.2.1))).trans (hHeld.2.2.2.2.1)
           have HS5_:=(hb.cell (World.block_lt_of_cell? _ _ (hHeld.2.2.2.2.2.1))).trans (hHeld.2.2.2.2.2.1)
           have HS6_:=(hb.cell (World.block_lt_of_cell? _ _ (hHeld.2.2.2.2.2.2))).trans (hHeld.2.2.2.2.2.2)
           have BK1021:=Aside0.mk hbox
           have GW1021:=sA hg
           have GE1021:=sA hg
           have NB1007_1021:=nA hg BK1007
           have NB1021_1007:=nB hg BK1007
           have NB1008_1021:=nA hg BK1008
           have NB1021_1008:=nB hg BK1008
           replace HO_12:=Aside0.mk (Kd.R_below (Kd.R_elderB (rA HO_12) gb1021 (Nat.le_of_eq hg.symm)) hb)
           replace HO_14:=Aside0.mk (Kd.R_below (Kd.R_elderB (rA HO_14) gb1021 (Nat.le_of_eq hg.symm)) hb)
           replace BK1007:=kB BK1007 hb
           replace BK1008:=kB BK1008 hb
           replace HB:=lB hb
           clear hb hbox hg
           refine hK.out _ _ ⟨cA BK1007 0,cA BK1007 1,cA BK1007 2,cA BK1007 3,HS4_,HS5_,HS6_⟩ (fun hHeld=>?_)
           clear hK K
           refine nmA ?_
           refine one_ (i:=6) (N:=some 48) #[Y,Y,Y,Y,Y,Y,Y,Z,Z,Z,Y,Z,Z] rfl rfl (one_of HT_.out (by kernel_rfl)) (by decide) (fun K hK=>?_)
           refine goes_ Try.func46 (by kernel_rfl) rfl #[.int .i64 a0,.agg #[.int .i64 a1_0,.int .i64 a1_1,.int .i64 a1_2,.int .i64 a1_3],.agg #[.int .i64 ((rd_T28 t1012 x16_2).f0),.int .i64 ((rd_T28 t1012 x16_2).f1),.int .i64 ((rd_T28 t1012 x16_2).f2)]] (by rfl) rfl rfl hA ?_
           with_reducible refine (spec_l04Move.calls k2 a0 a1_0 a1_1 a1_2 a1_3 ((rd_T28 t1012 x16_2).f0) ((rd_T28 t1012 x16_2).f1) ((rd_T28 t1012 x16_2).f2) t1017 t1018 t1019 false _ A18.out).mono ?_
           rintro e w49 ⟨rfl,hb⟩
           have HS4_:=(hb.cell (World.block_lt_of_cell? _ _ (hHeld.2.2.2.2.1))).trans (hHeld.2.2.2.2.1)
           have HS5_:=(hb.cell (World.block_lt_of_cell? _ _ (hHeld.2.2.2.2.2.1))).trans (hHeld.2.2.2.2.2.1)
           have HS6_:=(hb.cell (World.block_lt_of_cell? _ _ (hHeld.2.2.2.2.2.2))).trans (hHeld.2.2.2.2.2.2)
           refine ⟨_,rfl,?_⟩
           replace HO_12:=Aside0.mk (Kd.R_below (rA HO_12) hb)
           replace HO_14:=Aside0.mk (Kd.R_below (rA HO_14) hb)
           replace BK1007:=kB BK1007 hb
           replace BK1008:=kB BK1008 hb
           replace BK1021:=kB BK1021 hb
           replace HB:=lB hb
           (try clear hb)
           (try clear hb2)
           (try clear hk)
           (try clear hi)
           refine hK.out _ _ ⟨cA BK1007 0,cA BK1007 1,cA BK1007 2,cA BK1007 3,HS4_,HS5_,HS6_⟩ (fun hHeld=>?_)
           clear hK K
           refine nmA ?_
           refine puA (i:=7) (N:=some 41) #[Y,Y,Y,Y,Y,Y,Y,Y,Z,Z,Y,Z,Z] rfl rfl HT_ ?_
           refine puA (i:=8) (N:=some 49) #[Y,Y,Y,Y,Y,Y,Y,Y,Y,Z,Y,Z,Z] rfl rfl HT_ ?_
           refine puA (i:=9) (N:=some 50) #[Y,Y,Y,Y,Y,Y,Y,Y,Y,Y,Y,Z,Z] rfl rfl HT_ ?_
           exact norm_ (by simp only [putAll,Act.put,List.setIfInBounds_toArray,List.set_cons_zero,List.set_cons_succ]) (hCont (gb1021) _ ⟨hHeld,(by (with_reducible repeat (first|apply Kd.R_alloc|apply Kd.R_drewN|apply Kd.R_drew));exact Kd.R_mono HO_12.out (fun _ hk=>⟨hk.1.1,⟨hk.1.2,hk.2⟩⟩)),(by (with_reducible repeat (first|apply Kd.R_alloc|apply Kd.R_drewN|apply Kd.R_drew));exact Kd.R_mono HO_14.out (fun _ hk=>⟨hk.1.1,⟨hk.1.2,hk.2⟩⟩)),(bkA BK1007),(bkA BK1008),(bkA BK1021),GW1021.out,GE1021.out,NB1007_1021.out,NB1021_1007.out,NB1008_1021.out,NB1021_1008.out,blA⟩)
         rintro gb1021 w50 ⟨hS_,h0_,h1_,h2_,h3_,h4_,h5_,h6_,h7_,h8_,h9_,h10_,h11_⟩
         have BK1021:=Aside0.mk h4_
         have GW1021:=Aside0.mk h5_
         have GE1021:=Aside0.mk h6_
         have NB1007_1021:=Aside0.mk h7_
         have NB1021_1007:=Aside0.mk h8_
         have NB1008_1021:=Aside0.mk h9_
         have NB1021_1008:=Aside0.mk h10_
         replace HO_12:=Aside0.mk h0_
         replace HO_14:=Aside0.mk h1_
         replace BK1007:=Aside0.mk h2_
         replace BK1008:=Aside0.mk h3_
         replace HB:=Aside0.mk h11_
         clear h0_ h1_ h2_ h3_ h4_ h5_ h6_ h7_ h8_ h9_ h10_ h11_
         have hHeld:w50.cell? ⟨gb1007,0,none⟩=some (.int .i64 a1_0)∧w50.cell? ⟨gb1007,1,none⟩=some (.int .i64 a1_1)∧w50.cell? ⟨gb1007,2,none⟩=some (.int .i64 a1_2)∧w50.cell? ⟨gb1007,3,none⟩=some (.int .i64 a1_3)∧w50.cell? (ad1016.add ((x16_2).toNat*3))=some (.int .i64 ((rd_T28 t1012 x16_2).f0))∧w50.cell? ⟨(ad1016.add ((x16_2).toNat*3)).block,(ad1016.add ((x16_2).toNat*3)).off+1,none⟩=some (.int .i64 ((rd_T28 t1012 x16_2).f1))∧w50.cell? ⟨(ad1016.add ((x16_2).toNat*3)).block,(ad1016.add ((x16_2).toNat*3)).off+2,none⟩=some (.int .i64 ((rd_T28 t1012 x16_2).f2)):=hS_
         refine norm_ (a':=?_) ?_ ?_
         rotate_left
         ·
          simp only [putAll,Act.put,List.setIfInBounds_toArray,List.set_cons_zero,List.set_cons_succ]
          rfl
         refine one_ (i:=11) (N:=none) #[Y,Y,Y,Y,Y,Y,Y,Y,Y,Y,Y,Y,Z] rfl rfl (one_of HT_.out (by kernel_rfl)) (by decide) (fun K hK=>?_)
         have hs51:w50.cell? ⟨gb1021,0,none⟩=some (.int .i64 0):=cA BK1021 0
         have hfs51:=blk_frozen BK1021.out 0
         have hns51_0:=NB1007_1021.out
         have hns51_1:=NB1008_1021.out
         have hms51_0:=NB1021_1007.out
         have hms51_1:=NB1021_1008.out
         have hs52:w50.cell? ⟨gb1021,1,none⟩=some (.int .i64 0):=cA BK1021 1
         have hfs52:=blk_frozen BK1021.out 1
         have hns52_0:=NB1007_1021.out
         have hns52_1:=NB1008_1021.out
         have hms52_0:=NB1021_1007.out
         have hms52_1:=NB1021_1008.out
         have hs53:w50.cell? ⟨gb1021,2,none⟩=some (.int .i64 0):=cA BK1021 2
         have hfs53:=blk_frozen BK1021.out 2
         have hns53_0:=NB1007_1021.out
         have hns53_1:=NB1008_1021.out
         have hms53_0:=NB1021_1007.out
         have hms53_1:=NB1021_1008.out
         refine skip_ (w1:=?_) (by rfl) rfl ?_ ?_
         rotate_left
         ·
          go_simp
          rfl
         refine hK.out _ _ ⟨cfG hHeld.1,cfG hHeld.2.1,cfG hHeld.2.2.1,cfG hHeld.2.2.2.1,((cell_far (p:=⟨gb1021,_,none⟩) (fB (Kd.own_blk (Kd.R_away HO_14.out (fun _ hk=>hk.2.2)))) _).trans (((cell_far (p:=⟨gb1021,_,none⟩) (fB (Kd.own_blk (Kd.R_away HO_14.out (fun _ hk=>hk.2.2)))) _).trans (((cell_far (p:=⟨gb1021,_,none⟩) (fB (Kd.own_blk (Kd.R_away HO_14.out (fun _ hk=>hk.2.2)))) _).trans (hHeld.2.2.2.2.1)))))),((cell_far (p:=⟨gb1021,_,none⟩) (fB (Kd.own_blk (Kd.R_away HO_14.out (fun _ hk=>hk.2.2)))) _).trans (((cell_far (p:=⟨gb1021,_,none⟩) (fB (Kd.own_blk (Kd.R_away HO_14.out (fun _ hk=>hk.2.2)))) _).trans (((cell_far (p:=⟨gb1021,_,none⟩) (fB (Kd.own_blk (Kd.R_away HO_14.out (fun _ hk=>hk.2.2)))) _).trans (hHeld.2.2.2.2.2.1)))))),((cell_far (p:=⟨gb1021,_,none⟩) (fB (Kd.own_blk (Kd.R_away HO_14.out (fun _ hk=>hk.2.2)))) _).trans (((cell_far (p:=⟨gb1021,_,none⟩) (fB (Kd.own_blk (Kd.R_away HO_14.out (fun _ hk=>hk.2.2)))) _).trans (((cell_far (p:=⟨gb1021,_,none⟩) (fB (Kd.own_blk (Kd.R_away HO_14.out (fun _ hk=>hk.2.2)))) _).trans (hHeld.2.2.2.2.2.2))))))⟩ (fun hHeld=>?_)
         clear hK K
         refine puA (i:=12) (N:=some 18) #[Y,Y,Y,Y,Y,Y,Y,Y,Y,Y,Y,Y,Y] rfl rfl HT_ ?_
         refine done_ (done_of HT_.out (by kernel_rfl)) ?_
         try go_wp2
         go_ret2
         exact ⟨_,eW,nlA,blA⟩
        all_goals
         refine start_ (n:=13) (S:=fun w'=>w'.cell? ⟨gb1007,0,none⟩=some (.int .i64 a1_0)∧w'.cell? ⟨gb1007,1,none⟩=some (.int .i64 a1_1)∧w'.cell? ⟨gb1007,2,none⟩=some (.int .i64 a1_2)∧w'.cell? ⟨gb1007,3,none⟩=some (.int .i64 a1_3)∧w'.cell? (ad1016.add ((x16_2).toNat*3))=some (.int .i64 ((rd_T28 t1012 x16_2).f0))∧w'.cell? ⟨(ad1016.add ((x16_2).toNat*3)).block,(ad1016.add ((x16_2).toNat*3)).off+1,none⟩=some (.int .i64 ((rd_T28 t1012 x16_2).f1))∧w'.cell? ⟨(ad1016.add ((x16_2).toNat*3)).block,(ad1016.add ((x16_2).toNat*3)).off+2,none⟩=some (.int .i64 ((rd_T28 t1012 x16_2).f2))) (ds:=[]) #[Z,Z,Z,Z,Z,Z,Z,Z,Z,Z,Z,Z,Z] (by kernel_rfl) rfl rfl ⟨cA BK1007 0,cA BK1007 1,cA BK1007 2,cA BK1007 3,hx1016_0,hx1016_1,hx1016_2⟩ (fun hHeld=>?_);refine with_tabW spec_l04Near.tab11 spec_l04Near.bits11 (fun HT_ HW_=>?_)
         generalize wr.drew=w24 at HO_12 HO_14 BK1007 BK1008 HB hx1016_0 hx1016_1 hx1016_2 hHeld ⊢
         refine puA (i:=0) (N:=some 42) #[Y,Z,Z,Z,Z,Z,Z,Z,Z,Z,Z,Z,Z] rfl rfl HT_ ?_
         refine puA (i:=2) (N:=some 44) #[Y,Z,Y,Z,Z,Z,Z,Z,Z,Z,Z,Z,Z] rfl rfl HT_ ?_
         refine puA (i:=3) (N:=some 45) #[Y,Z,Y,Y,Z,Z,Z,Z,Z,Z,Z,Z,Z] rfl rfl HT_ ?_
         refine puA (i:=4) (N:=some 46) #[Y,Z,Y,Y,Y,Z,Z,Z,Z,Z,Z,Z,Z] rfl rfl HT_ ?_
         refine taA (i:=1) (N:=some 43) #[Y,Y,Y,Y,Y,Z,Z,Z,Z,Z,Z,Z,Z] rfl rfl HT_ HW_ hHeld ?_
         refine taA (i:=5) (N:=some 47) #[Y,Y,Y,Y,Y,Y,Z,Z,Z,Z,Z,Z,Z] rfl rfl HT_ HW_ hHeld ?_
         refine join_ (σ:=Nat) 2 #[Y,Y,Y,Y,Y,Y,Y,Y,Y,Y,Y,Z,Z] (fun s_=>[(48,.tuple #[.agg #[.int .i64 t1017,.int .i64 t1018,.int .i64 t1019],.bool true]),(17,.pointer (some ⟨s_,0,none⟩)),(41,.tuple #[.agg #[.int .i64 t1017,.int .i64 t1018,.int .i64 t1019],.bool true]),(49,.agg #[.int .i64 t1017,.int .i64 t1018,.int .i64 t1019]),(50,.bool true)]) (fun s_ w'=>(w'.cell? ⟨gb1007,0,none⟩=some (.int .i64 a1_0)∧w'.cell? ⟨gb1007,1,none⟩=some (.int .i64 a1_1)∧w'.cell? ⟨gb1007,2,none⟩=some (.int .i64 a1_2)∧w'.cell? ⟨gb1007,3,none⟩=some (.int .i64 a1_3)∧w'.cell? (ad1016.add ((x16_2).toNat*3))=some (.int .i64 ((rd_T28 t1012 x16_2).f0))∧w'.cell? ⟨(ad1016.add ((x16_2).toNat*3)).block,(ad1016.add ((x16_2).toNat*3)).off+1,none⟩=some (.int .i64 ((rd_T28 t1012 x16_2).f1))∧w'.cell? ⟨(ad1016.add ((x16_2).toNat*3)).block,(ad1016.add ((x16_2).toNat*3)).off+2,none⟩=some (.int .i64 ((rd_T28 t1012 x16_2).f2)))∧(Kd.R k28 28 w' w.heap.size (fun k_=>some k_≠(.slice (some ad1016) t1012.length co23:Value).ownBlock∧k_≠gb1008∧k_≠s_) u12 x12_2)∧(Kd.R k28 28 w' w.heap.size (fun k_=>some k_≠(u12:Value).ownBlock∧k_≠gb1008∧k_≠s_) (.slice (some ad1016) t1012.length co23) t1012)∧(w'.heap[gb1007]?=some (.cells #[.int .i64 a1_0,.int .i64 a1_1,.int .i64 a1_2,.int .i64 a1_3] 26 (0,0)))∧(w'.heap[gb1008]?=some (.cells #[.int .i64 a2_0,.int .i64 a2_1,.int .i64 a2_2] 28 (0,0)))∧(w'.heap[s_]?=some (.cells #[.int .i64 0,.int .i64 0,.int .i64 0] 28 (0,0)))∧(w.heap.size≤s_)∧(w.heap.size≤s_)∧(gb1007≠s_)∧(s_≠gb1007)∧(gb1008≠s_)∧(s_≠gb1008)∧(Below w.heap.size w w')) ?_ ?_
         rotate_left
         ·
          intro hCont
          refine two_ (i:=6) (j:=10) (Ni:=some 48) (Nj:=some 17) #[Y,Y,Y,Y,Y,Y,Y,Z,Z,Z,Z,Z,Z] #[Y,Y,Y,Y,Y,Y,Z,Z,Z,Z,Y,Z,Z] rfl rfl rfl rfl (two_of HT_.out (by kernel_rfl)) (by decide) (by decide) (fun K hK=>?_) (fun K hK=>?_)
          ·
           skip
           refine goes_ Try.func46 (by kernel_rfl) rfl #[.int .i64 a0,.agg #[.int .i64 a1_0,.int .i64 a1_1,.int .i64 a1_2,.int .i64 a1_3],.agg #[.int .i64 ((rd_T28 t1012 x16_2).f0),.int .i64 ((rd_T28 t1012 x16_2).f1),.int .i64 ((rd_T28 t1012 x16_2).f2)]] (by rfl) rfl rfl hA ?_
           with_reducible refine (spec_l04Move.calls k2 a0 a1_0 a1_1 a1_2 a1_3 ((rd_T28 t1012 x16_2).f0) ((rd_T28 t1012 x16_2).f1) ((rd_T28 t1012 x16_2).f2) t1017 t1018 t1019 true _ A18.out).mono ?_
           rintro e w25 ⟨rfl,hb⟩
           have HS4_:=(hb.cell (World.block_lt_of_cell? _ _ (hHeld.2.2.2.2.1))).trans (hHeld.2.2.2.2.1)
           have HS5_:=(hb.cell (World.block_lt_of_cell? _ _ (hHeld.2.2.2.2.2.1))).trans (hHeld.2.2.2.2.2.1)
           have HS6_:=(hb.cell (World.block_lt_of_cell? _ _ (hHeld.2.2.2.2.2.2))).trans (hHeld.2.2.2.2.2.2)
           refine ⟨_,rfl,?_⟩
           replace HO_12:=Aside0.mk (Kd.R_below (rA HO_12) hb)
           replace HO_14:=Aside0.mk (Kd.R_below (rA HO_14) hb)
           replace BK1007:=kB BK1007 hb
           replace BK1008:=kB BK1008 hb
           replace HB:=lB hb
           (try clear hb)
           (try clear hb2)
           (try clear hk)
           (try clear hi)
           refine hK.out _ _ ⟨cA BK1007 0,cA BK1007 1,cA BK1007 2,cA BK1007 3,HS4_,HS5_,HS6_⟩ (fun hHeld=>?_)
           clear hK K
           refine nmA ?_
           refine puA (i:=7) (N:=some 41) #[Y,Y,Y,Y,Y,Y,Y,Y,Z,Z,Z,Z,Z] rfl rfl HT_ ?_
           refine puA (i:=8) (N:=some 49) #[Y,Y,Y,Y,Y,Y,Y,Y,Y,Z,Z,Z,Z] rfl rfl HT_ ?_
           refine puA (i:=9) (N:=some 50) #[Y,Y,Y,Y,Y,Y,Y,Y,Y,Y,Z,Z,Z] rfl rfl HT_ ?_
           refine one_ (i:=10) (N:=some 17) #[Y,Y,Y,Y,Y,Y,Y,Y,Y,Y,Y,Z,Z] rfl rfl (one_of HT_.out (by kernel_rfl)) (by decide) (fun K hK=>?_)
           refine box_step ?hg (N:=17) ?hd (cs:=#[.int .i64 0,.int .i64 0,.int .i64 0]) (t:=28) ?hr ?_;(case hd=>rfl);(case hg=>rfl);(case hr=>first|(go_simp;done)|(go_simp;rfl))
           intro gb1021 hg w26 hbox hb
           have HS4_:=(hb.cell (World.block_lt_of_cell? _ _ (hHeld.2.2.2.2.1))).trans (hHeld.2.2.2.2.1)
           have HS5_:=(hb.cell (World.block_lt_of_cell? _ _ (hHeld.2.2.2.2.2.1))).trans (hHeld.2.2.2.2.2.1)
           have HS6_:=(hb.cell (World.block_lt_of_cell? _ _ (hHeld.2.2.2.2.2.2))).trans (hHeld.2.2.2.2.2.2)
           have BK1021:=Aside0.mk hbox
           have GW1021:=sA hg
           have GE1021:=sA hg
           have NB1007_1021:=nA hg BK1007
           have NB1021_1007:=nB hg BK1007
           have NB1008_1021:=nA hg BK1008
           have NB1021_1008:=nB hg BK1008
           replace HO_12:=Aside0.mk (Kd.R_below (Kd.R_elderB (rA HO_12) gb1021 (Nat.le_of_eq hg.symm)) hb)
           replace HO_14:=Aside0.mk (Kd.R_below (Kd.R_elderB (rA HO_14) gb1021 (Nat.le_of_eq hg.symm)) hb)
           replace BK1007:=kB BK1007 hb
           replace BK1008:=kB BK1008 hb
           replace HB:=lB hb
           clear hb hbox hg
           refine hK.out _ _ ⟨cA BK1007 0,cA BK1007 1,cA BK1007 2,cA BK1007 3,HS4_,HS5_,HS6_⟩ (fun hHeld=>?_)
           clear hK K
           refine nmA ?_
           exact norm_ (by simp only [putAll,Act.put,List.setIfInBounds_toArray,List.set_cons_zero,List.set_cons_succ]) (hCont (gb1021) _ ⟨hHeld,(by (with_reducible repeat (first|apply Kd.R_alloc|apply Kd.R_drewN|apply Kd.R_drew));exact Kd.R_mono HO_12.out (fun _ hk=>⟨hk.1.1,⟨hk.1.2,hk.2⟩⟩)),(by (with_reducible repeat (first|apply Kd.R_alloc|apply Kd.R_drewN|apply Kd.R_drew));exact Kd.R_mono HO_14.out (fun _ hk=>⟨hk.1.1,⟨hk.1.2,hk.2⟩⟩)),(bkA BK1007),(bkA BK1008),(bkA BK1021),GW1021.out,GE1021.out,NB1007_1021.out,NB1021_1007.out,NB1008_1021.out,NB1021_1008.out,blA⟩)
          ·
           skip
           refine box_step ?hg (N:=17) ?hd (cs:=#[.int .i64 0,.int .i64 0,.int .i64 0]) (t:=28) ?hr ?_;(case hd=>rfl);(case hg=>rfl);(case hr=>first|(go_simp;done)|(go_simp;rfl))
           intro gb1021 hg w25 hbox hb
           have HS4_:=(hb.cell (World.block_lt_of_cell? _ _ (hHeld.2.2.2.2.1))).trans (hHeld.2.2.2.2.1)
           have HS5_:=(hb.cell (World.block_lt_of_cell? _ _ (hHeld.2.2.2.2.2.1))).trans (hHeld.2.2.2.2.2.1)
           have HS6_:=(hb.cell (World.block_lt_of_cell? _ _ (hHeld.2.2.2.2.2.2))).trans (hHeld.2.2.2.2.2.2)
           have BK1021:=Aside0.mk hbox
           have GW1021:=sA hg
           have GE1021:=sA hg
           have NB1007_1021:=nA hg BK1007
           have NB1021_1007:=nB hg BK1007
           have NB1008_1021:=nA hg BK1008
           have NB1021_1008:=nB hg BK1008
           replace HO_12:=Aside0.mk (Kd.R_below (Kd.R_elderB (rA HO_12) gb1021 (Nat.le_of_eq hg.symm)) hb)
           replace HO_14:=Aside0.mk (Kd.R_below (Kd.R_elderB (rA HO_14) gb1021 (Nat.le_of_eq hg.symm)) hb)
           replace BK1007:=kB BK1007 hb
           replace BK1008:=kB BK1008 hb
           replace HB:=lB hb
           clear hb hbox hg
           refine hK.out _ _ ⟨cA BK1007 0,cA BK1007 1,cA BK1007 2,cA BK1007 3,HS4_,HS5_,HS6_⟩ (fun hHeld=>?_)
           clear hK K
           refine nmA ?_
           refine one_ (i:=6) (N:=some 48) #[Y,Y,Y,Y,Y,Y,Y,Z,Z,Z,Y,Z,Z] rfl rfl (one_of HT_.out (by kernel_rfl)) (by decide) (fun K hK=>?_)
           refine goes_ Try.func46 (by kernel_rfl) rfl #[.int .i64 a0,.agg #[.int .i64 a1_0,.int .i64 a1_1,.int .i64 a1_2,.int .i64 a1_3],.agg #[.int .i64 ((rd_T28 t1012 x16_2).f0),.int .i64 ((rd_T28 t1012 x16_2).f1),.int .i64 ((rd_T28 t1012 x16_2).f2)]] (by rfl) rfl rfl hA ?_
           with_reducible refine (spec_l04Move.calls k2 a0 a1_0 a1_1 a1_2 a1_3 ((rd_T28 t1012 x16_2).f0) ((rd_T28 t1012 x16_2).f1) ((rd_T28 t1012 x16_2).f2) t1017 t1018 t1019 true _ A18.out).mono ?_
           rintro e w26 ⟨rfl,hb⟩
           have HS4_:=(hb.cell (World.block_lt_of_cell? _ _ (hHeld.2.2.2.2.1))).trans (hHeld.2.2.2.2.1)
           have HS5_:=(hb.cell (World.block_lt_of_cell? _ _ (hHeld.2.2.2.2.2.1))).trans (hHeld.2.2.2.2.2.1)
           have HS6_:=(hb.cell (World.block_lt_of_cell? _ _ (hHeld.2.2.2.2.2.2))).trans (hHeld.2.2.2.2.2.2)
           refine ⟨_,rfl,?_⟩
           replace HO_12:=Aside0.mk (Kd.R_below (rA HO_12) hb)
           replace HO_14:=Aside0.mk (Kd.R_below (rA HO_14) hb)
           replace BK1007:=kB BK1007 hb
           replace BK1008:=kB BK1008 hb
           replace BK1021:=kB BK1021 hb
           replace HB:=lB hb
           (try clear hb)
           (try clear hb2)
           (try clear hk)
           (try clear hi)
           refine hK.out _ _ ⟨cA BK1007 0,cA BK1007 1,cA BK1007 2,cA BK1007 3,HS4_,HS5_,HS6_⟩ (fun hHeld=>?_)
           clear hK K
           refine nmA ?_
           refine puA (i:=7) (N:=some 41) #[Y,Y,Y,Y,Y,Y,Y,Y,Z,Z,Y,Z,Z] rfl rfl HT_ ?_
           refine puA (i:=8) (N:=some 49) #[Y,Y,Y,Y,Y,Y,Y,Y,Y,Z,Y,Z,Z] rfl rfl HT_ ?_
           refine puA (i:=9) (N:=some 50) #[Y,Y,Y,Y,Y,Y,Y,Y,Y,Y,Y,Z,Z] rfl rfl HT_ ?_
           exact norm_ (by simp only [putAll,Act.put,List.setIfInBounds_toArray,List.set_cons_zero,List.set_cons_succ]) (hCont (gb1021) _ ⟨hHeld,(by (with_reducible repeat (first|apply Kd.R_alloc|apply Kd.R_drewN|apply Kd.R_drew));exact Kd.R_mono HO_12.out (fun _ hk=>⟨hk.1.1,⟨hk.1.2,hk.2⟩⟩)),(by (with_reducible repeat (first|apply Kd.R_alloc|apply Kd.R_drewN|apply Kd.R_drew));exact Kd.R_mono HO_14.out (fun _ hk=>⟨hk.1.1,⟨hk.1.2,hk.2⟩⟩)),(bkA BK1007),(bkA BK1008),(bkA BK1021),GW1021.out,GE1021.out,NB1007_1021.out,NB1021_1007.out,NB1008_1021.out,NB1021_1008.out,blA⟩)
         rintro gb1021 w27 ⟨hS_,h0_,h1_,h2_,h3_,h4_,h5_,h6_,h7_,h8_,h9_,h10_,h11_⟩
         have BK1021:=Aside0.mk h4_
         have GW1021:=Aside0.mk h5_
         have GE1021:=Aside0.mk h6_
         have NB1007_1021:=Aside0.mk h7_
         have NB1021_1007:=Aside0.mk h8_
         have NB1008_1021:=Aside0.mk h9_
         have NB1021_1008:=Aside0.mk h10_
         replace HO_12:=Aside0.mk h0_
         replace HO_14:=Aside0.mk h1_
         replace BK1007:=Aside0.mk h2_
         replace BK1008:=Aside0.mk h3_
         replace HB:=Aside0.mk h11_
         clear h0_ h1_ h2_ h3_ h4_ h5_ h6_ h7_ h8_ h9_ h10_ h11_
         have hHeld:w27.cell? ⟨gb1007,0,none⟩=some (.int .i64 a1_0)∧w27.cell? ⟨gb1007,1,none⟩=some (.int .i64 a1_1)∧w27.cell? ⟨gb1007,2,none⟩=some (.int .i64 a1_2)∧w27.cell? ⟨gb1007,3,none⟩=some (.int .i64 a1_3)∧w27.cell? (ad1016.add ((x16_2).toNat*3))=some (.int .i64 ((rd_T28 t1012 x16_2).f0))∧w27.cell? ⟨(ad1016.add ((x16_2).toNat*3)).block,(ad1016.add ((x16_2).toNat*3)).off+1,none⟩=some (.int .i64 ((rd_T28 t1012 x16_2).f1))∧w27.cell? ⟨(ad1016.add ((x16_2).toNat*3)).block,(ad1016.add ((x16_2).toNat*3)).off+2,none⟩=some (.int .i64 ((rd_T28 t1012 x16_2).f2)):=hS_
         refine norm_ (a':=?_) ?_ ?_
         rotate_left
         ·
          simp only [putAll,Act.put,List.setIfInBounds_toArray,List.set_cons_zero,List.set_cons_succ]
          rfl
         refine one_ (i:=11) (N:=none) #[Y,Y,Y,Y,Y,Y,Y,Y,Y,Y,Y,Y,Z] rfl rfl (one_of HT_.out (by kernel_rfl)) (by decide) (fun K hK=>?_)
         have hs28:w27.cell? ⟨gb1021,0,none⟩=some (.int .i64 0):=cA BK1021 0
         have hfs28:=blk_frozen BK1021.out 0
         have hns28_0:=NB1007_1021.out
         have hns28_1:=NB1008_1021.out
         have hms28_0:=NB1021_1007.out
         have hms28_1:=NB1021_1008.out
         have hs29:w27.cell? ⟨gb1021,1,none⟩=some (.int .i64 0):=cA BK1021 1
         have hfs29:=blk_frozen BK1021.out 1
         have hns29_0:=NB1007_1021.out
         have hns29_1:=NB1008_1021.out
         have hms29_0:=NB1021_1007.out
         have hms29_1:=NB1021_1008.out
         have hs30:w27.cell? ⟨gb1021,2,none⟩=some (.int .i64 0):=cA BK1021 2
         have hfs30:=blk_frozen BK1021.out 2
         have hns30_0:=NB1007_1021.out
         have hns30_1:=NB1008_1021.out
         have hms30_0:=NB1021_1007.out
         have hms30_1:=NB1021_1008.out
         refine skip_ (w1:=?_) (by rfl) rfl ?_ ?_
         rotate_left
         ·
          go_simp
          rfl
         refine hK.out _ _ ⟨cfG hHeld.1,cfG hHeld.2.1,cfG hHeld.2.2.1,cfG hHeld.2.2.2.1,((cell_far (p:=⟨gb1021,_,none⟩) (fB (Kd.own_blk (Kd.R_away HO_14.out (fun _ hk=>hk.2.2)))) _).trans (((cell_far (p:=⟨gb1021,_,none⟩) (fB (Kd.own_blk (Kd.R_away HO_14.out (fun _ hk=>hk.2.2)))) _).trans (((cell_far (p:=⟨gb1021,_,none⟩) (fB (Kd.own_blk (Kd.R_away HO_14.out (fun _ hk=>hk.2.2)))) _).trans (hHeld.2.2.2.2.1)))))),((cell_far (p:=⟨gb1021,_,none⟩) (fB (Kd.own_blk (Kd.R_away HO_14.out (fun _ hk=>hk.2.2)))) _).trans (((cell_far (p:=⟨gb1021,_,none⟩) (fB (Kd.own_blk (Kd.R_away HO_14.out (fun _ hk=>hk.2.2)))) _).trans (((cell_far (p:=⟨gb1021,_,none⟩) (fB (Kd.own_blk (Kd.R_away HO_14.out (fun _ hk=>hk.2.2)))) _).trans (hHeld.2.2.2.2.2.1)))))),((cell_far (p:=⟨gb1021,_,none⟩) (fB (Kd.own_blk (Kd.R_away HO_14.out (fun _ hk=>hk.2.2)))) _).trans (((cell_far (p:=⟨gb1021,_,none⟩) (fB (Kd.own_blk (Kd.R_away HO_14.out (fun _ hk=>hk.2.2)))) _).trans (((cell_far (p:=⟨gb1021,_,none⟩) (fB (Kd.own_blk (Kd.R_away HO_14.out (fun _ hk=>hk.2.2)))) _).trans (hHeld.2.2.2.2.2.2))))))⟩ (fun hHeld=>?_)
         clear hK K
         refine puA (i:=12) (N:=some 18) #[Y,Y,Y,Y,Y,Y,Y,Y,Y,Y,Y,Y,Y] rfl rfl HT_ ?_
         refine done_ (done_of HT_.out (by kernel_rfl)) ?_
         try go_wp2
         have n0_:Aside0 (Kd.R k28 28 (((w27.setCell ⟨gb1021,0,none⟩ (.int .i64 t1017)).setCell ⟨gb1021,1,none⟩ (.int .i64 t1018)).setCell ⟨gb1021,2,none⟩ (.int .i64 t1019)) w.heap.size (fun k_=>some k_≠(.slice (some ad1016) t1012.length co23:Value).ownBlock∧k_≠gb1008∧k_≠gb1021) u12 x12_2):=⟨by (with_reducible repeat (first|apply Kd.R_alloc|apply Kd.R_drewN|apply Kd.R_drew));exact Kd.R_mono (Kd.R_far (p:=⟨gb1021,2,none⟩) (Kd.R_far (p:=⟨gb1021,1,none⟩) (Kd.R_far (p:=⟨gb1021,0,none⟩) (Kd.R_mono HO_12.out (fun k_ hk=>(⟨hk,hk.2.2⟩:_∧k_≠gb1021))) (fun _ hk=>hk.2) (.int .i64 t1017)) (fun _ hk=>hk.2) (.int .i64 t1018)) (fun _ hk=>hk.2) (.int .i64 t1019)) (fun _ hk=>⟨hk.1.1,⟨hk.1.2.1,hk.1.2.2⟩⟩)⟩
         have n1_:Aside0 (Kd.R k28 28 (((w27.setCell ⟨gb1021,0,none⟩ (.int .i64 t1017)).setCell ⟨gb1021,1,none⟩ (.int .i64 t1018)).setCell ⟨gb1021,2,none⟩ (.int .i64 t1019)) w.heap.size (fun k_=>some k_≠(u12:Value).ownBlock∧k_≠gb1008∧k_≠gb1021) (.slice (some ad1016) t1012.length co23) t1012):=⟨by (with_reducible repeat (first|apply Kd.R_alloc|apply Kd.R_drewN|apply Kd.R_drew));exact Kd.R_mono (Kd.R_far (p:=⟨gb1021,2,none⟩) (Kd.R_far (p:=⟨gb1021,1,none⟩) (Kd.R_far (p:=⟨gb1021,0,none⟩) (Kd.R_mono HO_14.out (fun k_ hk=>(⟨hk,hk.2.2⟩:_∧k_≠gb1021))) (fun _ hk=>hk.2) (.int .i64 t1017)) (fun _ hk=>hk.2) (.int .i64 t1018)) (fun _ hk=>hk.2) (.int .i64 t1019)) (fun _ hk=>⟨hk.1.1,⟨hk.1.2.1,hk.1.2.2⟩⟩)⟩
         have n2_:Aside0 ((((w27.setCell ⟨gb1021,0,none⟩ (.int .i64 t1017)).setCell ⟨gb1021,1,none⟩ (.int .i64 t1018)).setCell ⟨gb1021,2,none⟩ (.int .i64 t1019)).heap[gb1007]?=some (.cells #[.int .i64 a1_0,.int .i64 a1_1,.int .i64 a1_2,.int .i64 a1_3] 26 (0,0))):=⟨bkF BK1007⟩
         have n3_:Aside0 ((((w27.setCell ⟨gb1021,0,none⟩ (.int .i64 t1017)).setCell ⟨gb1021,1,none⟩ (.int .i64 t1018)).setCell ⟨gb1021,2,none⟩ (.int .i64 t1019)).heap[gb1008]?=some (.cells #[.int .i64 a2_0,.int .i64 a2_1,.int .i64 a2_2] 28 (0,0))):=⟨bkF BK1008⟩
         have n4_:Aside0 ((((w27.setCell ⟨gb1021,0,none⟩ (.int .i64 t1017)).setCell ⟨gb1021,1,none⟩ (.int .i64 t1018)).setCell ⟨gb1021,2,none⟩ (.int .i64 t1019)).heap[gb1021]?=some (.cells #[.int .i64 t1017,.int .i64 t1018,.int .i64 t1019] 28 (0,0))):=⟨bpA BK1021⟩
         have n5_:Aside0 (Below w.heap.size w (((w27.setCell ⟨gb1021,0,none⟩ (.int .i64 t1017)).setCell ⟨gb1021,1,none⟩ (.int .i64 t1018)).setCell ⟨gb1021,2,none⟩ (.int .i64 t1019))):=⟨blA⟩
         (try clear HO_12)
         (try clear HO_14)
         (try clear BK1007)
         (try clear BK1008)
         (try clear BK1021)
         (try clear HB)
         generalize (((w27.setCell ⟨gb1021,0,none⟩ (.int .i64 t1017)).setCell ⟨gb1021,1,none⟩ (.int .i64 t1018)).setCell ⟨gb1021,2,none⟩ (.int .i64 t1019))=w31 at n0_ n1_ n2_ n3_ n4_ n5_ ⊢
         have HO_12:=n0_
         have HO_14:=n1_
         have BK1007:=n2_
         have BK1008:=n3_
         have BK1021:=n4_
         have HB:=n5_
         clear n0_ n1_ n2_ n3_ n4_ n5_
         have n0_:=Aside0.mk (Kd.R_drew HO_12.out)
         have n1_:=Aside0.mk (Kd.R_drew HO_14.out)
         have n2_:=Aside0.mk (blk_drew BK1007.out)
         have n3_:=Aside0.mk (blk_drew BK1008.out)
         have n4_:=Aside0.mk (blk_drew BK1021.out)
         have n5_:=Aside0.mk (below_drew1 HB.out)
         clear HO_12
         clear HO_14
         clear BK1007
         clear BK1008
         clear BK1021
         clear HB
         have HO_12:=n0_
         have HO_14:=n1_
         have BK1007:=n2_
         have BK1008:=n3_
         have BK1021:=n4_
         have HB:=n5_
         clear n0_ n1_ n2_ n3_ n4_ n5_
         have p1022:0≤(x16_2:Int):=dA
         have q1022:x16_2<(t1012.length:Int):=dA
         obtain ⟨ad1022,e1022,hx1022_0,hx1022_1,hx1022_2⟩:=at_T28 (Kd.R_reads' HO_14.out).2.2 x16_2 p1022 q1022
         obtain rfl:ad1016=ad1022:=(by injection e1022)
         replace p1022:=eq_true p1022
         replace q1022:=eq_true q1022
        ·
         refine start_ (n:=9) (S:=fun w'=>w'.cell? ⟨gb1021,0,none⟩=some (.int .i64 t1017)∧w'.cell? ⟨gb1021,1,none⟩=some (.int .i64 t1018)∧w'.cell? ⟨gb1021,2,none⟩=some (.int .i64 t1019)∧w'.cell? (ad1016.add ((x16_2).toNat*3))=some (.int .i64 ((rd_T28 t1012 x16_2).f0))∧w'.cell? ⟨(ad1016.add ((x16_2).toNat*3)).block,(ad1016.add ((x16_2).toNat*3)).off+1,none⟩=some (.int .i64 ((rd_T28 t1012 x16_2).f1))∧w'.cell? ⟨(ad1016.add ((x16_2).toNat*3)).block,(ad1016.add ((x16_2).toNat*3)).off+2,none⟩=some (.int .i64 ((rd_T28 t1012 x16_2).f2))) (ds:=[]) #[Z,Z,Z,Z,Z,Z,Z,Z,Z] (by kernel_rfl) rfl rfl ⟨cA BK1021 0,cA BK1021 1,cA BK1021 2,hx1022_0,hx1022_1,hx1022_2⟩ (fun hHeld=>?_);refine with_tabW spec_l04Near.tab14 spec_l04Near.bits14 (fun HT_ HW_=>?_)
         generalize w31.drew=w32 at HO_12 HO_14 BK1007 BK1008 BK1021 HB hx1022_0 hx1022_1 hx1022_2 hHeld ⊢
         refine puA (i:=0) (N:=some 53) #[Y,Z,Z,Z,Z,Z,Z,Z,Z] rfl rfl HT_ ?_
         refine puA (i:=1) (N:=some 54) #[Y,Y,Z,Z,Z,Z,Z,Z,Z] rfl rfl HT_ ?_
         refine puA (i:=2) (N:=some 55) #[Y,Y,Y,Z,Z,Z,Z,Z,Z] rfl rfl HT_ ?_
         refine puA (i:=3) (N:=some 56) #[Y,Y,Y,Y,Z,Z,Z,Z,Z] rfl rfl HT_ ?_
         refine puA (i:=7) (N:=some 60) #[Y,Y,Y,Y,Z,Z,Z,Y,Z] rfl rfl HT_ ?_
         refine taA (i:=4) (N:=some 57) #[Y,Y,Y,Y,Y,Z,Z,Y,Z] rfl rfl HT_ HW_ hHeld ?_
         refine taA (i:=5) (N:=some 58) #[Y,Y,Y,Y,Y,Y,Z,Y,Z] rfl rfl HT_ HW_ hHeld ?_
         refine one_ (i:=6) (N:=some 59) #[Y,Y,Y,Y,Y,Y,Y,Y,Z] rfl rfl (one_of HT_.out (by kernel_rfl)) (by decide) (fun K hK=>?_)
         refine goes_ Try.func78 (by kernel_rfl) rfl #[.int .i64 a0,.agg #[.int .i64 ((rd_T28 t1012 x16_2).f0),.int .i64 ((rd_T28 t1012 x16_2).f1),.int .i64 ((rd_T28 t1012 x16_2).f2)],.agg #[.int .i64 t1017,.int .i64 t1018,.int .i64 t1019]] (by rfl) rfl rfl hA ?_
         with_reducible refine (spec_l02Distance.calls k2 a0 ((rd_T28 t1012 x16_2).f0) ((rd_T28 t1012 x16_2).f1) ((rd_T28 t1012 x16_2).f2) t1017 t1018 t1019 t1023 _ A20.out).mono ?_
         rintro e w33 ⟨rfl,hb⟩
         have HS3_:=(hb.cell (World.block_lt_of_cell? _ _ (hHeld.2.2.2.1))).trans (hHeld.2.2.2.1)
         have HS4_:=(hb.cell (World.block_lt_of_cell? _ _ (hHeld.2.2.2.2.1))).trans (hHeld.2.2.2.2.1)
         have HS5_:=(hb.cell (World.block_lt_of_cell? _ _ (hHeld.2.2.2.2.2))).trans (hHeld.2.2.2.2.2)
         refine ⟨_,rfl,?_⟩
         replace HO_12:=Aside0.mk (Kd.R_below (rA HO_12) hb)
         replace HO_14:=Aside0.mk (Kd.R_below (rA HO_14) hb)
         replace BK1007:=kB BK1007 hb
         replace BK1008:=kB BK1008 hb
         replace BK1021:=kB BK1021 hb
         replace HB:=lB hb
         (try clear hb)
         (try clear hb2)
         (try clear hk)
         (try clear hi)
         refine hK.out _ _ ⟨cA BK1021 0,cA BK1021 1,cA BK1021 2,HS3_,HS4_,HS5_⟩ (fun hHeld=>?_)
         clear hK K
         refine nmA ?_
         refine puA (i:=8) (N:=some 61) #[Y,Y,Y,Y,Y,Y,Y,Y,Y] rfl rfl HT_ ?_
         refine done_ (done_of HT_.out (by kernel_rfl)) ?_
         have p1024:0≤(x16_2:Int):=dA
         have q1024:x16_2<(t1012.length:Int):=dA
         obtain ⟨ad1024,e1024,hx1024_0,hx1024_1,hx1024_2⟩:=at_T28 (Kd.R_reads' HO_14.out).2.2 x16_2 p1024 q1024
         obtain rfl:ad1016=ad1024:=(by injection e1024)
         replace p1024:=eq_true p1024
         replace q1024:=eq_true q1024
         try go_wp2_with (first|((with_reducible refine gate_builtin (b:=.append) (xs:=#[.tmp 62,.tmp 67]) rfl ?_);at_builtin;refine Kd.R_append k28 (w0:=w) w.heap.size rfl (.tmp 62) (.tmp 67) 64 28 (.agg #[(.int .i64 0),(.int .i64 0),(.int .i64 0)]) 24 rfl Try.underlying64 info28 rfl (by decide) (by omega) u12 x12_2 (⟨(rd_T28 t1012 x16_2).f0,(rd_T28 t1012 x16_2).f1,(rd_T28 t1012 x16_2).f2⟩:S28) [.int .i64 ((rd_T28 t1012 x16_2).f0),.int .i64 ((rd_T28 t1012 x16_2).f1),.int .i64 ((rd_T28 t1012 x16_2).f2)] (fun k_=>some k_≠(.slice (some ad1016) t1012.length co23:Value).ownBlock∧k_≠gb1008∧k_≠gb1021) (fun _=>False) rfl rfl ?aP (fun _ hk=>hk.elim) ?aF ?aO ?aB ?aS ?aL ?_;(case aP=>exact k28_mkM _ _ _ (⟨(rd_T28 t1012 x16_2).f0,(rd_T28 t1012 x16_2).f1,(rd_T28 t1012 x16_2).f2⟩:S28));(case aB=>exact blA);(case aF=>exact (fun k_ hk=>⟨Kd.fresh' (Kd.R_lt (rA HO_14)) k_ hk,Kd.freshB (bkA BK1008) k_ hk,Kd.freshB (bkA BK1021) k_ hk⟩));(case aO=>exact (rA HO_12));(case aS=>exact (below_size blA));(case aL=>have:=LMc22.out;omega);intro v1026 w34 ho hb hg hat;rw [← Ny1025.out] at ho;have n0_:=Aside0.mk (Kd.R_after (ok:=(fun k_=>k_≠gb1008∧k_≠gb1021)) (by (with_reducible repeat (first|apply Kd.R_alloc|apply Kd.R_drewN|apply Kd.R_drew));exact Kd.R_mono HO_14.out (fun _ hk=>⟨⟨hk.2.1,hk.2.2⟩,hk.1⟩)) hg hat);have n1_:=Aside0.mk (blk_grown (bkA BK1007) hg (Kd.R_ne HO_12.out BK1007.out (by decide)));have n2_:=Aside0.mk (blk_grown (bkA BK1008) hg (Kd.R_away HO_12.out (fun _ hk=>hk.2.1)));have n3_:=Aside0.mk (blk_grown (bkA BK1021) hg (Kd.R_away HO_12.out (fun _ hk=>hk.2.2)));have n4_:=Aside0.mk hb;have n5_:=Aside0.mk ho;clear HO_14;clear BK1007;clear BK1008;clear BK1021;clear HB;clear HO_12;have HO_14:=n0_;have BK1007:=n1_;have BK1008:=n2_;have BK1021:=n3_;have HB:=n4_;have HO1027:=n5_;clear n0_ n1_ n2_ n3_ n4_ n5_;clear ho hb hg hat))
         go_roundg k2
         case measure=>have:=HK1.out;have:=HK2.out;omega
         case rel=>exact ⟨(y1025),(wrap64 (x16_2+1)),hB,H',⟨by have:=HK1.out;have:=HK2.out;omega⟩,⟨by (with_reducible repeat (first|apply Kd.R_alloc|apply Kd.R_drewN|apply Kd.R_drew));exact Kd.R_mono HO1027.out (fun _ hk=>⟨hk.1,hk.2.1⟩)⟩,⟨by (with_reducible repeat (first|apply Kd.R_alloc|apply Kd.R_drewN|apply Kd.R_drew));exact Kd.R_mono HO_14.out (fun _ hk=>⟨hk.2,hk.1.1⟩)⟩,⟨bkA BK1007⟩,⟨bkA BK1008⟩,⟨blA⟩⟩
        ·
         refine start_ (n:=9) (S:=fun w'=>w'.cell? ⟨gb1021,0,none⟩=some (.int .i64 t1017)∧w'.cell? ⟨gb1021,1,none⟩=some (.int .i64 t1018)∧w'.cell? ⟨gb1021,2,none⟩=some (.int .i64 t1019)∧w'.cell? (ad1016.add ((x16_2).toNat*3))=some (.int .i64 ((rd_T28 t1012 x16_2).f0))∧w'.cell? ⟨(ad1016.add ((x16_2).toNat*3)).block,(ad1016.add ((x16_2).toNat*3)).off+1,none⟩=some (.int .i64 ((rd_T28 t1012 x16_2).f1))∧w'.cell? ⟨(ad1016.add ((x16_2).toNat*3)).block,(ad1016.add ((x16_2).toNat*3)).off+2,none⟩=some (.int .i64 ((rd_T28 t1012 x16_2).f2))) (ds:=[]) #[Z,Z,Z,Z,Z,Z,Z,Z,Z] (by kernel_rfl) rfl rfl ⟨cA BK1021 0,cA BK1021 1,cA BK1021 2,hx1022_0,hx1022_1,hx1022_2⟩ (fun hHeld=>?_);refine with_tabW spec_l04Near.tab14 spec_l04Near.bits14 (fun HT_ HW_=>?_)
         generalize w31.drew=w44 at HO_12 HO_14 BK1007 BK1008 BK1021 HB hx1022_0 hx1022_1 hx1022_2 hHeld ⊢
         refine puA (i:=0) (N:=some 53) #[Y,Z,Z,Z,Z,Z,Z,Z,Z] rfl rfl HT_ ?_
         refine puA (i:=1) (N:=some 54) #[Y,Y,Z,Z,Z,Z,Z,Z,Z] rfl rfl HT_ ?_
         refine puA (i:=2) (N:=some 55) #[Y,Y,Y,Z,Z,Z,Z,Z,Z] rfl rfl HT_ ?_
         refine puA (i:=3) (N:=some 56) #[Y,Y,Y,Y,Z,Z,Z,Z,Z] rfl rfl HT_ ?_
         refine puA (i:=7) (N:=some 60) #[Y,Y,Y,Y,Z,Z,Z,Y,Z] rfl rfl HT_ ?_
         refine taA (i:=4) (N:=some 57) #[Y,Y,Y,Y,Y,Z,Z,Y,Z] rfl rfl HT_ HW_ hHeld ?_
         refine taA (i:=5) (N:=some 58) #[Y,Y,Y,Y,Y,Y,Z,Y,Z] rfl rfl HT_ HW_ hHeld ?_
         refine one_ (i:=6) (N:=some 59) #[Y,Y,Y,Y,Y,Y,Y,Y,Z] rfl rfl (one_of HT_.out (by kernel_rfl)) (by decide) (fun K hK=>?_)
         refine goes_ Try.func78 (by kernel_rfl) rfl #[.int .i64 a0,.agg #[.int .i64 ((rd_T28 t1012 x16_2).f0),.int .i64 ((rd_T28 t1012 x16_2).f1),.int .i64 ((rd_T28 t1012 x16_2).f2)],.agg #[.int .i64 t1017,.int .i64 t1018,.int .i64 t1019]] (by rfl) rfl rfl hA ?_
         with_reducible refine (spec_l02Distance.calls k2 a0 ((rd_T28 t1012 x16_2).f0) ((rd_T28 t1012 x16_2).f1) ((rd_T28 t1012 x16_2).f2) t1017 t1018 t1019 t1023 _ A20.out).mono ?_
         rintro e w45 ⟨rfl,hb⟩
         have HS3_:=(hb.cell (World.block_lt_of_cell? _ _ (hHeld.2.2.2.1))).trans (hHeld.2.2.2.1)
         have HS4_:=(hb.cell (World.block_lt_of_cell? _ _ (hHeld.2.2.2.2.1))).trans (hHeld.2.2.2.2.1)
         have HS5_:=(hb.cell (World.block_lt_of_cell? _ _ (hHeld.2.2.2.2.2))).trans (hHeld.2.2.2.2.2)
         refine ⟨_,rfl,?_⟩
         replace HO_12:=Aside0.mk (Kd.R_below (rA HO_12) hb)
         replace HO_14:=Aside0.mk (Kd.R_below (rA HO_14) hb)
         replace BK1007:=kB BK1007 hb
         replace BK1008:=kB BK1008 hb
         replace BK1021:=kB BK1021 hb
         replace HB:=lB hb
         (try clear hb)
         (try clear hb2)
         (try clear hk)
         (try clear hi)
         refine hK.out _ _ ⟨cA BK1021 0,cA BK1021 1,cA BK1021 2,HS3_,HS4_,HS5_⟩ (fun hHeld=>?_)
         clear hK K
         refine nmA ?_
         refine puA (i:=8) (N:=some 61) #[Y,Y,Y,Y,Y,Y,Y,Y,Y] rfl rfl HT_ ?_
         refine done_ (done_of HT_.out (by kernel_rfl)) ?_
         try go_wp2
         go_roundg k2
         case measure=>have:=HK1.out;have:=HK2.out;omega
         case rel=>exact ⟨(x12_2),(wrap64 (x16_2+1)),hB,H',⟨by have:=HK1.out;have:=HK2.out;omega⟩,⟨by (with_reducible repeat (first|apply Kd.R_alloc|apply Kd.R_drewN|apply Kd.R_drew));exact Kd.R_mono HO_12.out (fun _ hk=>⟨hk.1,hk.2.1⟩)⟩,⟨by (with_reducible repeat (first|apply Kd.R_alloc|apply Kd.R_drewN|apply Kd.R_drew));exact Kd.R_mono HO_14.out (fun _ hk=>⟨hk.1,hk.2.1⟩)⟩,⟨bkA BK1007⟩,⟨bkA BK1008⟩,⟨blA⟩⟩
       ·
        rw [if_neg c16] at H
        have c16b0:=decide_eq_false c16
        clear c16
        have H':=Aside0.mk H
        clear H
        obtain ⟨Ao54,co54,eo54⟩:=Kd.R_slice HO_14.out
        subst eo54
        go_wp2
        go_roundg k2
        case measure=>have:=HK1.out;have:=HK2.out;omega
        case rel=>exact ⟨(x12_2),(wrap64 (x13_1+1)),hB,H',⟨by have:=HK1.out;have:=HK2.out;omega⟩,⟨by (with_reducible repeat (first|apply Kd.R_alloc|apply Kd.R_drewN|apply Kd.R_drew));exact Kd.R_mono HO_12.out (fun _ hk=>hk.2)⟩,⟨bkA BK1007⟩,⟨bkA BK1008⟩,⟨blA⟩⟩
    ·
     go_ret2
     exact ⟨_,eW,nlA,blA⟩
   ·
    rw [if_neg c10] at H
    have c10b0:=decide_eq_false c10
    clear c10
    simp only [Option.some.injEq,Prod.mk.injEq] at H
    obtain ⟨rfl,rfl⟩:=H
    go_wp2
    go_ret2
    exact ⟨_,eW,by (with_reducible repeat (first|apply Kd.R_alloc|apply Kd.R_drewN|apply Kd.R_drew));exact Kd.R_mono HO_12.out (fun _ hk=>trivial),blA⟩
end Go.Proofs.Ytlpmefmaplhfdaa.PAll
