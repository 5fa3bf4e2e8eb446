-- turned out of the kit's print
import Derived.Test.YtnhiehpbkimaeaaQx
import Derived.Test.YtnhiehpbkimaeaaQimplBall56
import Derived.Test.YtnhiehpbkimaeaaQimplregionCode
import Derived.Test.YtnhiehpbkimaeaaQspecl01Code
namespace Go.Proofs.Ytnhiehpbkimaeaa.PAll
open Go.RowKit Go.Proofs.YtnhiehpbkimaeaaW.PrintWords Go.Proofs.YtnhiehpbkimaeaaW.PrintLast Go.Proofs.YtnhiehpbkimaeaaW.PrintMore
attribute [local go_sem] Go.Proofs.Ytnhiehpbkimaeaa.Aux.setCell_drewN Go.Proofs.Ytnhiehpbkimaeaa.Aux.isSome_setCell max2_int min2_int max_two min_two max_three min_three max_four min_four
set_option linter.unusedVariables false
set_option linter.unusedSimpArgs false
mutual
def spec_SphereAround.j0:Nat→Int→Int→Int→Bool→Int→Int→Int→Option ((List (S53)) × Int)
 | 0,_,_,_,_,_,_,_=>none
 | k+1,x0,x2,x8,x26,x248000,x248001,x248002=>if x26=true then (spec_SphereAround.j1 k x0 x2 2 x248000 x248001 x248002) else (spec_SphereAround.j1 k x0 x2 x8 x248000 x248001 x248002)
def spec_SphereAround.j1:Nat→Int→Int→Int→Int→Int→Int→Option ((List (S53)) × Int)
 | 0,_,_,_,_,_,_=>none
 | k+1,x0,x2,x8,x248000,x248001,x248002=>if x8=0 then (spec_SphereAround.l0 k x0 x2 (([(⟨x248000,x248001,x248002⟩:S53)]:List (S53))) 1 x248000 x248001 x248002) else (some (([]:List (S53)),x8))
def spec_SphereAround.l0:Nat→Int→Int→List (S53)→Int→Int→Int→Int→Option ((List (S53)) × Int)
 | 0,_,_,_,_,_,_,_=>none
 | k+1,x0,x2,x9,x10,x248000,x248001,x248002=>if x10≤x2 then (spec_SphereAround.l1 k x0 x2 x9 x10 (([]:List (S53))) 0 x248000 x248001 x248002) else (some (x9,0))
def spec_SphereAround.l1:Nat→Int→Int→List (S53)→Int→List (S53)→Int→Int→Int→Int→Option ((List (S53)) × Int)
 | 0,_,_,_,_,_,_,_,_,_=>none
 | k+1,x0,x2,x9,x10,x11,x12,x248000,x248001,x248002=>if x12<(x9.length:Int) then (if 0≤x12 then ((spec_l02Near.f k x0 ((rd_T53 x9 x12).f0) ((rd_T53 x9 x12).f1) ((rd_T53 x9 x12).f2)).bind fun bt260=>(if bt260.2=true then (spec_SphereAround.l2 k x0 x2 x9 x10 x11 x12 bt260.1 0 x248000 x248001 x248002) else (some (([]:List (S53)),3)))) else (none)) else (spec_SphereAround.l0 k x0 x2 x11 (wrap64 (x10+1)) x248000 x248001 x248002)
def spec_SphereAround.l2:Nat→Int→Int→List (S53)→Int→List (S53)→Int→List (S53)→Int→Int→Int→Int→Option ((List (S53)) × Int)
 | 0,_,_,_,_,_,_,_,_,_,_,_=>none
 | k+1,x0,x2,x9,x10,x11,x12,x13,x15,x248000,x248001,x248002=>if x15<(x13.length:Int) then (if 0≤x15 then ((spec_l02Distance.f k x0 x248000 x248001 x248002 ((rd_T53 x13 x15).f0) ((rd_T53 x13 x15).f1) ((rd_T53 x13 x15).f2)).bind fun t265=>(if t265=x10 then (if x11.length<5864062014805 then (spec_SphereAround.l2 k x0 x2 x9 x10 (x11 ++ [(⟨(rd_T53 x13 x15).f0,(rd_T53 x13 x15).f1,(rd_T53 x13 x15).f2⟩:S53)]) x12 x13 (wrap64 (x15+1)) x248000 x248001 x248002) else (none)) else (spec_SphereAround.l2 k x0 x2 x9 x10 x11 x12 x13 (wrap64 (x15+1)) x248000 x248001 x248002))) else (none)) else (spec_SphereAround.l1 k x0 x2 x9 x10 x11 (wrap64 (x12+1)) x248000 x248001 x248002)
end
def spec_SphereAround.f (k:Nat) (a0 a1_0 a1_1 a1_2 a2:Int):Option ((List (S53)) × Int):=(spec_l01Code.f k a0 (([(⟨a1_0,a1_1,a1_2⟩:S53)]:List (S53)))).bind fun t251=>(if t251=0 then ((spec_l01In.f a2 0 4).bind fun t252=>(spec_SphereAround.j0 k a0 a2 t251 (!t252) a1_0 a1_1 a1_2)) else (spec_SphereAround.j0 k a0 a2 t251 false a1_0 a1_1 a1_2))
theorem spec_SphereAround.mono_l:∀ k,(∀ y0 y1 y2 y3 y4 y5 y6,LeO (spec_SphereAround.j0 k y0 y1 y2 y3 y4 y5 y6) (spec_SphereAround.j0 (k+1) y0 y1 y2 y3 y4 y5 y6))∧(∀ y0 y1 y2 y3 y4 y5,LeO (spec_SphereAround.j1 k y0 y1 y2 y3 y4 y5) (spec_SphereAround.j1 (k+1) y0 y1 y2 y3 y4 y5))∧(∀ y0 y1 y2 y3 y4 y5 y6,LeO (spec_SphereAround.l0 k y0 y1 y2 y3 y4 y5 y6) (spec_SphereAround.l0 (k+1) y0 y1 y2 y3 y4 y5 y6))∧(∀ y0 y1 y2 y3 y4 y5 y6 y7 y8,LeO (spec_SphereAround.l1 k y0 y1 y2 y3 y4 y5 y6 y7 y8) (spec_SphereAround.l1 (k+1) y0 y1 y2 y3 y4 y5 y6 y7 y8))∧(∀ y0 y1 y2 y3 y4 y5 y6 y7 y8 y9 y10,LeO (spec_SphereAround.l2 k y0 y1 y2 y3 y4 y5 y6 y7 y8 y9 y10) (spec_SphereAround.l2 (k+1) y0 y1 y2 y3 y4 y5 y6 y7 y8 y9 y10))
 | 0=>by refine ⟨?_,?_,?_,?_,?_⟩ <;> (intros;intro r h;simp [spec_SphereAround.j0,spec_SphereAround.j1,spec_SphereAround.l0,spec_SphereAround.l1,spec_SphereAround.l2] at h)
 | k+1=>by
  obtain ⟨ih0,ih1,ih2,ih3,ih4⟩:=spec_SphereAround.mono_l k
  refine ⟨?_,?_,?_,?_,?_⟩ <;> (intros;first|unfold spec_SphereAround.j0|unfold spec_SphereAround.j1|unfold spec_SphereAround.l0|unfold spec_SphereAround.l1|unfold spec_SphereAround.l2)
  all_goals repeat' first
  | with_reducible first|exact ih0 ..|exact ih1 ..|exact ih2 ..|exact ih3 ..|exact ih4 ..|exact spec_l01Code.mono ..|exact spec_l02Distance.mono ..|exact spec_l02Near.mono ..|exact LeO.refl _|exact LeO.none _|refine LeO.ite ?_ ?_|refine LeO.bind ?_ fun _=>?_
theorem spec_SphereAround.mono:∀ a0 a1 a2 a3 a4 k,LeO (spec_SphereAround.f k a0 a1 a2 a3 a4) (spec_SphereAround.f (k+1) a0 a1 a2 a3 a4):=by
 intro a0 a1 a2 a3 a4 k
 obtain ⟨ih0,ih1,ih2,ih3,ih4⟩:=spec_SphereAround.mono_l k
 unfold spec_SphereAround.f
 repeat' first
   | with_reducible first|exact ih0 ..|exact ih1 ..|exact ih2 ..|exact ih3 ..|exact ih4 ..|exact spec_l01Code.mono ..|exact spec_l02Distance.mono ..|exact spec_l02Near.mono ..|exact LeO.refl _|exact LeO.none _|refine LeO.ite ?_ ?_|refine LeO.bind ?_ fun _=>?_
def spec_SphereAround.T20:Bool × List (List Nat × List Nat):=(true,[([],[]),([],[]),([],[]),([],[]),([2,3],[2,3]),([4],[4]),([0,1,5],[0,1,5]),([],[]),([6,7],[6,7])])
def spec_SphereAround.B20:List Nat:=[0,0,0,0,12,28,63,0,255]
theorem spec_SphereAround.tab20:rtab .any (opsOf Try.f30 20)=spec_SphereAround.T20:=by kernel_rfl
theorem spec_SphereAround.bits20:waitsOk spec_SphereAround.T20.2 spec_SphereAround.B20=true:=by kernel_rfl
set_option maxHeartbeats 8000000 in
set_option maxRecDepth 100000 in
theorem spec_SphereAround.calls (k:Nat) (a0 a1_0 a1_1 a1_2 a2:Int) (r1:List (S53)) (r2:Int) (w:World) (h:spec_SphereAround.f k a0 a1_0 a1_1 a1_2 a2=some (r1,r2)) :
  Calls Try.prog 30 #[.int .i64 a0,.agg #[.int .i64 a1_0,.int .i64 a1_1,.int .i64 a1_2],.int .i64 a2] w fun e w'=>∃ v0_:Value,e=.returned (.tuple #[v0_,.int .i64 r2])∧Kd.R k53 53 w' w.heap.size (fun _=>True) v0_ r1∧Below w.heap.size w w':=by
 have hu53:=Try.underlying53
 have HB:=Aside0.mk (Below.refl w.heap.size w)
 have H:=h
 unfold spec_SphereAround.f at H
 clear h
 obtain ⟨y248,hy248⟩:∃ y_:List (S53),y_=(([(⟨a1_0,a1_1,a1_2⟩:S53)]:List (S53))):=⟨_,rfl⟩
 replace H:((spec_l01Code.f k a0 y248).bind fun t251=>(if t251=0 then ((spec_l01In.f a2 0 4).bind fun t252=>(spec_SphereAround.j0 k a0 a2 t251 (!t252) a1_0 a1_1 a1_2)) else (spec_SphereAround.j0 k a0 a2 t251 false a1_0 a1_1 a1_2)))=some (r1,r2):=rH hy248 H
 have Ny248:=Aside0.mk hy248
 clear hy248
 replace H:=bS H
 obtain ⟨t251,A4,H⟩:=H
 try dsimp only at H
 have HC5:=Aside0.mk H
 clear H
 go_enter Try.func30,Try.ntmps30
 go_upto_region 2 with (first|((with_reducible refine gate_dst (N:=4) rfl ?_);refine bxE (cs:=#[.int .i64 a1_0,.int .i64 a1_1,.int .i64 a1_2]) (t:=53) ?_;intro gb247 hg w6 hbox hb;have n0_:=lB hb;have n1_:=Aside0.mk hbox;have n2_:=sA hg;have n3_:=sA hg;clear HB;have HB:=n0_;have BK247:=n1_;have GW247:=n2_;have GE247:=n3_;clear n0_ n1_ n2_ n3_;clear hb hbox hg;obtain ⟨hcz7_0,hcz7_1,hcz7_2,hfz7_0,hfz7_1,hfz7_2⟩:=cz3 BK247)|((with_reducible refine gate_dst (N:=18) rfl ?_);refine Kd.R_lit k53 _ 53 ?hg (N:=18) ?hd (xs:=([(⟨a1_0,a1_1,a1_2⟩:S53)]:List (S53))) (inner:=[.int .i64 a1_0,.int .i64 a1_1,.int .i64 a1_2]) (ok:=fun _=>True) (okp:=fun _=>True) ?hr ?hp (fun _ hk=>hk) trivial (Below.refl _ _) (Nat.le_refl _) (by simp) ?_;(case hd=>rfl);(case hg=>rfl);(case hr=>first|(go_simp;done)|(go_simp;rfl));(case hp=>exact (Reps.c3 (show Kd.M k53 _ _ _ (⟨a1_0,a1_1,a1_2⟩:S53) [.int .i64 a1_0,.int .i64 a1_1,.int .i64 a1_2] from (k53_mkM _ _ _ (⟨a1_0,a1_1,a1_2⟩:S53) )) (Reps.none _ _)));intro v249 w8 ho9 hb hg_ hnew_;clear hg_ hnew_;(first|rw [← Ny248.out] at ho9|(simp only [Int.reduceToNat] at ho9;rw [← Ny248.out] at ho9));have n0_:=Aside0.mk (Kd.R_lower (Kd.R_newB ho9 (bkA BK247)) (below_size blA));have n1_:=kB BK247 hb;have n2_:=lB hb;clear BK247;clear HB;have HO250:=n0_;have BK247:=n1_;have HB:=n2_;clear n0_ n1_ n2_;clear hb ho9;obtain ⟨Ao10,co10,eo10⟩:=Kd.R_slice HO250.out;subst eo10)|((with_reducible refine gd 19 rfl ?_);refine gC (some 19) rfl Try.func45 (spec_l01Code.calls (w:=_) (hr1:=cR (Kd.R_reads' HO250.out).2.2) (hc1:=(Kd.R_reads' HO250.out).2.1) (h:=A4.out)) ?_;intro w11 hb;have n0_:=Aside0.mk (Kd.R_below (rA HO250) hb);have n1_:=kB BK247 hb;have n2_:=lB hb;clear HO250;clear BK247;clear HB;have HO250:=n0_;have BK247:=n1_;have HB:=n2_;clear n0_ n1_ n2_;clear hb))
 (try simp only [Act.put,List.setIfInBounds_toArray,List.set_cons_zero,List.set_cons_succ])
 go_cut [26] (fun v26 wc=>∃ (kq:Nat) (x26_4:Bool),v26=.bool x26_4∧Aside0 (spec_SphereAround.j0 kq a0 a2 t251 x26_4 a1_0 a1_1 a1_2=some (r1,r2))∧Aside0 (kq≤k)∧Aside0 (wc.heap[gb247]?=some (.cells #[.int .i64 a1_0,.int .i64 a1_1,.int .i64 a1_2] 53 (0,0)))∧Aside0 (Below w.heap.size w wc))
 case first=>
  have H:=HC5.out
  clear HC5
  by_cases c12:t251=0
  ·
   rw [if_pos c12] at H
   have c12b0:(t251 == 0)=true:=beq_iff_eq.mpr c12
   have c12b1:(t251 != 0)=false:=bne_eq_false_iff_eq.mpr c12
   clear c12
   (first|rw [c12b0]|(simp only [i64_w,i32_w];rw [c12b0])|skip)
   replace H:=bS H
   obtain ⟨t252,A13,H⟩:=H
   try dsimp only at H
   have H':=Aside0.mk H
   clear H
   go_wp2_with (first|(go_at_call 27;(with_reducible refine (spec_l01In.calls a2 0 4 t252 _ A13.out).mono ?_);rintro e w' ⟨rfl,⟨nd,rfl⟩⟩))
   go_meet
   case rel=>exact ⟨_,(!t252),hB,H',⟨by first|omega|exact Nat.le_refl _⟩,⟨bkA BK247⟩,⟨blA⟩⟩
  ·
   rw [if_neg c12] at H
   have c12b0:(t251 == 0)=false:=beq_eq_false_iff_ne.mpr c12
   have c12b1:(t251 != 0)=true:=bne_iff_ne.mpr c12
   (first|rw [c12b0]|(simp only [i64_w,i32_w];rw [c12b0])|skip)
   have H':=Aside0.mk H
   clear H
   go_wp2
   go_meet
   case rel=>exact ⟨_,(false),hB,H',⟨by first|omega|exact Nat.le_refl _⟩,⟨bkA BK247⟩,⟨blA⟩⟩
 case rest=>
  clear HC5
  try clear c3
  try clear c12
  try clear c12b0
  try clear c12b1
  try clear hcz7_0
  try clear hcz7_1
  try clear hcz7_2
  try clear hfz7_0
  try clear hfz7_1
  try clear hfz7_2
  obtain ⟨kq,x26_4,rfl,HA,HJ4,BK247,HB⟩:=hcut
  cases kq with
  | zero=>exact absurd HA.out (by simp [spec_SphereAround.j0])
  | succ kj4=>
   have H:=HA.out
   clear HA
   simp only [spec_SphereAround.j0] at H
   have HC14:=Aside0.mk H
   clear H
   go_upto_if 26 with (fail)
   go_cut [8] (fun v8 wc=>∃ (kq:Nat) (x8_13:Int),v8=.int .i64 x8_13∧Aside0 (spec_SphereAround.j1 kq a0 a2 x8_13 a1_0 a1_1 a1_2=some (r1,r2))∧Aside0 (kq≤kj4)∧Aside0 (wc.heap[gb247]?=some (.cells #[.int .i64 a1_0,.int .i64 a1_1,.int .i64 a1_2] 53 (0,0)))∧Aside0 (Below w.heap.size w wc))
   case first=>
    have H:=HC14.out
    clear HC14
    by_cases c15:x26_4=true
    ·
     subst c15
     rw [if_pos rfl] at H
     try dsimp only at H
     have H':=Aside0.mk H
     clear H
     go_wp2
     go_meet
     case rel=>exact ⟨_,(2),hB,H',⟨by have:=HJ4.out;first|omega|exact Nat.le_refl _⟩,⟨bkA BK247⟩,⟨blA⟩⟩
    ·
     replace c15:=Bool.eq_false_iff.mpr c15
     subst c15
     rw [if_neg (show ¬ (false=true) by decide)] at H
     try dsimp only at H
     have H':=Aside0.mk H
     clear H
     go_wp2
     go_meet
     case rel=>exact ⟨_,(t251),hB,H',⟨by have:=HJ4.out;first|omega|exact Nat.le_refl _⟩,⟨bkA BK247⟩,⟨blA⟩⟩
   case rest=>
    clear HC14
    try clear c3
    try clear c12
    try clear c12b0
    try clear c12b1
    try clear c15
    try clear hcz7_0
    try clear hcz7_1
    try clear hcz7_2
    try clear hfz7_0
    try clear hfz7_1
    try clear hfz7_2
    obtain ⟨kq,x8_13,rfl,HA,HJ13,BK247,HB⟩:=hcut
    cases kq with
    | zero=>exact absurd HA.out (by simp [spec_SphereAround.j1])
    | succ kj13=>
     have H:=HA.out
     clear HA
     simp only [spec_SphereAround.j1] at H
     by_cases c16:x8_13=0
     ·
      rw [if_pos c16] at H
      have c16b0:(x8_13 == 0)=true:=beq_iff_eq.mpr c16
      have c16b1:(x8_13 != 0)=false:=bne_eq_false_iff_eq.mpr c16
      clear c16
      obtain ⟨y253,hy253⟩:∃ y_:List (S53),y_=(([(⟨a1_0,a1_1,a1_2⟩:S53)]:List (S53))):=⟨_,rfl⟩
      replace H:(spec_SphereAround.l0 kj13 a0 a2 y253 1 a1_0 a1_1 a1_2)=some (r1,r2):=rH hy253 H
      have Ny253:=Aside0.mk hy253
      clear hy253
      have H':=Aside0.mk H
      clear H
      obtain ⟨hcz17_0,hcz17_1,hcz17_2,hfz17_0,hfz17_1,hfz17_2⟩:=cz3 BK247
      go_wp2_with (first|((with_reducible refine gate_dst (N:=31) rfl ?_);refine Kd.R_lit k53 _ 53 ?hg (N:=31) ?hd (xs:=([(⟨a1_0,a1_1,a1_2⟩:S53)]:List (S53))) (inner:=[.int .i64 a1_0,.int .i64 a1_1,.int .i64 a1_2]) (ok:=fun _=>True) (okp:=fun _=>True) ?hr ?hp (fun _ hk=>hk) trivial (Below.refl _ _) (Nat.le_refl _) (by simp) ?_;(case hd=>rfl);(case hg=>rfl);(case hr=>first|(go_simp;done)|(go_simp;rfl));(case hp=>exact (Reps.c3 (show Kd.M k53 _ _ _ (⟨a1_0,a1_1,a1_2⟩:S53) [.int .i64 a1_0,.int .i64 a1_1,.int .i64 a1_2] from (k53_mkM _ _ _ (⟨a1_0,a1_1,a1_2⟩:S53) )) (Reps.none _ _)));intro v254 w18 ho19 hb hg_ hnew_;clear hg_ hnew_;(first|rw [← Ny253.out] at ho19|(simp only [Int.reduceToNat] at ho19;rw [← Ny253.out] at ho19));have n0_:=Aside0.mk (Kd.R_lower (Kd.R_newB ho19 (bkA BK247)) (below_size blA));have n1_:=kB BK247 hb;have n2_:=lB hb;clear BK247;clear HB;have HO255:=n0_;have BK247:=n1_;have HB:=n2_;clear n0_ n1_ n2_;clear hb ho19))
      go_loopg [9,10] kj13 (fun kq v9 v10 w'=>∃ (x9_3:List (S53)) (x10_3:Int),v10=.int .i64 x10_3∧Aside0 (spec_SphereAround.l0 kq a0 a2 x9_3 x10_3 a1_0 a1_1 a1_2=some (r1,r2))∧Aside0 (kq≤kj13)∧Aside0 (Kd.R k53 53 w' w.heap.size (fun k_=>k_≠gb247) v9 x9_3)∧Aside0 (w'.heap[gb247]?=some (.cells #[.int .i64 a1_0,.int .i64 a1_1,.int .i64 a1_2] 53 (0,0)))∧Aside0 (Below w.heap.size w w'))
      case atStart=>exact ⟨(y253),(1),hB,H',⟨Nat.le_refl _⟩,⟨by (with_reducible repeat (first|apply Kd.R_alloc|apply Kd.R_drewN|apply Kd.R_drew));exact Kd.R_mono HO255.out (fun _ hk=>hk.2)⟩,⟨bkA BK247⟩,⟨blA⟩⟩
      case round=>
       clear H'
       try clear c3
       try clear c12
       try clear c12b0
       try clear c12b1
       try clear c15
       try clear c16
       try clear c16b0
       try clear c16b1
       try clear hcz17_0
       try clear hcz17_1
       try clear hcz17_2
       try clear hcz7_0
       try clear hcz7_1
       try clear hcz7_2
       try clear hfz17_0
       try clear hfz17_1
       try clear hfz17_2
       try clear hfz7_0
       try clear hfz7_1
       try clear hfz7_2
       obtain ⟨x9_3,x10_3,rfl,HA,HK3,HO_9,BK247,HB⟩:=hrel
       cases gk with
       | zero=>exact absurd HA.out (by simp [spec_SphereAround.l0])
       | succ k3=>
        have H:=HA.out
        clear HA
        simp only [spec_SphereAround.l0] at H
        by_cases c20:x10_3≤a2
        ·
         rw [if_pos c20] at H
         have c20b0:=decide_eq_true c20
         clear c20
         obtain ⟨y256,hy256⟩:∃ y_:List (S53),y_=(([]:List (S53))):=⟨_,rfl⟩
         replace H:(spec_SphereAround.l1 k3 a0 a2 x9_3 x10_3 y256 0 a1_0 a1_1 a1_2)=some (r1,r2):=rH hy256 H
         have Ny256:=Aside0.mk hy256
         clear hy256
         have H':=Aside0.mk H
         clear H
         go_wp2_with (first|((with_reducible refine gate_dst (N:=37) rfl ?_);refine Kd.R_lit k53 _ 53 ?hg (N:=37) ?hd (xs:=([]:List (S53))) (inner:=[]) (ok:=fun _=>True) (okp:=fun _=>True) ?hr ?hp (fun _ hk=>hk) trivial (Below.refl _ _) (Nat.le_refl _) (by simp) ?_;(case hd=>rfl);(case hg=>rfl);(case hr=>first|(go_simp;done)|(go_simp;rfl));(case hp=>exact (Reps.none _ _));intro v257 w21 ho22 hb hg_ hnew_;clear hg_ hnew_;(first|rw [← Ny256.out] at ho22|(simp only [Int.reduceToNat] at ho22;rw [← Ny256.out] at ho22));have n0_:=Aside0.mk (Kd.R_elder' (rA HO_9) (Kd.R_base ho22) hb);have n1_:=Aside0.mk (Kd.R_lower (Kd.R_newB (Kd.R_new' ho22 (Kd.R_lt (rA HO_9))) (bkA BK247)) (below_size blA));have n2_:=kB BK247 hb;have n3_:=lB hb;clear HO_9;clear BK247;clear HB;have HO_9:=n0_;have HO258:=n1_;have BK247:=n2_;have HB:=n3_;clear n0_ n1_ n2_ n3_;clear hb ho22))
         go_loopg [11,12] k3 (fun kq v11 v12 w'=>∃ (x11_4:List (S53)) (x12_4:Int),v12=.int .i64 x12_4∧Aside0 (spec_SphereAround.l1 kq a0 a2 x9_3 x10_3 x11_4 x12_4 a1_0 a1_1 a1_2=some (r1,r2))∧Aside0 (kq≤k3)∧Aside0 (Kd.R k53 53 w' w.heap.size (fun k_=>some k_≠(v11:Value).ownBlock∧k_≠gb247) u9 x9_3)∧Aside0 (Kd.R k53 53 w' w.heap.size (fun k_=>some k_≠(u9:Value).ownBlock∧k_≠gb247) v11 x11_4)∧Aside0 (w'.heap[gb247]?=some (.cells #[.int .i64 a1_0,.int .i64 a1_1,.int .i64 a1_2] 53 (0,0)))∧Aside0 (Below w.heap.size w w'))
         case atStart=>exact ⟨(y256),(0),hB,H',⟨Nat.le_refl _⟩,⟨by (with_reducible repeat (first|apply Kd.R_alloc|apply Kd.R_drewN|apply Kd.R_drew));exact Kd.R_mono HO_9.out (fun _ hk=>⟨hk.2,hk.1⟩)⟩,⟨by (with_reducible repeat (first|apply Kd.R_alloc|apply Kd.R_drewN|apply Kd.R_drew));exact Kd.R_mono HO258.out (fun _ hk=>⟨hk.1.2,hk.2⟩)⟩,⟨bkA BK247⟩,⟨blA⟩⟩
         case round=>
          clear H'
          try clear c3
          try clear c12
          try clear c12b0
          try clear c12b1
          try clear c15
          try clear c16
          try clear c16b0
          try clear c16b1
          try clear c20
          try clear c20b0
          try clear hcz17_0
          try clear hcz17_1
          try clear hcz17_2
          try clear hcz7_0
          try clear hcz7_1
          try clear hcz7_2
          try clear hfz17_0
          try clear hfz17_1
          try clear hfz17_2
          try clear hfz7_0
          try clear hfz7_1
          try clear hfz7_2
          obtain ⟨x11_4,x12_4,rfl,HA,HK4,HO_9,HO_11,BK247,HB⟩:=hrel
          cases gk with
          | zero=>exact absurd HA.out (by simp [spec_SphereAround.l1])
          | succ k4=>
           have H:=HA.out
           clear HA
           simp only [spec_SphereAround.l1] at H
           by_cases c23:x12_4<(x9_3.length:Int)
           ·
            rw [if_pos c23] at H
            have c23b0:=decide_eq_true c23
            clear c23
            by_cases c24:0≤x12_4
            rotate_left
            ·
             rw [if_neg c24] at H
             exact absurd H (by simp)
            rw [if_pos c24] at H
            have c24b0:=decide_eq_true c24
            clear c24
            replace H:=bS H
            obtain ⟨⟨t260,t263⟩,A25,H⟩:=H
            try dsimp only at H
            by_cases c26:t263=true
            ·
             subst c26
             rw [if_pos rfl] at H
             try dsimp only at H
             have H':=Aside0.mk H
             clear H
             obtain ⟨Ao27,co27,eo27⟩:=Kd.R_slice HO_9.out
             subst eo27
             have p259:0≤(x12_4:Int):=dA
             have q259:x12_4<(x9_3.length:Int):=dA
             obtain ⟨ad259,e259,hx259_0,hx259_1,hx259_2⟩:=at_T53 (Kd.R_reads' HO_9.out).2.2 x12_4 p259 q259
             cases e259
             replace p259:=eq_true p259
             replace q259:=eq_true q259
             go_wp2_with (first|((with_reducible refine gate_callee (f:=46) rfl ?_);refine gL (some 50) rfl Try.func46 #[.int .i64 a0,.agg #[.int .i64 ((rd_T53 x9_3 x12_4).f0),.int .i64 ((rd_T53 x9_3 x12_4).f1),.int .i64 ((rd_T53 x9_3 x12_4).f2)]] ?_;(with_reducible refine (spec_l02Near.calls k4 a0 ((rd_T53 x9_3 x12_4).f0) ((rd_T53 x9_3 x12_4).f1) ((rd_T53 x9_3 x12_4).f2) t260 true _ A25.out).mono ?_);rintro e w28 ⟨v261,rfl,ho0,hb⟩;refine ⟨_,rfl,?_⟩;have n0_:=Aside0.mk (Kd.R_elder' (rA HO_9) (Kd.R_base ho0) hb);have n1_:=Aside0.mk (Kd.R_elder' (rA HO_11) (Kd.R_base ho0) hb);have n2_:=Aside0.mk (Kd.R_lower (Kd.R_newB (Kd.R_new' (Kd.R_new' ho0 (Kd.R_lt (rA HO_9))) (Kd.R_lt (rA HO_11))) (bkA BK247)) (below_size blA));have n3_:=kB BK247 hb;have n4_:=lB hb;clear HO_9;clear HO_11;clear BK247;clear HB;have HO_9:=n0_;have HO_11:=n1_;have HO262:=n2_;have BK247:=n3_;have HB:=n4_;clear n0_ n1_ n2_ n3_ n4_;clear ho0 hb))
             go_loopg [11,15] k4 (fun kq v11 v15 w'=>∃ (x11_5:List (S53)) (x15_5:Int),v15=.int .i64 x15_5∧Aside0 (spec_SphereAround.l2 kq a0 a2 x9_3 x10_3 x11_5 x12_4 t260 x15_5 a1_0 a1_1 a1_2=some (r1,r2))∧Aside0 (kq≤k4)∧Aside0 (Kd.R k53 53 w' w.heap.size (fun k_=>some k_≠(v11:Value).ownBlock∧some k_≠(v261:Value).ownBlock∧k_≠gb247) (.slice (some ad259) x9_3.length co27) x9_3)∧Aside0 (Kd.R k53 53 w' w.heap.size (fun k_=>some k_≠((.slice (some ad259) x9_3.length co27):Value).ownBlock∧some k_≠(v261:Value).ownBlock∧k_≠gb247) v11 x11_5)∧Aside0 (Kd.R k53 53 w' w.heap.size (fun k_=>some k_≠((.slice (some ad259) x9_3.length co27):Value).ownBlock∧some k_≠(v11:Value).ownBlock∧k_≠gb247) v261 t260)∧Aside0 (w'.heap[gb247]?=some (.cells #[.int .i64 a1_0,.int .i64 a1_1,.int .i64 a1_2] 53 (0,0)))∧Aside0 (Below w.heap.size w w'))
             case atStart=>exact ⟨(x11_4),(0),hB,H',⟨Nat.le_refl _⟩,⟨by (with_reducible repeat (first|apply Kd.R_alloc|apply Kd.R_drewN|apply Kd.R_drew));exact Kd.R_mono HO_9.out (fun _ hk=>⟨hk.1.1,⟨hk.2,hk.1.2⟩⟩)⟩,⟨by (with_reducible repeat (first|apply Kd.R_alloc|apply Kd.R_drewN|apply Kd.R_drew));exact Kd.R_mono HO_11.out (fun _ hk=>⟨hk.1.1,⟨hk.2,hk.1.2⟩⟩)⟩,⟨by (with_reducible repeat (first|apply Kd.R_alloc|apply Kd.R_drewN|apply Kd.R_drew));exact Kd.R_mono HO262.out (fun _ hk=>⟨hk.1.1.2,⟨hk.1.2,hk.2⟩⟩)⟩,⟨bkA BK247⟩,⟨blA⟩⟩
             case round=>
              clear H'
              try clear c3
              try clear c12
              try clear c12b0
              try clear c12b1
              try clear c15
              try clear c16
              try clear c16b0
              try clear c16b1
              try clear c20
              try clear c20b0
              try clear c23
              try clear c23b0
              try clear c24
              try clear c24b0
              try clear c26
              try clear hcz17_0
              try clear hcz17_1
              try clear hcz17_2
              try clear hcz7_0
              try clear hcz7_1
              try clear hcz7_2
              try clear hfz17_0
              try clear hfz17_1
              try clear hfz17_2
              try clear hfz7_0
              try clear hfz7_1
              try clear hfz7_2
              try clear hx259_0
              try clear hx259_1
              try clear hx259_2
              try clear p259
              try clear q259
              obtain ⟨x11_5,x15_5,rfl,HA,HK5,HO_9,HO_11,HO_13,BK247,HB⟩:=hrel
              cases gk with
              | zero=>exact absurd HA.out (by simp [spec_SphereAround.l2])
              | succ k5=>
               have H:=HA.out
               clear HA
               simp only [spec_SphereAround.l2] at H
               by_cases c29:x15_5<(t260.length:Int)
               ·
                rw [if_pos c29] at H
                have c29b0:=decide_eq_true c29
                clear c29
                by_cases c30:0≤x15_5
                rotate_left
                ·
                 rw [if_neg c30] at H
                 exact absurd H (by simp)
                rw [if_pos c30] at H
                have c30b0:=decide_eq_true c30
                clear c30
                replace H:=bS H
                obtain ⟨t265,A31,H⟩:=H
                try dsimp only at H
                by_cases c32:t265=x10_3
                focus
                 rw [if_pos c32] at H
                 have c32b0:(t265 == x10_3)=true:=beq_iff_eq.mpr c32
                 have c32b1:(t265 != x10_3)=false:=bne_eq_false_iff_eq.mpr c32
                 clear c32
                 by_cases c33:x11_5.length<5864062014805
                 rotate_left
                 ·
                  rw [if_neg c33] at H
                  exact absurd H (by simp)
                 rw [if_pos c33] at H
                 have LMc33:=Aside0.mk c33
                 clear c33
                 obtain ⟨y267,hy267⟩:∃ y_:List (S53),y_=(x11_5 ++ [(⟨(rd_T53 t260 x15_5).f0,(rd_T53 t260 x15_5).f1,(rd_T53 t260 x15_5).f2⟩:S53)]):=⟨_,rfl⟩
                 replace H:(spec_SphereAround.l2 k5 a0 a2 x9_3 x10_3 y267 x12_4 t260 (wrap64 (x15_5+1)) a1_0 a1_1 a1_2)=some (r1,r2):=rH hy267 H
                 have Ny267:=Aside0.mk hy267
                 clear hy267
                 have H':=Aside0.mk H
                 clear H
                 obtain ⟨Ao34,co34,eo34⟩:=Kd.R_slice HO_13.out
                 subst eo34
                rotate_left
                focus
                 rw [if_neg c32] at H
                 have c32b0:(t265 == x10_3)=false:=beq_eq_false_iff_ne.mpr c32
                 have c32b1:(t265 != x10_3)=true:=bne_iff_ne.mpr c32
                 have H':=Aside0.mk H
                 clear H
                 obtain ⟨Ao38,co38,eo38⟩:=Kd.R_slice HO_13.out
                 subst eo38
                rotate_left
                all_goals
                 try go_wp2
                 have n0_:=Aside0.mk (Kd.R_drew HO_9.out)
                 have n1_:=Aside0.mk (Kd.R_drew HO_11.out)
                 have n2_:=Aside0.mk (Kd.R_drew HO_13.out)
                 have n3_:=Aside0.mk (blk_drew BK247.out)
                 have n4_:=Aside0.mk (below_drew1 HB.out)
                 clear HO_9
                 clear HO_11
                 clear HO_13
                 clear BK247
                 clear HB
                 have HO_9:=n0_
                 have HO_11:=n1_
                 have HO_13:=n2_
                 have BK247:=n3_
                 have HB:=n4_
                 clear n0_ n1_ n2_ n3_ n4_
                 have p264:0≤(x15_5:Int):=dA
                 have q264:x15_5<(t260.length:Int):=dA
                 obtain ⟨ad264,e264,hx264_0,hx264_1,hx264_2⟩:=at_T53 (Kd.R_reads' HO_13.out).2.2 x15_5 p264 q264
                 cases e264
                 replace p264:=eq_true p264
                 replace q264:=eq_true q264
                ·
                 refine start_ (n:=9) (S:=fun w'=>w'.cell? ⟨gb247,0,none⟩=some (.int .i64 a1_0)∧w'.cell? ⟨gb247,1,none⟩=some (.int .i64 a1_1)∧w'.cell? ⟨gb247,2,none⟩=some (.int .i64 a1_2)∧w'.cell? (ad264.add ((x15_5).toNat*3))=some (.int .i64 ((rd_T53 t260 x15_5).f0))∧w'.cell? ⟨(ad264.add ((x15_5).toNat*3)).block,(ad264.add ((x15_5).toNat*3)).off+1,none⟩=some (.int .i64 ((rd_T53 t260 x15_5).f1))∧w'.cell? ⟨(ad264.add ((x15_5).toNat*3)).block,(ad264.add ((x15_5).toNat*3)).off+2,none⟩=some (.int .i64 ((rd_T53 t260 x15_5).f2))) (ds:=[]) #[Z,Z,Z,Z,Z,Z,Z,Z,Z] (by kernel_rfl) rfl rfl ⟨cA BK247 0,cA BK247 1,cA BK247 2,hx264_0,hx264_1,hx264_2⟩ (fun hHeld=>?_);refine with_tabW spec_SphereAround.tab20 spec_SphereAround.bits20 (fun HT_ HW_=>?_)
                 generalize wr.drew=w35 at HO_9 HO_11 HO_13 BK247 HB hx264_0 hx264_1 hx264_2 hHeld ⊢
                 refine puA (i:=0) (N:=some 61) #[Y,Z,Z,Z,Z,Z,Z,Z,Z] rfl rfl HT_ ?_
                 refine puA (i:=2) (N:=some 63) #[Y,Z,Y,Z,Z,Z,Z,Z,Z] rfl rfl HT_ ?_
                 refine puA (i:=3) (N:=some 64) #[Y,Z,Y,Y,Z,Z,Z,Z,Z] rfl rfl HT_ ?_
                 refine puA (i:=4) (N:=some 65) #[Y,Z,Y,Y,Y,Z,Z,Z,Z] rfl rfl HT_ ?_
                 refine puA (i:=7) (N:=some 68) #[Y,Z,Y,Y,Y,Z,Z,Y,Z] rfl rfl HT_ ?_
                 refine taA (i:=1) (N:=some 62) #[Y,Y,Y,Y,Y,Z,Z,Y,Z] rfl rfl HT_ HW_ hHeld ?_
                 refine taA (i:=5) (N:=some 66) #[Y,Y,Y,Y,Y,Y,Z,Y,Z] rfl rfl HT_ HW_ hHeld ?_
                 refine one_ (i:=6) (N:=some 67) #[Y,Y,Y,Y,Y,Y,Y,Y,Z] rfl rfl (one_of HT_.out (by kernel_rfl)) (by decide) (fun K hK=>?_)
                 refine goes_ Try.func47 (by kernel_rfl) rfl #[.int .i64 a0,.agg #[.int .i64 a1_0,.int .i64 a1_1,.int .i64 a1_2],.agg #[.int .i64 ((rd_T53 t260 x15_5).f0),.int .i64 ((rd_T53 t260 x15_5).f1),.int .i64 ((rd_T53 t260 x15_5).f2)]] (by rfl) rfl rfl hA ?_
                 with_reducible refine (spec_l02Distance.calls k5 a0 a1_0 a1_1 a1_2 ((rd_T53 t260 x15_5).f0) ((rd_T53 t260 x15_5).f1) ((rd_T53 t260 x15_5).f2) t265 _ A31.out).mono ?_
                 rintro e w36 ⟨rfl,hb⟩
                 have HS3_:=(hb.cell (World.block_lt_of_cell? _ _ (hHeld.2.2.2.1))).trans (hHeld.2.2.2.1)
                 have HS4_:=(hb.cell (World.block_lt_of_cell? _ _ (hHeld.2.2.2.2.1))).trans (hHeld.2.2.2.2.1)
                 have HS5_:=(hb.cell (World.block_lt_of_cell? _ _ (hHeld.2.2.2.2.2))).trans (hHeld.2.2.2.2.2)
                 refine ⟨_,rfl,?_⟩
                 replace HO_9:=Aside0.mk (Kd.R_below (rA HO_9) hb)
                 replace HO_11:=Aside0.mk (Kd.R_below (rA HO_11) hb)
                 replace HO_13:=Aside0.mk (Kd.R_below (rA HO_13) hb)
                 replace BK247:=kB BK247 hb
                 replace HB:=lB hb
                 (try clear hb)
                 (try clear hb2)
                 (try clear hk)
                 (try clear hi)
                 refine hK.out _ _ ⟨cA BK247 0,cA BK247 1,cA BK247 2,HS3_,HS4_,HS5_⟩ (fun hHeld=>?_)
                 clear hK K
                 refine nmA ?_
                 refine puA (i:=8) (N:=some 69) #[Y,Y,Y,Y,Y,Y,Y,Y,Y] rfl rfl HT_ ?_
                 refine done_ (done_of HT_.out (by kernel_rfl)) ?_
                 have p266:0≤(x15_5:Int):=dA
                 have q266:x15_5<(t260.length:Int):=dA
                 obtain ⟨ad266,e266,hx266_0,hx266_1,hx266_2⟩:=at_T53 (Kd.R_reads' HO_13.out).2.2 x15_5 p266 q266
                 obtain rfl:ad264=ad266:=(by injection e266)
                 replace p266:=eq_true p266
                 replace q266:=eq_true q266
                 try go_wp2_with (first|((with_reducible refine gate_builtin (b:=.append) (xs:=#[.tmp 70,.tmp 75]) rfl ?_);at_builtin;refine Kd.R_append k53 (w0:=w) w.heap.size rfl (.tmp 70) (.tmp 75) 38 53 (.agg #[(.int .i64 0),(.int .i64 0),(.int .i64 0)]) 24 rfl Try.underlying38 info53 rfl (by decide) (by omega) u11 x11_5 (⟨(rd_T53 t260 x15_5).f0,(rd_T53 t260 x15_5).f1,(rd_T53 t260 x15_5).f2⟩:S53) [.int .i64 ((rd_T53 t260 x15_5).f0),.int .i64 ((rd_T53 t260 x15_5).f1),.int .i64 ((rd_T53 t260 x15_5).f2)] (fun k_=>some k_≠(.slice (some ad259) x9_3.length co27:Value).ownBlock∧some k_≠(.slice (some ad264) t260.length co34:Value).ownBlock∧k_≠gb247) (fun _=>False) rfl rfl ?aP (fun _ hk=>hk.elim) ?aF ?aO ?aB ?aS ?aL ?_;(case aP=>exact k53_mkM _ _ _ (⟨(rd_T53 t260 x15_5).f0,(rd_T53 t260 x15_5).f1,(rd_T53 t260 x15_5).f2⟩:S53));(case aB=>exact blA);(case aF=>exact (fun k_ hk=>⟨Kd.fresh' (Kd.R_lt (rA HO_9)) k_ hk,Kd.fresh' (Kd.R_lt (rA HO_13)) k_ hk,Kd.freshB (bkA BK247) k_ hk⟩));(case aO=>exact (rA HO_11));(case aS=>exact (below_size blA));(case aL=>have:=LMc33.out;omega);intro v268 w37 ho hb hg hat;rw [← Ny267.out] at ho;have n0_:=Aside0.mk (Kd.R_after (ok:=(fun k_=>some k_≠(.slice (some ad264) t260.length co34:Value).ownBlock∧k_≠gb247)) (by (with_reducible repeat (first|apply Kd.R_alloc|apply Kd.R_drewN|apply Kd.R_drew));exact Kd.R_mono HO_9.out (fun _ hk=>⟨⟨hk.2.1,hk.2.2⟩,hk.1⟩)) hg hat);have n1_:=Aside0.mk (Kd.R_after (ok:=(fun k_=>some k_≠(.slice (some ad259) x9_3.length co27:Value).ownBlock∧k_≠gb247)) (by (with_reducible repeat (first|apply Kd.R_alloc|apply Kd.R_drewN|apply Kd.R_drew));exact Kd.R_mono HO_13.out (fun _ hk=>⟨⟨hk.1,hk.2.2⟩,hk.2.1⟩)) hg hat);have n2_:=Aside0.mk (blk_grown (bkA BK247) hg (Kd.R_away HO_11.out (fun _ hk=>hk.2.2)));have n3_:=Aside0.mk hb;have n4_:=Aside0.mk ho;clear HO_9;clear HO_13;clear BK247;clear HB;clear HO_11;have HO_9:=n0_;have HO_13:=n1_;have BK247:=n2_;have HB:=n3_;have HO269:=n4_;clear n0_ n1_ n2_ n3_ n4_;clear ho hb hg hat))
                 go_roundg k5
                 case measure=>have:=HJ4.out;have:=HJ13.out;have:=HK3.out;have:=HK4.out;have:=HK5.out;omega
                 case rel=>exact ⟨(y267),(wrap64 (x15_5+1)),hB,H',⟨by have:=HJ4.out;have:=HJ13.out;have:=HK3.out;have:=HK4.out;have:=HK5.out;omega⟩,⟨by (with_reducible repeat (first|apply Kd.R_alloc|apply Kd.R_drewN|apply Kd.R_drew));exact Kd.R_mono HO_9.out (fun _ hk=>⟨hk.2,⟨hk.1.1,hk.1.2⟩⟩)⟩,⟨rA HO269⟩,⟨by (with_reducible repeat (first|apply Kd.R_alloc|apply Kd.R_drewN|apply Kd.R_drew));exact Kd.R_mono HO_13.out (fun _ hk=>⟨hk.1.1,⟨hk.2,hk.1.2⟩⟩)⟩,⟨bkA BK247⟩,⟨blA⟩⟩
                ·
                 refine start_ (n:=9) (S:=fun w'=>w'.cell? ⟨gb247,0,none⟩=some (.int .i64 a1_0)∧w'.cell? ⟨gb247,1,none⟩=some (.int .i64 a1_1)∧w'.cell? ⟨gb247,2,none⟩=some (.int .i64 a1_2)∧w'.cell? (ad264.add ((x15_5).toNat*3))=some (.int .i64 ((rd_T53 t260 x15_5).f0))∧w'.cell? ⟨(ad264.add ((x15_5).toNat*3)).block,(ad264.add ((x15_5).toNat*3)).off+1,none⟩=some (.int .i64 ((rd_T53 t260 x15_5).f1))∧w'.cell? ⟨(ad264.add ((x15_5).toNat*3)).block,(ad264.add ((x15_5).toNat*3)).off+2,none⟩=some (.int .i64 ((rd_T53 t260 x15_5).f2))) (ds:=[]) #[Z,Z,Z,Z,Z,Z,Z,Z,Z] (by kernel_rfl) rfl rfl ⟨cA BK247 0,cA BK247 1,cA BK247 2,hx264_0,hx264_1,hx264_2⟩ (fun hHeld=>?_);refine with_tabW spec_SphereAround.tab20 spec_SphereAround.bits20 (fun HT_ HW_=>?_)
                 generalize wr.drew=w39 at HO_9 HO_11 HO_13 BK247 HB hx264_0 hx264_1 hx264_2 hHeld ⊢
                 refine puA (i:=0) (N:=some 61) #[Y,Z,Z,Z,Z,Z,Z,Z,Z] rfl rfl HT_ ?_
                 refine puA (i:=2) (N:=some 63) #[Y,Z,Y,Z,Z,Z,Z,Z,Z] rfl rfl HT_ ?_
                 refine puA (i:=3) (N:=some 64) #[Y,Z,Y,Y,Z,Z,Z,Z,Z] rfl rfl HT_ ?_
                 refine puA (i:=4) (N:=some 65) #[Y,Z,Y,Y,Y,Z,Z,Z,Z] rfl rfl HT_ ?_
                 refine puA (i:=7) (N:=some 68) #[Y,Z,Y,Y,Y,Z,Z,Y,Z] rfl rfl HT_ ?_
                 refine taA (i:=1) (N:=some 62) #[Y,Y,Y,Y,Y,Z,Z,Y,Z] rfl rfl HT_ HW_ hHeld ?_
                 refine taA (i:=5) (N:=some 66) #[Y,Y,Y,Y,Y,Y,Z,Y,Z] rfl rfl HT_ HW_ hHeld ?_
                 refine one_ (i:=6) (N:=some 67) #[Y,Y,Y,Y,Y,Y,Y,Y,Z] rfl rfl (one_of HT_.out (by kernel_rfl)) (by decide) (fun K hK=>?_)
                 refine goes_ Try.func47 (by kernel_rfl) rfl #[.int .i64 a0,.agg #[.int .i64 a1_0,.int .i64 a1_1,.int .i64 a1_2],.agg #[.int .i64 ((rd_T53 t260 x15_5).f0),.int .i64 ((rd_T53 t260 x15_5).f1),.int .i64 ((rd_T53 t260 x15_5).f2)]] (by rfl) rfl rfl hA ?_
                 with_reducible refine (spec_l02Distance.calls k5 a0 a1_0 a1_1 a1_2 ((rd_T53 t260 x15_5).f0) ((rd_T53 t260 x15_5).f1) ((rd_T53 t260 x15_5).f2) t265 _ A31.out).mono ?_
                 rintro e w40 ⟨rfl,hb⟩
                 have HS3_:=(hb.cell (World.block_lt_of_cell? _ _ (hHeld.2.2.2.1))).trans (hHeld.2.2.2.1)
                 have HS4_:=(hb.cell (World.block_lt_of_cell? _ _ (hHeld.2.2.2.2.1))).trans (hHeld.2.2.2.2.1)
                 have HS5_:=(hb.cell (World.block_lt_of_cell? _ _ (hHeld.2.2.2.2.2))).trans (hHeld.2.2.2.2.2)
                 refine ⟨_,rfl,?_⟩
                 replace HO_9:=Aside0.mk (Kd.R_below (rA HO_9) hb)
                 replace HO_11:=Aside0.mk (Kd.R_below (rA HO_11) hb)
                 replace HO_13:=Aside0.mk (Kd.R_below (rA HO_13) hb)
                 replace BK247:=kB BK247 hb
                 replace HB:=lB hb
                 (try clear hb)
                 (try clear hb2)
                 (try clear hk)
                 (try clear hi)
                 refine hK.out _ _ ⟨cA BK247 0,cA BK247 1,cA BK247 2,HS3_,HS4_,HS5_⟩ (fun hHeld=>?_)
                 clear hK K
                 refine nmA ?_
                 refine puA (i:=8) (N:=some 69) #[Y,Y,Y,Y,Y,Y,Y,Y,Y] rfl rfl HT_ ?_
                 refine done_ (done_of HT_.out (by kernel_rfl)) ?_
                 try go_wp2
                 go_roundg k5
                 case measure=>have:=HJ4.out;have:=HJ13.out;have:=HK3.out;have:=HK4.out;have:=HK5.out;omega
                 case rel=>exact ⟨(x11_5),(wrap64 (x15_5+1)),hB,H',⟨by have:=HJ4.out;have:=HJ13.out;have:=HK3.out;have:=HK4.out;have:=HK5.out;omega⟩,⟨rA HO_9⟩,⟨rA HO_11⟩,⟨rA HO_13⟩,⟨bkA BK247⟩,⟨blA⟩⟩
               ·
                rw [if_neg c29] at H
                have c29b0:=decide_eq_false c29
                clear c29
                have H':=Aside0.mk H
                clear H
                obtain ⟨Ao41,co41,eo41⟩:=Kd.R_slice HO_13.out
                subst eo41
                go_wp2
                go_roundg k5
                case measure=>have:=HJ4.out;have:=HJ13.out;have:=HK3.out;have:=HK4.out;have:=HK5.out;omega
                case rel=>exact ⟨(x11_5),(wrap64 (x12_4+1)),hB,H',⟨by have:=HJ4.out;have:=HJ13.out;have:=HK3.out;have:=HK4.out;have:=HK5.out;omega⟩,⟨by (with_reducible repeat (first|apply Kd.R_alloc|apply Kd.R_drewN|apply Kd.R_drew));exact Kd.R_mono HO_9.out (fun _ hk=>⟨hk.1,hk.2.2⟩)⟩,⟨by (with_reducible repeat (first|apply Kd.R_alloc|apply Kd.R_drewN|apply Kd.R_drew));exact Kd.R_mono HO_11.out (fun _ hk=>⟨hk.1,hk.2.2⟩)⟩,⟨bkA BK247⟩,⟨blA⟩⟩
            ·
             replace c26:=Bool.eq_false_iff.mpr c26
             subst c26
             rw [if_neg (show ¬ (false=true) by decide)] at H
             try dsimp only at H
             simp only [Option.some.injEq,Prod.mk.injEq] at H
             obtain ⟨rfl,rfl⟩:=H
             obtain ⟨Ao42,co42,eo42⟩:=Kd.R_slice HO_9.out
             subst eo42
             have p259:0≤(x12_4:Int):=dA
             have q259:x12_4<(x9_3.length:Int):=dA
             obtain ⟨ad259,e259,hx259_0,hx259_1,hx259_2⟩:=at_T53 (Kd.R_reads' HO_9.out).2.2 x12_4 p259 q259
             cases e259
             replace p259:=eq_true p259
             replace q259:=eq_true q259
             go_wp2_with (first|((with_reducible refine gate_callee (f:=46) rfl ?_);refine gL (some 50) rfl Try.func46 #[.int .i64 a0,.agg #[.int .i64 ((rd_T53 x9_3 x12_4).f0),.int .i64 ((rd_T53 x9_3 x12_4).f1),.int .i64 ((rd_T53 x9_3 x12_4).f2)]] ?_;(with_reducible refine (spec_l02Near.calls k4 a0 ((rd_T53 x9_3 x12_4).f0) ((rd_T53 x9_3 x12_4).f1) ((rd_T53 x9_3 x12_4).f2) t260 false _ A25.out).mono ?_);rintro e w43 ⟨v261,rfl,ho0,hb⟩;refine ⟨_,rfl,?_⟩;have n0_:=Aside0.mk (Kd.R_elder' (rA HO_9) (Kd.R_base ho0) hb);have n1_:=Aside0.mk (Kd.R_elder' (rA HO_11) (Kd.R_base ho0) hb);have n2_:=Aside0.mk (Kd.R_lower (Kd.R_newB (Kd.R_new' (Kd.R_new' ho0 (Kd.R_lt (rA HO_9))) (Kd.R_lt (rA HO_11))) (bkA BK247)) (below_size blA));have n3_:=kB BK247 hb;have n4_:=lB hb;clear HO_9;clear HO_11;clear BK247;clear HB;have HO_9:=n0_;have HO_11:=n1_;have HO262:=n2_;have BK247:=n3_;have HB:=n4_;clear n0_ n1_ n2_ n3_ n4_;clear ho0 hb))
             go_ret2
             exact ⟨_,eW,nlA,blA⟩
           ·
            rw [if_neg c23] at H
            have c23b0:=decide_eq_false c23
            clear c23
            have H':=Aside0.mk H
            clear H
            obtain ⟨Ao44,co44,eo44⟩:=Kd.R_slice HO_9.out
            subst eo44
            go_wp2
            go_roundg k4
            case measure=>have:=HJ4.out;have:=HJ13.out;have:=HK3.out;have:=HK4.out;omega
            case rel=>exact ⟨(x11_4),(wrap64 (x10_3+1)),hB,H',⟨by have:=HJ4.out;have:=HJ13.out;have:=HK3.out;have:=HK4.out;omega⟩,⟨by (with_reducible repeat (first|apply Kd.R_alloc|apply Kd.R_drewN|apply Kd.R_drew));exact Kd.R_mono HO_11.out (fun _ hk=>hk.2)⟩,⟨bkA BK247⟩,⟨blA⟩⟩
        ·
         rw [if_neg c20] at H
         have c20b0:=decide_eq_false c20
         clear c20
         simp only [Option.some.injEq,Prod.mk.injEq] at H
         obtain ⟨rfl,rfl⟩:=H
         go_wp2
         go_ret2
         exact ⟨_,eW,by (with_reducible repeat (first|apply Kd.R_alloc|apply Kd.R_drewN|apply Kd.R_drew));exact Kd.R_mono HO_9.out (fun _ hk=>trivial),blA⟩
     ·
      rw [if_neg c16] at H
      have c16b0:(x8_13 == 0)=false:=beq_eq_false_iff_ne.mpr c16
      have c16b1:(x8_13 != 0)=true:=bne_iff_ne.mpr c16
      simp only [Option.some.injEq,Prod.mk.injEq] at H
      obtain ⟨rfl,rfl⟩:=H
      go_wp2
      go_ret2
      exact ⟨_,eW,nlA,blA⟩
end Go.Proofs.Ytnhiehpbkimaeaa.PAll
