-- turned out of the kit's print
import Derived.Test.YtnhiehpbkimaeaaQx
import Derived.Test.YtnhiehpbkimaeaaQimplBall36
import Derived.Test.YtnhiehpbkimaeaaQspecl01Code
namespace Go.Proofs.Ytnhiehpbkimaeaa.PAll
open Go.RowKit Go.Proofs.YtnhiehpbkimaeaaW.PrintWords Go.Proofs.YtnhiehpbkimaeaaW.PrintLast Go.Proofs.YtnhiehpbkimaeaaW.PrintMore
attribute [local go_sem] Go.Proofs.Ytnhiehpbkimaeaa.Aux.setCell_drewN Go.Proofs.Ytnhiehpbkimaeaa.Aux.isSome_setCell max2_int min2_int max_two min_two max_three min_three max_four min_four
set_option linter.unusedVariables false
set_option linter.unusedSimpArgs false
mutual
def spec_l06Leaders.l0:Nat→Int→List (S42)→List (S53)→List Int→Int→Option (List Int)
 | 0,_,_,_,_,_=>none
 | k+1,x0,x1,x2,x7,x8=>if x8<(x2.length:Int) then (if x7.length<17592186044416 then (spec_l06Leaders.l0 k x0 x1 x2 (x7 ++ [x8]) (wrap64 (x8+1))) else (none)) else (spec_l06Leaders.l1 k x0 x1 x2 x7 0)
def spec_l06Leaders.l1:Nat→Int→List (S42)→List (S53)→List Int→Int→Option (List Int)
 | 0,_,_,_,_,_=>none
 | k+1,x0,x1,x2,x7,x9=>if x9<(x2.length:Int) then (spec_l06Leaders.l2 k x0 x1 x2 x7 x9 0) else (some x7)
def spec_l06Leaders.l2:Nat→Int→List (S42)→List (S53)→List Int→Int→Int→Option (List Int)
 | 0,_,_,_,_,_,_=>none
 | k+1,x0,x1,x2,x7,x9,x10=>if x10<(x1.length:Int) then (if 0≤x10 then (if 0≤x9 then (if x9<(x2.length:Int) then ((spec_l04Move.f k x0 ((rd_T42 x1 x10).f0.f0) ((rd_T42 x1 x10).f0.f1) ((rd_T42 x1 x10).f1.f0) ((rd_T42 x1 x10).f1.f1) ((rd_T53 x2 x9).f0) ((rd_T53 x2 x9).f1) ((rd_T53 x2 x9).f2)).bind fun bt160=>((spec_l06Find.f k x2 bt160.1 bt160.2.1 bt160.2.2.1).bind fun t165=>(if bt160.2.2.2=true then (if t165<0 then (spec_l06Leaders.j3 k x0 x1 x2 x7 x9 x10 t165 true) else (if 0≤t165 then (if t165<(x7.length:Int) then (if x9<(x7.length:Int) then (spec_l06Leaders.j3 k x0 x1 x2 x7 x9 x10 t165 ((rd x7 t165) == (rd x7 x9))) else (none)) else (none)) else (none))) else (spec_l06Leaders.j3 k x0 x1 x2 x7 x9 x10 t165 true)))) else (none)) else (none)) else (none)) else (spec_l06Leaders.l1 k x0 x1 x2 x7 (wrap64 (x9+1)))
def spec_l06Leaders.j3:Nat→Int→List (S42)→List (S53)→List Int→Int→Int→Int→Bool→Option (List Int)
 | 0,_,_,_,_,_,_,_,_=>none
 | k+1,x0,x1,x2,x7,x9,x10,x13,x72=>if x72=true then (spec_l06Leaders.l2 k x0 x1 x2 x7 x9 (wrap64 (x10+1))) else (if 0≤x13 then (if x13<(x7.length:Int) then (if 0≤x9 then (if x9<(x7.length:Int) then (spec_l06Leaders.l3 k x0 x1 x2 x7 x9 x10 (mn (rd x7 x13) (rd x7 x9)) (mx (rd x7 x13) (rd x7 x9)) 0) else (none)) else (none)) else (none)) else (none))
def spec_l06Leaders.l3:Nat→Int→List (S42)→List (S53)→List Int→Int→Int→Int→Int→Int→Option (List Int)
 | 0,_,_,_,_,_,_,_,_,_=>none
 | k+1,x0,x1,x2,x7,x9,x10,x14,x15,x16=>if x16<(x7.length:Int) then (if 0≤x16 then (if (rd x7 x16)=x15 then (spec_l06Leaders.l3 k x0 x1 x2 (x7.set (x16:Int).toNat x14) x9 x10 x14 x15 (wrap64 (x16+1))) else (spec_l06Leaders.l3 k x0 x1 x2 x7 x9 x10 x14 x15 (wrap64 (x16+1)))) else (none)) else (spec_l06Leaders.l2 k x0 x1 x2 x7 x9 (wrap64 (x10+1)))
end
def spec_l06Leaders.f (k:Nat) (a0:Int) (l1:List (S42)) (l2:List (S53)):Option (List Int):=spec_l06Leaders.l0 k a0 l1 l2 (([]:List Int)) 0
theorem spec_l06Leaders.mono_l:∀ k,(∀ y0 y1 y2 y3 y4,LeO (spec_l06Leaders.l0 k y0 y1 y2 y3 y4) (spec_l06Leaders.l0 (k+1) y0 y1 y2 y3 y4))∧(∀ y0 y1 y2 y3 y4,LeO (spec_l06Leaders.l1 k y0 y1 y2 y3 y4) (spec_l06Leaders.l1 (k+1) y0 y1 y2 y3 y4))∧(∀ y0 y1 y2 y3 y4 y5,LeO (spec_l06Leaders.l2 k y0 y1 y2 y3 y4 y5) (spec_l06Leaders.l2 (k+1) y0 y1 y2 y3 y4 y5))∧(∀ y0 y1 y2 y3 y4 y5 y6 y7,LeO (spec_l06Leaders.j3 k y0 y1 y2 y3 y4 y5 y6 y7) (spec_l06Leaders.j3 (k+1) y0 y1 y2 y3 y4 y5 y6 y7))∧(∀ y0 y1 y2 y3 y4 y5 y6 y7 y8,LeO (spec_l06Leaders.l3 k y0 y1 y2 y3 y4 y5 y6 y7 y8) (spec_l06Leaders.l3 (k+1) y0 y1 y2 y3 y4 y5 y6 y7 y8))
 | 0=>by refine ⟨?_,?_,?_,?_,?_⟩ <;> (intros;intro r h;simp [spec_l06Leaders.l0,spec_l06Leaders.l1,spec_l06Leaders.l2,spec_l06Leaders.j3,spec_l06Leaders.l3] at h)
 | k+1=>by
  obtain ⟨ih0,ih1,ih2,ih3,ih4⟩:=spec_l06Leaders.mono_l k
  refine ⟨?_,?_,?_,?_,?_⟩ <;> (intros;first|unfold spec_l06Leaders.l0|unfold spec_l06Leaders.l1|unfold spec_l06Leaders.l2|unfold spec_l06Leaders.j3|unfold spec_l06Leaders.l3)
  all_goals repeat' first
  | with_reducible first|exact ih0 ..|exact ih1 ..|exact ih2 ..|exact ih3 ..|exact ih4 ..|exact spec_l04Move.mono ..|exact spec_l06Find.mono ..|exact LeO.refl _|exact LeO.none _|refine LeO.ite ?_ ?_|refine LeO.bind ?_ fun _=>?_
theorem spec_l06Leaders.mono:∀ a0 a1 a2 k,LeO (spec_l06Leaders.f k a0 a1 a2) (spec_l06Leaders.f (k+1) a0 a1 a2):=by
 intro a0 a1 a2 k
 obtain ⟨ih0,ih1,ih2,ih3,ih4⟩:=spec_l06Leaders.mono_l k
 unfold spec_l06Leaders.f
 repeat' first
   | with_reducible first|exact ih0 ..|exact ih1 ..|exact ih2 ..|exact ih3 ..|exact ih4 ..|exact spec_l04Move.mono ..|exact spec_l06Find.mono ..|exact LeO.refl _|exact LeO.none _|refine LeO.ite ?_ ?_|refine LeO.bind ?_ fun _=>?_
def spec_l06Leaders.T12:Bool × List (List Nat × List Nat):=(true,[([],[]),([],[]),([],[]),([1,2],[1,2]),([3],[3]),([],[]),([],[]),([5,6],[5,6]),([7],[7]),([0,4,8],[0,4,8]),([9],[9]),([10],[10]),([10],[10]),([],[]),([13,11,9,0,1,2,3,4,5,6,7,8,9,10,11,13],[11,13]),([12,14,0,1,2,3,4,5,6,7,8,9,10,11,12,13,14],[12])])
def spec_l06Leaders.B12:List Nat:=[0,0,0,6,14,0,0,96,224,511,1023,2047,2047,0,12287,32767]
theorem spec_l06Leaders.tab12:rtab .any (opsOf Try.f15 12)=spec_l06Leaders.T12:=by kernel_rfl
theorem spec_l06Leaders.bits12:waitsOk spec_l06Leaders.T12.2 spec_l06Leaders.B12=true:=by kernel_rfl
def spec_l06Leaders.T14:Bool × List (List Nat × List Nat):=(true,[([],[]),([0],[0]),([1],[1]),([2],[2]),([3,2],[2,3]),([2,4],[2,4]),([5,2],[5]),([6],[6]),([6],[6]),([7,8,6],[6,7,8]),([9,6],[6,9]),([6],[6]),([6],[6]),([11,12,6],[6,11,12]),([13,6],[6,13]),([10,14,6],[6,10,14]),([6,15],[6,15])])
def spec_l06Leaders.B14:List Nat:=[0,1,3,7,15,31,63,127,127,511,1023,127,127,6271,14463,32767,65535]
theorem spec_l06Leaders.tab14:rtab .any (opsOf Try.f15 14)=spec_l06Leaders.T14:=by kernel_rfl
theorem spec_l06Leaders.bits14:waitsOk spec_l06Leaders.T14.2 spec_l06Leaders.B14=true:=by kernel_rfl
def spec_l06Leaders.T15:Bool × List (List Nat × List Nat):=(true,[([],[]),([],[]),([0,1],[0,1]),([2],[2]),([],[]),([],[]),([4,5],[4,5]),([6],[6]),([3,7],[3,7]),([],[]),([],[]),([9,10],[9,10]),([11],[11]),([],[]),([],[]),([13,14],[13,14]),([15],[15]),([12,16],[12,16]),([8,0,1,2,3,4,5,6,7,8],[8]),([17,18,0,1,2,3,4,5,6,7,8,9,10,11,12,13,14,15,16,17,18],[17])])
def spec_l06Leaders.B15:List Nat:=[0,0,3,7,0,0,48,112,255,0,0,1536,3584,0,0,24576,57344,130560,511,524287]
theorem spec_l06Leaders.tab15:rtab .any (opsOf Try.f15 15)=spec_l06Leaders.T15:=by kernel_rfl
theorem spec_l06Leaders.bits15:waitsOk spec_l06Leaders.T15.2 spec_l06Leaders.B15=true:=by kernel_rfl
set_option maxHeartbeats 8000000 in
set_option maxRecDepth 100000 in
theorem spec_l06Leaders.calls (k:Nat) (a0:Int) (A1:Option Addr) (c1:Nat) (l1:List (S42)) (A2:Option Addr) (c2:Nat) (l2:List (S53)) (r:List Int) (w:World) (hr1:Kd.C k42 w A1 l1.length l1) (hc1:l1.length≤c1) (hr2:Kd.C k53 w A2 l2.length l2) (hc2:l2.length≤c2) (h:spec_l06Leaders.f k a0 l1 l2=some r) :
  Calls Try.prog 15 #[.int .i64 a0,.slice A1 l1.length c1,.slice A2 l2.length c2] w fun e w'=>∃ v0_:Value,e=.returned (v0_)∧Kd.R (Kd.int .i64) 2 w' w.heap.size (fun _=>True) v0_ r∧Below w.heap.size w w':=by
 have hu42:=Try.underlying42
 have hu53:=Try.underlying53
 have HR1:=Aside0.mk hr1
 have HC1:=Aside0.mk hc1
 clear hr1 hc1
 have HR2:=Aside0.mk hr2
 have HC2:=Aside0.mk hc2
 clear hr2 hc2
 have HB:=Aside0.mk (Below.refl w.heap.size w)
 have H:=h
 unfold spec_l06Leaders.f at H
 clear h
 obtain ⟨y152,hy152⟩:∃ y_:List Int,y_=(([]:List Int)):=⟨_,rfl⟩
 replace H:(spec_l06Leaders.l0 k a0 l1 l2 y152 0)=some r:=rH hy152 H
 have Ny152:=Aside0.mk hy152
 clear hy152
 have H':=Aside0.mk H
 clear H
 go_enter Try.func15,Try.ntmps15
 go_wp2_with (first|((with_reducible refine gate_dst (N:=17) rfl ?_);refine Kd.R_lit (Kd.int .i64) _ 2 ?hg (N:=17) ?hd (xs:=([]:List Int)) (inner:=[]) (ok:=fun _=>True) (okp:=fun _=>True) ?hr ?hp (fun _ hk=>hk) trivial (Below.refl _ _) (Nat.le_refl _) (by simp) ?_;(case hd=>rfl);(case hg=>rfl);(case hr=>first|(go_simp;done)|(go_simp;rfl));(case hp=>exact (Reps.none _ _));intro v153 w4 ho5 hb hg_ hnew_;clear hg_ hnew_;(first|rw [← Ny152.out] at ho5|(simp only [Int.reduceToNat] at ho5;rw [← Ny152.out] at ho5));have n0_:=Aside0.mk (Kd.R_lower ho5 (below_size blA));have n1_:=lB hb;clear HB;have HO154:=n0_;have HB:=n1_;clear n0_ n1_;clear hb ho5))
 go_loopg [7,8] k (fun kq v7 v8 w'=>∃ (x7_1:List Int) (x8_1:Int),v8=.int .i64 x8_1∧Aside0 (spec_l06Leaders.l0 kq a0 l1 l2 x7_1 x8_1=some r)∧Aside0 (kq≤k)∧Aside0 (Kd.R (Kd.int .i64) 2 w' w.heap.size (fun _=>True) v7 x7_1)∧Aside0 (Below w.heap.size w w'))
 case atStart=>exact ⟨(y152),(0),hB,H',⟨Nat.le_refl _⟩,⟨rA HO154⟩,⟨blA⟩⟩
 case round=>
  clear H'
  try clear c1
  try clear c2
  obtain ⟨x7_1,x8_1,rfl,HA,HK1,HO_7,HB⟩:=hrel
  cases gk with
  | zero=>exact absurd HA.out (by simp [spec_l06Leaders.l0])
  | succ k1=>
   have H:=HA.out
   clear HA
   simp only [spec_l06Leaders.l0] at H
   by_cases c6:x8_1<(l2.length:Int)
   ·
    rw [if_pos c6] at H
    have c6b0:=decide_eq_true c6
    clear c6
    by_cases c7:x7_1.length<17592186044416
    rotate_left
    ·
     rw [if_neg c7] at H
     exact absurd H (by simp)
    rw [if_pos c7] at H
    have LMc7:=Aside0.mk c7
    clear c7
    obtain ⟨y155,hy155⟩:∃ y_:List Int,y_=(x7_1 ++ [x8_1]):=⟨_,rfl⟩
    replace H:(spec_l06Leaders.l0 k1 a0 l1 l2 y155 (wrap64 (x8_1+1)))=some r:=rH hy155 H
    have Ny155:=Aside0.mk hy155
    clear hy155
    have H':=Aside0.mk H
    clear H
    go_wp2_with (first|((with_reducible refine gate_builtin (b:=.append) (xs:=#[.tmp 24,.tmp 26]) rfl ?_);at_builtin;refine Kd.R_append (Kd.int .i64) (w0:=w) w.heap.size rfl (.tmp 24) (.tmp 26) 36 2 (.int .i64 0) 8 rfl Try.underlying36 info2 rfl (by decide) (by omega) u7 x7_1 x8_1 [.int .i64 x8_1] (fun _=>True) (fun _=>False) rfl rfl ?aP (fun _ hk=>hk.elim) ?aF ?aO ?aB ?aS ?aL ?_;(case aP=>exact rfl);(case aB=>exact blA);(case aF=>exact (fun _ _=>trivial));(case aO=>exact (rA HO_7));(case aS=>exact (below_size blA));(case aL=>have:=LMc7.out;omega);intro v156 w8 ho hb hg hat;rw [← Ny155.out] at ho;have n0_:=Aside0.mk hb;have n1_:=Aside0.mk ho;clear HB;clear HO_7;have HB:=n0_;have HO157:=n1_;clear n0_ n1_;clear ho hb hg hat))
    go_roundg k1
    case measure=>have:=HK1.out;omega
    case rel=>exact ⟨(y155),(wrap64 (x8_1+1)),hB,H',⟨by have:=HK1.out;omega⟩,⟨rA HO157⟩,⟨blA⟩⟩
   ·
    rw [if_neg c6] at H
    have c6b0:=decide_eq_false c6
    clear c6
    have H':=Aside0.mk H
    clear H
    go_wp2
    go_loopg [9] k1 (fun kq v9 w'=>∃ (x7_2:List Int) (x9_2:Int),v9=.int .i64 x9_2∧Aside0 (spec_l06Leaders.l1 kq a0 l1 l2 x7_2 x9_2=some r)∧Aside0 (kq≤k1)∧Aside0 (Kd.R (Kd.int .i64) 2 w' w.heap.size (fun _=>True) u7 x7_2)∧Aside0 (Below w.heap.size w w'))
    case atStart=>exact ⟨(x7_1),(0),hB,H',⟨Nat.le_refl _⟩,⟨rA HO_7⟩,⟨blA⟩⟩
    case round=>
     clear H'
     try clear c1
     try clear c2
     try clear c6
     try clear c6b0
     try clear c7
     obtain ⟨x7_2,x9_2,rfl,HA,HK2,HO_7,HB⟩:=hrel
     cases gk with
     | zero=>exact absurd HA.out (by simp [spec_l06Leaders.l1])
     | succ k2=>
      have H:=HA.out
      clear HA
      simp only [spec_l06Leaders.l1] at H
      by_cases c9:x9_2<(l2.length:Int)
      ·
       rw [if_pos c9] at H
       have c9b0:=decide_eq_true c9
       clear c9
       have H':=Aside0.mk H
       clear H
       go_wp2
       go_loopg [10] k2 (fun kq v10 w'=>∃ (x7_3:List Int) (x10_3:Int),v10=.int .i64 x10_3∧Aside0 (spec_l06Leaders.l2 kq a0 l1 l2 x7_3 x9_2 x10_3=some r)∧Aside0 (kq≤k2)∧Aside0 (Kd.R (Kd.int .i64) 2 w' w.heap.size (fun _=>True) u7 x7_3)∧Aside0 (Below w.heap.size w w'))
       case atStart=>exact ⟨(x7_2),(0),hB,H',⟨Nat.le_refl _⟩,⟨rA HO_7⟩,⟨blA⟩⟩
       case round=>
        clear H'
        try clear c1
        try clear c2
        try clear c6
        try clear c6b0
        try clear c7
        try clear c9
        try clear c9b0
        obtain ⟨x7_3,x10_3,rfl,HA,HK3,HO_7,HB⟩:=hrel
        cases gk with
        | zero=>exact absurd HA.out (by simp [spec_l06Leaders.l2])
        | succ k3=>
         have H:=HA.out
         clear HA
         simp only [spec_l06Leaders.l2] at H
         by_cases c10:x10_3<(l1.length:Int)
         ·
          rw [if_pos c10] at H
          have c10b0:=decide_eq_true c10
          clear c10
          by_cases c11:0≤x10_3
          rotate_left
          ·
           rw [if_neg c11] at H
           exact absurd H (by simp)
          rw [if_pos c11] at H
          have c11b0:=decide_eq_true c11
          clear c11
          by_cases c12:0≤x9_2
          rotate_left
          ·
           rw [if_neg c12] at H
           exact absurd H (by simp)
          rw [if_pos c12] at H
          have c12b0:=decide_eq_true c12
          clear c12
          by_cases c13:x9_2<(l2.length:Int)
          rotate_left
          ·
           rw [if_neg c13] at H
           exact absurd H (by simp)
          rw [if_pos c13] at H
          have c13b0:=decide_eq_true c13
          clear c13
          replace H:=bS H
          obtain ⟨⟨t160,t161,t162,t163⟩,A14,H⟩:=H
          try dsimp only at H
          replace H:=bS H
          obtain ⟨t165,A15,H⟩:=H
          try dsimp only at H
          have HC16:=Aside0.mk H
          clear H
          try go_wp2
          have n0_:=Aside0.mk (Kd.R_drew HO_7.out)
          have n1_:=Aside0.mk (below_drew1 HB.out)
          clear HO_7
          clear HB
          have HO_7:=n0_
          have HB:=n1_
          clear n0_ n1_
          have p158:0≤(x10_3:Int):=dA
          have q158:x10_3<(l1.length:Int):=dA
          obtain ⟨ad158,e158,hx158_0,hx158_1,hx158_2,hx158_3⟩:=at_T42 HR1.out x10_3 p158 q158
          have hw158_3:=hx158_3
          have hw158_2:=hx158_2
          have hw158_1:=hx158_1
          have hw158_0:=hx158_0
          cases e158
          replace hx158_0:=(HB.out.cell (World.block_lt_of_cell? w _ hx158_0)).trans hx158_0
          replace hx158_1:=(HB.out.cell (World.block_lt_of_cell? w _ hx158_1)).trans hx158_1
          replace hx158_2:=(HB.out.cell (World.block_lt_of_cell? w _ hx158_2)).trans hx158_2
          replace hx158_3:=(HB.out.cell (World.block_lt_of_cell? w _ hx158_3)).trans hx158_3
          replace p158:=eq_true p158
          replace q158:=eq_true q158
          have p159:0≤(x9_2:Int):=dA
          have q159:x9_2<(l2.length:Int):=dA
          obtain ⟨ad159,e159,hx159_0,hx159_1,hx159_2⟩:=at_T53 HR2.out x9_2 p159 q159
          have hw159_2:=hx159_2
          have hw159_1:=hx159_1
          have hw159_0:=hx159_0
          cases e159
          replace hx159_0:=(HB.out.cell (World.block_lt_of_cell? w _ hx159_0)).trans hx159_0
          replace hx159_1:=(HB.out.cell (World.block_lt_of_cell? w _ hx159_1)).trans hx159_1
          replace hx159_2:=(HB.out.cell (World.block_lt_of_cell? w _ hx159_2)).trans hx159_2
          replace p159:=eq_true p159
          replace q159:=eq_true q159
          refine start_ (n:=16) (S:=fun w'=>w'.cell? (ad158.add ((x10_3).toNat*4))=some (.int .i64 ((rd_T42 l1 x10_3).f0.f0))∧w'.cell? ⟨(ad158.add ((x10_3).toNat*4)).block,(ad158.add ((x10_3).toNat*4)).off+1,none⟩=some (.int .i64 ((rd_T42 l1 x10_3).f0.f1))∧w'.cell? ⟨(ad158.add ((x10_3).toNat*4)).block,(ad158.add ((x10_3).toNat*4)).off+2,none⟩=some (.int .i64 ((rd_T42 l1 x10_3).f1.f0))∧w'.cell? ⟨(ad158.add ((x10_3).toNat*4)).block,(ad158.add ((x10_3).toNat*4)).off+3,none⟩=some (.int .i64 ((rd_T42 l1 x10_3).f1.f1))∧w'.cell? (ad159.add ((x9_2).toNat*3))=some (.int .i64 ((rd_T53 l2 x9_2).f0))∧w'.cell? ⟨(ad159.add ((x9_2).toNat*3)).block,(ad159.add ((x9_2).toNat*3)).off+1,none⟩=some (.int .i64 ((rd_T53 l2 x9_2).f1))∧w'.cell? ⟨(ad159.add ((x9_2).toNat*3)).block,(ad159.add ((x9_2).toNat*3)).off+2,none⟩=some (.int .i64 ((rd_T53 l2 x9_2).f2))) (ds:=[]) #[Z,Z,Z,Z,Z,Z,Z,Z,Z,Z,Z,Z,Z,Z,Z,Z] (by kernel_rfl) rfl rfl ⟨((HB.out.cell (World.block_lt_of_cell? w _ hw158_0)).trans hw158_0),((HB.out.cell (World.block_lt_of_cell? w _ hw158_1)).trans hw158_1),((HB.out.cell (World.block_lt_of_cell? w _ hw158_2)).trans hw158_2),((HB.out.cell (World.block_lt_of_cell? w _ hw158_3)).trans hw158_3),((HB.out.cell (World.block_lt_of_cell? w _ hw159_0)).trans hw159_0),((HB.out.cell (World.block_lt_of_cell? w _ hw159_1)).trans hw159_1),((HB.out.cell (World.block_lt_of_cell? w _ hw159_2)).trans hw159_2)⟩ (fun hHeld=>?_);refine with_tabW spec_l06Leaders.tab12 spec_l06Leaders.bits12 (fun HT_ HW_=>?_)
          generalize wr.drew=w17 at HO_7 HB hx158_0 hx158_1 hx158_2 hx158_3 hx159_0 hx159_1 hx159_2 hHeld ⊢
          refine puA (i:=0) (N:=some 41) #[Y,Z,Z,Z,Z,Z,Z,Z,Z,Z,Z,Z,Z,Z,Z,Z] rfl rfl HT_ ?_
          refine puA (i:=1) (N:=some 42) #[Y,Y,Z,Z,Z,Z,Z,Z,Z,Z,Z,Z,Z,Z,Z,Z] rfl rfl HT_ ?_
          refine puA (i:=2) (N:=some 43) #[Y,Y,Y,Z,Z,Z,Z,Z,Z,Z,Z,Z,Z,Z,Z,Z] rfl rfl HT_ ?_
          refine puA (i:=3) (N:=some 44) #[Y,Y,Y,Y,Z,Z,Z,Z,Z,Z,Z,Z,Z,Z,Z,Z] rfl rfl HT_ ?_
          refine puA (i:=5) (N:=some 46) #[Y,Y,Y,Y,Z,Y,Z,Z,Z,Z,Z,Z,Z,Z,Z,Z] rfl rfl HT_ ?_
          refine puA (i:=6) (N:=some 47) #[Y,Y,Y,Y,Z,Y,Y,Z,Z,Z,Z,Z,Z,Z,Z,Z] rfl rfl HT_ ?_
          refine puA (i:=7) (N:=some 48) #[Y,Y,Y,Y,Z,Y,Y,Y,Z,Z,Z,Z,Z,Z,Z,Z] rfl rfl HT_ ?_
          refine taA (i:=4) (N:=some 45) #[Y,Y,Y,Y,Y,Y,Y,Y,Z,Z,Z,Z,Z,Z,Z,Z] rfl rfl HT_ HW_ hHeld ?_
          refine taA (i:=8) (N:=some 49) #[Y,Y,Y,Y,Y,Y,Y,Y,Y,Z,Z,Z,Z,Z,Z,Z] rfl rfl HT_ HW_ hHeld ?_
          refine join_ (σ:=Nat) 2 #[Y,Y,Y,Y,Y,Y,Y,Y,Y,Y,Y,Y,Y,Y,Z,Z] (fun s_=>[(50,.tuple #[.agg #[.int .i64 t160,.int .i64 t161,.int .i64 t162],.bool t163]),(11,.pointer (some ⟨s_,0,none⟩)),(40,.tuple #[.agg #[.int .i64 t160,.int .i64 t161,.int .i64 t162],.bool t163]),(51,.agg #[.int .i64 t160,.int .i64 t161,.int .i64 t162]),(52,.bool t163)]) (fun s_ w'=>(w'.cell? (ad158.add ((x10_3).toNat*4))=some (.int .i64 ((rd_T42 l1 x10_3).f0.f0))∧w'.cell? ⟨(ad158.add ((x10_3).toNat*4)).block,(ad158.add ((x10_3).toNat*4)).off+1,none⟩=some (.int .i64 ((rd_T42 l1 x10_3).f0.f1))∧w'.cell? ⟨(ad158.add ((x10_3).toNat*4)).block,(ad158.add ((x10_3).toNat*4)).off+2,none⟩=some (.int .i64 ((rd_T42 l1 x10_3).f1.f0))∧w'.cell? ⟨(ad158.add ((x10_3).toNat*4)).block,(ad158.add ((x10_3).toNat*4)).off+3,none⟩=some (.int .i64 ((rd_T42 l1 x10_3).f1.f1))∧w'.cell? (ad159.add ((x9_2).toNat*3))=some (.int .i64 ((rd_T53 l2 x9_2).f0))∧w'.cell? ⟨(ad159.add ((x9_2).toNat*3)).block,(ad159.add ((x9_2).toNat*3)).off+1,none⟩=some (.int .i64 ((rd_T53 l2 x9_2).f1))∧w'.cell? ⟨(ad159.add ((x9_2).toNat*3)).block,(ad159.add ((x9_2).toNat*3)).off+2,none⟩=some (.int .i64 ((rd_T53 l2 x9_2).f2)))∧(Kd.R (Kd.int .i64) 2 w' w.heap.size (fun _=>True) u7 x7_3)∧(w'.heap[s_]?=some (.cells #[.int .i64 0,.int .i64 0,.int .i64 0] 53 (0,0)))∧(w.heap.size≤s_)∧(w.heap.size≤s_)∧(Below w.heap.size w w')) ?_ ?_
          rotate_left
          ·
           intro hCont
           refine two_ (i:=9) (j:=13) (Ni:=some 50) (Nj:=some 11) #[Y,Y,Y,Y,Y,Y,Y,Y,Y,Y,Z,Z,Z,Z,Z,Z] #[Y,Y,Y,Y,Y,Y,Y,Y,Y,Z,Z,Z,Z,Y,Z,Z] rfl rfl rfl rfl (two_of HT_.out (by kernel_rfl)) (by decide) (by decide) (fun K hK=>?_) (fun K hK=>?_)
           ·
            skip
            refine goC Try.func28 (spec_l04Move.calls (w:=_) (h:=A14.out)) ?_
            intro w18 hb
            replace HO_7:=Aside0.mk (Kd.R_below (rA HO_7) hb)
            replace HB:=lB hb
            (try clear hb)
            (try clear hb2)
            (try clear hk)
            (try clear hi)
            refine hK.out _ _ ⟨((HB.out.cell (World.block_lt_of_cell? w _ hw158_0)).trans hw158_0),((HB.out.cell (World.block_lt_of_cell? w _ hw158_1)).trans hw158_1),((HB.out.cell (World.block_lt_of_cell? w _ hw158_2)).trans hw158_2),((HB.out.cell (World.block_lt_of_cell? w _ hw158_3)).trans hw158_3),((HB.out.cell (World.block_lt_of_cell? w _ hw159_0)).trans hw159_0),((HB.out.cell (World.block_lt_of_cell? w _ hw159_1)).trans hw159_1),((HB.out.cell (World.block_lt_of_cell? w _ hw159_2)).trans hw159_2)⟩ (fun hHeld=>?_)
            clear hK K
            refine nmA ?_
            refine puA (i:=10) (N:=some 40) #[Y,Y,Y,Y,Y,Y,Y,Y,Y,Y,Y,Z,Z,Z,Z,Z] rfl rfl HT_ ?_
            refine puA (i:=11) (N:=some 51) #[Y,Y,Y,Y,Y,Y,Y,Y,Y,Y,Y,Y,Z,Z,Z,Z] rfl rfl HT_ ?_
            refine puA (i:=12) (N:=some 52) #[Y,Y,Y,Y,Y,Y,Y,Y,Y,Y,Y,Y,Y,Z,Z,Z] rfl rfl HT_ ?_
            refine one_ (i:=13) (N:=some 11) #[Y,Y,Y,Y,Y,Y,Y,Y,Y,Y,Y,Y,Y,Y,Z,Z] rfl rfl (one_of HT_.out (by kernel_rfl)) (by decide) (fun K hK=>?_)
            refine box_step ?hg (N:=11) ?hd (cs:=#[.int .i64 0,.int .i64 0,.int .i64 0]) (t:=53) ?hr ?_;(case hd=>rfl);(case hg=>rfl);(case hr=>first|(go_simp;done)|(go_simp;rfl))
            intro gb164 hg w19 hbox hb
            have BK164:=Aside0.mk hbox
            have GW164:=sA hg
            have GE164:=sA hg
            replace HO_7:=Aside0.mk (Kd.R_below (rA HO_7) hb)
            replace HB:=lB hb
            clear hb hbox hg
            refine hK.out _ _ ⟨((HB.out.cell (World.block_lt_of_cell? w _ hw158_0)).trans hw158_0),((HB.out.cell (World.block_lt_of_cell? w _ hw158_1)).trans hw158_1),((HB.out.cell (World.block_lt_of_cell? w _ hw158_2)).trans hw158_2),((HB.out.cell (World.block_lt_of_cell? w _ hw158_3)).trans hw158_3),((HB.out.cell (World.block_lt_of_cell? w _ hw159_0)).trans hw159_0),((HB.out.cell (World.block_lt_of_cell? w _ hw159_1)).trans hw159_1),((HB.out.cell (World.block_lt_of_cell? w _ hw159_2)).trans hw159_2)⟩ (fun hHeld=>?_)
            clear hK K
            refine nmA ?_
            exact norm_ (by simp only [putAll,Act.put,List.setIfInBounds_toArray,List.set_cons_zero,List.set_cons_succ]) (hCont (gb164) _ ⟨hHeld,(rA HO_7),(bkA BK164),GW164.out,GE164.out,blA⟩)
           ·
            skip
            refine box_step ?hg (N:=11) ?hd (cs:=#[.int .i64 0,.int .i64 0,.int .i64 0]) (t:=53) ?hr ?_;(case hd=>rfl);(case hg=>rfl);(case hr=>first|(go_simp;done)|(go_simp;rfl))
            intro gb164 hg w18 hbox hb
            have BK164:=Aside0.mk hbox
            have GW164:=sA hg
            have GE164:=sA hg
            replace HO_7:=Aside0.mk (Kd.R_below (rA HO_7) hb)
            replace HB:=lB hb
            clear hb hbox hg
            refine hK.out _ _ ⟨((HB.out.cell (World.block_lt_of_cell? w _ hw158_0)).trans hw158_0),((HB.out.cell (World.block_lt_of_cell? w _ hw158_1)).trans hw158_1),((HB.out.cell (World.block_lt_of_cell? w _ hw158_2)).trans hw158_2),((HB.out.cell (World.block_lt_of_cell? w _ hw158_3)).trans hw158_3),((HB.out.cell (World.block_lt_of_cell? w _ hw159_0)).trans hw159_0),((HB.out.cell (World.block_lt_of_cell? w _ hw159_1)).trans hw159_1),((HB.out.cell (World.block_lt_of_cell? w _ hw159_2)).trans hw159_2)⟩ (fun hHeld=>?_)
            clear hK K
            refine nmA ?_
            refine one_ (i:=9) (N:=some 50) #[Y,Y,Y,Y,Y,Y,Y,Y,Y,Y,Z,Z,Z,Y,Z,Z] rfl rfl (one_of HT_.out (by kernel_rfl)) (by decide) (fun K hK=>?_)
            refine goC Try.func28 (spec_l04Move.calls (w:=_) (h:=A14.out)) ?_
            intro w19 hb
            replace HO_7:=Aside0.mk (Kd.R_below (rA HO_7) hb)
            replace BK164:=kB BK164 hb
            replace HB:=lB hb
            (try clear hb)
            (try clear hb2)
            (try clear hk)
            (try clear hi)
            refine hK.out _ _ ⟨((HB.out.cell (World.block_lt_of_cell? w _ hw158_0)).trans hw158_0),((HB.out.cell (World.block_lt_of_cell? w _ hw158_1)).trans hw158_1),((HB.out.cell (World.block_lt_of_cell? w _ hw158_2)).trans hw158_2),((HB.out.cell (World.block_lt_of_cell? w _ hw158_3)).trans hw158_3),((HB.out.cell (World.block_lt_of_cell? w _ hw159_0)).trans hw159_0),((HB.out.cell (World.block_lt_of_cell? w _ hw159_1)).trans hw159_1),((HB.out.cell (World.block_lt_of_cell? w _ hw159_2)).trans hw159_2)⟩ (fun hHeld=>?_)
            clear hK K
            refine nmA ?_
            refine puA (i:=10) (N:=some 40) #[Y,Y,Y,Y,Y,Y,Y,Y,Y,Y,Y,Z,Z,Y,Z,Z] rfl rfl HT_ ?_
            refine puA (i:=11) (N:=some 51) #[Y,Y,Y,Y,Y,Y,Y,Y,Y,Y,Y,Y,Z,Y,Z,Z] rfl rfl HT_ ?_
            refine puA (i:=12) (N:=some 52) #[Y,Y,Y,Y,Y,Y,Y,Y,Y,Y,Y,Y,Y,Y,Z,Z] rfl rfl HT_ ?_
            exact norm_ (by simp only [putAll,Act.put,List.setIfInBounds_toArray,List.set_cons_zero,List.set_cons_succ]) (hCont (gb164) _ ⟨hHeld,(rA HO_7),(bkA BK164),GW164.out,GE164.out,blA⟩)
          rintro gb164 w20 ⟨hS_,h0_,h1_,h2_,h3_,h4_⟩
          have BK164:=Aside0.mk h1_
          have GW164:=Aside0.mk h2_
          have GE164:=Aside0.mk h3_
          replace HO_7:=Aside0.mk h0_
          replace HB:=Aside0.mk h4_
          clear h0_ h1_ h2_ h3_ h4_
          have hHeld:w20.cell? (ad158.add ((x10_3).toNat*4))=some (.int .i64 ((rd_T42 l1 x10_3).f0.f0))∧w20.cell? ⟨(ad158.add ((x10_3).toNat*4)).block,(ad158.add ((x10_3).toNat*4)).off+1,none⟩=some (.int .i64 ((rd_T42 l1 x10_3).f0.f1))∧w20.cell? ⟨(ad158.add ((x10_3).toNat*4)).block,(ad158.add ((x10_3).toNat*4)).off+2,none⟩=some (.int .i64 ((rd_T42 l1 x10_3).f1.f0))∧w20.cell? ⟨(ad158.add ((x10_3).toNat*4)).block,(ad158.add ((x10_3).toNat*4)).off+3,none⟩=some (.int .i64 ((rd_T42 l1 x10_3).f1.f1))∧w20.cell? (ad159.add ((x9_2).toNat*3))=some (.int .i64 ((rd_T53 l2 x9_2).f0))∧w20.cell? ⟨(ad159.add ((x9_2).toNat*3)).block,(ad159.add ((x9_2).toNat*3)).off+1,none⟩=some (.int .i64 ((rd_T53 l2 x9_2).f1))∧w20.cell? ⟨(ad159.add ((x9_2).toNat*3)).block,(ad159.add ((x9_2).toNat*3)).off+2,none⟩=some (.int .i64 ((rd_T53 l2 x9_2).f2)):=hS_
          refine norm_ (a':=?_) ?_ ?_
          rotate_left
          ·
           simp only [putAll,Act.put,List.setIfInBounds_toArray,List.set_cons_zero,List.set_cons_succ]
           rfl
          refine one_ (i:=14) (N:=none) #[Y,Y,Y,Y,Y,Y,Y,Y,Y,Y,Y,Y,Y,Y,Y,Z] rfl rfl (one_of HT_.out (by kernel_rfl)) (by decide) (fun K hK=>?_)
          have hs21:w20.cell? ⟨gb164,0,none⟩=some (.int .i64 0):=cA BK164 0
          have hfs21:=blk_frozen BK164.out 0
          have hs22:w20.cell? ⟨gb164,1,none⟩=some (.int .i64 0):=cA BK164 1
          have hfs22:=blk_frozen BK164.out 1
          have hs23:w20.cell? ⟨gb164,2,none⟩=some (.int .i64 0):=cA BK164 2
          have hfs23:=blk_frozen BK164.out 2
          refine skip_ (w1:=?_) (by rfl) rfl ?_ ?_
          rotate_left
          ·
           go_simp
           rfl
          refine hK.out _ _ ⟨((cell_far (p:=⟨gb164,_,none⟩) (by first|exact Nat.ne_of_lt (Nat.lt_of_lt_of_le (by have:=World.block_lt_of_cell? _ _ hw158_0;first|rwa [add_block] at this|exact this) GW164.out)|(rw [add_block];exact Nat.ne_of_lt (Nat.lt_of_lt_of_le (by have:=World.block_lt_of_cell? _ _ hw158_0;first|rwa [add_block] at this|exact this) GW164.out))|(show (Addr.add _ _).block≠_;rw [add_block];exact Nat.ne_of_lt (Nat.lt_of_lt_of_le (by have:=World.block_lt_of_cell? _ _ hw158_0;first|rwa [add_block] at this|exact this) GW164.out))|(dsimp only;exact Nat.ne_of_lt (Nat.lt_of_lt_of_le (by have:=World.block_lt_of_cell? _ _ hw158_0;first|rwa [add_block] at this|exact this) GW164.out))) _).trans (((cell_far (p:=⟨gb164,_,none⟩) (by first|exact Nat.ne_of_lt (Nat.lt_of_lt_of_le (by have:=World.block_lt_of_cell? _ _ hw158_0;first|rwa [add_block] at this|exact this) GW164.out)|(rw [add_block];exact Nat.ne_of_lt (Nat.lt_of_lt_of_le (by have:=World.block_lt_of_cell? _ _ hw158_0;first|rwa [add_block] at this|exact this) GW164.out))|(show (Addr.add _ _).block≠_;rw [add_block];exact Nat.ne_of_lt (Nat.lt_of_lt_of_le (by have:=World.block_lt_of_cell? _ _ hw158_0;first|rwa [add_block] at this|exact this) GW164.out))|(dsimp only;exact Nat.ne_of_lt (Nat.lt_of_lt_of_le (by have:=World.block_lt_of_cell? _ _ hw158_0;first|rwa [add_block] at this|exact this) GW164.out))) _).trans (((cell_far (p:=⟨gb164,_,none⟩) (by first|exact Nat.ne_of_lt (Nat.lt_of_lt_of_le (by have:=World.block_lt_of_cell? _ _ hw158_0;first|rwa [add_block] at this|exact this) GW164.out)|(rw [add_block];exact Nat.ne_of_lt (Nat.lt_of_lt_of_le (by have:=World.block_lt_of_cell? _ _ hw158_0;first|rwa [add_block] at this|exact this) GW164.out))|(show (Addr.add _ _).block≠_;rw [add_block];exact Nat.ne_of_lt (Nat.lt_of_lt_of_le (by have:=World.block_lt_of_cell? _ _ hw158_0;first|rwa [add_block] at this|exact this) GW164.out))|(dsimp only;exact Nat.ne_of_lt (Nat.lt_of_lt_of_le (by have:=World.block_lt_of_cell? _ _ hw158_0;first|rwa [add_block] at this|exact this) GW164.out))) _).trans (hHeld.1)))))),((cell_far (p:=⟨gb164,_,none⟩) (by first|exact Nat.ne_of_lt (Nat.lt_of_lt_of_le (by have:=World.block_lt_of_cell? _ _ hw158_1;first|rwa [add_block] at this|exact this) GW164.out)|(rw [add_block];exact Nat.ne_of_lt (Nat.lt_of_lt_of_le (by have:=World.block_lt_of_cell? _ _ hw158_1;first|rwa [add_block] at this|exact this) GW164.out))|(show (Addr.add _ _).block≠_;rw [add_block];exact Nat.ne_of_lt (Nat.lt_of_lt_of_le (by have:=World.block_lt_of_cell? _ _ hw158_1;first|rwa [add_block] at this|exact this) GW164.out))|(dsimp only;exact Nat.ne_of_lt (Nat.lt_of_lt_of_le (by have:=World.block_lt_of_cell? _ _ hw158_1;first|rwa [add_block] at this|exact this) GW164.out))) _).trans (((cell_far (p:=⟨gb164,_,none⟩) (by first|exact Nat.ne_of_lt (Nat.lt_of_lt_of_le (by have:=World.block_lt_of_cell? _ _ hw158_1;first|rwa [add_block] at this|exact this) GW164.out)|(rw [add_block];exact Nat.ne_of_lt (Nat.lt_of_lt_of_le (by have:=World.block_lt_of_cell? _ _ hw158_1;first|rwa [add_block] at this|exact this) GW164.out))|(show (Addr.add _ _).block≠_;rw [add_block];exact Nat.ne_of_lt (Nat.lt_of_lt_of_le (by have:=World.block_lt_of_cell? _ _ hw158_1;first|rwa [add_block] at this|exact this) GW164.out))|(dsimp only;exact Nat.ne_of_lt (Nat.lt_of_lt_of_le (by have:=World.block_lt_of_cell? _ _ hw158_1;first|rwa [add_block] at this|exact this) GW164.out))) _).trans (((cell_far (p:=⟨gb164,_,none⟩) (by first|exact Nat.ne_of_lt (Nat.lt_of_lt_of_le (by have:=World.block_lt_of_cell? _ _ hw158_1;first|rwa [add_block] at this|exact this) GW164.out)|(rw [add_block];exact Nat.ne_of_lt (Nat.lt_of_lt_of_le (by have:=World.block_lt_of_cell? _ _ hw158_1;first|rwa [add_block] at this|exact this) GW164.out))|(show (Addr.add _ _).block≠_;rw [add_block];exact Nat.ne_of_lt (Nat.lt_of_lt_of_le (by have:=World.block_lt_of_cell? _ _ hw158_1;first|rwa [add_block] at this|exact this) GW164.out))|(dsimp only;exact Nat.ne_of_lt (Nat.lt_of_lt_of_le (by have:=World.block_lt_of_cell? _ _ hw158_1;first|rwa [add_block] at this|exact this) GW164.out))) _).trans (hHeld.2.1)))))),((cell_far (p:=⟨gb164,_,none⟩) (by first|exact Nat.ne_of_lt (Nat.lt_of_lt_of_le (by have:=World.block_lt_of_cell? _ _ hw158_2;first|rwa [add_block] at this|exact this) GW164.out)|(rw [add_block];exact Nat.ne_of_lt (Nat.lt_of_lt_of_le (by have:=World.block_lt_of_cell? _ _ hw158_2;first|rwa [add_block] at this|exact this) GW164.out))|(show (Addr.add _ _).block≠_;rw [add_block];exact Nat.ne_of_lt (Nat.lt_of_lt_of_le (by have:=World.block_lt_of_cell? _ _ hw158_2;first|rwa [add_block] at this|exact this) GW164.out))|(dsimp only;exact Nat.ne_of_lt (Nat.lt_of_lt_of_le (by have:=World.block_lt_of_cell? _ _ hw158_2;first|rwa [add_block] at this|exact this) GW164.out))) _).trans (((cell_far (p:=⟨gb164,_,none⟩) (by first|exact Nat.ne_of_lt (Nat.lt_of_lt_of_le (by have:=World.block_lt_of_cell? _ _ hw158_2;first|rwa [add_block] at this|exact this) GW164.out)|(rw [add_block];exact Nat.ne_of_lt (Nat.lt_of_lt_of_le (by have:=World.block_lt_of_cell? _ _ hw158_2;first|rwa [add_block] at this|exact this) GW164.out))|(show (Addr.add _ _).block≠_;rw [add_block];exact Nat.ne_of_lt (Nat.lt_of_lt_of_le (by have:=World.block_lt_of_cell? _ _ hw158_2;first|rwa [add_block] at this|exact this) GW164.out))|(dsimp only;exact Nat.ne_of_lt (Nat.lt_of_lt_of_le (by have:=World.block_lt_of_cell? _ _ hw158_2;first|rwa [add_block] at this|exact this) GW164.out))) _).trans (((cell_far (p:=⟨gb164,_,none⟩) (by first|exact Nat.ne_of_lt (Nat.lt_of_lt_of_le (by have:=World.block_lt_of_cell? _ _ hw158_2;first|rwa [add_block] at this|exact this) GW164.out)|(rw [add_block];exact Nat.ne_of_lt (Nat.lt_of_lt_of_le (by have:=World.block_lt_of_cell? _ _ hw158_2;first|rwa [add_block] at this|exact this) GW164.out))|(show (Addr.add _ _).block≠_;rw [add_block];exact Nat.ne_of_lt (Nat.lt_of_lt_of_le (by have:=World.block_lt_of_cell? _ _ hw158_2;first|rwa [add_block] at this|exact this) GW164.out))|(dsimp only;exact Nat.ne_of_lt (Nat.lt_of_lt_of_le (by have:=World.block_lt_of_cell? _ _ hw158_2;first|rwa [add_block] at this|exact this) GW164.out))) _).trans (hHeld.2.2.1)))))),((cell_far (p:=⟨gb164,_,none⟩) (by first|exact Nat.ne_of_lt (Nat.lt_of_lt_of_le (by have:=World.block_lt_of_cell? _ _ hw158_3;first|rwa [add_block] at this|exact this) GW164.out)|(rw [add_block];exact Nat.ne_of_lt (Nat.lt_of_lt_of_le (by have:=World.block_lt_of_cell? _ _ hw158_3;first|rwa [add_block] at this|exact this) GW164.out))|(show (Addr.add _ _).block≠_;rw [add_block];exact Nat.ne_of_lt (Nat.lt_of_lt_of_le (by have:=World.block_lt_of_cell? _ _ hw158_3;first|rwa [add_block] at this|exact this) GW164.out))|(dsimp only;exact Nat.ne_of_lt (Nat.lt_of_lt_of_le (by have:=World.block_lt_of_cell? _ _ hw158_3;first|rwa [add_block] at this|exact this) GW164.out))) _).trans (((cell_far (p:=⟨gb164,_,none⟩) (by first|exact Nat.ne_of_lt (Nat.lt_of_lt_of_le (by have:=World.block_lt_of_cell? _ _ hw158_3;first|rwa [add_block] at this|exact this) GW164.out)|(rw [add_block];exact Nat.ne_of_lt (Nat.lt_of_lt_of_le (by have:=World.block_lt_of_cell? _ _ hw158_3;first|rwa [add_block] at this|exact this) GW164.out))|(show (Addr.add _ _).block≠_;rw [add_block];exact Nat.ne_of_lt (Nat.lt_of_lt_of_le (by have:=World.block_lt_of_cell? _ _ hw158_3;first|rwa [add_block] at this|exact this) GW164.out))|(dsimp only;exact Nat.ne_of_lt (Nat.lt_of_lt_of_le (by have:=World.block_lt_of_cell? _ _ hw158_3;first|rwa [add_block] at this|exact this) GW164.out))) _).trans (((cell_far (p:=⟨gb164,_,none⟩) (by first|exact Nat.ne_of_lt (Nat.lt_of_lt_of_le (by have:=World.block_lt_of_cell? _ _ hw158_3;first|rwa [add_block] at this|exact this) GW164.out)|(rw [add_block];exact Nat.ne_of_lt (Nat.lt_of_lt_of_le (by have:=World.block_lt_of_cell? _ _ hw158_3;first|rwa [add_block] at this|exact this) GW164.out))|(show (Addr.add _ _).block≠_;rw [add_block];exact Nat.ne_of_lt (Nat.lt_of_lt_of_le (by have:=World.block_lt_of_cell? _ _ hw158_3;first|rwa [add_block] at this|exact this) GW164.out))|(dsimp only;exact Nat.ne_of_lt (Nat.lt_of_lt_of_le (by have:=World.block_lt_of_cell? _ _ hw158_3;first|rwa [add_block] at this|exact this) GW164.out))) _).trans (hHeld.2.2.2.1)))))),((cell_far (p:=⟨gb164,_,none⟩) (by first|exact Nat.ne_of_lt (Nat.lt_of_lt_of_le (by have:=World.block_lt_of_cell? _ _ hw159_0;first|rwa [add_block] at this|exact this) GW164.out)|(rw [add_block];exact Nat.ne_of_lt (Nat.lt_of_lt_of_le (by have:=World.block_lt_of_cell? _ _ hw159_0;first|rwa [add_block] at this|exact this) GW164.out))|(show (Addr.add _ _).block≠_;rw [add_block];exact Nat.ne_of_lt (Nat.lt_of_lt_of_le (by have:=World.block_lt_of_cell? _ _ hw159_0;first|rwa [add_block] at this|exact this) GW164.out))|(dsimp only;exact Nat.ne_of_lt (Nat.lt_of_lt_of_le (by have:=World.block_lt_of_cell? _ _ hw159_0;first|rwa [add_block] at this|exact this) GW164.out))) _).trans (((cell_far (p:=⟨gb164,_,none⟩) (by first|exact Nat.ne_of_lt (Nat.lt_of_lt_of_le (by have:=World.block_lt_of_cell? _ _ hw159_0;first|rwa [add_block] at this|exact this) GW164.out)|(rw [add_block];exact Nat.ne_of_lt (Nat.lt_of_lt_of_le (by have:=World.block_lt_of_cell? _ _ hw159_0;first|rwa [add_block] at this|exact this) GW164.out))|(show (Addr.add _ _).block≠_;rw [add_block];exact Nat.ne_of_lt (Nat.lt_of_lt_of_le (by have:=World.block_lt_of_cell? _ _ hw159_0;first|rwa [add_block] at this|exact this) GW164.out))|(dsimp only;exact Nat.ne_of_lt (Nat.lt_of_lt_of_le (by have:=World.block_lt_of_cell? _ _ hw159_0;first|rwa [add_block] at this|exact this) GW164.out))) _).trans (((cell_far (p:=⟨gb164,_,none⟩) (by first|exact Nat.ne_of_lt (Nat.lt_of_lt_of_le (by have:=World.block_lt_of_cell? _ _ hw159_0;first|rwa [add_block] at this|exact this) GW164.out)|(rw [add_block];exact Nat.ne_of_lt (Nat.lt_of_lt_of_le (by have:=World.block_lt_of_cell? _ _ hw159_0;first|rwa [add_block] at this|exact this) GW164.out))|(show (Addr.add _ _).block≠_;rw [add_block];exact Nat.ne_of_lt (Nat.lt_of_lt_of_le (by have:=World.block_lt_of_cell? _ _ hw159_0;first|rwa [add_block] at this|exact this) GW164.out))|(dsimp only;exact Nat.ne_of_lt (Nat.lt_of_lt_of_le (by have:=World.block_lt_of_cell? _ _ hw159_0;first|rwa [add_block] at this|exact this) GW164.out))) _).trans (hHeld.2.2.2.2.1)))))),((cell_far (p:=⟨gb164,_,none⟩) (by first|exact Nat.ne_of_lt (Nat.lt_of_lt_of_le (by have:=World.block_lt_of_cell? _ _ hw159_1;first|rwa [add_block] at this|exact this) GW164.out)|(rw [add_block];exact Nat.ne_of_lt (Nat.lt_of_lt_of_le (by have:=World.block_lt_of_cell? _ _ hw159_1;first|rwa [add_block] at this|exact this) GW164.out))|(show (Addr.add _ _).block≠_;rw [add_block];exact Nat.ne_of_lt (Nat.lt_of_lt_of_le (by have:=World.block_lt_of_cell? _ _ hw159_1;first|rwa [add_block] at this|exact this) GW164.out))|(dsimp only;exact Nat.ne_of_lt (Nat.lt_of_lt_of_le (by have:=World.block_lt_of_cell? _ _ hw159_1;first|rwa [add_block] at this|exact this) GW164.out))) _).trans (((cell_far (p:=⟨gb164,_,none⟩) (by first|exact Nat.ne_of_lt (Nat.lt_of_lt_of_le (by have:=World.block_lt_of_cell? _ _ hw159_1;first|rwa [add_block] at this|exact this) GW164.out)|(rw [add_block];exact Nat.ne_of_lt (Nat.lt_of_lt_of_le (by have:=World.block_lt_of_cell? _ _ hw159_1;first|rwa [add_block] at this|exact this) GW164.out))|(show (Addr.add _ _).block≠_;rw [add_block];exact Nat.ne_of_lt (Nat.lt_of_lt_of_le (by have:=World.block_lt_of_cell? _ _ hw159_1;first|rwa [add_block] at this|exact this) GW164.out))|(dsimp only;exact Nat.ne_of_lt (Nat.lt_of_lt_of_le (by have:=World.block_lt_of_cell? _ _ hw159_1;first|rwa [add_block] at this|exact this) GW164.out))) _).trans (((cell_far (p:=⟨gb164,_,none⟩) (by first|exact Nat.ne_of_lt (Nat.lt_of_lt_of_le (by have:=World.block_lt_of_cell? _ _ hw159_1;first|rwa [add_block] at this|exact this) GW164.out)|(rw [add_block];exact Nat.ne_of_lt (Nat.lt_of_lt_of_le (by have:=World.block_lt_of_cell? _ _ hw159_1;first|rwa [add_block] at this|exact this) GW164.out))|(show (Addr.add _ _).block≠_;rw [add_block];exact Nat.ne_of_lt (Nat.lt_of_lt_of_le (by have:=World.block_lt_of_cell? _ _ hw159_1;first|rwa [add_block] at this|exact this) GW164.out))|(dsimp only;exact Nat.ne_of_lt (Nat.lt_of_lt_of_le (by have:=World.block_lt_of_cell? _ _ hw159_1;first|rwa [add_block] at this|exact this) GW164.out))) _).trans (hHeld.2.2.2.2.2.1)))))),((cell_far (p:=⟨gb164,_,none⟩) (by first|exact Nat.ne_of_lt (Nat.lt_of_lt_of_le (by have:=World.block_lt_of_cell? _ _ hw159_2;first|rwa [add_block] at this|exact this) GW164.out)|(rw [add_block];exact Nat.ne_of_lt (Nat.lt_of_lt_of_le (by have:=World.block_lt_of_cell? _ _ hw159_2;first|rwa [add_block] at this|exact this) GW164.out))|(show (Addr.add _ _).block≠_;rw [add_block];exact Nat.ne_of_lt (Nat.lt_of_lt_of_le (by have:=World.block_lt_of_cell? _ _ hw159_2;first|rwa [add_block] at this|exact this) GW164.out))|(dsimp only;exact Nat.ne_of_lt (Nat.lt_of_lt_of_le (by have:=World.block_lt_of_cell? _ _ hw159_2;first|rwa [add_block] at this|exact this) GW164.out))) _).trans (((cell_far (p:=⟨gb164,_,none⟩) (by first|exact Nat.ne_of_lt (Nat.lt_of_lt_of_le (by have:=World.block_lt_of_cell? _ _ hw159_2;first|rwa [add_block] at this|exact this) GW164.out)|(rw [add_block];exact Nat.ne_of_lt (Nat.lt_of_lt_of_le (by have:=World.block_lt_of_cell? _ _ hw159_2;first|rwa [add_block] at this|exact this) GW164.out))|(show (Addr.add _ _).block≠_;rw [add_block];exact Nat.ne_of_lt (Nat.lt_of_lt_of_le (by have:=World.block_lt_of_cell? _ _ hw159_2;first|rwa [add_block] at this|exact this) GW164.out))|(dsimp only;exact Nat.ne_of_lt (Nat.lt_of_lt_of_le (by have:=World.block_lt_of_cell? _ _ hw159_2;first|rwa [add_block] at this|exact this) GW164.out))) _).trans (((cell_far (p:=⟨gb164,_,none⟩) (by first|exact Nat.ne_of_lt (Nat.lt_of_lt_of_le (by have:=World.block_lt_of_cell? _ _ hw159_2;first|rwa [add_block] at this|exact this) GW164.out)|(rw [add_block];exact Nat.ne_of_lt (Nat.lt_of_lt_of_le (by have:=World.block_lt_of_cell? _ _ hw159_2;first|rwa [add_block] at this|exact this) GW164.out))|(show (Addr.add _ _).block≠_;rw [add_block];exact Nat.ne_of_lt (Nat.lt_of_lt_of_le (by have:=World.block_lt_of_cell? _ _ hw159_2;first|rwa [add_block] at this|exact this) GW164.out))|(dsimp only;exact Nat.ne_of_lt (Nat.lt_of_lt_of_le (by have:=World.block_lt_of_cell? _ _ hw159_2;first|rwa [add_block] at this|exact this) GW164.out))) _).trans (hHeld.2.2.2.2.2.2))))))⟩ (fun hHeld=>?_)
          clear hK K
          refine puA (i:=15) (N:=some 12) #[Y,Y,Y,Y,Y,Y,Y,Y,Y,Y,Y,Y,Y,Y,Y,Y] rfl rfl HT_ ?_
          refine done_ (done_of HT_.out (by kernel_rfl)) ?_
          obtain ⟨hcz24_0,hcz24_1,hcz24_2,hfz24_0,hfz24_1,hfz24_2⟩:=cz3 BK164
          go_upto_region 14 with (first|((with_reducible refine gd 55 rfl ?_);refine gC (some 55) rfl Try.func29 (spec_l06Find.calls (w:=_) (hr0:=Kd.C_below HR2.out blA) (hc0:=HC2.out) (h:=A15.out)) ?_;intro w25 hb;have n0_:=Aside0.mk (Kd.R_below (by (with_reducible repeat (first|apply Kd.R_alloc|apply Kd.R_drewN|apply Kd.R_drew));exact (Kd.R_mono (Kd.R_far (p:=⟨gb164,2,none⟩) (Kd.R_far (p:=⟨gb164,1,none⟩) (Kd.R_far (p:=⟨gb164,0,none⟩) (Kd.R_types HO_7.out BK164.out (by decide)) (fun _ hk=>hk.2) (.int .i64 t160)) (fun _ hk=>hk.2) (.int .i64 t161)) (fun _ hk=>hk.2) (.int .i64 t162)) (fun _ h_=>h_.1))) hb);have n1_:=Aside0.mk (blk_below (g:=gb164) (o:=.cells #[.int .i64 t160,.int .i64 t161,.int .i64 t162] 53 (0,0)) (bpA BK164) hb);have n2_:=lB hb;clear HO_7;clear BK164;clear HB;have HO_7:=n0_;have BK164:=n1_;have HB:=n2_;clear n0_ n1_ n2_;clear hb))
          (try simp only [Act.put,List.setIfInBounds_toArray,List.set_cons_zero,List.set_cons_succ])
          go_cut [72] (fun v72 wc=>∃ (kq:Nat) (x72_15:Bool),v72=.bool x72_15∧Aside0 (spec_l06Leaders.j3 kq a0 l1 l2 x7_3 x9_2 x10_3 t165 x72_15=some r)∧Aside0 (kq≤k3)∧Aside0 (Kd.R (Kd.int .i64) 2 wc w.heap.size (fun _=>True) u7 x7_3)∧Aside0 (wc.heap[gb164]?=some (.cells #[.int .i64 t160,.int .i64 t161,.int .i64 t162] 53 (0,0)))∧Aside0 (Below w.heap.size w wc))
          case first=>
           have H:=HC16.out
           clear HC16
           by_cases c26:t163=true
           ·
            subst c26
            rw [if_pos rfl] at H
            try dsimp only at H
            by_cases c27:t165<0
            ·
             rw [if_pos c27] at H
             have c27b0:=decide_eq_true c27
             clear c27
             (first|rw [c27b0]|(simp only [i64_w,i32_w];rw [c27b0])|skip)
             have H':=Aside0.mk H
             clear H
             try go_wp2
             have n0_:=Aside0.mk (Kd.R_drew HO_7.out)
             have n1_:=Aside0.mk (blk_drew BK164.out)
             have n2_:=Aside0.mk (below_drew1 HB.out)
             clear HO_7
             clear BK164
             clear HB
             have HO_7:=n0_
             have BK164:=n1_
             have HB:=n2_
             clear n0_ n1_ n2_
             refine start_ (n:=17) (S:=fun w'=>True) (ds:=[]) #[Z,Z,Z,Z,Z,Z,Z,Z,Z,Z,Z,Z,Z,Z,Z,Z,Z] (by kernel_rfl) rfl rfl trivial (fun hHeld=>?_);refine with_tabW spec_l06Leaders.tab14 spec_l06Leaders.bits14 (fun HT_ HW_=>?_)
             generalize w25.drew=w28 at HO_7 BK164 HB hHeld ⊢
             refine puA (i:=0) (N:=some 56) #[Y,Z,Z,Z,Z,Z,Z,Z,Z,Z,Z,Z,Z,Z,Z,Z,Z] rfl rfl HT_ ?_
             refine puA (i:=1) (N:=some 57) #[Y,Y,Z,Z,Z,Z,Z,Z,Z,Z,Z,Z,Z,Z,Z,Z,Z] rfl rfl HT_ ?_
             refine puA (i:=2) (N:=some 58) #[Y,Y,Y,Z,Z,Z,Z,Z,Z,Z,Z,Z,Z,Z,Z,Z,Z] rfl rfl HT_ ?_
             refine puA (i:=3) (N:=some 59) #[Y,Y,Y,Y,Z,Z,Z,Z,Z,Z,Z,Z,Z,Z,Z,Z,Z] rfl rfl HT_ ?_
             refine puA (i:=4) (N:=some 60) #[Y,Y,Y,Y,Y,Z,Z,Z,Z,Z,Z,Z,Z,Z,Z,Z,Z] rfl rfl HT_ ?_
             refine puA (i:=5) (N:=some 61) #[Y,Y,Y,Y,Y,Y,Z,Z,Z,Z,Z,Z,Z,Z,Z,Z,Z] rfl rfl HT_ ?_
             refine puA (i:=6) (N:=some 62) #[Y,Y,Y,Y,Y,Y,Y,Z,Z,Z,Z,Z,Z,Z,Z,Z,Z] rfl rfl HT_ ?_
             refine puU (i:=7) (N:=some 63) #[Y,Y,Y,Y,Y,Y,Y,Y,Z,Z,Z,Z,Z,Z,Z,Z,Z] rfl rfl HT_ ?_
             refine puU (i:=8) (N:=some 64) #[Y,Y,Y,Y,Y,Y,Y,Y,Y,Z,Z,Z,Z,Z,Z,Z,Z] rfl rfl HT_ ?_
             refine puU (i:=9) (N:=some 65) #[Y,Y,Y,Y,Y,Y,Y,Y,Y,Y,Z,Z,Z,Z,Z,Z,Z] rfl rfl HT_ ?_
             refine puU (i:=10) (N:=some 66) #[Y,Y,Y,Y,Y,Y,Y,Y,Y,Y,Y,Z,Z,Z,Z,Z,Z] rfl rfl HT_ ?_
             refine puU (i:=11) (N:=some 67) #[Y,Y,Y,Y,Y,Y,Y,Y,Y,Y,Y,Y,Z,Z,Z,Z,Z] rfl rfl HT_ ?_
             refine puU (i:=12) (N:=some 68) #[Y,Y,Y,Y,Y,Y,Y,Y,Y,Y,Y,Y,Y,Z,Z,Z,Z] rfl rfl HT_ ?_
             refine puU (i:=13) (N:=some 69) #[Y,Y,Y,Y,Y,Y,Y,Y,Y,Y,Y,Y,Y,Y,Z,Z,Z] rfl rfl HT_ ?_
             refine puU (i:=14) (N:=some 70) #[Y,Y,Y,Y,Y,Y,Y,Y,Y,Y,Y,Y,Y,Y,Y,Z,Z] rfl rfl HT_ ?_
             refine puU (i:=15) (N:=some 71) #[Y,Y,Y,Y,Y,Y,Y,Y,Y,Y,Y,Y,Y,Y,Y,Y,Z] rfl rfl HT_ ?_
             refine puA (i:=16) (N:=some 72) #[Y,Y,Y,Y,Y,Y,Y,Y,Y,Y,Y,Y,Y,Y,Y,Y,Y] rfl rfl HT_ ?_
             refine done_ (done_of HT_.out (by kernel_rfl)) ?_
             try go_wp2
             go_meet
             case rel=>exact ⟨_,(true),hB,H',⟨by have:=HK1.out;have:=HK2.out;have:=HK3.out;first|omega|exact Nat.le_refl _⟩,⟨rA HO_7⟩,⟨bkA BK164⟩,⟨blA⟩⟩
            ·
             rw [if_neg c27] at H
             have c27b0:=decide_eq_false c27
             clear c27
             (first|rw [c27b0]|(simp only [i64_w,i32_w];rw [c27b0])|skip)
             by_cases c29:0≤t165
             rotate_left
             ·
              rw [if_neg c29] at H
              exact absurd H (by simp)
             rw [if_pos c29] at H
             have c29b0:=decide_eq_true c29
             clear c29
             by_cases c30:t165<(x7_3.length:Int)
             rotate_left
             ·
              rw [if_neg c30] at H
              exact absurd H (by simp)
             rw [if_pos c30] at H
             have c30b0:=decide_eq_true c30
             clear c30
             by_cases c31:x9_2<(x7_3.length:Int)
             rotate_left
             ·
              rw [if_neg c31] at H
              exact absurd H (by simp)
             rw [if_pos c31] at H
             have c31b0:=decide_eq_true c31
             clear c31
             have H':=Aside0.mk H
             clear H
             try go_wp2
             have n0_:=Aside0.mk (Kd.R_drew HO_7.out)
             have n1_:=Aside0.mk (blk_drew BK164.out)
             have n2_:=Aside0.mk (below_drew1 HB.out)
             clear HO_7
             clear BK164
             clear HB
             have HO_7:=n0_
             have BK164:=n1_
             have HB:=n2_
             clear n0_ n1_ n2_
             obtain ⟨Ao33,co33,eo33⟩:=Kd.R_slice HO_7.out
             (first|subst eo33|(injection eo33 with f1_ f2_ f3_;have f4_:=f1_.symm;have f5_:=f3_.symm;clear f1_ f2_ f3_;subst f4_;subst f5_))
             have p166:0≤(t165:Int):=dA
             have q166:t165<(x7_3.length:Int):=dA
             obtain ⟨ad166,e166,hx166_0⟩:=Kd.at_int (Kd.R_reads' HO_7.out).2.2 t165 p166 q166
             cases e166
             replace p166:=eq_true p166
             replace q166:=eq_true q166
             have p167:0≤(x9_2:Int):=dA
             have q167:x9_2<(x7_3.length:Int):=dA
             obtain ⟨ad167,e167,hx167_0⟩:=Kd.at_int (Kd.R_reads' HO_7.out).2.2 x9_2 p167 q167
             obtain rfl:ad166=ad167:=(by injection e167)
             replace p167:=eq_true p167
             replace q167:=eq_true q167
             refine start_ (n:=17) (S:=fun w'=>w'.cell? (ad166.add (t165).toNat)=some (.int .i64 (rd x7_3 t165))∧w'.cell? (ad166.add (x9_2).toNat)=some (.int .i64 (rd x7_3 x9_2))) (ds:=[]) #[Z,Z,Z,Z,Z,Z,Z,Z,Z,Z,Z,Z,Z,Z,Z,Z,Z] (by kernel_rfl) rfl rfl ⟨hx166_0,hx167_0⟩ (fun hHeld=>?_);refine with_tabW spec_l06Leaders.tab14 spec_l06Leaders.bits14 (fun HT_ HW_=>?_)
             generalize w25.drew=w32 at HO_7 BK164 HB hx166_0 hx167_0 hHeld ⊢
             refine puA (i:=0) (N:=some 56) #[Y,Z,Z,Z,Z,Z,Z,Z,Z,Z,Z,Z,Z,Z,Z,Z,Z] rfl rfl HT_ ?_
             refine puA (i:=1) (N:=some 57) #[Y,Y,Z,Z,Z,Z,Z,Z,Z,Z,Z,Z,Z,Z,Z,Z,Z] rfl rfl HT_ ?_
             refine puA (i:=2) (N:=some 58) #[Y,Y,Y,Z,Z,Z,Z,Z,Z,Z,Z,Z,Z,Z,Z,Z,Z] rfl rfl HT_ ?_
             refine puA (i:=3) (N:=some 59) #[Y,Y,Y,Y,Z,Z,Z,Z,Z,Z,Z,Z,Z,Z,Z,Z,Z] rfl rfl HT_ ?_
             refine puA (i:=4) (N:=some 60) #[Y,Y,Y,Y,Y,Z,Z,Z,Z,Z,Z,Z,Z,Z,Z,Z,Z] rfl rfl HT_ ?_
             refine puA (i:=5) (N:=some 61) #[Y,Y,Y,Y,Y,Y,Z,Z,Z,Z,Z,Z,Z,Z,Z,Z,Z] rfl rfl HT_ ?_
             refine puA (i:=6) (N:=some 62) #[Y,Y,Y,Y,Y,Y,Y,Z,Z,Z,Z,Z,Z,Z,Z,Z,Z] rfl rfl HT_ ?_
             refine puA (i:=7) (N:=some 63) #[Y,Y,Y,Y,Y,Y,Y,Y,Z,Z,Z,Z,Z,Z,Z,Z,Z] rfl rfl HT_ ?_
             refine puA (i:=8) (N:=some 64) #[Y,Y,Y,Y,Y,Y,Y,Y,Y,Z,Z,Z,Z,Z,Z,Z,Z] rfl rfl HT_ ?_
             refine puA (i:=9) (N:=some 65) #[Y,Y,Y,Y,Y,Y,Y,Y,Y,Y,Z,Z,Z,Z,Z,Z,Z] rfl rfl HT_ ?_
             refine puA (i:=11) (N:=some 67) #[Y,Y,Y,Y,Y,Y,Y,Y,Y,Y,Z,Y,Z,Z,Z,Z,Z] rfl rfl HT_ ?_
             refine puA (i:=12) (N:=some 68) #[Y,Y,Y,Y,Y,Y,Y,Y,Y,Y,Z,Y,Y,Z,Z,Z,Z] rfl rfl HT_ ?_
             refine puA (i:=13) (N:=some 69) #[Y,Y,Y,Y,Y,Y,Y,Y,Y,Y,Z,Y,Y,Y,Z,Z,Z] rfl rfl HT_ ?_
             refine taA (i:=10) (N:=some 66) #[Y,Y,Y,Y,Y,Y,Y,Y,Y,Y,Y,Y,Y,Y,Z,Z,Z] rfl rfl HT_ HW_ hHeld ?_
             refine taA (i:=14) (N:=some 70) #[Y,Y,Y,Y,Y,Y,Y,Y,Y,Y,Y,Y,Y,Y,Y,Z,Z] rfl rfl HT_ HW_ hHeld ?_
             refine puA (i:=15) (N:=some 71) #[Y,Y,Y,Y,Y,Y,Y,Y,Y,Y,Y,Y,Y,Y,Y,Y,Z] rfl rfl HT_ ?_
             refine puA (i:=16) (N:=some 72) #[Y,Y,Y,Y,Y,Y,Y,Y,Y,Y,Y,Y,Y,Y,Y,Y,Y] rfl rfl HT_ ?_
             refine done_ (done_of HT_.out (by kernel_rfl)) ?_
             try go_wp2
             go_meet
             case rel=>exact ⟨_,(((rd x7_3 t165) == (rd x7_3 x9_2))),hB,H',⟨by have:=HK1.out;have:=HK2.out;have:=HK3.out;first|omega|exact Nat.le_refl _⟩,⟨rA HO_7⟩,⟨bkA BK164⟩,⟨blA⟩⟩
           ·
            replace c26:=Bool.eq_false_iff.mpr c26
            subst c26
            rw [if_neg (show ¬ (false=true) by decide)] at H
            try dsimp only at H
            have H':=Aside0.mk H
            clear H
            try go_wp2
            have n0_:=Aside0.mk (Kd.R_drew HO_7.out)
            have n1_:=Aside0.mk (blk_drew BK164.out)
            have n2_:=Aside0.mk (below_drew1 HB.out)
            clear HO_7
            clear BK164
            clear HB
            have HO_7:=n0_
            have BK164:=n1_
            have HB:=n2_
            clear n0_ n1_ n2_
            refine start_ (n:=17) (S:=fun w'=>True) (ds:=[]) #[Z,Z,Z,Z,Z,Z,Z,Z,Z,Z,Z,Z,Z,Z,Z,Z,Z] (by kernel_rfl) rfl rfl trivial (fun hHeld=>?_);refine with_tabW spec_l06Leaders.tab14 spec_l06Leaders.bits14 (fun HT_ HW_=>?_)
            generalize w25.drew=w34 at HO_7 BK164 HB hHeld ⊢
            refine puA (i:=0) (N:=some 56) #[Y,Z,Z,Z,Z,Z,Z,Z,Z,Z,Z,Z,Z,Z,Z,Z,Z] rfl rfl HT_ ?_
            refine puA (i:=1) (N:=some 57) #[Y,Y,Z,Z,Z,Z,Z,Z,Z,Z,Z,Z,Z,Z,Z,Z,Z] rfl rfl HT_ ?_
            refine puA (i:=2) (N:=some 58) #[Y,Y,Y,Z,Z,Z,Z,Z,Z,Z,Z,Z,Z,Z,Z,Z,Z] rfl rfl HT_ ?_
            refine puU (i:=3) (N:=some 59) #[Y,Y,Y,Y,Z,Z,Z,Z,Z,Z,Z,Z,Z,Z,Z,Z,Z] rfl rfl HT_ ?_
            refine puU (i:=4) (N:=some 60) #[Y,Y,Y,Y,Y,Z,Z,Z,Z,Z,Z,Z,Z,Z,Z,Z,Z] rfl rfl HT_ ?_
            refine puA (i:=5) (N:=some 61) #[Y,Y,Y,Y,Y,Y,Z,Z,Z,Z,Z,Z,Z,Z,Z,Z,Z] rfl rfl HT_ ?_
            refine puA (i:=6) (N:=some 62) #[Y,Y,Y,Y,Y,Y,Y,Z,Z,Z,Z,Z,Z,Z,Z,Z,Z] rfl rfl HT_ ?_
            refine puU (i:=7) (N:=some 63) #[Y,Y,Y,Y,Y,Y,Y,Y,Z,Z,Z,Z,Z,Z,Z,Z,Z] rfl rfl HT_ ?_
            refine puU (i:=8) (N:=some 64) #[Y,Y,Y,Y,Y,Y,Y,Y,Y,Z,Z,Z,Z,Z,Z,Z,Z] rfl rfl HT_ ?_
            refine puU (i:=9) (N:=some 65) #[Y,Y,Y,Y,Y,Y,Y,Y,Y,Y,Z,Z,Z,Z,Z,Z,Z] rfl rfl HT_ ?_
            refine puU (i:=10) (N:=some 66) #[Y,Y,Y,Y,Y,Y,Y,Y,Y,Y,Y,Z,Z,Z,Z,Z,Z] rfl rfl HT_ ?_
            refine puU (i:=11) (N:=some 67) #[Y,Y,Y,Y,Y,Y,Y,Y,Y,Y,Y,Y,Z,Z,Z,Z,Z] rfl rfl HT_ ?_
            refine puU (i:=12) (N:=some 68) #[Y,Y,Y,Y,Y,Y,Y,Y,Y,Y,Y,Y,Y,Z,Z,Z,Z] rfl rfl HT_ ?_
            refine puU (i:=13) (N:=some 69) #[Y,Y,Y,Y,Y,Y,Y,Y,Y,Y,Y,Y,Y,Y,Z,Z,Z] rfl rfl HT_ ?_
            refine puU (i:=14) (N:=some 70) #[Y,Y,Y,Y,Y,Y,Y,Y,Y,Y,Y,Y,Y,Y,Y,Z,Z] rfl rfl HT_ ?_
            refine puU (i:=15) (N:=some 71) #[Y,Y,Y,Y,Y,Y,Y,Y,Y,Y,Y,Y,Y,Y,Y,Y,Z] rfl rfl HT_ ?_
            refine puA (i:=16) (N:=some 72) #[Y,Y,Y,Y,Y,Y,Y,Y,Y,Y,Y,Y,Y,Y,Y,Y,Y] rfl rfl HT_ ?_
            refine done_ (done_of HT_.out (by kernel_rfl)) ?_
            try go_wp2
            go_meet
            case rel=>exact ⟨_,(true),hB,H',⟨by have:=HK1.out;have:=HK2.out;have:=HK3.out;first|omega|exact Nat.le_refl _⟩,⟨rA HO_7⟩,⟨bkA BK164⟩,⟨blA⟩⟩
          case rest=>
           clear HC16
           try clear c2
           try clear c26
           try clear c27
           try clear c27b0
           try clear c29
           try clear c29b0
           try clear c30
           try clear c30b0
           try clear c31
           try clear c31b0
           try clear hcz24_0
           try clear hcz24_1
           try clear hcz24_2
           try clear hfz24_0
           try clear hfz24_1
           try clear hfz24_2
           try clear hx166_0
           try clear hx167_0
           try clear p166
           try clear p167
           try clear q166
           try clear q167
           obtain ⟨kq,x72_15,rfl,HA,HJ15,HO_7,BK164,HB⟩:=hcut
           cases kq with
           | zero=>exact absurd HA.out (by simp [spec_l06Leaders.j3])
           | succ kj15=>
            have H:=HA.out
            clear HA
            simp only [spec_l06Leaders.j3] at H
            by_cases c35:x72_15=true
            ·
             subst c35
             rw [if_pos rfl] at H
             try dsimp only at H
             have H':=Aside0.mk H
             clear H
             go_wp2
             go_roundg kj15
             case measure=>have:=HK1.out;have:=HK2.out;have:=HK3.out;have:=HJ15.out;omega
             case rel=>exact ⟨(x7_3),(wrap64 (x10_3+1)),hB,H',⟨by have:=HK1.out;have:=HK2.out;have:=HK3.out;have:=HJ15.out;omega⟩,⟨rA HO_7⟩,⟨blA⟩⟩
            ·
             replace c35:=Bool.eq_false_iff.mpr c35
             subst c35
             rw [if_neg (show ¬ (false=true) by decide)] at H
             try dsimp only at H
             by_cases c36:0≤t165
             rotate_left
             ·
              rw [if_neg c36] at H
              exact absurd H (by simp)
             rw [if_pos c36] at H
             have c36b0:=decide_eq_true c36
             clear c36
             by_cases c37:t165<(x7_3.length:Int)
             rotate_left
             ·
              rw [if_neg c37] at H
              exact absurd H (by simp)
             rw [if_pos c37] at H
             have c37b0:=decide_eq_true c37
             clear c37
             by_cases c38:0≤x9_2
             rotate_left
             ·
              rw [if_neg c38] at H
              exact absurd H (by simp)
             rw [if_pos c38] at H
             have c38b0:=decide_eq_true c38
             clear c38
             by_cases c39:x9_2<(x7_3.length:Int)
             rotate_left
             ·
              rw [if_neg c39] at H
              exact absurd H (by simp)
             rw [if_pos c39] at H
             have c39b0:=decide_eq_true c39
             clear c39
             obtain ⟨ji40,hji40⟩:∃ j_:Int,(mn (rd x7_3 t165) (rd x7_3 x9_2))=j_:=⟨_,rfl⟩
             replace H:(spec_l06Leaders.l3 kj15 a0 l1 l2 x7_3 x9_2 x10_3 ji40 (mx (rd x7_3 t165) (rd x7_3 x9_2)) 0)=some r:=by first|(rw [hji40] at H;exact H)|(simp only [hji40] at H ⊢;exact H)
             have hji40_:(if (rd x7_3 x9_2)<(rd x7_3 t165) then (rd x7_3 x9_2) else (rd x7_3 t165))=ji40:=hji40
             obtain ⟨ji41,hji41⟩:∃ j_:Int,(mx (rd x7_3 t165) (rd x7_3 x9_2))=j_:=⟨_,rfl⟩
             replace H:(spec_l06Leaders.l3 kj15 a0 l1 l2 x7_3 x9_2 x10_3 ji40 ji41 0)=some r:=by first|(rw [hji41] at H;exact H)|(simp only [hji41] at H ⊢;exact H)
             have hji41_:(if (rd x7_3 t165)<(rd x7_3 x9_2) then (rd x7_3 x9_2) else (rd x7_3 t165))=ji41:=hji41
             have H':=Aside0.mk H
             clear H
             try go_wp2
             have n0_:=Aside0.mk (Kd.R_drew HO_7.out)
             have n1_:=Aside0.mk (blk_drew BK164.out)
             have n2_:=Aside0.mk (below_drew1 HB.out)
             clear HO_7
             clear BK164
             clear HB
             have HO_7:=n0_
             have BK164:=n1_
             have HB:=n2_
             clear n0_ n1_ n2_
             obtain ⟨Ao43,co43,eo43⟩:=Kd.R_slice HO_7.out
             (first|subst eo43|(injection eo43 with f1_ f2_ f3_;have f4_:=f1_.symm;have f5_:=f3_.symm;clear f1_ f2_ f3_;subst f4_;subst f5_))
             have p168:0≤(t165:Int):=dA
             have q168:t165<(x7_3.length:Int):=dA
             obtain ⟨ad168,e168,hx168_0⟩:=Kd.at_int (Kd.R_reads' HO_7.out).2.2 t165 p168 q168
             cases e168
             obtain ⟨gq8,cq8,eq8_,_,_,_⟩:=Kd.R_form HO_7.out (by omega)
             obtain rfl:ad168=⟨gq8,0,none⟩:=(by injection eq8_ with ea_ _ _;injection ea_)
             clear eq8_
             (first|simp only [add_plain] at hx168_0|skip)
             replace p168:=eq_true p168
             replace q168:=eq_true q168
             have p169:0≤(x9_2:Int):=dA
             have q169:x9_2<(x7_3.length:Int):=dA
             obtain ⟨ad169,e169,hx169_0⟩:=Kd.at_int (Kd.R_reads' HO_7.out).2.2 x9_2 p169 q169
             obtain rfl:(⟨gq8,0,none⟩:Addr)=ad169:=(by injection e169)
             (first|simp only [add_plain] at hx169_0|skip)
             replace p169:=eq_true p169
             replace q169:=eq_true q169
             have p170:0≤(t165:Int):=dA
             have q170:t165<(x7_3.length:Int):=dA
             obtain ⟨ad170,e170,hx170_0⟩:=Kd.at_int (Kd.R_reads' HO_7.out).2.2 t165 p170 q170
             obtain rfl:(⟨gq8,0,none⟩:Addr)=ad170:=(by injection e170)
             (first|simp only [add_plain] at hx170_0|skip)
             replace p170:=eq_true p170
             replace q170:=eq_true q170
             have p171:0≤(x9_2:Int):=dA
             have q171:x9_2<(x7_3.length:Int):=dA
             obtain ⟨ad171,e171,hx171_0⟩:=Kd.at_int (Kd.R_reads' HO_7.out).2.2 x9_2 p171 q171
             obtain rfl:(⟨gq8,0,none⟩:Addr)=ad171:=(by injection e171)
             (first|simp only [add_plain] at hx171_0|skip)
             replace p171:=eq_true p171
             replace q171:=eq_true q171
             refine start_ (n:=20) (S:=fun w'=>w'.cell? ⟨gq8,(t165:Int).toNat,none⟩=some (.int .i64 (rd x7_3 t165))∧w'.cell? ⟨gq8,(x9_2:Int).toNat,none⟩=some (.int .i64 (rd x7_3 x9_2))∧w'.cell? ⟨gq8,(t165:Int).toNat,none⟩=some (.int .i64 (rd x7_3 t165))∧w'.cell? ⟨gq8,(x9_2:Int).toNat,none⟩=some (.int .i64 (rd x7_3 x9_2))) (ds:=[]) #[Z,Z,Z,Z,Z,Z,Z,Z,Z,Z,Z,Z,Z,Z,Z,Z,Z,Z,Z,Z] (by kernel_rfl) rfl rfl ⟨hx168_0,hx169_0,hx170_0,hx171_0⟩ (fun hHeld=>?_);refine with_tabW spec_l06Leaders.tab15 spec_l06Leaders.bits15 (fun HT_ HW_=>?_)
             generalize wc.drew=w42 at HO_7 BK164 HB hx168_0 hx169_0 hx170_0 hx171_0 hHeld ⊢
             refine puA (i:=0) (N:=some 73) #[Y,Z,Z,Z,Z,Z,Z,Z,Z,Z,Z,Z,Z,Z,Z,Z,Z,Z,Z,Z] rfl rfl HT_ ?_
             refine puA (i:=1) (N:=some 74) #[Y,Y,Z,Z,Z,Z,Z,Z,Z,Z,Z,Z,Z,Z,Z,Z,Z,Z,Z,Z] rfl rfl HT_ ?_
             refine puA (i:=2) (N:=some 75) #[Y,Y,Y,Z,Z,Z,Z,Z,Z,Z,Z,Z,Z,Z,Z,Z,Z,Z,Z,Z] rfl rfl HT_ ?_
             refine puA (i:=4) (N:=some 77) #[Y,Y,Y,Z,Y,Z,Z,Z,Z,Z,Z,Z,Z,Z,Z,Z,Z,Z,Z,Z] rfl rfl HT_ ?_
             refine puA (i:=5) (N:=some 78) #[Y,Y,Y,Z,Y,Y,Z,Z,Z,Z,Z,Z,Z,Z,Z,Z,Z,Z,Z,Z] rfl rfl HT_ ?_
             refine puA (i:=6) (N:=some 79) #[Y,Y,Y,Z,Y,Y,Y,Z,Z,Z,Z,Z,Z,Z,Z,Z,Z,Z,Z,Z] rfl rfl HT_ ?_
             refine puA (i:=9) (N:=some 82) #[Y,Y,Y,Z,Y,Y,Y,Z,Z,Y,Z,Z,Z,Z,Z,Z,Z,Z,Z,Z] rfl rfl HT_ ?_
             refine puA (i:=10) (N:=some 83) #[Y,Y,Y,Z,Y,Y,Y,Z,Z,Y,Y,Z,Z,Z,Z,Z,Z,Z,Z,Z] rfl rfl HT_ ?_
             refine puA (i:=11) (N:=some 84) #[Y,Y,Y,Z,Y,Y,Y,Z,Z,Y,Y,Y,Z,Z,Z,Z,Z,Z,Z,Z] rfl rfl HT_ ?_
             refine puA (i:=13) (N:=some 86) #[Y,Y,Y,Z,Y,Y,Y,Z,Z,Y,Y,Y,Z,Y,Z,Z,Z,Z,Z,Z] rfl rfl HT_ ?_
             refine puA (i:=14) (N:=some 87) #[Y,Y,Y,Z,Y,Y,Y,Z,Z,Y,Y,Y,Z,Y,Y,Z,Z,Z,Z,Z] rfl rfl HT_ ?_
             refine puA (i:=15) (N:=some 88) #[Y,Y,Y,Z,Y,Y,Y,Z,Z,Y,Y,Y,Z,Y,Y,Y,Z,Z,Z,Z] rfl rfl HT_ ?_
             refine taA (i:=3) (N:=some 76) #[Y,Y,Y,Y,Y,Y,Y,Z,Z,Y,Y,Y,Z,Y,Y,Y,Z,Z,Z,Z] rfl rfl HT_ HW_ hHeld ?_
             refine taA (i:=7) (N:=some 80) #[Y,Y,Y,Y,Y,Y,Y,Y,Z,Y,Y,Y,Z,Y,Y,Y,Z,Z,Z,Z] rfl rfl HT_ HW_ hHeld ?_
             refine puA (i:=8) (N:=some 81) #[Y,Y,Y,Y,Y,Y,Y,Y,Y,Y,Y,Y,Z,Y,Y,Y,Z,Z,Z,Z] rfl rfl HT_ ?_
             refine puA (i:=18) (N:=some 14) #[Y,Y,Y,Y,Y,Y,Y,Y,Y,Y,Y,Y,Z,Y,Y,Y,Z,Z,Y,Z] rfl rfl HT_ ?_
             refine taA (i:=12) (N:=some 85) #[Y,Y,Y,Y,Y,Y,Y,Y,Y,Y,Y,Y,Y,Y,Y,Y,Z,Z,Y,Z] rfl rfl HT_ HW_ hHeld ?_
             refine taA (i:=16) (N:=some 89) #[Y,Y,Y,Y,Y,Y,Y,Y,Y,Y,Y,Y,Y,Y,Y,Y,Y,Z,Y,Z] rfl rfl HT_ HW_ hHeld ?_
             refine puA (i:=17) (N:=some 90) #[Y,Y,Y,Y,Y,Y,Y,Y,Y,Y,Y,Y,Y,Y,Y,Y,Y,Y,Y,Z] rfl rfl HT_ ?_
             refine puA (i:=19) (N:=some 15) #[Y,Y,Y,Y,Y,Y,Y,Y,Y,Y,Y,Y,Y,Y,Y,Y,Y,Y,Y,Y] rfl rfl HT_ ?_
             refine done_ (done_of HT_.out (by kernel_rfl)) ?_
             try go_wp2
             go_loopg [16] kj15 (fun kq v16 w'=>∃ (x7_5:List Int) (x16_5:Int),v16=.int .i64 x16_5∧Aside0 (spec_l06Leaders.l3 kq a0 l1 l2 x7_5 x9_2 x10_3 ji40 ji41 x16_5=some r)∧Aside0 (kq≤kj15)∧Aside0 (Kd.R (Kd.int .i64) 2 w' w.heap.size (fun _=>True) (.slice (some (⟨gq8,0,none⟩:Addr)) x7_3.length co43) x7_5)∧Aside0 (w'.heap[gb164]?=some (.cells #[.int .i64 t160,.int .i64 t161,.int .i64 t162] 53 (0,0)))∧Aside0 (Below w.heap.size w w'))
             case atStart=>exact ⟨(x7_3),(0),hB,H',⟨Nat.le_refl _⟩,⟨rA HO_7⟩,⟨bkA BK164⟩,⟨blA⟩⟩
             case round=>
              clear H'
              try clear c2
              try clear c26
              try clear c27
              try clear c27b0
              try clear c29
              try clear c29b0
              try clear c30
              try clear c30b0
              try clear c31
              try clear c31b0
              try clear c35
              try clear c36
              try clear c36b0
              try clear c37
              try clear c37b0
              try clear c38
              try clear c38b0
              try clear c39
              try clear c39b0
              try clear hcz24_0
              try clear hcz24_1
              try clear hcz24_2
              try clear hfz24_0
              try clear hfz24_1
              try clear hfz24_2
              try clear hx166_0
              try clear hx167_0
              try clear hx168_0
              try clear hx169_0
              try clear hx170_0
              try clear hx171_0
              try clear p166
              try clear p167
              try clear p168
              try clear p169
              try clear p170
              try clear p171
              try clear q166
              try clear q167
              try clear q168
              try clear q169
              try clear q170
              try clear q171
              obtain ⟨x7_5,x16_5,rfl,HA,HK5,HO_7,BK164,HB⟩:=hrel
              have hl7_5:=(Kd.R_reads' HO_7.out).1
              rw [hl7_5] at HO_7
              (try simp only [hl7_5])
              (try simp only [hl7_5] at BK164)
              cases gk with
              | zero=>exact absurd HA.out (by simp [spec_l06Leaders.l3])
              | succ k5=>
               have H:=HA.out
               clear HA
               simp only [spec_l06Leaders.l3] at H
               by_cases c44:x16_5<(x7_5.length:Int)
               ·
                rw [if_pos c44] at H
                have c44b0:=decide_eq_true c44
                clear c44
                by_cases c45:0≤x16_5
                rotate_left
                ·
                 rw [if_neg c45] at H
                 exact absurd H (by simp)
                rw [if_pos c45] at H
                have c45b0:=decide_eq_true c45
                clear c45
                by_cases c46:(rd x7_5 x16_5)=ji41
                ·
                 rw [if_pos c46] at H
                 have c46b0:((rd x7_5 x16_5) == ji41)=true:=beq_iff_eq.mpr c46
                 have c46b1:((rd x7_5 x16_5) != ji41)=false:=bne_eq_false_iff_eq.mpr c46
                 clear c46
                 obtain ⟨y173,hy173⟩:∃ y_:List Int,y_=(x7_5.set (x16_5:Int).toNat ji40):=⟨_,rfl⟩
                 replace H:(spec_l06Leaders.l3 k5 a0 l1 l2 y173 x9_2 x10_3 ji40 ji41 (wrap64 (x16_5+1)))=some r:=rH hy173 H
                 have Ny173:=Aside0.mk hy173
                 clear hy173
                 have H':=Aside0.mk H
                 clear H
                 have p172:0≤(x16_5:Int):=dA
                 have q172:x16_5<(x7_5.length:Int):=dA
                 obtain ⟨ad172,e172,hx172_0⟩:=Kd.at_int (Kd.R_reads' HO_7.out).2.2 x16_5 p172 q172
                 obtain rfl:(⟨gq8,0,none⟩:Addr)=ad172:=(by injection e172)
                 (first|simp only [add_plain] at hx172_0|skip)
                 replace p172:=eq_true p172
                 replace q172:=eq_true q172
                 have p47:0≤(x16_5:Int):=dA
                 have q47:(x16_5:Int)<((x7_5.length:Int):Int):=dA
                 obtain ⟨gz8,cz8,eo47,gb47,gl47,cl47,HG47⟩:=Kd.R_form HO_7.out (by omega)
                 obtain ⟨rfl,rfl⟩:gq8=gz8∧co43=cz8:=(by injection eo47 with ea_ en_ ec_;injection ea_ with ea_;injection ea_ with ea_;exact ⟨ea_,ec_⟩)
                 have GB47:=Aside0.mk gb47
                 have GG47:=Aside0.mk HG47
                 clear gb47 gl47 HG47
                 (first|simp only [add_plain] at hx168_0|skip)
                 (first|simp only [add_plain] at hx169_0|skip)
                 (first|simp only [add_plain] at hx170_0|skip)
                 (first|simp only [add_plain] at hx171_0|skip)
                 (first|simp only [add_plain] at hx172_0|skip)
                 obtain ⟨hx47_0,hf47_0⟩:=Kd.R_celln 0 HO_7.out (x16_5:Int) p47 q47
                 replace p47:=eq_true p47
                 replace q47:=eq_true q47
                 have HP48:=Kd.R_putg HO_7.out (x16_5:Int) ji40
                 go_wp2_with (first|((with_reducible refine gate_store (t:=2) (p:=106) rfl ?_);refine store_event (t:=2) (p:=106) (v:=?vo_w49) (w1:=(wr.setCell ⟨gq8,(x16_5:Int).toNat,none⟩ (.int .i64 ji40))) ?hg ?ho ?hn ?hr ?_;(case ho=>rfl);(case hg=>rfl);(case hn=>rfl);(case hr=>first|(go_simp;done)|(go_simp;rfl));intro w49 hw;have hg:wr.grownBy w49 (some gq8):=(by rw [hw];exact HP48.2);have hp_:Kd.R (Kd.int .i64) 2 w49 w.heap.size (fun _=>True) (.slice (some ⟨gq8,0,none⟩) x7_5.length co43) y173:=(by rw [hw,Ny173.out];exact HP48.1);clear HP48;have n0_:=Aside0.mk (hp_);have n1_:=Aside0.mk (blk_grown (bkA BK164) hg (Kd.R_ne HO_7.out BK164.out (by decide)));have n2_:=Aside0.mk ((by rw [hw];exact below_set (HB.out) GB47.out:Below w.heap.size w w49));clear HO_7;clear BK164;clear HB;have HO_7:=n0_;have BK164:=n1_;have HB:=n2_;clear n0_ n1_ n2_;clear hg hw hp_))
                 (try simp only [← hl7_5])
                 go_roundg k5
                 case measure=>have:=HK1.out;have:=HK2.out;have:=HK3.out;have:=HJ15.out;have:=HK5.out;omega
                 case rel=>exact ⟨(y173),(wrap64 (x16_5+1)),hB,H',⟨by have:=HK1.out;have:=HK2.out;have:=HK3.out;have:=HJ15.out;have:=HK5.out;omega⟩,⟨by (try simp only [hl7_5]);(with_reducible repeat (first|apply Kd.R_alloc|apply Kd.R_drewN|apply Kd.R_drew));exact HO_7.out⟩,⟨by (try simp only [hl7_5]);exact bkA BK164⟩,⟨blA⟩⟩
                ·
                 rw [if_neg c46] at H
                 have c46b0:((rd x7_5 x16_5) == ji41)=false:=beq_eq_false_iff_ne.mpr c46
                 have c46b1:((rd x7_5 x16_5) != ji41)=true:=bne_iff_ne.mpr c46
                 have H':=Aside0.mk H
                 clear H
                 have p172:0≤(x16_5:Int):=dA
                 have q172:x16_5<(x7_5.length:Int):=dA
                 obtain ⟨ad172,e172,hx172_0⟩:=Kd.at_int (Kd.R_reads' HO_7.out).2.2 x16_5 p172 q172
                 obtain rfl:(⟨gq8,0,none⟩:Addr)=ad172:=(by injection e172)
                 (first|simp only [add_plain] at hx172_0|skip)
                 replace p172:=eq_true p172
                 replace q172:=eq_true q172
                 go_wp2
                 (try simp only [← hl7_5])
                 go_roundg k5
                 case measure=>have:=HK1.out;have:=HK2.out;have:=HK3.out;have:=HJ15.out;have:=HK5.out;omega
                 case rel=>exact ⟨(x7_5),(wrap64 (x16_5+1)),hB,H',⟨by have:=HK1.out;have:=HK2.out;have:=HK3.out;have:=HJ15.out;have:=HK5.out;omega⟩,⟨by (try simp only [hl7_5]);(with_reducible repeat (first|apply Kd.R_alloc|apply Kd.R_drewN|apply Kd.R_drew));exact HO_7.out⟩,⟨by (try simp only [hl7_5]);exact bkA BK164⟩,⟨blA⟩⟩
               ·
                rw [if_neg c44] at H
                have c44b0:=decide_eq_false c44
                clear c44
                have H':=Aside0.mk H
                clear H
                go_wp2
                (try simp only [← hl7_5])
                go_roundg k5
                case measure=>have:=HK1.out;have:=HK2.out;have:=HK3.out;have:=HJ15.out;have:=HK5.out;omega
                case rel=>exact ⟨(x7_5),(wrap64 (x10_3+1)),hB,H',⟨by have:=HK1.out;have:=HK2.out;have:=HK3.out;have:=HJ15.out;have:=HK5.out;omega⟩,⟨by (try simp only [hl7_5]);(with_reducible repeat (first|apply Kd.R_alloc|apply Kd.R_drewN|apply Kd.R_drew));exact HO_7.out⟩,⟨blA⟩⟩
         ·
          rw [if_neg c10] at H
          have c10b0:=decide_eq_false c10
          clear c10
          have H':=Aside0.mk H
          clear H
          go_wp2
          go_roundg k3
          case measure=>have:=HK1.out;have:=HK2.out;have:=HK3.out;omega
          case rel=>exact ⟨(x7_3),(wrap64 (x9_2+1)),hB,H',⟨by have:=HK1.out;have:=HK2.out;have:=HK3.out;omega⟩,⟨rA HO_7⟩,⟨blA⟩⟩
      ·
       rw [if_neg c9] at H
       have c9b0:=decide_eq_false c9
       clear c9
       obtain rfl:=Option.some.inj H
       go_wp2
       go_ret
       exact ⟨_,eW,rA HO_7,blA⟩
end Go.Proofs.Ytnhiehpbkimaeaa.PAll
