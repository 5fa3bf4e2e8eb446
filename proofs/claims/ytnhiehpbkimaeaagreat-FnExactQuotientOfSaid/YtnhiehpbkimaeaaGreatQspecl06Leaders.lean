import Derived.Test.YtnhiehpbkimaeaaGreatQx
import Derived.Test.YtnhiehpbkimaeaaGreatQimplBall73
import Derived.Test.YtnhiehpbkimaeaaGreatQimplareMatrices
namespace Go.Proofs.YtnhiehpbkimaeaaGreat.PAll
open Go.RowKit Go.Proofs.YtnhiehpbkimaeaaGreatW.PrintWords Go.Proofs.YtnhiehpbkimaeaaGreatW.PrintLast Go.Proofs.YtnhiehpbkimaeaaGreatW.PrintMore
attribute [local go_sem] Go.Proofs.YtnhiehpbkimaeaaGreat.Aux.setCell_drewN Go.Proofs.YtnhiehpbkimaeaaGreat.Aux.isSome_setCell cC b9 cQ cP bm bl cB b8
set_option linter.unusedVariables false
set_option linter.unusedSimpArgs false
mutual
def aE.l0:Nat→Int→List (S59)→List (S43)→List Int→Int→Option (List Int)
 | 0,_,_,_,_,_=>none
 | k+1,x0,x1,x2,x7,x8=>if x8<(x2.length:Int) then (if x7.length<17592186044416 then (aE.l0 k x0 x1 x2 (x7 ++ [x8]) (wrap64 (x8+1))) else (none)) else (aE.l1 k x0 x1 x2 x7 0)
def aE.l1:Nat→Int→List (S59)→List (S43)→List Int→Int→Option (List Int)
 | 0,_,_,_,_,_=>none
 | k+1,x0,x1,x2,x7,x9=>if x9<(x2.length:Int) then (aE.l2 k x0 x1 x2 x7 x9 0) else (some x7)
def aE.l2:Nat→Int→List (S59)→List (S43)→List Int→Int→Int→Option (List Int)
 | 0,_,_,_,_,_,_=>none
 | k+1,x0,x1,x2,x7,x9,x10=>if x10<(x1.length:Int) then (if 0≤x10 then (if 0≤x9 then (if x9<(x2.length:Int) then ((aT.f k x0 ((ai x1 x10).f0.f0) ((ai x1 x10).f0.f1) ((ai x1 x10).f1.f0) ((ai x1 x10).f1.f1) ((aD x2 x9).f0) ((aD x2 x9).f1) ((aD x2 x9).f2)).bind fun bt266=>((bc.f k x2 bt266.1 bt266.2.1 bt266.2.2.1).bind fun t271=>(if bt266.2.2.2=true then (if t271<0 then (aE.j3 k x0 x1 x2 x7 x9 x10 t271 true) else (if 0≤t271 then (if t271<(x7.length:Int) then (if x9<(x7.length:Int) then (aE.j3 k x0 x1 x2 x7 x9 x10 t271 ((rd x7 t271) == (rd x7 x9))) else (none)) else (none)) else (none))) else (aE.j3 k x0 x1 x2 x7 x9 x10 t271 true)))) else (none)) else (none)) else (none)) else (aE.l1 k x0 x1 x2 x7 (wrap64 (x9+1)))
def aE.j3:Nat→Int→List (S59)→List (S43)→List Int→Int→Int→Int→Bool→Option (List Int)
 | 0,_,_,_,_,_,_,_,_=>none
 | k+1,x0,x1,x2,x7,x9,x10,x13,x72=>if x72=true then (aE.l2 k x0 x1 x2 x7 x9 (wrap64 (x10+1))) else (if 0≤x13 then (if x13<(x7.length:Int) then (if 0≤x9 then (if x9<(x7.length:Int) then (aE.l3 k x0 x1 x2 x7 x9 x10 (mn (rd x7 x13) (rd x7 x9)) (mx (rd x7 x13) (rd x7 x9)) 0) else (none)) else (none)) else (none)) else (none))
def aE.l3:Nat→Int→List (S59)→List (S43)→List Int→Int→Int→Int→Int→Int→Option (List Int)
 | 0,_,_,_,_,_,_,_,_,_=>none
 | k+1,x0,x1,x2,x7,x9,x10,x14,x15,x16=>if x16<(x7.length:Int) then (if 0≤x16 then (if (rd x7 x16)=x15 then (aE.l3 k x0 x1 x2 (x7.set (x16:Int).toNat x14) x9 x10 x14 x15 (wrap64 (x16+1))) else (aE.l3 k x0 x1 x2 x7 x9 x10 x14 x15 (wrap64 (x16+1)))) else (none)) else (aE.l2 k x0 x1 x2 x7 x9 (wrap64 (x10+1)))
end
def aE.f (k:Nat) (a0:Int) (l1:List (S59)) (l2:List (S43)):Option (List Int):=aE.l0 k a0 l1 l2 (([]:List Int)) 0
def aE.T12:Bool × List (List Nat × List Nat):=(true,[([],[]),([],[]),([],[]),([1,2],[1,2]),([3],[3]),([],[]),([],[]),([5,6],[5,6]),([7],[7]),([0,4,8],[0,4,8]),([9],[9]),([10],[10]),([10],[10]),([],[]),([13,11,9,0,1,2,3,4,5,6,7,8,9,10,11,13],[11,13]),([12,14,0,1,2,3,4,5,6,7,8,9,10,11,12,13,14],[12])])
def aE.B12:List Nat:=[0,0,0,6,14,0,0,96,224,511,1023,2047,2047,0,12287,32767]
theorem aE.tab12:cZ .any (dL Tryz.f29 12)=aE.T12:=by kernel_rfl
theorem aE.bits12:bq aE.T12.2 aE.B12=true:=by kernel_rfl
def aE.T14:Bool × List (List Nat × List Nat):=(true,[([],[]),([0],[0]),([1],[1]),([2],[2]),([3,2],[2,3]),([2,4],[2,4]),([5,2],[5]),([6],[6]),([6],[6]),([7,8,6],[6,7,8]),([9,6],[6,9]),([6],[6]),([6],[6]),([11,12,6],[6,11,12]),([13,6],[6,13]),([10,14,6],[6,10,14]),([6,15],[6,15])])
def aE.B14:List Nat:=[0,1,3,7,15,31,63,127,127,511,1023,127,127,6271,14463,32767,65535]
theorem aE.tab14:cZ .any (dL Tryz.f29 14)=aE.T14:=by kernel_rfl
theorem aE.bits14:bq aE.T14.2 aE.B14=true:=by kernel_rfl
def aE.T15:Bool × List (List Nat × List Nat):=(true,[([],[]),([],[]),([0,1],[0,1]),([2],[2]),([],[]),([],[]),([4,5],[4,5]),([6],[6]),([3,7],[3,7]),([],[]),([],[]),([9,10],[9,10]),([11],[11]),([],[]),([],[]),([13,14],[13,14]),([15],[15]),([12,16],[12,16]),([8,0,1,2,3,4,5,6,7,8],[8]),([17,18,0,1,2,3,4,5,6,7,8,9,10,11,12,13,14,15,16,17,18],[17])])
def aE.B15:List Nat:=[0,0,3,7,0,0,48,112,255,0,0,1536,3584,0,0,24576,57344,130560,511,524287]
theorem aE.tab15:cZ .any (dL Tryz.f29 15)=aE.T15:=by kernel_rfl
theorem aE.bits15:bq aE.T15.2 aE.B15=true:=by kernel_rfl
set_option maxHeartbeats 8000000 in
set_option maxRecDepth 100000 in
theorem aE.calls (k:Nat) (a0:Int) (A1:Option Addr) (c1:Nat) (l1:List (S59)) (A2:Option Addr) (c2:Nat) (l2:List (S43)) (r:List Int) (w:World) (hr1:Kd.C k59 w A1 l1.length l1) (hc1:l1.length≤c1) (hr2:Kd.C k43 w A2 l2.length l2) (hc2:l2.length≤c2) (h:aE.f k a0 l1 l2=some r) :
  Calls Tryz.prog 29 #[.int .i64 a0,.slice A1 l1.length c1,.slice A2 l2.length c2] w fun e w'=>∃ v0_:Value,e=.returned (v0_)∧Kd.R (Kd.int .i64) 2 w' w.heap.size (fun _=>True) v0_ r∧Below w.heap.size w w':=by
 have hu59:=Tryz.underlying59
 have hu43:=Tryz.underlying43
 have HR1:=aA.mk hr1
 have HC1:=aA.mk hc1
 clear hr1 hc1
 have HR2:=aA.mk hr2
 have HC2:=aA.mk hc2
 clear hr2 hc2
 have HB:=aA.mk (Below.refl w.heap.size w)
 have H:=h
 unfold aE.f at H
 clear h
 obtain ⟨y258,hy258⟩:∃ y_:List Int,y_=(([]:List Int)):=⟨_,rfl⟩
 replace H:(aE.l0 k a0 l1 l2 y258 0)=some r:=rH hy258 H
 have Ny258:=aA.mk hy258
 clear hy258
 have H':=aA.mk H
 clear H
 go_enter Tryz.func29,Tryz.ntmps29
 go_wp2_with (first|((with_reducible refine aN (N:=17) rfl ?_);refine Kd.R_lit (Kd.int .i64) _ 2 ?hg (N:=17) ?hd (xs:=([]:List Int)) (inner:=[]) (ok:=fun _=>True) (okp:=fun _=>True) ?hr ?hp (fun _ hk=>hk) trivial (Below.refl _ _) (Nat.le_refl _) (by simp) ?_;(case hd=>rfl);(case hg=>rfl);(case hr=>first|(go_simp;done)|(go_simp;rfl));(case hp=>exact (bD.none _ _));intro v259 w4 ho5 hb hg_ hnew_;clear hg_ hnew_;(first|rw [← Ny258.out] at ho5|(simp only [Int.reduceToNat] at ho5;rw [← Ny258.out] at ho5));have n0_:=aA.mk (Kd.R_lower ho5 (aQ blA));have n1_:=lB hb;clear HB;have HO260:=n0_;have HB:=n1_;clear n0_ n1_;clear hb ho5))
 go_loopg [7,8] k (fun kq v7 v8 w'=>∃ (x7_1:List Int) (x8_1:Int),v8=.int .i64 x8_1∧aA (aE.l0 kq a0 l1 l2 x7_1 x8_1=some r)∧aA (kq≤k)∧aA (Kd.R (Kd.int .i64) 2 w' w.heap.size (fun _=>True) v7 x7_1)∧aA (Below w.heap.size w w'))
 case atStart=>exact ⟨(y258),(0),hB,H',⟨Nat.le_refl _⟩,⟨rA HO260⟩,⟨blA⟩⟩
 case round=>
  clear H'
  try clear c1
  try clear c2
  obtain ⟨x7_1,x8_1,rfl,HA,HK1,HO_7,HB⟩:=hrel
  cases gk with
  | zero=>exact absurd HA.out (by simp [aE.l0])
  | succ k1=>
   have H:=HA.out
   clear HA
   simp only [aE.l0] at H
   by_cases c6:x8_1<(l2.length:Int)
   ·
    rw [if_pos c6] at H
    have c6b0:=decide_eq_true c6
    clear c6
    by_cases c7:x7_1.length<17592186044416
    rotate_left
    ·
     rw [if_neg c7] at H
     exact absurd H (by simp)
    rw [if_pos c7] at H
    have LMc7:=aA.mk c7
    clear c7
    obtain ⟨y261,hy261⟩:∃ y_:List Int,y_=(x7_1 ++ [x8_1]):=⟨_,rfl⟩
    replace H:(aE.l0 k1 a0 l1 l2 y261 (wrap64 (x8_1+1)))=some r:=rH hy261 H
    have Ny261:=aA.mk hy261
    clear hy261
    have H':=aA.mk H
    clear H
    go_wp2_with (first|((with_reducible refine bY (b:=.append) (xs:=#[.tmp 24,.tmp 26]) rfl ?_);at_builtin;refine Kd.R_append (Kd.int .i64) (w0:=w) w.heap.size rfl (.tmp 24) (.tmp 26) 50 2 (.int .i64 0) 8 rfl Tryz.underlying50 eH rfl (by decide) (by omega) u7 x7_1 x8_1 [.int .i64 x8_1] (fun _=>True) (fun _=>False) rfl rfl ?aP (fun _ hk=>hk.elim) ?aF ?aO ?aB ?aS ?aL ?_;(case aP=>exact rfl);(case aB=>exact blA);(case aF=>exact (fun _ _=>trivial));(case aO=>exact (rA HO_7));(case aS=>exact (aQ blA));(case aL=>have:=LMc7.out;omega);intro v262 w8 ho hb hg hat;rw [← Ny261.out] at ho;have n0_:=aA.mk hb;have n1_:=aA.mk ho;clear HB;clear HO_7;have HB:=n0_;have HO263:=n1_;clear n0_ n1_;clear ho hb hg hat))
    go_roundg k1
    case measure=>have:=HK1.out;omega
    case rel=>exact ⟨(y261),(wrap64 (x8_1+1)),hB,H',⟨by have:=HK1.out;omega⟩,⟨rA HO263⟩,⟨blA⟩⟩
   ·
    rw [if_neg c6] at H
    have c6b0:=decide_eq_false c6
    clear c6
    have H':=aA.mk H
    clear H
    go_wp2
    go_loopg [9] k1 (fun kq v9 w'=>∃ (x7_2:List Int) (x9_2:Int),v9=.int .i64 x9_2∧aA (aE.l1 kq a0 l1 l2 x7_2 x9_2=some r)∧aA (kq≤k1)∧aA (Kd.R (Kd.int .i64) 2 w' w.heap.size (fun _=>True) u7 x7_2)∧aA (Below w.heap.size w w'))
    case atStart=>exact ⟨(x7_1),(0),hB,H',⟨Nat.le_refl _⟩,⟨rA HO_7⟩,⟨blA⟩⟩
    case round=>
     clear H'
     try clear c1
     try clear c2
     try clear c6
     try clear c6b0
     try clear c7
     obtain ⟨x7_2,x9_2,rfl,HA,HK2,HO_7,HB⟩:=hrel
     cases gk with
     | zero=>exact absurd HA.out (by simp [aE.l1])
     | succ k2=>
      have H:=HA.out
      clear HA
      simp only [aE.l1] at H
      by_cases c9:x9_2<(l2.length:Int)
      ·
       rw [if_pos c9] at H
       have c9b0:=decide_eq_true c9
       clear c9
       have H':=aA.mk H
       clear H
       go_wp2
       go_loopg [10] k2 (fun kq v10 w'=>∃ (x7_3:List Int) (x10_3:Int),v10=.int .i64 x10_3∧aA (aE.l2 kq a0 l1 l2 x7_3 x9_2 x10_3=some r)∧aA (kq≤k2)∧aA (Kd.R (Kd.int .i64) 2 w' w.heap.size (fun _=>True) u7 x7_3)∧aA (Below w.heap.size w w'))
       case atStart=>exact ⟨(x7_2),(0),hB,H',⟨Nat.le_refl _⟩,⟨rA HO_7⟩,⟨blA⟩⟩
       case round=>
        clear H'
        try clear c1
        try clear c2
        try clear c6
        try clear c6b0
        try clear c7
        try clear c9
        try clear c9b0
        obtain ⟨x7_3,x10_3,rfl,HA,HK3,HO_7,HB⟩:=hrel
        cases gk with
        | zero=>exact absurd HA.out (by simp [aE.l2])
        | succ k3=>
         have H:=HA.out
         clear HA
         simp only [aE.l2] at H
         by_cases c10:x10_3<(l1.length:Int)
         ·
          rw [if_pos c10] at H
          have c10b0:=decide_eq_true c10
          clear c10
          by_cases c11:0≤x10_3
          rotate_left
          ·
           rw [if_neg c11] at H
           exact absurd H (by simp)
          rw [if_pos c11] at H
          have c11b0:=decide_eq_true c11
          clear c11
          by_cases c12:0≤x9_2
          rotate_left
          ·
           rw [if_neg c12] at H
           exact absurd H (by simp)
          rw [if_pos c12] at H
          have c12b0:=decide_eq_true c12
          clear c12
          by_cases c13:x9_2<(l2.length:Int)
          rotate_left
          ·
           rw [if_neg c13] at H
           exact absurd H (by simp)
          rw [if_pos c13] at H
          have c13b0:=decide_eq_true c13
          clear c13
          replace H:=bS H
          obtain ⟨⟨t266,t267,t268,t269⟩,A14,H⟩:=H
          try dsimp only at H
          replace H:=bS H
          obtain ⟨t271,A15,H⟩:=H
          try dsimp only at H
          have HC16:=aA.mk H
          clear H
          try go_wp2
          have n0_:=aA.mk (Kd.R_drew HO_7.out)
          have n1_:=aA.mk (al HB.out)
          clear HO_7
          clear HB
          have HO_7:=n0_
          have HB:=n1_
          clear n0_ n1_
          have p264:0≤(x10_3:Int):=dA
          have q264:x10_3<(l1.length:Int):=dA
          obtain ⟨ad264,e264,hx264_0,hx264_1,hx264_2,hx264_3⟩:=fA HR1.out x10_3 p264 q264
          have hw264_3:=hx264_3
          have hw264_2:=hx264_2
          have hw264_1:=hx264_1
          have hw264_0:=hx264_0
          cases e264
          replace hx264_0:=(HB.out.cell (World.block_lt_of_cell? w _ hx264_0)).trans hx264_0
          replace hx264_1:=(HB.out.cell (World.block_lt_of_cell? w _ hx264_1)).trans hx264_1
          replace hx264_2:=(HB.out.cell (World.block_lt_of_cell? w _ hx264_2)).trans hx264_2
          replace hx264_3:=(HB.out.cell (World.block_lt_of_cell? w _ hx264_3)).trans hx264_3
          replace p264:=eq_true p264
          replace q264:=eq_true q264
          have p265:0≤(x9_2:Int):=dA
          have q265:x9_2<(l2.length:Int):=dA
          obtain ⟨ad265,e265,hx265_0,hx265_1,hx265_2⟩:=cu HR2.out x9_2 p265 q265
          have hw265_2:=hx265_2
          have hw265_1:=hx265_1
          have hw265_0:=hx265_0
          cases e265
          replace hx265_0:=(HB.out.cell (World.block_lt_of_cell? w _ hx265_0)).trans hx265_0
          replace hx265_1:=(HB.out.cell (World.block_lt_of_cell? w _ hx265_1)).trans hx265_1
          replace hx265_2:=(HB.out.cell (World.block_lt_of_cell? w _ hx265_2)).trans hx265_2
          replace p265:=eq_true p265
          replace q265:=eq_true q265
          refine b7 (n:=16) (S:=fun w'=>w'.cell? (ad264.add ((x10_3).toNat*4))=some (.int .i64 ((ai l1 x10_3).f0.f0))∧w'.cell? ⟨(ad264.add ((x10_3).toNat*4)).block,(ad264.add ((x10_3).toNat*4)).off+1,none⟩=some (.int .i64 ((ai l1 x10_3).f0.f1))∧w'.cell? ⟨(ad264.add ((x10_3).toNat*4)).block,(ad264.add ((x10_3).toNat*4)).off+2,none⟩=some (.int .i64 ((ai l1 x10_3).f1.f0))∧w'.cell? ⟨(ad264.add ((x10_3).toNat*4)).block,(ad264.add ((x10_3).toNat*4)).off+3,none⟩=some (.int .i64 ((ai l1 x10_3).f1.f1))∧w'.cell? (ad265.add ((x9_2).toNat*3))=some (.int .i64 ((aD l2 x9_2).f0))∧w'.cell? ⟨(ad265.add ((x9_2).toNat*3)).block,(ad265.add ((x9_2).toNat*3)).off+1,none⟩=some (.int .i64 ((aD l2 x9_2).f1))∧w'.cell? ⟨(ad265.add ((x9_2).toNat*3)).block,(ad265.add ((x9_2).toNat*3)).off+2,none⟩=some (.int .i64 ((aD l2 x9_2).f2))) (ds:=[]) #[Z,Z,Z,Z,Z,Z,Z,Z,Z,Z,Z,Z,Z,Z,Z,Z] (by kernel_rfl) rfl rfl ⟨((HB.out.cell (World.block_lt_of_cell? w _ hw264_0)).trans hw264_0),((HB.out.cell (World.block_lt_of_cell? w _ hw264_1)).trans hw264_1),((HB.out.cell (World.block_lt_of_cell? w _ hw264_2)).trans hw264_2),((HB.out.cell (World.block_lt_of_cell? w _ hw264_3)).trans hw264_3),((HB.out.cell (World.block_lt_of_cell? w _ hw265_0)).trans hw265_0),((HB.out.cell (World.block_lt_of_cell? w _ hw265_1)).trans hw265_1),((HB.out.cell (World.block_lt_of_cell? w _ hw265_2)).trans hw265_2)⟩ (fun hHeld=>?_);refine bT aE.tab12 aE.bits12 (fun HT_ HW_=>?_)
          generalize wr.drew=w17 at HO_7 HB hx264_0 hx264_1 hx264_2 hx264_3 hx265_0 hx265_1 hx265_2 hHeld ⊢
          refine puA (i:=0) (N:=some 41) #[Y,Z,Z,Z,Z,Z,Z,Z,Z,Z,Z,Z,Z,Z,Z,Z] rfl rfl HT_ ?_
          refine puA (i:=1) (N:=some 42) #[Y,Y,Z,Z,Z,Z,Z,Z,Z,Z,Z,Z,Z,Z,Z,Z] rfl rfl HT_ ?_
          refine puA (i:=2) (N:=some 43) #[Y,Y,Y,Z,Z,Z,Z,Z,Z,Z,Z,Z,Z,Z,Z,Z] rfl rfl HT_ ?_
          refine puA (i:=3) (N:=some 44) #[Y,Y,Y,Y,Z,Z,Z,Z,Z,Z,Z,Z,Z,Z,Z,Z] rfl rfl HT_ ?_
          refine puA (i:=5) (N:=some 46) #[Y,Y,Y,Y,Z,Y,Z,Z,Z,Z,Z,Z,Z,Z,Z,Z] rfl rfl HT_ ?_
          refine puA (i:=6) (N:=some 47) #[Y,Y,Y,Y,Z,Y,Y,Z,Z,Z,Z,Z,Z,Z,Z,Z] rfl rfl HT_ ?_
          refine puA (i:=7) (N:=some 48) #[Y,Y,Y,Y,Z,Y,Y,Y,Z,Z,Z,Z,Z,Z,Z,Z] rfl rfl HT_ ?_
          refine taA (i:=4) (N:=some 45) #[Y,Y,Y,Y,Y,Y,Y,Y,Z,Z,Z,Z,Z,Z,Z,Z] rfl rfl HT_ HW_ hHeld ?_
          refine taA (i:=8) (N:=some 49) #[Y,Y,Y,Y,Y,Y,Y,Y,Y,Z,Z,Z,Z,Z,Z,Z] rfl rfl HT_ HW_ hHeld ?_
          refine d8 (σ:=Nat) 2 #[Y,Y,Y,Y,Y,Y,Y,Y,Y,Y,Y,Y,Y,Y,Z,Z] (fun s_=>[(50,.tuple #[.agg #[.int .i64 t266,.int .i64 t267,.int .i64 t268],.bool t269]),(11,.pointer (some ⟨s_,0,none⟩)),(40,.tuple #[.agg #[.int .i64 t266,.int .i64 t267,.int .i64 t268],.bool t269]),(51,.agg #[.int .i64 t266,.int .i64 t267,.int .i64 t268]),(52,.bool t269)]) (fun s_ w'=>(w'.cell? (ad264.add ((x10_3).toNat*4))=some (.int .i64 ((ai l1 x10_3).f0.f0))∧w'.cell? ⟨(ad264.add ((x10_3).toNat*4)).block,(ad264.add ((x10_3).toNat*4)).off+1,none⟩=some (.int .i64 ((ai l1 x10_3).f0.f1))∧w'.cell? ⟨(ad264.add ((x10_3).toNat*4)).block,(ad264.add ((x10_3).toNat*4)).off+2,none⟩=some (.int .i64 ((ai l1 x10_3).f1.f0))∧w'.cell? ⟨(ad264.add ((x10_3).toNat*4)).block,(ad264.add ((x10_3).toNat*4)).off+3,none⟩=some (.int .i64 ((ai l1 x10_3).f1.f1))∧w'.cell? (ad265.add ((x9_2).toNat*3))=some (.int .i64 ((aD l2 x9_2).f0))∧w'.cell? ⟨(ad265.add ((x9_2).toNat*3)).block,(ad265.add ((x9_2).toNat*3)).off+1,none⟩=some (.int .i64 ((aD l2 x9_2).f1))∧w'.cell? ⟨(ad265.add ((x9_2).toNat*3)).block,(ad265.add ((x9_2).toNat*3)).off+2,none⟩=some (.int .i64 ((aD l2 x9_2).f2)))∧(Kd.R (Kd.int .i64) 2 w' w.heap.size (fun _=>True) u7 x7_3)∧(w'.heap[s_]?=some (.cells #[.int .i64 0,.int .i64 0,.int .i64 0] 43 (0,0)))∧(w.heap.size≤s_)∧(w.heap.size≤s_)∧(Below w.heap.size w w')) ?_ ?_
          rotate_left
          ·
           intro hCont
           refine two_ (i:=9) (j:=13) (Ni:=some 50) (Nj:=some 11) #[Y,Y,Y,Y,Y,Y,Y,Y,Y,Y,Z,Z,Z,Z,Z,Z] #[Y,Y,Y,Y,Y,Y,Y,Y,Y,Z,Z,Z,Z,Y,Z,Z] rfl rfl rfl rfl (eY HT_.out (by kernel_rfl)) (by decide) (by decide) (fun K hK=>?_) (fun K hK=>?_)
           ·
            skip
            refine goC Tryz.func63 (aT.calls (w:=_) (h:=A14.out)) ?_
            intro w18 hb
            replace HO_7:=aA.mk (Kd.R_below (rA HO_7) hb)
            replace HB:=lB hb
            (try clear hb)
            (try clear hb2)
            (try clear hk)
            (try clear hi)
            refine hK.out _ _ ⟨((HB.out.cell (World.block_lt_of_cell? w _ hw264_0)).trans hw264_0),((HB.out.cell (World.block_lt_of_cell? w _ hw264_1)).trans hw264_1),((HB.out.cell (World.block_lt_of_cell? w _ hw264_2)).trans hw264_2),((HB.out.cell (World.block_lt_of_cell? w _ hw264_3)).trans hw264_3),((HB.out.cell (World.block_lt_of_cell? w _ hw265_0)).trans hw265_0),((HB.out.cell (World.block_lt_of_cell? w _ hw265_1)).trans hw265_1),((HB.out.cell (World.block_lt_of_cell? w _ hw265_2)).trans hw265_2)⟩ (fun hHeld=>?_)
            clear hK K
            refine nmA ?_
            refine puA (i:=10) (N:=some 40) #[Y,Y,Y,Y,Y,Y,Y,Y,Y,Y,Y,Z,Z,Z,Z,Z] rfl rfl HT_ ?_
            refine puA (i:=11) (N:=some 51) #[Y,Y,Y,Y,Y,Y,Y,Y,Y,Y,Y,Y,Z,Z,Z,Z] rfl rfl HT_ ?_
            refine puA (i:=12) (N:=some 52) #[Y,Y,Y,Y,Y,Y,Y,Y,Y,Y,Y,Y,Y,Z,Z,Z] rfl rfl HT_ ?_
            refine cV (i:=13) (N:=some 11) #[Y,Y,Y,Y,Y,Y,Y,Y,Y,Y,Y,Y,Y,Y,Z,Z] rfl rfl (bX HT_.out (by kernel_rfl)) (by decide) (fun K hK=>?_)
            refine ez ?hg (N:=11) ?hd (cs:=#[.int .i64 0,.int .i64 0,.int .i64 0]) (t:=43) ?hr ?_;(case hd=>rfl);(case hg=>rfl);(case hr=>first|(go_simp;done)|(go_simp;rfl))
            intro gb270 hg w19 hbox hb
            have BK270:=aA.mk hbox
            have GW270:=sA hg
            have GE270:=sA hg
            replace HO_7:=aA.mk (Kd.R_below (rA HO_7) hb)
            replace HB:=lB hb
            clear hb hbox hg
            refine hK.out _ _ ⟨((HB.out.cell (World.block_lt_of_cell? w _ hw264_0)).trans hw264_0),((HB.out.cell (World.block_lt_of_cell? w _ hw264_1)).trans hw264_1),((HB.out.cell (World.block_lt_of_cell? w _ hw264_2)).trans hw264_2),((HB.out.cell (World.block_lt_of_cell? w _ hw264_3)).trans hw264_3),((HB.out.cell (World.block_lt_of_cell? w _ hw265_0)).trans hw265_0),((HB.out.cell (World.block_lt_of_cell? w _ hw265_1)).trans hw265_1),((HB.out.cell (World.block_lt_of_cell? w _ hw265_2)).trans hw265_2)⟩ (fun hHeld=>?_)
            clear hK K
            refine nmA ?_
            exact b6 (by simp only [a8,Act.put,List.setIfInBounds_toArray,List.set_cons_zero,List.set_cons_succ]) (hCont (gb270) _ ⟨hHeld,(rA HO_7),(bkA BK270),GW270.out,GE270.out,blA⟩)
           ·
            skip
            refine ez ?hg (N:=11) ?hd (cs:=#[.int .i64 0,.int .i64 0,.int .i64 0]) (t:=43) ?hr ?_;(case hd=>rfl);(case hg=>rfl);(case hr=>first|(go_simp;done)|(go_simp;rfl))
            intro gb270 hg w18 hbox hb
            have BK270:=aA.mk hbox
            have GW270:=sA hg
            have GE270:=sA hg
            replace HO_7:=aA.mk (Kd.R_below (rA HO_7) hb)
            replace HB:=lB hb
            clear hb hbox hg
            refine hK.out _ _ ⟨((HB.out.cell (World.block_lt_of_cell? w _ hw264_0)).trans hw264_0),((HB.out.cell (World.block_lt_of_cell? w _ hw264_1)).trans hw264_1),((HB.out.cell (World.block_lt_of_cell? w _ hw264_2)).trans hw264_2),((HB.out.cell (World.block_lt_of_cell? w _ hw264_3)).trans hw264_3),((HB.out.cell (World.block_lt_of_cell? w _ hw265_0)).trans hw265_0),((HB.out.cell (World.block_lt_of_cell? w _ hw265_1)).trans hw265_1),((HB.out.cell (World.block_lt_of_cell? w _ hw265_2)).trans hw265_2)⟩ (fun hHeld=>?_)
            clear hK K
            refine nmA ?_
            refine cV (i:=9) (N:=some 50) #[Y,Y,Y,Y,Y,Y,Y,Y,Y,Y,Z,Z,Z,Y,Z,Z] rfl rfl (bX HT_.out (by kernel_rfl)) (by decide) (fun K hK=>?_)
            refine goC Tryz.func63 (aT.calls (w:=_) (h:=A14.out)) ?_
            intro w19 hb
            replace HO_7:=aA.mk (Kd.R_below (rA HO_7) hb)
            replace BK270:=kB BK270 hb
            replace HB:=lB hb
            (try clear hb)
            (try clear hb2)
            (try clear hk)
            (try clear hi)
            refine hK.out _ _ ⟨((HB.out.cell (World.block_lt_of_cell? w _ hw264_0)).trans hw264_0),((HB.out.cell (World.block_lt_of_cell? w _ hw264_1)).trans hw264_1),((HB.out.cell (World.block_lt_of_cell? w _ hw264_2)).trans hw264_2),((HB.out.cell (World.block_lt_of_cell? w _ hw264_3)).trans hw264_3),((HB.out.cell (World.block_lt_of_cell? w _ hw265_0)).trans hw265_0),((HB.out.cell (World.block_lt_of_cell? w _ hw265_1)).trans hw265_1),((HB.out.cell (World.block_lt_of_cell? w _ hw265_2)).trans hw265_2)⟩ (fun hHeld=>?_)
            clear hK K
            refine nmA ?_
            refine puA (i:=10) (N:=some 40) #[Y,Y,Y,Y,Y,Y,Y,Y,Y,Y,Y,Z,Z,Y,Z,Z] rfl rfl HT_ ?_
            refine puA (i:=11) (N:=some 51) #[Y,Y,Y,Y,Y,Y,Y,Y,Y,Y,Y,Y,Z,Y,Z,Z] rfl rfl HT_ ?_
            refine puA (i:=12) (N:=some 52) #[Y,Y,Y,Y,Y,Y,Y,Y,Y,Y,Y,Y,Y,Y,Z,Z] rfl rfl HT_ ?_
            exact b6 (by simp only [a8,Act.put,List.setIfInBounds_toArray,List.set_cons_zero,List.set_cons_succ]) (hCont (gb270) _ ⟨hHeld,(rA HO_7),(bkA BK270),GW270.out,GE270.out,blA⟩)
          rintro gb270 w20 ⟨hS_,h0_,h1_,h2_,h3_,h4_⟩
          have BK270:=aA.mk h1_
          have GW270:=aA.mk h2_
          have GE270:=aA.mk h3_
          replace HO_7:=aA.mk h0_
          replace HB:=aA.mk h4_
          clear h0_ h1_ h2_ h3_ h4_
          have hHeld:w20.cell? (ad264.add ((x10_3).toNat*4))=some (.int .i64 ((ai l1 x10_3).f0.f0))∧w20.cell? ⟨(ad264.add ((x10_3).toNat*4)).block,(ad264.add ((x10_3).toNat*4)).off+1,none⟩=some (.int .i64 ((ai l1 x10_3).f0.f1))∧w20.cell? ⟨(ad264.add ((x10_3).toNat*4)).block,(ad264.add ((x10_3).toNat*4)).off+2,none⟩=some (.int .i64 ((ai l1 x10_3).f1.f0))∧w20.cell? ⟨(ad264.add ((x10_3).toNat*4)).block,(ad264.add ((x10_3).toNat*4)).off+3,none⟩=some (.int .i64 ((ai l1 x10_3).f1.f1))∧w20.cell? (ad265.add ((x9_2).toNat*3))=some (.int .i64 ((aD l2 x9_2).f0))∧w20.cell? ⟨(ad265.add ((x9_2).toNat*3)).block,(ad265.add ((x9_2).toNat*3)).off+1,none⟩=some (.int .i64 ((aD l2 x9_2).f1))∧w20.cell? ⟨(ad265.add ((x9_2).toNat*3)).block,(ad265.add ((x9_2).toNat*3)).off+2,none⟩=some (.int .i64 ((aD l2 x9_2).f2)):=hS_
          refine b6 (a':=?_) ?_ ?_
          rotate_left
          ·
           simp only [a8,Act.put,List.setIfInBounds_toArray,List.set_cons_zero,List.set_cons_succ]
           rfl
          refine cV (i:=14) (N:=none) #[Y,Y,Y,Y,Y,Y,Y,Y,Y,Y,Y,Y,Y,Y,Y,Z] rfl rfl (bX HT_.out (by kernel_rfl)) (by decide) (fun K hK=>?_)
          have hs21:w20.cell? ⟨gb270,0,none⟩=some (.int .i64 0):=cA BK270 0
          have hfs21:=bH BK270.out 0
          have hs22:w20.cell? ⟨gb270,1,none⟩=some (.int .i64 0):=cA BK270 1
          have hfs22:=bH BK270.out 1
          have hs23:w20.cell? ⟨gb270,2,none⟩=some (.int .i64 0):=cA BK270 2
          have hfs23:=bH BK270.out 2
          refine skip_ (w1:=?_) (by rfl) rfl ?_ ?_
          rotate_left
          ·
           go_simp
           rfl
          refine hK.out _ _ ⟨((bv (p:=⟨gb270,_,none⟩) (by first|exact Nat.ne_of_lt (Nat.lt_of_lt_of_le (by have:=World.block_lt_of_cell? _ _ hw264_0;first|rwa [aM] at this|exact this) GW270.out)|(rw [aM];exact Nat.ne_of_lt (Nat.lt_of_lt_of_le (by have:=World.block_lt_of_cell? _ _ hw264_0;first|rwa [aM] at this|exact this) GW270.out))|(show (Addr.add _ _).block≠_;rw [aM];exact Nat.ne_of_lt (Nat.lt_of_lt_of_le (by have:=World.block_lt_of_cell? _ _ hw264_0;first|rwa [aM] at this|exact this) GW270.out))|(dsimp only;exact Nat.ne_of_lt (Nat.lt_of_lt_of_le (by have:=World.block_lt_of_cell? _ _ hw264_0;first|rwa [aM] at this|exact this) GW270.out))) _).trans (((bv (p:=⟨gb270,_,none⟩) (by first|exact Nat.ne_of_lt (Nat.lt_of_lt_of_le (by have:=World.block_lt_of_cell? _ _ hw264_0;first|rwa [aM] at this|exact this) GW270.out)|(rw [aM];exact Nat.ne_of_lt (Nat.lt_of_lt_of_le (by have:=World.block_lt_of_cell? _ _ hw264_0;first|rwa [aM] at this|exact this) GW270.out))|(show (Addr.add _ _).block≠_;rw [aM];exact Nat.ne_of_lt (Nat.lt_of_lt_of_le (by have:=World.block_lt_of_cell? _ _ hw264_0;first|rwa [aM] at this|exact this) GW270.out))|(dsimp only;exact Nat.ne_of_lt (Nat.lt_of_lt_of_le (by have:=World.block_lt_of_cell? _ _ hw264_0;first|rwa [aM] at this|exact this) GW270.out))) _).trans (((bv (p:=⟨gb270,_,none⟩) (by first|exact Nat.ne_of_lt (Nat.lt_of_lt_of_le (by have:=World.block_lt_of_cell? _ _ hw264_0;first|rwa [aM] at this|exact this) GW270.out)|(rw [aM];exact Nat.ne_of_lt (Nat.lt_of_lt_of_le (by have:=World.block_lt_of_cell? _ _ hw264_0;first|rwa [aM] at this|exact this) GW270.out))|(show (Addr.add _ _).block≠_;rw [aM];exact Nat.ne_of_lt (Nat.lt_of_lt_of_le (by have:=World.block_lt_of_cell? _ _ hw264_0;first|rwa [aM] at this|exact this) GW270.out))|(dsimp only;exact Nat.ne_of_lt (Nat.lt_of_lt_of_le (by have:=World.block_lt_of_cell? _ _ hw264_0;first|rwa [aM] at this|exact this) GW270.out))) _).trans (hHeld.1)))))),((bv (p:=⟨gb270,_,none⟩) (by first|exact Nat.ne_of_lt (Nat.lt_of_lt_of_le (by have:=World.block_lt_of_cell? _ _ hw264_1;first|rwa [aM] at this|exact this) GW270.out)|(rw [aM];exact Nat.ne_of_lt (Nat.lt_of_lt_of_le (by have:=World.block_lt_of_cell? _ _ hw264_1;first|rwa [aM] at this|exact this) GW270.out))|(show (Addr.add _ _).block≠_;rw [aM];exact Nat.ne_of_lt (Nat.lt_of_lt_of_le (by have:=World.block_lt_of_cell? _ _ hw264_1;first|rwa [aM] at this|exact this) GW270.out))|(dsimp only;exact Nat.ne_of_lt (Nat.lt_of_lt_of_le (by have:=World.block_lt_of_cell? _ _ hw264_1;first|rwa [aM] at this|exact this) GW270.out))) _).trans (((bv (p:=⟨gb270,_,none⟩) (by first|exact Nat.ne_of_lt (Nat.lt_of_lt_of_le (by have:=World.block_lt_of_cell? _ _ hw264_1;first|rwa [aM] at this|exact this) GW270.out)|(rw [aM];exact Nat.ne_of_lt (Nat.lt_of_lt_of_le (by have:=World.block_lt_of_cell? _ _ hw264_1;first|rwa [aM] at this|exact this) GW270.out))|(show (Addr.add _ _).block≠_;rw [aM];exact Nat.ne_of_lt (Nat.lt_of_lt_of_le (by have:=World.block_lt_of_cell? _ _ hw264_1;first|rwa [aM] at this|exact this) GW270.out))|(dsimp only;exact Nat.ne_of_lt (Nat.lt_of_lt_of_le (by have:=World.block_lt_of_cell? _ _ hw264_1;first|rwa [aM] at this|exact this) GW270.out))) _).trans (((bv (p:=⟨gb270,_,none⟩) (by first|exact Nat.ne_of_lt (Nat.lt_of_lt_of_le (by have:=World.block_lt_of_cell? _ _ hw264_1;first|rwa [aM] at this|exact this) GW270.out)|(rw [aM];exact Nat.ne_of_lt (Nat.lt_of_lt_of_le (by have:=World.block_lt_of_cell? _ _ hw264_1;first|rwa [aM] at this|exact this) GW270.out))|(show (Addr.add _ _).block≠_;rw [aM];exact Nat.ne_of_lt (Nat.lt_of_lt_of_le (by have:=World.block_lt_of_cell? _ _ hw264_1;first|rwa [aM] at this|exact this) GW270.out))|(dsimp only;exact Nat.ne_of_lt (Nat.lt_of_lt_of_le (by have:=World.block_lt_of_cell? _ _ hw264_1;first|rwa [aM] at this|exact this) GW270.out))) _).trans (hHeld.2.1)))))),((bv (p:=⟨gb270,_,none⟩) (by first|exact Nat.ne_of_lt (Nat.lt_of_lt_of_le (by have:=World.block_lt_of_cell? _ _ hw264_2;first|rwa [aM] at this|exact this) GW270.out)|(rw [aM];exact Nat.ne_of_lt (Nat.lt_of_lt_of_le (by have:=World.block_lt_of_cell? _ _ hw264_2;first|rwa [aM] at this|exact this) GW270.out))|(show (Addr.add _ _).block≠_;rw [aM];exact Nat.ne_of_lt (Nat.lt_of_lt_of_le (by have:=World.block_lt_of_cell? _ _ hw264_2;first|rwa [aM] at this|exact this) GW270.out))|(dsimp only;exact Nat.ne_of_lt (Nat.lt_of_lt_of_le (by have:=World.block_lt_of_cell? _ _ hw264_2;first|rwa [aM] at this|exact this) GW270.out))) _).trans (((bv (p:=⟨gb270,_,none⟩) (by first|exact Nat.ne_of_lt (Nat.lt_of_lt_of_le (by have:=World.block_lt_of_cell? _ _ hw264_2;first|rwa [aM] at this|exact this) GW270.out)|(rw [aM];exact Nat.ne_of_lt (Nat.lt_of_lt_of_le (by have:=World.block_lt_of_cell? _ _ hw264_2;first|rwa [aM] at this|exact this) GW270.out))|(show (Addr.add _ _).block≠_;rw [aM];exact Nat.ne_of_lt (Nat.lt_of_lt_of_le (by have:=World.block_lt_of_cell? _ _ hw264_2;first|rwa [aM] at this|exact this) GW270.out))|(dsimp only;exact Nat.ne_of_lt (Nat.lt_of_lt_of_le (by have:=World.block_lt_of_cell? _ _ hw264_2;first|rwa [aM] at this|exact this) GW270.out))) _).trans (((bv (p:=⟨gb270,_,none⟩) (by first|exact Nat.ne_of_lt (Nat.lt_of_lt_of_le (by have:=World.block_lt_of_cell? _ _ hw264_2;first|rwa [aM] at this|exact this) GW270.out)|(rw [aM];exact Nat.ne_of_lt (Nat.lt_of_lt_of_le (by have:=World.block_lt_of_cell? _ _ hw264_2;first|rwa [aM] at this|exact this) GW270.out))|(show (Addr.add _ _).block≠_;rw [aM];exact Nat.ne_of_lt (Nat.lt_of_lt_of_le (by have:=World.block_lt_of_cell? _ _ hw264_2;first|rwa [aM] at this|exact this) GW270.out))|(dsimp only;exact Nat.ne_of_lt (Nat.lt_of_lt_of_le (by have:=World.block_lt_of_cell? _ _ hw264_2;first|rwa [aM] at this|exact this) GW270.out))) _).trans (hHeld.2.2.1)))))),((bv (p:=⟨gb270,_,none⟩) (by first|exact Nat.ne_of_lt (Nat.lt_of_lt_of_le (by have:=World.block_lt_of_cell? _ _ hw264_3;first|rwa [aM] at this|exact this) GW270.out)|(rw [aM];exact Nat.ne_of_lt (Nat.lt_of_lt_of_le (by have:=World.block_lt_of_cell? _ _ hw264_3;first|rwa [aM] at this|exact this) GW270.out))|(show (Addr.add _ _).block≠_;rw [aM];exact Nat.ne_of_lt (Nat.lt_of_lt_of_le (by have:=World.block_lt_of_cell? _ _ hw264_3;first|rwa [aM] at this|exact this) GW270.out))|(dsimp only;exact Nat.ne_of_lt (Nat.lt_of_lt_of_le (by have:=World.block_lt_of_cell? _ _ hw264_3;first|rwa [aM] at this|exact this) GW270.out))) _).trans (((bv (p:=⟨gb270,_,none⟩) (by first|exact Nat.ne_of_lt (Nat.lt_of_lt_of_le (by have:=World.block_lt_of_cell? _ _ hw264_3;first|rwa [aM] at this|exact this) GW270.out)|(rw [aM];exact Nat.ne_of_lt (Nat.lt_of_lt_of_le (by have:=World.block_lt_of_cell? _ _ hw264_3;first|rwa [aM] at this|exact this) GW270.out))|(show (Addr.add _ _).block≠_;rw [aM];exact Nat.ne_of_lt (Nat.lt_of_lt_of_le (by have:=World.block_lt_of_cell? _ _ hw264_3;first|rwa [aM] at this|exact this) GW270.out))|(dsimp only;exact Nat.ne_of_lt (Nat.lt_of_lt_of_le (by have:=World.block_lt_of_cell? _ _ hw264_3;first|rwa [aM] at this|exact this) GW270.out))) _).trans (((bv (p:=⟨gb270,_,none⟩) (by first|exact Nat.ne_of_lt (Nat.lt_of_lt_of_le (by have:=World.block_lt_of_cell? _ _ hw264_3;first|rwa [aM] at this|exact this) GW270.out)|(rw [aM];exact Nat.ne_of_lt (Nat.lt_of_lt_of_le (by have:=World.block_lt_of_cell? _ _ hw264_3;first|rwa [aM] at this|exact this) GW270.out))|(show (Addr.add _ _).block≠_;rw [aM];exact Nat.ne_of_lt (Nat.lt_of_lt_of_le (by have:=World.block_lt_of_cell? _ _ hw264_3;first|rwa [aM] at this|exact this) GW270.out))|(dsimp only;exact Nat.ne_of_lt (Nat.lt_of_lt_of_le (by have:=World.block_lt_of_cell? _ _ hw264_3;first|rwa [aM] at this|exact this) GW270.out))) _).trans (hHeld.2.2.2.1)))))),((bv (p:=⟨gb270,_,none⟩) (by first|exact Nat.ne_of_lt (Nat.lt_of_lt_of_le (by have:=World.block_lt_of_cell? _ _ hw265_0;first|rwa [aM] at this|exact this) GW270.out)|(rw [aM];exact Nat.ne_of_lt (Nat.lt_of_lt_of_le (by have:=World.block_lt_of_cell? _ _ hw265_0;first|rwa [aM] at this|exact this) GW270.out))|(show (Addr.add _ _).block≠_;rw [aM];exact Nat.ne_of_lt (Nat.lt_of_lt_of_le (by have:=World.block_lt_of_cell? _ _ hw265_0;first|rwa [aM] at this|exact this) GW270.out))|(dsimp only;exact Nat.ne_of_lt (Nat.lt_of_lt_of_le (by have:=World.block_lt_of_cell? _ _ hw265_0;first|rwa [aM] at this|exact this) GW270.out))) _).trans (((bv (p:=⟨gb270,_,none⟩) (by first|exact Nat.ne_of_lt (Nat.lt_of_lt_of_le (by have:=World.block_lt_of_cell? _ _ hw265_0;first|rwa [aM] at this|exact this) GW270.out)|(rw [aM];exact Nat.ne_of_lt (Nat.lt_of_lt_of_le (by have:=World.block_lt_of_cell? _ _ hw265_0;first|rwa [aM] at this|exact this) GW270.out))|(show (Addr.add _ _).block≠_;rw [aM];exact Nat.ne_of_lt (Nat.lt_of_lt_of_le (by have:=World.block_lt_of_cell? _ _ hw265_0;first|rwa [aM] at this|exact this) GW270.out))|(dsimp only;exact Nat.ne_of_lt (Nat.lt_of_lt_of_le (by have:=World.block_lt_of_cell? _ _ hw265_0;first|rwa [aM] at this|exact this) GW270.out))) _).trans (((bv (p:=⟨gb270,_,none⟩) (by first|exact Nat.ne_of_lt (Nat.lt_of_lt_of_le (by have:=World.block_lt_of_cell? _ _ hw265_0;first|rwa [aM] at this|exact this) GW270.out)|(rw [aM];exact Nat.ne_of_lt (Nat.lt_of_lt_of_le (by have:=World.block_lt_of_cell? _ _ hw265_0;first|rwa [aM] at this|exact this) GW270.out))|(show (Addr.add _ _).block≠_;rw [aM];exact Nat.ne_of_lt (Nat.lt_of_lt_of_le (by have:=World.block_lt_of_cell? _ _ hw265_0;first|rwa [aM] at this|exact this) GW270.out))|(dsimp only;exact Nat.ne_of_lt (Nat.lt_of_lt_of_le (by have:=World.block_lt_of_cell? _ _ hw265_0;first|rwa [aM] at this|exact this) GW270.out))) _).trans (hHeld.2.2.2.2.1)))))),((bv (p:=⟨gb270,_,none⟩) (by first|exact Nat.ne_of_lt (Nat.lt_of_lt_of_le (by have:=World.block_lt_of_cell? _ _ hw265_1;first|rwa [aM] at this|exact this) GW270.out)|(rw [aM];exact Nat.ne_of_lt (Nat.lt_of_lt_of_le (by have:=World.block_lt_of_cell? _ _ hw265_1;first|rwa [aM] at this|exact this) GW270.out))|(show (Addr.add _ _).block≠_;rw [aM];exact Nat.ne_of_lt (Nat.lt_of_lt_of_le (by have:=World.block_lt_of_cell? _ _ hw265_1;first|rwa [aM] at this|exact this) GW270.out))|(dsimp only;exact Nat.ne_of_lt (Nat.lt_of_lt_of_le (by have:=World.block_lt_of_cell? _ _ hw265_1;first|rwa [aM] at this|exact this) GW270.out))) _).trans (((bv (p:=⟨gb270,_,none⟩) (by first|exact Nat.ne_of_lt (Nat.lt_of_lt_of_le (by have:=World.block_lt_of_cell? _ _ hw265_1;first|rwa [aM] at this|exact this) GW270.out)|(rw [aM];exact Nat.ne_of_lt (Nat.lt_of_lt_of_le (by have:=World.block_lt_of_cell? _ _ hw265_1;first|rwa [aM] at this|exact this) GW270.out))|(show (Addr.add _ _).block≠_;rw [aM];exact Nat.ne_of_lt (Nat.lt_of_lt_of_le (by have:=World.block_lt_of_cell? _ _ hw265_1;first|rwa [aM] at this|exact this) GW270.out))|(dsimp only;exact Nat.ne_of_lt (Nat.lt_of_lt_of_le (by have:=World.block_lt_of_cell? _ _ hw265_1;first|rwa [aM] at this|exact this) GW270.out))) _).trans (((bv (p:=⟨gb270,_,none⟩) (by first|exact Nat.ne_of_lt (Nat.lt_of_lt_of_le (by have:=World.block_lt_of_cell? _ _ hw265_1;first|rwa [aM] at this|exact this) GW270.out)|(rw [aM];exact Nat.ne_of_lt (Nat.lt_of_lt_of_le (by have:=World.block_lt_of_cell? _ _ hw265_1;first|rwa [aM] at this|exact this) GW270.out))|(show (Addr.add _ _).block≠_;rw [aM];exact Nat.ne_of_lt (Nat.lt_of_lt_of_le (by have:=World.block_lt_of_cell? _ _ hw265_1;first|rwa [aM] at this|exact this) GW270.out))|(dsimp only;exact Nat.ne_of_lt (Nat.lt_of_lt_of_le (by have:=World.block_lt_of_cell? _ _ hw265_1;first|rwa [aM] at this|exact this) GW270.out))) _).trans (hHeld.2.2.2.2.2.1)))))),((bv (p:=⟨gb270,_,none⟩) (by first|exact Nat.ne_of_lt (Nat.lt_of_lt_of_le (by have:=World.block_lt_of_cell? _ _ hw265_2;first|rwa [aM] at this|exact this) GW270.out)|(rw [aM];exact Nat.ne_of_lt (Nat.lt_of_lt_of_le (by have:=World.block_lt_of_cell? _ _ hw265_2;first|rwa [aM] at this|exact this) GW270.out))|(show (Addr.add _ _).block≠_;rw [aM];exact Nat.ne_of_lt (Nat.lt_of_lt_of_le (by have:=World.block_lt_of_cell? _ _ hw265_2;first|rwa [aM] at this|exact this) GW270.out))|(dsimp only;exact Nat.ne_of_lt (Nat.lt_of_lt_of_le (by have:=World.block_lt_of_cell? _ _ hw265_2;first|rwa [aM] at this|exact this) GW270.out))) _).trans (((bv (p:=⟨gb270,_,none⟩) (by first|exact Nat.ne_of_lt (Nat.lt_of_lt_of_le (by have:=World.block_lt_of_cell? _ _ hw265_2;first|rwa [aM] at this|exact this) GW270.out)|(rw [aM];exact Nat.ne_of_lt (Nat.lt_of_lt_of_le (by have:=World.block_lt_of_cell? _ _ hw265_2;first|rwa [aM] at this|exact this) GW270.out))|(show (Addr.add _ _).block≠_;rw [aM];exact Nat.ne_of_lt (Nat.lt_of_lt_of_le (by have:=World.block_lt_of_cell? _ _ hw265_2;first|rwa [aM] at this|exact this) GW270.out))|(dsimp only;exact Nat.ne_of_lt (Nat.lt_of_lt_of_le (by have:=World.block_lt_of_cell? _ _ hw265_2;first|rwa [aM] at this|exact this) GW270.out))) _).trans (((bv (p:=⟨gb270,_,none⟩) (by first|exact Nat.ne_of_lt (Nat.lt_of_lt_of_le (by have:=World.block_lt_of_cell? _ _ hw265_2;first|rwa [aM] at this|exact this) GW270.out)|(rw [aM];exact Nat.ne_of_lt (Nat.lt_of_lt_of_le (by have:=World.block_lt_of_cell? _ _ hw265_2;first|rwa [aM] at this|exact this) GW270.out))|(show (Addr.add _ _).block≠_;rw [aM];exact Nat.ne_of_lt (Nat.lt_of_lt_of_le (by have:=World.block_lt_of_cell? _ _ hw265_2;first|rwa [aM] at this|exact this) GW270.out))|(dsimp only;exact Nat.ne_of_lt (Nat.lt_of_lt_of_le (by have:=World.block_lt_of_cell? _ _ hw265_2;first|rwa [aM] at this|exact this) GW270.out))) _).trans (hHeld.2.2.2.2.2.2))))))⟩ (fun hHeld=>?_)
          clear hK K
          refine puA (i:=15) (N:=some 12) #[Y,Y,Y,Y,Y,Y,Y,Y,Y,Y,Y,Y,Y,Y,Y,Y] rfl rfl HT_ ?_
          refine cg (br HT_.out (by kernel_rfl)) ?_
          obtain ⟨hcz24_0,hcz24_1,hcz24_2,hfz24_0,hfz24_1,hfz24_2⟩:=cz3 BK270
          go_upto_region 14 with (first|((with_reducible refine gd 55 rfl ?_);refine gC (some 55) rfl Tryz.func64 (bc.calls (w:=_) (hr0:=Kd.C_below HR2.out blA) (hc0:=HC2.out) (h:=A15.out)) ?_;intro w25 hb;have n0_:=aA.mk (Kd.R_below (by (with_reducible repeat (first|apply Kd.R_alloc|apply Kd.R_drewN|apply Kd.R_drew));exact (Kd.R_mono (Kd.R_far (p:=⟨gb270,2,none⟩) (Kd.R_far (p:=⟨gb270,1,none⟩) (Kd.R_far (p:=⟨gb270,0,none⟩) (Kd.R_types HO_7.out BK270.out (by decide)) (fun _ hk=>hk.2) (.int .i64 t266)) (fun _ hk=>hk.2) (.int .i64 t267)) (fun _ hk=>hk.2) (.int .i64 t268)) (fun _ h_=>h_.1))) hb);have n1_:=aA.mk (bL (g:=gb270) (o:=.cells #[.int .i64 t266,.int .i64 t267,.int .i64 t268] 43 (0,0)) (bpA BK270) hb);have n2_:=lB hb;clear HO_7;clear BK270;clear HB;have HO_7:=n0_;have BK270:=n1_;have HB:=n2_;clear n0_ n1_ n2_;clear hb))
          (try simp only [Act.put,List.setIfInBounds_toArray,List.set_cons_zero,List.set_cons_succ])
          go_cut [72] (fun v72 wc=>∃ (kq:Nat) (x72_15:Bool),v72=.bool x72_15∧aA (aE.j3 kq a0 l1 l2 x7_3 x9_2 x10_3 t271 x72_15=some r)∧aA (kq≤k3)∧aA (Kd.R (Kd.int .i64) 2 wc w.heap.size (fun _=>True) u7 x7_3)∧aA (wc.heap[gb270]?=some (.cells #[.int .i64 t266,.int .i64 t267,.int .i64 t268] 43 (0,0)))∧aA (Below w.heap.size w wc))
          case first=>
           have H:=HC16.out
           clear HC16
           by_cases c26:t269=true
           ·
            subst c26
            rw [if_pos rfl] at H
            try dsimp only at H
            by_cases c27:t271<0
            ·
             rw [if_pos c27] at H
             have c27b0:=decide_eq_true c27
             clear c27
             (first|rw [c27b0]|(simp only [dh,di];rw [c27b0])|skip)
             have H':=aA.mk H
             clear H
             try go_wp2
             have n0_:=aA.mk (Kd.R_drew HO_7.out)
             have n1_:=aA.mk (ac BK270.out)
             have n2_:=aA.mk (al HB.out)
             clear HO_7
             clear BK270
             clear HB
             have HO_7:=n0_
             have BK270:=n1_
             have HB:=n2_
             clear n0_ n1_ n2_
             refine b7 (n:=17) (S:=fun w'=>True) (ds:=[]) #[Z,Z,Z,Z,Z,Z,Z,Z,Z,Z,Z,Z,Z,Z,Z,Z,Z] (by kernel_rfl) rfl rfl trivial (fun hHeld=>?_);refine bT aE.tab14 aE.bits14 (fun HT_ HW_=>?_)
             generalize w25.drew=w28 at HO_7 BK270 HB hHeld ⊢
             refine puA (i:=0) (N:=some 56) #[Y,Z,Z,Z,Z,Z,Z,Z,Z,Z,Z,Z,Z,Z,Z,Z,Z] rfl rfl HT_ ?_
             refine puA (i:=1) (N:=some 57) #[Y,Y,Z,Z,Z,Z,Z,Z,Z,Z,Z,Z,Z,Z,Z,Z,Z] rfl rfl HT_ ?_
             refine puA (i:=2) (N:=some 58) #[Y,Y,Y,Z,Z,Z,Z,Z,Z,Z,Z,Z,Z,Z,Z,Z,Z] rfl rfl HT_ ?_
             refine puA (i:=3) (N:=some 59) #[Y,Y,Y,Y,Z,Z,Z,Z,Z,Z,Z,Z,Z,Z,Z,Z,Z] rfl rfl HT_ ?_
             refine puA (i:=4) (N:=some 60) #[Y,Y,Y,Y,Y,Z,Z,Z,Z,Z,Z,Z,Z,Z,Z,Z,Z] rfl rfl HT_ ?_
             refine puA (i:=5) (N:=some 61) #[Y,Y,Y,Y,Y,Y,Z,Z,Z,Z,Z,Z,Z,Z,Z,Z,Z] rfl rfl HT_ ?_
             refine puA (i:=6) (N:=some 62) #[Y,Y,Y,Y,Y,Y,Y,Z,Z,Z,Z,Z,Z,Z,Z,Z,Z] rfl rfl HT_ ?_
             refine puU (i:=7) (N:=some 63) #[Y,Y,Y,Y,Y,Y,Y,Y,Z,Z,Z,Z,Z,Z,Z,Z,Z] rfl rfl HT_ ?_
             refine puU (i:=8) (N:=some 64) #[Y,Y,Y,Y,Y,Y,Y,Y,Y,Z,Z,Z,Z,Z,Z,Z,Z] rfl rfl HT_ ?_
             refine puU (i:=9) (N:=some 65) #[Y,Y,Y,Y,Y,Y,Y,Y,Y,Y,Z,Z,Z,Z,Z,Z,Z] rfl rfl HT_ ?_
             refine puU (i:=10) (N:=some 66) #[Y,Y,Y,Y,Y,Y,Y,Y,Y,Y,Y,Z,Z,Z,Z,Z,Z] rfl rfl HT_ ?_
             refine puU (i:=11) (N:=some 67) #[Y,Y,Y,Y,Y,Y,Y,Y,Y,Y,Y,Y,Z,Z,Z,Z,Z] rfl rfl HT_ ?_
             refine puU (i:=12) (N:=some 68) #[Y,Y,Y,Y,Y,Y,Y,Y,Y,Y,Y,Y,Y,Z,Z,Z,Z] rfl rfl HT_ ?_
             refine puU (i:=13) (N:=some 69) #[Y,Y,Y,Y,Y,Y,Y,Y,Y,Y,Y,Y,Y,Y,Z,Z,Z] rfl rfl HT_ ?_
             refine puU (i:=14) (N:=some 70) #[Y,Y,Y,Y,Y,Y,Y,Y,Y,Y,Y,Y,Y,Y,Y,Z,Z] rfl rfl HT_ ?_
             refine puU (i:=15) (N:=some 71) #[Y,Y,Y,Y,Y,Y,Y,Y,Y,Y,Y,Y,Y,Y,Y,Y,Z] rfl rfl HT_ ?_
             refine puA (i:=16) (N:=some 72) #[Y,Y,Y,Y,Y,Y,Y,Y,Y,Y,Y,Y,Y,Y,Y,Y,Y] rfl rfl HT_ ?_
             refine cg (br HT_.out (by kernel_rfl)) ?_
             try go_wp2
             go_meet
             case rel=>exact ⟨_,(true),hB,H',⟨by have:=HK1.out;have:=HK2.out;have:=HK3.out;first|omega|exact Nat.le_refl _⟩,⟨rA HO_7⟩,⟨bkA BK270⟩,⟨blA⟩⟩
            ·
             rw [if_neg c27] at H
             have c27b0:=decide_eq_false c27
             clear c27
             (first|rw [c27b0]|(simp only [dh,di];rw [c27b0])|skip)
             by_cases c29:0≤t271
             rotate_left
             ·
              rw [if_neg c29] at H
              exact absurd H (by simp)
             rw [if_pos c29] at H
             have c29b0:=decide_eq_true c29
             clear c29
             by_cases c30:t271<(x7_3.length:Int)
             rotate_left
             ·
              rw [if_neg c30] at H
              exact absurd H (by simp)
             rw [if_pos c30] at H
             have c30b0:=decide_eq_true c30
             clear c30
             by_cases c31:x9_2<(x7_3.length:Int)
             rotate_left
             ·
              rw [if_neg c31] at H
              exact absurd H (by simp)
             rw [if_pos c31] at H
             have c31b0:=decide_eq_true c31
             clear c31
             have H':=aA.mk H
             clear H
             try go_wp2
             have n0_:=aA.mk (Kd.R_drew HO_7.out)
             have n1_:=aA.mk (ac BK270.out)
             have n2_:=aA.mk (al HB.out)
             clear HO_7
             clear BK270
             clear HB
             have HO_7:=n0_
             have BK270:=n1_
             have HB:=n2_
             clear n0_ n1_ n2_
             obtain ⟨Ao33,co33,eo33⟩:=Kd.R_slice HO_7.out
             (first|subst eo33|(injection eo33 with f1_ f2_ f3_;have f4_:=f1_.symm;have f5_:=f3_.symm;clear f1_ f2_ f3_;subst f4_;subst f5_))
             have p272:0≤(t271:Int):=dA
             have q272:t271<(x7_3.length:Int):=dA
             obtain ⟨ad272,e272,hx272_0⟩:=Kd.at_int (Kd.R_reads' HO_7.out).2.2 t271 p272 q272
             cases e272
             replace p272:=eq_true p272
             replace q272:=eq_true q272
             have p273:0≤(x9_2:Int):=dA
             have q273:x9_2<(x7_3.length:Int):=dA
             obtain ⟨ad273,e273,hx273_0⟩:=Kd.at_int (Kd.R_reads' HO_7.out).2.2 x9_2 p273 q273
             obtain rfl:ad272=ad273:=(by injection e273)
             replace p273:=eq_true p273
             replace q273:=eq_true q273
             refine b7 (n:=17) (S:=fun w'=>w'.cell? (ad272.add (t271).toNat)=some (.int .i64 (rd x7_3 t271))∧w'.cell? (ad272.add (x9_2).toNat)=some (.int .i64 (rd x7_3 x9_2))) (ds:=[]) #[Z,Z,Z,Z,Z,Z,Z,Z,Z,Z,Z,Z,Z,Z,Z,Z,Z] (by kernel_rfl) rfl rfl ⟨hx272_0,hx273_0⟩ (fun hHeld=>?_);refine bT aE.tab14 aE.bits14 (fun HT_ HW_=>?_)
             generalize w25.drew=w32 at HO_7 BK270 HB hx272_0 hx273_0 hHeld ⊢
             refine puA (i:=0) (N:=some 56) #[Y,Z,Z,Z,Z,Z,Z,Z,Z,Z,Z,Z,Z,Z,Z,Z,Z] rfl rfl HT_ ?_
             refine puA (i:=1) (N:=some 57) #[Y,Y,Z,Z,Z,Z,Z,Z,Z,Z,Z,Z,Z,Z,Z,Z,Z] rfl rfl HT_ ?_
             refine puA (i:=2) (N:=some 58) #[Y,Y,Y,Z,Z,Z,Z,Z,Z,Z,Z,Z,Z,Z,Z,Z,Z] rfl rfl HT_ ?_
             refine puA (i:=3) (N:=some 59) #[Y,Y,Y,Y,Z,Z,Z,Z,Z,Z,Z,Z,Z,Z,Z,Z,Z] rfl rfl HT_ ?_
             refine puA (i:=4) (N:=some 60) #[Y,Y,Y,Y,Y,Z,Z,Z,Z,Z,Z,Z,Z,Z,Z,Z,Z] rfl rfl HT_ ?_
             refine puA (i:=5) (N:=some 61) #[Y,Y,Y,Y,Y,Y,Z,Z,Z,Z,Z,Z,Z,Z,Z,Z,Z] rfl rfl HT_ ?_
             refine puA (i:=6) (N:=some 62) #[Y,Y,Y,Y,Y,Y,Y,Z,Z,Z,Z,Z,Z,Z,Z,Z,Z] rfl rfl HT_ ?_
             refine puA (i:=7) (N:=some 63) #[Y,Y,Y,Y,Y,Y,Y,Y,Z,Z,Z,Z,Z,Z,Z,Z,Z] rfl rfl HT_ ?_
             refine puA (i:=8) (N:=some 64) #[Y,Y,Y,Y,Y,Y,Y,Y,Y,Z,Z,Z,Z,Z,Z,Z,Z] rfl rfl HT_ ?_
             refine puA (i:=9) (N:=some 65) #[Y,Y,Y,Y,Y,Y,Y,Y,Y,Y,Z,Z,Z,Z,Z,Z,Z] rfl rfl HT_ ?_
             refine puA (i:=11) (N:=some 67) #[Y,Y,Y,Y,Y,Y,Y,Y,Y,Y,Z,Y,Z,Z,Z,Z,Z] rfl rfl HT_ ?_
             refine puA (i:=12) (N:=some 68) #[Y,Y,Y,Y,Y,Y,Y,Y,Y,Y,Z,Y,Y,Z,Z,Z,Z] rfl rfl HT_ ?_
             refine puA (i:=13) (N:=some 69) #[Y,Y,Y,Y,Y,Y,Y,Y,Y,Y,Z,Y,Y,Y,Z,Z,Z] rfl rfl HT_ ?_
             refine taA (i:=10) (N:=some 66) #[Y,Y,Y,Y,Y,Y,Y,Y,Y,Y,Y,Y,Y,Y,Z,Z,Z] rfl rfl HT_ HW_ hHeld ?_
             refine taA (i:=14) (N:=some 70) #[Y,Y,Y,Y,Y,Y,Y,Y,Y,Y,Y,Y,Y,Y,Y,Z,Z] rfl rfl HT_ HW_ hHeld ?_
             refine puA (i:=15) (N:=some 71) #[Y,Y,Y,Y,Y,Y,Y,Y,Y,Y,Y,Y,Y,Y,Y,Y,Z] rfl rfl HT_ ?_
             refine puA (i:=16) (N:=some 72) #[Y,Y,Y,Y,Y,Y,Y,Y,Y,Y,Y,Y,Y,Y,Y,Y,Y] rfl rfl HT_ ?_
             refine cg (br HT_.out (by kernel_rfl)) ?_
             try go_wp2
             go_meet
             case rel=>exact ⟨_,(((rd x7_3 t271) == (rd x7_3 x9_2))),hB,H',⟨by have:=HK1.out;have:=HK2.out;have:=HK3.out;first|omega|exact Nat.le_refl _⟩,⟨rA HO_7⟩,⟨bkA BK270⟩,⟨blA⟩⟩
           ·
            replace c26:=Bool.eq_false_iff.mpr c26
            subst c26
            rw [if_neg (show ¬ (false=true) by decide)] at H
            try dsimp only at H
            have H':=aA.mk H
            clear H
            try go_wp2
            have n0_:=aA.mk (Kd.R_drew HO_7.out)
            have n1_:=aA.mk (ac BK270.out)
            have n2_:=aA.mk (al HB.out)
            clear HO_7
            clear BK270
            clear HB
            have HO_7:=n0_
            have BK270:=n1_
            have HB:=n2_
            clear n0_ n1_ n2_
            refine b7 (n:=17) (S:=fun w'=>True) (ds:=[]) #[Z,Z,Z,Z,Z,Z,Z,Z,Z,Z,Z,Z,Z,Z,Z,Z,Z] (by kernel_rfl) rfl rfl trivial (fun hHeld=>?_);refine bT aE.tab14 aE.bits14 (fun HT_ HW_=>?_)
            generalize w25.drew=w34 at HO_7 BK270 HB hHeld ⊢
            refine puA (i:=0) (N:=some 56) #[Y,Z,Z,Z,Z,Z,Z,Z,Z,Z,Z,Z,Z,Z,Z,Z,Z] rfl rfl HT_ ?_
            refine puA (i:=1) (N:=some 57) #[Y,Y,Z,Z,Z,Z,Z,Z,Z,Z,Z,Z,Z,Z,Z,Z,Z] rfl rfl HT_ ?_
            refine puA (i:=2) (N:=some 58) #[Y,Y,Y,Z,Z,Z,Z,Z,Z,Z,Z,Z,Z,Z,Z,Z,Z] rfl rfl HT_ ?_
            refine puU (i:=3) (N:=some 59) #[Y,Y,Y,Y,Z,Z,Z,Z,Z,Z,Z,Z,Z,Z,Z,Z,Z] rfl rfl HT_ ?_
            refine puU (i:=4) (N:=some 60) #[Y,Y,Y,Y,Y,Z,Z,Z,Z,Z,Z,Z,Z,Z,Z,Z,Z] rfl rfl HT_ ?_
            refine puA (i:=5) (N:=some 61) #[Y,Y,Y,Y,Y,Y,Z,Z,Z,Z,Z,Z,Z,Z,Z,Z,Z] rfl rfl HT_ ?_
            refine puA (i:=6) (N:=some 62) #[Y,Y,Y,Y,Y,Y,Y,Z,Z,Z,Z,Z,Z,Z,Z,Z,Z] rfl rfl HT_ ?_
            refine puU (i:=7) (N:=some 63) #[Y,Y,Y,Y,Y,Y,Y,Y,Z,Z,Z,Z,Z,Z,Z,Z,Z] rfl rfl HT_ ?_
            refine puU (i:=8) (N:=some 64) #[Y,Y,Y,Y,Y,Y,Y,Y,Y,Z,Z,Z,Z,Z,Z,Z,Z] rfl rfl HT_ ?_
            refine puU (i:=9) (N:=some 65) #[Y,Y,Y,Y,Y,Y,Y,Y,Y,Y,Z,Z,Z,Z,Z,Z,Z] rfl rfl HT_ ?_
            refine puU (i:=10) (N:=some 66) #[Y,Y,Y,Y,Y,Y,Y,Y,Y,Y,Y,Z,Z,Z,Z,Z,Z] rfl rfl HT_ ?_
            refine puU (i:=11) (N:=some 67) #[Y,Y,Y,Y,Y,Y,Y,Y,Y,Y,Y,Y,Z,Z,Z,Z,Z] rfl rfl HT_ ?_
            refine puU (i:=12) (N:=some 68) #[Y,Y,Y,Y,Y,Y,Y,Y,Y,Y,Y,Y,Y,Z,Z,Z,Z] rfl rfl HT_ ?_
            refine puU (i:=13) (N:=some 69) #[Y,Y,Y,Y,Y,Y,Y,Y,Y,Y,Y,Y,Y,Y,Z,Z,Z] rfl rfl HT_ ?_
            refine puU (i:=14) (N:=some 70) #[Y,Y,Y,Y,Y,Y,Y,Y,Y,Y,Y,Y,Y,Y,Y,Z,Z] rfl rfl HT_ ?_
            refine puU (i:=15) (N:=some 71) #[Y,Y,Y,Y,Y,Y,Y,Y,Y,Y,Y,Y,Y,Y,Y,Y,Z] rfl rfl HT_ ?_
            refine puA (i:=16) (N:=some 72) #[Y,Y,Y,Y,Y,Y,Y,Y,Y,Y,Y,Y,Y,Y,Y,Y,Y] rfl rfl HT_ ?_
            refine cg (br HT_.out (by kernel_rfl)) ?_
            try go_wp2
            go_meet
            case rel=>exact ⟨_,(true),hB,H',⟨by have:=HK1.out;have:=HK2.out;have:=HK3.out;first|omega|exact Nat.le_refl _⟩,⟨rA HO_7⟩,⟨bkA BK270⟩,⟨blA⟩⟩
          case rest=>
           clear HC16
           try clear c2
           try clear c6
           try clear c26
           try clear c27
           try clear c27b0
           try clear c29
           try clear c29b0
           try clear c30
           try clear c30b0
           try clear c31
           try clear c31b0
           try clear hcz24_0
           try clear hcz24_1
           try clear hcz24_2
           try clear hfz24_0
           try clear hfz24_1
           try clear hfz24_2
           try clear hx272_0
           try clear hx273_0
           try clear p272
           try clear p273
           try clear q272
           try clear q273
           obtain ⟨kq,x72_15,rfl,HA,HJ15,HO_7,BK270,HB⟩:=hcut
           cases kq with
           | zero=>exact absurd HA.out (by simp [aE.j3])
           | succ kj15=>
            have H:=HA.out
            clear HA
            simp only [aE.j3] at H
            by_cases c35:x72_15=true
            ·
             subst c35
             rw [if_pos rfl] at H
             try dsimp only at H
             have H':=aA.mk H
             clear H
             go_wp2
             go_roundg kj15
             case measure=>have:=HK1.out;have:=HK2.out;have:=HK3.out;have:=HJ15.out;omega
             case rel=>exact ⟨(x7_3),(wrap64 (x10_3+1)),hB,H',⟨by have:=HK1.out;have:=HK2.out;have:=HK3.out;have:=HJ15.out;omega⟩,⟨rA HO_7⟩,⟨blA⟩⟩
            ·
             replace c35:=Bool.eq_false_iff.mpr c35
             subst c35
             rw [if_neg (show ¬ (false=true) by decide)] at H
             try dsimp only at H
             by_cases c36:0≤t271
             rotate_left
             ·
              rw [if_neg c36] at H
              exact absurd H (by simp)
             rw [if_pos c36] at H
             have c36b0:=decide_eq_true c36
             clear c36
             by_cases c37:t271<(x7_3.length:Int)
             rotate_left
             ·
              rw [if_neg c37] at H
              exact absurd H (by simp)
             rw [if_pos c37] at H
             have c37b0:=decide_eq_true c37
             clear c37
             by_cases c38:0≤x9_2
             rotate_left
             ·
              rw [if_neg c38] at H
              exact absurd H (by simp)
             rw [if_pos c38] at H
             have c38b0:=decide_eq_true c38
             clear c38
             by_cases c39:x9_2<(x7_3.length:Int)
             rotate_left
             ·
              rw [if_neg c39] at H
              exact absurd H (by simp)
             rw [if_pos c39] at H
             have c39b0:=decide_eq_true c39
             clear c39
             obtain ⟨ji40,hji40⟩:∃ j_:Int,(mn (rd x7_3 t271) (rd x7_3 x9_2))=j_:=⟨_,rfl⟩
             replace H:(aE.l3 kj15 a0 l1 l2 x7_3 x9_2 x10_3 ji40 (mx (rd x7_3 t271) (rd x7_3 x9_2)) 0)=some r:=by first|(rw [hji40] at H;exact H)|(simp only [hji40] at H ⊢;exact H)
             have hji40_:(if (rd x7_3 x9_2)<(rd x7_3 t271) then (rd x7_3 x9_2) else (rd x7_3 t271))=ji40:=hji40
             obtain ⟨ji41,hji41⟩:∃ j_:Int,(mx (rd x7_3 t271) (rd x7_3 x9_2))=j_:=⟨_,rfl⟩
             replace H:(aE.l3 kj15 a0 l1 l2 x7_3 x9_2 x10_3 ji40 ji41 0)=some r:=by first|(rw [hji41] at H;exact H)|(simp only [hji41] at H ⊢;exact H)
             have hji41_:(if (rd x7_3 t271)<(rd x7_3 x9_2) then (rd x7_3 x9_2) else (rd x7_3 t271))=ji41:=hji41
             have H':=aA.mk H
             clear H
             try go_wp2
             have n0_:=aA.mk (Kd.R_drew HO_7.out)
             have n1_:=aA.mk (ac BK270.out)
             have n2_:=aA.mk (al HB.out)
             clear HO_7
             clear BK270
             clear HB
             have HO_7:=n0_
             have BK270:=n1_
             have HB:=n2_
             clear n0_ n1_ n2_
             obtain ⟨Ao43,co43,eo43⟩:=Kd.R_slice HO_7.out
             (first|subst eo43|(injection eo43 with f1_ f2_ f3_;have f4_:=f1_.symm;have f5_:=f3_.symm;clear f1_ f2_ f3_;subst f4_;subst f5_))
             have p274:0≤(t271:Int):=dA
             have q274:t271<(x7_3.length:Int):=dA
             obtain ⟨ad274,e274,hx274_0⟩:=Kd.at_int (Kd.R_reads' HO_7.out).2.2 t271 p274 q274
             cases e274
             obtain ⟨gq8,cq8,eq8_,_,_,_⟩:=Kd.R_form HO_7.out (by omega)
             obtain rfl:ad274=⟨gq8,0,none⟩:=(by injection eq8_ with ea_ _ _;injection ea_)
             clear eq8_
             (first|simp only [bM] at hx274_0|skip)
             replace p274:=eq_true p274
             replace q274:=eq_true q274
             have p275:0≤(x9_2:Int):=dA
             have q275:x9_2<(x7_3.length:Int):=dA
             obtain ⟨ad275,e275,hx275_0⟩:=Kd.at_int (Kd.R_reads' HO_7.out).2.2 x9_2 p275 q275
             obtain rfl:(⟨gq8,0,none⟩:Addr)=ad275:=(by injection e275)
             (first|simp only [bM] at hx275_0|skip)
             replace p275:=eq_true p275
             replace q275:=eq_true q275
             have p276:0≤(t271:Int):=dA
             have q276:t271<(x7_3.length:Int):=dA
             obtain ⟨ad276,e276,hx276_0⟩:=Kd.at_int (Kd.R_reads' HO_7.out).2.2 t271 p276 q276
             obtain rfl:(⟨gq8,0,none⟩:Addr)=ad276:=(by injection e276)
             (first|simp only [bM] at hx276_0|skip)
             replace p276:=eq_true p276
             replace q276:=eq_true q276
             have p277:0≤(x9_2:Int):=dA
             have q277:x9_2<(x7_3.length:Int):=dA
             obtain ⟨ad277,e277,hx277_0⟩:=Kd.at_int (Kd.R_reads' HO_7.out).2.2 x9_2 p277 q277
             obtain rfl:(⟨gq8,0,none⟩:Addr)=ad277:=(by injection e277)
             (first|simp only [bM] at hx277_0|skip)
             replace p277:=eq_true p277
             replace q277:=eq_true q277
             refine b7 (n:=20) (S:=fun w'=>w'.cell? ⟨gq8,(t271:Int).toNat,none⟩=some (.int .i64 (rd x7_3 t271))∧w'.cell? ⟨gq8,(x9_2:Int).toNat,none⟩=some (.int .i64 (rd x7_3 x9_2))∧w'.cell? ⟨gq8,(t271:Int).toNat,none⟩=some (.int .i64 (rd x7_3 t271))∧w'.cell? ⟨gq8,(x9_2:Int).toNat,none⟩=some (.int .i64 (rd x7_3 x9_2))) (ds:=[]) #[Z,Z,Z,Z,Z,Z,Z,Z,Z,Z,Z,Z,Z,Z,Z,Z,Z,Z,Z,Z] (by kernel_rfl) rfl rfl ⟨hx274_0,hx275_0,hx276_0,hx277_0⟩ (fun hHeld=>?_);refine bT aE.tab15 aE.bits15 (fun HT_ HW_=>?_)
             generalize wc.drew=w42 at HO_7 BK270 HB hx274_0 hx275_0 hx276_0 hx277_0 hHeld ⊢
             refine puA (i:=0) (N:=some 73) #[Y,Z,Z,Z,Z,Z,Z,Z,Z,Z,Z,Z,Z,Z,Z,Z,Z,Z,Z,Z] rfl rfl HT_ ?_
             refine puA (i:=1) (N:=some 74) #[Y,Y,Z,Z,Z,Z,Z,Z,Z,Z,Z,Z,Z,Z,Z,Z,Z,Z,Z,Z] rfl rfl HT_ ?_
             refine puA (i:=2) (N:=some 75) #[Y,Y,Y,Z,Z,Z,Z,Z,Z,Z,Z,Z,Z,Z,Z,Z,Z,Z,Z,Z] rfl rfl HT_ ?_
             refine puA (i:=4) (N:=some 77) #[Y,Y,Y,Z,Y,Z,Z,Z,Z,Z,Z,Z,Z,Z,Z,Z,Z,Z,Z,Z] rfl rfl HT_ ?_
             refine puA (i:=5) (N:=some 78) #[Y,Y,Y,Z,Y,Y,Z,Z,Z,Z,Z,Z,Z,Z,Z,Z,Z,Z,Z,Z] rfl rfl HT_ ?_
             refine puA (i:=6) (N:=some 79) #[Y,Y,Y,Z,Y,Y,Y,Z,Z,Z,Z,Z,Z,Z,Z,Z,Z,Z,Z,Z] rfl rfl HT_ ?_
             refine puA (i:=9) (N:=some 82) #[Y,Y,Y,Z,Y,Y,Y,Z,Z,Y,Z,Z,Z,Z,Z,Z,Z,Z,Z,Z] rfl rfl HT_ ?_
             refine puA (i:=10) (N:=some 83) #[Y,Y,Y,Z,Y,Y,Y,Z,Z,Y,Y,Z,Z,Z,Z,Z,Z,Z,Z,Z] rfl rfl HT_ ?_
             refine puA (i:=11) (N:=some 84) #[Y,Y,Y,Z,Y,Y,Y,Z,Z,Y,Y,Y,Z,Z,Z,Z,Z,Z,Z,Z] rfl rfl HT_ ?_
             refine puA (i:=13) (N:=some 86) #[Y,Y,Y,Z,Y,Y,Y,Z,Z,Y,Y,Y,Z,Y,Z,Z,Z,Z,Z,Z] rfl rfl HT_ ?_
             refine puA (i:=14) (N:=some 87) #[Y,Y,Y,Z,Y,Y,Y,Z,Z,Y,Y,Y,Z,Y,Y,Z,Z,Z,Z,Z] rfl rfl HT_ ?_
             refine puA (i:=15) (N:=some 88) #[Y,Y,Y,Z,Y,Y,Y,Z,Z,Y,Y,Y,Z,Y,Y,Y,Z,Z,Z,Z] rfl rfl HT_ ?_
             refine taA (i:=3) (N:=some 76) #[Y,Y,Y,Y,Y,Y,Y,Z,Z,Y,Y,Y,Z,Y,Y,Y,Z,Z,Z,Z] rfl rfl HT_ HW_ hHeld ?_
             refine taA (i:=7) (N:=some 80) #[Y,Y,Y,Y,Y,Y,Y,Y,Z,Y,Y,Y,Z,Y,Y,Y,Z,Z,Z,Z] rfl rfl HT_ HW_ hHeld ?_
             refine puA (i:=8) (N:=some 81) #[Y,Y,Y,Y,Y,Y,Y,Y,Y,Y,Y,Y,Z,Y,Y,Y,Z,Z,Z,Z] rfl rfl HT_ ?_
             refine puA (i:=18) (N:=some 14) #[Y,Y,Y,Y,Y,Y,Y,Y,Y,Y,Y,Y,Z,Y,Y,Y,Z,Z,Y,Z] rfl rfl HT_ ?_
             refine taA (i:=12) (N:=some 85) #[Y,Y,Y,Y,Y,Y,Y,Y,Y,Y,Y,Y,Y,Y,Y,Y,Z,Z,Y,Z] rfl rfl HT_ HW_ hHeld ?_
             refine taA (i:=16) (N:=some 89) #[Y,Y,Y,Y,Y,Y,Y,Y,Y,Y,Y,Y,Y,Y,Y,Y,Y,Z,Y,Z] rfl rfl HT_ HW_ hHeld ?_
             refine puA (i:=17) (N:=some 90) #[Y,Y,Y,Y,Y,Y,Y,Y,Y,Y,Y,Y,Y,Y,Y,Y,Y,Y,Y,Z] rfl rfl HT_ ?_
             refine puA (i:=19) (N:=some 15) #[Y,Y,Y,Y,Y,Y,Y,Y,Y,Y,Y,Y,Y,Y,Y,Y,Y,Y,Y,Y] rfl rfl HT_ ?_
             refine cg (br HT_.out (by kernel_rfl)) ?_
             try go_wp2
             go_loopg [16] kj15 (fun kq v16 w'=>∃ (x7_5:List Int) (x16_5:Int),v16=.int .i64 x16_5∧aA (aE.l3 kq a0 l1 l2 x7_5 x9_2 x10_3 ji40 ji41 x16_5=some r)∧aA (kq≤kj15)∧aA (Kd.R (Kd.int .i64) 2 w' w.heap.size (fun _=>True) (.slice (some (⟨gq8,0,none⟩:Addr)) x7_3.length co43) x7_5)∧aA (w'.heap[gb270]?=some (.cells #[.int .i64 t266,.int .i64 t267,.int .i64 t268] 43 (0,0)))∧aA (Below w.heap.size w w'))
             case atStart=>exact ⟨(x7_3),(0),hB,H',⟨Nat.le_refl _⟩,⟨rA HO_7⟩,⟨bkA BK270⟩,⟨blA⟩⟩
             case round=>
              clear H'
              try clear c2
              try clear c6
              try clear c26
              try clear c27
              try clear c27b0
              try clear c29
              try clear c29b0
              try clear c30
              try clear c30b0
              try clear c31
              try clear c31b0
              try clear c35
              try clear c36
              try clear c36b0
              try clear c37
              try clear c37b0
              try clear c38
              try clear c38b0
              try clear c39
              try clear c39b0
              try clear hcz24_0
              try clear hcz24_1
              try clear hcz24_2
              try clear hfz24_0
              try clear hfz24_1
              try clear hfz24_2
              try clear hx272_0
              try clear hx273_0
              try clear hx274_0
              try clear hx275_0
              try clear hx276_0
              try clear hx277_0
              try clear p272
              try clear p273
              try clear p274
              try clear p275
              try clear p276
              try clear p277
              try clear q272
              try clear q273
              try clear q274
              try clear q275
              try clear q276
              try clear q277
              obtain ⟨x7_5,x16_5,rfl,HA,HK5,HO_7,BK270,HB⟩:=hrel
              have hl7_5:=(Kd.R_reads' HO_7.out).1
              rw [hl7_5] at HO_7
              (try simp only [hl7_5])
              (try simp only [hl7_5] at BK270)
              cases gk with
              | zero=>exact absurd HA.out (by simp [aE.l3])
              | succ k5=>
               have H:=HA.out
               clear HA
               simp only [aE.l3] at H
               by_cases c44:x16_5<(x7_5.length:Int)
               ·
                rw [if_pos c44] at H
                have c44b0:=decide_eq_true c44
                clear c44
                by_cases c45:0≤x16_5
                rotate_left
                ·
                 rw [if_neg c45] at H
                 exact absurd H (by simp)
                rw [if_pos c45] at H
                have c45b0:=decide_eq_true c45
                clear c45
                by_cases c46:(rd x7_5 x16_5)=ji41
                ·
                 rw [if_pos c46] at H
                 have c46b0:((rd x7_5 x16_5) == ji41)=true:=beq_iff_eq.mpr c46
                 have c46b1:((rd x7_5 x16_5) != ji41)=false:=bne_eq_false_iff_eq.mpr c46
                 clear c46
                 obtain ⟨y279,hy279⟩:∃ y_:List Int,y_=(x7_5.set (x16_5:Int).toNat ji40):=⟨_,rfl⟩
                 replace H:(aE.l3 k5 a0 l1 l2 y279 x9_2 x10_3 ji40 ji41 (wrap64 (x16_5+1)))=some r:=rH hy279 H
                 have Ny279:=aA.mk hy279
                 clear hy279
                 have H':=aA.mk H
                 clear H
                 have p278:0≤(x16_5:Int):=dA
                 have q278:x16_5<(x7_5.length:Int):=dA
                 obtain ⟨ad278,e278,hx278_0⟩:=Kd.at_int (Kd.R_reads' HO_7.out).2.2 x16_5 p278 q278
                 obtain rfl:(⟨gq8,0,none⟩:Addr)=ad278:=(by injection e278)
                 (first|simp only [bM] at hx278_0|skip)
                 replace p278:=eq_true p278
                 replace q278:=eq_true q278
                 have p47:0≤(x16_5:Int):=dA
                 have q47:(x16_5:Int)<((x7_5.length:Int):Int):=dA
                 obtain ⟨gz8,cz8,eo47,gb47,gl47,cl47,HG47⟩:=Kd.R_form HO_7.out (by omega)
                 obtain ⟨rfl,rfl⟩:gq8=gz8∧co43=cz8:=(by injection eo47 with ea_ en_ ec_;injection ea_ with ea_;injection ea_ with ea_;exact ⟨ea_,ec_⟩)
                 have GB47:=aA.mk gb47
                 have GG47:=aA.mk HG47
                 clear gb47 gl47 HG47
                 (first|simp only [bM] at hx274_0|skip)
                 (first|simp only [bM] at hx275_0|skip)
                 (first|simp only [bM] at hx276_0|skip)
                 (first|simp only [bM] at hx277_0|skip)
                 (first|simp only [bM] at hx278_0|skip)
                 obtain ⟨hx47_0,hf47_0⟩:=Kd.R_celln 0 HO_7.out (x16_5:Int) p47 q47
                 replace p47:=eq_true p47
                 replace q47:=eq_true q47
                 have HP48:=Kd.R_putg HO_7.out (x16_5:Int) ji40
                 go_wp2_with (first|((with_reducible refine dJ (t:=2) (p:=106) rfl ?_);refine cy (t:=2) (p:=106) (v:=?vo_w49) (w1:=(wr.setCell ⟨gq8,(x16_5:Int).toNat,none⟩ (.int .i64 ji40))) ?hg ?ho ?hn ?hr ?_;(case ho=>rfl);(case hg=>rfl);(case hn=>rfl);(case hr=>first|(go_simp;done)|(go_simp;rfl));intro w49 hw;have hg:wr.grownBy w49 (some gq8):=(by rw [hw];exact HP48.2);have hp_:Kd.R (Kd.int .i64) 2 w49 w.heap.size (fun _=>True) (.slice (some ⟨gq8,0,none⟩) x7_5.length co43) y279:=(by rw [hw,Ny279.out];exact HP48.1);clear HP48;have n0_:=aA.mk (hp_);have n1_:=aA.mk (bu (bkA BK270) hg (Kd.R_ne HO_7.out BK270.out (by decide)));have n2_:=aA.mk ((by rw [hw];exact cK (HB.out) GB47.out:Below w.heap.size w w49));clear HO_7;clear BK270;clear HB;have HO_7:=n0_;have BK270:=n1_;have HB:=n2_;clear n0_ n1_ n2_;clear hg hw hp_))
                 (try simp only [← hl7_5])
                 go_roundg k5
                 case measure=>have:=HK1.out;have:=HK2.out;have:=HK3.out;have:=HJ15.out;have:=HK5.out;omega
                 case rel=>exact ⟨(y279),(wrap64 (x16_5+1)),hB,H',⟨by have:=HK1.out;have:=HK2.out;have:=HK3.out;have:=HJ15.out;have:=HK5.out;omega⟩,⟨by (try simp only [hl7_5]);(with_reducible repeat (first|apply Kd.R_alloc|apply Kd.R_drewN|apply Kd.R_drew));exact HO_7.out⟩,⟨by (try simp only [hl7_5]);exact bkA BK270⟩,⟨blA⟩⟩
                ·
                 rw [if_neg c46] at H
                 have c46b0:((rd x7_5 x16_5) == ji41)=false:=beq_eq_false_iff_ne.mpr c46
                 have c46b1:((rd x7_5 x16_5) != ji41)=true:=bne_iff_ne.mpr c46
                 have H':=aA.mk H
                 clear H
                 have p278:0≤(x16_5:Int):=dA
                 have q278:x16_5<(x7_5.length:Int):=dA
                 obtain ⟨ad278,e278,hx278_0⟩:=Kd.at_int (Kd.R_reads' HO_7.out).2.2 x16_5 p278 q278
                 obtain rfl:(⟨gq8,0,none⟩:Addr)=ad278:=(by injection e278)
                 (first|simp only [bM] at hx278_0|skip)
                 replace p278:=eq_true p278
                 replace q278:=eq_true q278
                 go_wp2
                 (try simp only [← hl7_5])
                 go_roundg k5
                 case measure=>have:=HK1.out;have:=HK2.out;have:=HK3.out;have:=HJ15.out;have:=HK5.out;omega
                 case rel=>exact ⟨(x7_5),(wrap64 (x16_5+1)),hB,H',⟨by have:=HK1.out;have:=HK2.out;have:=HK3.out;have:=HJ15.out;have:=HK5.out;omega⟩,⟨by (try simp only [hl7_5]);(with_reducible repeat (first|apply Kd.R_alloc|apply Kd.R_drewN|apply Kd.R_drew));exact HO_7.out⟩,⟨by (try simp only [hl7_5]);exact bkA BK270⟩,⟨blA⟩⟩
               ·
                rw [if_neg c44] at H
                have c44b0:=decide_eq_false c44
                clear c44
                have H':=aA.mk H
                clear H
                go_wp2
                (try simp only [← hl7_5])
                go_roundg k5
                case measure=>have:=HK1.out;have:=HK2.out;have:=HK3.out;have:=HJ15.out;have:=HK5.out;omega
                case rel=>exact ⟨(x7_5),(wrap64 (x10_3+1)),hB,H',⟨by have:=HK1.out;have:=HK2.out;have:=HK3.out;have:=HJ15.out;have:=HK5.out;omega⟩,⟨by (try simp only [hl7_5]);(with_reducible repeat (first|apply Kd.R_alloc|apply Kd.R_drewN|apply Kd.R_drew));exact HO_7.out⟩,⟨blA⟩⟩
         ·
          rw [if_neg c10] at H
          have c10b0:=decide_eq_false c10
          clear c10
          have H':=aA.mk H
          clear H
          go_wp2
          go_roundg k3
          case measure=>have:=HK1.out;have:=HK2.out;have:=HK3.out;omega
          case rel=>exact ⟨(x7_3),(wrap64 (x9_2+1)),hB,H',⟨by have:=HK1.out;have:=HK2.out;have:=HK3.out;omega⟩,⟨rA HO_7⟩,⟨blA⟩⟩
      ·
       rw [if_neg c9] at H
       have c9b0:=decide_eq_false c9
       clear c9
       obtain rfl:=Option.some.inj H
       go_wp2
       go_ret
       exact ⟨_,eW,rA HO_7,blA⟩
end Go.Proofs.YtnhiehpbkimaeaaGreat.PAll
