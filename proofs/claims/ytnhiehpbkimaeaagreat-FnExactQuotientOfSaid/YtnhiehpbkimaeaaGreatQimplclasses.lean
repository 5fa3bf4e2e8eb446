import Derived.Test.YtnhiehpbkimaeaaGreatQx
import Derived.Test.YtnhiehpbkimaeaaGreatQimplBall73
import Derived.Test.YtnhiehpbkimaeaaGreatQimplmoveBall
namespace Go.Proofs.YtnhiehpbkimaeaaGreat.PAll
open Go.RowKit Go.Proofs.YtnhiehpbkimaeaaGreatW.PrintWords Go.Proofs.YtnhiehpbkimaeaaGreatW.PrintLast Go.Proofs.YtnhiehpbkimaeaaGreatW.PrintMore
attribute [local go_sem] Go.Proofs.YtnhiehpbkimaeaaGreat.Aux.setCell_drewN Go.Proofs.YtnhiehpbkimaeaaGreat.Aux.isSome_setCell cC b9 cQ cP bm bl cB b8
set_option linter.unusedVariables false
set_option linter.unusedSimpArgs false
open Go.Proofs.YtnhiehpbkimaeaaGreatW.PrintWords.Kd in
theorem ft {α:Type} {P:Program} {ops:Array Oper} {o:Oper} {a:Act} {Q:Exit→Act→World→Prop} {Kc:Act→World→Prop} (d:Kd α) {w0 W:World} (base:Nat) (hw:Region.wanted o (yielded ops a.tmps)=true) (hN:o.dst=none) (t:TypeId) (p x:Operand) (ho:o.op=.store t p x) (e:TypeId) {g n cap:Nat} (i:Int) (xs:List α) (x':α) (u:Value) (seg c:List Value) (ok oki okp:Nat→Prop)
  (haddr:a.eval p=.pointer (some ⟨g,i.toNat*d.sz,none⟩)) (hx:a.eval x=u) (hu:u.cells.toList=seg) (ht:(P.info? t).map (·.size)=some seg.length) (hone:∀ q ∈ seg,q.oneCell'=true) (hsz:seg.length=d.sz)
  (HO:H d e W base ok (.slice (some ⟨g,0,none⟩) n cap) xs i oki c) (h0:0≤i) (hi:i<n)
  (hM:d.M W base okp x' seg) (hokp:∀ k,okp k→oki k) (HB:Below base w0 W)
  (h:∀ w1,S d e w1 base ok (.slice (some ⟨g,0,none⟩) n cap) (xs.set i.toNat x')→Below base w0 w1→W.grownBy w1 (some g)→Kc a w1):if Region.wanted o (yielded ops a.tmps)=true then Oper.wp P o a W Kc Q else Kc (a.put none undef) W:=by
 obtain ⟨rows,_,hraw,hcl,hco,hcc,hback⟩:=H_raw HO h0 hi
 have hgo:some g=(Value.slice (some ⟨g,0,none⟩) n cap).ownBlock:=by simp [Value.ownBlock]
 have hng:∀ k,oki k→k≠g:=by
  intro k hk he
  subst he
  obtain ⟨_,f,hR⟩:=HO
  exact (hR.1 k hgo.symm).2 hk
 have hsg:c.take 0 ++ seg ++ c.drop (0+seg.length)=seg:=by
  rw [List.take_zero,List.nil_append,List.drop_eq_nil_of_le (by omega),List.append_nil]
 obtain ⟨hrow,hg⟩:=R_seg (d:=raw d.sz) hraw i h0 hi hcl hcc (c:=c) (seg:=seg) (j:=0) (x':=seg) (okp:=fun _=>False) (by show 0+seg.length≤d.sz;omega)
  ⟨hsg,by rw [hsg];exact hsz,by rw [hsg];exact hone⟩ (fun _ hk=>hk.elim)
 have hbg:base≤g:=R_base hraw g (by simp [Value.ownBlock])
 have hnx:n=rows.length:=(R_reads' hraw).1
 obtain ⟨_,inner,hown,hr⟩:=hraw
 have hil:i.toNat<n:=by omega
 have hrun:(Instr.storeAt t (.pointer (some ⟨g,i.toNat*d.sz,none⟩)) u).run P W=.ok () (W.setCells g (i.toNat*d.sz) seg):=by
  rcases hown.2 with ⟨hv,_⟩|⟨g',cap',cur,hv,hb,hh,hnc,hcm,hcs,_⟩
  ·
   cases hv
  injection hv with ha _ hc
  injection ha with ha
  injection ha with hg'
  subst hg';subst hc
  refine run_store_run t u seg hh hu ht ?_ hone
  have h2:i.toNat*d.sz+d.sz≤n*d.sz:=by rw [← Nat.succ_mul];exact Nat.mul_le_mul_right _ hil
  have h3:n*d.sz≤cap*d.sz:=Nat.mul_le_mul_right _ (by omega)
  have hcs3:=hcs
  rw [show (raw d.sz).sz=d.sz from rfl] at hcs3
  omega
 rw [Nat.add_zero] at hrow hg
 have hB:Below base w0 (W.setCells g (i.toNat*d.sz) seg):=HB.trans ⟨hg.os,hg.tape,hg.output,hg.size,fun k hk=>by
  have hlt:k<W.heap.size∨W.heap.size≤k:=Nat.lt_or_ge _ _
  rcases hlt with hlt|hge
  ·
   exact hg.block k hlt (fun he=>by injection he with he;omega)
  ·
   exact dp seg _ k (by omega)⟩
 have hS:=H_back (hback _ seg hg hrow) (M_step hM (fun k hk hlt=>hg.block k hlt (fun he=>hng k (hokp k hk) (by injection he)))) hokp
 rw [if_pos hw]
 unfold Oper.wp execOp
 simp only [ho,haddr,hx,Sem.run_bind,Sem.run_pure,Result.andThen_ok,hrun]
 show Kc (a.put o.dst undef) _
 rw [hN]
 exact h _ hS hB hg
mutual
def aK.l0:Nat→Int→List (S59)→List (S43)→List Int→Int→Int→Option ((List (List Int)) × List Int)
 | 0,_,_,_,_,_,_=>none
 | k+1,x0,x1,x2,x8,x27,x28=>if x28<x27 then (if x8.length<17592186044416 then (aK.l0 k x0 x1 x2 (x8 ++ [x28]) x27 (wrap64 (x28+1))) else (none)) else (aK.l1 k x0 x1 x2 x8 x2 (x2.length:Int) 0)
def aK.l1:Nat→Int→List (S59)→List (S43)→List Int→List (S43)→Int→Int→Option ((List (List Int)) × List Int)
 | 0,_,_,_,_,_,_,_=>none
 | k+1,x0,x1,x2,x8,x36,x37,x38=>if x38<x37 then (if 0≤x38 then (if x38<(x36.length:Int) then (aK.l2 k x0 x1 x2 x8 x38 x36 x37 x38 x1 (x1.length:Int) 0 ((aD x36 x38).f0) ((aD x36 x38).f1) ((aD x36 x38).f2)) else (none)) else (none)) else (if 0≤(x2.length:Int) then (if ((x2.length:Int):Int).toNat≤35184372088832 then (aK.l4 k (([]:List (List Int))) (List.replicate ((x2.length:Int):Int).toNat 0) x8 (x8.length:Int) 0) else (none)) else (none))
def aK.l2:Nat→Int→List (S59)→List (S43)→List Int→Int→List (S43)→Int→Int→List (S59)→Int→Int→Int→Int→Int→Option ((List (List Int)) × List Int)
 | 0,_,_,_,_,_,_,_,_,_,_,_,_,_,_=>none
 | k+1,x0,x1,x2,x8,x10,x36,x37,x38,x43,x44,x45,x501000,x501001,x501002=>if x45<x44 then (if 0≤x45 then (if x45<(x43.length:Int) then ((aV.f k x0 ((ai x43 x45).f0.f0) ((ai x43 x45).f0.f1) ((ai x43 x45).f1.f0) ((ai x43 x45).f1.f1) x501000 x501001 x501002).bind fun bt503=>((be.f k x2 bt503.1 bt503.2.1 bt503.2.2.1).bind fun t508=>(if bt503.2.2.2=true then (aK.j3 k x0 x1 x2 x8 x10 t508 x36 x37 x38 x43 x44 x45 (decide (t508<0)) x501000 x501001 x501002) else (aK.j3 k x0 x1 x2 x8 x10 t508 x36 x37 x38 x43 x44 x45 true x501000 x501001 x501002)))) else (none)) else (none)) else (aK.l1 k x0 x1 x2 x8 x36 x37 (wrap64 (x38+1)))
def aK.j3:Nat→Int→List (S59)→List (S43)→List Int→Int→Int→List (S43)→Int→Int→List (S59)→Int→Int→Bool→Int→Int→Int→Option ((List (List Int)) × List Int)
 | 0,_,_,_,_,_,_,_,_,_,_,_,_,_,_,_,_=>none
 | k+1,x0,x1,x2,x8,x10,x16,x36,x37,x38,x43,x44,x45,x64,x501000,x501001,x501002=>if x64=true then (aK.l2 k x0 x1 x2 x8 x10 x36 x37 x38 x43 x44 (wrap64 (x45+1)) x501000 x501001 x501002) else (if 0≤x10 then (if x10<(x8.length:Int) then (if 0≤x16 then (if x16<(x8.length:Int) then (aK.l3 k x0 x1 x2 x8 x10 (mn (rd x8 x10) (rd x8 x16)) (mx (rd x8 x10) (rd x8 x16)) x36 x37 x38 x43 x44 x45 (x8.length:Int) 0 x501000 x501001 x501002) else (none)) else (none)) else (none)) else (none))
def aK.l3:Nat→Int→List (S59)→List (S43)→List Int→Int→Int→Int→List (S43)→Int→Int→List (S59)→Int→Int→Int→Int→Int→Int→Int→Option ((List (List Int)) × List Int)
 | 0,_,_,_,_,_,_,_,_,_,_,_,_,_,_,_,_,_,_=>none
 | k+1,x0,x1,x2,x8,x10,x17,x18,x36,x37,x38,x43,x44,x45,x84,x85,x501000,x501001,x501002=>if x85<x84 then (if 0≤x85 then (if x85<(x8.length:Int) then (if (rd x8 x85)=x18 then (aK.l3 k x0 x1 x2 (x8.set (x85:Int).toNat x17) x10 x17 x18 x36 x37 x38 x43 x44 x45 x84 (wrap64 (x85+1)) x501000 x501001 x501002) else (aK.l3 k x0 x1 x2 x8 x10 x17 x18 x36 x37 x38 x43 x44 x45 x84 (wrap64 (x85+1)) x501000 x501001 x501002)) else (none)) else (none)) else (aK.l2 k x0 x1 x2 x8 x10 x36 x37 x38 x43 x44 (wrap64 (x45+1)) x501000 x501001 x501002)
def aK.l4:Nat→List (List Int)→List Int→List Int→Int→Int→Option ((List (List Int)) × List Int)
 | 0,_,_,_,_,_=>none
 | k+1,x21,x22,x104,x105,x106=>if x106<x105 then (if 0≤x106 then (if x106<(x104.length:Int) then (if (rd x104 x106)=x106 then (if x106<(x22.length:Int) then ((some (x22.set (x106:Int).toNat (x21.length:Int):List Int)).bind fun y522=>(if x21.length<5864062014805 then ((some (x21 ++ [[]]:List (List Int))).bind fun y523=>(if 0≤(rd x104 x106) then (if (rd x104 x106)<(x22.length:Int) then ((some (y522.set (x106:Int).toNat (rd y522 (rd x104 x106)):List Int)).bind fun y527=>(if 0≤(rd y527 x106) then (if (rd y527 x106)<(y523.length:Int) then (if (bE y523 (rd y527 x106)).length<17592186044416 then (aK.l4 k (y523.set ((rd y527 x106):Int).toNat (bE y523 (rd y527 x106) ++ [x106])) y527 x104 x105 (wrap64 (x106+1))) else (none)) else (none)) else (none))) else (none)) else (none))) else (none))) else (none)) else (if 0≤(rd x104 x106) then (if (rd x104 x106)<(x22.length:Int) then (if x106<(x22.length:Int) then ((some (x22.set (x106:Int).toNat (rd x22 (rd x104 x106)):List Int)).bind fun y535=>(if 0≤(rd y535 x106) then (if (rd y535 x106)<(x21.length:Int) then (if (bE x21 (rd y535 x106)).length<17592186044416 then (aK.l4 k (x21.set ((rd y535 x106):Int).toNat (bE x21 (rd y535 x106) ++ [x106])) y535 x104 x105 (wrap64 (x106+1))) else (none)) else (none)) else (none))) else (none)) else (none)) else (none))) else (none)) else (none)) else (some (x21,x22))
end
def aK.f (k:Nat) (a0:Int) (l1:List (S59)) (l2:List (S43)):Option ((List (List Int)) × List Int):=aK.l0 k a0 l1 l2 (([]:List Int)) (l2.length:Int) 0
def aK.T16:Bool × List (List Nat × List Nat):=(true,[([],[]),([],[]),([0,1],[0,1]),([2],[2]),([],[]),([],[]),([4,5],[4,5]),([6],[6]),([3,7],[3,7]),([],[]),([],[]),([9,10],[9,10]),([11],[11]),([],[]),([],[]),([13,14],[13,14]),([15],[15]),([12,16],[12,16]),([8,0,1,2,3,4,5,6,7,8],[8]),([17,18,0,1,2,3,4,5,6,7,8,9,10,11,12,13,14,15,16,17,18],[17])])
def aK.B16:List Nat:=[0,0,3,7,0,0,48,112,255,0,0,1536,3584,0,0,24576,57344,130560,511,524287]
theorem aK.tab16:cZ .any (dL Tryz.f34 16)=aK.T16:=by kernel_rfl
theorem aK.bits16:bq aK.T16.2 aK.B16=true:=by kernel_rfl
set_option maxHeartbeats 8000000 in
set_option maxRecDepth 100000 in
theorem aK.calls (k:Nat) (a0:Int) (A1:Option Addr) (c1:Nat) (l1:List (S59)) (A2:Option Addr) (c2:Nat) (l2:List (S43)) (r1:List (List Int)) (r2:List Int) (w:World) (hr1:Kd.C k59 w A1 l1.length l1) (hc1:l1.length≤c1) (hr2:Kd.C k43 w A2 l2.length l2) (hc2:l2.length≤c2) (h:aK.f k a0 l1 l2=some (r1,r2)) :
  Calls Tryz.prog 34 #[.int .i64 a0,.slice A1 l1.length c1,.slice A2 l2.length c2] w fun e w'=>∃ v0_ v1_:Value,e=.returned (.tuple #[v0_,v1_])∧Kd.S (Kd.slice 2 (Kd.int .i64)) 50 w' w.heap.size (fun k_=>some k_≠(v1_:Value).ownBlock) v0_ r1∧Kd.R (Kd.int .i64) 2 w' w.heap.size (fun _=>True) v1_ r2∧Below w.heap.size w w':=by
 have hu43:=Tryz.underlying43
 have hu59:=Tryz.underlying59
 have HR1:=aA.mk hr1
 have HC1:=aA.mk hc1
 clear hr1 hc1
 have HR2:=aA.mk hr2
 have HC2:=aA.mk hc2
 clear hr2 hc2
 have HB:=aA.mk (Below.refl w.heap.size w)
 have H:=h
 unfold aK.f at H
 clear h
 obtain ⟨y493,hy493⟩:∃ y_:List Int,y_=(([]:List Int)):=⟨_,rfl⟩
 replace H:(aK.l0 k a0 l1 l2 y493 (l2.length:Int) 0)=some (r1,r2):=rH hy493 H
 have Ny493:=aA.mk hy493
 clear hy493
 have H':=aA.mk H
 clear H
 go_enter Tryz.func34,Tryz.ntmps34
 go_wp2_with (first|((with_reducible refine aN (N:=25) rfl ?_);refine Kd.R_lit (Kd.int .i64) _ 2 ?hg (N:=25) ?hd (xs:=([]:List Int)) (inner:=[]) (ok:=fun _=>True) (okp:=fun _=>True) ?hr ?hp (fun _ hk=>hk) trivial (Below.refl _ _) (Nat.le_refl _) (by simp) ?_;(case hd=>rfl);(case hg=>rfl);(case hr=>first|(go_simp;done)|(go_simp;rfl));(case hp=>exact (bD.none _ _));intro v494 w4 ho5 hb hg_ hnew_;clear hg_ hnew_;(first|rw [← Ny493.out] at ho5|(simp only [Int.reduceToNat] at ho5;rw [← Ny493.out] at ho5));have n0_:=aA.mk (Kd.R_lower ho5 (aQ blA));have n1_:=lB hb;clear HB;have HO495:=n0_;have HB:=n1_;clear n0_ n1_;clear hb ho5))
 go_loopg [8,28] k (fun kq v8 v28 w'=>∃ (x8_1:List Int) (x28_1:Int),v28=.int .i64 x28_1∧aA (aK.l0 kq a0 l1 l2 x8_1 (l2.length:Int) x28_1=some (r1,r2))∧aA (kq≤k)∧aA (Kd.R (Kd.int .i64) 2 w' w.heap.size (fun _=>True) v8 x8_1)∧aA (Below w.heap.size w w'))
 case atStart=>exact ⟨(y493),(0),hB,H',⟨Nat.le_refl _⟩,⟨rA HO495⟩,⟨blA⟩⟩
 case round=>
  clear H'
  try clear c1
  try clear c2
  obtain ⟨x8_1,x28_1,rfl,HA,HK1,HO_8,HB⟩:=hrel
  cases gk with
  | zero=>exact absurd HA.out (by simp [aK.l0])
  | succ k1=>
   have H:=HA.out
   clear HA
   simp only [aK.l0] at H
   by_cases c6:x28_1<(l2.length:Int)
   ·
    rw [if_pos c6] at H
    have c6b0:=decide_eq_true c6
    clear c6
    by_cases c7:x8_1.length<17592186044416
    rotate_left
    ·
     rw [if_neg c7] at H
     exact absurd H (by simp)
    rw [if_pos c7] at H
    have LMc7:=aA.mk c7
    clear c7
    obtain ⟨y496,hy496⟩:∃ y_:List Int,y_=(x8_1 ++ [x28_1]):=⟨_,rfl⟩
    replace H:(aK.l0 k1 a0 l1 l2 y496 (l2.length:Int) (wrap64 (x28_1+1)))=some (r1,r2):=rH hy496 H
    have Ny496:=aA.mk hy496
    clear hy496
    have H':=aA.mk H
    clear H
    go_wp2_with (first|((with_reducible refine bY (b:=.append) (xs:=#[.tmp 31,.tmp 33]) rfl ?_);at_builtin;refine Kd.R_append (Kd.int .i64) (w0:=w) w.heap.size rfl (.tmp 31) (.tmp 33) 50 2 (.int .i64 0) 8 rfl Tryz.underlying50 eH rfl (by decide) (by omega) u8 x8_1 x28_1 [.int .i64 x28_1] (fun _=>True) (fun _=>False) rfl rfl ?aP (fun _ hk=>hk.elim) ?aF ?aO ?aB ?aS ?aL ?_;(case aP=>exact rfl);(case aB=>exact blA);(case aF=>exact (fun _ _=>trivial));(case aO=>exact (rA HO_8));(case aS=>exact (aQ blA));(case aL=>have:=LMc7.out;omega);intro v497 w8 ho hb hg hat;rw [← Ny496.out] at ho;have n0_:=aA.mk hb;have n1_:=aA.mk ho;clear HB;clear HO_8;have HB:=n0_;have HO498:=n1_;clear n0_ n1_;clear ho hb hg hat))
    go_roundg k1
    case measure=>have:=HK1.out;omega
    case rel=>exact ⟨(y496),(wrap64 (x28_1+1)),hB,H',⟨by have:=HK1.out;omega⟩,⟨rA HO498⟩,⟨blA⟩⟩
   ·
    rw [if_neg c6] at H
    have c6b0:=decide_eq_false c6
    clear c6
    have H':=aA.mk H
    clear H
    go_wp2
    go_loopg [38] k1 (fun kq v38 w'=>∃ (x8_2:List Int) (x38_2:Int),v38=.int .i64 x38_2∧aA (aK.l1 kq a0 l1 l2 x8_2 l2 (l2.length:Int) x38_2=some (r1,r2))∧aA (kq≤k1)∧aA (Kd.R (Kd.int .i64) 2 w' w.heap.size (fun _=>True) u8 x8_2)∧aA (Below w.heap.size w w'))
    case atStart=>exact ⟨(x8_1),(0),hB,H',⟨Nat.le_refl _⟩,⟨rA HO_8⟩,⟨blA⟩⟩
    case round=>
     clear H'
     try clear c1
     try clear c2
     try clear c6
     try clear c6b0
     try clear c7
     obtain ⟨x8_2,x38_2,rfl,HA,HK2,HO_8,HB⟩:=hrel
     cases gk with
     | zero=>exact absurd HA.out (by simp [aK.l1])
     | succ k2=>
      have H:=HA.out
      clear HA
      simp only [aK.l1] at H
      by_cases c9:x38_2<(l2.length:Int)
      ·
       rw [if_pos c9] at H
       have c9b0:=decide_eq_true c9
       clear c9
       by_cases c10:0≤x38_2
       rotate_left
       ·
        rw [if_neg c10] at H
        exact absurd H (by simp)
       rw [if_pos c10] at H
       have c10b0:=decide_eq_true c10
       clear c10
       by_cases c11:x38_2<(l2.length:Int)
       rotate_left
       ·
        rw [if_neg c11] at H
        exact absurd H (by simp)
       rw [if_pos c11] at H
       have c11b0:=decide_eq_true c11
       clear c11
       have H':=aA.mk H
       clear H
       have p499:0≤(x38_2:Int):=dA
       have q499:x38_2<(l2.length:Int):=dA
       obtain ⟨ad499,e499,hx499_0,hx499_1,hx499_2⟩:=cu HR2.out x38_2 p499 q499
       cases e499
       replace hx499_0:=(HB.out.cell (World.block_lt_of_cell? w _ hx499_0)).trans hx499_0
       replace hx499_1:=(HB.out.cell (World.block_lt_of_cell? w _ hx499_1)).trans hx499_1
       replace hx499_2:=(HB.out.cell (World.block_lt_of_cell? w _ hx499_2)).trans hx499_2
       replace p499:=eq_true p499
       replace q499:=eq_true q499
       go_wp2_with (first|((with_reducible refine aN (N:=11) rfl ?_);refine bxE (cs:=#[.int .i64 0,.int .i64 0,.int .i64 0]) (t:=43) ?_;intro gb500 hg w12 hbox hb;have n0_:=aA.mk (Kd.R_below (rA HO_8) hb);have n1_:=lB hb;have n2_:=aA.mk hbox;have n3_:=sA hg;have n4_:=sA hg;clear HO_8;clear HB;have HO_8:=n0_;have HB:=n1_;have BK500:=n2_;have GW500:=n3_;have GE500:=n4_;clear n0_ n1_ n2_ n3_ n4_;clear hb hbox hg;obtain ⟨hcz13_0,hcz13_1,hcz13_2,hfz13_0,hfz13_1,hfz13_2⟩:=cz3 BK500))
       go_loopg [45] k2 (fun kq v45 w'=>∃ (x8_3:List Int) (x45_3:Int),v45=.int .i64 x45_3∧aA (aK.l2 kq a0 l1 l2 x8_3 x38_2 l2 (l2.length:Int) x38_2 l1 (l1.length:Int) x45_3 ((aD l2 x38_2).f0) ((aD l2 x38_2).f1) ((aD l2 x38_2).f2)=some (r1,r2))∧aA (kq≤k2)∧aA (Kd.R (Kd.int .i64) 2 w' w.heap.size (fun _=>True) u8 x8_3)∧aA (w'.heap[gb500]?=some (.cells #[.int .i64 ((aD l2 x38_2).f0),.int .i64 ((aD l2 x38_2).f1),.int .i64 ((aD l2 x38_2).f2)] 43 (0,0)))∧aA (Below w.heap.size w w'))
       case atStart=>exact ⟨(x8_2),(0),hB,H',⟨Nat.le_refl _⟩,⟨by (with_reducible repeat (first|apply Kd.R_alloc|apply Kd.R_drewN|apply Kd.R_drew));exact Kd.R_mono (Kd.R_far (p:=⟨gb500,2,none⟩) (Kd.R_far (p:=⟨gb500,1,none⟩) (Kd.R_far (p:=⟨gb500,0,none⟩) (Kd.R_types HO_8.out BK500.out (by decide)) (fun _ hk=>hk.2) (.int .i64 ((aD l2 x38_2).f0))) (fun _ hk=>hk.2) (.int .i64 ((aD l2 x38_2).f1))) (fun _ hk=>hk.2) (.int .i64 ((aD l2 x38_2).f2))) (fun _ hk=>trivial)⟩,⟨bpA BK500⟩,⟨blA⟩⟩
       case round=>
        clear H'
        try clear c1
        try clear c2
        try clear c6
        try clear c6b0
        try clear c7
        try clear c9
        try clear c9b0
        try clear c10
        try clear c10b0
        try clear c11
        try clear c11b0
        try clear hcz13_0
        try clear hcz13_1
        try clear hcz13_2
        try clear hfz13_0
        try clear hfz13_1
        try clear hfz13_2
        try clear hx499_0
        try clear hx499_1
        try clear hx499_2
        try clear p499
        try clear q499
        obtain ⟨x8_3,x45_3,rfl,HA,HK3,HO_8,BK500,HB⟩:=hrel
        cases gk with
        | zero=>exact absurd HA.out (by simp [aK.l2])
        | succ k3=>
         have H:=HA.out
         clear HA
         simp only [aK.l2] at H
         by_cases c14:x45_3<(l1.length:Int)
         ·
          rw [if_pos c14] at H
          have c14b0:=decide_eq_true c14
          clear c14
          by_cases c15:0≤x45_3
          rotate_left
          ·
           rw [if_neg c15] at H
           exact absurd H (by simp)
          rw [if_pos c15] at H
          have c15b0:=decide_eq_true c15
          clear c15
          by_cases c16:x45_3<(l1.length:Int)
          rotate_left
          ·
           rw [if_neg c16] at H
           exact absurd H (by simp)
          rw [if_pos c16] at H
          have c16b0:=decide_eq_true c16
          clear c16
          replace H:=bS H
          obtain ⟨⟨t503,t504,t505,t506⟩,A17,H⟩:=H
          try dsimp only at H
          replace H:=bS H
          obtain ⟨t508,A18,H⟩:=H
          try dsimp only at H
          have HC19:=aA.mk H
          clear H
          have p501:0≤(x45_3:Int):=dA
          have q501:x45_3<(l1.length:Int):=dA
          obtain ⟨ad501,e501,hx501_0,hx501_1,hx501_2,hx501_3⟩:=fA HR1.out x45_3 p501 q501
          cases e501
          replace hx501_0:=(HB.out.cell (World.block_lt_of_cell? w _ hx501_0)).trans hx501_0
          replace hx501_1:=(HB.out.cell (World.block_lt_of_cell? w _ hx501_1)).trans hx501_1
          replace hx501_2:=(HB.out.cell (World.block_lt_of_cell? w _ hx501_2)).trans hx501_2
          replace hx501_3:=(HB.out.cell (World.block_lt_of_cell? w _ hx501_3)).trans hx501_3
          replace p501:=eq_true p501
          replace q501:=eq_true q501
          go_upto_region 15 with (first|((with_reducible refine aN (N:=13) rfl ?_);refine bxE (cs:=#[.int .i64 0,.int .i64 0,.int .i64 0,.int .i64 0]) (t:=59) ?_;intro gb502 hg w20 hbox hb;have n0_:=aA.mk (Kd.R_below (rA HO_8) hb);have n1_:=kB BK500 hb;have n2_:=lB hb;have n3_:=aA.mk hbox;have n4_:=sA hg;have n5_:=sA hg;have n6_:=nA hg BK500;have n7_:=nB hg BK500;clear HO_8;clear BK500;clear HB;have HO_8:=n0_;have BK500:=n1_;have HB:=n2_;have BK502:=n3_;have GW502:=n4_;have GE502:=n5_;have NB500_502:=n6_;have NB502_500:=n7_;clear n0_ n1_ n2_ n3_ n4_ n5_ n6_ n7_;clear hb hbox hg;have hnb21:=NB502_500.out;have hnc21:=NB500_502.out;obtain ⟨hcz22_0,hcz22_1,hcz22_2,hcz22_3,hfz22_0,hfz22_1,hfz22_2,hfz22_3⟩:=cz4 BK502;obtain ⟨hcz23_0,hcz23_1,hcz23_2,hfz23_0,hfz23_1,hfz23_2⟩:=cz3 BK500)|((with_reducible refine gd 53 rfl ?_);refine gC (some 53) rfl Tryz.func59 (aV.calls (w:=_) (h:=A17.out)) ?_;intro w24 hb;have n0_:=aA.mk (Kd.R_below (by (with_reducible repeat (first|apply Kd.R_alloc|apply Kd.R_drewN|apply Kd.R_drew));exact (Kd.R_mono (Kd.R_far (p:=⟨gb502,3,none⟩) (Kd.R_far (p:=⟨gb502,2,none⟩) (Kd.R_far (p:=⟨gb502,1,none⟩) (Kd.R_far (p:=⟨gb502,0,none⟩) (Kd.R_types HO_8.out BK502.out (by decide)) (fun _ hk=>hk.2) (.int .i64 ((ai l1 x45_3).f0.f0))) (fun _ hk=>hk.2) (.int .i64 ((ai l1 x45_3).f0.f1))) (fun _ hk=>hk.2) (.int .i64 ((ai l1 x45_3).f1.f0))) (fun _ hk=>hk.2) (.int .i64 ((ai l1 x45_3).f1.f1))) (fun _ h_=>h_.1))) hb);have n1_:=aA.mk (bL (g:=gb500) (o:=.cells #[.int .i64 ((aD l2 x38_2).f0),.int .i64 ((aD l2 x38_2).f1),.int .i64 ((aD l2 x38_2).f2)] 43 (0,0)) (bkF BK500) hb);have n2_:=aA.mk (bL (g:=gb502) (o:=.cells #[.int .i64 ((ai l1 x45_3).f0.f0),.int .i64 ((ai l1 x45_3).f0.f1),.int .i64 ((ai l1 x45_3).f1.f0),.int .i64 ((ai l1 x45_3).f1.f1)] 59 (0,0)) (bpA BK502) hb);have n3_:=lB hb;clear HO_8;clear BK500;clear BK502;clear HB;have HO_8:=n0_;have BK500:=n1_;have BK502:=n2_;have HB:=n3_;clear n0_ n1_ n2_ n3_;clear hb)|((with_reducible refine aN (N:=14) rfl ?_);refine bxE (cs:=#[.int .i64 0,.int .i64 0,.int .i64 0]) (t:=43) ?_;intro gb507 hg w25 hbox hb;have n0_:=aA.mk (Kd.R_below (rA HO_8) hb);have n1_:=kB BK500 hb;have n2_:=kB BK502 hb;have n3_:=lB hb;have n4_:=aA.mk hbox;have n5_:=sA hg;have n6_:=sA hg;have n7_:=nA hg BK500;have n8_:=nB hg BK500;have n9_:=nA hg BK502;have n10_:=nB hg BK502;clear HO_8;clear BK500;clear BK502;clear HB;have HO_8:=n0_;have BK500:=n1_;have BK502:=n2_;have HB:=n3_;have BK507:=n4_;have GW507:=n5_;have GE507:=n6_;have NB500_507:=n7_;have NB507_500:=n8_;have NB502_507:=n9_;have NB507_502:=n10_;clear n0_ n1_ n2_ n3_ n4_ n5_ n6_ n7_ n8_ n9_ n10_;clear hb hbox hg;have hnb26:=NB507_500.out;have hnc26:=NB500_507.out;have hnb27:=NB507_502.out;have hnc27:=NB502_507.out;obtain ⟨hcz28_0,hcz28_1,hcz28_2,hfz28_0,hfz28_1,hfz28_2⟩:=cz3 BK507)|((with_reducible refine gd 58 rfl ?_);refine gC (some 58) rfl Tryz.func73 (be.calls (w:=_) (hr0:=Kd.C_below HR2.out blA) (hc0:=HC2.out) (h:=A18.out)) ?_;intro w29 hb;have n0_:=aA.mk (Kd.R_below (by (with_reducible repeat (first|apply Kd.R_alloc|apply Kd.R_drewN|apply Kd.R_drew));exact (Kd.R_mono (Kd.R_far (p:=⟨gb507,2,none⟩) (Kd.R_far (p:=⟨gb507,1,none⟩) (Kd.R_far (p:=⟨gb507,0,none⟩) (Kd.R_types HO_8.out BK507.out (by decide)) (fun _ hk=>hk.2) (.int .i64 t503)) (fun _ hk=>hk.2) (.int .i64 t504)) (fun _ hk=>hk.2) (.int .i64 t505)) (fun _ h_=>h_.1))) hb);have n1_:=aA.mk (bL (g:=gb500) (o:=.cells #[.int .i64 ((aD l2 x38_2).f0),.int .i64 ((aD l2 x38_2).f1),.int .i64 ((aD l2 x38_2).f2)] 43 (0,0)) (bkF BK500) hb);have n2_:=aA.mk (bL (g:=gb502) (o:=.cells #[.int .i64 ((ai l1 x45_3).f0.f0),.int .i64 ((ai l1 x45_3).f0.f1),.int .i64 ((ai l1 x45_3).f1.f0),.int .i64 ((ai l1 x45_3).f1.f1)] 59 (0,0)) (bkF BK502) hb);have n3_:=aA.mk (bL (g:=gb507) (o:=.cells #[.int .i64 t503,.int .i64 t504,.int .i64 t505] 43 (0,0)) (bpA BK507) hb);have n4_:=lB hb;clear HO_8;clear BK500;clear BK502;clear BK507;clear HB;have HO_8:=n0_;have BK500:=n1_;have BK502:=n2_;have BK507:=n3_;have HB:=n4_;clear n0_ n1_ n2_ n3_ n4_;clear hb))
          (try simp only [Act.put,List.setIfInBounds_toArray,List.set_cons_zero,List.set_cons_succ])
          go_cut [64] (fun v64 wc=>∃ (kq:Nat) (x64_18:Bool),v64=.bool x64_18∧aA (aK.j3 kq a0 l1 l2 x8_3 x38_2 t508 l2 (l2.length:Int) x38_2 l1 (l1.length:Int) x45_3 x64_18 ((aD l2 x38_2).f0) ((aD l2 x38_2).f1) ((aD l2 x38_2).f2)=some (r1,r2))∧aA (kq≤k3)∧aA (Kd.R (Kd.int .i64) 2 wc w.heap.size (fun _=>True) u8 x8_3)∧aA (wc.heap[gb500]?=some (.cells #[.int .i64 ((aD l2 x38_2).f0),.int .i64 ((aD l2 x38_2).f1),.int .i64 ((aD l2 x38_2).f2)] 43 (0,0)))∧aA (wc.heap[gb502]?=some (.cells #[.int .i64 ((ai l1 x45_3).f0.f0),.int .i64 ((ai l1 x45_3).f0.f1),.int .i64 ((ai l1 x45_3).f1.f0),.int .i64 ((ai l1 x45_3).f1.f1)] 59 (0,0)))∧aA (wc.heap[gb507]?=some (.cells #[.int .i64 t503,.int .i64 t504,.int .i64 t505] 43 (0,0)))∧aA (Below w.heap.size w wc))
          case first=>
           have H:=HC19.out
           clear HC19
           by_cases c30:t506=true
           ·
            subst c30
            rw [if_pos rfl] at H
            try dsimp only at H
            have H':=aA.mk H
            clear H
            go_wp2
            go_meet
            case rel=>exact ⟨_,(decide (t508<0)),hB,H',⟨by have:=HK1.out;have:=HK2.out;have:=HK3.out;first|omega|exact Nat.le_refl _⟩,⟨rA HO_8⟩,⟨bkA BK500⟩,⟨bkA BK502⟩,⟨bkA BK507⟩,⟨blA⟩⟩
           ·
            replace c30:=Bool.eq_false_iff.mpr c30
            subst c30
            rw [if_neg (show ¬ (false=true) by decide)] at H
            try dsimp only at H
            have H':=aA.mk H
            clear H
            go_wp2
            go_meet
            case rel=>exact ⟨_,(true),hB,H',⟨by have:=HK1.out;have:=HK2.out;have:=HK3.out;first|omega|exact Nat.le_refl _⟩,⟨rA HO_8⟩,⟨bkA BK500⟩,⟨bkA BK502⟩,⟨bkA BK507⟩,⟨blA⟩⟩
          case rest=>
           clear HC19
           try clear c1
           try clear c2
           try clear c6
           try clear c6b0
           try clear c7
           try clear c9
           try clear c9b0
           try clear c10
           try clear c10b0
           try clear c11
           try clear c11b0
           try clear c14
           try clear c14b0
           try clear c15
           try clear c15b0
           try clear c16
           try clear c16b0
           try clear c30
           try clear hcz13_0
           try clear hcz13_1
           try clear hcz13_2
           try clear hcz22_0
           try clear hcz22_1
           try clear hcz22_2
           try clear hcz22_3
           try clear hcz23_0
           try clear hcz23_1
           try clear hcz23_2
           try clear hcz28_0
           try clear hcz28_1
           try clear hcz28_2
           try clear hfz13_0
           try clear hfz13_1
           try clear hfz13_2
           try clear hfz22_0
           try clear hfz22_1
           try clear hfz22_2
           try clear hfz22_3
           try clear hfz23_0
           try clear hfz23_1
           try clear hfz23_2
           try clear hfz28_0
           try clear hfz28_1
           try clear hfz28_2
           try clear hx499_0
           try clear hx499_1
           try clear hx499_2
           try clear hx501_0
           try clear hx501_1
           try clear hx501_2
           try clear hx501_3
           try clear p499
           try clear p501
           try clear q499
           try clear q501
           obtain ⟨kq,x64_18,rfl,HA,HJ18,HO_8,BK500,BK502,BK507,HB⟩:=hcut
           cases kq with
           | zero=>exact absurd HA.out (by simp [aK.j3])
           | succ kj18=>
            have H:=HA.out
            clear HA
            simp only [aK.j3] at H
            by_cases c31:x64_18=true
            ·
             subst c31
             rw [if_pos rfl] at H
             try dsimp only at H
             have H':=aA.mk H
             clear H
             go_wp2
             go_roundg kj18
             case measure=>have:=HK1.out;have:=HK2.out;have:=HK3.out;have:=HJ18.out;omega
             case rel=>exact ⟨(x8_3),(wrap64 (x45_3+1)),hB,H',⟨by have:=HK1.out;have:=HK2.out;have:=HK3.out;have:=HJ18.out;omega⟩,⟨rA HO_8⟩,⟨bkA BK500⟩,⟨blA⟩⟩
            ·
             replace c31:=Bool.eq_false_iff.mpr c31
             subst c31
             rw [if_neg (show ¬ (false=true) by decide)] at H
             try dsimp only at H
             by_cases c32:0≤x38_2
             rotate_left
             ·
              rw [if_neg c32] at H
              exact absurd H (by simp)
             rw [if_pos c32] at H
             have c32b0:=decide_eq_true c32
             clear c32
             by_cases c33:x38_2<(x8_3.length:Int)
             rotate_left
             ·
              rw [if_neg c33] at H
              exact absurd H (by simp)
             rw [if_pos c33] at H
             have c33b0:=decide_eq_true c33
             clear c33
             by_cases c34:0≤t508
             rotate_left
             ·
              rw [if_neg c34] at H
              exact absurd H (by simp)
             rw [if_pos c34] at H
             have c34b0:=decide_eq_true c34
             clear c34
             by_cases c35:t508<(x8_3.length:Int)
             rotate_left
             ·
              rw [if_neg c35] at H
              exact absurd H (by simp)
             rw [if_pos c35] at H
             have c35b0:=decide_eq_true c35
             clear c35
             obtain ⟨ji36,hji36⟩:∃ j_:Int,(mn (rd x8_3 x38_2) (rd x8_3 t508))=j_:=⟨_,rfl⟩
             replace H:(aK.l3 kj18 a0 l1 l2 x8_3 x38_2 ji36 (mx (rd x8_3 x38_2) (rd x8_3 t508)) l2 (l2.length:Int) x38_2 l1 (l1.length:Int) x45_3 (x8_3.length:Int) 0 ((aD l2 x38_2).f0) ((aD l2 x38_2).f1) ((aD l2 x38_2).f2))=some (r1,r2):=by first|(rw [hji36] at H;exact H)|(simp only [hji36] at H ⊢;exact H)
             have hji36_:(if (rd x8_3 t508)<(rd x8_3 x38_2) then (rd x8_3 t508) else (rd x8_3 x38_2))=ji36:=hji36
             obtain ⟨ji37,hji37⟩:∃ j_:Int,(mx (rd x8_3 x38_2) (rd x8_3 t508))=j_:=⟨_,rfl⟩
             replace H:(aK.l3 kj18 a0 l1 l2 x8_3 x38_2 ji36 ji37 l2 (l2.length:Int) x38_2 l1 (l1.length:Int) x45_3 (x8_3.length:Int) 0 ((aD l2 x38_2).f0) ((aD l2 x38_2).f1) ((aD l2 x38_2).f2))=some (r1,r2):=by first|(rw [hji37] at H;exact H)|(simp only [hji37] at H ⊢;exact H)
             have hji37_:(if (rd x8_3 x38_2)<(rd x8_3 t508) then (rd x8_3 t508) else (rd x8_3 x38_2))=ji37:=hji37
             have H':=aA.mk H
             clear H
             try go_wp2
             have n0_:=aA.mk (Kd.R_drew HO_8.out)
             have n1_:=aA.mk (ac BK500.out)
             have n2_:=aA.mk (ac BK502.out)
             have n3_:=aA.mk (ac BK507.out)
             have n4_:=aA.mk (al HB.out)
             clear HO_8
             clear BK500
             clear BK502
             clear BK507
             clear HB
             have HO_8:=n0_
             have BK500:=n1_
             have BK502:=n2_
             have BK507:=n3_
             have HB:=n4_
             clear n0_ n1_ n2_ n3_ n4_
             obtain ⟨Ao39,co39,eo39⟩:=Kd.R_slice HO_8.out
             (first|subst eo39|(injection eo39 with f1_ f2_ f3_;have f4_:=f1_.symm;have f5_:=f3_.symm;clear f1_ f2_ f3_;subst f4_;subst f5_))
             have p509:0≤(x38_2:Int):=dA
             have q509:x38_2<(x8_3.length:Int):=dA
             obtain ⟨ad509,e509,hx509_0⟩:=Kd.at_int (Kd.R_reads' HO_8.out).2.2 x38_2 p509 q509
             cases e509
             obtain ⟨gq8,cq8,eq8_,_,_,_⟩:=Kd.R_form HO_8.out (by omega)
             obtain rfl:ad509=⟨gq8,0,none⟩:=(by injection eq8_ with ea_ _ _;injection ea_)
             clear eq8_
             (first|simp only [bM] at hx509_0|skip)
             replace p509:=eq_true p509
             replace q509:=eq_true q509
             have p510:0≤(t508:Int):=dA
             have q510:t508<(x8_3.length:Int):=dA
             obtain ⟨ad510,e510,hx510_0⟩:=Kd.at_int (Kd.R_reads' HO_8.out).2.2 t508 p510 q510
             obtain rfl:(⟨gq8,0,none⟩:Addr)=ad510:=(by injection e510)
             (first|simp only [bM] at hx510_0|skip)
             replace p510:=eq_true p510
             replace q510:=eq_true q510
             have p511:0≤(x38_2:Int):=dA
             have q511:x38_2<(x8_3.length:Int):=dA
             obtain ⟨ad511,e511,hx511_0⟩:=Kd.at_int (Kd.R_reads' HO_8.out).2.2 x38_2 p511 q511
             obtain rfl:(⟨gq8,0,none⟩:Addr)=ad511:=(by injection e511)
             (first|simp only [bM] at hx511_0|skip)
             replace p511:=eq_true p511
             replace q511:=eq_true q511
             have p512:0≤(t508:Int):=dA
             have q512:t508<(x8_3.length:Int):=dA
             obtain ⟨ad512,e512,hx512_0⟩:=Kd.at_int (Kd.R_reads' HO_8.out).2.2 t508 p512 q512
             obtain rfl:(⟨gq8,0,none⟩:Addr)=ad512:=(by injection e512)
             (first|simp only [bM] at hx512_0|skip)
             replace p512:=eq_true p512
             replace q512:=eq_true q512
             refine b7 (n:=20) (S:=fun w'=>w'.cell? ⟨gq8,(x38_2:Int).toNat,none⟩=some (.int .i64 (rd x8_3 x38_2))∧w'.cell? ⟨gq8,(t508:Int).toNat,none⟩=some (.int .i64 (rd x8_3 t508))∧w'.cell? ⟨gq8,(x38_2:Int).toNat,none⟩=some (.int .i64 (rd x8_3 x38_2))∧w'.cell? ⟨gq8,(t508:Int).toNat,none⟩=some (.int .i64 (rd x8_3 t508))) (ds:=[]) #[Z,Z,Z,Z,Z,Z,Z,Z,Z,Z,Z,Z,Z,Z,Z,Z,Z,Z,Z,Z] (by kernel_rfl) rfl rfl ⟨hx509_0,hx510_0,hx511_0,hx512_0⟩ (fun hHeld=>?_);refine bT aK.tab16 aK.bits16 (fun HT_ HW_=>?_)
             generalize wc.drew=w38 at HO_8 BK500 BK502 BK507 HB hx509_0 hx510_0 hx511_0 hx512_0 hHeld ⊢
             refine puA (i:=0) (N:=some 65) #[Y,Z,Z,Z,Z,Z,Z,Z,Z,Z,Z,Z,Z,Z,Z,Z,Z,Z,Z,Z] rfl rfl HT_ ?_
             refine puA (i:=1) (N:=some 66) #[Y,Y,Z,Z,Z,Z,Z,Z,Z,Z,Z,Z,Z,Z,Z,Z,Z,Z,Z,Z] rfl rfl HT_ ?_
             refine puA (i:=2) (N:=some 67) #[Y,Y,Y,Z,Z,Z,Z,Z,Z,Z,Z,Z,Z,Z,Z,Z,Z,Z,Z,Z] rfl rfl HT_ ?_
             refine puA (i:=4) (N:=some 69) #[Y,Y,Y,Z,Y,Z,Z,Z,Z,Z,Z,Z,Z,Z,Z,Z,Z,Z,Z,Z] rfl rfl HT_ ?_
             refine puA (i:=5) (N:=some 70) #[Y,Y,Y,Z,Y,Y,Z,Z,Z,Z,Z,Z,Z,Z,Z,Z,Z,Z,Z,Z] rfl rfl HT_ ?_
             refine puA (i:=6) (N:=some 71) #[Y,Y,Y,Z,Y,Y,Y,Z,Z,Z,Z,Z,Z,Z,Z,Z,Z,Z,Z,Z] rfl rfl HT_ ?_
             refine puA (i:=9) (N:=some 74) #[Y,Y,Y,Z,Y,Y,Y,Z,Z,Y,Z,Z,Z,Z,Z,Z,Z,Z,Z,Z] rfl rfl HT_ ?_
             refine puA (i:=10) (N:=some 75) #[Y,Y,Y,Z,Y,Y,Y,Z,Z,Y,Y,Z,Z,Z,Z,Z,Z,Z,Z,Z] rfl rfl HT_ ?_
             refine puA (i:=11) (N:=some 76) #[Y,Y,Y,Z,Y,Y,Y,Z,Z,Y,Y,Y,Z,Z,Z,Z,Z,Z,Z,Z] rfl rfl HT_ ?_
             refine puA (i:=13) (N:=some 78) #[Y,Y,Y,Z,Y,Y,Y,Z,Z,Y,Y,Y,Z,Y,Z,Z,Z,Z,Z,Z] rfl rfl HT_ ?_
             refine puA (i:=14) (N:=some 79) #[Y,Y,Y,Z,Y,Y,Y,Z,Z,Y,Y,Y,Z,Y,Y,Z,Z,Z,Z,Z] rfl rfl HT_ ?_
             refine puA (i:=15) (N:=some 80) #[Y,Y,Y,Z,Y,Y,Y,Z,Z,Y,Y,Y,Z,Y,Y,Y,Z,Z,Z,Z] rfl rfl HT_ ?_
             refine taA (i:=3) (N:=some 68) #[Y,Y,Y,Y,Y,Y,Y,Z,Z,Y,Y,Y,Z,Y,Y,Y,Z,Z,Z,Z] rfl rfl HT_ HW_ hHeld ?_
             refine taA (i:=7) (N:=some 72) #[Y,Y,Y,Y,Y,Y,Y,Y,Z,Y,Y,Y,Z,Y,Y,Y,Z,Z,Z,Z] rfl rfl HT_ HW_ hHeld ?_
             refine puA (i:=8) (N:=some 73) #[Y,Y,Y,Y,Y,Y,Y,Y,Y,Y,Y,Y,Z,Y,Y,Y,Z,Z,Z,Z] rfl rfl HT_ ?_
             refine puA (i:=18) (N:=some 17) #[Y,Y,Y,Y,Y,Y,Y,Y,Y,Y,Y,Y,Z,Y,Y,Y,Z,Z,Y,Z] rfl rfl HT_ ?_
             refine taA (i:=12) (N:=some 77) #[Y,Y,Y,Y,Y,Y,Y,Y,Y,Y,Y,Y,Y,Y,Y,Y,Z,Z,Y,Z] rfl rfl HT_ HW_ hHeld ?_
             refine taA (i:=16) (N:=some 81) #[Y,Y,Y,Y,Y,Y,Y,Y,Y,Y,Y,Y,Y,Y,Y,Y,Y,Z,Y,Z] rfl rfl HT_ HW_ hHeld ?_
             refine puA (i:=17) (N:=some 82) #[Y,Y,Y,Y,Y,Y,Y,Y,Y,Y,Y,Y,Y,Y,Y,Y,Y,Y,Y,Z] rfl rfl HT_ ?_
             refine puA (i:=19) (N:=some 18) #[Y,Y,Y,Y,Y,Y,Y,Y,Y,Y,Y,Y,Y,Y,Y,Y,Y,Y,Y,Y] rfl rfl HT_ ?_
             refine cg (br HT_.out (by kernel_rfl)) ?_
             try go_wp2
             go_loopg [85] kj18 (fun kq v85 w'=>∃ (x8_5:List Int) (x85_5:Int),v85=.int .i64 x85_5∧aA (aK.l3 kq a0 l1 l2 x8_5 x38_2 ji36 ji37 l2 (l2.length:Int) x38_2 l1 (l1.length:Int) x45_3 (x8_3.length:Int) x85_5 ((aD l2 x38_2).f0) ((aD l2 x38_2).f1) ((aD l2 x38_2).f2)=some (r1,r2))∧aA (kq≤kj18)∧aA (Kd.R (Kd.int .i64) 2 w' w.heap.size (fun _=>True) (.slice (some (⟨gq8,0,none⟩:Addr)) x8_3.length co39) x8_5)∧aA (w'.heap[gb500]?=some (.cells #[.int .i64 ((aD l2 x38_2).f0),.int .i64 ((aD l2 x38_2).f1),.int .i64 ((aD l2 x38_2).f2)] 43 (0,0)))∧aA (w'.heap[gb502]?=some (.cells #[.int .i64 ((ai l1 x45_3).f0.f0),.int .i64 ((ai l1 x45_3).f0.f1),.int .i64 ((ai l1 x45_3).f1.f0),.int .i64 ((ai l1 x45_3).f1.f1)] 59 (0,0)))∧aA (w'.heap[gb507]?=some (.cells #[.int .i64 t503,.int .i64 t504,.int .i64 t505] 43 (0,0)))∧aA (Below w.heap.size w w'))
             case atStart=>exact ⟨(x8_3),(0),hB,H',⟨Nat.le_refl _⟩,⟨rA HO_8⟩,⟨bkA BK500⟩,⟨bkA BK502⟩,⟨bkA BK507⟩,⟨blA⟩⟩
             case round=>
              clear H'
              try clear c1
              try clear c2
              try clear c6
              try clear c6b0
              try clear c7
              try clear c9
              try clear c9b0
              try clear c10
              try clear c10b0
              try clear c11
              try clear c11b0
              try clear c14
              try clear c14b0
              try clear c15
              try clear c15b0
              try clear c16
              try clear c16b0
              try clear c30
              try clear c31
              try clear c32
              try clear c32b0
              try clear c33
              try clear c33b0
              try clear c34
              try clear c34b0
              try clear c35
              try clear c35b0
              try clear hcz13_0
              try clear hcz13_1
              try clear hcz13_2
              try clear hcz22_0
              try clear hcz22_1
              try clear hcz22_2
              try clear hcz22_3
              try clear hcz23_0
              try clear hcz23_1
              try clear hcz23_2
              try clear hcz28_0
              try clear hcz28_1
              try clear hcz28_2
              try clear hfz13_0
              try clear hfz13_1
              try clear hfz13_2
              try clear hfz22_0
              try clear hfz22_1
              try clear hfz22_2
              try clear hfz22_3
              try clear hfz23_0
              try clear hfz23_1
              try clear hfz23_2
              try clear hfz28_0
              try clear hfz28_1
              try clear hfz28_2
              try clear hx499_0
              try clear hx499_1
              try clear hx499_2
              try clear hx501_0
              try clear hx501_1
              try clear hx501_2
              try clear hx501_3
              try clear hx509_0
              try clear hx510_0
              try clear hx511_0
              try clear hx512_0
              try clear p499
              try clear p501
              try clear p509
              try clear p510
              try clear p511
              try clear p512
              try clear q499
              try clear q501
              try clear q509
              try clear q510
              try clear q511
              try clear q512
              obtain ⟨x8_5,x85_5,rfl,HA,HK5,HO_8,BK500,BK502,BK507,HB⟩:=hrel
              have hl8_5:=(Kd.R_reads' HO_8.out).1
              rw [hl8_5] at HO_8
              (try simp only [hl8_5])
              (try simp only [hl8_5] at BK500)
              (try simp only [hl8_5] at BK502)
              (try simp only [hl8_5] at BK507)
              cases gk with
              | zero=>exact absurd HA.out (by simp [aK.l3])
              | succ k5=>
               have H:=HA.out
               clear HA
               simp only [aK.l3] at H
               by_cases c40:x85_5<(x8_3.length:Int)
               ·
                rw [if_pos c40] at H
                have c40b0:=decide_eq_true c40
                clear c40
                by_cases c41:0≤x85_5
                rotate_left
                ·
                 rw [if_neg c41] at H
                 exact absurd H (by simp)
                rw [if_pos c41] at H
                have c41b0:=decide_eq_true c41
                clear c41
                by_cases c42:x85_5<(x8_5.length:Int)
                rotate_left
                ·
                 rw [if_neg c42] at H
                 exact absurd H (by simp)
                rw [if_pos c42] at H
                have c42b0:=decide_eq_true c42
                clear c42
                by_cases c43:(rd x8_5 x85_5)=ji37
                ·
                 rw [if_pos c43] at H
                 have c43b0:((rd x8_5 x85_5) == ji37)=true:=beq_iff_eq.mpr c43
                 have c43b1:((rd x8_5 x85_5) != ji37)=false:=bne_eq_false_iff_eq.mpr c43
                 clear c43
                 obtain ⟨y514,hy514⟩:∃ y_:List Int,y_=(x8_5.set (x85_5:Int).toNat ji36):=⟨_,rfl⟩
                 replace H:(aK.l3 k5 a0 l1 l2 y514 x38_2 ji36 ji37 l2 (l2.length:Int) x38_2 l1 (l1.length:Int) x45_3 (x8_3.length:Int) (wrap64 (x85_5+1)) ((aD l2 x38_2).f0) ((aD l2 x38_2).f1) ((aD l2 x38_2).f2))=some (r1,r2):=rH hy514 H
                 have Ny514:=aA.mk hy514
                 clear hy514
                 have H':=aA.mk H
                 clear H
                 have p513:0≤(x85_5:Int):=dA
                 have q513:x85_5<(x8_5.length:Int):=dA
                 obtain ⟨ad513,e513,hx513_0⟩:=Kd.at_int (Kd.R_reads' HO_8.out).2.2 x85_5 p513 q513
                 obtain rfl:(⟨gq8,0,none⟩:Addr)=ad513:=(by injection e513)
                 (first|simp only [bM] at hx513_0|skip)
                 replace p513:=eq_true p513
                 replace q513:=eq_true q513
                 have p44:0≤(x85_5:Int):=dA
                 have q44:(x85_5:Int)<((x8_5.length:Int):Int):=dA
                 obtain ⟨gz8,cz8,eo44,gb44,gl44,cl44,HG44⟩:=Kd.R_form HO_8.out (by omega)
                 obtain ⟨rfl,rfl⟩:gq8=gz8∧co39=cz8:=(by injection eo44 with ea_ en_ ec_;injection ea_ with ea_;injection ea_ with ea_;exact ⟨ea_,ec_⟩)
                 have GB44:=aA.mk gb44
                 have GG44:=aA.mk HG44
                 clear gb44 gl44 HG44
                 (first|simp only [bM] at hx509_0|skip)
                 (first|simp only [bM] at hx510_0|skip)
                 (first|simp only [bM] at hx511_0|skip)
                 (first|simp only [bM] at hx512_0|skip)
                 (first|simp only [bM] at hx513_0|skip)
                 obtain ⟨hx44_0,hf44_0⟩:=Kd.R_celln 0 HO_8.out (x85_5:Int) p44 q44
                 replace p44:=eq_true p44
                 replace q44:=eq_true q44
                 have HP45:=Kd.R_putg HO_8.out (x85_5:Int) ji36
                 go_wp2_with (first|((with_reducible refine dJ (t:=2) (p:=96) rfl ?_);refine cy (t:=2) (p:=96) (v:=?vo_w46) (w1:=(wr.setCell ⟨gq8,(x85_5:Int).toNat,none⟩ (.int .i64 ji36))) ?hg ?ho ?hn ?hr ?_;(case ho=>rfl);(case hg=>rfl);(case hn=>rfl);(case hr=>first|(go_simp;done)|(go_simp;rfl));intro w46 hw;have hg:wr.grownBy w46 (some gq8):=(by rw [hw];exact HP45.2);have hp_:Kd.R (Kd.int .i64) 2 w46 w.heap.size (fun _=>True) (.slice (some ⟨gq8,0,none⟩) x8_5.length co39) y514:=(by rw [hw,Ny514.out];exact HP45.1);clear HP45;have n0_:=aA.mk (hp_);have n1_:=aA.mk (bu (bkA BK500) hg (Kd.R_ne HO_8.out BK500.out (by decide)));have n2_:=aA.mk (bu (bkA BK502) hg (Kd.R_ne HO_8.out BK502.out (by decide)));have n3_:=aA.mk (bu (bkA BK507) hg (Kd.R_ne HO_8.out BK507.out (by decide)));have n4_:=aA.mk ((by rw [hw];exact cK (HB.out) GB44.out:Below w.heap.size w w46));clear HO_8;clear BK500;clear BK502;clear BK507;clear HB;have HO_8:=n0_;have BK500:=n1_;have BK502:=n2_;have BK507:=n3_;have HB:=n4_;clear n0_ n1_ n2_ n3_ n4_;clear hg hw hp_))
                 (try simp only [← hl8_5])
                 go_roundg k5
                 case measure=>have:=HK1.out;have:=HK2.out;have:=HK3.out;have:=HJ18.out;have:=HK5.out;omega
                 case rel=>exact ⟨(y514),(wrap64 (x85_5+1)),hB,H',⟨by have:=HK1.out;have:=HK2.out;have:=HK3.out;have:=HJ18.out;have:=HK5.out;omega⟩,⟨by (try simp only [hl8_5]);(with_reducible repeat (first|apply Kd.R_alloc|apply Kd.R_drewN|apply Kd.R_drew));exact HO_8.out⟩,⟨by (try simp only [hl8_5]);exact bkA BK500⟩,⟨by (try simp only [hl8_5]);exact bkA BK502⟩,⟨by (try simp only [hl8_5]);exact bkA BK507⟩,⟨blA⟩⟩
                ·
                 rw [if_neg c43] at H
                 have c43b0:((rd x8_5 x85_5) == ji37)=false:=beq_eq_false_iff_ne.mpr c43
                 have c43b1:((rd x8_5 x85_5) != ji37)=true:=bne_iff_ne.mpr c43
                 have H':=aA.mk H
                 clear H
                 have p513:0≤(x85_5:Int):=dA
                 have q513:x85_5<(x8_5.length:Int):=dA
                 obtain ⟨ad513,e513,hx513_0⟩:=Kd.at_int (Kd.R_reads' HO_8.out).2.2 x85_5 p513 q513
                 obtain rfl:(⟨gq8,0,none⟩:Addr)=ad513:=(by injection e513)
                 (first|simp only [bM] at hx513_0|skip)
                 replace p513:=eq_true p513
                 replace q513:=eq_true q513
                 go_wp2
                 (try simp only [← hl8_5])
                 go_roundg k5
                 case measure=>have:=HK1.out;have:=HK2.out;have:=HK3.out;have:=HJ18.out;have:=HK5.out;omega
                 case rel=>exact ⟨(x8_5),(wrap64 (x85_5+1)),hB,H',⟨by have:=HK1.out;have:=HK2.out;have:=HK3.out;have:=HJ18.out;have:=HK5.out;omega⟩,⟨by (try simp only [hl8_5]);(with_reducible repeat (first|apply Kd.R_alloc|apply Kd.R_drewN|apply Kd.R_drew));exact HO_8.out⟩,⟨by (try simp only [hl8_5]);exact bkA BK500⟩,⟨by (try simp only [hl8_5]);exact bkA BK502⟩,⟨by (try simp only [hl8_5]);exact bkA BK507⟩,⟨blA⟩⟩
               ·
                rw [if_neg c40] at H
                have c40b0:=decide_eq_false c40
                have cb9_:=c40b0;rw [hl8_5] at cb9_
                clear c40
                have H':=aA.mk H
                clear H
                go_wp2
                (try simp only [← hl8_5])
                go_roundg k5
                case measure=>have:=HK1.out;have:=HK2.out;have:=HK3.out;have:=HJ18.out;have:=HK5.out;omega
                case rel=>exact ⟨(x8_5),(wrap64 (x45_3+1)),hB,H',⟨by have:=HK1.out;have:=HK2.out;have:=HK3.out;have:=HJ18.out;have:=HK5.out;omega⟩,⟨by (try simp only [hl8_5]);(with_reducible repeat (first|apply Kd.R_alloc|apply Kd.R_drewN|apply Kd.R_drew));exact HO_8.out⟩,⟨by (try simp only [hl8_5]);exact bkA BK500⟩,⟨blA⟩⟩
         ·
          rw [if_neg c14] at H
          have c14b0:=decide_eq_false c14
          clear c14
          have H':=aA.mk H
          clear H
          go_wp2
          go_roundg k3
          case measure=>have:=HK1.out;have:=HK2.out;have:=HK3.out;omega
          case rel=>exact ⟨(x8_3),(wrap64 (x38_2+1)),hB,H',⟨by have:=HK1.out;have:=HK2.out;have:=HK3.out;omega⟩,⟨rA HO_8⟩,⟨blA⟩⟩
      ·
       rw [if_neg c9] at H
       have c9b0:=decide_eq_false c9
       clear c9
       obtain ⟨y515,hy515⟩:∃ y_:List (List Int),y_=(([]:List (List Int))):=⟨_,rfl⟩
       replace H:(if 0≤(l2.length:Int) then (if ((l2.length:Int):Int).toNat≤35184372088832 then (aK.l4 k2 y515 (List.replicate ((l2.length:Int):Int).toNat 0) x8_2 (x8_2.length:Int) 0) else (none)) else (none))=some (r1,r2):=rH hy515 H
       have Ny515:=aA.mk hy515
       clear hy515
       by_cases c47:0≤(l2.length:Int)
       rotate_left
       ·
        rw [if_neg c47] at H
        exact absurd H (by simp)
       rw [if_pos c47] at H
       have c47b0:=eq_true c47
       have c47b1:=decide_eq_true c47
       clear c47
       by_cases c48:((l2.length:Int):Int).toNat≤35184372088832
       rotate_left
       ·
        rw [if_neg c48] at H
        exact absurd H (by simp)
       rw [if_pos c48] at H
       have c48b0:=eq_true c48
       have c48b1:=decide_eq_true c48
       clear c48
       obtain ⟨y518,hy518⟩:∃ y_:List Int,y_=(List.replicate ((l2.length:Int):Int).toNat 0):=⟨_,rfl⟩
       replace H:(aK.l4 k2 y515 y518 x8_2 (x8_2.length:Int) 0)=some (r1,r2):=rH hy518 H
       have Ny518:=aA.mk hy518
       clear hy518
       have H':=aA.mk H
       clear H
       try go_wp2
       have n0_:=aA.mk (Kd.R_drew HO_8.out)
       have n1_:=aA.mk (al HB.out)
       clear HO_8
       clear HB
       have HO_8:=n0_
       have HB:=n1_
       clear n0_ n1_
       refine b7 (n:=6) (S:=fun w'=>True) (ds:=[]) #[Z,Z,Z,Z,Z,Z] (by kernel_rfl) rfl rfl trivial (fun hHeld=>?_)
       generalize wr.drew=w49 at HO_8 HB hHeld ⊢
       refine cH (i:=1) (N:=some 101) (v:=?_) (a':=?_) #[Z,Y,Z,Z,Z,Z] rfl rfl (by kernel_rfl) (fun _ _ _ h=>h) (Or.inl ⟨by rfl,?_⟩) ?_ ?_
       rotate_left
       ·
        intro w'
        go_simp
        with_reducible rfl
       rotate_left
       ·
        simp only [pA]
        rfl
       refine cH (i:=2) (N:=some 102) (v:=?_) (a':=?_) #[Z,Y,Y,Z,Z,Z] rfl rfl (by kernel_rfl) (fun _ _ _ h=>h) (Or.inl ⟨by rfl,?_⟩) ?_ ?_
       rotate_left
       ·
        intro w'
        go_simp
        with_reducible rfl
       rotate_left
       ·
        simp only [pA]
        rfl
       refine d8 (σ:=Value × Value) 1 #[Y,Y,Y,Y,Y,Z] (fun s_=>[(100,s_.1),(103,s_.2),(21,s_.1)]) (fun s_ w'=>(Kd.S (Kd.slice 2 (Kd.int .i64)) 50 w' w.heap.size (fun k_=>some k_≠(s_.2:Value).ownBlock∧some k_≠(u8:Value).ownBlock) s_.1 y515)∧(Kd.R (Kd.int .i64) 2 w' w.heap.size (fun k_=>some k_≠(u8:Value).ownBlock) s_.2 y518)∧(Kd.R (Kd.int .i64) 2 w' w.heap.size (fun k_=>some k_≠(s_.2:Value).ownBlock) u8 x8_2)∧(Below w.heap.size w w')) ?_ ?_
       rotate_left
       ·
        intro hCont
        refine two_ (i:=0) (j:=3) (Ni:=some 100) (Nj:=some 103) #[Y,Y,Y,Z,Z,Z] #[Z,Y,Y,Y,Z,Z] rfl rfl rfl rfl (by kernel_rfl) (by decide) (by decide) (fun K hK=>?_) (fun K hK=>?_)
        ·
         skip
         refine Kd.S_lit_step (Kd.slice 2 (Kd.int .i64)) _ 50 ?hg (N:=100) ?hd (xs:=([]:List (List Int))) (inner:=[]) (ok:=fun _=>True) (okp:=fun _=>True) ?hr ?hp (fun _ hk=>hk) trivial (Below.refl _ _) (Nat.le_refl _) (by simp) ?_;(case hd=>rfl);(case hg=>rfl);(case hr=>first|(go_simp;done)|(go_simp;rfl));(case hp=>exact (bD.none _ _))
         intro v516 w50 ho51 hb hg_ hnew_
         clear hg_ hnew_
         (first|rw [← Ny515.out] at ho51|(simp only [Int.reduceToNat] at ho51;rw [← Ny515.out] at ho51))
         have HO517:=aA.mk (Kd.S_lower (Kd.S_new' ho51 (Kd.R_lt (rA HO_8))) (aQ blA))
         replace HO_8:=aA.mk (Kd.R_below (rA HO_8) hb)
         replace HB:=lB hb
         clear hb ho51
         refine hK.out _ _ trivial (fun hHeld=>?_)
         clear hK K
         refine nmA ?_
         refine cH (i:=4) (N:=some 21) (v:=?_) (a':=?_) #[Y,Y,Y,Z,Y,Z] rfl rfl (by kernel_rfl) (fun _ _ _ h=>h) (Or.inl ⟨by rfl,?_⟩) ?_ ?_
         rotate_left
         ·
          intro w'
          go_simp
          with_reducible rfl
         rotate_left
         ·
          simp only [pA]
          rfl
         refine cV (i:=3) (N:=some 103) #[Y,Y,Y,Y,Y,Z] rfl rfl (by kernel_rfl) (by decide) (fun K hK=>?_)
         refine Kd.R_make_step (Kd.int .i64) _ 2 (by rfl) (N:=103) rfl 50 _ _ rfl (l2.length:Int) rfl rfl Tryz.underlying50 (.int .i64 0) 8 eH rfl (by decide) (by omega) 0 (ok:=fun _=>True) (okp:=fun _=>True) rfl (fun _ hk=>hk) trivial (dA) (Nat.le_trans (Nat.mul_le_mul_right _ (dA:(l2.length:Int).toNat≤35184372088832)) (by omega)) (Below.refl _ _) (Nat.le_refl _) ?_
         intro v519 w52 ho53 hb hg_ hnew_
         clear hg_ hnew_
         (first|rw [← Ny518.out] at ho53|(simp only [Int.reduceToNat] at ho53;rw [← Ny518.out] at ho53))
         have HO520:=aA.mk (Kd.R_lower (Kd.R_new' ho53 (Kd.R_lt (rA HO_8))) (aQ blA))
         replace HO_8:=aA.mk (Kd.R_elder' (rA HO_8) (Kd.R_base ho53) hb)
         replace HO517:=aA.mk (Kd.S_elder' (by (with_reducible repeat (first|apply Kd.S_alloc|apply Kd.S_drewN|apply Kd.S_drew));exact HO517.out) (Kd.R_base ho53) hb)
         replace HB:=lB hb
         clear hb ho53
         refine hK.out _ _ trivial (fun hHeld=>?_)
         clear hK K
         refine nmA ?_
         exact b6 (by simp only [a8,Act.put,List.setIfInBounds_toArray,List.set_cons_zero,List.set_cons_succ]) (hCont (v516,v519) _ ⟨(by (with_reducible repeat (first|apply Kd.S_alloc|apply Kd.S_drewN|apply Kd.S_drew));exact Kd.S_mono HO517.out (fun _ hk=>⟨hk.2,hk.1.2⟩)),(by (with_reducible repeat (first|apply Kd.R_alloc|apply Kd.R_drewN|apply Kd.R_drew));exact Kd.R_mono HO520.out (fun _ hk=>hk.2)),(by (with_reducible repeat (first|apply Kd.R_alloc|apply Kd.R_drewN|apply Kd.R_drew));exact Kd.R_mono HO_8.out (fun _ hk=>hk.2)),blA⟩)
        ·
         skip
         refine Kd.R_make_step (Kd.int .i64) _ 2 (by rfl) (N:=103) rfl 50 _ _ rfl (l2.length:Int) rfl rfl Tryz.underlying50 (.int .i64 0) 8 eH rfl (by decide) (by omega) 0 (ok:=fun _=>True) (okp:=fun _=>True) rfl (fun _ hk=>hk) trivial (dA) (Nat.le_trans (Nat.mul_le_mul_right _ (dA:(l2.length:Int).toNat≤35184372088832)) (by omega)) (Below.refl _ _) (Nat.le_refl _) ?_
         intro v519 w50 ho51 hb hg_ hnew_
         clear hg_ hnew_
         (first|rw [← Ny518.out] at ho51|(simp only [Int.reduceToNat] at ho51;rw [← Ny518.out] at ho51))
         have HO520:=aA.mk (Kd.R_lower (Kd.R_new' ho51 (Kd.R_lt (rA HO_8))) (aQ blA))
         replace HO_8:=aA.mk (Kd.R_elder' (rA HO_8) (Kd.R_base ho51) hb)
         replace HB:=lB hb
         clear hb ho51
         refine hK.out _ _ trivial (fun hHeld=>?_)
         clear hK K
         refine nmA ?_
         refine cV (i:=0) (N:=some 100) #[Y,Y,Y,Y,Z,Z] rfl rfl (by kernel_rfl) (by decide) (fun K hK=>?_)
         refine Kd.S_lit_step (Kd.slice 2 (Kd.int .i64)) _ 50 ?hg (N:=100) ?hd (xs:=([]:List (List Int))) (inner:=[]) (ok:=fun _=>True) (okp:=fun _=>True) ?hr ?hp (fun _ hk=>hk) trivial (Below.refl _ _) (Nat.le_refl _) (by simp) ?_;(case hd=>rfl);(case hg=>rfl);(case hr=>first|(go_simp;done)|(go_simp;rfl));(case hp=>exact (bD.none _ _))
         intro v516 w52 ho53 hb hg_ hnew_
         clear hg_ hnew_
         (first|rw [← Ny515.out] at ho53|(simp only [Int.reduceToNat] at ho53;rw [← Ny515.out] at ho53))
         have HO517:=aA.mk (Kd.S_lower (Kd.S_new' (Kd.S_new' ho53 (Kd.R_lt (rA HO_8))) (Kd.R_lt (rA HO520))) (aQ blA))
         replace HO_8:=aA.mk (Kd.R_below (rA HO_8) hb)
         replace HO520:=aA.mk (Kd.R_below (rA HO520) hb)
         replace HB:=lB hb
         clear hb ho53
         refine hK.out _ _ trivial (fun hHeld=>?_)
         clear hK K
         refine nmA ?_
         refine cH (i:=4) (N:=some 21) (v:=?_) (a':=?_) #[Y,Y,Y,Y,Y,Z] rfl rfl (by kernel_rfl) (fun _ _ _ h=>h) (Or.inl ⟨by rfl,?_⟩) ?_ ?_
         rotate_left
         ·
          intro w'
          go_simp
          with_reducible rfl
         rotate_left
         ·
          simp only [pA]
          rfl
         exact b6 (by simp only [a8,Act.put,List.setIfInBounds_toArray,List.set_cons_zero,List.set_cons_succ]) (hCont (v516,v519) _ ⟨(by (with_reducible repeat (first|apply Kd.S_alloc|apply Kd.S_drewN|apply Kd.S_drew));exact Kd.S_mono HO517.out (fun _ hk=>⟨hk.2,hk.1.2⟩)),(by (with_reducible repeat (first|apply Kd.R_alloc|apply Kd.R_drewN|apply Kd.R_drew));exact Kd.R_mono HO520.out (fun _ hk=>hk.2)),(by (with_reducible repeat (first|apply Kd.R_alloc|apply Kd.R_drewN|apply Kd.R_drew));exact Kd.R_mono HO_8.out (fun _ hk=>hk.2)),blA⟩)
       rintro ⟨v516,v519⟩ w54 ⟨h0_,h1_,h2_,h3_⟩
       have HO517:=aA.mk h0_
       have HO520:=aA.mk h1_
       replace HO_8:=aA.mk h2_
       replace HB:=aA.mk h3_
       clear h0_ h1_ h2_ h3_
       have hHeld:=trivial
       refine b6 (a':=?_) ?_ ?_
       rotate_left
       ·
        simp only [a8,Act.put,List.setIfInBounds_toArray,List.set_cons_zero,List.set_cons_succ]
        rfl
       refine cH (i:=5) (N:=some 22) (v:=?_) (a':=?_) #[Y,Y,Y,Y,Y,Y] rfl rfl (by kernel_rfl) (fun _ _ _ h=>h) (Or.inl ⟨by rfl,?_⟩) ?_ ?_
       rotate_left
       ·
        intro w'
        go_simp
        with_reducible rfl
       rotate_left
       ·
        simp only [pA]
        rfl
       refine cg (by kernel_rfl) ?_
       obtain ⟨Ao55,co55,eo55⟩:=Kd.R_slice HO_8.out
       subst eo55
       try go_wp2
       go_loopg [21,106] k2 (fun kq v21 v106 w'=>∃ (x21_3:List (List Int)) (x22_3:List Int) (x106_3:Int),v106=.int .i64 x106_3∧aA (aK.l4 kq x21_3 x22_3 x8_2 (x8_2.length:Int) x106_3=some (r1,r2))∧aA (kq≤k2)∧aA (Kd.S (Kd.slice 2 (Kd.int .i64)) 50 w' w.heap.size (fun k_=>some k_≠(v519:Value).ownBlock∧some k_≠((.slice Ao55 x8_2.length co55):Value).ownBlock) v21 x21_3)∧aA (Kd.R (Kd.int .i64) 2 w' w.heap.size (fun k_=>some k_≠((.slice Ao55 x8_2.length co55):Value).ownBlock) v519 x22_3)∧aA (Kd.R (Kd.int .i64) 2 w' w.heap.size (fun k_=>some k_≠(v519:Value).ownBlock) (.slice Ao55 x8_2.length co55) x8_2)∧aA (Below w.heap.size w w'))
       case atStart=>exact ⟨(y515),(y518),(0),hB,H',⟨Nat.le_refl _⟩,⟨by (with_reducible repeat (first|apply Kd.S_alloc|apply Kd.S_drewN|apply Kd.S_drew));exact HO517.out⟩,⟨rA HO520⟩,⟨rA HO_8⟩,⟨blA⟩⟩
       case round=>
        clear H'
        try clear c1
        try clear c2
        try clear c6
        try clear c6b0
        try clear c7
        try clear c9
        try clear c9b0
        try clear c10
        try clear c10b0
        try clear c11
        try clear c11b0
        try clear c14
        try clear c14b0
        try clear c15
        try clear c15b0
        try clear c16
        try clear c16b0
        try clear c30
        try clear c31
        try clear c32
        try clear c32b0
        try clear c33
        try clear c33b0
        try clear c34
        try clear c34b0
        try clear c35
        try clear c35b0
        try clear c40
        try clear c40b0
        try clear c41
        try clear c41b0
        try clear c42
        try clear c42b0
        try clear c43
        try clear c43b0
        try clear c43b1
        try clear p44
        try clear q44
        try clear c47
        try clear c47b0
        try clear c47b1
        try clear c48
        try clear c48b0
        try clear c48b1
        try clear hcz13_0
        try clear hcz13_1
        try clear hcz13_2
        try clear hcz22_0
        try clear hcz22_1
        try clear hcz22_2
        try clear hcz22_3
        try clear hcz23_0
        try clear hcz23_1
        try clear hcz23_2
        try clear hcz28_0
        try clear hcz28_1
        try clear hcz28_2
        try clear hfz13_0
        try clear hfz13_1
        try clear hfz13_2
        try clear hfz22_0
        try clear hfz22_1
        try clear hfz22_2
        try clear hfz22_3
        try clear hfz23_0
        try clear hfz23_1
        try clear hfz23_2
        try clear hfz28_0
        try clear hfz28_1
        try clear hfz28_2
        try clear hx44_0
        try clear hx499_0
        try clear hx499_1
        try clear hx499_2
        try clear hx501_0
        try clear hx501_1
        try clear hx501_2
        try clear hx501_3
        try clear hx509_0
        try clear hx510_0
        try clear hx511_0
        try clear hx512_0
        try clear hx513_0
        try clear p44
        try clear p499
        try clear p501
        try clear p509
        try clear p510
        try clear p511
        try clear p512
        try clear p513
        try clear q44
        try clear q499
        try clear q501
        try clear q509
        try clear q510
        try clear q511
        try clear q512
        try clear q513
        obtain ⟨x21_3,x22_3,x106_3,rfl,HA,HK3,HO_21,HO_22,HO_104,HB⟩:=hrel
        cases gk with
        | zero=>exact absurd HA.out (by simp [aK.l4])
        | succ k3=>
         have H:=HA.out
         clear HA
         simp only [aK.l4] at H
         by_cases c56:x106_3<(x8_2.length:Int)
         ·
          rw [if_pos c56] at H
          have c56b0:=decide_eq_true c56
          clear c56
          by_cases c57:0≤x106_3
          rotate_left
          ·
           rw [if_neg c57] at H
           exact absurd H (by simp)
          rw [if_pos c57] at H
          have c57b0:=decide_eq_true c57
          clear c57
          by_cases c58:x106_3<(x8_2.length:Int)
          rotate_left
          ·
           rw [if_neg c58] at H
           exact absurd H (by simp)
          rw [if_pos c58] at H
          have c58b0:=decide_eq_true c58
          clear c58
          by_cases c59:(rd x8_2 x106_3)=x106_3
          ·
           rw [if_pos c59] at H
           have c59b0:((rd x8_2 x106_3) == x106_3)=true:=beq_iff_eq.mpr c59
           have c59b1:((rd x8_2 x106_3) != x106_3)=false:=bne_eq_false_iff_eq.mpr c59
           clear c59
           by_cases c60:x106_3<(x22_3.length:Int)
           rotate_left
           ·
            rw [if_neg c60] at H
            exact absurd H (by simp)
           rw [if_pos c60] at H
           have c60b0:=decide_eq_true c60
           clear c60
           obtain ⟨y522,hy522⟩:∃ y_:List Int,y_=(x22_3.set (x106_3:Int).toNat (x21_3.length:Int)):=⟨_,rfl⟩
           replace H:(if x21_3.length<5864062014805 then ((some (x21_3 ++ [[]]:List (List Int))).bind fun y523=>(if 0≤(rd x8_2 x106_3) then (if (rd x8_2 x106_3)<(x22_3.length:Int) then ((some (y522.set (x106_3:Int).toNat (rd y522 (rd x8_2 x106_3)):List Int)).bind fun y527=>(if 0≤(rd y527 x106_3) then (if (rd y527 x106_3)<(y523.length:Int) then (if (bE y523 (rd y527 x106_3)).length<17592186044416 then (aK.l4 k3 (y523.set ((rd y527 x106_3):Int).toNat (bE y523 (rd y527 x106_3) ++ [x106_3])) y527 x8_2 (x8_2.length:Int) (wrap64 (x106_3+1))) else (none)) else (none)) else (none))) else (none)) else (none))) else (none))=some (r1,r2):=rH hy522 H
           have Ny522:=aA.mk hy522
           clear hy522
           by_cases c62:x21_3.length<5864062014805
           rotate_left
           ·
            rw [if_neg c62] at H
            exact absurd H (by simp)
           rw [if_pos c62] at H
           have LMc62:=aA.mk c62
           clear c62
           obtain ⟨y523,hy523⟩:∃ y_:List (List Int),y_=(x21_3 ++ [[]]):=⟨_,rfl⟩
           replace H:(if 0≤(rd x8_2 x106_3) then (if (rd x8_2 x106_3)<(x22_3.length:Int) then ((some (y522.set (x106_3:Int).toNat (rd y522 (rd x8_2 x106_3)):List Int)).bind fun y527=>(if 0≤(rd y527 x106_3) then (if (rd y527 x106_3)<(y523.length:Int) then (if (bE y523 (rd y527 x106_3)).length<17592186044416 then (aK.l4 k3 (y523.set ((rd y527 x106_3):Int).toNat (bE y523 (rd y527 x106_3) ++ [x106_3])) y527 x8_2 (x8_2.length:Int) (wrap64 (x106_3+1))) else (none)) else (none)) else (none))) else (none)) else (none))=some (r1,r2):=rH hy523 H
           have Ny523:=aA.mk hy523
           clear hy523
           by_cases c63:0≤(rd x8_2 x106_3)
           rotate_left
           ·
            rw [if_neg c63] at H
            exact absurd H (by simp)
           rw [if_pos c63] at H
           have c63b0:=decide_eq_true c63
           clear c63
           by_cases c64:(rd x8_2 x106_3)<(x22_3.length:Int)
           rotate_left
           ·
            rw [if_neg c64] at H
            exact absurd H (by simp)
           rw [if_pos c64] at H
           have c64b0:=decide_eq_true c64
           clear c64
           obtain ⟨y527,hy527⟩:∃ y_:List Int,y_=(y522.set (x106_3:Int).toNat (rd y522 (rd x8_2 x106_3))):=⟨_,rfl⟩
           replace H:(if 0≤(rd y527 x106_3) then (if (rd y527 x106_3)<(y523.length:Int) then (if (bE y523 (rd y527 x106_3)).length<17592186044416 then (aK.l4 k3 (y523.set ((rd y527 x106_3):Int).toNat (bE y523 (rd y527 x106_3) ++ [x106_3])) y527 x8_2 (x8_2.length:Int) (wrap64 (x106_3+1))) else (none)) else (none)) else (none))=some (r1,r2):=rH hy527 H
           have Ny527:=aA.mk hy527
           clear hy527
           by_cases c66:0≤(rd y527 x106_3)
           rotate_left
           ·
            rw [if_neg c66] at H
            exact absurd H (by simp)
           rw [if_pos c66] at H
           have c66b0:=decide_eq_true c66
           clear c66
           by_cases c67:(rd y527 x106_3)<(y523.length:Int)
           rotate_left
           ·
            rw [if_neg c67] at H
            exact absurd H (by simp)
           rw [if_pos c67] at H
           have c67b0:=decide_eq_true c67
           clear c67
           by_cases c68:(bE y523 (rd y527 x106_3)).length<17592186044416
           rotate_left
           ·
            rw [if_neg c68] at H
            exact absurd H (by simp)
           rw [if_pos c68] at H
           have LMc68:=aA.mk c68
           clear c68
           obtain ⟨y531,hy531⟩:∃ y_:List (List Int),y_=(y523.set ((rd y527 x106_3):Int).toNat (bE y523 (rd y527 x106_3) ++ [x106_3])):=⟨_,rfl⟩
           replace H:(aK.l4 k3 y531 y527 x8_2 (x8_2.length:Int) (wrap64 (x106_3+1)))=some (r1,r2):=rH hy531 H
           have Ny531:=aA.mk hy531
           clear hy531
           have H':=aA.mk H
           clear H
           have p521:0≤(x106_3:Int):=dA
           have q521:x106_3<(x8_2.length:Int):=dA
           obtain ⟨ad521,e521,hx521_0⟩:=Kd.at_int (Kd.R_reads' HO_104.out).2.2 x106_3 p521 q521
           cases e521
           replace p521:=eq_true p521
           replace q521:=eq_true q521
           obtain ⟨Ao69,co69,eo69⟩:=Kd.S_slice HO_21.out
           subst eo69
           have p61:0≤(x106_3:Int):=dA
           have q61:(x106_3:Int)<((x22_3.length:Int):Int):=dA
           obtain ⟨go61,co61,eo61,gb61,gl61,cl61,HG61⟩:=Kd.R_form HO_22.out (by omega)
           (first|cases eo61|(injection eo61 with ea_ en_ ec_;(first|subst ea_|(injection ea_ with ea_;subst ea_));subst ec_;clear en_))
           have GB61:=aA.mk gb61
           have GG61:=aA.mk HG61
           clear gb61 gl61 HG61
           obtain ⟨hx61_0,hf61_0⟩:=Kd.R_celln 0 HO_22.out (x106_3:Int) p61 q61
           replace p61:=eq_true p61
           replace q61:=eq_true q61
           have HP70:=Kd.R_putg HO_22.out (x106_3:Int) (x21_3.length:Int)
           go_wp2_with (first|((with_reducible refine dJ (t:=2) (p:=118) rfl ?_);refine cy (t:=2) (p:=118) (v:=?vo_w71) (w1:=(wr.setCell ⟨go61,(x106_3:Int).toNat,none⟩ (.int .i64 (x21_3.length:Int)))) ?hg ?ho ?hn ?hr ?_;(case ho=>rfl);(case hg=>rfl);(case hn=>rfl);(case hr=>first|(go_simp;done)|(go_simp;rfl));intro w71 hw;have hg:wr.grownBy w71 (some go61):=(by rw [hw];exact HP70.2);have hp_:Kd.R (Kd.int .i64) 2 w71 w.heap.size (fun k_=>some k_≠(.slice (some ad521) x8_2.length co55:Value).ownBlock) (.slice (some ⟨go61,0,none⟩) x22_3.length co61) y522:=(by rw [hw,Ny522.out];exact HP70.1);clear HP70;have n0_:=aA.mk (Kd.S_after (v:=(.slice (some ⟨go61,0,none⟩) x22_3.length co61)) (v1:=(.slice (some ⟨go61,0,none⟩) x22_3.length co61)) (ok:=(fun k_=>some k_≠(.slice (some ad521) x8_2.length co55:Value).ownBlock)) (by (with_reducible repeat (first|apply Kd.S_alloc|apply Kd.S_drewN|apply Kd.S_drew));exact Kd.S_mono HO_21.out (fun _ hk=>⟨hk.2,hk.1⟩)) hg (.inl rfl));have n1_:=aA.mk (hp_);have n2_:=aA.mk (Kd.R_after (v:=(.slice (some ⟨go61,0,none⟩) x22_3.length co61)) (v1:=(.slice (some ⟨go61,0,none⟩) x22_3.length co61)) (ok:=(fun _=>True)) (by (with_reducible repeat (first|apply Kd.R_alloc|apply Kd.R_drewN|apply Kd.R_drew));exact Kd.R_mono HO_104.out (fun _ hk=>⟨trivial,hk⟩)) hg (.inl rfl));have n3_:=aA.mk ((by rw [hw];exact cK (HB.out) GB61.out:Below w.heap.size w w71));clear HO_21;clear HO_22;clear HO_104;clear HB;have HO_21:=n0_;have HO_22:=n1_;have HO_104:=n2_;have HB:=n3_;clear n0_ n1_ n2_ n3_;clear hg hw hp_)|((with_reducible refine bY (b:=.append) (xs:=#[.tmp 119,.tmp 120]) rfl ?_);at_builtin;refine Kd.S_append (Kd.slice 2 (Kd.int .i64)) (w0:=w) w.heap.size rfl (.tmp 119) (.tmp 120) 24 50 (.slice none 0 0) 24 rfl Tryz.underlying24 info50 rfl (by decide) (by omega) (.slice Ao69 x21_3.length co69) x21_3 [] [.slice none 0 0] (fun k_=>some k_≠(.slice (some ⟨go61,0,none⟩) x22_3.length co61:Value).ownBlock∧some k_≠(.slice (some ad521) x8_2.length co55:Value).ownBlock) (fun _=>False) rfl rfl ?aP (fun _ hk=>hk.elim) ?aF ?aO ?aB ?aS ?aL ?_;(case aP=>exact ⟨_,rfl,Kd.R_nil _ _ _ _ _⟩);(case aB=>exact blA);(case aF=>exact (fun k_ hk=>⟨Kd.fresh' (Kd.R_lt (rA HO_22)) k_ hk,Kd.fresh' (Kd.R_lt (rA HO_104)) k_ hk⟩));(case aO=>exact (by (with_reducible repeat (first|apply Kd.S_alloc|apply Kd.S_drewN|apply Kd.S_drew));exact Kd.S_mono HO_21.out (fun k_ hk=>⟨⟨hk.2,hk.1⟩,fun e_=>e_⟩)));(case aS=>exact (aQ blA));(case aL=>have:=LMc62.out;omega);intro v524 w72 ho hb hg hat;rw [← Ny523.out] at ho;have n0_:=aA.mk (Kd.R_over' (rA HO_22) (Kd.S_typed (by (with_reducible repeat (first|apply Kd.S_alloc|apply Kd.S_drewN|apply Kd.S_drew));exact HO_21.out)) (by decide) hg);have n1_:=aA.mk (Kd.R_over' (rA HO_104) (Kd.S_typed (by (with_reducible repeat (first|apply Kd.S_alloc|apply Kd.S_drewN|apply Kd.S_drew));exact HO_21.out)) (by decide) hg);have n2_:=aA.mk hb;have n3_:=aA.mk ho;clear HO_22;clear HO_104;clear HB;clear HO_21;have HO_22:=n0_;have HO_104:=n1_;have HB:=n2_;have HO525:=n3_;clear n0_ n1_ n2_ n3_;clear ho hb hg hat;have p526:0≤((rd x8_2 x106_3):Int):=dA;have q526:(rd x8_2 x106_3)<(y522.length:Int):=(by have h_:((rd x8_2 x106_3):Int)<((x22_3.length:Int):Int):=dA;first|(have e_:=(Kd.R_reads' HO_22.out).1;omega)|simpa only [Ny522.out,List.length_set] using h_);have ql526:(((rd x8_2 x106_3):Int)<((x22_3.length:Int):Int))=True:=eq_true (dA);obtain ⟨ad526,e526,hx526_0⟩:=Kd.at_int (Kd.R_reads' HO_22.out).2.2 (rd x8_2 x106_3) p526 q526;obtain rfl:(⟨go61,0,none⟩:Addr)=ad526:=(by injection e526);(first|simp only [bM] at hx526_0|simp only [add_at] at hx526_0|simp only [Addr.add,Nat.zero_add] at hx526_0|skip);replace p526:=eq_true p526;replace q526:=eq_true q526;have p65:0≤(x106_3:Int):=dA;have q65:(x106_3:Int)<((x22_3.length:Int):Int):=dA;obtain ⟨hx65_0,hf65_0⟩:=Kd.R_celln 0 HO_22.out (x106_3:Int) p65 q65;replace p65:=eq_true p65;replace q65:=eq_true q65;obtain ⟨hy73_,hz73_⟩:=Kd.R_celln 0 HO_22.out (x106_3:Int) (dA) (dA);have HP73:=Kd.R_putg HO_22.out (x106_3:Int) (rd y522 (rd x8_2 x106_3)))|((with_reducible refine dJ (t:=2) (p:=128) rfl ?_);refine cy (t:=2) (p:=128) (v:=?vo_w74) (w1:=(w72.setCell ⟨go61,(x106_3:Int).toNat,none⟩ (.int .i64 (rd y522 (rd x8_2 x106_3))))) ?hg ?ho ?hn ?hr ?_;(case ho=>rfl);(case hg=>rfl);(case hn=>rfl);(case hr=>first|(go_simp;done)|(go_simp;rfl));intro w74 hw;have hg:w72.grownBy w74 (some go61):=(by rw [hw];exact HP73.2);have hp_:Kd.R (Kd.int .i64) 2 w74 w.heap.size (fun k_=>some k_≠(.slice (some ad521) x8_2.length co55:Value).ownBlock) (.slice (some ⟨go61,0,none⟩) x22_3.length co61) y527:=(by rw [hw,Ny527.out];exact HP73.1);clear HP73;have n0_:=aA.mk (hp_);have n1_:=aA.mk (Kd.R_after (v:=(.slice (some ⟨go61,0,none⟩) x22_3.length co61)) (v1:=(.slice (some ⟨go61,0,none⟩) x22_3.length co61)) (ok:=(fun _=>True)) (rA HO_104) hg (.inl rfl));have n2_:=aA.mk (Kd.S_after (v:=(.slice (some ⟨go61,0,none⟩) x22_3.length co61)) (v1:=(.slice (some ⟨go61,0,none⟩) x22_3.length co61)) (ok:=(fun k_=>some k_≠(.slice (some ad521) x8_2.length co55:Value).ownBlock)) (by (with_reducible repeat (first|apply Kd.S_alloc|apply Kd.S_drewN|apply Kd.S_drew));exact Kd.S_mono HO525.out (fun _ hk=>⟨hk.2,hk.1⟩)) hg (.inl rfl));have n3_:=aA.mk ((by rw [hw];exact cK (HB.out) GB61.out:Below w.heap.size w w74));clear HO_22;clear HO_104;clear HO525;clear HB;have HO_22:=n0_;have HO_104:=n1_;have HO525:=n2_;have HB:=n3_;clear n0_ n1_ n2_ n3_;clear hg hw hp_))
           try go_wp2
           have n0_:=aA.mk (Kd.R_drew HO_22.out)
           have n1_:=aA.mk (Kd.R_drew HO_104.out)
           have n2_:=aA.mk (show Kd.S (Kd.slice 2 (Kd.int .i64)) 50 _ w.heap.size (fun k_=>(some k_≠(.slice (some ⟨go61,0,none⟩) x22_3.length co61:Value).ownBlock∧some k_≠(.slice (some ad521) x8_2.length co55:Value).ownBlock)) _ y523 from Kd.S_mono (Kd.S_drew HO525.out) (fun _ hk=>⟨hk.2,hk.1⟩))
           have n3_:=aA.mk (al HB.out)
           clear HO_22 HO_104 HO525 HB
           have HO_22:=n0_
           have HO_104:=n1_
           have HO_900:=n2_
           have HB:=n3_
           clear n0_ n1_ n2_ n3_
           have p900:0≤((rd y527 x106_3):Int):=dA
           have q900:(rd y527 x106_3)<(y523.length:Int):=dA
           have p901:0≤(x106_3:Int):=dA
           have q901:x106_3<(x22_3.length:Int):=dA
           obtain ⟨gq,cq,eq_,gbq,glq,clsq,clq⟩:=Kd.S_form HO_900.out (by omega)
           subst eq_
           have hxn:w74.drew.cell? ⟨go61,(x106_3:Int).toNat,none⟩=some (.int .i64 (rd y527 x106_3)):=(Kd.R_celln 0 HO_22.out (x106_3:Int) p901 q901).1
           obtain ⟨oki,cc_,hcl_,hM_,hcc_,hoki,hH⟩:=Kd.S_lend HO_900.out [] (rd y527 x106_3) p900 q900
           obtain ⟨vr,rfl,hR⟩:=hM_
           have hxo:=hcc_ 0 _ rfl
           rw [Nat.add_zero,show ((Kd.slice 2 (Kd.int .i64))).sz=1 from rfl,Nat.mul_one] at hxo
           replace hR:Kd.R (Kd.int .i64) 2 _ _ _ vr (bE y523 (rd y527 x106_3)):=hR
           obtain ⟨Ar,cr,rfl⟩:=Kd.R_slice hR
           have HNQ:=aA.mk (Kd.R_ne HO_22.out clq (by decide))
           have HLQ:=aA.mk (Kd.R_ne HO_104.out clq (by decide))
           have HR900:=aA.mk hR
           have HH900:=aA.mk hH
           have HKI:=aA.mk hoki
           have hxn_:=hxn
           have hxo_:=hxo
           clear hR hH hoki hcc_ hcl_ gbq glq clq clsq HO_900
           replace p900:=eq_true p900
           replace q900:=eq_true q900
           replace p901:=eq_true p901
           replace q901:=eq_true q901
           refine b7 (n:=17) (S:=fun w'=>w'.cell? ⟨go61,(x106_3:Int).toNat,none⟩=some (.int .i64 (rd y527 x106_3))∧w'.cell? ⟨gq,((rd y527 x106_3):Int).toNat,none⟩=some (.slice Ar (bE y523 (rd y527 x106_3)).length cr)) (ds:=[16]) #[Z,Z,Z,Z,Z,Z,Z,Z,Z,Z,Z,Z,Z,Z,Z,Z,Z] (by kernel_rfl) rfl rfl ⟨hxn,hxo⟩ (fun hHeld=>?_)
           clear hxn hxo hxn_ hxo_
           generalize w74.drew=wq at HO_22 HO_104 HB HR900 HH900 hHeld ⊢
           refine cH (i:=0) (N:=some 129) (v:=?_) (a':=?_) #[Y,Z,Z,Z,Z,Z,Z,Z,Z,Z,Z,Z,Z,Z,Z,Z,Z] rfl rfl (by kernel_rfl) (fun _ _ _ h=>h) (Or.inl ⟨by rfl,?_⟩) ?_ ?_
           rotate_left
           ·
            intro w'
            go_simp
            with_reducible rfl
           rotate_left
           ·
            simp only [pA]
            rfl
           refine cH (i:=1) (N:=some 130) (v:=?_) (a':=?_) #[Y,Y,Z,Z,Z,Z,Z,Z,Z,Z,Z,Z,Z,Z,Z,Z,Z] rfl rfl (by kernel_rfl) (fun _ _ _ h=>h) (Or.inl ⟨by rfl,?_⟩) ?_ ?_
           rotate_left
           ·
            intro w'
            go_simp
            with_reducible rfl
           rotate_left
           ·
            simp only [pA]
            rfl
           refine cH (i:=2) (N:=some 131) (v:=?_) (a':=?_) #[Y,Y,Y,Z,Z,Z,Z,Z,Z,Z,Z,Z,Z,Z,Z,Z,Z] rfl rfl (by kernel_rfl) (fun _ _ _ h=>h) (Or.inl ⟨by rfl,?_⟩) ?_ ?_
           rotate_left
           ·
            intro w'
            go_simp
            with_reducible rfl
           rotate_left
           ·
            simp only [pA]
            rfl
           refine cH (i:=3) (N:=some 132) (v:=?_) (a':=?_) #[Y,Y,Y,Y,Z,Z,Z,Z,Z,Z,Z,Z,Z,Z,Z,Z,Z] rfl rfl (by kernel_rfl) (fun _ _ _ h=>h) (Or.inl ⟨by rfl,?_⟩) ?_ ?_
           rotate_left
           ·
            intro w'
            go_simp
            with_reducible rfl
           rotate_left
           ·
            simp only [pA]
            rfl
           refine cH (i:=5) (N:=some 134) (v:=?_) (a':=?_) #[Y,Y,Y,Y,Z,Y,Z,Z,Z,Z,Z,Z,Z,Z,Z,Z,Z] rfl rfl (by kernel_rfl) (fun _ _ _ h=>h) (Or.inl ⟨by rfl,?_⟩) ?_ ?_
           rotate_left
           ·
            intro w'
            go_simp
            with_reducible rfl
           rotate_left
           ·
            simp only [pA]
            rfl
           refine cH (i:=6) (N:=some 135) (v:=?_) (a':=?_) #[Y,Y,Y,Y,Z,Y,Y,Z,Z,Z,Z,Z,Z,Z,Z,Z,Z] rfl rfl (by kernel_rfl) (fun _ _ _ h=>h) (Or.inl ⟨by rfl,?_⟩) ?_ ?_
           rotate_left
           ·
            intro w'
            go_simp
            with_reducible rfl
           rotate_left
           ·
            simp only [pA]
            rfl
           refine cH (i:=7) (N:=some 136) (v:=?_) (a':=?_) #[Y,Y,Y,Y,Z,Y,Y,Y,Z,Z,Z,Z,Z,Z,Z,Z,Z] rfl rfl (by kernel_rfl) (fun _ _ _ h=>h) (Or.inl ⟨by rfl,?_⟩) ?_ ?_
           rotate_left
           ·
            intro w'
            go_simp
            with_reducible rfl
           rotate_left
           ·
            simp only [pA]
            rfl
           refine cH (i:=8) (N:=some 137) (v:=?_) (a':=?_) #[Y,Y,Y,Y,Z,Y,Y,Y,Y,Z,Z,Z,Z,Z,Z,Z,Z] rfl rfl (by kernel_rfl) (fun _ _ _ h=>h) (Or.inl ⟨by rfl,?_⟩) ?_ ?_
           rotate_left
           ·
            intro w'
            go_simp
            with_reducible rfl
           rotate_left
           ·
            simp only [pA]
            rfl
           refine cH (i:=12) (N:=some 141) (v:=?_) (a':=?_) #[Y,Y,Y,Y,Z,Y,Y,Y,Y,Z,Z,Z,Y,Z,Z,Z,Z] rfl rfl (by kernel_rfl) (fun _ _ _ h=>h) (Or.inl ⟨by rfl,?_⟩) ?_ ?_
           rotate_left
           ·
            intro w'
            go_simp
            with_reducible rfl
           rotate_left
           ·
            simp only [pA]
            rfl
           refine take_ (i:=4) (N:=some 133) (v:=?_) (a':=?_) #[Y,Y,Y,Y,Y,Y,Y,Y,Y,Z,Z,Z,Y,Z,Z,Z,Z] rfl rfl (by kernel_rfl) (fun _ _ _ h=>h) (Or.inl ⟨by rfl,?_⟩) hHeld ?_ ?_
           rotate_left
           ·
            rintro w' ⟨s0,s1⟩
            go_simp
            with_reducible rfl
           rotate_left
           ·
            simp only [pA]
            rfl
           refine take_ (i:=9) (N:=some 138) (v:=?_) (a':=?_) #[Y,Y,Y,Y,Y,Y,Y,Y,Y,Y,Z,Z,Y,Z,Z,Z,Z] rfl rfl (by kernel_rfl) (fun _ _ _ h=>h) (Or.inl ⟨by rfl,?_⟩) hHeld ?_ ?_
           rotate_left
           ·
            rintro w' ⟨s0,s1⟩
            go_simp
            with_reducible rfl
           rotate_left
           ·
            simp only [pA]
            rfl
           refine cH (i:=10) (N:=some 139) (v:=?_) (a':=?_) #[Y,Y,Y,Y,Y,Y,Y,Y,Y,Y,Y,Z,Y,Z,Z,Z,Z] rfl rfl (by kernel_rfl) (fun _ _ _ h=>h) (Or.inl ⟨by rfl,?_⟩) ?_ ?_
           rotate_left
           ·
            intro w'
            go_simp
            with_reducible rfl
           rotate_left
           ·
            simp only [pA]
            rfl
           refine take_ (i:=11) (N:=some 140) (v:=?_) (a':=?_) #[Y,Y,Y,Y,Y,Y,Y,Y,Y,Y,Y,Y,Y,Z,Z,Z,Z] rfl rfl (by kernel_rfl) (fun _ _ _ h=>h) (Or.inl ⟨by rfl,?_⟩) hHeld ?_ ?_
           rotate_left
           ·
            rintro w' ⟨s0,s1⟩
            go_simp
            with_reducible rfl
           rotate_left
           ·
            simp only [pA]
            rfl
           refine cV (i:=13) (N:=some 142) #[Y,Y,Y,Y,Y,Y,Y,Y,Y,Y,Y,Y,Y,Y,Z,Z,Z] rfl rfl (by kernel_rfl) (by decide) (fun K hK=>?_)
           refine eQ (v:=.slice (some ⟨wq.heap.size,0,none⟩) 1 1) (w1:=wq.alloc (.cells #[.int .i64 x106_3] 2)) ?hg ?hr ?_;(case hg=>rfl);(case hr=>first|(go_simp;done)|(go_simp;rfl))
           refine hK.out _ _ ⟨((bV (Below.refl _ _) _).cell (World.block_lt_of_cell? _ _ hHeld.1)).trans hHeld.1,((bV (Below.refl _ _) _).cell (World.block_lt_of_cell? _ _ hHeld.2)).trans hHeld.2⟩ (fun hHeld=>?_)
           clear hK K
           refine nmA ?_
           refine cV (i:=14) (N:=some 143) #[Y,Y,Y,Y,Y,Y,Y,Y,Y,Y,Y,Y,Y,Y,Y,Z,Z] rfl rfl (by kernel_rfl) (by decide) (fun K hK=>?_)
           refine Kd.R_append_step (Kd.int .i64) (W:=wq) (w0:=w) w.heap.size rfl (.tmp 140) (.tmp 142) 50 2 (.int .i64 0) 8 rfl Tryz.underlying50 eH rfl (by decide) (by omega) (.slice Ar (bE y523 (rd y527 x106_3)).length cr) (bE y523 (rd y527 x106_3)) x106_3 [.int .i64 x106_3] (fun k_=>oki k_∨((some k_≠(.slice (some ⟨go61,0,none⟩) x22_3.length co61:Value).ownBlock∧some k_≠(.slice (some ad521) x8_2.length co55:Value).ownBlock)∧wq.heap.size≤k_)) (fun _=>False) rfl rfl rfl (fun _ hk=>hk.elim) (fun k_ hk=>.inr ⟨⟨Kd.fresh' (Kd.R_lt HO_22.out) k_ hk,Kd.fresh' (Kd.R_lt HO_104.out) k_ hk⟩,hk⟩) (Kd.R_mono HR900.out (fun _ hk=>.inl hk)) HB.out (aQ HB.out) (by have:=LMc68.out;omega) ?_
           intro v900 w901 ho hb hg hat
           have n0_:=aA.mk (Kd.R_mono (Kd.R_grown (Kd.R_tight rfl HO_22.out) hg (fun k_ e1 e2=>(HKI.out k_ (HR900.out.1 k_ e2.symm)).1.1 e1)) (fun k_ e1=>HO_22.out.1 k_ e1.symm))
           have n1_:=aA.mk (Kd.R_mono (Kd.R_grown (Kd.R_tight rfl HO_104.out) hg (fun k_ e1 e2=>(HKI.out k_ (HR900.out.1 k_ e2.symm)).1.2 e1)) (fun k_ e1=>HO_104.out.1 k_ e1.symm))
           have n2_:=aA.mk (Kd.H_grown (Kd.H_widen HH900.out) hg (fun k_ e_=>.inl (HR900.out.1 k_ e_)))
           obtain ⟨_,_,_,_,_,hcc_,_⟩:=Kd.H_raw n2_.out (of_eq_true p900) (of_eq_true q900)
           have hxo:=hcc_ 0 _ rfl
           rw [Nat.add_zero,show ((Kd.slice 2 (Kd.int .i64))).sz=1 from rfl,Nat.mul_one] at hxo
           have HR901:=aA.mk ho
           clear HO_22 HO_104 HB HH900 HR900 HKI hcc_ hHeld
           have HO_22:=n0_
           have HO_104:=n1_
           have HH900:=n2_
           have HB:=aA.mk hb
           clear n0_ n1_ n2_ hb ho hg hat
           refine hK.out _ _ ⟨(Kd.R_celln 0 HO_22.out (x106_3:Int) (of_eq_true p901) (of_eq_true q901)).1,hxo⟩ (fun hHeld=>?_)
           clear hK K hxo
           refine nmA ?_
           refine cH (i:=15) (N:=some 144) (v:=?_) (a':=?_) #[Y,Y,Y,Y,Y,Y,Y,Y,Y,Y,Y,Y,Y,Y,Y,Y,Z] rfl rfl (by kernel_rfl) (fun _ _ _ h=>h) (Or.inl ⟨by rfl,?_⟩) ?_ ?_
           rotate_left
           ·
            intro w'
            go_simp
            with_reducible rfl
           rotate_left
           ·
            simp only [pA]
            rfl
           refine last_ (i:=16) (N:=none) #[Y,Y,Y,Y,Y,Y,Y,Y,Y,Y,Y,Y,Y,Y,Y,Y,Y] rfl rfl (by kernel_rfl) (by decide) (fun K hK=>?_)
           refine ft (Kd.slice 2 (Kd.int .i64)) (w0:=w) w.heap.size rfl rfl 50 (.tmp 144) (.tmp 143) rfl 50 (rd y527 x106_3) y523 ((bE y523 (rd y527 x106_3)) ++ [x106_3]) v900 [v900] _ _ _ (fun k_=>oki k_∨((some k_≠(.slice (some ⟨go61,0,none⟩) x22_3.length co61:Value).ownBlock∧some k_≠(.slice (some ad521) x8_2.length co55:Value).ownBlock)∧wq.heap.size≤k_)) (by rw [show ((Kd.slice 2 (Kd.int .i64))).sz=1 from rfl,Nat.mul_one];rfl) rfl (Kd.R_val HR901.out).1 (by kernel_rfl) (fun q_ hq_=>by rw [List.mem_singleton.1 hq_];exact (Kd.R_val HR901.out).2) rfl HH900.out (of_eq_true p900) (of_eq_true q900) ⟨v900,rfl,HR901.out⟩ (fun _ hk=>hk) HB.out ?_
           intro w902 hS2 hB2 hg2
           rw [← Ny531.out] at hS2
           have n0_:=aA.mk (Kd.R_mono (Kd.R_grown (Kd.R_tight rfl HO_22.out) hg2 (fun k_ e1 e2=>HNQ.out (e2.symm.trans e1))) (fun k_ e1=>HO_22.out.1 k_ e1.symm))
           have n1_:=aA.mk (Kd.R_mono (Kd.R_grown (Kd.R_tight rfl HO_104.out) hg2 (fun k_ e1 e2=>HLQ.out (e2.symm.trans e1))) (fun k_ e1=>HO_104.out.1 k_ e1.symm))
           have HO533:=aA.mk hS2
           clear HO_22 HO_104 HB HH900 HR901 hHeld
           have HO_22:=n0_
           have HO_104:=n1_
           have HB:=aA.mk hB2
           clear n0_ n1_ hS2 hB2 hg2 HNQ HLQ
           refine hK.out _ _ ?_
           clear hK K
           refine cg (by kernel_rfl) ?_
           try go_wp2
           go_roundg k3
           case measure=>have:=HK1.out;have:=HK2.out;have:=HK3.out;omega
           case rel=>exact ⟨(y531),(y527),(wrap64 (x106_3+1)),hB,H',⟨by have:=HK1.out;have:=HK2.out;have:=HK3.out;omega⟩,⟨by (with_reducible repeat (first|apply Kd.S_alloc|apply Kd.S_drewN|apply Kd.S_drew));exact HO533.out⟩,⟨rA HO_22⟩,⟨by (with_reducible repeat (first|apply Kd.R_alloc|apply Kd.R_drewN|apply Kd.R_drew));exact Kd.R_mono HO_104.out (fun _ hk=>hk.2)⟩,⟨blA⟩⟩
          ·
           rw [if_neg c59] at H
           have c59b0:((rd x8_2 x106_3) == x106_3)=false:=beq_eq_false_iff_ne.mpr c59
           have c59b1:((rd x8_2 x106_3) != x106_3)=true:=bne_iff_ne.mpr c59
           by_cases c77:0≤(rd x8_2 x106_3)
           rotate_left
           ·
            rw [if_neg c77] at H
            exact absurd H (by simp)
           rw [if_pos c77] at H
           have c77b0:=decide_eq_true c77
           clear c77
           by_cases c78:(rd x8_2 x106_3)<(x22_3.length:Int)
           rotate_left
           ·
            rw [if_neg c78] at H
            exact absurd H (by simp)
           rw [if_pos c78] at H
           have c78b0:=decide_eq_true c78
           clear c78
           by_cases c79:x106_3<(x22_3.length:Int)
           rotate_left
           ·
            rw [if_neg c79] at H
            exact absurd H (by simp)
           rw [if_pos c79] at H
           have c79b0:=decide_eq_true c79
           clear c79
           obtain ⟨y535,hy535⟩:∃ y_:List Int,y_=(x22_3.set (x106_3:Int).toNat (rd x22_3 (rd x8_2 x106_3))):=⟨_,rfl⟩
           replace H:(if 0≤(rd y535 x106_3) then (if (rd y535 x106_3)<(x21_3.length:Int) then (if (bE x21_3 (rd y535 x106_3)).length<17592186044416 then (aK.l4 k3 (x21_3.set ((rd y535 x106_3):Int).toNat (bE x21_3 (rd y535 x106_3) ++ [x106_3])) y535 x8_2 (x8_2.length:Int) (wrap64 (x106_3+1))) else (none)) else (none)) else (none))=some (r1,r2):=rH hy535 H
           have Ny535:=aA.mk hy535
           clear hy535
           by_cases c81:0≤(rd y535 x106_3)
           rotate_left
           ·
            rw [if_neg c81] at H
            exact absurd H (by simp)
           rw [if_pos c81] at H
           have c81b0:=decide_eq_true c81
           clear c81
           by_cases c82:(rd y535 x106_3)<(x21_3.length:Int)
           rotate_left
           ·
            rw [if_neg c82] at H
            exact absurd H (by simp)
           rw [if_pos c82] at H
           have c82b0:=decide_eq_true c82
           clear c82
           by_cases c83:(bE x21_3 (rd y535 x106_3)).length<17592186044416
           rotate_left
           ·
            rw [if_neg c83] at H
            exact absurd H (by simp)
           rw [if_pos c83] at H
           have LMc83:=aA.mk c83
           clear c83
           obtain ⟨y539,hy539⟩:∃ y_:List (List Int),y_=(x21_3.set ((rd y535 x106_3):Int).toNat (bE x21_3 (rd y535 x106_3) ++ [x106_3])):=⟨_,rfl⟩
           replace H:(aK.l4 k3 y539 y535 x8_2 (x8_2.length:Int) (wrap64 (x106_3+1)))=some (r1,r2):=rH hy539 H
           have Ny539:=aA.mk hy539
           clear hy539
           have H':=aA.mk H
           clear H
           have p521:0≤(x106_3:Int):=dA
           have q521:x106_3<(x8_2.length:Int):=dA
           obtain ⟨ad521,e521,hx521_0⟩:=Kd.at_int (Kd.R_reads' HO_104.out).2.2 x106_3 p521 q521
           cases e521
           replace p521:=eq_true p521
           replace q521:=eq_true q521
           obtain ⟨Ao84,co84,eo84⟩:=Kd.R_slice HO_22.out
           subst eo84
           have p534:0≤((rd x8_2 x106_3):Int):=dA
           have q534:(rd x8_2 x106_3)<(x22_3.length:Int):=dA
           obtain ⟨ad534,e534,hx534_0⟩:=Kd.at_int (Kd.R_reads' HO_22.out).2.2 (rd x8_2 x106_3) p534 q534
           cases e534
           replace p534:=eq_true p534
           replace q534:=eq_true q534
           have p80:0≤(x106_3:Int):=dA
           have q80:(x106_3:Int)<((x22_3.length:Int):Int):=dA
           obtain ⟨go80,co80,eo80,gb80,gl80,cl80,HG80⟩:=Kd.R_form HO_22.out (by omega)
           (first|cases eo80|(injection eo80 with ea_ en_ ec_;(first|subst ea_|(injection ea_ with ea_;subst ea_));subst ec_;clear en_))
           have GB80:=aA.mk gb80
           have GG80:=aA.mk HG80
           clear gb80 gl80 HG80
           (first|simp only [bM] at hx534_0|skip)
           obtain ⟨hx80_0,hf80_0⟩:=Kd.R_celln 0 HO_22.out (x106_3:Int) p80 q80
           replace p80:=eq_true p80
           replace q80:=eq_true q80
           have HP85:=Kd.R_putg HO_22.out (x106_3:Int) (rd x22_3 (rd x8_2 x106_3))
           go_wp2_with (first|((with_reducible refine dJ (t:=2) (p:=128) rfl ?_);refine cy (t:=2) (p:=128) (v:=?vo_w86) (w1:=(wr.setCell ⟨go80,(x106_3:Int).toNat,none⟩ (.int .i64 (rd x22_3 (rd x8_2 x106_3))))) ?hg ?ho ?hn ?hr ?_;(case ho=>rfl);(case hg=>rfl);(case hn=>rfl);(case hr=>first|(go_simp;done)|(go_simp;rfl));intro w86 hw;have hg:wr.grownBy w86 (some go80):=(by rw [hw];exact HP85.2);have hp_:Kd.R (Kd.int .i64) 2 w86 w.heap.size (fun k_=>some k_≠(.slice (some ad521) x8_2.length co55:Value).ownBlock) (.slice (some ⟨go80,0,none⟩) x22_3.length co84) y535:=(by rw [hw,Ny535.out];exact HP85.1);clear HP85;have n0_:=aA.mk (Kd.S_after (v:=(.slice (some ⟨go80,0,none⟩) x22_3.length co84)) (v1:=(.slice (some ⟨go80,0,none⟩) x22_3.length co84)) (ok:=(fun k_=>some k_≠(.slice (some ad521) x8_2.length co55:Value).ownBlock)) (by (with_reducible repeat (first|apply Kd.S_alloc|apply Kd.S_drewN|apply Kd.S_drew));exact Kd.S_mono HO_21.out (fun _ hk=>⟨hk.2,hk.1⟩)) hg (.inl rfl));have n1_:=aA.mk (hp_);have n2_:=aA.mk (Kd.R_after (v:=(.slice (some ⟨go80,0,none⟩) x22_3.length co84)) (v1:=(.slice (some ⟨go80,0,none⟩) x22_3.length co84)) (ok:=(fun _=>True)) (by (with_reducible repeat (first|apply Kd.R_alloc|apply Kd.R_drewN|apply Kd.R_drew));exact Kd.R_mono HO_104.out (fun _ hk=>⟨trivial,hk⟩)) hg (.inl rfl));have n3_:=aA.mk ((by rw [hw];exact cK (HB.out) GB80.out:Below w.heap.size w w86));clear HO_21;clear HO_22;clear HO_104;clear HB;have HO_21:=n0_;have HO_22:=n1_;have HO_104:=n2_;have HB:=n3_;clear n0_ n1_ n2_ n3_;clear hg hw hp_))
           try go_wp2
           have n0_:=aA.mk (Kd.R_drew HO_22.out)
           have n1_:=aA.mk (Kd.R_drew HO_104.out)
           have n2_:=aA.mk (show Kd.S (Kd.slice 2 (Kd.int .i64)) 50 _ w.heap.size (fun k_=>(some k_≠(.slice (some ⟨go80,0,none⟩) x22_3.length co84:Value).ownBlock∧some k_≠(.slice (some ad521) x8_2.length co55:Value).ownBlock)) _ x21_3 from Kd.S_mono (Kd.S_drew HO_21.out) (fun _ hk=>⟨hk.2,hk.1⟩))
           have n3_:=aA.mk (al HB.out)
           clear HO_22 HO_104 HO_21 HB
           have HO_22:=n0_
           have HO_104:=n1_
           have HO_900:=n2_
           have HB:=n3_
           clear n0_ n1_ n2_ n3_
           have p900:0≤((rd y535 x106_3):Int):=dA
           have q900:(rd y535 x106_3)<(x21_3.length:Int):=dA
           have p901:0≤(x106_3:Int):=dA
           have q901:x106_3<(x22_3.length:Int):=dA
           obtain ⟨gq,cq,eq_,gbq,glq,clsq,clq⟩:=Kd.S_form HO_900.out (by omega)
           subst eq_
           have hxn:w86.drew.cell? ⟨go80,(x106_3:Int).toNat,none⟩=some (.int .i64 (rd y535 x106_3)):=(Kd.R_celln 0 HO_22.out (x106_3:Int) p901 q901).1
           obtain ⟨oki,cc_,hcl_,hM_,hcc_,hoki,hH⟩:=Kd.S_lend HO_900.out [] (rd y535 x106_3) p900 q900
           obtain ⟨vr,rfl,hR⟩:=hM_
           have hxo:=hcc_ 0 _ rfl
           rw [Nat.add_zero,show ((Kd.slice 2 (Kd.int .i64))).sz=1 from rfl,Nat.mul_one] at hxo
           replace hR:Kd.R (Kd.int .i64) 2 _ _ _ vr (bE x21_3 (rd y535 x106_3)):=hR
           obtain ⟨Ar,cr,rfl⟩:=Kd.R_slice hR
           have HNQ:=aA.mk (Kd.R_ne HO_22.out clq (by decide))
           have HLQ:=aA.mk (Kd.R_ne HO_104.out clq (by decide))
           have HR900:=aA.mk hR
           have HH900:=aA.mk hH
           have HKI:=aA.mk hoki
           have hxn_:=hxn
           have hxo_:=hxo
           clear hR hH hoki hcc_ hcl_ gbq glq clq clsq HO_900
           replace p900:=eq_true p900
           replace q900:=eq_true q900
           replace p901:=eq_true p901
           replace q901:=eq_true q901
           refine b7 (n:=17) (S:=fun w'=>w'.cell? ⟨go80,(x106_3:Int).toNat,none⟩=some (.int .i64 (rd y535 x106_3))∧w'.cell? ⟨gq,((rd y535 x106_3):Int).toNat,none⟩=some (.slice Ar (bE x21_3 (rd y535 x106_3)).length cr)) (ds:=[16]) #[Z,Z,Z,Z,Z,Z,Z,Z,Z,Z,Z,Z,Z,Z,Z,Z,Z] (by kernel_rfl) rfl rfl ⟨hxn,hxo⟩ (fun hHeld=>?_)
           clear hxn hxo hxn_ hxo_
           generalize w86.drew=wq at HO_22 HO_104 HB HR900 HH900 hHeld ⊢
           refine cH (i:=0) (N:=some 129) (v:=?_) (a':=?_) #[Y,Z,Z,Z,Z,Z,Z,Z,Z,Z,Z,Z,Z,Z,Z,Z,Z] rfl rfl (by kernel_rfl) (fun _ _ _ h=>h) (Or.inl ⟨by rfl,?_⟩) ?_ ?_
           rotate_left
           ·
            intro w'
            go_simp
            with_reducible rfl
           rotate_left
           ·
            simp only [pA]
            rfl
           refine cH (i:=1) (N:=some 130) (v:=?_) (a':=?_) #[Y,Y,Z,Z,Z,Z,Z,Z,Z,Z,Z,Z,Z,Z,Z,Z,Z] rfl rfl (by kernel_rfl) (fun _ _ _ h=>h) (Or.inl ⟨by rfl,?_⟩) ?_ ?_
           rotate_left
           ·
            intro w'
            go_simp
            with_reducible rfl
           rotate_left
           ·
            simp only [pA]
            rfl
           refine cH (i:=2) (N:=some 131) (v:=?_) (a':=?_) #[Y,Y,Y,Z,Z,Z,Z,Z,Z,Z,Z,Z,Z,Z,Z,Z,Z] rfl rfl (by kernel_rfl) (fun _ _ _ h=>h) (Or.inl ⟨by rfl,?_⟩) ?_ ?_
           rotate_left
           ·
            intro w'
            go_simp
            with_reducible rfl
           rotate_left
           ·
            simp only [pA]
            rfl
           refine cH (i:=3) (N:=some 132) (v:=?_) (a':=?_) #[Y,Y,Y,Y,Z,Z,Z,Z,Z,Z,Z,Z,Z,Z,Z,Z,Z] rfl rfl (by kernel_rfl) (fun _ _ _ h=>h) (Or.inl ⟨by rfl,?_⟩) ?_ ?_
           rotate_left
           ·
            intro w'
            go_simp
            with_reducible rfl
           rotate_left
           ·
            simp only [pA]
            rfl
           refine cH (i:=5) (N:=some 134) (v:=?_) (a':=?_) #[Y,Y,Y,Y,Z,Y,Z,Z,Z,Z,Z,Z,Z,Z,Z,Z,Z] rfl rfl (by kernel_rfl) (fun _ _ _ h=>h) (Or.inl ⟨by rfl,?_⟩) ?_ ?_
           rotate_left
           ·
            intro w'
            go_simp
            with_reducible rfl
           rotate_left
           ·
            simp only [pA]
            rfl
           refine cH (i:=6) (N:=some 135) (v:=?_) (a':=?_) #[Y,Y,Y,Y,Z,Y,Y,Z,Z,Z,Z,Z,Z,Z,Z,Z,Z] rfl rfl (by kernel_rfl) (fun _ _ _ h=>h) (Or.inl ⟨by rfl,?_⟩) ?_ ?_
           rotate_left
           ·
            intro w'
            go_simp
            with_reducible rfl
           rotate_left
           ·
            simp only [pA]
            rfl
           refine cH (i:=7) (N:=some 136) (v:=?_) (a':=?_) #[Y,Y,Y,Y,Z,Y,Y,Y,Z,Z,Z,Z,Z,Z,Z,Z,Z] rfl rfl (by kernel_rfl) (fun _ _ _ h=>h) (Or.inl ⟨by rfl,?_⟩) ?_ ?_
           rotate_left
           ·
            intro w'
            go_simp
            with_reducible rfl
           rotate_left
           ·
            simp only [pA]
            rfl
           refine cH (i:=8) (N:=some 137) (v:=?_) (a':=?_) #[Y,Y,Y,Y,Z,Y,Y,Y,Y,Z,Z,Z,Z,Z,Z,Z,Z] rfl rfl (by kernel_rfl) (fun _ _ _ h=>h) (Or.inl ⟨by rfl,?_⟩) ?_ ?_
           rotate_left
           ·
            intro w'
            go_simp
            with_reducible rfl
           rotate_left
           ·
            simp only [pA]
            rfl
           refine cH (i:=12) (N:=some 141) (v:=?_) (a':=?_) #[Y,Y,Y,Y,Z,Y,Y,Y,Y,Z,Z,Z,Y,Z,Z,Z,Z] rfl rfl (by kernel_rfl) (fun _ _ _ h=>h) (Or.inl ⟨by rfl,?_⟩) ?_ ?_
           rotate_left
           ·
            intro w'
            go_simp
            with_reducible rfl
           rotate_left
           ·
            simp only [pA]
            rfl
           refine take_ (i:=4) (N:=some 133) (v:=?_) (a':=?_) #[Y,Y,Y,Y,Y,Y,Y,Y,Y,Z,Z,Z,Y,Z,Z,Z,Z] rfl rfl (by kernel_rfl) (fun _ _ _ h=>h) (Or.inl ⟨by rfl,?_⟩) hHeld ?_ ?_
           rotate_left
           ·
            rintro w' ⟨s0,s1⟩
            go_simp
            with_reducible rfl
           rotate_left
           ·
            simp only [pA]
            rfl
           refine take_ (i:=9) (N:=some 138) (v:=?_) (a':=?_) #[Y,Y,Y,Y,Y,Y,Y,Y,Y,Y,Z,Z,Y,Z,Z,Z,Z] rfl rfl (by kernel_rfl) (fun _ _ _ h=>h) (Or.inl ⟨by rfl,?_⟩) hHeld ?_ ?_
           rotate_left
           ·
            rintro w' ⟨s0,s1⟩
            go_simp
            with_reducible rfl
           rotate_left
           ·
            simp only [pA]
            rfl
           refine cH (i:=10) (N:=some 139) (v:=?_) (a':=?_) #[Y,Y,Y,Y,Y,Y,Y,Y,Y,Y,Y,Z,Y,Z,Z,Z,Z] rfl rfl (by kernel_rfl) (fun _ _ _ h=>h) (Or.inl ⟨by rfl,?_⟩) ?_ ?_
           rotate_left
           ·
            intro w'
            go_simp
            with_reducible rfl
           rotate_left
           ·
            simp only [pA]
            rfl
           refine take_ (i:=11) (N:=some 140) (v:=?_) (a':=?_) #[Y,Y,Y,Y,Y,Y,Y,Y,Y,Y,Y,Y,Y,Z,Z,Z,Z] rfl rfl (by kernel_rfl) (fun _ _ _ h=>h) (Or.inl ⟨by rfl,?_⟩) hHeld ?_ ?_
           rotate_left
           ·
            rintro w' ⟨s0,s1⟩
            go_simp
            with_reducible rfl
           rotate_left
           ·
            simp only [pA]
            rfl
           refine cV (i:=13) (N:=some 142) #[Y,Y,Y,Y,Y,Y,Y,Y,Y,Y,Y,Y,Y,Y,Z,Z,Z] rfl rfl (by kernel_rfl) (by decide) (fun K hK=>?_)
           refine eQ (v:=.slice (some ⟨wq.heap.size,0,none⟩) 1 1) (w1:=wq.alloc (.cells #[.int .i64 x106_3] 2)) ?hg ?hr ?_;(case hg=>rfl);(case hr=>first|(go_simp;done)|(go_simp;rfl))
           refine hK.out _ _ ⟨((bV (Below.refl _ _) _).cell (World.block_lt_of_cell? _ _ hHeld.1)).trans hHeld.1,((bV (Below.refl _ _) _).cell (World.block_lt_of_cell? _ _ hHeld.2)).trans hHeld.2⟩ (fun hHeld=>?_)
           clear hK K
           refine nmA ?_
           refine cV (i:=14) (N:=some 143) #[Y,Y,Y,Y,Y,Y,Y,Y,Y,Y,Y,Y,Y,Y,Y,Z,Z] rfl rfl (by kernel_rfl) (by decide) (fun K hK=>?_)
           refine Kd.R_append_step (Kd.int .i64) (W:=wq) (w0:=w) w.heap.size rfl (.tmp 140) (.tmp 142) 50 2 (.int .i64 0) 8 rfl Tryz.underlying50 eH rfl (by decide) (by omega) (.slice Ar (bE x21_3 (rd y535 x106_3)).length cr) (bE x21_3 (rd y535 x106_3)) x106_3 [.int .i64 x106_3] (fun k_=>oki k_∨((some k_≠(.slice (some ⟨go80,0,none⟩) x22_3.length co84:Value).ownBlock∧some k_≠(.slice (some ad521) x8_2.length co55:Value).ownBlock)∧wq.heap.size≤k_)) (fun _=>False) rfl rfl rfl (fun _ hk=>hk.elim) (fun k_ hk=>.inr ⟨⟨Kd.fresh' (Kd.R_lt HO_22.out) k_ hk,Kd.fresh' (Kd.R_lt HO_104.out) k_ hk⟩,hk⟩) (Kd.R_mono HR900.out (fun _ hk=>.inl hk)) HB.out (aQ HB.out) (by have:=LMc83.out;omega) ?_
           intro v900 w901 ho hb hg hat
           have n0_:=aA.mk (Kd.R_mono (Kd.R_grown (Kd.R_tight rfl HO_22.out) hg (fun k_ e1 e2=>(HKI.out k_ (HR900.out.1 k_ e2.symm)).1.1 e1)) (fun k_ e1=>HO_22.out.1 k_ e1.symm))
           have n1_:=aA.mk (Kd.R_mono (Kd.R_grown (Kd.R_tight rfl HO_104.out) hg (fun k_ e1 e2=>(HKI.out k_ (HR900.out.1 k_ e2.symm)).1.2 e1)) (fun k_ e1=>HO_104.out.1 k_ e1.symm))
           have n2_:=aA.mk (Kd.H_grown (Kd.H_widen HH900.out) hg (fun k_ e_=>.inl (HR900.out.1 k_ e_)))
           obtain ⟨_,_,_,_,_,hcc_,_⟩:=Kd.H_raw n2_.out (of_eq_true p900) (of_eq_true q900)
           have hxo:=hcc_ 0 _ rfl
           rw [Nat.add_zero,show ((Kd.slice 2 (Kd.int .i64))).sz=1 from rfl,Nat.mul_one] at hxo
           have HR901:=aA.mk ho
           clear HO_22 HO_104 HB HH900 HR900 HKI hcc_ hHeld
           have HO_22:=n0_
           have HO_104:=n1_
           have HH900:=n2_
           have HB:=aA.mk hb
           clear n0_ n1_ n2_ hb ho hg hat
           refine hK.out _ _ ⟨(Kd.R_celln 0 HO_22.out (x106_3:Int) (of_eq_true p901) (of_eq_true q901)).1,hxo⟩ (fun hHeld=>?_)
           clear hK K hxo
           refine nmA ?_
           refine cH (i:=15) (N:=some 144) (v:=?_) (a':=?_) #[Y,Y,Y,Y,Y,Y,Y,Y,Y,Y,Y,Y,Y,Y,Y,Y,Z] rfl rfl (by kernel_rfl) (fun _ _ _ h=>h) (Or.inl ⟨by rfl,?_⟩) ?_ ?_
           rotate_left
           ·
            intro w'
            go_simp
            with_reducible rfl
           rotate_left
           ·
            simp only [pA]
            rfl
           refine last_ (i:=16) (N:=none) #[Y,Y,Y,Y,Y,Y,Y,Y,Y,Y,Y,Y,Y,Y,Y,Y,Y] rfl rfl (by kernel_rfl) (by decide) (fun K hK=>?_)
           refine ft (Kd.slice 2 (Kd.int .i64)) (w0:=w) w.heap.size rfl rfl 50 (.tmp 144) (.tmp 143) rfl 50 (rd y535 x106_3) x21_3 ((bE x21_3 (rd y535 x106_3)) ++ [x106_3]) v900 [v900] _ _ _ (fun k_=>oki k_∨((some k_≠(.slice (some ⟨go80,0,none⟩) x22_3.length co84:Value).ownBlock∧some k_≠(.slice (some ad521) x8_2.length co55:Value).ownBlock)∧wq.heap.size≤k_)) (by rw [show ((Kd.slice 2 (Kd.int .i64))).sz=1 from rfl,Nat.mul_one];rfl) rfl (Kd.R_val HR901.out).1 (by kernel_rfl) (fun q_ hq_=>by rw [List.mem_singleton.1 hq_];exact (Kd.R_val HR901.out).2) rfl HH900.out (of_eq_true p900) (of_eq_true q900) ⟨v900,rfl,HR901.out⟩ (fun _ hk=>hk) HB.out ?_
           intro w902 hS2 hB2 hg2
           rw [← Ny539.out] at hS2
           have n0_:=aA.mk (Kd.R_mono (Kd.R_grown (Kd.R_tight rfl HO_22.out) hg2 (fun k_ e1 e2=>HNQ.out (e2.symm.trans e1))) (fun k_ e1=>HO_22.out.1 k_ e1.symm))
           have n1_:=aA.mk (Kd.R_mono (Kd.R_grown (Kd.R_tight rfl HO_104.out) hg2 (fun k_ e1 e2=>HLQ.out (e2.symm.trans e1))) (fun k_ e1=>HO_104.out.1 k_ e1.symm))
           have HO541:=aA.mk hS2
           clear HO_22 HO_104 HB HH900 HR901 hHeld
           have HO_22:=n0_
           have HO_104:=n1_
           have HB:=aA.mk hB2
           clear n0_ n1_ hS2 hB2 hg2 HNQ HLQ
           refine hK.out _ _ ?_
           clear hK K
           refine cg (by kernel_rfl) ?_
           try go_wp2
           go_roundg k3
           case measure=>have:=HK1.out;have:=HK2.out;have:=HK3.out;omega
           case rel=>exact ⟨(y539),(y535),(wrap64 (x106_3+1)),hB,H',⟨by have:=HK1.out;have:=HK2.out;have:=HK3.out;omega⟩,⟨by (with_reducible repeat (first|apply Kd.S_alloc|apply Kd.S_drewN|apply Kd.S_drew));exact HO541.out⟩,⟨rA HO_22⟩,⟨by (with_reducible repeat (first|apply Kd.R_alloc|apply Kd.R_drewN|apply Kd.R_drew));exact Kd.R_mono HO_104.out (fun _ hk=>hk.2)⟩,⟨blA⟩⟩
         ·
          rw [if_neg c56] at H
          have c56b0:=decide_eq_false c56
          clear c56
          simp only [Option.some.injEq,Prod.mk.injEq] at H
          obtain ⟨rfl,rfl⟩:=H
          go_wp2
          go_ret2
          exact ⟨_,_,eW,by (with_reducible repeat (first|apply Kd.S_alloc|apply Kd.S_drewN|apply Kd.S_drew));exact Kd.S_mono HO_21.out (fun _ hk=>hk.1),by (with_reducible repeat (first|apply Kd.R_alloc|apply Kd.R_drewN|apply Kd.R_drew));exact Kd.R_mono HO_22.out (fun _ hk=>trivial),blA⟩
end Go.Proofs.YtnhiehpbkimaeaaGreat.PAll
