-- turned out of the kit's print
import Derived.Test.YtnhiehpbkimaeaaQx
import Derived.Test.YtnhiehpbkimaeaaQimplBall36
import Derived.Test.YtnhiehpbkimaeaaQimplsomeNeighbours
namespace Go.Proofs.Ytnhiehpbkimaeaa.PAll
open Go.RowKit Go.Proofs.YtnhiehpbkimaeaaW.PrintWords Go.Proofs.YtnhiehpbkimaeaaW.PrintLast Go.Proofs.YtnhiehpbkimaeaaW.PrintMore
attribute [local go_sem] Go.Proofs.Ytnhiehpbkimaeaa.Aux.setCell_drewN Go.Proofs.Ytnhiehpbkimaeaa.Aux.isSome_setCell max2_int min2_int max_two min_two max_three min_three max_four min_four
set_option linter.unusedVariables false
set_option linter.unusedSimpArgs false
open Go.Proofs.YtnhiehpbkimaeaaW.PrintWords.Kd in
/-- A row's element stored anew, the last step of a region that draws. -/
theorem H_store_step {α:Type} {P:Program} {ops:Array Oper} {o:Oper} {a:Act} {Q:Exit→Act→World→Prop} {Kc:Act→World→Prop} (d:Kd α) {w0 W:World} (base:Nat) (hw:Region.wanted o (yielded ops a.tmps)=true) (hN:o.dst=none) (t:TypeId) (p x:Operand) (ho:o.op=.store t p x) (e:TypeId) {g n cap:Nat} (i:Int) (xs:List α) (x':α) (u:Value) (seg c:List Value) (ok oki okp:Nat→Prop)
  (haddr:a.eval p=.pointer (some ⟨g,i.toNat*d.sz,none⟩)) (hx:a.eval x=u) (hu:u.cells.toList=seg) (ht:(P.info? t).map (·.size)=some seg.length) (hone:∀ q ∈ seg,q.oneCell'=true) (hsz:seg.length=d.sz)
  (HO:H d e W base ok (.slice (some ⟨g,0,none⟩) n cap) xs i oki c) (h0:0≤i) (hi:i<n)
  (hM:d.M W base okp x' seg) (hokp:∀ k,okp k→oki k) (HB:Below base w0 W)
  (h:∀ w1,S d e w1 base ok (.slice (some ⟨g,0,none⟩) n cap) (xs.set i.toNat x')→Below base w0 w1→W.grownBy w1 (some g)→Kc a w1):if Region.wanted o (yielded ops a.tmps)=true then Oper.wp P o a W Kc Q else Kc (a.put none undef) W:=by
 obtain ⟨rows,_,hraw,hcl,hco,hcc,hback⟩:=H_raw HO h0 hi
 have hgo:some g=(Value.slice (some ⟨g,0,none⟩) n cap).ownBlock:=by simp [Value.ownBlock]
 have hng:∀ k,oki k→k≠g:=by
  intro k hk he
  subst he
  obtain ⟨_,f,hR⟩:=HO
  exact (hR.1 k hgo.symm).2 hk
 have hsg:c.take 0 ++ seg ++ c.drop (0+seg.length)=seg:=by
  rw [List.take_zero,List.nil_append,List.drop_eq_nil_of_le (by omega),List.append_nil]
 obtain ⟨hrow,hg⟩:=R_seg (d:=raw d.sz) hraw i h0 hi hcl hcc (c:=c) (seg:=seg) (j:=0) (x':=seg) (okp:=fun _=>False) (by show 0+seg.length≤d.sz;omega)
  ⟨hsg,by rw [hsg];exact hsz,by rw [hsg];exact hone⟩ (fun _ hk=>hk.elim)
 have hbg:base≤g:=R_base hraw g (by simp [Value.ownBlock])
 have hnx:n=rows.length:=(R_reads' hraw).1
 obtain ⟨_,inner,hown,hr⟩:=hraw
 have hil:i.toNat<n:=by omega
 have hrun:(Instr.storeAt t (.pointer (some ⟨g,i.toNat*d.sz,none⟩)) u).run P W=.ok () (W.setCells g (i.toNat*d.sz) seg):=by
  rcases hown.2 with ⟨hv,_⟩|⟨g',cap',cur,hv,hb,hh,hnc,hcm,hcs,_⟩
  ·
   cases hv
  injection hv with ha _ hc
  injection ha with ha
  injection ha with hg'
  subst hg';subst hc
  refine run_store_run t u seg hh hu ht ?_ hone
  have h2:i.toNat*d.sz+d.sz≤n*d.sz:=by rw [← Nat.succ_mul];exact Nat.mul_le_mul_right _ hil
  have h3:n*d.sz≤cap*d.sz:=Nat.mul_le_mul_right _ (by omega)
  have hcs3:=hcs
  rw [show (raw d.sz).sz=d.sz from rfl] at hcs3
  omega
 rw [Nat.add_zero] at hrow hg
 have hB:Below base w0 (W.setCells g (i.toNat*d.sz) seg):=HB.trans ⟨hg.os,hg.tape,hg.output,hg.size,fun k hk=>by
  have hlt:k<W.heap.size∨W.heap.size≤k:=Nat.lt_or_ge _ _
  rcases hlt with hlt|hge
  ·
   exact hg.block k hlt (fun he=>by injection he with he;omega)
  ·
   exact setCells_far seg _ k (by omega)⟩
 have hS:=H_back (hback _ seg hg hrow) (M_step hM (fun k hk hlt=>hg.block k hlt (fun he=>hng k (hokp k hk) (by injection he)))) hokp
 rw [if_pos hw]
 unfold Oper.wp execOp
 simp only [ho,haddr,hx,Sem.run_bind,Sem.run_pure,Result.andThen_ok,hrun]
 show Kc (a.put o.dst undef) _
 rw [hN]
 exact h _ hS hB hg
mutual
def impl_classes.l0:Nat→Int→List (S42)→List (S53)→List Int→Int→Int→Option ((List (List Int)) × List Int)
 | 0,_,_,_,_,_,_=>none
 | k+1,x0,x1,x2,x8,x27,x28=>if x28<x27 then (if x8.length<17592186044416 then (impl_classes.l0 k x0 x1 x2 (x8 ++ [x28]) x27 (wrap64 (x28+1))) else (none)) else (impl_classes.l1 k x0 x1 x2 x8 x2 (x2.length:Int) 0)
def impl_classes.l1:Nat→Int→List (S42)→List (S53)→List Int→List (S53)→Int→Int→Option ((List (List Int)) × List Int)
 | 0,_,_,_,_,_,_,_=>none
 | k+1,x0,x1,x2,x8,x36,x37,x38=>if x38<x37 then (if 0≤x38 then (if x38<(x36.length:Int) then (impl_classes.l2 k x0 x1 x2 x8 x38 x36 x37 x38 x1 (x1.length:Int) 0 ((rd_T53 x36 x38).f0) ((rd_T53 x36 x38).f1) ((rd_T53 x36 x38).f2)) else (none)) else (none)) else (if 0≤(x2.length:Int) then (if ((x2.length:Int):Int).toNat≤35184372088832 then (impl_classes.l4 k (([]:List (List Int))) (List.replicate ((x2.length:Int):Int).toNat 0) x8 (x8.length:Int) 0) else (none)) else (none))
def impl_classes.l2:Nat→Int→List (S42)→List (S53)→List Int→Int→List (S53)→Int→Int→List (S42)→Int→Int→Int→Int→Int→Option ((List (List Int)) × List Int)
 | 0,_,_,_,_,_,_,_,_,_,_,_,_,_,_=>none
 | k+1,x0,x1,x2,x8,x10,x36,x37,x38,x43,x44,x45,x375000,x375001,x375002=>if x45<x44 then (if 0≤x45 then (if x45<(x43.length:Int) then ((impl_moveBall.f k x0 ((rd_T42 x43 x45).f0.f0) ((rd_T42 x43 x45).f0.f1) ((rd_T42 x43 x45).f1.f0) ((rd_T42 x43 x45).f1.f1) x375000 x375001 x375002).bind fun bt377=>((impl_Ball_36.f k x2 bt377.1 bt377.2.1 bt377.2.2.1).bind fun t382=>(if bt377.2.2.2=true then (impl_classes.j3 k x0 x1 x2 x8 x10 t382 x36 x37 x38 x43 x44 x45 (decide (t382<0)) x375000 x375001 x375002) else (impl_classes.j3 k x0 x1 x2 x8 x10 t382 x36 x37 x38 x43 x44 x45 true x375000 x375001 x375002)))) else (none)) else (none)) else (impl_classes.l1 k x0 x1 x2 x8 x36 x37 (wrap64 (x38+1)))
def impl_classes.j3:Nat→Int→List (S42)→List (S53)→List Int→Int→Int→List (S53)→Int→Int→List (S42)→Int→Int→Bool→Int→Int→Int→Option ((List (List Int)) × List Int)
 | 0,_,_,_,_,_,_,_,_,_,_,_,_,_,_,_,_=>none
 | k+1,x0,x1,x2,x8,x10,x16,x36,x37,x38,x43,x44,x45,x64,x375000,x375001,x375002=>if x64=true then (impl_classes.l2 k x0 x1 x2 x8 x10 x36 x37 x38 x43 x44 (wrap64 (x45+1)) x375000 x375001 x375002) else (if 0≤x10 then (if x10<(x8.length:Int) then (if 0≤x16 then (if x16<(x8.length:Int) then (impl_classes.l3 k x0 x1 x2 x8 x10 (mn (rd x8 x10) (rd x8 x16)) (mx (rd x8 x10) (rd x8 x16)) x36 x37 x38 x43 x44 x45 (x8.length:Int) 0 x375000 x375001 x375002) else (none)) else (none)) else (none)) else (none))
def impl_classes.l3:Nat→Int→List (S42)→List (S53)→List Int→Int→Int→Int→List (S53)→Int→Int→List (S42)→Int→Int→Int→Int→Int→Int→Int→Option ((List (List Int)) × List Int)
 | 0,_,_,_,_,_,_,_,_,_,_,_,_,_,_,_,_,_,_=>none
 | k+1,x0,x1,x2,x8,x10,x17,x18,x36,x37,x38,x43,x44,x45,x84,x85,x375000,x375001,x375002=>if x85<x84 then (if 0≤x85 then (if x85<(x8.length:Int) then (if (rd x8 x85)=x18 then (impl_classes.l3 k x0 x1 x2 (x8.set (x85:Int).toNat x17) x10 x17 x18 x36 x37 x38 x43 x44 x45 x84 (wrap64 (x85+1)) x375000 x375001 x375002) else (impl_classes.l3 k x0 x1 x2 x8 x10 x17 x18 x36 x37 x38 x43 x44 x45 x84 (wrap64 (x85+1)) x375000 x375001 x375002)) else (none)) else (none)) else (impl_classes.l2 k x0 x1 x2 x8 x10 x36 x37 x38 x43 x44 (wrap64 (x45+1)) x375000 x375001 x375002)
def impl_classes.l4:Nat→List (List Int)→List Int→List Int→Int→Int→Option ((List (List Int)) × List Int)
 | 0,_,_,_,_,_=>none
 | k+1,x21,x22,x104,x105,x106=>if x106<x105 then (if 0≤x106 then (if x106<(x104.length:Int) then (if (rd x104 x106)=x106 then (if x106<(x22.length:Int) then ((some (x22.set (x106:Int).toNat (x21.length:Int):List Int)).bind fun y396=>(if x21.length<5864062014805 then ((some (x21 ++ [[]]:List (List Int))).bind fun y397=>(if 0≤(rd x104 x106) then (if (rd x104 x106)<(x22.length:Int) then ((some (y396.set (x106:Int).toNat (rd y396 (rd x104 x106)):List Int)).bind fun y401=>(if 0≤(rd y401 x106) then (if (rd y401 x106)<(y397.length:Int) then (if (rd_L4 y397 (rd y401 x106)).length<17592186044416 then (impl_classes.l4 k (y397.set ((rd y401 x106):Int).toNat (rd_L4 y397 (rd y401 x106) ++ [x106])) y401 x104 x105 (wrap64 (x106+1))) else (none)) else (none)) else (none))) else (none)) else (none))) else (none))) else (none)) else (if 0≤(rd x104 x106) then (if (rd x104 x106)<(x22.length:Int) then (if x106<(x22.length:Int) then ((some (x22.set (x106:Int).toNat (rd x22 (rd x104 x106)):List Int)).bind fun y409=>(if 0≤(rd y409 x106) then (if (rd y409 x106)<(x21.length:Int) then (if (rd_L4 x21 (rd y409 x106)).length<17592186044416 then (impl_classes.l4 k (x21.set ((rd y409 x106):Int).toNat (rd_L4 x21 (rd y409 x106) ++ [x106])) y409 x104 x105 (wrap64 (x106+1))) else (none)) else (none)) else (none))) else (none)) else (none)) else (none))) else (none)) else (none)) else (some (x21,x22))
end
def impl_classes.f (k:Nat) (a0:Int) (l1:List (S42)) (l2:List (S53)):Option ((List (List Int)) × List Int):=impl_classes.l0 k a0 l1 l2 (([]:List Int)) (l2.length:Int) 0
theorem impl_classes.mono_l:∀ k,(∀ y0 y1 y2 y3 y4 y5,LeO (impl_classes.l0 k y0 y1 y2 y3 y4 y5) (impl_classes.l0 (k+1) y0 y1 y2 y3 y4 y5))∧(∀ y0 y1 y2 y3 y4 y5 y6,LeO (impl_classes.l1 k y0 y1 y2 y3 y4 y5 y6) (impl_classes.l1 (k+1) y0 y1 y2 y3 y4 y5 y6))∧(∀ y0 y1 y2 y3 y4 y5 y6 y7 y8 y9 y10 y11 y12 y13,LeO (impl_classes.l2 k y0 y1 y2 y3 y4 y5 y6 y7 y8 y9 y10 y11 y12 y13) (impl_classes.l2 (k+1) y0 y1 y2 y3 y4 y5 y6 y7 y8 y9 y10 y11 y12 y13))∧(∀ y0 y1 y2 y3 y4 y5 y6 y7 y8 y9 y10 y11 y12 y13 y14 y15,LeO (impl_classes.j3 k y0 y1 y2 y3 y4 y5 y6 y7 y8 y9 y10 y11 y12 y13 y14 y15) (impl_classes.j3 (k+1) y0 y1 y2 y3 y4 y5 y6 y7 y8 y9 y10 y11 y12 y13 y14 y15))∧(∀ y0 y1 y2 y3 y4 y5 y6 y7 y8 y9 y10 y11 y12 y13 y14 y15 y16 y17,LeO (impl_classes.l3 k y0 y1 y2 y3 y4 y5 y6 y7 y8 y9 y10 y11 y12 y13 y14 y15 y16 y17) (impl_classes.l3 (k+1) y0 y1 y2 y3 y4 y5 y6 y7 y8 y9 y10 y11 y12 y13 y14 y15 y16 y17))∧(∀ y0 y1 y2 y3 y4,LeO (impl_classes.l4 k y0 y1 y2 y3 y4) (impl_classes.l4 (k+1) y0 y1 y2 y3 y4))
 | 0=>by refine ⟨?_,?_,?_,?_,?_,?_⟩ <;> (intros;intro r h;simp [impl_classes.l0,impl_classes.l1,impl_classes.l2,impl_classes.j3,impl_classes.l3,impl_classes.l4] at h)
 | k+1=>by
  obtain ⟨ih0,ih1,ih2,ih3,ih4,ih5⟩:=impl_classes.mono_l k
  refine ⟨?_,?_,?_,?_,?_,?_⟩ <;> (intros;first|unfold impl_classes.l0|unfold impl_classes.l1|unfold impl_classes.l2|unfold impl_classes.j3|unfold impl_classes.l3|unfold impl_classes.l4)
  all_goals repeat' first
  | with_reducible first|exact ih0 ..|exact ih1 ..|exact ih2 ..|exact ih3 ..|exact ih4 ..|exact ih5 ..|exact impl_Ball_36.mono ..|exact impl_moveBall.mono ..|exact LeO.refl _|exact LeO.none _|refine LeO.ite ?_ ?_|refine LeO.bind ?_ fun _=>?_
theorem impl_classes.mono:∀ a0 a1 a2 k,LeO (impl_classes.f k a0 a1 a2) (impl_classes.f (k+1) a0 a1 a2):=by
 intro a0 a1 a2 k
 obtain ⟨ih0,ih1,ih2,ih3,ih4,ih5⟩:=impl_classes.mono_l k
 unfold impl_classes.f
 repeat' first
   | with_reducible first|exact ih0 ..|exact ih1 ..|exact ih2 ..|exact ih3 ..|exact ih4 ..|exact ih5 ..|exact impl_Ball_36.mono ..|exact impl_moveBall.mono ..|exact LeO.refl _|exact LeO.none _|refine LeO.ite ?_ ?_|refine LeO.bind ?_ fun _=>?_
def impl_classes.T16:Bool × List (List Nat × List Nat):=(true,[([],[]),([],[]),([0,1],[0,1]),([2],[2]),([],[]),([],[]),([4,5],[4,5]),([6],[6]),([3,7],[3,7]),([],[]),([],[]),([9,10],[9,10]),([11],[11]),([],[]),([],[]),([13,14],[13,14]),([15],[15]),([12,16],[12,16]),([8,0,1,2,3,4,5,6,7,8],[8]),([17,18,0,1,2,3,4,5,6,7,8,9,10,11,12,13,14,15,16,17,18],[17])])
def impl_classes.B16:List Nat:=[0,0,3,7,0,0,48,112,255,0,0,1536,3584,0,0,24576,57344,130560,511,524287]
theorem impl_classes.tab16:rtab .any (opsOf Try.f19 16)=impl_classes.T16:=by kernel_rfl
theorem impl_classes.bits16:waitsOk impl_classes.T16.2 impl_classes.B16=true:=by kernel_rfl
set_option maxHeartbeats 8000000 in
set_option maxRecDepth 100000 in
theorem impl_classes.calls (k:Nat) (a0:Int) (A1:Option Addr) (c1:Nat) (l1:List (S42)) (A2:Option Addr) (c2:Nat) (l2:List (S53)) (r1:List (List Int)) (r2:List Int) (w:World) (hr1:Kd.C k42 w A1 l1.length l1) (hc1:l1.length≤c1) (hr2:Kd.C k53 w A2 l2.length l2) (hc2:l2.length≤c2) (h:impl_classes.f k a0 l1 l2=some (r1,r2)) :
  Calls Try.prog 19 #[.int .i64 a0,.slice A1 l1.length c1,.slice A2 l2.length c2] w fun e w'=>∃ v0_ v1_:Value,e=.returned (.tuple #[v0_,v1_])∧Kd.S (Kd.slice 2 (Kd.int .i64)) 36 w' w.heap.size (fun k_=>some k_≠(v1_:Value).ownBlock) v0_ r1∧Kd.R (Kd.int .i64) 2 w' w.heap.size (fun _=>True) v1_ r2∧Below w.heap.size w w':=by
 have hu53:=Try.underlying53
 have hu42:=Try.underlying42
 have HR1:=Aside0.mk hr1
 have HC1:=Aside0.mk hc1
 clear hr1 hc1
 have HR2:=Aside0.mk hr2
 have HC2:=Aside0.mk hc2
 clear hr2 hc2
 have HB:=Aside0.mk (Below.refl w.heap.size w)
 have H:=h
 unfold impl_classes.f at H
 clear h
 obtain ⟨y367,hy367⟩:∃ y_:List Int,y_=(([]:List Int)):=⟨_,rfl⟩
 replace H:(impl_classes.l0 k a0 l1 l2 y367 (l2.length:Int) 0)=some (r1,r2):=rH hy367 H
 have Ny367:=Aside0.mk hy367
 clear hy367
 have H':=Aside0.mk H
 clear H
 go_enter Try.func19,Try.ntmps19
 go_wp2_with (first|((with_reducible refine gate_dst (N:=25) rfl ?_);refine Kd.R_lit (Kd.int .i64) _ 2 ?hg (N:=25) ?hd (xs:=([]:List Int)) (inner:=[]) (ok:=fun _=>True) (okp:=fun _=>True) ?hr ?hp (fun _ hk=>hk) trivial (Below.refl _ _) (Nat.le_refl _) (by simp) ?_;(case hd=>rfl);(case hg=>rfl);(case hr=>first|(go_simp;done)|(go_simp;rfl));(case hp=>exact (Reps.none _ _));intro v368 w4 ho5 hb hg_ hnew_;clear hg_ hnew_;(first|rw [← Ny367.out] at ho5|(simp only [Int.reduceToNat] at ho5;rw [← Ny367.out] at ho5));have n0_:=Aside0.mk (Kd.R_lower ho5 (below_size blA));have n1_:=lB hb;clear HB;have HO369:=n0_;have HB:=n1_;clear n0_ n1_;clear hb ho5))
 go_loopg [8,28] k (fun kq v8 v28 w'=>∃ (x8_1:List Int) (x28_1:Int),v28=.int .i64 x28_1∧Aside0 (impl_classes.l0 kq a0 l1 l2 x8_1 (l2.length:Int) x28_1=some (r1,r2))∧Aside0 (kq≤k)∧Aside0 (Kd.R (Kd.int .i64) 2 w' w.heap.size (fun _=>True) v8 x8_1)∧Aside0 (Below w.heap.size w w'))
 case atStart=>exact ⟨(y367),(0),hB,H',⟨Nat.le_refl _⟩,⟨rA HO369⟩,⟨blA⟩⟩
 case round=>
  clear H'
  try clear c1
  try clear c2
  obtain ⟨x8_1,x28_1,rfl,HA,HK1,HO_8,HB⟩:=hrel
  cases gk with
  | zero=>exact absurd HA.out (by simp [impl_classes.l0])
  | succ k1=>
   have H:=HA.out
   clear HA
   simp only [impl_classes.l0] at H
   by_cases c6:x28_1<(l2.length:Int)
   ·
    rw [if_pos c6] at H
    have c6b0:=decide_eq_true c6
    clear c6
    by_cases c7:x8_1.length<17592186044416
    rotate_left
    ·
     rw [if_neg c7] at H
     exact absurd H (by simp)
    rw [if_pos c7] at H
    have LMc7:=Aside0.mk c7
    clear c7
    obtain ⟨y370,hy370⟩:∃ y_:List Int,y_=(x8_1 ++ [x28_1]):=⟨_,rfl⟩
    replace H:(impl_classes.l0 k1 a0 l1 l2 y370 (l2.length:Int) (wrap64 (x28_1+1)))=some (r1,r2):=rH hy370 H
    have Ny370:=Aside0.mk hy370
    clear hy370
    have H':=Aside0.mk H
    clear H
    go_wp2_with (first|((with_reducible refine gate_builtin (b:=.append) (xs:=#[.tmp 31,.tmp 33]) rfl ?_);at_builtin;refine Kd.R_append (Kd.int .i64) (w0:=w) w.heap.size rfl (.tmp 31) (.tmp 33) 36 2 (.int .i64 0) 8 rfl Try.underlying36 info2 rfl (by decide) (by omega) u8 x8_1 x28_1 [.int .i64 x28_1] (fun _=>True) (fun _=>False) rfl rfl ?aP (fun _ hk=>hk.elim) ?aF ?aO ?aB ?aS ?aL ?_;(case aP=>exact rfl);(case aB=>exact blA);(case aF=>exact (fun _ _=>trivial));(case aO=>exact (rA HO_8));(case aS=>exact (below_size blA));(case aL=>have:=LMc7.out;omega);intro v371 w8 ho hb hg hat;rw [← Ny370.out] at ho;have n0_:=Aside0.mk hb;have n1_:=Aside0.mk ho;clear HB;clear HO_8;have HB:=n0_;have HO372:=n1_;clear n0_ n1_;clear ho hb hg hat))
    go_roundg k1
    case measure=>have:=HK1.out;omega
    case rel=>exact ⟨(y370),(wrap64 (x28_1+1)),hB,H',⟨by have:=HK1.out;omega⟩,⟨rA HO372⟩,⟨blA⟩⟩
   ·
    rw [if_neg c6] at H
    have c6b0:=decide_eq_false c6
    clear c6
    have H':=Aside0.mk H
    clear H
    go_wp2
    go_loopg [38] k1 (fun kq v38 w'=>∃ (x8_2:List Int) (x38_2:Int),v38=.int .i64 x38_2∧Aside0 (impl_classes.l1 kq a0 l1 l2 x8_2 l2 (l2.length:Int) x38_2=some (r1,r2))∧Aside0 (kq≤k1)∧Aside0 (Kd.R (Kd.int .i64) 2 w' w.heap.size (fun _=>True) u8 x8_2)∧Aside0 (Below w.heap.size w w'))
    case atStart=>exact ⟨(x8_1),(0),hB,H',⟨Nat.le_refl _⟩,⟨rA HO_8⟩,⟨blA⟩⟩
    case round=>
     clear H'
     try clear c1
     try clear c2
     try clear c6
     try clear c6b0
     try clear c7
     obtain ⟨x8_2,x38_2,rfl,HA,HK2,HO_8,HB⟩:=hrel
     cases gk with
     | zero=>exact absurd HA.out (by simp [impl_classes.l1])
     | succ k2=>
      have H:=HA.out
      clear HA
      simp only [impl_classes.l1] at H
      by_cases c9:x38_2<(l2.length:Int)
      ·
       rw [if_pos c9] at H
       have c9b0:=decide_eq_true c9
       clear c9
       by_cases c10:0≤x38_2
       rotate_left
       ·
        rw [if_neg c10] at H
        exact absurd H (by simp)
       rw [if_pos c10] at H
       have c10b0:=decide_eq_true c10
       clear c10
       by_cases c11:x38_2<(l2.length:Int)
       rotate_left
       ·
        rw [if_neg c11] at H
        exact absurd H (by simp)
       rw [if_pos c11] at H
       have c11b0:=decide_eq_true c11
       clear c11
       have H':=Aside0.mk H
       clear H
       have p373:0≤(x38_2:Int):=dA
       have q373:x38_2<(l2.length:Int):=dA
       obtain ⟨ad373,e373,hx373_0,hx373_1,hx373_2⟩:=at_T53 HR2.out x38_2 p373 q373
       cases e373
       replace hx373_0:=(HB.out.cell (World.block_lt_of_cell? w _ hx373_0)).trans hx373_0
       replace hx373_1:=(HB.out.cell (World.block_lt_of_cell? w _ hx373_1)).trans hx373_1
       replace hx373_2:=(HB.out.cell (World.block_lt_of_cell? w _ hx373_2)).trans hx373_2
       replace p373:=eq_true p373
       replace q373:=eq_true q373
       go_wp2_with (first|((with_reducible refine gate_dst (N:=11) rfl ?_);refine bxE (cs:=#[.int .i64 0,.int .i64 0,.int .i64 0]) (t:=53) ?_;intro gb374 hg w12 hbox hb;have n0_:=Aside0.mk (Kd.R_below (rA HO_8) hb);have n1_:=lB hb;have n2_:=Aside0.mk hbox;have n3_:=sA hg;have n4_:=sA hg;clear HO_8;clear HB;have HO_8:=n0_;have HB:=n1_;have BK374:=n2_;have GW374:=n3_;have GE374:=n4_;clear n0_ n1_ n2_ n3_ n4_;clear hb hbox hg;obtain ⟨hcz13_0,hcz13_1,hcz13_2,hfz13_0,hfz13_1,hfz13_2⟩:=cz3 BK374))
       go_loopg [45] k2 (fun kq v45 w'=>∃ (x8_3:List Int) (x45_3:Int),v45=.int .i64 x45_3∧Aside0 (impl_classes.l2 kq a0 l1 l2 x8_3 x38_2 l2 (l2.length:Int) x38_2 l1 (l1.length:Int) x45_3 ((rd_T53 l2 x38_2).f0) ((rd_T53 l2 x38_2).f1) ((rd_T53 l2 x38_2).f2)=some (r1,r2))∧Aside0 (kq≤k2)∧Aside0 (Kd.R (Kd.int .i64) 2 w' w.heap.size (fun _=>True) u8 x8_3)∧Aside0 (w'.heap[gb374]?=some (.cells #[.int .i64 ((rd_T53 l2 x38_2).f0),.int .i64 ((rd_T53 l2 x38_2).f1),.int .i64 ((rd_T53 l2 x38_2).f2)] 53 (0,0)))∧Aside0 (Below w.heap.size w w'))
       case atStart=>exact ⟨(x8_2),(0),hB,H',⟨Nat.le_refl _⟩,⟨by (with_reducible repeat (first|apply Kd.R_alloc|apply Kd.R_drewN|apply Kd.R_drew));exact Kd.R_mono (Kd.R_far (p:=⟨gb374,2,none⟩) (Kd.R_far (p:=⟨gb374,1,none⟩) (Kd.R_far (p:=⟨gb374,0,none⟩) (Kd.R_types HO_8.out BK374.out (by decide)) (fun _ hk=>hk.2) (.int .i64 ((rd_T53 l2 x38_2).f0))) (fun _ hk=>hk.2) (.int .i64 ((rd_T53 l2 x38_2).f1))) (fun _ hk=>hk.2) (.int .i64 ((rd_T53 l2 x38_2).f2))) (fun _ hk=>trivial)⟩,⟨bpA BK374⟩,⟨blA⟩⟩
       case round=>
        clear H'
        try clear c1
        try clear c2
        try clear c6
        try clear c6b0
        try clear c7
        try clear c9
        try clear c9b0
        try clear c10
        try clear c10b0
        try clear c11
        try clear c11b0
        try clear hcz13_0
        try clear hcz13_1
        try clear hcz13_2
        try clear hfz13_0
        try clear hfz13_1
        try clear hfz13_2
        try clear hx373_0
        try clear hx373_1
        try clear hx373_2
        try clear p373
        try clear q373
        obtain ⟨x8_3,x45_3,rfl,HA,HK3,HO_8,BK374,HB⟩:=hrel
        cases gk with
        | zero=>exact absurd HA.out (by simp [impl_classes.l2])
        | succ k3=>
         have H:=HA.out
         clear HA
         simp only [impl_classes.l2] at H
         by_cases c14:x45_3<(l1.length:Int)
         ·
          rw [if_pos c14] at H
          have c14b0:=decide_eq_true c14
          clear c14
          by_cases c15:0≤x45_3
          rotate_left
          ·
           rw [if_neg c15] at H
           exact absurd H (by simp)
          rw [if_pos c15] at H
          have c15b0:=decide_eq_true c15
          clear c15
          by_cases c16:x45_3<(l1.length:Int)
          rotate_left
          ·
           rw [if_neg c16] at H
           exact absurd H (by simp)
          rw [if_pos c16] at H
          have c16b0:=decide_eq_true c16
          clear c16
          replace H:=bS H
          obtain ⟨⟨t377,t378,t379,t380⟩,A17,H⟩:=H
          try dsimp only at H
          replace H:=bS H
          obtain ⟨t382,A18,H⟩:=H
          try dsimp only at H
          have HC19:=Aside0.mk H
          clear H
          have p375:0≤(x45_3:Int):=dA
          have q375:x45_3<(l1.length:Int):=dA
          obtain ⟨ad375,e375,hx375_0,hx375_1,hx375_2,hx375_3⟩:=at_T42 HR1.out x45_3 p375 q375
          cases e375
          replace hx375_0:=(HB.out.cell (World.block_lt_of_cell? w _ hx375_0)).trans hx375_0
          replace hx375_1:=(HB.out.cell (World.block_lt_of_cell? w _ hx375_1)).trans hx375_1
          replace hx375_2:=(HB.out.cell (World.block_lt_of_cell? w _ hx375_2)).trans hx375_2
          replace hx375_3:=(HB.out.cell (World.block_lt_of_cell? w _ hx375_3)).trans hx375_3
          replace p375:=eq_true p375
          replace q375:=eq_true q375
          go_upto_region 15 with (first|((with_reducible refine gate_dst (N:=13) rfl ?_);refine bxE (cs:=#[.int .i64 0,.int .i64 0,.int .i64 0,.int .i64 0]) (t:=42) ?_;intro gb376 hg w20 hbox hb;have n0_:=Aside0.mk (Kd.R_below (rA HO_8) hb);have n1_:=kB BK374 hb;have n2_:=lB hb;have n3_:=Aside0.mk hbox;have n4_:=sA hg;have n5_:=sA hg;have n6_:=nA hg BK374;have n7_:=nB hg BK374;clear HO_8;clear BK374;clear HB;have HO_8:=n0_;have BK374:=n1_;have HB:=n2_;have BK376:=n3_;have GW376:=n4_;have GE376:=n5_;have NB374_376:=n6_;have NB376_374:=n7_;clear n0_ n1_ n2_ n3_ n4_ n5_ n6_ n7_;clear hb hbox hg;have hnb21:=NB376_374.out;have hnc21:=NB374_376.out;obtain ⟨hcz22_0,hcz22_1,hcz22_2,hcz22_3,hfz22_0,hfz22_1,hfz22_2,hfz22_3⟩:=cz4 BK376;obtain ⟨hcz23_0,hcz23_1,hcz23_2,hfz23_0,hfz23_1,hfz23_2⟩:=cz3 BK374)|((with_reducible refine gd 53 rfl ?_);refine gC (some 53) rfl Try.func35 (impl_moveBall.calls (w:=_) (h:=A17.out)) ?_;intro w24 hb;have n0_:=Aside0.mk (Kd.R_below (by (with_reducible repeat (first|apply Kd.R_alloc|apply Kd.R_drewN|apply Kd.R_drew));exact (Kd.R_mono (Kd.R_far (p:=⟨gb376,3,none⟩) (Kd.R_far (p:=⟨gb376,2,none⟩) (Kd.R_far (p:=⟨gb376,1,none⟩) (Kd.R_far (p:=⟨gb376,0,none⟩) (Kd.R_types HO_8.out BK376.out (by decide)) (fun _ hk=>hk.2) (.int .i64 ((rd_T42 l1 x45_3).f0.f0))) (fun _ hk=>hk.2) (.int .i64 ((rd_T42 l1 x45_3).f0.f1))) (fun _ hk=>hk.2) (.int .i64 ((rd_T42 l1 x45_3).f1.f0))) (fun _ hk=>hk.2) (.int .i64 ((rd_T42 l1 x45_3).f1.f1))) (fun _ h_=>h_.1))) hb);have n1_:=Aside0.mk (blk_below (g:=gb374) (o:=.cells #[.int .i64 ((rd_T53 l2 x38_2).f0),.int .i64 ((rd_T53 l2 x38_2).f1),.int .i64 ((rd_T53 l2 x38_2).f2)] 53 (0,0)) (bkF BK374) hb);have n2_:=Aside0.mk (blk_below (g:=gb376) (o:=.cells #[.int .i64 ((rd_T42 l1 x45_3).f0.f0),.int .i64 ((rd_T42 l1 x45_3).f0.f1),.int .i64 ((rd_T42 l1 x45_3).f1.f0),.int .i64 ((rd_T42 l1 x45_3).f1.f1)] 42 (0,0)) (bpA BK376) hb);have n3_:=lB hb;clear HO_8;clear BK374;clear BK376;clear HB;have HO_8:=n0_;have BK374:=n1_;have BK376:=n2_;have HB:=n3_;clear n0_ n1_ n2_ n3_;clear hb)|((with_reducible refine gate_dst (N:=14) rfl ?_);refine bxE (cs:=#[.int .i64 0,.int .i64 0,.int .i64 0]) (t:=53) ?_;intro gb381 hg w25 hbox hb;have n0_:=Aside0.mk (Kd.R_below (rA HO_8) hb);have n1_:=kB BK374 hb;have n2_:=kB BK376 hb;have n3_:=lB hb;have n4_:=Aside0.mk hbox;have n5_:=sA hg;have n6_:=sA hg;have n7_:=nA hg BK374;have n8_:=nB hg BK374;have n9_:=nA hg BK376;have n10_:=nB hg BK376;clear HO_8;clear BK374;clear BK376;clear HB;have HO_8:=n0_;have BK374:=n1_;have BK376:=n2_;have HB:=n3_;have BK381:=n4_;have GW381:=n5_;have GE381:=n6_;have NB374_381:=n7_;have NB381_374:=n8_;have NB376_381:=n9_;have NB381_376:=n10_;clear n0_ n1_ n2_ n3_ n4_ n5_ n6_ n7_ n8_ n9_ n10_;clear hb hbox hg;have hnb26:=NB381_374.out;have hnc26:=NB374_381.out;have hnb27:=NB381_376.out;have hnc27:=NB376_381.out;obtain ⟨hcz28_0,hcz28_1,hcz28_2,hfz28_0,hfz28_1,hfz28_2⟩:=cz3 BK381)|((with_reducible refine gd 58 rfl ?_);refine gC (some 58) rfl Try.func36 (impl_Ball_36.calls (w:=_) (hr0:=Kd.C_below HR2.out blA) (hc0:=HC2.out) (h:=A18.out)) ?_;intro w29 hb;have n0_:=Aside0.mk (Kd.R_below (by (with_reducible repeat (first|apply Kd.R_alloc|apply Kd.R_drewN|apply Kd.R_drew));exact (Kd.R_mono (Kd.R_far (p:=⟨gb381,2,none⟩) (Kd.R_far (p:=⟨gb381,1,none⟩) (Kd.R_far (p:=⟨gb381,0,none⟩) (Kd.R_types HO_8.out BK381.out (by decide)) (fun _ hk=>hk.2) (.int .i64 t377)) (fun _ hk=>hk.2) (.int .i64 t378)) (fun _ hk=>hk.2) (.int .i64 t379)) (fun _ h_=>h_.1))) hb);have n1_:=Aside0.mk (blk_below (g:=gb374) (o:=.cells #[.int .i64 ((rd_T53 l2 x38_2).f0),.int .i64 ((rd_T53 l2 x38_2).f1),.int .i64 ((rd_T53 l2 x38_2).f2)] 53 (0,0)) (bkF BK374) hb);have n2_:=Aside0.mk (blk_below (g:=gb376) (o:=.cells #[.int .i64 ((rd_T42 l1 x45_3).f0.f0),.int .i64 ((rd_T42 l1 x45_3).f0.f1),.int .i64 ((rd_T42 l1 x45_3).f1.f0),.int .i64 ((rd_T42 l1 x45_3).f1.f1)] 42 (0,0)) (bkF BK376) hb);have n3_:=Aside0.mk (blk_below (g:=gb381) (o:=.cells #[.int .i64 t377,.int .i64 t378,.int .i64 t379] 53 (0,0)) (bpA BK381) hb);have n4_:=lB hb;clear HO_8;clear BK374;clear BK376;clear BK381;clear HB;have HO_8:=n0_;have BK374:=n1_;have BK376:=n2_;have BK381:=n3_;have HB:=n4_;clear n0_ n1_ n2_ n3_ n4_;clear hb))
          (try simp only [Act.put,List.setIfInBounds_toArray,List.set_cons_zero,List.set_cons_succ])
          go_cut [64] (fun v64 wc=>∃ (kq:Nat) (x64_18:Bool),v64=.bool x64_18∧Aside0 (impl_classes.j3 kq a0 l1 l2 x8_3 x38_2 t382 l2 (l2.length:Int) x38_2 l1 (l1.length:Int) x45_3 x64_18 ((rd_T53 l2 x38_2).f0) ((rd_T53 l2 x38_2).f1) ((rd_T53 l2 x38_2).f2)=some (r1,r2))∧Aside0 (kq≤k3)∧Aside0 (Kd.R (Kd.int .i64) 2 wc w.heap.size (fun _=>True) u8 x8_3)∧Aside0 (wc.heap[gb374]?=some (.cells #[.int .i64 ((rd_T53 l2 x38_2).f0),.int .i64 ((rd_T53 l2 x38_2).f1),.int .i64 ((rd_T53 l2 x38_2).f2)] 53 (0,0)))∧Aside0 (wc.heap[gb376]?=some (.cells #[.int .i64 ((rd_T42 l1 x45_3).f0.f0),.int .i64 ((rd_T42 l1 x45_3).f0.f1),.int .i64 ((rd_T42 l1 x45_3).f1.f0),.int .i64 ((rd_T42 l1 x45_3).f1.f1)] 42 (0,0)))∧Aside0 (wc.heap[gb381]?=some (.cells #[.int .i64 t377,.int .i64 t378,.int .i64 t379] 53 (0,0)))∧Aside0 (Below w.heap.size w wc))
          case first=>
           have H:=HC19.out
           clear HC19
           by_cases c30:t380=true
           ·
            subst c30
            rw [if_pos rfl] at H
            try dsimp only at H
            have H':=Aside0.mk H
            clear H
            go_wp2
            go_meet
            case rel=>exact ⟨_,(decide (t382<0)),hB,H',⟨by have:=HK1.out;have:=HK2.out;have:=HK3.out;first|omega|exact Nat.le_refl _⟩,⟨rA HO_8⟩,⟨bkA BK374⟩,⟨bkA BK376⟩,⟨bkA BK381⟩,⟨blA⟩⟩
           ·
            replace c30:=Bool.eq_false_iff.mpr c30
            subst c30
            rw [if_neg (show ¬ (false=true) by decide)] at H
            try dsimp only at H
            have H':=Aside0.mk H
            clear H
            go_wp2
            go_meet
            case rel=>exact ⟨_,(true),hB,H',⟨by have:=HK1.out;have:=HK2.out;have:=HK3.out;first|omega|exact Nat.le_refl _⟩,⟨rA HO_8⟩,⟨bkA BK374⟩,⟨bkA BK376⟩,⟨bkA BK381⟩,⟨blA⟩⟩
          case rest=>
           clear HC19
           try clear c1
           try clear c2
           try clear c6
           try clear c6b0
           try clear c7
           try clear c9
           try clear c9b0
           try clear c10
           try clear c10b0
           try clear c11
           try clear c11b0
           try clear c14
           try clear c14b0
           try clear c15
           try clear c15b0
           try clear c16
           try clear c16b0
           try clear c30
           try clear hcz13_0
           try clear hcz13_1
           try clear hcz13_2
           try clear hcz22_0
           try clear hcz22_1
           try clear hcz22_2
           try clear hcz22_3
           try clear hcz23_0
           try clear hcz23_1
           try clear hcz23_2
           try clear hcz28_0
           try clear hcz28_1
           try clear hcz28_2
           try clear hfz13_0
           try clear hfz13_1
           try clear hfz13_2
           try clear hfz22_0
           try clear hfz22_1
           try clear hfz22_2
           try clear hfz22_3
           try clear hfz23_0
           try clear hfz23_1
           try clear hfz23_2
           try clear hfz28_0
           try clear hfz28_1
           try clear hfz28_2
           try clear hx373_0
           try clear hx373_1
           try clear hx373_2
           try clear hx375_0
           try clear hx375_1
           try clear hx375_2
           try clear hx375_3
           try clear p373
           try clear p375
           try clear q373
           try clear q375
           obtain ⟨kq,x64_18,rfl,HA,HJ18,HO_8,BK374,BK376,BK381,HB⟩:=hcut
           cases kq with
           | zero=>exact absurd HA.out (by simp [impl_classes.j3])
           | succ kj18=>
            have H:=HA.out
            clear HA
            simp only [impl_classes.j3] at H
            by_cases c31:x64_18=true
            ·
             subst c31
             rw [if_pos rfl] at H
             try dsimp only at H
             have H':=Aside0.mk H
             clear H
             go_wp2
             go_roundg kj18
             case measure=>have:=HK1.out;have:=HK2.out;have:=HK3.out;have:=HJ18.out;omega
             case rel=>exact ⟨(x8_3),(wrap64 (x45_3+1)),hB,H',⟨by have:=HK1.out;have:=HK2.out;have:=HK3.out;have:=HJ18.out;omega⟩,⟨rA HO_8⟩,⟨bkA BK374⟩,⟨blA⟩⟩
            ·
             replace c31:=Bool.eq_false_iff.mpr c31
             subst c31
             rw [if_neg (show ¬ (false=true) by decide)] at H
             try dsimp only at H
             by_cases c32:0≤x38_2
             rotate_left
             ·
              rw [if_neg c32] at H
              exact absurd H (by simp)
             rw [if_pos c32] at H
             have c32b0:=decide_eq_true c32
             clear c32
             by_cases c33:x38_2<(x8_3.length:Int)
             rotate_left
             ·
              rw [if_neg c33] at H
              exact absurd H (by simp)
             rw [if_pos c33] at H
             have c33b0:=decide_eq_true c33
             clear c33
             by_cases c34:0≤t382
             rotate_left
             ·
              rw [if_neg c34] at H
              exact absurd H (by simp)
             rw [if_pos c34] at H
             have c34b0:=decide_eq_true c34
             clear c34
             by_cases c35:t382<(x8_3.length:Int)
             rotate_left
             ·
              rw [if_neg c35] at H
              exact absurd H (by simp)
             rw [if_pos c35] at H
             have c35b0:=decide_eq_true c35
             clear c35
             obtain ⟨ji36,hji36⟩:∃ j_:Int,(mn (rd x8_3 x38_2) (rd x8_3 t382))=j_:=⟨_,rfl⟩
             replace H:(impl_classes.l3 kj18 a0 l1 l2 x8_3 x38_2 ji36 (mx (rd x8_3 x38_2) (rd x8_3 t382)) l2 (l2.length:Int) x38_2 l1 (l1.length:Int) x45_3 (x8_3.length:Int) 0 ((rd_T53 l2 x38_2).f0) ((rd_T53 l2 x38_2).f1) ((rd_T53 l2 x38_2).f2))=some (r1,r2):=by first|(rw [hji36] at H;exact H)|(simp only [hji36] at H ⊢;exact H)
             have hji36_:(if (rd x8_3 t382)<(rd x8_3 x38_2) then (rd x8_3 t382) else (rd x8_3 x38_2))=ji36:=hji36
             obtain ⟨ji37,hji37⟩:∃ j_:Int,(mx (rd x8_3 x38_2) (rd x8_3 t382))=j_:=⟨_,rfl⟩
             replace H:(impl_classes.l3 kj18 a0 l1 l2 x8_3 x38_2 ji36 ji37 l2 (l2.length:Int) x38_2 l1 (l1.length:Int) x45_3 (x8_3.length:Int) 0 ((rd_T53 l2 x38_2).f0) ((rd_T53 l2 x38_2).f1) ((rd_T53 l2 x38_2).f2))=some (r1,r2):=by first|(rw [hji37] at H;exact H)|(simp only [hji37] at H ⊢;exact H)
             have hji37_:(if (rd x8_3 x38_2)<(rd x8_3 t382) then (rd x8_3 t382) else (rd x8_3 x38_2))=ji37:=hji37
             have H':=Aside0.mk H
             clear H
             try go_wp2
             have n0_:=Aside0.mk (Kd.R_drew HO_8.out)
             have n1_:=Aside0.mk (blk_drew BK374.out)
             have n2_:=Aside0.mk (blk_drew BK376.out)
             have n3_:=Aside0.mk (blk_drew BK381.out)
             have n4_:=Aside0.mk (below_drew1 HB.out)
             clear HO_8
             clear BK374
             clear BK376
             clear BK381
             clear HB
             have HO_8:=n0_
             have BK374:=n1_
             have BK376:=n2_
             have BK381:=n3_
             have HB:=n4_
             clear n0_ n1_ n2_ n3_ n4_
             obtain ⟨Ao39,co39,eo39⟩:=Kd.R_slice HO_8.out
             (first|subst eo39|(injection eo39 with f1_ f2_ f3_;have f4_:=f1_.symm;have f5_:=f3_.symm;clear f1_ f2_ f3_;subst f4_;subst f5_))
             have p383:0≤(x38_2:Int):=dA
             have q383:x38_2<(x8_3.length:Int):=dA
             obtain ⟨ad383,e383,hx383_0⟩:=Kd.at_int (Kd.R_reads' HO_8.out).2.2 x38_2 p383 q383
             cases e383
             obtain ⟨gq8,cq8,eq8_,_,_,_⟩:=Kd.R_form HO_8.out (by omega)
             obtain rfl:ad383=⟨gq8,0,none⟩:=(by injection eq8_ with ea_ _ _;injection ea_)
             clear eq8_
             (first|simp only [add_plain] at hx383_0|skip)
             replace p383:=eq_true p383
             replace q383:=eq_true q383
             have p384:0≤(t382:Int):=dA
             have q384:t382<(x8_3.length:Int):=dA
             obtain ⟨ad384,e384,hx384_0⟩:=Kd.at_int (Kd.R_reads' HO_8.out).2.2 t382 p384 q384
             obtain rfl:(⟨gq8,0,none⟩:Addr)=ad384:=(by injection e384)
             (first|simp only [add_plain] at hx384_0|skip)
             replace p384:=eq_true p384
             replace q384:=eq_true q384
             have p385:0≤(x38_2:Int):=dA
             have q385:x38_2<(x8_3.length:Int):=dA
             obtain ⟨ad385,e385,hx385_0⟩:=Kd.at_int (Kd.R_reads' HO_8.out).2.2 x38_2 p385 q385
             obtain rfl:(⟨gq8,0,none⟩:Addr)=ad385:=(by injection e385)
             (first|simp only [add_plain] at hx385_0|skip)
             replace p385:=eq_true p385
             replace q385:=eq_true q385
             have p386:0≤(t382:Int):=dA
             have q386:t382<(x8_3.length:Int):=dA
             obtain ⟨ad386,e386,hx386_0⟩:=Kd.at_int (Kd.R_reads' HO_8.out).2.2 t382 p386 q386
             obtain rfl:(⟨gq8,0,none⟩:Addr)=ad386:=(by injection e386)
             (first|simp only [add_plain] at hx386_0|skip)
             replace p386:=eq_true p386
             replace q386:=eq_true q386
             refine start_ (n:=20) (S:=fun w'=>w'.cell? ⟨gq8,(x38_2:Int).toNat,none⟩=some (.int .i64 (rd x8_3 x38_2))∧w'.cell? ⟨gq8,(t382:Int).toNat,none⟩=some (.int .i64 (rd x8_3 t382))∧w'.cell? ⟨gq8,(x38_2:Int).toNat,none⟩=some (.int .i64 (rd x8_3 x38_2))∧w'.cell? ⟨gq8,(t382:Int).toNat,none⟩=some (.int .i64 (rd x8_3 t382))) (ds:=[]) #[Z,Z,Z,Z,Z,Z,Z,Z,Z,Z,Z,Z,Z,Z,Z,Z,Z,Z,Z,Z] (by kernel_rfl) rfl rfl ⟨hx383_0,hx384_0,hx385_0,hx386_0⟩ (fun hHeld=>?_);refine with_tabW impl_classes.tab16 impl_classes.bits16 (fun HT_ HW_=>?_)
             generalize wc.drew=w38 at HO_8 BK374 BK376 BK381 HB hx383_0 hx384_0 hx385_0 hx386_0 hHeld ⊢
             refine puA (i:=0) (N:=some 65) #[Y,Z,Z,Z,Z,Z,Z,Z,Z,Z,Z,Z,Z,Z,Z,Z,Z,Z,Z,Z] rfl rfl HT_ ?_
             refine puA (i:=1) (N:=some 66) #[Y,Y,Z,Z,Z,Z,Z,Z,Z,Z,Z,Z,Z,Z,Z,Z,Z,Z,Z,Z] rfl rfl HT_ ?_
             refine puA (i:=2) (N:=some 67) #[Y,Y,Y,Z,Z,Z,Z,Z,Z,Z,Z,Z,Z,Z,Z,Z,Z,Z,Z,Z] rfl rfl HT_ ?_
             refine puA (i:=4) (N:=some 69) #[Y,Y,Y,Z,Y,Z,Z,Z,Z,Z,Z,Z,Z,Z,Z,Z,Z,Z,Z,Z] rfl rfl HT_ ?_
             refine puA (i:=5) (N:=some 70) #[Y,Y,Y,Z,Y,Y,Z,Z,Z,Z,Z,Z,Z,Z,Z,Z,Z,Z,Z,Z] rfl rfl HT_ ?_
             refine puA (i:=6) (N:=some 71) #[Y,Y,Y,Z,Y,Y,Y,Z,Z,Z,Z,Z,Z,Z,Z,Z,Z,Z,Z,Z] rfl rfl HT_ ?_
             refine puA (i:=9) (N:=some 74) #[Y,Y,Y,Z,Y,Y,Y,Z,Z,Y,Z,Z,Z,Z,Z,Z,Z,Z,Z,Z] rfl rfl HT_ ?_
             refine puA (i:=10) (N:=some 75) #[Y,Y,Y,Z,Y,Y,Y,Z,Z,Y,Y,Z,Z,Z,Z,Z,Z,Z,Z,Z] rfl rfl HT_ ?_
             refine puA (i:=11) (N:=some 76) #[Y,Y,Y,Z,Y,Y,Y,Z,Z,Y,Y,Y,Z,Z,Z,Z,Z,Z,Z,Z] rfl rfl HT_ ?_
             refine puA (i:=13) (N:=some 78) #[Y,Y,Y,Z,Y,Y,Y,Z,Z,Y,Y,Y,Z,Y,Z,Z,Z,Z,Z,Z] rfl rfl HT_ ?_
             refine puA (i:=14) (N:=some 79) #[Y,Y,Y,Z,Y,Y,Y,Z,Z,Y,Y,Y,Z,Y,Y,Z,Z,Z,Z,Z] rfl rfl HT_ ?_
             refine puA (i:=15) (N:=some 80) #[Y,Y,Y,Z,Y,Y,Y,Z,Z,Y,Y,Y,Z,Y,Y,Y,Z,Z,Z,Z] rfl rfl HT_ ?_
             refine taA (i:=3) (N:=some 68) #[Y,Y,Y,Y,Y,Y,Y,Z,Z,Y,Y,Y,Z,Y,Y,Y,Z,Z,Z,Z] rfl rfl HT_ HW_ hHeld ?_
             refine taA (i:=7) (N:=some 72) #[Y,Y,Y,Y,Y,Y,Y,Y,Z,Y,Y,Y,Z,Y,Y,Y,Z,Z,Z,Z] rfl rfl HT_ HW_ hHeld ?_
             refine puA (i:=8) (N:=some 73) #[Y,Y,Y,Y,Y,Y,Y,Y,Y,Y,Y,Y,Z,Y,Y,Y,Z,Z,Z,Z] rfl rfl HT_ ?_
             refine puA (i:=18) (N:=some 17) #[Y,Y,Y,Y,Y,Y,Y,Y,Y,Y,Y,Y,Z,Y,Y,Y,Z,Z,Y,Z] rfl rfl HT_ ?_
             refine taA (i:=12) (N:=some 77) #[Y,Y,Y,Y,Y,Y,Y,Y,Y,Y,Y,Y,Y,Y,Y,Y,Z,Z,Y,Z] rfl rfl HT_ HW_ hHeld ?_
             refine taA (i:=16) (N:=some 81) #[Y,Y,Y,Y,Y,Y,Y,Y,Y,Y,Y,Y,Y,Y,Y,Y,Y,Z,Y,Z] rfl rfl HT_ HW_ hHeld ?_
             refine puA (i:=17) (N:=some 82) #[Y,Y,Y,Y,Y,Y,Y,Y,Y,Y,Y,Y,Y,Y,Y,Y,Y,Y,Y,Z] rfl rfl HT_ ?_
             refine puA (i:=19) (N:=some 18) #[Y,Y,Y,Y,Y,Y,Y,Y,Y,Y,Y,Y,Y,Y,Y,Y,Y,Y,Y,Y] rfl rfl HT_ ?_
             refine done_ (done_of HT_.out (by kernel_rfl)) ?_
             try go_wp2
             go_loopg [85] kj18 (fun kq v85 w'=>∃ (x8_5:List Int) (x85_5:Int),v85=.int .i64 x85_5∧Aside0 (impl_classes.l3 kq a0 l1 l2 x8_5 x38_2 ji36 ji37 l2 (l2.length:Int) x38_2 l1 (l1.length:Int) x45_3 (x8_3.length:Int) x85_5 ((rd_T53 l2 x38_2).f0) ((rd_T53 l2 x38_2).f1) ((rd_T53 l2 x38_2).f2)=some (r1,r2))∧Aside0 (kq≤kj18)∧Aside0 (Kd.R (Kd.int .i64) 2 w' w.heap.size (fun _=>True) (.slice (some (⟨gq8,0,none⟩:Addr)) x8_3.length co39) x8_5)∧Aside0 (w'.heap[gb374]?=some (.cells #[.int .i64 ((rd_T53 l2 x38_2).f0),.int .i64 ((rd_T53 l2 x38_2).f1),.int .i64 ((rd_T53 l2 x38_2).f2)] 53 (0,0)))∧Aside0 (w'.heap[gb376]?=some (.cells #[.int .i64 ((rd_T42 l1 x45_3).f0.f0),.int .i64 ((rd_T42 l1 x45_3).f0.f1),.int .i64 ((rd_T42 l1 x45_3).f1.f0),.int .i64 ((rd_T42 l1 x45_3).f1.f1)] 42 (0,0)))∧Aside0 (w'.heap[gb381]?=some (.cells #[.int .i64 t377,.int .i64 t378,.int .i64 t379] 53 (0,0)))∧Aside0 (Below w.heap.size w w'))
             case atStart=>exact ⟨(x8_3),(0),hB,H',⟨Nat.le_refl _⟩,⟨rA HO_8⟩,⟨bkA BK374⟩,⟨bkA BK376⟩,⟨bkA BK381⟩,⟨blA⟩⟩
             case round=>
              clear H'
              try clear c1
              try clear c2
              try clear c6
              try clear c6b0
              try clear c7
              try clear c9
              try clear c9b0
              try clear c10
              try clear c10b0
              try clear c11
              try clear c11b0
              try clear c14
              try clear c14b0
              try clear c15
              try clear c15b0
              try clear c16
              try clear c16b0
              try clear c30
              try clear c31
              try clear c32
              try clear c32b0
              try clear c33
              try clear c33b0
              try clear c34
              try clear c34b0
              try clear c35
              try clear c35b0
              try clear hcz13_0
              try clear hcz13_1
              try clear hcz13_2
              try clear hcz22_0
              try clear hcz22_1
              try clear hcz22_2
              try clear hcz22_3
              try clear hcz23_0
              try clear hcz23_1
              try clear hcz23_2
              try clear hcz28_0
              try clear hcz28_1
              try clear hcz28_2
              try clear hfz13_0
              try clear hfz13_1
              try clear hfz13_2
              try clear hfz22_0
              try clear hfz22_1
              try clear hfz22_2
              try clear hfz22_3
              try clear hfz23_0
              try clear hfz23_1
              try clear hfz23_2
              try clear hfz28_0
              try clear hfz28_1
              try clear hfz28_2
              try clear hx373_0
              try clear hx373_1
              try clear hx373_2
              try clear hx375_0
              try clear hx375_1
              try clear hx375_2
              try clear hx375_3
              try clear hx383_0
              try clear hx384_0
              try clear hx385_0
              try clear hx386_0
              try clear p373
              try clear p375
              try clear p383
              try clear p384
              try clear p385
              try clear p386
              try clear q373
              try clear q375
              try clear q383
              try clear q384
              try clear q385
              try clear q386
              obtain ⟨x8_5,x85_5,rfl,HA,HK5,HO_8,BK374,BK376,BK381,HB⟩:=hrel
              have hl8_5:=(Kd.R_reads' HO_8.out).1
              rw [hl8_5] at HO_8
              (try simp only [hl8_5])
              (try simp only [hl8_5] at BK374)
              (try simp only [hl8_5] at BK376)
              (try simp only [hl8_5] at BK381)
              cases gk with
              | zero=>exact absurd HA.out (by simp [impl_classes.l3])
              | succ k5=>
               have H:=HA.out
               clear HA
               simp only [impl_classes.l3] at H
               by_cases c40:x85_5<(x8_3.length:Int)
               ·
                rw [if_pos c40] at H
                have c40b0:=decide_eq_true c40
                clear c40
                by_cases c41:0≤x85_5
                rotate_left
                ·
                 rw [if_neg c41] at H
                 exact absurd H (by simp)
                rw [if_pos c41] at H
                have c41b0:=decide_eq_true c41
                clear c41
                by_cases c42:x85_5<(x8_5.length:Int)
                rotate_left
                ·
                 rw [if_neg c42] at H
                 exact absurd H (by simp)
                rw [if_pos c42] at H
                have c42b0:=decide_eq_true c42
                clear c42
                by_cases c43:(rd x8_5 x85_5)=ji37
                ·
                 rw [if_pos c43] at H
                 have c43b0:((rd x8_5 x85_5) == ji37)=true:=beq_iff_eq.mpr c43
                 have c43b1:((rd x8_5 x85_5) != ji37)=false:=bne_eq_false_iff_eq.mpr c43
                 clear c43
                 obtain ⟨y388,hy388⟩:∃ y_:List Int,y_=(x8_5.set (x85_5:Int).toNat ji36):=⟨_,rfl⟩
                 replace H:(impl_classes.l3 k5 a0 l1 l2 y388 x38_2 ji36 ji37 l2 (l2.length:Int) x38_2 l1 (l1.length:Int) x45_3 (x8_3.length:Int) (wrap64 (x85_5+1)) ((rd_T53 l2 x38_2).f0) ((rd_T53 l2 x38_2).f1) ((rd_T53 l2 x38_2).f2))=some (r1,r2):=rH hy388 H
                 have Ny388:=Aside0.mk hy388
                 clear hy388
                 have H':=Aside0.mk H
                 clear H
                 have p387:0≤(x85_5:Int):=dA
                 have q387:x85_5<(x8_5.length:Int):=dA
                 obtain ⟨ad387,e387,hx387_0⟩:=Kd.at_int (Kd.R_reads' HO_8.out).2.2 x85_5 p387 q387
                 obtain rfl:(⟨gq8,0,none⟩:Addr)=ad387:=(by injection e387)
                 (first|simp only [add_plain] at hx387_0|skip)
                 replace p387:=eq_true p387
                 replace q387:=eq_true q387
                 have p44:0≤(x85_5:Int):=dA
                 have q44:(x85_5:Int)<((x8_5.length:Int):Int):=dA
                 obtain ⟨gz8,cz8,eo44,gb44,gl44,cl44,HG44⟩:=Kd.R_form HO_8.out (by omega)
                 obtain ⟨rfl,rfl⟩:gq8=gz8∧co39=cz8:=(by injection eo44 with ea_ en_ ec_;injection ea_ with ea_;injection ea_ with ea_;exact ⟨ea_,ec_⟩)
                 have GB44:=Aside0.mk gb44
                 have GG44:=Aside0.mk HG44
                 clear gb44 gl44 HG44
                 (first|simp only [add_plain] at hx383_0|skip)
                 (first|simp only [add_plain] at hx384_0|skip)
                 (first|simp only [add_plain] at hx385_0|skip)
                 (first|simp only [add_plain] at hx386_0|skip)
                 (first|simp only [add_plain] at hx387_0|skip)
                 obtain ⟨hx44_0,hf44_0⟩:=Kd.R_celln 0 HO_8.out (x85_5:Int) p44 q44
                 replace p44:=eq_true p44
                 replace q44:=eq_true q44
                 have HP45:=Kd.R_putg HO_8.out (x85_5:Int) ji36
                 go_wp2_with (first|((with_reducible refine gate_store (t:=2) (p:=96) rfl ?_);refine store_event (t:=2) (p:=96) (v:=?vo_w46) (w1:=(wr.setCell ⟨gq8,(x85_5:Int).toNat,none⟩ (.int .i64 ji36))) ?hg ?ho ?hn ?hr ?_;(case ho=>rfl);(case hg=>rfl);(case hn=>rfl);(case hr=>first|(go_simp;done)|(go_simp;rfl));intro w46 hw;have hg:wr.grownBy w46 (some gq8):=(by rw [hw];exact HP45.2);have hp_:Kd.R (Kd.int .i64) 2 w46 w.heap.size (fun _=>True) (.slice (some ⟨gq8,0,none⟩) x8_5.length co39) y388:=(by rw [hw,Ny388.out];exact HP45.1);clear HP45;have n0_:=Aside0.mk (hp_);have n1_:=Aside0.mk (blk_grown (bkA BK374) hg (Kd.R_ne HO_8.out BK374.out (by decide)));have n2_:=Aside0.mk (blk_grown (bkA BK376) hg (Kd.R_ne HO_8.out BK376.out (by decide)));have n3_:=Aside0.mk (blk_grown (bkA BK381) hg (Kd.R_ne HO_8.out BK381.out (by decide)));have n4_:=Aside0.mk ((by rw [hw];exact below_set (HB.out) GB44.out:Below w.heap.size w w46));clear HO_8;clear BK374;clear BK376;clear BK381;clear HB;have HO_8:=n0_;have BK374:=n1_;have BK376:=n2_;have BK381:=n3_;have HB:=n4_;clear n0_ n1_ n2_ n3_ n4_;clear hg hw hp_))
                 (try simp only [← hl8_5])
                 go_roundg k5
                 case measure=>have:=HK1.out;have:=HK2.out;have:=HK3.out;have:=HJ18.out;have:=HK5.out;omega
                 case rel=>exact ⟨(y388),(wrap64 (x85_5+1)),hB,H',⟨by have:=HK1.out;have:=HK2.out;have:=HK3.out;have:=HJ18.out;have:=HK5.out;omega⟩,⟨by (try simp only [hl8_5]);(with_reducible repeat (first|apply Kd.R_alloc|apply Kd.R_drewN|apply Kd.R_drew));exact HO_8.out⟩,⟨by (try simp only [hl8_5]);exact bkA BK374⟩,⟨by (try simp only [hl8_5]);exact bkA BK376⟩,⟨by (try simp only [hl8_5]);exact bkA BK381⟩,⟨blA⟩⟩
                ·
                 rw [if_neg c43] at H
                 have c43b0:((rd x8_5 x85_5) == ji37)=false:=beq_eq_false_iff_ne.mpr c43
                 have c43b1:((rd x8_5 x85_5) != ji37)=true:=bne_iff_ne.mpr c43
                 have H':=Aside0.mk H
                 clear H
                 have p387:0≤(x85_5:Int):=dA
                 have q387:x85_5<(x8_5.length:Int):=dA
                 obtain ⟨ad387,e387,hx387_0⟩:=Kd.at_int (Kd.R_reads' HO_8.out).2.2 x85_5 p387 q387
                 obtain rfl:(⟨gq8,0,none⟩:Addr)=ad387:=(by injection e387)
                 (first|simp only [add_plain] at hx387_0|skip)
                 replace p387:=eq_true p387
                 replace q387:=eq_true q387
                 go_wp2
                 (try simp only [← hl8_5])
                 go_roundg k5
                 case measure=>have:=HK1.out;have:=HK2.out;have:=HK3.out;have:=HJ18.out;have:=HK5.out;omega
                 case rel=>exact ⟨(x8_5),(wrap64 (x85_5+1)),hB,H',⟨by have:=HK1.out;have:=HK2.out;have:=HK3.out;have:=HJ18.out;have:=HK5.out;omega⟩,⟨by (try simp only [hl8_5]);(with_reducible repeat (first|apply Kd.R_alloc|apply Kd.R_drewN|apply Kd.R_drew));exact HO_8.out⟩,⟨by (try simp only [hl8_5]);exact bkA BK374⟩,⟨by (try simp only [hl8_5]);exact bkA BK376⟩,⟨by (try simp only [hl8_5]);exact bkA BK381⟩,⟨blA⟩⟩
               ·
                rw [if_neg c40] at H
                have c40b0:=decide_eq_false c40
                have cb9_:=c40b0;rw [hl8_5] at cb9_
                clear c40
                have H':=Aside0.mk H
                clear H
                go_wp2
                (try simp only [← hl8_5])
                go_roundg k5
                case measure=>have:=HK1.out;have:=HK2.out;have:=HK3.out;have:=HJ18.out;have:=HK5.out;omega
                case rel=>exact ⟨(x8_5),(wrap64 (x45_3+1)),hB,H',⟨by have:=HK1.out;have:=HK2.out;have:=HK3.out;have:=HJ18.out;have:=HK5.out;omega⟩,⟨by (try simp only [hl8_5]);(with_reducible repeat (first|apply Kd.R_alloc|apply Kd.R_drewN|apply Kd.R_drew));exact HO_8.out⟩,⟨by (try simp only [hl8_5]);exact bkA BK374⟩,⟨blA⟩⟩
         ·
          rw [if_neg c14] at H
          have c14b0:=decide_eq_false c14
          clear c14
          have H':=Aside0.mk H
          clear H
          go_wp2
          go_roundg k3
          case measure=>have:=HK1.out;have:=HK2.out;have:=HK3.out;omega
          case rel=>exact ⟨(x8_3),(wrap64 (x38_2+1)),hB,H',⟨by have:=HK1.out;have:=HK2.out;have:=HK3.out;omega⟩,⟨rA HO_8⟩,⟨blA⟩⟩
      ·
       rw [if_neg c9] at H
       have c9b0:=decide_eq_false c9
       clear c9
       obtain ⟨y389,hy389⟩:∃ y_:List (List Int),y_=(([]:List (List Int))):=⟨_,rfl⟩
       replace H:(if 0≤(l2.length:Int) then (if ((l2.length:Int):Int).toNat≤35184372088832 then (impl_classes.l4 k2 y389 (List.replicate ((l2.length:Int):Int).toNat 0) x8_2 (x8_2.length:Int) 0) else (none)) else (none))=some (r1,r2):=rH hy389 H
       have Ny389:=Aside0.mk hy389
       clear hy389
       by_cases c47:0≤(l2.length:Int)
       rotate_left
       ·
        rw [if_neg c47] at H
        exact absurd H (by simp)
       rw [if_pos c47] at H
       have c47b0:=eq_true c47
       have c47b1:=decide_eq_true c47
       clear c47
       by_cases c48:((l2.length:Int):Int).toNat≤35184372088832
       rotate_left
       ·
        rw [if_neg c48] at H
        exact absurd H (by simp)
       rw [if_pos c48] at H
       have c48b0:=eq_true c48
       have c48b1:=decide_eq_true c48
       clear c48
       obtain ⟨y392,hy392⟩:∃ y_:List Int,y_=(List.replicate ((l2.length:Int):Int).toNat 0):=⟨_,rfl⟩
       replace H:(impl_classes.l4 k2 y389 y392 x8_2 (x8_2.length:Int) 0)=some (r1,r2):=rH hy392 H
       have Ny392:=Aside0.mk hy392
       clear hy392
       have H':=Aside0.mk H
       clear H
       try go_wp2
       have n0_:=Aside0.mk (Kd.R_drew HO_8.out)
       have n1_:=Aside0.mk (below_drew1 HB.out)
       clear HO_8
       clear HB
       have HO_8:=n0_
       have HB:=n1_
       clear n0_ n1_
       refine start_ (n:=6) (S:=fun w'=>True) (ds:=[]) #[Z,Z,Z,Z,Z,Z] (by kernel_rfl) rfl rfl trivial (fun hHeld=>?_)
       generalize wr.drew=w49 at HO_8 HB hHeld ⊢
       refine pure_ (i:=1) (N:=some 101) (v:=?_) (a':=?_) #[Z,Y,Z,Z,Z,Z] rfl rfl (by kernel_rfl) (fun _ _ _ h=>h) (Or.inl ⟨by rfl,?_⟩) ?_ ?_
       rotate_left
       ·
        intro w'
        go_simp
        with_reducible rfl
       rotate_left
       ·
        simp only [pA]
        rfl
       refine pure_ (i:=2) (N:=some 102) (v:=?_) (a':=?_) #[Z,Y,Y,Z,Z,Z] rfl rfl (by kernel_rfl) (fun _ _ _ h=>h) (Or.inl ⟨by rfl,?_⟩) ?_ ?_
       rotate_left
       ·
        intro w'
        go_simp
        with_reducible rfl
       rotate_left
       ·
        simp only [pA]
        rfl
       refine join_ (σ:=Value × Value) 1 #[Y,Y,Y,Y,Y,Z] (fun s_=>[(100,s_.1),(103,s_.2),(21,s_.1)]) (fun s_ w'=>(Kd.S (Kd.slice 2 (Kd.int .i64)) 36 w' w.heap.size (fun k_=>some k_≠(s_.2:Value).ownBlock∧some k_≠(u8:Value).ownBlock) s_.1 y389)∧(Kd.R (Kd.int .i64) 2 w' w.heap.size (fun k_=>some k_≠(u8:Value).ownBlock) s_.2 y392)∧(Kd.R (Kd.int .i64) 2 w' w.heap.size (fun k_=>some k_≠(s_.2:Value).ownBlock) u8 x8_2)∧(Below w.heap.size w w')) ?_ ?_
       rotate_left
       ·
        intro hCont
        refine two_ (i:=0) (j:=3) (Ni:=some 100) (Nj:=some 103) #[Y,Y,Y,Z,Z,Z] #[Z,Y,Y,Y,Z,Z] rfl rfl rfl rfl (by kernel_rfl) (by decide) (by decide) (fun K hK=>?_) (fun K hK=>?_)
        ·
         skip
         refine Kd.S_lit_step (Kd.slice 2 (Kd.int .i64)) _ 36 ?hg (N:=100) ?hd (xs:=([]:List (List Int))) (inner:=[]) (ok:=fun _=>True) (okp:=fun _=>True) ?hr ?hp (fun _ hk=>hk) trivial (Below.refl _ _) (Nat.le_refl _) (by simp) ?_;(case hd=>rfl);(case hg=>rfl);(case hr=>first|(go_simp;done)|(go_simp;rfl));(case hp=>exact (Reps.none _ _))
         intro v390 w50 ho51 hb hg_ hnew_
         clear hg_ hnew_
         (first|rw [← Ny389.out] at ho51|(simp only [Int.reduceToNat] at ho51;rw [← Ny389.out] at ho51))
         have HO391:=Aside0.mk (Kd.S_lower (Kd.S_new' ho51 (Kd.R_lt (rA HO_8))) (below_size blA))
         replace HO_8:=Aside0.mk (Kd.R_below (rA HO_8) hb)
         replace HB:=lB hb
         clear hb ho51
         refine hK.out _ _ trivial (fun hHeld=>?_)
         clear hK K
         refine nmA ?_
         refine pure_ (i:=4) (N:=some 21) (v:=?_) (a':=?_) #[Y,Y,Y,Z,Y,Z] rfl rfl (by kernel_rfl) (fun _ _ _ h=>h) (Or.inl ⟨by rfl,?_⟩) ?_ ?_
         rotate_left
         ·
          intro w'
          go_simp
          with_reducible rfl
         rotate_left
         ·
          simp only [pA]
          rfl
         refine one_ (i:=3) (N:=some 103) #[Y,Y,Y,Y,Y,Z] rfl rfl (by kernel_rfl) (by decide) (fun K hK=>?_)
         refine Kd.R_make_step (Kd.int .i64) _ 2 (by rfl) (N:=103) rfl 36 _ _ rfl (l2.length:Int) rfl rfl Try.underlying36 (.int .i64 0) 8 info2 rfl (by decide) (by omega) 0 (ok:=fun _=>True) (okp:=fun _=>True) rfl (fun _ hk=>hk) trivial (dA) (Nat.le_trans (Nat.mul_le_mul_right _ (dA:(l2.length:Int).toNat≤35184372088832)) (by omega)) (Below.refl _ _) (Nat.le_refl _) ?_
         intro v393 w52 ho53 hb hg_ hnew_
         clear hg_ hnew_
         (first|rw [← Ny392.out] at ho53|(simp only [Int.reduceToNat] at ho53;rw [← Ny392.out] at ho53))
         have HO394:=Aside0.mk (Kd.R_lower (Kd.R_new' ho53 (Kd.R_lt (rA HO_8))) (below_size blA))
         replace HO_8:=Aside0.mk (Kd.R_elder' (rA HO_8) (Kd.R_base ho53) hb)
         replace HO391:=Aside0.mk (Kd.S_elder' (by (with_reducible repeat (first|apply Kd.S_alloc|apply Kd.S_drewN|apply Kd.S_drew));exact HO391.out) (Kd.R_base ho53) hb)
         replace HB:=lB hb
         clear hb ho53
         refine hK.out _ _ trivial (fun hHeld=>?_)
         clear hK K
         refine nmA ?_
         exact norm_ (by simp only [putAll,Act.put,List.setIfInBounds_toArray,List.set_cons_zero,List.set_cons_succ]) (hCont (v390,v393) _ ⟨(by (with_reducible repeat (first|apply Kd.S_alloc|apply Kd.S_drewN|apply Kd.S_drew));exact Kd.S_mono HO391.out (fun _ hk=>⟨hk.2,hk.1.2⟩)),(by (with_reducible repeat (first|apply Kd.R_alloc|apply Kd.R_drewN|apply Kd.R_drew));exact Kd.R_mono HO394.out (fun _ hk=>hk.2)),(by (with_reducible repeat (first|apply Kd.R_alloc|apply Kd.R_drewN|apply Kd.R_drew));exact Kd.R_mono HO_8.out (fun _ hk=>hk.2)),blA⟩)
        ·
         skip
         refine Kd.R_make_step (Kd.int .i64) _ 2 (by rfl) (N:=103) rfl 36 _ _ rfl (l2.length:Int) rfl rfl Try.underlying36 (.int .i64 0) 8 info2 rfl (by decide) (by omega) 0 (ok:=fun _=>True) (okp:=fun _=>True) rfl (fun _ hk=>hk) trivial (dA) (Nat.le_trans (Nat.mul_le_mul_right _ (dA:(l2.length:Int).toNat≤35184372088832)) (by omega)) (Below.refl _ _) (Nat.le_refl _) ?_
         intro v393 w50 ho51 hb hg_ hnew_
         clear hg_ hnew_
         (first|rw [← Ny392.out] at ho51|(simp only [Int.reduceToNat] at ho51;rw [← Ny392.out] at ho51))
         have HO394:=Aside0.mk (Kd.R_lower (Kd.R_new' ho51 (Kd.R_lt (rA HO_8))) (below_size blA))
         replace HO_8:=Aside0.mk (Kd.R_elder' (rA HO_8) (Kd.R_base ho51) hb)
         replace HB:=lB hb
         clear hb ho51
         refine hK.out _ _ trivial (fun hHeld=>?_)
         clear hK K
         refine nmA ?_
         refine one_ (i:=0) (N:=some 100) #[Y,Y,Y,Y,Z,Z] rfl rfl (by kernel_rfl) (by decide) (fun K hK=>?_)
         refine Kd.S_lit_step (Kd.slice 2 (Kd.int .i64)) _ 36 ?hg (N:=100) ?hd (xs:=([]:List (List Int))) (inner:=[]) (ok:=fun _=>True) (okp:=fun _=>True) ?hr ?hp (fun _ hk=>hk) trivial (Below.refl _ _) (Nat.le_refl _) (by simp) ?_;(case hd=>rfl);(case hg=>rfl);(case hr=>first|(go_simp;done)|(go_simp;rfl));(case hp=>exact (Reps.none _ _))
         intro v390 w52 ho53 hb hg_ hnew_
         clear hg_ hnew_
         (first|rw [← Ny389.out] at ho53|(simp only [Int.reduceToNat] at ho53;rw [← Ny389.out] at ho53))
         have HO391:=Aside0.mk (Kd.S_lower (Kd.S_new' (Kd.S_new' ho53 (Kd.R_lt (rA HO_8))) (Kd.R_lt (rA HO394))) (below_size blA))
         replace HO_8:=Aside0.mk (Kd.R_below (rA HO_8) hb)
         replace HO394:=Aside0.mk (Kd.R_below (rA HO394) hb)
         replace HB:=lB hb
         clear hb ho53
         refine hK.out _ _ trivial (fun hHeld=>?_)
         clear hK K
         refine nmA ?_
         refine pure_ (i:=4) (N:=some 21) (v:=?_) (a':=?_) #[Y,Y,Y,Y,Y,Z] rfl rfl (by kernel_rfl) (fun _ _ _ h=>h) (Or.inl ⟨by rfl,?_⟩) ?_ ?_
         rotate_left
         ·
          intro w'
          go_simp
          with_reducible rfl
         rotate_left
         ·
          simp only [pA]
          rfl
         exact norm_ (by simp only [putAll,Act.put,List.setIfInBounds_toArray,List.set_cons_zero,List.set_cons_succ]) (hCont (v390,v393) _ ⟨(by (with_reducible repeat (first|apply Kd.S_alloc|apply Kd.S_drewN|apply Kd.S_drew));exact Kd.S_mono HO391.out (fun _ hk=>⟨hk.2,hk.1.2⟩)),(by (with_reducible repeat (first|apply Kd.R_alloc|apply Kd.R_drewN|apply Kd.R_drew));exact Kd.R_mono HO394.out (fun _ hk=>hk.2)),(by (with_reducible repeat (first|apply Kd.R_alloc|apply Kd.R_drewN|apply Kd.R_drew));exact Kd.R_mono HO_8.out (fun _ hk=>hk.2)),blA⟩)
       rintro ⟨v390,v393⟩ w54 ⟨h0_,h1_,h2_,h3_⟩
       have HO391:=Aside0.mk h0_
       have HO394:=Aside0.mk h1_
       replace HO_8:=Aside0.mk h2_
       replace HB:=Aside0.mk h3_
       clear h0_ h1_ h2_ h3_
       have hHeld:=trivial
       refine norm_ (a':=?_) ?_ ?_
       rotate_left
       ·
        simp only [putAll,Act.put,List.setIfInBounds_toArray,List.set_cons_zero,List.set_cons_succ]
        rfl
       refine pure_ (i:=5) (N:=some 22) (v:=?_) (a':=?_) #[Y,Y,Y,Y,Y,Y] rfl rfl (by kernel_rfl) (fun _ _ _ h=>h) (Or.inl ⟨by rfl,?_⟩) ?_ ?_
       rotate_left
       ·
        intro w'
        go_simp
        with_reducible rfl
       rotate_left
       ·
        simp only [pA]
        rfl
       refine done_ (by kernel_rfl) ?_
       obtain ⟨Ao55,co55,eo55⟩:=Kd.R_slice HO_8.out
       subst eo55
       try go_wp2
       go_loopg [21,106] k2 (fun kq v21 v106 w'=>∃ (x21_3:List (List Int)) (x22_3:List Int) (x106_3:Int),v106=.int .i64 x106_3∧Aside0 (impl_classes.l4 kq x21_3 x22_3 x8_2 (x8_2.length:Int) x106_3=some (r1,r2))∧Aside0 (kq≤k2)∧Aside0 (Kd.S (Kd.slice 2 (Kd.int .i64)) 36 w' w.heap.size (fun k_=>some k_≠(v393:Value).ownBlock∧some k_≠((.slice Ao55 x8_2.length co55):Value).ownBlock) v21 x21_3)∧Aside0 (Kd.R (Kd.int .i64) 2 w' w.heap.size (fun k_=>some k_≠((.slice Ao55 x8_2.length co55):Value).ownBlock) v393 x22_3)∧Aside0 (Kd.R (Kd.int .i64) 2 w' w.heap.size (fun k_=>some k_≠(v393:Value).ownBlock) (.slice Ao55 x8_2.length co55) x8_2)∧Aside0 (Below w.heap.size w w'))
       case atStart=>exact ⟨(y389),(y392),(0),hB,H',⟨Nat.le_refl _⟩,⟨by (with_reducible repeat (first|apply Kd.S_alloc|apply Kd.S_drewN|apply Kd.S_drew));exact HO391.out⟩,⟨rA HO394⟩,⟨rA HO_8⟩,⟨blA⟩⟩
       case round=>
        clear H'
        try clear c1
        try clear c2
        try clear c6
        try clear c6b0
        try clear c7
        try clear c9
        try clear c9b0
        try clear c10
        try clear c10b0
        try clear c11
        try clear c11b0
        try clear c14
        try clear c14b0
        try clear c15
        try clear c15b0
        try clear c16
        try clear c16b0
        try clear c30
        try clear c31
        try clear c32
        try clear c32b0
        try clear c33
        try clear c33b0
        try clear c34
        try clear c34b0
        try clear c35
        try clear c35b0
        try clear c40
        try clear c40b0
        try clear c41
        try clear c41b0
        try clear c42
        try clear c42b0
        try clear c43
        try clear c43b0
        try clear c43b1
        try clear p44
        try clear q44
        try clear c47
        try clear c47b0
        try clear c47b1
        try clear c48
        try clear c48b0
        try clear c48b1
        try clear hcz13_0
        try clear hcz13_1
        try clear hcz13_2
        try clear hcz22_0
        try clear hcz22_1
        try clear hcz22_2
        try clear hcz22_3
        try clear hcz23_0
        try clear hcz23_1
        try clear hcz23_2
        try clear hcz28_0
        try clear hcz28_1
        try clear hcz28_2
        try clear hfz13_0
        try clear hfz13_1
        try clear hfz13_2
        try clear hfz22_0
        try clear hfz22_1
        try clear hfz22_2
        try clear hfz22_3
        try clear hfz23_0
        try clear hfz23_1
        try clear hfz23_2
        try clear hfz28_0
        try clear hfz28_1
        try clear hfz28_2
        try clear hx373_0
        try clear hx373_1
        try clear hx373_2
        try clear hx375_0
        try clear hx375_1
        try clear hx375_2
        try clear hx375_3
        try clear hx383_0
        try clear hx384_0
        try clear hx385_0
        try clear hx386_0
        try clear hx387_0
        try clear hx44_0
        try clear p373
        try clear p375
        try clear p383
        try clear p384
        try clear p385
        try clear p386
        try clear p387
        try clear p44
        try clear q373
        try clear q375
        try clear q383
        try clear q384
        try clear q385
        try clear q386
        try clear q387
        try clear q44
        obtain ⟨x21_3,x22_3,x106_3,rfl,HA,HK3,HO_21,HO_22,HO_104,HB⟩:=hrel
        cases gk with
        | zero=>exact absurd HA.out (by simp [impl_classes.l4])
        | succ k3=>
         have H:=HA.out
         clear HA
         simp only [impl_classes.l4] at H
         by_cases c56:x106_3<(x8_2.length:Int)
         ·
          rw [if_pos c56] at H
          have c56b0:=decide_eq_true c56
          clear c56
          by_cases c57:0≤x106_3
          rotate_left
          ·
           rw [if_neg c57] at H
           exact absurd H (by simp)
          rw [if_pos c57] at H
          have c57b0:=decide_eq_true c57
          clear c57
          by_cases c58:x106_3<(x8_2.length:Int)
          rotate_left
          ·
           rw [if_neg c58] at H
           exact absurd H (by simp)
          rw [if_pos c58] at H
          have c58b0:=decide_eq_true c58
          clear c58
          by_cases c59:(rd x8_2 x106_3)=x106_3
          ·
           rw [if_pos c59] at H
           have c59b0:((rd x8_2 x106_3) == x106_3)=true:=beq_iff_eq.mpr c59
           have c59b1:((rd x8_2 x106_3) != x106_3)=false:=bne_eq_false_iff_eq.mpr c59
           clear c59
           by_cases c60:x106_3<(x22_3.length:Int)
           rotate_left
           ·
            rw [if_neg c60] at H
            exact absurd H (by simp)
           rw [if_pos c60] at H
           have c60b0:=decide_eq_true c60
           clear c60
           obtain ⟨y396,hy396⟩:∃ y_:List Int,y_=(x22_3.set (x106_3:Int).toNat (x21_3.length:Int)):=⟨_,rfl⟩
           replace H:(if x21_3.length<5864062014805 then ((some (x21_3 ++ [[]]:List (List Int))).bind fun y397=>(if 0≤(rd x8_2 x106_3) then (if (rd x8_2 x106_3)<(x22_3.length:Int) then ((some (y396.set (x106_3:Int).toNat (rd y396 (rd x8_2 x106_3)):List Int)).bind fun y401=>(if 0≤(rd y401 x106_3) then (if (rd y401 x106_3)<(y397.length:Int) then (if (rd_L4 y397 (rd y401 x106_3)).length<17592186044416 then (impl_classes.l4 k3 (y397.set ((rd y401 x106_3):Int).toNat (rd_L4 y397 (rd y401 x106_3) ++ [x106_3])) y401 x8_2 (x8_2.length:Int) (wrap64 (x106_3+1))) else (none)) else (none)) else (none))) else (none)) else (none))) else (none))=some (r1,r2):=rH hy396 H
           have Ny396:=Aside0.mk hy396
           clear hy396
           by_cases c62:x21_3.length<5864062014805
           rotate_left
           ·
            rw [if_neg c62] at H
            exact absurd H (by simp)
           rw [if_pos c62] at H
           have LMc62:=Aside0.mk c62
           clear c62
           obtain ⟨y397,hy397⟩:∃ y_:List (List Int),y_=(x21_3 ++ [[]]):=⟨_,rfl⟩
           replace H:(if 0≤(rd x8_2 x106_3) then (if (rd x8_2 x106_3)<(x22_3.length:Int) then ((some (y396.set (x106_3:Int).toNat (rd y396 (rd x8_2 x106_3)):List Int)).bind fun y401=>(if 0≤(rd y401 x106_3) then (if (rd y401 x106_3)<(y397.length:Int) then (if (rd_L4 y397 (rd y401 x106_3)).length<17592186044416 then (impl_classes.l4 k3 (y397.set ((rd y401 x106_3):Int).toNat (rd_L4 y397 (rd y401 x106_3) ++ [x106_3])) y401 x8_2 (x8_2.length:Int) (wrap64 (x106_3+1))) else (none)) else (none)) else (none))) else (none)) else (none))=some (r1,r2):=rH hy397 H
           have Ny397:=Aside0.mk hy397
           clear hy397
           by_cases c63:0≤(rd x8_2 x106_3)
           rotate_left
           ·
            rw [if_neg c63] at H
            exact absurd H (by simp)
           rw [if_pos c63] at H
           have c63b0:=decide_eq_true c63
           clear c63
           by_cases c64:(rd x8_2 x106_3)<(x22_3.length:Int)
           rotate_left
           ·
            rw [if_neg c64] at H
            exact absurd H (by simp)
           rw [if_pos c64] at H
           have c64b0:=decide_eq_true c64
           clear c64
           obtain ⟨y401,hy401⟩:∃ y_:List Int,y_=(y396.set (x106_3:Int).toNat (rd y396 (rd x8_2 x106_3))):=⟨_,rfl⟩
           replace H:(if 0≤(rd y401 x106_3) then (if (rd y401 x106_3)<(y397.length:Int) then (if (rd_L4 y397 (rd y401 x106_3)).length<17592186044416 then (impl_classes.l4 k3 (y397.set ((rd y401 x106_3):Int).toNat (rd_L4 y397 (rd y401 x106_3) ++ [x106_3])) y401 x8_2 (x8_2.length:Int) (wrap64 (x106_3+1))) else (none)) else (none)) else (none))=some (r1,r2):=rH hy401 H
           have Ny401:=Aside0.mk hy401
           clear hy401
           by_cases c66:0≤(rd y401 x106_3)
           rotate_left
           ·
            rw [if_neg c66] at H
            exact absurd H (by simp)
           rw [if_pos c66] at H
           have c66b0:=decide_eq_true c66
           clear c66
           by_cases c67:(rd y401 x106_3)<(y397.length:Int)
           rotate_left
           ·
            rw [if_neg c67] at H
            exact absurd H (by simp)
           rw [if_pos c67] at H
           have c67b0:=decide_eq_true c67
           clear c67
           by_cases c68:(rd_L4 y397 (rd y401 x106_3)).length<17592186044416
           rotate_left
           ·
            rw [if_neg c68] at H
            exact absurd H (by simp)
           rw [if_pos c68] at H
           have LMc68:=Aside0.mk c68
           clear c68
           obtain ⟨y405,hy405⟩:∃ y_:List (List Int),y_=(y397.set ((rd y401 x106_3):Int).toNat (rd_L4 y397 (rd y401 x106_3) ++ [x106_3])):=⟨_,rfl⟩
           replace H:(impl_classes.l4 k3 y405 y401 x8_2 (x8_2.length:Int) (wrap64 (x106_3+1)))=some (r1,r2):=rH hy405 H
           have Ny405:=Aside0.mk hy405
           clear hy405
           have H':=Aside0.mk H
           clear H
           have p395:0≤(x106_3:Int):=dA
           have q395:x106_3<(x8_2.length:Int):=dA
           obtain ⟨ad395,e395,hx395_0⟩:=Kd.at_int (Kd.R_reads' HO_104.out).2.2 x106_3 p395 q395
           cases e395
           replace p395:=eq_true p395
           replace q395:=eq_true q395
           obtain ⟨Ao69,co69,eo69⟩:=Kd.S_slice HO_21.out
           subst eo69
           have p61:0≤(x106_3:Int):=dA
           have q61:(x106_3:Int)<((x22_3.length:Int):Int):=dA
           obtain ⟨go61,co61,eo61,gb61,gl61,cl61,HG61⟩:=Kd.R_form HO_22.out (by omega)
           (first|cases eo61|(injection eo61 with ea_ en_ ec_;(first|subst ea_|(injection ea_ with ea_;subst ea_));subst ec_;clear en_))
           have GB61:=Aside0.mk gb61
           have GG61:=Aside0.mk HG61
           clear gb61 gl61 HG61
           obtain ⟨hx61_0,hf61_0⟩:=Kd.R_celln 0 HO_22.out (x106_3:Int) p61 q61
           replace p61:=eq_true p61
           replace q61:=eq_true q61
           have HP70:=Kd.R_putg HO_22.out (x106_3:Int) (x21_3.length:Int)
           go_wp2_with (first|((with_reducible refine gate_store (t:=2) (p:=118) rfl ?_);refine store_event (t:=2) (p:=118) (v:=?vo_w71) (w1:=(wr.setCell ⟨go61,(x106_3:Int).toNat,none⟩ (.int .i64 (x21_3.length:Int)))) ?hg ?ho ?hn ?hr ?_;(case ho=>rfl);(case hg=>rfl);(case hn=>rfl);(case hr=>first|(go_simp;done)|(go_simp;rfl));intro w71 hw;have hg:wr.grownBy w71 (some go61):=(by rw [hw];exact HP70.2);have hp_:Kd.R (Kd.int .i64) 2 w71 w.heap.size (fun k_=>some k_≠(.slice (some ad395) x8_2.length co55:Value).ownBlock) (.slice (some ⟨go61,0,none⟩) x22_3.length co61) y396:=(by rw [hw,Ny396.out];exact HP70.1);clear HP70;have n0_:=Aside0.mk (Kd.S_after (v:=(.slice (some ⟨go61,0,none⟩) x22_3.length co61)) (v1:=(.slice (some ⟨go61,0,none⟩) x22_3.length co61)) (ok:=(fun k_=>some k_≠(.slice (some ad395) x8_2.length co55:Value).ownBlock)) (by (with_reducible repeat (first|apply Kd.S_alloc|apply Kd.S_drewN|apply Kd.S_drew));exact Kd.S_mono HO_21.out (fun _ hk=>⟨hk.2,hk.1⟩)) hg (.inl rfl));have n1_:=Aside0.mk (hp_);have n2_:=Aside0.mk (Kd.R_after (v:=(.slice (some ⟨go61,0,none⟩) x22_3.length co61)) (v1:=(.slice (some ⟨go61,0,none⟩) x22_3.length co61)) (ok:=(fun _=>True)) (by (with_reducible repeat (first|apply Kd.R_alloc|apply Kd.R_drewN|apply Kd.R_drew));exact Kd.R_mono HO_104.out (fun _ hk=>⟨trivial,hk⟩)) hg (.inl rfl));have n3_:=Aside0.mk ((by rw [hw];exact below_set (HB.out) GB61.out:Below w.heap.size w w71));clear HO_21;clear HO_22;clear HO_104;clear HB;have HO_21:=n0_;have HO_22:=n1_;have HO_104:=n2_;have HB:=n3_;clear n0_ n1_ n2_ n3_;clear hg hw hp_)|((with_reducible refine gate_builtin (b:=.append) (xs:=#[.tmp 119,.tmp 120]) rfl ?_);at_builtin;refine Kd.S_append (Kd.slice 2 (Kd.int .i64)) (w0:=w) w.heap.size rfl (.tmp 119) (.tmp 120) 24 36 (.slice none 0 0) 24 rfl Try.underlying24 info36 rfl (by decide) (by omega) (.slice Ao69 x21_3.length co69) x21_3 [] [.slice none 0 0] (fun k_=>some k_≠(.slice (some ⟨go61,0,none⟩) x22_3.length co61:Value).ownBlock∧some k_≠(.slice (some ad395) x8_2.length co55:Value).ownBlock) (fun _=>False) rfl rfl ?aP (fun _ hk=>hk.elim) ?aF ?aO ?aB ?aS ?aL ?_;(case aP=>exact ⟨_,rfl,Kd.R_nil _ _ _ _ _⟩);(case aB=>exact blA);(case aF=>exact (fun k_ hk=>⟨Kd.fresh' (Kd.R_lt (rA HO_22)) k_ hk,Kd.fresh' (Kd.R_lt (rA HO_104)) k_ hk⟩));(case aO=>exact (by (with_reducible repeat (first|apply Kd.S_alloc|apply Kd.S_drewN|apply Kd.S_drew));exact Kd.S_mono HO_21.out (fun k_ hk=>⟨⟨hk.2,hk.1⟩,fun e_=>e_⟩)));(case aS=>exact (below_size blA));(case aL=>have:=LMc62.out;omega);intro v398 w72 ho hb hg hat;rw [← Ny397.out] at ho;have n0_:=Aside0.mk (Kd.R_over' (rA HO_22) (Kd.S_typed (by (with_reducible repeat (first|apply Kd.S_alloc|apply Kd.S_drewN|apply Kd.S_drew));exact HO_21.out)) (by decide) hg);have n1_:=Aside0.mk (Kd.R_over' (rA HO_104) (Kd.S_typed (by (with_reducible repeat (first|apply Kd.S_alloc|apply Kd.S_drewN|apply Kd.S_drew));exact HO_21.out)) (by decide) hg);have n2_:=Aside0.mk hb;have n3_:=Aside0.mk ho;clear HO_22;clear HO_104;clear HB;clear HO_21;have HO_22:=n0_;have HO_104:=n1_;have HB:=n2_;have HO399:=n3_;clear n0_ n1_ n2_ n3_;clear ho hb hg hat;have p400:0≤((rd x8_2 x106_3):Int):=dA;have q400:(rd x8_2 x106_3)<(y396.length:Int):=(by have h_:((rd x8_2 x106_3):Int)<((x22_3.length:Int):Int):=dA;first|(have e_:=(Kd.R_reads' HO_22.out).1;omega)|simpa only [Ny396.out,List.length_set] using h_);have ql400:(((rd x8_2 x106_3):Int)<((x22_3.length:Int):Int))=True:=eq_true (dA);obtain ⟨ad400,e400,hx400_0⟩:=Kd.at_int (Kd.R_reads' HO_22.out).2.2 (rd x8_2 x106_3) p400 q400;obtain rfl:(⟨go61,0,none⟩:Addr)=ad400:=(by injection e400);(first|simp only [add_plain] at hx400_0|simp only [add_at] at hx400_0|simp only [Addr.add,Nat.zero_add] at hx400_0|skip);replace p400:=eq_true p400;replace q400:=eq_true q400;have p65:0≤(x106_3:Int):=dA;have q65:(x106_3:Int)<((x22_3.length:Int):Int):=dA;obtain ⟨hx65_0,hf65_0⟩:=Kd.R_celln 0 HO_22.out (x106_3:Int) p65 q65;replace p65:=eq_true p65;replace q65:=eq_true q65;obtain ⟨hy73_,hz73_⟩:=Kd.R_celln 0 HO_22.out (x106_3:Int) (dA) (dA);have HP73:=Kd.R_putg HO_22.out (x106_3:Int) (rd y396 (rd x8_2 x106_3)))|((with_reducible refine gate_store (t:=2) (p:=128) rfl ?_);refine store_event (t:=2) (p:=128) (v:=?vo_w74) (w1:=(w72.setCell ⟨go61,(x106_3:Int).toNat,none⟩ (.int .i64 (rd y396 (rd x8_2 x106_3))))) ?hg ?ho ?hn ?hr ?_;(case ho=>rfl);(case hg=>rfl);(case hn=>rfl);(case hr=>first|(go_simp;done)|(go_simp;rfl));intro w74 hw;have hg:w72.grownBy w74 (some go61):=(by rw [hw];exact HP73.2);have hp_:Kd.R (Kd.int .i64) 2 w74 w.heap.size (fun k_=>some k_≠(.slice (some ad395) x8_2.length co55:Value).ownBlock) (.slice (some ⟨go61,0,none⟩) x22_3.length co61) y401:=(by rw [hw,Ny401.out];exact HP73.1);clear HP73;have n0_:=Aside0.mk (hp_);have n1_:=Aside0.mk (Kd.R_after (v:=(.slice (some ⟨go61,0,none⟩) x22_3.length co61)) (v1:=(.slice (some ⟨go61,0,none⟩) x22_3.length co61)) (ok:=(fun _=>True)) (rA HO_104) hg (.inl rfl));have n2_:=Aside0.mk (Kd.S_after (v:=(.slice (some ⟨go61,0,none⟩) x22_3.length co61)) (v1:=(.slice (some ⟨go61,0,none⟩) x22_3.length co61)) (ok:=(fun k_=>some k_≠(.slice (some ad395) x8_2.length co55:Value).ownBlock)) (by (with_reducible repeat (first|apply Kd.S_alloc|apply Kd.S_drewN|apply Kd.S_drew));exact Kd.S_mono HO399.out (fun _ hk=>⟨hk.2,hk.1⟩)) hg (.inl rfl));have n3_:=Aside0.mk ((by rw [hw];exact below_set (HB.out) GB61.out:Below w.heap.size w w74));clear HO_22;clear HO_104;clear HO399;clear HB;have HO_22:=n0_;have HO_104:=n1_;have HO399:=n2_;have HB:=n3_;clear n0_ n1_ n2_ n3_;clear hg hw hp_))
           try go_wp2
           have n0_:=Aside0.mk (Kd.R_drew HO_22.out)
           have n1_:=Aside0.mk (Kd.R_drew HO_104.out)
           have n2_:=Aside0.mk (show Kd.S (Kd.slice 2 (Kd.int .i64)) 36 _ w.heap.size (fun k_=>(some k_≠(.slice (some ⟨go61,0,none⟩) x22_3.length co61:Value).ownBlock∧some k_≠(.slice (some ad395) x8_2.length co55:Value).ownBlock)) _ y397 from Kd.S_mono (Kd.S_drew HO399.out) (fun _ hk=>⟨hk.2,hk.1⟩))
           have n3_:=Aside0.mk (below_drew1 HB.out)
           clear HO_22 HO_104 HO399 HB
           have HO_22:=n0_
           have HO_104:=n1_
           have HO_900:=n2_
           have HB:=n3_
           clear n0_ n1_ n2_ n3_
           have p900:0≤((rd y401 x106_3):Int):=dA
           have q900:(rd y401 x106_3)<(y397.length:Int):=dA
           have p901:0≤(x106_3:Int):=dA
           have q901:x106_3<(x22_3.length:Int):=dA
           obtain ⟨gq,cq,eq_,gbq,glq,clsq,clq⟩:=Kd.S_form HO_900.out (by omega)
           subst eq_
           have hxn:w74.drew.cell? ⟨go61,(x106_3:Int).toNat,none⟩=some (.int .i64 (rd y401 x106_3)):=(Kd.R_celln 0 HO_22.out (x106_3:Int) p901 q901).1
           obtain ⟨oki,cc_,hcl_,hM_,hcc_,hoki,hH⟩:=Kd.S_lend HO_900.out [] (rd y401 x106_3) p900 q900
           obtain ⟨vr,rfl,hR⟩:=hM_
           have hxo:=hcc_ 0 _ rfl
           rw [Nat.add_zero,show ((Kd.slice 2 (Kd.int .i64))).sz=1 from rfl,Nat.mul_one] at hxo
           replace hR:Kd.R (Kd.int .i64) 2 _ _ _ vr (rd_L4 y397 (rd y401 x106_3)):=hR
           obtain ⟨Ar,cr,rfl⟩:=Kd.R_slice hR
           have HNQ:=Aside0.mk (Kd.R_ne HO_22.out clq (by decide))
           have HLQ:=Aside0.mk (Kd.R_ne HO_104.out clq (by decide))
           have HR900:=Aside0.mk hR
           have HH900:=Aside0.mk hH
           have HKI:=Aside0.mk hoki
           have hxn_:=hxn
           have hxo_:=hxo
           clear hR hH hoki hcc_ hcl_ gbq glq clq clsq HO_900
           replace p900:=eq_true p900
           replace q900:=eq_true q900
           replace p901:=eq_true p901
           replace q901:=eq_true q901
           refine start_ (n:=17) (S:=fun w'=>w'.cell? ⟨go61,(x106_3:Int).toNat,none⟩=some (.int .i64 (rd y401 x106_3))∧w'.cell? ⟨gq,((rd y401 x106_3):Int).toNat,none⟩=some (.slice Ar (rd_L4 y397 (rd y401 x106_3)).length cr)) (ds:=[16]) #[Z,Z,Z,Z,Z,Z,Z,Z,Z,Z,Z,Z,Z,Z,Z,Z,Z] (by kernel_rfl) rfl rfl ⟨hxn,hxo⟩ (fun hHeld=>?_)
           clear hxn hxo hxn_ hxo_
           generalize w74.drew=wq at HO_22 HO_104 HB HR900 HH900 hHeld ⊢
           refine pure_ (i:=0) (N:=some 129) (v:=?_) (a':=?_) #[Y,Z,Z,Z,Z,Z,Z,Z,Z,Z,Z,Z,Z,Z,Z,Z,Z] rfl rfl (by kernel_rfl) (fun _ _ _ h=>h) (Or.inl ⟨by rfl,?_⟩) ?_ ?_
           rotate_left
           ·
            intro w'
            go_simp
            with_reducible rfl
           rotate_left
           ·
            simp only [pA]
            rfl
           refine pure_ (i:=1) (N:=some 130) (v:=?_) (a':=?_) #[Y,Y,Z,Z,Z,Z,Z,Z,Z,Z,Z,Z,Z,Z,Z,Z,Z] rfl rfl (by kernel_rfl) (fun _ _ _ h=>h) (Or.inl ⟨by rfl,?_⟩) ?_ ?_
           rotate_left
           ·
            intro w'
            go_simp
            with_reducible rfl
           rotate_left
           ·
            simp only [pA]
            rfl
           refine pure_ (i:=2) (N:=some 131) (v:=?_) (a':=?_) #[Y,Y,Y,Z,Z,Z,Z,Z,Z,Z,Z,Z,Z,Z,Z,Z,Z] rfl rfl (by kernel_rfl) (fun _ _ _ h=>h) (Or.inl ⟨by rfl,?_⟩) ?_ ?_
           rotate_left
           ·
            intro w'
            go_simp
            with_reducible rfl
           rotate_left
           ·
            simp only [pA]
            rfl
           refine pure_ (i:=3) (N:=some 132) (v:=?_) (a':=?_) #[Y,Y,Y,Y,Z,Z,Z,Z,Z,Z,Z,Z,Z,Z,Z,Z,Z] rfl rfl (by kernel_rfl) (fun _ _ _ h=>h) (Or.inl ⟨by rfl,?_⟩) ?_ ?_
           rotate_left
           ·
            intro w'
            go_simp
            with_reducible rfl
           rotate_left
           ·
            simp only [pA]
            rfl
           refine pure_ (i:=5) (N:=some 134) (v:=?_) (a':=?_) #[Y,Y,Y,Y,Z,Y,Z,Z,Z,Z,Z,Z,Z,Z,Z,Z,Z] rfl rfl (by kernel_rfl) (fun _ _ _ h=>h) (Or.inl ⟨by rfl,?_⟩) ?_ ?_
           rotate_left
           ·
            intro w'
            go_simp
            with_reducible rfl
           rotate_left
           ·
            simp only [pA]
            rfl
           refine pure_ (i:=6) (N:=some 135) (v:=?_) (a':=?_) #[Y,Y,Y,Y,Z,Y,Y,Z,Z,Z,Z,Z,Z,Z,Z,Z,Z] rfl rfl (by kernel_rfl) (fun _ _ _ h=>h) (Or.inl ⟨by rfl,?_⟩) ?_ ?_
           rotate_left
           ·
            intro w'
            go_simp
            with_reducible rfl
           rotate_left
           ·
            simp only [pA]
            rfl
           refine pure_ (i:=7) (N:=some 136) (v:=?_) (a':=?_) #[Y,Y,Y,Y,Z,Y,Y,Y,Z,Z,Z,Z,Z,Z,Z,Z,Z] rfl rfl (by kernel_rfl) (fun _ _ _ h=>h) (Or.inl ⟨by rfl,?_⟩) ?_ ?_
           rotate_left
           ·
            intro w'
            go_simp
            with_reducible rfl
           rotate_left
           ·
            simp only [pA]
            rfl
           refine pure_ (i:=8) (N:=some 137) (v:=?_) (a':=?_) #[Y,Y,Y,Y,Z,Y,Y,Y,Y,Z,Z,Z,Z,Z,Z,Z,Z] rfl rfl (by kernel_rfl) (fun _ _ _ h=>h) (Or.inl ⟨by rfl,?_⟩) ?_ ?_
           rotate_left
           ·
            intro w'
            go_simp
            with_reducible rfl
           rotate_left
           ·
            simp only [pA]
            rfl
           refine pure_ (i:=12) (N:=some 141) (v:=?_) (a':=?_) #[Y,Y,Y,Y,Z,Y,Y,Y,Y,Z,Z,Z,Y,Z,Z,Z,Z] rfl rfl (by kernel_rfl) (fun _ _ _ h=>h) (Or.inl ⟨by rfl,?_⟩) ?_ ?_
           rotate_left
           ·
            intro w'
            go_simp
            with_reducible rfl
           rotate_left
           ·
            simp only [pA]
            rfl
           refine take_ (i:=4) (N:=some 133) (v:=?_) (a':=?_) #[Y,Y,Y,Y,Y,Y,Y,Y,Y,Z,Z,Z,Y,Z,Z,Z,Z] rfl rfl (by kernel_rfl) (fun _ _ _ h=>h) (Or.inl ⟨by rfl,?_⟩) hHeld ?_ ?_
           rotate_left
           ·
            rintro w' ⟨s0,s1⟩
            go_simp
            with_reducible rfl
           rotate_left
           ·
            simp only [pA]
            rfl
           refine take_ (i:=9) (N:=some 138) (v:=?_) (a':=?_) #[Y,Y,Y,Y,Y,Y,Y,Y,Y,Y,Z,Z,Y,Z,Z,Z,Z] rfl rfl (by kernel_rfl) (fun _ _ _ h=>h) (Or.inl ⟨by rfl,?_⟩) hHeld ?_ ?_
           rotate_left
           ·
            rintro w' ⟨s0,s1⟩
            go_simp
            with_reducible rfl
           rotate_left
           ·
            simp only [pA]
            rfl
           refine pure_ (i:=10) (N:=some 139) (v:=?_) (a':=?_) #[Y,Y,Y,Y,Y,Y,Y,Y,Y,Y,Y,Z,Y,Z,Z,Z,Z] rfl rfl (by kernel_rfl) (fun _ _ _ h=>h) (Or.inl ⟨by rfl,?_⟩) ?_ ?_
           rotate_left
           ·
            intro w'
            go_simp
            with_reducible rfl
           rotate_left
           ·
            simp only [pA]
            rfl
           refine take_ (i:=11) (N:=some 140) (v:=?_) (a':=?_) #[Y,Y,Y,Y,Y,Y,Y,Y,Y,Y,Y,Y,Y,Z,Z,Z,Z] rfl rfl (by kernel_rfl) (fun _ _ _ h=>h) (Or.inl ⟨by rfl,?_⟩) hHeld ?_ ?_
           rotate_left
           ·
            rintro w' ⟨s0,s1⟩
            go_simp
            with_reducible rfl
           rotate_left
           ·
            simp only [pA]
            rfl
           refine one_ (i:=13) (N:=some 142) #[Y,Y,Y,Y,Y,Y,Y,Y,Y,Y,Y,Y,Y,Y,Z,Z,Z] rfl rfl (by kernel_rfl) (by decide) (fun K hK=>?_)
           refine event_step (v:=.slice (some ⟨wq.heap.size,0,none⟩) 1 1) (w1:=wq.alloc (.cells #[.int .i64 x106_3] 2)) ?hg ?hr ?_;(case hg=>rfl);(case hr=>first|(go_simp;done)|(go_simp;rfl))
           refine hK.out _ _ ⟨((below_alloc (Below.refl _ _) _).cell (World.block_lt_of_cell? _ _ hHeld.1)).trans hHeld.1,((below_alloc (Below.refl _ _) _).cell (World.block_lt_of_cell? _ _ hHeld.2)).trans hHeld.2⟩ (fun hHeld=>?_)
           clear hK K
           refine nmA ?_
           refine one_ (i:=14) (N:=some 143) #[Y,Y,Y,Y,Y,Y,Y,Y,Y,Y,Y,Y,Y,Y,Y,Z,Z] rfl rfl (by kernel_rfl) (by decide) (fun K hK=>?_)
           refine Kd.R_append_step (Kd.int .i64) (W:=wq) (w0:=w) w.heap.size rfl (.tmp 140) (.tmp 142) 36 2 (.int .i64 0) 8 rfl Try.underlying36 info2 rfl (by decide) (by omega) (.slice Ar (rd_L4 y397 (rd y401 x106_3)).length cr) (rd_L4 y397 (rd y401 x106_3)) x106_3 [.int .i64 x106_3] (fun k_=>oki k_∨((some k_≠(.slice (some ⟨go61,0,none⟩) x22_3.length co61:Value).ownBlock∧some k_≠(.slice (some ad395) x8_2.length co55:Value).ownBlock)∧wq.heap.size≤k_)) (fun _=>False) rfl rfl rfl (fun _ hk=>hk.elim) (fun k_ hk=>.inr ⟨⟨Kd.fresh' (Kd.R_lt HO_22.out) k_ hk,Kd.fresh' (Kd.R_lt HO_104.out) k_ hk⟩,hk⟩) (Kd.R_mono HR900.out (fun _ hk=>.inl hk)) HB.out (below_size HB.out) (by have:=LMc68.out;omega) ?_
           intro v900 w901 ho hb hg hat
           have n0_:=Aside0.mk (Kd.R_mono (Kd.R_grown (Kd.R_tight rfl HO_22.out) hg (fun k_ e1 e2=>(HKI.out k_ (HR900.out.1 k_ e2.symm)).1.1 e1)) (fun k_ e1=>HO_22.out.1 k_ e1.symm))
           have n1_:=Aside0.mk (Kd.R_mono (Kd.R_grown (Kd.R_tight rfl HO_104.out) hg (fun k_ e1 e2=>(HKI.out k_ (HR900.out.1 k_ e2.symm)).1.2 e1)) (fun k_ e1=>HO_104.out.1 k_ e1.symm))
           have n2_:=Aside0.mk (Kd.H_grown (Kd.H_widen HH900.out) hg (fun k_ e_=>.inl (HR900.out.1 k_ e_)))
           obtain ⟨_,_,_,_,_,hcc_,_⟩:=Kd.H_raw n2_.out (of_eq_true p900) (of_eq_true q900)
           have hxo:=hcc_ 0 _ rfl
           rw [Nat.add_zero,show ((Kd.slice 2 (Kd.int .i64))).sz=1 from rfl,Nat.mul_one] at hxo
           have HR901:=Aside0.mk ho
           clear HO_22 HO_104 HB HH900 HR900 HKI hcc_ hHeld
           have HO_22:=n0_
           have HO_104:=n1_
           have HH900:=n2_
           have HB:=Aside0.mk hb
           clear n0_ n1_ n2_ hb ho hg hat
           refine hK.out _ _ ⟨(Kd.R_celln 0 HO_22.out (x106_3:Int) (of_eq_true p901) (of_eq_true q901)).1,hxo⟩ (fun hHeld=>?_)
           clear hK K hxo
           refine nmA ?_
           refine pure_ (i:=15) (N:=some 144) (v:=?_) (a':=?_) #[Y,Y,Y,Y,Y,Y,Y,Y,Y,Y,Y,Y,Y,Y,Y,Y,Z] rfl rfl (by kernel_rfl) (fun _ _ _ h=>h) (Or.inl ⟨by rfl,?_⟩) ?_ ?_
           rotate_left
           ·
            intro w'
            go_simp
            with_reducible rfl
           rotate_left
           ·
            simp only [pA]
            rfl
           refine last_ (i:=16) (N:=none) #[Y,Y,Y,Y,Y,Y,Y,Y,Y,Y,Y,Y,Y,Y,Y,Y,Y] rfl rfl (by kernel_rfl) (by decide) (fun K hK=>?_)
           refine H_store_step (Kd.slice 2 (Kd.int .i64)) (w0:=w) w.heap.size rfl rfl 36 (.tmp 144) (.tmp 143) rfl 36 (rd y401 x106_3) y397 ((rd_L4 y397 (rd y401 x106_3)) ++ [x106_3]) v900 [v900] _ _ _ (fun k_=>oki k_∨((some k_≠(.slice (some ⟨go61,0,none⟩) x22_3.length co61:Value).ownBlock∧some k_≠(.slice (some ad395) x8_2.length co55:Value).ownBlock)∧wq.heap.size≤k_)) (by rw [show ((Kd.slice 2 (Kd.int .i64))).sz=1 from rfl,Nat.mul_one];rfl) rfl (Kd.R_val HR901.out).1 (by kernel_rfl) (fun q_ hq_=>by rw [List.mem_singleton.1 hq_];exact (Kd.R_val HR901.out).2) rfl HH900.out (of_eq_true p900) (of_eq_true q900) ⟨v900,rfl,HR901.out⟩ (fun _ hk=>hk) HB.out ?_
           intro w902 hS2 hB2 hg2
           rw [← Ny405.out] at hS2
           have n0_:=Aside0.mk (Kd.R_mono (Kd.R_grown (Kd.R_tight rfl HO_22.out) hg2 (fun k_ e1 e2=>HNQ.out (e2.symm.trans e1))) (fun k_ e1=>HO_22.out.1 k_ e1.symm))
           have n1_:=Aside0.mk (Kd.R_mono (Kd.R_grown (Kd.R_tight rfl HO_104.out) hg2 (fun k_ e1 e2=>HLQ.out (e2.symm.trans e1))) (fun k_ e1=>HO_104.out.1 k_ e1.symm))
           have HO407:=Aside0.mk hS2
           clear HO_22 HO_104 HB HH900 HR901 hHeld
           have HO_22:=n0_
           have HO_104:=n1_
           have HB:=Aside0.mk hB2
           clear n0_ n1_ hS2 hB2 hg2 HNQ HLQ
           refine hK.out _ _ ?_
           clear hK K
           refine done_ (by kernel_rfl) ?_
           try go_wp2
           go_roundg k3
           case measure=>have:=HK1.out;have:=HK2.out;have:=HK3.out;omega
           case rel=>exact ⟨(y405),(y401),(wrap64 (x106_3+1)),hB,H',⟨by have:=HK1.out;have:=HK2.out;have:=HK3.out;omega⟩,⟨by (with_reducible repeat (first|apply Kd.S_alloc|apply Kd.S_drewN|apply Kd.S_drew));exact HO407.out⟩,⟨rA HO_22⟩,⟨by (with_reducible repeat (first|apply Kd.R_alloc|apply Kd.R_drewN|apply Kd.R_drew));exact Kd.R_mono HO_104.out (fun _ hk=>hk.2)⟩,⟨blA⟩⟩
          ·
           rw [if_neg c59] at H
           have c59b0:((rd x8_2 x106_3) == x106_3)=false:=beq_eq_false_iff_ne.mpr c59
           have c59b1:((rd x8_2 x106_3) != x106_3)=true:=bne_iff_ne.mpr c59
           by_cases c77:0≤(rd x8_2 x106_3)
           rotate_left
           ·
            rw [if_neg c77] at H
            exact absurd H (by simp)
           rw [if_pos c77] at H
           have c77b0:=decide_eq_true c77
           clear c77
           by_cases c78:(rd x8_2 x106_3)<(x22_3.length:Int)
           rotate_left
           ·
            rw [if_neg c78] at H
            exact absurd H (by simp)
           rw [if_pos c78] at H
           have c78b0:=decide_eq_true c78
           clear c78
           by_cases c79:x106_3<(x22_3.length:Int)
           rotate_left
           ·
            rw [if_neg c79] at H
            exact absurd H (by simp)
           rw [if_pos c79] at H
           have c79b0:=decide_eq_true c79
           clear c79
           obtain ⟨y409,hy409⟩:∃ y_:List Int,y_=(x22_3.set (x106_3:Int).toNat (rd x22_3 (rd x8_2 x106_3))):=⟨_,rfl⟩
           replace H:(if 0≤(rd y409 x106_3) then (if (rd y409 x106_3)<(x21_3.length:Int) then (if (rd_L4 x21_3 (rd y409 x106_3)).length<17592186044416 then (impl_classes.l4 k3 (x21_3.set ((rd y409 x106_3):Int).toNat (rd_L4 x21_3 (rd y409 x106_3) ++ [x106_3])) y409 x8_2 (x8_2.length:Int) (wrap64 (x106_3+1))) else (none)) else (none)) else (none))=some (r1,r2):=rH hy409 H
           have Ny409:=Aside0.mk hy409
           clear hy409
           by_cases c81:0≤(rd y409 x106_3)
           rotate_left
           ·
            rw [if_neg c81] at H
            exact absurd H (by simp)
           rw [if_pos c81] at H
           have c81b0:=decide_eq_true c81
           clear c81
           by_cases c82:(rd y409 x106_3)<(x21_3.length:Int)
           rotate_left
           ·
            rw [if_neg c82] at H
            exact absurd H (by simp)
           rw [if_pos c82] at H
           have c82b0:=decide_eq_true c82
           clear c82
           by_cases c83:(rd_L4 x21_3 (rd y409 x106_3)).length<17592186044416
           rotate_left
           ·
            rw [if_neg c83] at H
            exact absurd H (by simp)
           rw [if_pos c83] at H
           have LMc83:=Aside0.mk c83
           clear c83
           obtain ⟨y413,hy413⟩:∃ y_:List (List Int),y_=(x21_3.set ((rd y409 x106_3):Int).toNat (rd_L4 x21_3 (rd y409 x106_3) ++ [x106_3])):=⟨_,rfl⟩
           replace H:(impl_classes.l4 k3 y413 y409 x8_2 (x8_2.length:Int) (wrap64 (x106_3+1)))=some (r1,r2):=rH hy413 H
           have Ny413:=Aside0.mk hy413
           clear hy413
           have H':=Aside0.mk H
           clear H
           have p395:0≤(x106_3:Int):=dA
           have q395:x106_3<(x8_2.length:Int):=dA
           obtain ⟨ad395,e395,hx395_0⟩:=Kd.at_int (Kd.R_reads' HO_104.out).2.2 x106_3 p395 q395
           cases e395
           replace p395:=eq_true p395
           replace q395:=eq_true q395
           obtain ⟨Ao84,co84,eo84⟩:=Kd.R_slice HO_22.out
           subst eo84
           have p408:0≤((rd x8_2 x106_3):Int):=dA
           have q408:(rd x8_2 x106_3)<(x22_3.length:Int):=dA
           obtain ⟨ad408,e408,hx408_0⟩:=Kd.at_int (Kd.R_reads' HO_22.out).2.2 (rd x8_2 x106_3) p408 q408
           cases e408
           replace p408:=eq_true p408
           replace q408:=eq_true q408
           have p80:0≤(x106_3:Int):=dA
           have q80:(x106_3:Int)<((x22_3.length:Int):Int):=dA
           obtain ⟨go80,co80,eo80,gb80,gl80,cl80,HG80⟩:=Kd.R_form HO_22.out (by omega)
           (first|cases eo80|(injection eo80 with ea_ en_ ec_;(first|subst ea_|(injection ea_ with ea_;subst ea_));subst ec_;clear en_))
           have GB80:=Aside0.mk gb80
           have GG80:=Aside0.mk HG80
           clear gb80 gl80 HG80
           (first|simp only [add_plain] at hx408_0|skip)
           obtain ⟨hx80_0,hf80_0⟩:=Kd.R_celln 0 HO_22.out (x106_3:Int) p80 q80
           replace p80:=eq_true p80
           replace q80:=eq_true q80
           have HP85:=Kd.R_putg HO_22.out (x106_3:Int) (rd x22_3 (rd x8_2 x106_3))
           go_wp2_with (first|((with_reducible refine gate_store (t:=2) (p:=128) rfl ?_);refine store_event (t:=2) (p:=128) (v:=?vo_w86) (w1:=(wr.setCell ⟨go80,(x106_3:Int).toNat,none⟩ (.int .i64 (rd x22_3 (rd x8_2 x106_3))))) ?hg ?ho ?hn ?hr ?_;(case ho=>rfl);(case hg=>rfl);(case hn=>rfl);(case hr=>first|(go_simp;done)|(go_simp;rfl));intro w86 hw;have hg:wr.grownBy w86 (some go80):=(by rw [hw];exact HP85.2);have hp_:Kd.R (Kd.int .i64) 2 w86 w.heap.size (fun k_=>some k_≠(.slice (some ad395) x8_2.length co55:Value).ownBlock) (.slice (some ⟨go80,0,none⟩) x22_3.length co84) y409:=(by rw [hw,Ny409.out];exact HP85.1);clear HP85;have n0_:=Aside0.mk (Kd.S_after (v:=(.slice (some ⟨go80,0,none⟩) x22_3.length co84)) (v1:=(.slice (some ⟨go80,0,none⟩) x22_3.length co84)) (ok:=(fun k_=>some k_≠(.slice (some ad395) x8_2.length co55:Value).ownBlock)) (by (with_reducible repeat (first|apply Kd.S_alloc|apply Kd.S_drewN|apply Kd.S_drew));exact Kd.S_mono HO_21.out (fun _ hk=>⟨hk.2,hk.1⟩)) hg (.inl rfl));have n1_:=Aside0.mk (hp_);have n2_:=Aside0.mk (Kd.R_after (v:=(.slice (some ⟨go80,0,none⟩) x22_3.length co84)) (v1:=(.slice (some ⟨go80,0,none⟩) x22_3.length co84)) (ok:=(fun _=>True)) (by (with_reducible repeat (first|apply Kd.R_alloc|apply Kd.R_drewN|apply Kd.R_drew));exact Kd.R_mono HO_104.out (fun _ hk=>⟨trivial,hk⟩)) hg (.inl rfl));have n3_:=Aside0.mk ((by rw [hw];exact below_set (HB.out) GB80.out:Below w.heap.size w w86));clear HO_21;clear HO_22;clear HO_104;clear HB;have HO_21:=n0_;have HO_22:=n1_;have HO_104:=n2_;have HB:=n3_;clear n0_ n1_ n2_ n3_;clear hg hw hp_))
           try go_wp2
           have n0_:=Aside0.mk (Kd.R_drew HO_22.out)
           have n1_:=Aside0.mk (Kd.R_drew HO_104.out)
           have n2_:=Aside0.mk (show Kd.S (Kd.slice 2 (Kd.int .i64)) 36 _ w.heap.size (fun k_=>(some k_≠(.slice (some ⟨go80,0,none⟩) x22_3.length co84:Value).ownBlock∧some k_≠(.slice (some ad395) x8_2.length co55:Value).ownBlock)) _ x21_3 from Kd.S_mono (Kd.S_drew HO_21.out) (fun _ hk=>⟨hk.2,hk.1⟩))
           have n3_:=Aside0.mk (below_drew1 HB.out)
           clear HO_22 HO_104 HO_21 HB
           have HO_22:=n0_
           have HO_104:=n1_
           have HO_900:=n2_
           have HB:=n3_
           clear n0_ n1_ n2_ n3_
           have p900:0≤((rd y409 x106_3):Int):=dA
           have q900:(rd y409 x106_3)<(x21_3.length:Int):=dA
           have p901:0≤(x106_3:Int):=dA
           have q901:x106_3<(x22_3.length:Int):=dA
           obtain ⟨gq,cq,eq_,gbq,glq,clsq,clq⟩:=Kd.S_form HO_900.out (by omega)
           subst eq_
           have hxn:w86.drew.cell? ⟨go80,(x106_3:Int).toNat,none⟩=some (.int .i64 (rd y409 x106_3)):=(Kd.R_celln 0 HO_22.out (x106_3:Int) p901 q901).1
           obtain ⟨oki,cc_,hcl_,hM_,hcc_,hoki,hH⟩:=Kd.S_lend HO_900.out [] (rd y409 x106_3) p900 q900
           obtain ⟨vr,rfl,hR⟩:=hM_
           have hxo:=hcc_ 0 _ rfl
           rw [Nat.add_zero,show ((Kd.slice 2 (Kd.int .i64))).sz=1 from rfl,Nat.mul_one] at hxo
           replace hR:Kd.R (Kd.int .i64) 2 _ _ _ vr (rd_L4 x21_3 (rd y409 x106_3)):=hR
           obtain ⟨Ar,cr,rfl⟩:=Kd.R_slice hR
           have HNQ:=Aside0.mk (Kd.R_ne HO_22.out clq (by decide))
           have HLQ:=Aside0.mk (Kd.R_ne HO_104.out clq (by decide))
           have HR900:=Aside0.mk hR
           have HH900:=Aside0.mk hH
           have HKI:=Aside0.mk hoki
           have hxn_:=hxn
           have hxo_:=hxo
           clear hR hH hoki hcc_ hcl_ gbq glq clq clsq HO_900
           replace p900:=eq_true p900
           replace q900:=eq_true q900
           replace p901:=eq_true p901
           replace q901:=eq_true q901
           refine start_ (n:=17) (S:=fun w'=>w'.cell? ⟨go80,(x106_3:Int).toNat,none⟩=some (.int .i64 (rd y409 x106_3))∧w'.cell? ⟨gq,((rd y409 x106_3):Int).toNat,none⟩=some (.slice Ar (rd_L4 x21_3 (rd y409 x106_3)).length cr)) (ds:=[16]) #[Z,Z,Z,Z,Z,Z,Z,Z,Z,Z,Z,Z,Z,Z,Z,Z,Z] (by kernel_rfl) rfl rfl ⟨hxn,hxo⟩ (fun hHeld=>?_)
           clear hxn hxo hxn_ hxo_
           generalize w86.drew=wq at HO_22 HO_104 HB HR900 HH900 hHeld ⊢
           refine pure_ (i:=0) (N:=some 129) (v:=?_) (a':=?_) #[Y,Z,Z,Z,Z,Z,Z,Z,Z,Z,Z,Z,Z,Z,Z,Z,Z] rfl rfl (by kernel_rfl) (fun _ _ _ h=>h) (Or.inl ⟨by rfl,?_⟩) ?_ ?_
           rotate_left
           ·
            intro w'
            go_simp
            with_reducible rfl
           rotate_left
           ·
            simp only [pA]
            rfl
           refine pure_ (i:=1) (N:=some 130) (v:=?_) (a':=?_) #[Y,Y,Z,Z,Z,Z,Z,Z,Z,Z,Z,Z,Z,Z,Z,Z,Z] rfl rfl (by kernel_rfl) (fun _ _ _ h=>h) (Or.inl ⟨by rfl,?_⟩) ?_ ?_
           rotate_left
           ·
            intro w'
            go_simp
            with_reducible rfl
           rotate_left
           ·
            simp only [pA]
            rfl
           refine pure_ (i:=2) (N:=some 131) (v:=?_) (a':=?_) #[Y,Y,Y,Z,Z,Z,Z,Z,Z,Z,Z,Z,Z,Z,Z,Z,Z] rfl rfl (by kernel_rfl) (fun _ _ _ h=>h) (Or.inl ⟨by rfl,?_⟩) ?_ ?_
           rotate_left
           ·
            intro w'
            go_simp
            with_reducible rfl
           rotate_left
           ·
            simp only [pA]
            rfl
           refine pure_ (i:=3) (N:=some 132) (v:=?_) (a':=?_) #[Y,Y,Y,Y,Z,Z,Z,Z,Z,Z,Z,Z,Z,Z,Z,Z,Z] rfl rfl (by kernel_rfl) (fun _ _ _ h=>h) (Or.inl ⟨by rfl,?_⟩) ?_ ?_
           rotate_left
           ·
            intro w'
            go_simp
            with_reducible rfl
           rotate_left
           ·
            simp only [pA]
            rfl
           refine pure_ (i:=5) (N:=some 134) (v:=?_) (a':=?_) #[Y,Y,Y,Y,Z,Y,Z,Z,Z,Z,Z,Z,Z,Z,Z,Z,Z] rfl rfl (by kernel_rfl) (fun _ _ _ h=>h) (Or.inl ⟨by rfl,?_⟩) ?_ ?_
           rotate_left
           ·
            intro w'
            go_simp
            with_reducible rfl
           rotate_left
           ·
            simp only [pA]
            rfl
           refine pure_ (i:=6) (N:=some 135) (v:=?_) (a':=?_) #[Y,Y,Y,Y,Z,Y,Y,Z,Z,Z,Z,Z,Z,Z,Z,Z,Z] rfl rfl (by kernel_rfl) (fun _ _ _ h=>h) (Or.inl ⟨by rfl,?_⟩) ?_ ?_
           rotate_left
           ·
            intro w'
            go_simp
            with_reducible rfl
           rotate_left
           ·
            simp only [pA]
            rfl
           refine pure_ (i:=7) (N:=some 136) (v:=?_) (a':=?_) #[Y,Y,Y,Y,Z,Y,Y,Y,Z,Z,Z,Z,Z,Z,Z,Z,Z] rfl rfl (by kernel_rfl) (fun _ _ _ h=>h) (Or.inl ⟨by rfl,?_⟩) ?_ ?_
           rotate_left
           ·
            intro w'
            go_simp
            with_reducible rfl
           rotate_left
           ·
            simp only [pA]
            rfl
           refine pure_ (i:=8) (N:=some 137) (v:=?_) (a':=?_) #[Y,Y,Y,Y,Z,Y,Y,Y,Y,Z,Z,Z,Z,Z,Z,Z,Z] rfl rfl (by kernel_rfl) (fun _ _ _ h=>h) (Or.inl ⟨by rfl,?_⟩) ?_ ?_
           rotate_left
           ·
            intro w'
            go_simp
            with_reducible rfl
           rotate_left
           ·
            simp only [pA]
            rfl
           refine pure_ (i:=12) (N:=some 141) (v:=?_) (a':=?_) #[Y,Y,Y,Y,Z,Y,Y,Y,Y,Z,Z,Z,Y,Z,Z,Z,Z] rfl rfl (by kernel_rfl) (fun _ _ _ h=>h) (Or.inl ⟨by rfl,?_⟩) ?_ ?_
           rotate_left
           ·
            intro w'
            go_simp
            with_reducible rfl
           rotate_left
           ·
            simp only [pA]
            rfl
           refine take_ (i:=4) (N:=some 133) (v:=?_) (a':=?_) #[Y,Y,Y,Y,Y,Y,Y,Y,Y,Z,Z,Z,Y,Z,Z,Z,Z] rfl rfl (by kernel_rfl) (fun _ _ _ h=>h) (Or.inl ⟨by rfl,?_⟩) hHeld ?_ ?_
           rotate_left
           ·
            rintro w' ⟨s0,s1⟩
            go_simp
            with_reducible rfl
           rotate_left
           ·
            simp only [pA]
            rfl
           refine take_ (i:=9) (N:=some 138) (v:=?_) (a':=?_) #[Y,Y,Y,Y,Y,Y,Y,Y,Y,Y,Z,Z,Y,Z,Z,Z,Z] rfl rfl (by kernel_rfl) (fun _ _ _ h=>h) (Or.inl ⟨by rfl,?_⟩) hHeld ?_ ?_
           rotate_left
           ·
            rintro w' ⟨s0,s1⟩
            go_simp
            with_reducible rfl
           rotate_left
           ·
            simp only [pA]
            rfl
           refine pure_ (i:=10) (N:=some 139) (v:=?_) (a':=?_) #[Y,Y,Y,Y,Y,Y,Y,Y,Y,Y,Y,Z,Y,Z,Z,Z,Z] rfl rfl (by kernel_rfl) (fun _ _ _ h=>h) (Or.inl ⟨by rfl,?_⟩) ?_ ?_
           rotate_left
           ·
            intro w'
            go_simp
            with_reducible rfl
           rotate_left
           ·
            simp only [pA]
            rfl
           refine take_ (i:=11) (N:=some 140) (v:=?_) (a':=?_) #[Y,Y,Y,Y,Y,Y,Y,Y,Y,Y,Y,Y,Y,Z,Z,Z,Z] rfl rfl (by kernel_rfl) (fun _ _ _ h=>h) (Or.inl ⟨by rfl,?_⟩) hHeld ?_ ?_
           rotate_left
           ·
            rintro w' ⟨s0,s1⟩
            go_simp
            with_reducible rfl
           rotate_left
           ·
            simp only [pA]
            rfl
           refine one_ (i:=13) (N:=some 142) #[Y,Y,Y,Y,Y,Y,Y,Y,Y,Y,Y,Y,Y,Y,Z,Z,Z] rfl rfl (by kernel_rfl) (by decide) (fun K hK=>?_)
           refine event_step (v:=.slice (some ⟨wq.heap.size,0,none⟩) 1 1) (w1:=wq.alloc (.cells #[.int .i64 x106_3] 2)) ?hg ?hr ?_;(case hg=>rfl);(case hr=>first|(go_simp;done)|(go_simp;rfl))
           refine hK.out _ _ ⟨((below_alloc (Below.refl _ _) _).cell (World.block_lt_of_cell? _ _ hHeld.1)).trans hHeld.1,((below_alloc (Below.refl _ _) _).cell (World.block_lt_of_cell? _ _ hHeld.2)).trans hHeld.2⟩ (fun hHeld=>?_)
           clear hK K
           refine nmA ?_
           refine one_ (i:=14) (N:=some 143) #[Y,Y,Y,Y,Y,Y,Y,Y,Y,Y,Y,Y,Y,Y,Y,Z,Z] rfl rfl (by kernel_rfl) (by decide) (fun K hK=>?_)
           refine Kd.R_append_step (Kd.int .i64) (W:=wq) (w0:=w) w.heap.size rfl (.tmp 140) (.tmp 142) 36 2 (.int .i64 0) 8 rfl Try.underlying36 info2 rfl (by decide) (by omega) (.slice Ar (rd_L4 x21_3 (rd y409 x106_3)).length cr) (rd_L4 x21_3 (rd y409 x106_3)) x106_3 [.int .i64 x106_3] (fun k_=>oki k_∨((some k_≠(.slice (some ⟨go80,0,none⟩) x22_3.length co84:Value).ownBlock∧some k_≠(.slice (some ad395) x8_2.length co55:Value).ownBlock)∧wq.heap.size≤k_)) (fun _=>False) rfl rfl rfl (fun _ hk=>hk.elim) (fun k_ hk=>.inr ⟨⟨Kd.fresh' (Kd.R_lt HO_22.out) k_ hk,Kd.fresh' (Kd.R_lt HO_104.out) k_ hk⟩,hk⟩) (Kd.R_mono HR900.out (fun _ hk=>.inl hk)) HB.out (below_size HB.out) (by have:=LMc83.out;omega) ?_
           intro v900 w901 ho hb hg hat
           have n0_:=Aside0.mk (Kd.R_mono (Kd.R_grown (Kd.R_tight rfl HO_22.out) hg (fun k_ e1 e2=>(HKI.out k_ (HR900.out.1 k_ e2.symm)).1.1 e1)) (fun k_ e1=>HO_22.out.1 k_ e1.symm))
           have n1_:=Aside0.mk (Kd.R_mono (Kd.R_grown (Kd.R_tight rfl HO_104.out) hg (fun k_ e1 e2=>(HKI.out k_ (HR900.out.1 k_ e2.symm)).1.2 e1)) (fun k_ e1=>HO_104.out.1 k_ e1.symm))
           have n2_:=Aside0.mk (Kd.H_grown (Kd.H_widen HH900.out) hg (fun k_ e_=>.inl (HR900.out.1 k_ e_)))
           obtain ⟨_,_,_,_,_,hcc_,_⟩:=Kd.H_raw n2_.out (of_eq_true p900) (of_eq_true q900)
           have hxo:=hcc_ 0 _ rfl
           rw [Nat.add_zero,show ((Kd.slice 2 (Kd.int .i64))).sz=1 from rfl,Nat.mul_one] at hxo
           have HR901:=Aside0.mk ho
           clear HO_22 HO_104 HB HH900 HR900 HKI hcc_ hHeld
           have HO_22:=n0_
           have HO_104:=n1_
           have HH900:=n2_
           have HB:=Aside0.mk hb
           clear n0_ n1_ n2_ hb ho hg hat
           refine hK.out _ _ ⟨(Kd.R_celln 0 HO_22.out (x106_3:Int) (of_eq_true p901) (of_eq_true q901)).1,hxo⟩ (fun hHeld=>?_)
           clear hK K hxo
           refine nmA ?_
           refine pure_ (i:=15) (N:=some 144) (v:=?_) (a':=?_) #[Y,Y,Y,Y,Y,Y,Y,Y,Y,Y,Y,Y,Y,Y,Y,Y,Z] rfl rfl (by kernel_rfl) (fun _ _ _ h=>h) (Or.inl ⟨by rfl,?_⟩) ?_ ?_
           rotate_left
           ·
            intro w'
            go_simp
            with_reducible rfl
           rotate_left
           ·
            simp only [pA]
            rfl
           refine last_ (i:=16) (N:=none) #[Y,Y,Y,Y,Y,Y,Y,Y,Y,Y,Y,Y,Y,Y,Y,Y,Y] rfl rfl (by kernel_rfl) (by decide) (fun K hK=>?_)
           refine H_store_step (Kd.slice 2 (Kd.int .i64)) (w0:=w) w.heap.size rfl rfl 36 (.tmp 144) (.tmp 143) rfl 36 (rd y409 x106_3) x21_3 ((rd_L4 x21_3 (rd y409 x106_3)) ++ [x106_3]) v900 [v900] _ _ _ (fun k_=>oki k_∨((some k_≠(.slice (some ⟨go80,0,none⟩) x22_3.length co84:Value).ownBlock∧some k_≠(.slice (some ad395) x8_2.length co55:Value).ownBlock)∧wq.heap.size≤k_)) (by rw [show ((Kd.slice 2 (Kd.int .i64))).sz=1 from rfl,Nat.mul_one];rfl) rfl (Kd.R_val HR901.out).1 (by kernel_rfl) (fun q_ hq_=>by rw [List.mem_singleton.1 hq_];exact (Kd.R_val HR901.out).2) rfl HH900.out (of_eq_true p900) (of_eq_true q900) ⟨v900,rfl,HR901.out⟩ (fun _ hk=>hk) HB.out ?_
           intro w902 hS2 hB2 hg2
           rw [← Ny413.out] at hS2
           have n0_:=Aside0.mk (Kd.R_mono (Kd.R_grown (Kd.R_tight rfl HO_22.out) hg2 (fun k_ e1 e2=>HNQ.out (e2.symm.trans e1))) (fun k_ e1=>HO_22.out.1 k_ e1.symm))
           have n1_:=Aside0.mk (Kd.R_mono (Kd.R_grown (Kd.R_tight rfl HO_104.out) hg2 (fun k_ e1 e2=>HLQ.out (e2.symm.trans e1))) (fun k_ e1=>HO_104.out.1 k_ e1.symm))
           have HO415:=Aside0.mk hS2
           clear HO_22 HO_104 HB HH900 HR901 hHeld
           have HO_22:=n0_
           have HO_104:=n1_
           have HB:=Aside0.mk hB2
           clear n0_ n1_ hS2 hB2 hg2 HNQ HLQ
           refine hK.out _ _ ?_
           clear hK K
           refine done_ (by kernel_rfl) ?_
           try go_wp2
           go_roundg k3
           case measure=>have:=HK1.out;have:=HK2.out;have:=HK3.out;omega
           case rel=>exact ⟨(y413),(y409),(wrap64 (x106_3+1)),hB,H',⟨by have:=HK1.out;have:=HK2.out;have:=HK3.out;omega⟩,⟨by (with_reducible repeat (first|apply Kd.S_alloc|apply Kd.S_drewN|apply Kd.S_drew));exact HO415.out⟩,⟨rA HO_22⟩,⟨by (with_reducible repeat (first|apply Kd.R_alloc|apply Kd.R_drewN|apply Kd.R_drew));exact Kd.R_mono HO_104.out (fun _ hk=>hk.2)⟩,⟨blA⟩⟩
         ·
          rw [if_neg c56] at H
          have c56b0:=decide_eq_false c56
          clear c56
          simp only [Option.some.injEq,Prod.mk.injEq] at H
          obtain ⟨rfl,rfl⟩:=H
          go_wp2
          go_ret2
          exact ⟨_,_,eW,by (with_reducible repeat (first|apply Kd.S_alloc|apply Kd.S_drewN|apply Kd.S_drew));exact Kd.S_mono HO_21.out (fun _ hk=>hk.1),by (with_reducible repeat (first|apply Kd.R_alloc|apply Kd.R_drewN|apply Kd.R_drew));exact Kd.R_mono HO_22.out (fun _ hk=>trivial),blA⟩
end Go.Proofs.Ytnhiehpbkimaeaa.PAll
