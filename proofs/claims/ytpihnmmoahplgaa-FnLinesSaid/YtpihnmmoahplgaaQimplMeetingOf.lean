import Derived.Test.YtpihnmmoahplgaaQx
import Derived.Test.YtpihnmmoahplgaaQimplgap
import Derived.Test.YtpihnmmoahplgaaQimpltimes
import Derived.Test.YtpihnmmoahplgaaQspecMeetingOf
import Derived.Test.YtpihnmmoahplgaaQspecl01End
import Derived.Test.YtpihnmmoahplgaaQspecl05Code
namespace Go.Proofs.Ytpihnmmoahplgaa.PAll
open Go.RowKit Go.Proofs.YtpihnmmoahplgaaW.PrintWords Go.Proofs.YtpihnmmoahplgaaW.PrintLast Go.Proofs.YtpihnmmoahplgaaW.PrintMore
attribute [local go_sem] Go.Proofs.Ytpihnmmoahplgaa.Aux.setCell_drewN Go.Proofs.Ytpihnmmoahplgaa.Aux.isSome_setCell Go.Proofs.Ytpihnmmoahplgaa.Aux.max_eight bq bo cG cF ba bZ bp bm
set_option linter.unusedVariables false
set_option linter.unusedSimpArgs false
def aC.fin (k:Nat) (p n d g:Int):Option (Int × Int × Int × Int):=(bz.f k p n d g).bind fun b=>dH.f b.1 b.2.1 b.2.2.1 b.2.2.2
def aC.tail (k:Nat) (p:Int) (n:Nat) (x0 x1 x2 x3 x4 x5 v:Int):Option (Int × Int × Int × Int):=(bh.f k p x2 x3 x0 x1).bind fun u=>if v<u then none else if n=2 then aC.fin k p x0 x1 v else (bh.f k p x4 x5 x0 x1).bind fun x=>(bh.f k p x4 x5 x2 x3).bind fun y=>if v<x then (if x<y then aC.fin k p x4 x5 y else aC.fin k p x4 x5 x) else (if v<y then aC.fin k p x4 x5 y else aC.fin k p x0 x1 v)
def aC.two (k:Nat) (p a0 a1 b0 b1:Int):Option (Int × Int × Int × Int):=(bh.f k p a0 a1 b0 b1).bind fun v=>aC.tail k p 2 a0 a1 b0 b1 0 0 v
def aC.three (k:Nat) (p e0 e1 f0 f1 g0 g1:Int):Option (Int × Int × Int × Int):=(bh.f k p e0 e1 f0 f1).bind fun v=>aC.tail k p 3 e0 e1 f0 f1 g0 g1 v
def aC.main (k:Nat) (p e0 e1 f0 f1 g0 g1:Int):Option (Int × Int × Int × Int):=if e1=0 then (if f1=0∨g1=0 then none else aC.two k p f0 f1 g0 g1) else if f1=0 then (if g1=0 then none else aC.two k p e0 e1 g0 g1) else if g1=0 then aC.two k p e0 e1 f0 f1 else aC.three k p e0 e1 f0 f1 g0 g1
def aC.f (k:Nat) (p e0 e1 f0 f1 g0 g1:Int):Option (Int × Int × Int × Int):=(av.f p).bind fun t=>if t=true then (bL.f k [⟨e0,e1⟩,⟨f0,f1⟩,⟨g0,g1⟩]).bind fun u=>(if u=true then (bI.f k [⟨e0,e1⟩,⟨f0,f1⟩,⟨g0,g1⟩]).bind fun z=>(if z=true then aC.main k p e0 e1 f0 f1 g0 g1 else some (0,0,0,5)) else some (0,0,0,1)) else some (0,0,0,1)
structure aC.Pa (w0 w:World) (e0 e1 f0 f1 g0 g1:Int) (ge gf gg gr:Nat):Prop where
 e:w.heap[ge]?=some (.cells #[.int .i64 e0,.int .i64 e1] 28 (0,0))
 f:w.heap[gf]?=some (.cells #[.int .i64 f0,.int .i64 f1] 28 (0,0))
 g:w.heap[gg]?=some (.cells #[.int .i64 g0,.int .i64 g1] 28 (0,0))
 r:w.heap[gr]?=some (.cells #[.int .i64 0,.int .i64 0,.int .i64 0] 25 (0,0))
 i:w0.heap.size≤gr
 b:Below w0.heap.size w0 w
theorem aC.Pa.step {w0 w w1:World} {e0 e1 f0 f1 g0 g1:Int} {ge gf gg gr:Nat} (h:aA (aC.Pa w0 w e0 e1 f0 f1 g0 g1 ge gf gg gr)) (hb:Below w.heap.size w w1):aA (aC.Pa w0 w1 e0 e1 f0 f1 g0 g1 ge gf gg gr):=⟨⟨aE h.out.e hb,aE h.out.f hb,aE h.out.g hb,aE h.out.r hb,h.out.i,ai h.out.b hb⟩⟩
theorem aC.Pa.cells {w0 w:World} {e0 e1 f0 f1 g0 g1:Int} {ge gf gg gr:Nat} (h:aA (aC.Pa w0 w e0 e1 f0 f1 g0 g1 ge gf gg gr)):w.cell? ⟨ge,0,none⟩=some (.int .i64 e0)∧w.cell? ⟨ge,1,none⟩=some (.int .i64 e1)∧w.cell? ⟨gf,0,none⟩=some (.int .i64 f0)∧w.cell? ⟨gf,1,none⟩=some (.int .i64 f1)∧w.cell? ⟨gg,0,none⟩=some (.int .i64 g0)∧w.cell? ⟨gg,1,none⟩=some (.int .i64 g1):=⟨aT h.out.e 0,aT h.out.e 1,aT h.out.f 0,aT h.out.f 1,aT h.out.g 0,aT h.out.g 1⟩
theorem aC.res {w:World} {gr:Nat} {a b c:Int} (h:aA (w.heap[gr]?=some (.cells #[.int .i64 a,.int .i64 b,.int .i64 c] 25 (0,0)))):w.cell? ⟨gr,0,none⟩=some (.int .i64 a)∧w.cell? ⟨gr,1,none⟩=some (.int .i64 b)∧w.cell? ⟨gr,2,none⟩=some (.int .i64 c)∧w.frozen? ⟨gr,0,none⟩=false∧w.frozen? ⟨gr,1,none⟩=false∧w.frozen? ⟨gr,2,none⟩=false:=⟨aT h.out 0,aT h.out 1,aT h.out 2,aQ h.out 0,aQ h.out 1,aQ h.out 2⟩
theorem aC.nm {A B:World→Prop} {W:World} (h:A W) (k:∀ w',A w'→B w'):B W:=k W h
theorem aC.lt {w:World} {g g':Nat} {o:Obj} (h:w.heap[g]?=some o) (hg:g'=w.heap.size):g<g':=by rw [hg];exact (Array.getElem?_eq_some_iff.mp h).1
def aC.HJ (cur:Array Value) (x0 x1 x2 x3 x4 x5:Int):Prop:=cur[0]?=some (.int .i64 x0)∧cur[1]?=some (.int .i64 x1)∧cur[2]?=some (.int .i64 x2)∧cur[3]?=some (.int .i64 x3)∧cur[4]?=some (.int .i64 x4)∧cur[5]?=some (.int .i64 x5)
theorem aC.jc {x0 x1 x2 x3 x4 x5:Int} {g:Nat} {cur:Array Value} {w:World} (h:aA (w.heap[g]?=some (.cells cur 28 (0,0)))) (j:aA (aC.HJ cur x0 x1 x2 x3 x4 x5)):w.cell? ⟨g,0,none⟩=some (.int .i64 x0)∧w.cell? ⟨g,1,none⟩=some (.int .i64 x1)∧w.cell? ⟨g,2,none⟩=some (.int .i64 x2)∧w.cell? ⟨g,3,none⟩=some (.int .i64 x3)∧w.cell? ⟨g,4,none⟩=some (.int .i64 x4)∧w.cell? ⟨g,5,none⟩=some (.int .i64 x5):=⟨(aT h.out 0).trans j.out.1,(aT h.out 1).trans j.out.2.1,(aT h.out 2).trans j.out.2.2.1,(aT h.out 3).trans j.out.2.2.2.1,(aT h.out 4).trans j.out.2.2.2.2.1,(aT h.out 5).trans j.out.2.2.2.2.2⟩
set_option maxHeartbeats 8000000 in
set_option maxRecDepth 100000 in
theorem aC.p (n d:Int) (w:World):Calls Try.prog 35 #[.agg #[.int .i64 n,.int .i64 d]] w fun e w'=>e=.returned (.bool (d == 0))∧Below w.heap.size w w':=by
 have HB:=aA.mk (Below.refl w.heap.size w)
 go_enter Try.func35,Try.ntmps35
 go_wp2
 go_ret
 exact ⟨rfl,by repeat (first|(with_reducible exact HB.out)|apply a6|apply ay|apply aV)⟩
def aC.ixr (x1 x3 x5:Int):Int:=if (x1 == 0)=true then 0 else if (x3 == 0)=true then 1 else if (x5 == 0)=true then 2 else -1
set_option maxHeartbeats 8000000 in
set_option maxRecDepth 100000 in
theorem aC.ix (x0 x1 x2 x3 x4 x5:Int) (g c:Nat) (cur:Array Value) (w:World) (HG:aA (w.heap[g]?=some (.cells cur 28 (0,0)))) (HJ:aA (aC.HJ cur x0 x1 x2 x3 x4 x5)) (r:Int) (hr:aC.ixr x1 x3 x5=r) :
  Calls Try.prog 74 #[.slice (some ⟨g,0,none⟩) 3 c,.func (.func 35) #[] #[]] w fun e w'=>e=.returned (.int .i64 r)∧Below w.heap.size w w':=by
 subst hr
 have HB:=aA.mk (Below.refl w.heap.size w)
 obtain ⟨c0,c1,c2,c3,c4,c5⟩:=aC.jc HG HJ
 unfold aC.ixr
 cases z1:x1 == 0
 case true=>
  rw [if_pos rfl]
  go_enter Try.func74,Try.ntmps74
  go_wp2
  refine wp_loop_rounds 4 ?_
  rw [rounds_succ]
  go_wp2_with (go_at_call 35;refine (aC.p _ _ _).mono ?_;rintro e w2 ⟨rfl,hb⟩;replace HG:=aA.mk (aE HG.out hb);replace HB:=aA.mk (ai HB.out hb);clear hb c0 c1 c2 c3 c4 c5;obtain ⟨c0,c1,c2,c3,c4,c5⟩:=aC.jc HG HJ)
  go_ret
  exact ⟨rfl,by repeat (first|(with_reducible exact HB.out)|apply a6|apply ay|apply aV)⟩
 rw [if_neg (by decide)]
 cases z3:x3 == 0
 case true=>
  rw [if_pos rfl]
  go_enter Try.func74,Try.ntmps74
  go_wp2
  refine wp_loop_rounds 4 ?_
  rw [rounds_succ]
  go_wp2_with (go_at_call 35;refine (aC.p _ _ _).mono ?_;rintro e w2 ⟨rfl,hb⟩;replace HG:=aA.mk (aE HG.out hb);replace HB:=aA.mk (ai HB.out hb);clear hb c0 c1 c2 c3 c4 c5;obtain ⟨c0,c1,c2,c3,c4,c5⟩:=aC.jc HG HJ)
  rw [rounds_succ]
  go_wp2_with (go_at_call 35;refine (aC.p _ _ _).mono ?_;rintro e w2 ⟨rfl,hb⟩;replace HG:=aA.mk (aE HG.out hb);replace HB:=aA.mk (ai HB.out hb);clear hb c0 c1 c2 c3 c4 c5;obtain ⟨c0,c1,c2,c3,c4,c5⟩:=aC.jc HG HJ)
  go_ret
  exact ⟨rfl,by repeat (first|(with_reducible exact HB.out)|apply a6|apply ay|apply aV)⟩
 rw [if_neg (by decide)]
 cases z5:x5 == 0
 case true=>
  rw [if_pos rfl]
  go_enter Try.func74,Try.ntmps74
  go_wp2
  refine wp_loop_rounds 4 ?_
  rw [rounds_succ]
  go_wp2_with (go_at_call 35;refine (aC.p _ _ _).mono ?_;rintro e w2 ⟨rfl,hb⟩;replace HG:=aA.mk (aE HG.out hb);replace HB:=aA.mk (ai HB.out hb);clear hb c0 c1 c2 c3 c4 c5;obtain ⟨c0,c1,c2,c3,c4,c5⟩:=aC.jc HG HJ)
  rw [rounds_succ]
  go_wp2_with (go_at_call 35;refine (aC.p _ _ _).mono ?_;rintro e w2 ⟨rfl,hb⟩;replace HG:=aA.mk (aE HG.out hb);replace HB:=aA.mk (ai HB.out hb);clear hb c0 c1 c2 c3 c4 c5;obtain ⟨c0,c1,c2,c3,c4,c5⟩:=aC.jc HG HJ)
  rw [rounds_succ]
  go_wp2_with (go_at_call 35;refine (aC.p _ _ _).mono ?_;rintro e w2 ⟨rfl,hb⟩;replace HG:=aA.mk (aE HG.out hb);replace HB:=aA.mk (ai HB.out hb);clear hb c0 c1 c2 c3 c4 c5;obtain ⟨c0,c1,c2,c3,c4,c5⟩:=aC.jc HG HJ)
  go_ret
  exact ⟨rfl,by repeat (first|(with_reducible exact HB.out)|apply a6|apply ay|apply aV)⟩
 rw [if_neg (by decide)]
 go_enter Try.func74,Try.ntmps74
 go_wp2
 refine wp_loop_rounds 4 ?_
 rw [rounds_succ]
 go_wp2_with (go_at_call 35;refine (aC.p _ _ _).mono ?_;rintro e w2 ⟨rfl,hb⟩;replace HG:=aA.mk (aE HG.out hb);replace HB:=aA.mk (ai HB.out hb);clear hb c0 c1 c2 c3 c4 c5;obtain ⟨c0,c1,c2,c3,c4,c5⟩:=aC.jc HG HJ)
 rw [rounds_succ]
 go_wp2_with (go_at_call 35;refine (aC.p _ _ _).mono ?_;rintro e w2 ⟨rfl,hb⟩;replace HG:=aA.mk (aE HG.out hb);replace HB:=aA.mk (ai HB.out hb);clear hb c0 c1 c2 c3 c4 c5;obtain ⟨c0,c1,c2,c3,c4,c5⟩:=aC.jc HG HJ)
 rw [rounds_succ]
 go_wp2_with (go_at_call 35;refine (aC.p _ _ _).mono ?_;rintro e w2 ⟨rfl,hb⟩;replace HG:=aA.mk (aE HG.out hb);replace HB:=aA.mk (ai HB.out hb);clear hb c0 c1 c2 c3 c4 c5;obtain ⟨c0,c1,c2,c3,c4,c5⟩:=aC.jc HG HJ)
 rw [rounds_succ]
 go_wp2
 go_ret
 exact ⟨rfl,by repeat (first|(with_reducible exact HB.out)|apply a6|apply ay|apply aV)⟩
def aC.Jt (w0:World) (g:Nat) (y0 y1 y2 y3 y4 y5:Int) (W:World):Prop:=∃ cur:Array Value,aA (W.heap[g]?=some (.cells cur 28 (0,0)))∧aA (aC.HJ cur y0 y1 y2 y3 y4 y5)∧aA (Below w0.heap.size w0 W)
theorem aC.put0 {x0 x1 x2 x3 x4 x5 a b:Int} {g:Nat} {cur:Array Value} {w0 w:World} (HG:aA (w.heap[g]?=some (.cells cur 28 (0,0)))) (HJ:aA (aC.HJ cur x0 x1 x2 x3 x4 x5)) (hbg:w0.heap.size≤g) (HB:aA (Below w0.heap.size w0 w)):aC.Jt w0 g a b x2 x3 x4 x5 ((w.setCell ⟨g,0,none⟩ (.int .i64 a)).setCell ⟨g,1,none⟩ (.int .i64 b)):=by
 obtain ⟨j0,j1,j2,j3,j4,j5⟩:=HJ.out
 have s0:=(Array.getElem?_eq_some_iff.mp j0).1
 have s1:=(Array.getElem?_eq_some_iff.mp j1).1
 refine ⟨(cur.setIfInBounds 0 (.int .i64 a)).setIfInBounds 1 (.int .i64 b),⟨bE (bE HG.out 0 _ rfl) 1 _ rfl⟩,⟨?_⟩,⟨al (al HB.out hbg) hbg⟩⟩
 unfold aC.HJ
 simp [Array.getElem?_setIfInBounds,s0,s1,j2,j3,j4,j5]
theorem aC.put2 {x0 x1 x2 x3 x4 x5 a b:Int} {g:Nat} {cur:Array Value} {w0 w:World} (HG:aA (w.heap[g]?=some (.cells cur 28 (0,0)))) (HJ:aA (aC.HJ cur x0 x1 x2 x3 x4 x5)) (hbg:w0.heap.size≤g) (HB:aA (Below w0.heap.size w0 w)):aC.Jt w0 g x0 x1 a b x4 x5 ((w.setCell ⟨g,2,none⟩ (.int .i64 a)).setCell ⟨g,3,none⟩ (.int .i64 b)):=by
 obtain ⟨j0,j1,j2,j3,j4,j5⟩:=HJ.out
 have s0:=(Array.getElem?_eq_some_iff.mp j2).1
 have s1:=(Array.getElem?_eq_some_iff.mp j3).1
 refine ⟨(cur.setIfInBounds 2 (.int .i64 a)).setIfInBounds 3 (.int .i64 b),⟨bE (bE HG.out 2 _ rfl) 3 _ rfl⟩,⟨?_⟩,⟨al (al HB.out hbg) hbg⟩⟩
 unfold aC.HJ
 simp [Array.getElem?_setIfInBounds,s0,s1,j0,j1,j4,j5]
theorem aC.put4 {x0 x1 x2 x3 x4 x5 a b:Int} {g:Nat} {cur:Array Value} {w0 w:World} (HG:aA (w.heap[g]?=some (.cells cur 28 (0,0)))) (HJ:aA (aC.HJ cur x0 x1 x2 x3 x4 x5)) (hbg:w0.heap.size≤g) (HB:aA (Below w0.heap.size w0 w)):aC.Jt w0 g x0 x1 x2 x3 a b ((w.setCell ⟨g,4,none⟩ (.int .i64 a)).setCell ⟨g,5,none⟩ (.int .i64 b)):=by
 obtain ⟨j0,j1,j2,j3,j4,j5⟩:=HJ.out
 have s0:=(Array.getElem?_eq_some_iff.mp j4).1
 have s1:=(Array.getElem?_eq_some_iff.mp j5).1
 refine ⟨(cur.setIfInBounds 4 (.int .i64 a)).setIfInBounds 5 (.int .i64 b),⟨bE (bE HG.out 4 _ rfl) 5 _ rfl⟩,⟨?_⟩,⟨al (al HB.out hbg) hbg⟩⟩
 unfold aC.HJ
 simp [Array.getElem?_setIfInBounds,s0,s1,j0,j1,j2,j3]
theorem aC.clr (w:World) (g o c:Nat) (ty:TypeId) (hc:∀ j,j<2→(w.cell? ⟨g,o+j,none⟩).isSome=true) (hf:∀ j,j<2→w.frozen? ⟨g,o+j,none⟩=false) :
  (Builtin.clear_ #[63] ty #[.slice (some ⟨g,o,none⟩) 1 c]).run Try.prog w=.ok (.tuple #[]) (w.setCells g o [.int .i64 0,.int .i64 0]):=by
 have ht:Try.prog.underlying 63=some (.slice 28):=by kernel_rfl
 have hv:∀ w,(zeroValue 28).run Try.prog w=.ok (.agg #[.int .i64 0,.int .i64 0]) w:=fun w=>by go_simp
 have hst:=run_storeCells_cells (P:=Try.prog) g o [.int .i64 0,.int .i64 0] 0 w (by simpa using hc) (by simpa using hf) (by intro v hv';simp at hv';subst hv';rfl)
 simp only [Nat.add_zero] at hst
 have hz:(Builtin.zeroCells (Value.cells (.agg #[.int .i64 0,.int .i64 0])) 1).toList=[.int .i64 0,.int .i64 0]:=by first|decide|kernel_rfl|(simp [Builtin.zeroCells,Value.cells];done)|(apply List.ext_getElem <;> simp [Builtin.zeroCells,Value.cells])
 simp [Builtin.clear_,run_underlying ht,hv,hz,hst]
theorem aC.clr4 {cur:Array Value} {x0 x1 x2 x3 x4 x5:Int} (w:World) (g c:Nat) (ty:TypeId) (HG:aA (w.heap[g]?=some (.cells cur 28 (0,0)))) (HJ:aA (aC.HJ cur x0 x1 x2 x3 x4 x5)) :
  (Builtin.clear_ #[63] ty #[.slice (some ⟨g,4,none⟩) 1 c]).run Try.prog w=.ok (.tuple #[]) ((w.setCell ⟨g,4,none⟩ (.int .i64 0)).setCell ⟨g,5,none⟩ (.int .i64 0)):=by
 obtain ⟨c0,c1,c2,c3,c4,c5⟩:=aC.jc HG HJ
 rw [aC.clr w g 4 c ty (fun j hj=>by
  rcases (show j=0∨j=1 by omega) with rfl|rfl
  ·
   rw [show (4+0:Nat)=4 from rfl,c4];rfl
  ·
   rw [show (4+1:Nat)=5 from rfl,c5];rfl) (fun j _=>aQ HG.out _)]
 rfl
set_option maxHeartbeats 8000000 in
set_option maxRecDepth 100000 in
theorem aC.del0 (x0 x1 x2 x3 x4 x5:Int) (g c:Nat) (cur:Array Value) (w0 w:World) (hc3:3≤c) (hcm:c≤1000) (HG:aA (w.heap[g]?=some (.cells cur 28 (0,0)))) (HJ:aA (aC.HJ cur x0 x1 x2 x3 x4 x5)) (hbg:w0.heap.size≤g) (HB:aA (Below w0.heap.size w0 w)) (z1:(x1 == 0)=true) (z3:(x3 == 0)=false) (z5:(x5 == 0)=false) :
  Calls Try.prog 34 #[.slice (some ⟨g,0,none⟩) 3 c,.func (.func 35) #[] #[]] w fun e w'=>e=.returned (.slice (some ⟨g,0,none⟩) 2 c)∧aC.Jt w0 g x2 x3 x4 x5 0 0 w':=by
 obtain ⟨c0,c1,c2,c3,c4,c5⟩:=aC.jc HG HJ
 have hix:aC.ixr x1 x3 x5=0:=by unfold aC.ixr;rw [z1,if_pos rfl]
 go_enter Try.func34,Try.ntmps34
 go_wp2_with (go_at_call 74;(with_reducible refine (aC.ix x0 x1 x2 x3 x4 x5 g c cur _ HG HJ (0) hix).mono ?_);rintro e w2 ⟨rfl,hb⟩;replace HG:=aA.mk (aE HG.out hb);replace HB:=aA.mk (ai HB.out hb);clear hb c0 c1 c2 c3 c4 c5;obtain ⟨c0,c1,c2,c3,c4,c5⟩:=aC.jc HG HJ)
 refine wp_loop_rounds 3 ?_
 rw [rounds_succ]
 have HG0:=HG
 go_wp2_with (first|((with_reducible refine aH (N:=7) rfl ?_);refine bxE (cs:=#[.int .i64 0,.int .i64 0]) (t:=28) ?_;intro g7 hg w5 hbox hb;replace HG:=aA.mk (aE HG.out hb);replace HB:=aA.mk (ai HB.out hb);have H7:=aA.mk hbox;have l7:g<g7:=aC.lt HG0.out hg;clear hb hg hbox c0 c1 c2 c3 c4 c5;obtain ⟨c0,c1,c2,c3,c4,c5⟩:=aC.jc HG HJ;have d0:=(aT H7.out 0).trans rfl;have d1:=(aT H7.out 1).trans rfl;have e0:=aQ H7.out 0;have e1:=aQ H7.out 1)|(go_at_call 35;(refine (aC.p _ _ _).mono ?_);rintro e w3 ⟨rfl,hb⟩;replace HG:=aA.mk (aE (aq (aq HG.out (Nat.ne_of_lt l7) _) (Nat.ne_of_lt l7) _) hb);replace HB:=aA.mk (ai (al (al HB.out (by omega)) (by omega)) hb);replace H7:=aA.mk (aE (bE (bE H7.out 0 _ rfl) 1 _ rfl) hb);clear hb c0 c1 c2 c3 c4 c5 d0 d1 e0 e1;obtain ⟨c0,c1,c2,c3,c4,c5⟩:=aC.jc HG HJ;have d0:=(aT H7.out 0).trans rfl;have d1:=(aT H7.out 1).trans rfl;have f0:=aQ HG.out 0;have f1:=aQ HG.out 1;have f2:=aQ HG.out 2;have f3:=aQ HG.out 3;have f4:=aQ HG.out 4;have f5:=aQ HG.out 5))
 refine aC.nm (B:=fun w'=>Code.rounds _ _ _ _ _ w') (aC.put0 HG HJ hbg HB) ?_
 clear HG HJ HB H7 HG0 l7 c0 c1 c2 c3 c4 c5 d0 d1 f0 f1 f2 f3 f4 f5
 intro w6 hst
 obtain ⟨cur0,HG,HJ,HB⟩:=hst
 obtain ⟨c0,c1,c2,c3,c4,c5⟩:=aC.jc HG HJ
 rw [rounds_succ]
 have HG0:=HG
 go_wp2_with (first|((with_reducible refine aH (N:=7) rfl ?_);refine bxE (cs:=#[.int .i64 0,.int .i64 0]) (t:=28) ?_;intro g7 hg w5 hbox hb;replace HG:=aA.mk (aE HG.out hb);replace HB:=aA.mk (ai HB.out hb);have H7:=aA.mk hbox;have l7:g<g7:=aC.lt HG0.out hg;clear hb hg hbox c0 c1 c2 c3 c4 c5;obtain ⟨c0,c1,c2,c3,c4,c5⟩:=aC.jc HG HJ;have d0:=(aT H7.out 0).trans rfl;have d1:=(aT H7.out 1).trans rfl;have e0:=aQ H7.out 0;have e1:=aQ H7.out 1)|(go_at_call 35;(refine (aC.p _ _ _).mono ?_);rintro e w3 ⟨rfl,hb⟩;replace HG:=aA.mk (aE (aq (aq HG.out (Nat.ne_of_lt l7) _) (Nat.ne_of_lt l7) _) hb);replace HB:=aA.mk (ai (al (al HB.out (by omega)) (by omega)) hb);replace H7:=aA.mk (aE (bE (bE H7.out 0 _ rfl) 1 _ rfl) hb);clear hb c0 c1 c2 c3 c4 c5 d0 d1 e0 e1;obtain ⟨c0,c1,c2,c3,c4,c5⟩:=aC.jc HG HJ;have d0:=(aT H7.out 0).trans rfl;have d1:=(aT H7.out 1).trans rfl;have f0:=aQ HG.out 0;have f1:=aQ HG.out 1;have f2:=aQ HG.out 2;have f3:=aQ HG.out 3;have f4:=aQ HG.out 4;have f5:=aQ HG.out 5))
 refine aC.nm (B:=fun w'=>Code.rounds _ _ _ _ _ w') (aC.put2 HG HJ hbg HB) ?_
 clear HG HJ HB H7 HG0 l7 c0 c1 c2 c3 c4 c5 d0 d1 f0 f1 f2 f3 f4 f5
 intro w6 hst
 obtain ⟨cur1,HG,HJ,HB⟩:=hst
 obtain ⟨c0,c1,c2,c3,c4,c5⟩:=aC.jc HG HJ
 rw [rounds_succ]
 have hclr:=fun c' ty=>aC.clr4 _ g c' ty HG HJ
 go_wp2
 go_ret
 exact ⟨rfl,aC.put4 HG HJ hbg HB⟩
set_option maxHeartbeats 8000000 in
set_option maxRecDepth 100000 in
theorem aC.del1 (x0 x1 x2 x3 x4 x5:Int) (g c:Nat) (cur:Array Value) (w0 w:World) (hc3:3≤c) (hcm:c≤1000) (HG:aA (w.heap[g]?=some (.cells cur 28 (0,0)))) (HJ:aA (aC.HJ cur x0 x1 x2 x3 x4 x5)) (hbg:w0.heap.size≤g) (HB:aA (Below w0.heap.size w0 w)) (z1:(x1 == 0)=false) (z3:(x3 == 0)=true) (z5:(x5 == 0)=false) :
  Calls Try.prog 34 #[.slice (some ⟨g,0,none⟩) 3 c,.func (.func 35) #[] #[]] w fun e w'=>e=.returned (.slice (some ⟨g,0,none⟩) 2 c)∧aC.Jt w0 g x0 x1 x4 x5 0 0 w':=by
 obtain ⟨c0,c1,c2,c3,c4,c5⟩:=aC.jc HG HJ
 have hix:aC.ixr x1 x3 x5=1:=by unfold aC.ixr;rw [z1,if_neg (by decide),z3,if_pos rfl]
 go_enter Try.func34,Try.ntmps34
 go_wp2_with (go_at_call 74;(with_reducible refine (aC.ix x0 x1 x2 x3 x4 x5 g c cur _ HG HJ (1) hix).mono ?_);rintro e w2 ⟨rfl,hb⟩;replace HG:=aA.mk (aE HG.out hb);replace HB:=aA.mk (ai HB.out hb);clear hb c0 c1 c2 c3 c4 c5;obtain ⟨c0,c1,c2,c3,c4,c5⟩:=aC.jc HG HJ)
 refine wp_loop_rounds 3 ?_
 rw [rounds_succ]
 have HG0:=HG
 go_wp2_with (first|((with_reducible refine aH (N:=7) rfl ?_);refine bxE (cs:=#[.int .i64 0,.int .i64 0]) (t:=28) ?_;intro g7 hg w5 hbox hb;replace HG:=aA.mk (aE HG.out hb);replace HB:=aA.mk (ai HB.out hb);have H7:=aA.mk hbox;have l7:g<g7:=aC.lt HG0.out hg;clear hb hg hbox c0 c1 c2 c3 c4 c5;obtain ⟨c0,c1,c2,c3,c4,c5⟩:=aC.jc HG HJ;have d0:=(aT H7.out 0).trans rfl;have d1:=(aT H7.out 1).trans rfl;have e0:=aQ H7.out 0;have e1:=aQ H7.out 1)|(go_at_call 35;(refine (aC.p _ _ _).mono ?_);rintro e w3 ⟨rfl,hb⟩;replace HG:=aA.mk (aE (aq (aq HG.out (Nat.ne_of_lt l7) _) (Nat.ne_of_lt l7) _) hb);replace HB:=aA.mk (ai (al (al HB.out (by omega)) (by omega)) hb);replace H7:=aA.mk (aE (bE (bE H7.out 0 _ rfl) 1 _ rfl) hb);clear hb c0 c1 c2 c3 c4 c5 d0 d1 e0 e1;obtain ⟨c0,c1,c2,c3,c4,c5⟩:=aC.jc HG HJ;have d0:=(aT H7.out 0).trans rfl;have d1:=(aT H7.out 1).trans rfl;have f0:=aQ HG.out 0;have f1:=aQ HG.out 1;have f2:=aQ HG.out 2;have f3:=aQ HG.out 3;have f4:=aQ HG.out 4;have f5:=aQ HG.out 5))
 refine aC.nm (B:=fun w'=>Code.rounds _ _ _ _ _ w') (aC.put2 HG HJ hbg HB) ?_
 clear HG HJ HB H7 HG0 l7 c0 c1 c2 c3 c4 c5 d0 d1 f0 f1 f2 f3 f4 f5
 intro w6 hst
 obtain ⟨cur0,HG,HJ,HB⟩:=hst
 obtain ⟨c0,c1,c2,c3,c4,c5⟩:=aC.jc HG HJ
 rw [rounds_succ]
 have hclr:=fun c' ty=>aC.clr4 _ g c' ty HG HJ
 go_wp2
 go_ret
 exact ⟨rfl,aC.put4 HG HJ hbg HB⟩
set_option maxHeartbeats 8000000 in
set_option maxRecDepth 100000 in
theorem aC.del2 (x0 x1 x2 x3 x4 x5:Int) (g c:Nat) (cur:Array Value) (w0 w:World) (hc3:3≤c) (hcm:c≤1000) (HG:aA (w.heap[g]?=some (.cells cur 28 (0,0)))) (HJ:aA (aC.HJ cur x0 x1 x2 x3 x4 x5)) (hbg:w0.heap.size≤g) (HB:aA (Below w0.heap.size w0 w)) (z1:(x1 == 0)=false) (z3:(x3 == 0)=false) (z5:(x5 == 0)=true) :
  Calls Try.prog 34 #[.slice (some ⟨g,0,none⟩) 3 c,.func (.func 35) #[] #[]] w fun e w'=>e=.returned (.slice (some ⟨g,0,none⟩) 2 c)∧aC.Jt w0 g x0 x1 x2 x3 0 0 w':=by
 obtain ⟨c0,c1,c2,c3,c4,c5⟩:=aC.jc HG HJ
 have hix:aC.ixr x1 x3 x5=2:=by unfold aC.ixr;rw [z1,if_neg (by decide),z3,if_neg (by decide),z5,if_pos rfl]
 go_enter Try.func34,Try.ntmps34
 go_wp2_with (go_at_call 74;(with_reducible refine (aC.ix x0 x1 x2 x3 x4 x5 g c cur _ HG HJ (2) hix).mono ?_);rintro e w2 ⟨rfl,hb⟩;replace HG:=aA.mk (aE HG.out hb);replace HB:=aA.mk (ai HB.out hb);clear hb c0 c1 c2 c3 c4 c5;obtain ⟨c0,c1,c2,c3,c4,c5⟩:=aC.jc HG HJ)
 refine wp_loop_rounds 3 ?_
 rw [rounds_succ]
 have hclr:=fun c' ty=>aC.clr4 _ g c' ty HG HJ
 go_wp2
 go_ret
 exact ⟨rfl,aC.put4 HG HJ hbg HB⟩
set_option maxHeartbeats 8000000 in
set_option maxRecDepth 100000 in
theorem aC.del9 (x0 x1 x2 x3 x4 x5:Int) (g c:Nat) (cur:Array Value) (w0 w:World) (hc3:3≤c) (hcm:c≤1000) (HG:aA (w.heap[g]?=some (.cells cur 28 (0,0)))) (HJ:aA (aC.HJ cur x0 x1 x2 x3 x4 x5)) (hbg:w0.heap.size≤g) (HB:aA (Below w0.heap.size w0 w)) (z1:(x1 == 0)=false) (z3:(x3 == 0)=false) (z5:(x5 == 0)=false) :
  Calls Try.prog 34 #[.slice (some ⟨g,0,none⟩) 3 c,.func (.func 35) #[] #[]] w fun e w'=>e=.returned (.slice (some ⟨g,0,none⟩) 3 c)∧aC.Jt w0 g x0 x1 x2 x3 x4 x5 w':=by
 obtain ⟨c0,c1,c2,c3,c4,c5⟩:=aC.jc HG HJ
 have hix:aC.ixr x1 x3 x5 = -1:=by unfold aC.ixr;rw [z1,if_neg (by decide),z3,if_neg (by decide),z5,if_neg (by decide)]
 go_enter Try.func34,Try.ntmps34
 go_wp2_with (go_at_call 74;(with_reducible refine (aC.ix x0 x1 x2 x3 x4 x5 g c cur _ HG HJ (-1) hix).mono ?_);rintro e w2 ⟨rfl,hb⟩;replace HG:=aA.mk (aE HG.out hb);replace HB:=aA.mk (ai HB.out hb);clear hb c0 c1 c2 c3 c4 c5;obtain ⟨c0,c1,c2,c3,c4,c5⟩:=aC.jc HG HJ)
 go_ret
 exact ⟨rfl,cur,HG,HJ,⟨by repeat (first|(with_reducible exact HB.out)|apply a6|apply ay|apply aV)⟩⟩
theorem aC.del0n (n:Nat) (hn:n=2) (x0 x1 x2 x3 x4 x5:Int) (g c:Nat) (cur:Array Value) (w0 w:World) (hc3:3≤c) (hcm:c≤1000) (HG:aA (w.heap[g]?=some (.cells cur 28 (0,0)))) (HJ:aA (aC.HJ cur x0 x1 x2 x3 x4 x5)) (hbg:w0.heap.size≤g) (HB:aA (Below w0.heap.size w0 w)) (z1:(x1 == 0)=true) (z3:(x3 == 0)=false) (z5:(x5 == 0)=false) :
  Calls Try.prog 34 #[.slice (some ⟨g,0,none⟩) 3 c,.func (.func 35) #[] #[]] w fun e w'=>e=.returned (.slice (some ⟨g,0,none⟩) n c)∧aC.Jt w0 g x2 x3 x4 x5 0 0 w':=by
 subst hn
 exact aC.del0 x0 x1 x2 x3 x4 x5 g c cur w0 w hc3 hcm HG HJ hbg HB z1 z3 z5
theorem aC.del1n (n:Nat) (hn:n=2) (x0 x1 x2 x3 x4 x5:Int) (g c:Nat) (cur:Array Value) (w0 w:World) (hc3:3≤c) (hcm:c≤1000) (HG:aA (w.heap[g]?=some (.cells cur 28 (0,0)))) (HJ:aA (aC.HJ cur x0 x1 x2 x3 x4 x5)) (hbg:w0.heap.size≤g) (HB:aA (Below w0.heap.size w0 w)) (z1:(x1 == 0)=false) (z3:(x3 == 0)=true) (z5:(x5 == 0)=false) :
  Calls Try.prog 34 #[.slice (some ⟨g,0,none⟩) 3 c,.func (.func 35) #[] #[]] w fun e w'=>e=.returned (.slice (some ⟨g,0,none⟩) n c)∧aC.Jt w0 g x0 x1 x4 x5 0 0 w':=by
 subst hn
 exact aC.del1 x0 x1 x2 x3 x4 x5 g c cur w0 w hc3 hcm HG HJ hbg HB z1 z3 z5
theorem aC.del2n (n:Nat) (hn:n=2) (x0 x1 x2 x3 x4 x5:Int) (g c:Nat) (cur:Array Value) (w0 w:World) (hc3:3≤c) (hcm:c≤1000) (HG:aA (w.heap[g]?=some (.cells cur 28 (0,0)))) (HJ:aA (aC.HJ cur x0 x1 x2 x3 x4 x5)) (hbg:w0.heap.size≤g) (HB:aA (Below w0.heap.size w0 w)) (z1:(x1 == 0)=false) (z3:(x3 == 0)=false) (z5:(x5 == 0)=true) :
  Calls Try.prog 34 #[.slice (some ⟨g,0,none⟩) 3 c,.func (.func 35) #[] #[]] w fun e w'=>e=.returned (.slice (some ⟨g,0,none⟩) n c)∧aC.Jt w0 g x0 x1 x2 x3 0 0 w':=by
 subst hn
 exact aC.del2 x0 x1 x2 x3 x4 x5 g c cur w0 w hc3 hcm HG HJ hbg HB z1 z3 z5
theorem aC.del9n (n:Nat) (hn:n=3) (x0 x1 x2 x3 x4 x5:Int) (g c:Nat) (cur:Array Value) (w0 w:World) (hc3:3≤c) (hcm:c≤1000) (HG:aA (w.heap[g]?=some (.cells cur 28 (0,0)))) (HJ:aA (aC.HJ cur x0 x1 x2 x3 x4 x5)) (hbg:w0.heap.size≤g) (HB:aA (Below w0.heap.size w0 w)) (z1:(x1 == 0)=false) (z3:(x3 == 0)=false) (z5:(x5 == 0)=false) :
  Calls Try.prog 34 #[.slice (some ⟨g,0,none⟩) 3 c,.func (.func 35) #[] #[]] w fun e w'=>e=.returned (.slice (some ⟨g,0,none⟩) n c)∧aC.Jt w0 g x0 x1 x2 x3 x4 x5 w':=by
 subst hn
 exact aC.del9 x0 x1 x2 x3 x4 x5 g c cur w0 w hc3 hcm HG HJ hbg HB z1 z3 z5
structure aC.Pl (w0 w:World) (cur:Array Value) (x0 x1 x2 x3 x4 x5:Int) (gr gl:Nat):Prop where
 r:w.heap[gr]?=some (.cells #[.int .i64 0,.int .i64 0,.int .i64 0] 25 (0,0))
 l:w.heap[gl]?=some (.cells cur 28 (0,0))
 j:aC.HJ cur x0 x1 x2 x3 x4 x5
 i:w0.heap.size≤gr
 rl:gr<gl
 b:Below w0.heap.size w0 w
theorem aC.Pl.step {w0 w w1:World} {cur:Array Value} {x0 x1 x2 x3 x4 x5:Int} {gr gl:Nat} (h:aA (aC.Pl w0 w cur x0 x1 x2 x3 x4 x5 gr gl)) (hb:Below w.heap.size w w1):aA (aC.Pl w0 w1 cur x0 x1 x2 x3 x4 x5 gr gl):=⟨⟨aE h.out.r hb,aE h.out.l hb,h.out.j,h.out.i,h.out.rl,ai h.out.b hb⟩⟩
theorem aC.Pl.drew {w0 w:World} {cur:Array Value} {x0 x1 x2 x3 x4 x5:Int} {gr gl:Nat} (h:aA (aC.Pl w0 w cur x0 x1 x2 x3 x4 x5 gr gl)):aA (aC.Pl w0 w.drew cur x0 x1 x2 x3 x4 x5 gr gl):=aC.Pl.step h (eS (Below.refl _ _))
theorem aC.Pl.alloc {w0 w:World} {cur:Array Value} {x0 x1 x2 x3 x4 x5:Int} {gr gl:Nat} (h:aA (aC.Pl w0 w cur x0 x1 x2 x3 x4 x5 gr gl)) (o:Obj):aA (aC.Pl w0 (w.alloc o) cur x0 x1 x2 x3 x4 x5 gr gl):=aC.Pl.step h (ay (Below.refl _ _) o)
theorem aC.Pl.cells {w0 w:World} {cur:Array Value} {x0 x1 x2 x3 x4 x5:Int} {gr gl:Nat} (h:aA (aC.Pl w0 w cur x0 x1 x2 x3 x4 x5 gr gl)):w.cell? ⟨gl,0,none⟩=some (.int .i64 x0)∧w.cell? ⟨gl,1,none⟩=some (.int .i64 x1)∧w.cell? ⟨gl,2,none⟩=some (.int .i64 x2)∧w.cell? ⟨gl,3,none⟩=some (.int .i64 x3)∧w.cell? ⟨gl,4,none⟩=some (.int .i64 x4)∧w.cell? ⟨gl,5,none⟩=some (.int .i64 x5):=aC.jc (aA.mk h.out.l) (aA.mk h.out.j)
theorem aC.Pl.set {w0 w:World} {cur:Array Value} {x0 x1 x2 x3 x4 x5:Int} {gr gl g j:Nat} {u:Value} (h:aA (aC.Pl w0 w cur x0 x1 x2 x3 x4 x5 gr gl)) (hg:gl<g):aA (aC.Pl w0 (w.setCell ⟨g,j,none⟩ u) cur x0 x1 x2 x3 x4 x5 gr gl):=by
 have h1:=h.out.i
 have h2:=h.out.rl
 have n1:gr≠g:=by omega
 have n2:gl≠g:=by omega
 exact ⟨⟨aq (p:=⟨g,j,none⟩) h.out.r n1 _,aq (p:=⟨g,j,none⟩) h.out.l n2 _,h.out.j,h1,h2,al h.out.b (by omega)⟩⟩
structure aC.Pm (w0:World) (cur:Array Value) (x0 x1 x2 x3 x4 x5 bn bd:Int) (gr gl gb:Nat) (w:World):Prop where
 l:aA (aC.Pl w0 w cur x0 x1 x2 x3 x4 x5 gr gl)
 d:aA (w.heap[gb]?=some (.cells #[.int .i64 bn,.int .i64 bd] 28 (0,0)))
 g:aA (gl<gb)
theorem aC.Pm.put {w0 w:World} {cur:Array Value} {x0 x1 x2 x3 x4 x5 bn bd:Int} {gr gl gb:Nat} (a b:Int) (h:aC.Pm w0 cur x0 x1 x2 x3 x4 x5 bn bd gr gl gb w):aC.Pm w0 cur x0 x1 x2 x3 x4 x5 a b gr gl gb ((w.setCell ⟨gb,0,none⟩ (.int .i64 a)).setCell ⟨gb,1,none⟩ (.int .i64 b)):=⟨aC.Pl.set (aC.Pl.set h.l h.g.out) h.g.out,⟨bE (bE h.d.out 0 _ rfl) 1 _ rfl⟩,h.g⟩
theorem aC.Pm.step {w0 w w1:World} {cur:Array Value} {x0 x1 x2 x3 x4 x5 bn bd:Int} {gr gl gb:Nat} (h:aC.Pm w0 cur x0 x1 x2 x3 x4 x5 bn bd gr gl gb w) (hb:Below w.heap.size w w1):aC.Pm w0 cur x0 x1 x2 x3 x4 x5 bn bd gr gl gb w1:=⟨aC.Pl.step h.l hb,⟨aE h.d.out hb⟩,h.g⟩
structure aC.Px (w0:World) (cur:Array Value) (x0 x1 x2 x3 x4 x5 bn bd:Int) (gr gl gb:Nat) (a b:Int) (gx:Nat) (w:World):Prop where
 m:aC.Pm w0 cur x0 x1 x2 x3 x4 x5 bn bd gr gl gb w
 x:aA (w.heap[gx]?=some (.cells #[.int .i64 a,.int .i64 b] 28 (0,0)))
 o:aA (gb<gx)
theorem aC.Pm.set {w0 w:World} {cur:Array Value} {x0 x1 x2 x3 x4 x5 bn bd:Int} {gr gl gb g j:Nat} {u:Value} (h:aC.Pm w0 cur x0 x1 x2 x3 x4 x5 bn bd gr gl gb w) (hg:gb<g):aC.Pm w0 cur x0 x1 x2 x3 x4 x5 bn bd gr gl gb (w.setCell ⟨g,j,none⟩ u):=by
 have h1:=h.g.out
 exact ⟨aC.Pl.set h.l (by omega),⟨aq (p:=⟨g,j,none⟩) h.d.out (show gb≠g by omega) _⟩,h.g⟩
theorem aC.Px.mk0 {w0 w:World} {cur:Array Value} {x0 x1 x2 x3 x4 x5 bn bd:Int} {gr gl gb gx:Nat} (a b:Int) (h:aC.Pm w0 cur x0 x1 x2 x3 x4 x5 bn bd gr gl gb w) (hx:aA (w.heap[gx]?=some (.cells #[.int .i64 0,.int .i64 0] 28 (0,0)))) (ho:aA (gb<gx)):aC.Px w0 cur x0 x1 x2 x3 x4 x5 bn bd gr gl gb a b gx ((w.setCell ⟨gx,0,none⟩ (.int .i64 a)).setCell ⟨gx,1,none⟩ (.int .i64 b)):=⟨aC.Pm.set (aC.Pm.set h ho.out) ho.out,⟨bE (bE hx.out 0 _ rfl) 1 _ rfl⟩,ho⟩
theorem aC.Px.step {w0 w w1:World} {cur:Array Value} {x0 x1 x2 x3 x4 x5 bn bd a b:Int} {gr gl gb gx:Nat} (h:aC.Px w0 cur x0 x1 x2 x3 x4 x5 bn bd gr gl gb a b gx w) (hb:Below w.heap.size w w1):aC.Px w0 cur x0 x1 x2 x3 x4 x5 bn bd gr gl gb a b gx w1:=⟨aC.Pm.step h.m hb,⟨aE h.x.out hb⟩,h.o⟩
theorem aC.Px.set {w0 w:World} {cur:Array Value} {x0 x1 x2 x3 x4 x5 bn bd a b:Int} {gr gl gb gx g j:Nat} {u:Value} (h:aC.Px w0 cur x0 x1 x2 x3 x4 x5 bn bd gr gl gb a b gx w) (hg:gx<g):aC.Px w0 cur x0 x1 x2 x3 x4 x5 bn bd gr gl gb a b gx (w.setCell ⟨g,j,none⟩ u):=by
 have h1:=h.o.out
 exact ⟨aC.Pm.set h.m (by omega),⟨aq (p:=⟨g,j,none⟩) h.x.out (show gx≠g by omega) _⟩,h.o⟩
theorem aC.Px.put {w0 w:World} {cur:Array Value} {x0 x1 x2 x3 x4 x5 bn bd a b:Int} {gr gl gb gx:Nat} (h:aC.Px w0 cur x0 x1 x2 x3 x4 x5 bn bd gr gl gb a b gx w):aC.Px w0 cur x0 x1 x2 x3 x4 x5 a b gr gl gb a b gx ((w.setCell ⟨gb,0,none⟩ (.int .i64 a)).setCell ⟨gb,1,none⟩ (.int .i64 b)):=by
 have h1:=h.o.out
 have n1:gx≠gb:=by omega
 exact ⟨aC.Pm.put a b h.m,⟨aq (aq h.x.out n1 _) n1 _⟩,h.o⟩
theorem aC.Px.cells {w0 w:World} {cur:Array Value} {x0 x1 x2 x3 x4 x5 bn bd a b:Int} {gr gl gb gx:Nat} (h:aC.Px w0 cur x0 x1 x2 x3 x4 x5 bn bd gr gl gb a b gx w):(w.cell? ⟨gx,0,none⟩=some (.int .i64 a)∧w.cell? ⟨gx,1,none⟩=some (.int .i64 b))∧(w.cell? ⟨gb,0,none⟩=some (.int .i64 bn)∧w.cell? ⟨gb,1,none⟩=some (.int .i64 bd)∧w.frozen? ⟨gb,0,none⟩=false∧w.frozen? ⟨gb,1,none⟩=false):=⟨⟨aT h.x.out 0,aT h.x.out 1⟩,aT h.m.d.out 0,aT h.m.d.out 1,aQ h.m.d.out 0,aQ h.m.d.out 1⟩
def aC.Go (k:Nat) (p v r1 r2 r3 r4:Int) (n:Nat) (w w15:World) (gr gl:Nat):Prop:=∃ (cur:Array Value) (x0 x1 x2 x3 x4 x5:Int),aA (aC.Pl w w15 cur x0 x1 x2 x3 x4 x5 gr gl)∧aA (bh.f k p x0 x1 x2 x3=some v)∧aA (aC.tail k p n x0 x1 x2 x3 x4 x5 v=some (r1,r2,r3,r4))∧aA (n=2∨n=3)
theorem aC.mkGo {k:Nat} {p v r1 r2 r3 r4:Int} {n:Nat} {w w9 w15:World} {e0 e1 f0 f1 g0 g1 x0 x1 x2 x3 x4 x5:Int} {ge gf gg gr:Nat} (PA:aA (aC.Pa w w9 e0 e1 f0 f1 g0 g1 ge gf gg gr)) (hj:aC.Jt w9 w9.heap.size x0 x1 x2 x3 x4 x5 w15) (A2:aA (bh.f k p x0 x1 x2 x3=some v)) (h:aA (aC.tail k p n x0 x1 x2 x3 x4 x5 v=some (r1,r2,r3,r4))) (hn:n=2∨n=3):aC.Go k p v r1 r2 r3 r4 n w w15 gr w9.heap.size:=by
 obtain ⟨cur,HG,HJ,hb⟩:=hj
 exact ⟨cur,x0,x1,x2,x3,x4,x5,⟨⟨aE PA.out.r hb.out,HG.out,HJ.out,PA.out.i,aC.lt PA.out.r rfl,ai PA.out.b hb.out⟩⟩,A2,h,⟨hn⟩⟩
set_option maxHeartbeats 8000000 in
set_option maxRecDepth 100000 in
noncomputable def aC.cut0:PSigma fun P:Prop=>aA P→(∀ (k:Nat) (p e0 e1 f0 f1 g0 g1:Int) (r1 r2 r3 r4:Int) (w:World) (h:aC.f k p e0 e1 f0 f1 g0 g1=some (r1,r2,r3,r4)),Calls Try.prog 7 #[.int .i64 p,.agg #[.int .i64 e0,.int .i64 e1],.agg #[.int .i64 f0,.int .i64 f1],.agg #[.int .i64 g0,.int .i64 g1]] w fun e w'=>e=.returned (.tuple #[.agg #[.int .i64 r1,.int .i64 r2,.int .i64 r3],.int .i64 r4])∧Below w.heap.size w w'):=by
 apply PSigma.mk
 ·
  intro hcutP
  intro k p e0 e1 f0 f1 g0 g1 r1 r2 r3 r4 w h
  unfold aC.f at h
  obtain ⟨y,hy⟩:∃ y_:List S28,y_=[(⟨e0,e1⟩:S28),(⟨f0,f1⟩:S28),(⟨g0,g1⟩:S28)]:=⟨_,rfl⟩
  rw [← hy] at h
  replace hy:=aA.mk hy
  replace h:=Option.bind_eq_some_iff.mp h
  obtain ⟨t,A1,h⟩:=h
  replace A1:=aA.mk A1
  replace h:=aA.mk h
  have HB:=aA.mk (Below.refl w.heap.size w)
  go_enter Try.func7,Try.ntmps7
  go_upto_region 1 with (first|((with_reducible refine aH (N:=5) rfl ?_);refine bxE (cs:=#[.int .i64 e0,.int .i64 e1]) (t:=28) ?_;intro ge hg w5 hbox hb;have QE:=aA.mk hbox;have m9:=aA.mk (ai HB.out hb);clear HB;have HB:=m9;clear m9 hb hg hbox)|((with_reducible refine aH (N:=6) rfl ?_);refine bxE (cs:=#[.int .i64 f0,.int .i64 f1]) (t:=28) ?_;intro gf hg w6 hbox hb;have m1:=aA.mk (aE QE.out hb);clear QE;have QE:=m1;clear m1;have QF:=aA.mk hbox;have m9:=aA.mk (ai HB.out hb);clear HB;have HB:=m9;clear m9 hb hg hbox)|((with_reducible refine aH (N:=7) rfl ?_);refine bxE (cs:=#[.int .i64 g0,.int .i64 g1]) (t:=28) ?_;intro gg hg w7 hbox hb;have m1:=aA.mk (aE QE.out hb);have m2:=aA.mk (aE QF.out hb);clear QE QF;have QE:=m1;have QF:=m2;clear m1 m2;have QG:=aA.mk hbox;have m9:=aA.mk (ai HB.out hb);clear HB;have HB:=m9;clear m9 hb hg hbox)|((with_reducible refine aH (N:=8) rfl ?_);refine bxE (cs:=#[.int .i64 0,.int .i64 0,.int .i64 0]) (t:=25) ?_;intro gr hg w8 hbox hb;have PA:aA (aC.Pa w w8 e0 e1 f0 f1 g0 g1 ge gf gg gr):=⟨⟨aE QE.out hb,aE QF.out hb,aE QG.out hb,hbox,by rw [hg];exact ak HB.out,ai HB.out hb⟩⟩;clear QE QF QG HB hb hg hbox))
  (try simp only [Act.put,List.setIfInBounds_toArray,List.set_cons_zero,List.set_cons_succ])
  obtain ⟨c1,c2,c3,c4,c5,c6⟩:=aC.Pa.cells PA
  cases t
  case false=>
   replace h:=h.out
   rw [if_neg Bool.false_ne_true] at h
   simp only [Option.some.injEq,Prod.mk.injEq] at h
   obtain ⟨rfl,rfl,rfl,rfl⟩:=h
   go_wp2_with (first|(go_at_call 31;(with_reducible refine (av.calls p _ _ A1.out).mono ?_);rintro e w9 ⟨rfl,hb⟩;replace hb:=hb.below;have m1:=aC.Pa.step PA hb;clear PA c1 c2 c3 c4 c5 c6 hb;have PA:=m1;clear m1;obtain ⟨c1,c2,c3,c4,c5,c6⟩:=aC.Pa.cells PA;obtain ⟨q1,q2,q3,q4,q5,q6⟩:=aC.res (aA.mk PA.out.r)))
   refine bodyPost_ret (bC rfl _ _ gr 25 #[.int .i64 0,.int .i64 0,.int .i64 0] (0,0) _ rfl (by refine dr ?_;refine bE (cs:=#[.int .i64 0,.int .i64 0,.int .i64 0]) ?_ 2 _ rfl;refine dr ?_;refine bE (cs:=#[.int .i64 0,.int .i64 0,.int .i64 0]) ?_ 1 _ rfl;refine dr ?_;refine bE (cs:=#[.int .i64 0,.int .i64 0,.int .i64 0]) ?_ 0 _ rfl;(with_reducible repeat (first|refine cU ?_ _|refine aK ?_|refine cV ?_ _));exact PA.out.r) Try.underlying25 rfl (by kernel_rfl)) rfl ?_
   exact ⟨rfl,by repeat (first|(with_reducible first|exact PA.out.b|apply ay|apply a6|apply aV)|exact PA.out.b|refine al ?_ PA.out.i)⟩
  case true=>
  replace h:=h.out
  rw [if_pos rfl] at h
  replace h:=Option.bind_eq_some_iff.mp h
  obtain ⟨u,A2,h⟩:=h
  replace A2:=aA.mk A2
  replace h:=aA.mk h
  cases u
  case false=>
   replace h:=h.out
   rw [if_neg Bool.false_ne_true] at h
   simp only [Option.some.injEq,Prod.mk.injEq] at h
   obtain ⟨rfl,rfl,rfl,rfl⟩:=h
   go_wp2_with (first|(go_at_call 31;(with_reducible refine (av.calls p _ _ A1.out).mono ?_);rintro e w9 ⟨rfl,hb⟩;replace hb:=hb.below;have m1:=aC.Pa.step PA hb;clear PA c1 c2 c3 c4 c5 c6 hb;have PA:=m1;clear m1;obtain ⟨c1,c2,c3,c4,c5,c6⟩:=aC.Pa.cells PA)|((with_reducible refine aH (N:=26) rfl ?_);(try (refine cS (by rfl) ?_;dsimp only));refine Kd.R_lit k28 _ 28 ?hg (N:=26) ?hd (xs:=([(⟨e0,e1⟩:S28),(⟨f0,f1⟩:S28),(⟨g0,g1⟩:S28)]:List (S28))) (inner:=[.int .i64 e0,.int .i64 e1,.int .i64 f0,.int .i64 f1,.int .i64 g0,.int .i64 g1]) (ok:=fun _=>True) (okp:=fun _=>True) ?hr ?hp (fun _ hk=>hk) trivial (Below.refl _ _) (Nat.le_refl _) (by simp) ?_;(case hd=>rfl);(case hg=>rfl);(case hr=>first|(go_simp;done)|(go_simp;rfl));(case hp=>exact (aY.c2 (show Kd.M k28 _ _ _ (⟨e0,e1⟩:S28) [.int .i64 e0,.int .i64 e1] from (aw _ _ _ (⟨e0,e1⟩:S28))) (aY.c2 (show Kd.M k28 _ _ _ (⟨f0,f1⟩:S28) [.int .i64 f0,.int .i64 f1] from (aw _ _ _ (⟨f0,f1⟩:S28))) (aY.c2 (show Kd.M k28 _ _ _ (⟨g0,g1⟩:S28) [.int .i64 g0,.int .i64 g1] from (aw _ _ _ (⟨g0,g1⟩:S28))) (aY.none _ _)))));intro vL wL hoL hb hg_ hnew_;clear hg_ hnew_;rw [← hy.out] at hoL;have HL:=aA.mk hoL;clear hoL;have m1:=aC.Pa.step PA hb;clear PA c1 c2 c3 c4 c5 c6 hb;have PA:=m1;clear m1;obtain ⟨c1,c2,c3,c4,c5,c6⟩:=aC.Pa.cells PA;obtain ⟨AL,kL,eL⟩:=Kd.R_slice HL.out;subst eL)|(go_at_call 32;(with_reducible refine (bL.calls k _ _ y _ _ ?side1 ?side2 A2.out).mono ?_);(case side1=>exact cR (Kd.R_reads' HL.out).2.2);(case side2=>exact (Kd.R_reads' HL.out).2.1);rintro e w9 ⟨rfl,hb⟩;have m1:=aC.Pa.step PA hb;clear PA c1 c2 c3 c4 c5 c6 hb;have PA:=m1;clear m1;obtain ⟨c1,c2,c3,c4,c5,c6⟩:=aC.Pa.cells PA;clear HL;obtain ⟨q1,q2,q3,q4,q5,q6⟩:=aC.res (aA.mk PA.out.r)))
   refine bodyPost_ret (bC rfl _ _ gr 25 #[.int .i64 0,.int .i64 0,.int .i64 0] (0,0) _ rfl (by refine dr ?_;refine bE (cs:=#[.int .i64 0,.int .i64 0,.int .i64 0]) ?_ 2 _ rfl;refine dr ?_;refine bE (cs:=#[.int .i64 0,.int .i64 0,.int .i64 0]) ?_ 1 _ rfl;refine dr ?_;refine bE (cs:=#[.int .i64 0,.int .i64 0,.int .i64 0]) ?_ 0 _ rfl;(with_reducible repeat (first|refine cU ?_ _|refine aK ?_|refine cV ?_ _));exact PA.out.r) Try.underlying25 rfl (by kernel_rfl)) rfl ?_
   exact ⟨rfl,by repeat (first|(with_reducible first|exact PA.out.b|apply ay|apply a6|apply aV)|exact PA.out.b|refine al ?_ PA.out.i)⟩
  case true=>
  replace h:=h.out
  rw [if_pos rfl] at h
  replace h:=Option.bind_eq_some_iff.mp h
  obtain ⟨z,A3,h⟩:=h
  replace A3:=aA.mk A3
  replace h:=aA.mk h
  go_upto_region 3 with (first|(go_at_call 31;(with_reducible refine (av.calls p _ _ A1.out).mono ?_);rintro e w9 ⟨rfl,hb⟩;replace hb:=hb.below;have m1:=aC.Pa.step PA hb;clear PA c1 c2 c3 c4 c5 c6 hb;have PA:=m1;clear m1;obtain ⟨c1,c2,c3,c4,c5,c6⟩:=aC.Pa.cells PA)|((with_reducible refine aH (N:=26) rfl ?_);(try (refine cS (by rfl) ?_;dsimp only));refine Kd.R_lit k28 _ 28 ?hg (N:=26) ?hd (xs:=([(⟨e0,e1⟩:S28),(⟨f0,f1⟩:S28),(⟨g0,g1⟩:S28)]:List (S28))) (inner:=[.int .i64 e0,.int .i64 e1,.int .i64 f0,.int .i64 f1,.int .i64 g0,.int .i64 g1]) (ok:=fun _=>True) (okp:=fun _=>True) ?hr ?hp (fun _ hk=>hk) trivial (Below.refl _ _) (Nat.le_refl _) (by simp) ?_;(case hd=>rfl);(case hg=>rfl);(case hr=>first|(go_simp;done)|(go_simp;rfl));(case hp=>exact (aY.c2 (show Kd.M k28 _ _ _ (⟨e0,e1⟩:S28) [.int .i64 e0,.int .i64 e1] from (aw _ _ _ (⟨e0,e1⟩:S28))) (aY.c2 (show Kd.M k28 _ _ _ (⟨f0,f1⟩:S28) [.int .i64 f0,.int .i64 f1] from (aw _ _ _ (⟨f0,f1⟩:S28))) (aY.c2 (show Kd.M k28 _ _ _ (⟨g0,g1⟩:S28) [.int .i64 g0,.int .i64 g1] from (aw _ _ _ (⟨g0,g1⟩:S28))) (aY.none _ _)))));intro vL wL hoL hb hg_ hnew_;clear hg_ hnew_;rw [← hy.out] at hoL;have HL:=aA.mk hoL;clear hoL;have m1:=aC.Pa.step PA hb;clear PA c1 c2 c3 c4 c5 c6 hb;have PA:=m1;clear m1;obtain ⟨c1,c2,c3,c4,c5,c6⟩:=aC.Pa.cells PA;obtain ⟨AL,kL,eL⟩:=Kd.R_slice HL.out;subst eL)|(go_at_call 32;(with_reducible refine (bL.calls k _ _ y _ _ ?side1 ?side2 A2.out).mono ?_);(case side1=>exact cR (Kd.R_reads' HL.out).2.2);(case side2=>exact (Kd.R_reads' HL.out).2.1);rintro e w9 ⟨rfl,hb⟩;have m1:=aC.Pa.step PA hb;clear PA c1 c2 c3 c4 c5 c6 hb;have PA:=m1;clear m1;obtain ⟨c1,c2,c3,c4,c5,c6⟩:=aC.Pa.cells PA;clear HL))
  (try simp only [Act.put,List.setIfInBounds_toArray,List.set_cons_zero,List.set_cons_succ])
  clear A1 A2
  cases z
  case false=>
   replace h:=h.out
   rw [if_neg Bool.false_ne_true] at h
   simp only [Option.some.injEq,Prod.mk.injEq] at h
   obtain ⟨rfl,rfl,rfl,rfl⟩:=h
   go_wp2_with (first|((with_reducible refine aH (N:=35) rfl ?_);(try (refine cS (by rfl) ?_;dsimp only));refine Kd.R_lit k28 _ 28 ?hg (N:=35) ?hd (xs:=([(⟨e0,e1⟩:S28),(⟨f0,f1⟩:S28),(⟨g0,g1⟩:S28)]:List (S28))) (inner:=[.int .i64 e0,.int .i64 e1,.int .i64 f0,.int .i64 f1,.int .i64 g0,.int .i64 g1]) (ok:=fun _=>True) (okp:=fun _=>True) ?hr ?hp (fun _ hk=>hk) trivial (Below.refl _ _) (Nat.le_refl _) (by simp) ?_;(case hd=>rfl);(case hg=>rfl);(case hr=>first|(go_simp;done)|(go_simp;rfl));(case hp=>exact (aY.c2 (show Kd.M k28 _ _ _ (⟨e0,e1⟩:S28) [.int .i64 e0,.int .i64 e1] from (aw _ _ _ (⟨e0,e1⟩:S28))) (aY.c2 (show Kd.M k28 _ _ _ (⟨f0,f1⟩:S28) [.int .i64 f0,.int .i64 f1] from (aw _ _ _ (⟨f0,f1⟩:S28))) (aY.c2 (show Kd.M k28 _ _ _ (⟨g0,g1⟩:S28) [.int .i64 g0,.int .i64 g1] from (aw _ _ _ (⟨g0,g1⟩:S28))) (aY.none _ _)))));intro vL wL hoL hb hg_ hnew_;clear hg_ hnew_;rw [← hy.out] at hoL;have HL:=aA.mk hoL;clear hoL;have m1:=aC.Pa.step PA hb;clear PA c1 c2 c3 c4 c5 c6 hb;have PA:=m1;clear m1;obtain ⟨c1,c2,c3,c4,c5,c6⟩:=aC.Pa.cells PA;obtain ⟨AL,kL,eL⟩:=Kd.R_slice HL.out;subst eL)|(go_at_call 33;(with_reducible refine (bI.calls k _ _ y _ _ ?side1 ?side2 A3.out).mono ?_);(case side1=>exact cR (Kd.R_reads' HL.out).2.2);(case side2=>exact (Kd.R_reads' HL.out).2.1);rintro e w9 ⟨rfl,hb⟩;have m1:=aC.Pa.step PA hb;clear PA c1 c2 c3 c4 c5 c6 hb;have PA:=m1;clear m1;obtain ⟨c1,c2,c3,c4,c5,c6⟩:=aC.Pa.cells PA;clear HL;obtain ⟨q1,q2,q3,q4,q5,q6⟩:=aC.res (aA.mk PA.out.r)))
   refine bodyPost_ret (bC rfl _ _ gr 25 #[.int .i64 0,.int .i64 0,.int .i64 0] (0,0) _ rfl (by refine dr ?_;refine bE (cs:=#[.int .i64 0,.int .i64 0,.int .i64 0]) ?_ 2 _ rfl;refine dr ?_;refine bE (cs:=#[.int .i64 0,.int .i64 0,.int .i64 0]) ?_ 1 _ rfl;refine dr ?_;refine bE (cs:=#[.int .i64 0,.int .i64 0,.int .i64 0]) ?_ 0 _ rfl;(with_reducible repeat (first|refine cU ?_ _|refine aK ?_|refine cV ?_ _));exact PA.out.r) Try.underlying25 rfl (by kernel_rfl)) rfl ?_
   exact ⟨rfl,by repeat (first|(with_reducible first|exact PA.out.b|apply ay|apply a6|apply aV)|exact PA.out.b|refine al ?_ PA.out.i)⟩
  case true=>
  replace h:=h.out
  rw [if_pos rfl] at h
  go_upto_region 5 with (first|((with_reducible refine aH (N:=35) rfl ?_);(try (refine cS (by rfl) ?_;dsimp only));refine Kd.R_lit k28 _ 28 ?hg (N:=35) ?hd (xs:=([(⟨e0,e1⟩:S28),(⟨f0,f1⟩:S28),(⟨g0,g1⟩:S28)]:List (S28))) (inner:=[.int .i64 e0,.int .i64 e1,.int .i64 f0,.int .i64 f1,.int .i64 g0,.int .i64 g1]) (ok:=fun _=>True) (okp:=fun _=>True) ?hr ?hp (fun _ hk=>hk) trivial (Below.refl _ _) (Nat.le_refl _) (by simp) ?_;(case hd=>rfl);(case hg=>rfl);(case hr=>first|(go_simp;done)|(go_simp;rfl));(case hp=>exact (aY.c2 (show Kd.M k28 _ _ _ (⟨e0,e1⟩:S28) [.int .i64 e0,.int .i64 e1] from (aw _ _ _ (⟨e0,e1⟩:S28))) (aY.c2 (show Kd.M k28 _ _ _ (⟨f0,f1⟩:S28) [.int .i64 f0,.int .i64 f1] from (aw _ _ _ (⟨f0,f1⟩:S28))) (aY.c2 (show Kd.M k28 _ _ _ (⟨g0,g1⟩:S28) [.int .i64 g0,.int .i64 g1] from (aw _ _ _ (⟨g0,g1⟩:S28))) (aY.none _ _)))));intro vL wL hoL hb hg_ hnew_;clear hg_ hnew_;rw [← hy.out] at hoL;have HL:=aA.mk hoL;clear hoL;have m1:=aC.Pa.step PA hb;clear PA c1 c2 c3 c4 c5 c6 hb;have PA:=m1;clear m1;obtain ⟨c1,c2,c3,c4,c5,c6⟩:=aC.Pa.cells PA;obtain ⟨AL,kL,eL⟩:=Kd.R_slice HL.out;subst eL)|(go_at_call 33;(with_reducible refine (bI.calls k _ _ y _ _ ?side1 ?side2 A3.out).mono ?_);(case side1=>exact cR (Kd.R_reads' HL.out).2.2);(case side2=>exact (Kd.R_reads' HL.out).2.1);rintro e w9 ⟨rfl,hb⟩;have m1:=aC.Pa.step PA hb;clear PA c1 c2 c3 c4 c5 c6 hb;have PA:=m1;clear m1;obtain ⟨c1,c2,c3,c4,c5,c6⟩:=aC.Pa.cells PA;clear HL))
  (try simp only [Act.put,List.setIfInBounds_toArray,List.set_cons_zero,List.set_cons_succ])
  clear A3 hy
  unfold aC.main at h
  by_cases ze1:e1=0
  case pos=>
   rw [if_pos ze1] at h
   by_cases zo:f1=0∨g1=0
   ·
    rw [if_pos zo] at h;cases h
   rw [if_neg zo] at h
   have zf1:f1≠0:=fun q=>zo (Or.inl q)
   have zg1:g1≠0:=fun q=>zo (Or.inr q)
   have e1z:(e1 == 0)=true:=beq_iff_eq.mpr ze1
   have f1z:(f1 == 0)=false:=beq_eq_false_iff_ne.mpr zf1
   have g1z:(g1 == 0)=false:=beq_eq_false_iff_ne.mpr zg1
   clear ze1 zf1 zg1 zo
   unfold aC.two at h
   replace h:=Option.bind_eq_some_iff.mp h
   obtain ⟨v,A2,h⟩:=h
   replace A2:=aA.mk A2
   obtain ⟨n,hn⟩:∃ n_:Nat,n_=2:=⟨_,rfl⟩
   have HN:=aA.mk hn
   rw [← hn] at h
   clear hn
   replace h:=aA.mk h
   go_upto_region 6 with (first|(go_at_call 34;(refine (aC.del0n n HN.out e0 e1 f0 f1 g0 g1 _ 3 _ w9 _ (Nat.le_refl _) (by decide) ⟨heap_alloc_new _ _⟩ ⟨⟨rfl,rfl,rfl,rfl,rfl,rfl⟩⟩ (Nat.le_refl _) ⟨ay (Below.refl _ _) _⟩ e1z f1z g1z).mono ?_);rintro e w15 ⟨rfl,hj⟩;have hgo:=aC.mkGo PA hj A2 h (by rw [HN.out];decide);generalize w9.heap.size=gl at hgo ⊢;clear PA hj A2 h HN e1z f1z g1z c1 c2 c3 c4 c5 c6;clear w9))
   expose_names
   revert k p e0 e1 f0 f1 g0 g1 r1 r2 r3 r4 w y ge gf gg gr AL_1 kL_1 AL kL v n w15 gl hgo K
   exact hcutP.out
  rw [if_neg ze1] at h
  by_cases zf1:f1=0
  case pos=>
   rw [if_pos zf1] at h
   by_cases zg1:g1=0
   ·
    rw [if_pos zg1] at h;cases h
   rw [if_neg zg1] at h
   have e1z:(e1 == 0)=false:=beq_eq_false_iff_ne.mpr ze1
   have f1z:(f1 == 0)=true:=beq_iff_eq.mpr zf1
   have g1z:(g1 == 0)=false:=beq_eq_false_iff_ne.mpr zg1
   clear ze1 zf1 zg1
   unfold aC.two at h
   replace h:=Option.bind_eq_some_iff.mp h
   obtain ⟨v,A2,h⟩:=h
   replace A2:=aA.mk A2
   obtain ⟨n,hn⟩:∃ n_:Nat,n_=2:=⟨_,rfl⟩
   have HN:=aA.mk hn
   rw [← hn] at h
   clear hn
   replace h:=aA.mk h
   go_upto_region 6 with (first|(go_at_call 34;(refine (aC.del1n n HN.out e0 e1 f0 f1 g0 g1 _ 3 _ w9 _ (Nat.le_refl _) (by decide) ⟨heap_alloc_new _ _⟩ ⟨⟨rfl,rfl,rfl,rfl,rfl,rfl⟩⟩ (Nat.le_refl _) ⟨ay (Below.refl _ _) _⟩ e1z f1z g1z).mono ?_);rintro e w15 ⟨rfl,hj⟩;have hgo:=aC.mkGo PA hj A2 h (by rw [HN.out];decide);generalize w9.heap.size=gl at hgo ⊢;clear PA hj A2 h HN e1z f1z g1z c1 c2 c3 c4 c5 c6;clear w9))
   expose_names
   revert k p e0 e1 f0 f1 g0 g1 r1 r2 r3 r4 w y ge gf gg gr AL_1 kL_1 AL kL v n w15 gl hgo K
   exact hcutP.out
  rw [if_neg zf1] at h
  by_cases zg1:g1=0
  case pos=>
   rw [if_pos zg1] at h
   have e1z:(e1 == 0)=false:=beq_eq_false_iff_ne.mpr ze1
   have f1z:(f1 == 0)=false:=beq_eq_false_iff_ne.mpr zf1
   have g1z:(g1 == 0)=true:=beq_iff_eq.mpr zg1
   clear ze1 zf1 zg1
   unfold aC.two at h
   replace h:=Option.bind_eq_some_iff.mp h
   obtain ⟨v,A2,h⟩:=h
   replace A2:=aA.mk A2
   obtain ⟨n,hn⟩:∃ n_:Nat,n_=2:=⟨_,rfl⟩
   have HN:=aA.mk hn
   rw [← hn] at h
   clear hn
   replace h:=aA.mk h
   go_upto_region 6 with (first|(go_at_call 34;(refine (aC.del2n n HN.out e0 e1 f0 f1 g0 g1 _ 3 _ w9 _ (Nat.le_refl _) (by decide) ⟨heap_alloc_new _ _⟩ ⟨⟨rfl,rfl,rfl,rfl,rfl,rfl⟩⟩ (Nat.le_refl _) ⟨ay (Below.refl _ _) _⟩ e1z f1z g1z).mono ?_);rintro e w15 ⟨rfl,hj⟩;have hgo:=aC.mkGo PA hj A2 h (by rw [HN.out];decide);generalize w9.heap.size=gl at hgo ⊢;clear PA hj A2 h HN e1z f1z g1z c1 c2 c3 c4 c5 c6;clear w9))
   expose_names
   revert k p e0 e1 f0 f1 g0 g1 r1 r2 r3 r4 w y ge gf gg gr AL_1 kL_1 AL kL v n w15 gl hgo K
   exact hcutP.out
  rw [if_neg zg1] at h
  have e1z:(e1 == 0)=false:=beq_eq_false_iff_ne.mpr ze1
  have f1z:(f1 == 0)=false:=beq_eq_false_iff_ne.mpr zf1
  have g1z:(g1 == 0)=false:=beq_eq_false_iff_ne.mpr zg1
  clear ze1 zf1 zg1
  unfold aC.three at h
  replace h:=Option.bind_eq_some_iff.mp h
  obtain ⟨v,A2,h⟩:=h
  replace A2:=aA.mk A2
  obtain ⟨n,hn⟩:∃ n_:Nat,n_=3:=⟨_,rfl⟩
  have HN:=aA.mk hn
  rw [← hn] at h
  clear hn
  replace h:=aA.mk h
  go_upto_region 6 with (first|(go_at_call 34;(refine (aC.del9n n HN.out e0 e1 f0 f1 g0 g1 _ 3 _ w9 _ (Nat.le_refl _) (by decide) ⟨heap_alloc_new _ _⟩ ⟨⟨rfl,rfl,rfl,rfl,rfl,rfl⟩⟩ (Nat.le_refl _) ⟨ay (Below.refl _ _) _⟩ e1z f1z g1z).mono ?_);rintro e w15 ⟨rfl,hj⟩;have hgo:=aC.mkGo PA hj A2 h (by rw [HN.out];decide);generalize w9.heap.size=gl at hgo ⊢;clear PA hj A2 h HN e1z f1z g1z c1 c2 c3 c4 c5 c6;clear w9))
  expose_names
  revert k p e0 e1 f0 f1 g0 g1 r1 r2 r3 r4 w y ge gf gg gr AL_1 kL_1 AL kL v n w15 gl hgo K
  exact hcutP.out
def aC.T6:Bool × List (List Nat × List Nat):=(true,[([],[]),([0],[0]),([1],[1]),([],[]),([],[]),([4],[4]),([5],[5]),([],[]),([7],[7]),([8],[8]),([3,6,9],[3,6,9]),([],[]),([11,2,10,0,1,2,11],[2,11]),([10,12,0,1,2,3,4,5,6,7,8,9,10,11,12],[10])])
def aC.B6:List Nat:=[0,1,3,0,0,16,48,0,128,384,1016,0,4095,8191]
theorem aC.tab6:ck .any (dC Try.f7 6)=aC.T6:=by kernel_rfl
theorem aC.bits6:br aC.T6.2 aC.B6=true:=by kernel_rfl
set_option maxHeartbeats 8000000 in
set_option maxRecDepth 100000 in
theorem aC.cut1:aC.cut0.1:=by
 conv=>whnf
 intro k p e0 e1 f0 f1 g0 g1 r1 r2 r3 r4 w y Q' ge gf gg gr AL_1 kL_1 AL kL v n w15 gl hgo K hK
 obtain ⟨cur,x0,x1,x2,x3,x4,x5,PL,A2,h,HN⟩:=hgo
 replace PL:=aC.Pl.drew PL
 obtain ⟨d1,d2,d3,d4,d5,d6⟩:=aC.Pl.cells PL
 have m0:0<n:=by have:=HN.out;omega
 have m1:1<n:=by have:=HN.out;omega
 have m2:(0:Int)<(n:Int):=by have:=HN.out;omega
 have m3:(1:Int)<(n:Int):=by have:=HN.out;omega
 refine bf (n:=14) (S:=fun w'=>w'.cell? ⟨gl,0,none⟩=some (.int .i64 x0)∧w'.cell? ⟨gl,1,none⟩=some (.int .i64 x1)∧w'.cell? ⟨gl,2,none⟩=some (.int .i64 x2)∧w'.cell? ⟨gl,3,none⟩=some (.int .i64 x3)) (ds:=[]) #[Z,Z,Z,Z,Z,Z,Z,Z,Z,Z,Z,Z,Z,Z] (by kernel_rfl) rfl rfl ⟨d1,d2,d3,d4⟩ (fun hHeld=>?_)
 refine bH aC.tab6 aC.bits6 (fun HT_ HW_=>?_)
 clear d1 d2 d3 d4 d5 d6
 generalize w15.drew=w18 at PL hHeld ⊢
 refine puA (i:=0) (N:=some 44) #[Y,Z,Z,Z,Z,Z,Z,Z,Z,Z,Z,Z,Z,Z] rfl rfl HT_ ?_
 refine puA (i:=1) (N:=some 45) #[Y,Y,Z,Z,Z,Z,Z,Z,Z,Z,Z,Z,Z,Z] rfl rfl HT_ ?_
 refine puA (i:=3) (N:=some 47) #[Y,Y,Z,Y,Z,Z,Z,Z,Z,Z,Z,Z,Z,Z] rfl rfl HT_ ?_
 refine puA (i:=4) (N:=some 48) #[Y,Y,Z,Y,Y,Z,Z,Z,Z,Z,Z,Z,Z,Z] rfl rfl HT_ ?_
 refine puA (i:=5) (N:=some 49) #[Y,Y,Z,Y,Y,Y,Z,Z,Z,Z,Z,Z,Z,Z] rfl rfl HT_ ?_
 refine puA (i:=7) (N:=some 51) #[Y,Y,Z,Y,Y,Y,Z,Y,Z,Z,Z,Z,Z,Z] rfl rfl HT_ ?_
 refine puA (i:=8) (N:=some 52) #[Y,Y,Z,Y,Y,Y,Z,Y,Y,Z,Z,Z,Z,Z] rfl rfl HT_ ?_
 refine taA (i:=2) (N:=some 46) #[Y,Y,Y,Y,Y,Y,Z,Y,Y,Z,Z,Z,Z,Z] rfl rfl HT_ HW_ hHeld ?_
 refine taA (i:=6) (N:=some 50) #[Y,Y,Y,Y,Y,Y,Y,Y,Y,Z,Z,Z,Z,Z] rfl rfl HT_ HW_ hHeld ?_
 refine taA (i:=9) (N:=some 53) #[Y,Y,Y,Y,Y,Y,Y,Y,Y,Y,Z,Z,Z,Z] rfl rfl HT_ HW_ hHeld ?_
 clear m0 m1 m2 m3
 refine join_ (σ:=Nat) 2 #[Y,Y,Y,Y,Y,Y,Y,Y,Y,Y,Y,Y,Z,Z] (fun s_=>[(54,.int .i64 v),(11,.pointer (some ⟨s_,0,none⟩))]) (fun s_ w'=>(w'.cell? ⟨gl,0,none⟩=some (.int .i64 x0)∧w'.cell? ⟨gl,1,none⟩=some (.int .i64 x1)∧w'.cell? ⟨gl,2,none⟩=some (.int .i64 x2)∧w'.cell? ⟨gl,3,none⟩=some (.int .i64 x3))∧aC.Pm w cur x0 x1 x2 x3 x4 x5 0 0 gr gl s_ w') ?_ ?_
 rotate_left
 ·
  intro hJ
  refine two_ (i:=10) (j:=11) (Ni:=some 54) (Nj:=some 11) #[Y,Y,Y,Y,Y,Y,Y,Y,Y,Y,Y,Z,Z,Z] #[Y,Y,Y,Y,Y,Y,Y,Y,Y,Y,Z,Y,Z,Z] rfl rfl rfl rfl (two_of HT_.out (by kernel_rfl)) (by decide) (by decide) (fun K hK=>?_) (fun K hK=>?_)
  ·
   skip
   refine goC Try.func36 (bh.calls (w:=_) (h:=A2.out)) ?_
   intro w20 hb
   replace PL:=aC.Pl.step PL hb
   clear hb
   obtain ⟨d1,d2,d3,d4,d5,d6⟩:=aC.Pl.cells PL
   refine hK.out _ _ ⟨d1,d2,d3,d4⟩ (fun hHeld=>?_)
   clear hK K d1 d2 d3 d4 d5 d6
   refine nmA ?_
   refine bg (i:=11) (N:=some 11) #[Y,Y,Y,Y,Y,Y,Y,Y,Y,Y,Y,Y,Z,Z] rfl rfl (az HT_.out (by kernel_rfl)) (by decide) (fun K hK=>?_)
   refine df ?hg (N:=11) ?hd (cs:=#[.int .i64 0,.int .i64 0]) (t:=28) ?hr ?_
   case hd=>rfl
   case hg=>rfl
   case hr=>first|(go_simp;done)|(go_simp;rfl)
   intro gb hg w21 hbox hb
   have PM:aC.Pm w cur x0 x1 x2 x3 x4 x5 0 0 gr gl gb w21:=⟨aC.Pl.step PL hb,⟨hbox⟩,⟨aC.lt PL.out.l hg⟩⟩
   clear PL hb hbox hg
   obtain ⟨d1,d2,d3,d4,d5,d6⟩:=aC.Pl.cells PM.l
   refine hK.out _ _ ⟨d1,d2,d3,d4⟩ (fun hHeld=>?_)
   clear hK K d1 d2 d3 d4 d5 d6
   refine nmA ?_
   exact fA (by first|(simp only [da,Act.put,List.setIfInBounds_toArray,List.set_cons_zero,List.set_cons_succ];done)|(simp only [da,Act.put,List.setIfInBounds_toArray,List.set_cons_zero,List.set_cons_succ];rfl)) (hJ gb _ ⟨hHeld,PM⟩)
  ·
   skip
   refine df ?hg (N:=11) ?hd (cs:=#[.int .i64 0,.int .i64 0]) (t:=28) ?hr ?_
   case hd=>rfl
   case hg=>rfl
   case hr=>first|(go_simp;done)|(go_simp;rfl)
   intro gb hg w21 hbox hb
   have PM0:aC.Pm w cur x0 x1 x2 x3 x4 x5 0 0 gr gl gb w21:=⟨aC.Pl.step PL hb,⟨hbox⟩,⟨aC.lt PL.out.l hg⟩⟩
   clear PL hb hbox hg
   obtain ⟨d1,d2,d3,d4,d5,d6⟩:=aC.Pl.cells PM0.l
   refine hK.out _ _ ⟨d1,d2,d3,d4⟩ (fun hHeld=>?_)
   clear hK K d1 d2 d3 d4 d5 d6
   refine nmA ?_
   refine bg (i:=10) (N:=some 54) #[Y,Y,Y,Y,Y,Y,Y,Y,Y,Y,Y,Y,Z,Z] rfl rfl (az HT_.out (by kernel_rfl)) (by decide) (fun K hK=>?_)
   refine goC Try.func36 (bh.calls (w:=_) (h:=A2.out)) ?_
   intro w20 hb
   have PM:=aC.Pm.step PM0 hb
   clear hb PM0
   obtain ⟨d1,d2,d3,d4,d5,d6⟩:=aC.Pl.cells PM.l
   refine hK.out _ _ ⟨d1,d2,d3,d4⟩ (fun hHeld=>?_)
   clear hK K d1 d2 d3 d4 d5 d6
   refine nmA ?_
   exact fA (by first|(simp only [da,Act.put,List.setIfInBounds_toArray,List.set_cons_zero,List.set_cons_succ];done)|(simp only [da,Act.put,List.setIfInBounds_toArray,List.set_cons_zero,List.set_cons_succ];rfl)) (hJ gb _ ⟨hHeld,PM⟩)
 clear PL hHeld w18
 rintro gb w22 ⟨hHeld,PM⟩
 refine fA (a':=?_) ?_ ?_
 rotate_left
 ·
  simp only [da,Act.put,List.setIfInBounds_toArray,List.set_cons_zero,List.set_cons_succ]
  rfl
 refine bg (i:=12) (N:=none) #[Y,Y,Y,Y,Y,Y,Y,Y,Y,Y,Y,Y,Y,Z] rfl rfl (az HT_.out (by kernel_rfl)) (by decide) (fun K hK=>?_)
 have q0:=(aT PM.d.out 0).trans rfl
 have q1:=(aT PM.d.out 1).trans rfl
 have q2:=aQ PM.d.out 0
 have q3:=aQ PM.d.out 1
 refine dp (w1:=?_) (by rfl) rfl ?_ ?_
 rotate_left
 ·
  go_simp
  rfl
 clear q0 q1 q2 q3
 replace PM:=aC.Pm.put x0 x1 PM
 obtain ⟨d1,d2,d3,d4,d5,d6⟩:=aC.Pl.cells PM.l
 refine hK.out _ _ ⟨d1,d2,d3,d4⟩ (fun hHeld=>?_)
 clear hK K d1 d2 d3 d4 d5 d6 hHeld
 refine puA (i:=13) (N:=some 12) #[Y,Y,Y,Y,Y,Y,Y,Y,Y,Y,Y,Y,Y,Y] rfl rfl HT_ ?_
 refine cL (bX HT_.out (by kernel_rfl)) ?_
 go_wp2
 refine aC.nm (A:=aC.Pm w cur x0 x1 x2 x3 x4 x5 x0 x1 gr gl gb) (B:=fun w'=>Code.wp _ _ _ _ w') PM ?_
 clear PM A2
 intro w17 PM
 replace h:=h.out
 unfold aC.tail at h
 replace h:=Option.bind_eq_some_iff.mp h
 obtain ⟨u,A2,h⟩:=h
 replace A2:=aA.mk A2
 by_cases zz:v<u
 case pos=>rw [if_pos zz] at h;cases h
 rw [if_neg zz] at h
 have k0:decide (v<u)=false:=decide_eq_false zz
 clear zz
 rcases HN.out with hn|hn
 all_goals clear HN
 all_goals first|rw [if_pos hn] at h|(rw [if_neg (by omega)] at h;replace h:=Option.bind_eq_some_iff.mp h;obtain ⟨x,A3,h⟩:=h;replace h:=Option.bind_eq_some_iff.mp h;obtain ⟨y2,A4,h⟩:=h;replace A3:=aA.mk A3;replace A4:=aA.mk A4;by_cases c1:v<x <;> by_cases c2:x<y2 <;> by_cases c3:v<y2)
 all_goals subst hn
 all_goals try (first|have k1:decide (v<x)=true:=decide_eq_true c1|have k1:decide (v<x)=false:=decide_eq_false c1)
 all_goals try (first|have k2:decide (x<y2)=true:=decide_eq_true c2|have k2:decide (x<y2)=false:=decide_eq_false c2)
 all_goals try (first|have k3:decide (v<y2)=true:=decide_eq_true c3|have k3:decide (v<y2)=false:=decide_eq_false c3)
 all_goals try rw [if_pos c1] at h
 all_goals try rw [if_neg c1] at h
 all_goals try rw [if_pos c2] at h
 all_goals try rw [if_neg c2] at h
 all_goals try rw [if_pos c3] at h
 all_goals try rw [if_neg c3] at h
 all_goals try clear c1 c2 c3
 all_goals replace h:=aA.mk h
 all_goals
  refine wp_loop_rounds 4 ?_
  rw [rounds_succ]
  obtain ⟨d1,d2,d3,d4,d5,d6⟩:=aC.Pl.cells PM.l
  go_upto_region 10 with ((with_reducible refine aH (N:=14) rfl ?_);refine bxE (cs:=#[.int .i64 0,.int .i64 0]) (t:=28) ?_;intro gx hg w18 hbox hb;have GX:=aA.mk (aC.lt PM.d.out hg);have m1:=aC.Pm.step PM hb;clear PM d1 d2 d3 d4 d5 d6 hb;have PM:=m1;clear m1;have QX:=aA.mk hbox;have q0:=(aT QX.out 0).trans rfl;have q1:=(aT QX.out 1).trans rfl;have q2:=aQ QX.out 0;have q3:=aQ QX.out 1;clear hg hbox)
  refine aC.nm (A:=aC.Px w cur x0 x1 x2 x3 x4 x5 _ _ gr gl gb x0 x1 gx) (B:=fun w'=>Code.wp _ _ _ _ w') (aC.Px.mk0 x0 x1 PM QX GX) ?_
  clear PM QX GX q0 q1 q2 q3
  intro w18 PX
  obtain ⟨d1,d2,d3,d4,d5,d6⟩:=aC.Pl.cells PX.m.l;obtain ⟨⟨e0,e1⟩,f0,f1,f2,f3⟩:=aC.Px.cells PX
  go_wp2
  refine wp_loop_rounds 4 ?_
  rw [rounds_succ]
  go_wp2
  refine aC.nm (A:=aC.Pm w cur x0 x1 x2 x3 x4 x5 _ _ gr gl gb) (B:=fun w'=>Code.rounds _ _ _ _ _ w') PX.m ?_
  clear PX d1 d2 d3 d4 d5 d6 e0 e1 f0 f1 f2 f3
  intro w17 PM
  rw [rounds_succ]
  obtain ⟨d1,d2,d3,d4,d5,d6⟩:=aC.Pl.cells PM.l
  go_upto_region 10 with ((with_reducible refine aH (N:=14) rfl ?_);refine bxE (cs:=#[.int .i64 0,.int .i64 0]) (t:=28) ?_;intro gx hg w18 hbox hb;have GX:=aA.mk (aC.lt PM.d.out hg);have m1:=aC.Pm.step PM hb;clear PM d1 d2 d3 d4 d5 d6 hb;have PM:=m1;clear m1;have QX:=aA.mk hbox;have q0:=(aT QX.out 0).trans rfl;have q1:=(aT QX.out 1).trans rfl;have q2:=aQ QX.out 0;have q3:=aQ QX.out 1;clear hg hbox)
  refine aC.nm (A:=aC.Px w cur x0 x1 x2 x3 x4 x5 _ _ gr gl gb x2 x3 gx) (B:=fun w'=>Code.wp _ _ _ _ w') (aC.Px.mk0 x2 x3 PM QX GX) ?_
  clear PM QX GX q0 q1 q2 q3
  intro w18 PX
  obtain ⟨d1,d2,d3,d4,d5,d6⟩:=aC.Pl.cells PX.m.l;obtain ⟨⟨e0,e1⟩,f0,f1,f2,f3⟩:=aC.Px.cells PX
  go_wp2
  refine wp_loop_rounds 4 ?_
  rw [rounds_succ]
  go_wp2_with (first|((with_reducible refine aH (N:=16) rfl ?_);refine bxE (cs:=#[.int .i64 0,.int .i64 0]) (t:=28) ?_;intro gy hg w19 hbox hb;have GY:=aC.lt PX.x.out hg;have m1:=aC.Px.step PX hb;clear PX d1 d2 d3 d4 d5 d6 e0 e1 f0 f1 f2 f3 hb;have PX:=m1;clear m1;obtain ⟨d1,d2,d3,d4,d5,d6⟩:=aC.Pl.cells PX.m.l;obtain ⟨⟨e0,e1⟩,f0,f1,f2,f3⟩:=aC.Px.cells PX;have QY:=aA.mk hbox;have q0:=(aT QY.out 0).trans rfl;have q1:=(aT QY.out 1).trans rfl;have q2:=aQ QY.out 0;have q3:=aQ QY.out 1;clear hg hbox d1 d2 d3 d4 d5 d6)|(go_at_call 36;(with_reducible refine (bh.calls k p _ _ _ _ _ _ (aA.out (by with_reducible assumption))).mono ?_);rintro e w20 ⟨rfl,hb⟩;have m1:=aC.Px.step (aC.Px.set (aC.Px.set PX GY) GY) hb;clear PX e0 e1 f0 f1 f2 f3 q0 q1 q2 q3 QY GY hb;have PX:=m1;clear m1;obtain ⟨d1,d2,d3,d4,d5,d6⟩:=aC.Pl.cells PX.m.l;obtain ⟨⟨e0,e1⟩,f0,f1,f2,f3⟩:=aC.Px.cells PX;clear d1 d2 d3 d4 d5 d6))
  first|refine aC.nm (A:=aC.Px w cur x0 x1 x2 x3 x4 x5 _ _ gr gl gb _ _ gx) (B:=fun w'=>Code.rounds _ _ _ _ _ w') (aC.Px.put PX) ?_|refine aC.nm (A:=aC.Px w cur x0 x1 x2 x3 x4 x5 _ _ gr gl gb _ _ gx) (B:=fun w'=>Code.rounds _ _ _ _ _ w') PX ?_
  clear PX e0 e1 f0 f1 f2 f3
  intro w18 PX
  obtain ⟨d1,d2,d3,d4,d5,d6⟩:=aC.Pl.cells PX.m.l;obtain ⟨⟨e0,e1⟩,f0,f1,f2,f3⟩:=aC.Px.cells PX
  rw [rounds_succ]
  go_wp2
  refine aC.nm (A:=aC.Pm w cur x0 x1 x2 x3 x4 x5 _ _ gr gl gb) (B:=fun w'=>Code.rounds _ _ _ _ _ w') PX.m ?_
  clear PX d1 d2 d3 d4 d5 d6 e0 e1 f0 f1 f2 f3
  intro w17 PM
  try (rw [rounds_succ];obtain ⟨d1,d2,d3,d4,d5,d6⟩:=aC.Pl.cells PM.l;go_upto_region 10 with ((with_reducible refine aH (N:=14) rfl ?_);refine bxE (cs:=#[.int .i64 0,.int .i64 0]) (t:=28) ?_;intro gx hg w18 hbox hb;have GX:=aA.mk (aC.lt PM.d.out hg);have m1:=aC.Pm.step PM hb;clear PM d1 d2 d3 d4 d5 d6 hb;have PM:=m1;clear m1;have QX:=aA.mk hbox;have q0:=(aT QX.out 0).trans rfl;have q1:=(aT QX.out 1).trans rfl;have q2:=aQ QX.out 0;have q3:=aQ QX.out 1;clear hg hbox);refine aC.nm (A:=aC.Px w cur x0 x1 x2 x3 x4 x5 _ _ gr gl gb x4 x5 gx) (B:=fun w'=>Code.wp _ _ _ _ w') (aC.Px.mk0 x4 x5 PM QX GX) ?_;clear PM QX GX q0 q1 q2 q3;intro w18 PX;obtain ⟨d1,d2,d3,d4,d5,d6⟩:=aC.Pl.cells PX.m.l;obtain ⟨⟨e0,e1⟩,f0,f1,f2,f3⟩:=aC.Px.cells PX;go_wp2;refine wp_loop_rounds 4 ?_;rw [rounds_succ];go_wp2_with (first|((with_reducible refine aH (N:=16) rfl ?_);refine bxE (cs:=#[.int .i64 0,.int .i64 0]) (t:=28) ?_;intro gy hg w19 hbox hb;have GY:=aC.lt PX.x.out hg;have m1:=aC.Px.step PX hb;clear PX d1 d2 d3 d4 d5 d6 e0 e1 f0 f1 f2 f3 hb;have PX:=m1;clear m1;obtain ⟨d1,d2,d3,d4,d5,d6⟩:=aC.Pl.cells PX.m.l;obtain ⟨⟨e0,e1⟩,f0,f1,f2,f3⟩:=aC.Px.cells PX;have QY:=aA.mk hbox;have q0:=(aT QY.out 0).trans rfl;have q1:=(aT QY.out 1).trans rfl;have q2:=aQ QY.out 0;have q3:=aQ QY.out 1;clear hg hbox d1 d2 d3 d4 d5 d6)|(go_at_call 36;(with_reducible refine (bh.calls k p _ _ _ _ _ _ (aA.out (by with_reducible assumption))).mono ?_);rintro e w20 ⟨rfl,hb⟩;have m1:=aC.Px.step (aC.Px.set (aC.Px.set PX GY) GY) hb;clear PX e0 e1 f0 f1 f2 f3 q0 q1 q2 q3 QY GY hb;have PX:=m1;clear m1;obtain ⟨d1,d2,d3,d4,d5,d6⟩:=aC.Pl.cells PX.m.l;obtain ⟨⟨e0,e1⟩,f0,f1,f2,f3⟩:=aC.Px.cells PX;clear d1 d2 d3 d4 d5 d6));(first|refine aC.nm (A:=aC.Px w cur x0 x1 x2 x3 x4 x5 _ _ gr gl gb _ _ gx) (B:=fun w'=>Code.rounds _ _ _ _ _ w') (aC.Px.put PX) ?_|refine aC.nm (A:=aC.Px w cur x0 x1 x2 x3 x4 x5 _ _ gr gl gb _ _ gx) (B:=fun w'=>Code.rounds _ _ _ _ _ w') PX ?_);clear PX e0 e1 f0 f1 f2 f3;intro w18 PX;obtain ⟨d1,d2,d3,d4,d5,d6⟩:=aC.Pl.cells PX.m.l;obtain ⟨⟨e0,e1⟩,f0,f1,f2,f3⟩:=aC.Px.cells PX;rw [rounds_succ];go_wp2_with (first|((with_reducible refine aH (N:=16) rfl ?_);refine bxE (cs:=#[.int .i64 0,.int .i64 0]) (t:=28) ?_;intro gy hg w19 hbox hb;have GY:=aC.lt PX.x.out hg;have m1:=aC.Px.step PX hb;clear PX d1 d2 d3 d4 d5 d6 e0 e1 f0 f1 f2 f3 hb;have PX:=m1;clear m1;obtain ⟨d1,d2,d3,d4,d5,d6⟩:=aC.Pl.cells PX.m.l;obtain ⟨⟨e0,e1⟩,f0,f1,f2,f3⟩:=aC.Px.cells PX;have QY:=aA.mk hbox;have q0:=(aT QY.out 0).trans rfl;have q1:=(aT QY.out 1).trans rfl;have q2:=aQ QY.out 0;have q3:=aQ QY.out 1;clear hg hbox d1 d2 d3 d4 d5 d6)|(go_at_call 36;(with_reducible refine (bh.calls k p _ _ _ _ _ _ (aA.out (by with_reducible assumption))).mono ?_);rintro e w20 ⟨rfl,hb⟩;have m1:=aC.Px.step (aC.Px.set (aC.Px.set PX GY) GY) hb;clear PX e0 e1 f0 f1 f2 f3 q0 q1 q2 q3 QY GY hb;have PX:=m1;clear m1;obtain ⟨d1,d2,d3,d4,d5,d6⟩:=aC.Pl.cells PX.m.l;obtain ⟨⟨e0,e1⟩,f0,f1,f2,f3⟩:=aC.Px.cells PX;clear d1 d2 d3 d4 d5 d6));(first|refine aC.nm (A:=aC.Px w cur x0 x1 x2 x3 x4 x5 _ _ gr gl gb _ _ gx) (B:=fun w'=>Code.rounds _ _ _ _ _ w') (aC.Px.put PX) ?_|refine aC.nm (A:=aC.Px w cur x0 x1 x2 x3 x4 x5 _ _ gr gl gb _ _ gx) (B:=fun w'=>Code.rounds _ _ _ _ _ w') PX ?_);clear PX e0 e1 f0 f1 f2 f3;intro w18 PX;obtain ⟨d1,d2,d3,d4,d5,d6⟩:=aC.Pl.cells PX.m.l;obtain ⟨⟨e0,e1⟩,f0,f1,f2,f3⟩:=aC.Px.cells PX;rw [rounds_succ];go_wp2;refine aC.nm (A:=aC.Pm w cur x0 x1 x2 x3 x4 x5 _ _ gr gl gb) (B:=fun w'=>Code.rounds _ _ _ _ _ w') PX.m ?_;clear PX d1 d2 d3 d4 d5 d6 e0 e1 f0 f1 f2 f3;intro w17 PM)
  rw [rounds_succ]
  replace h:=h.out
  unfold aC.fin at h
  replace h:=Option.bind_eq_some_iff.mp h
  obtain ⟨⟨n0,n1,n2,ok⟩,A9,h⟩:=h
  replace A9:=aA.mk A9
  replace h:=aA.mk h
  have q0:=(aT PM.d.out 0).trans rfl
  have q1:=(aT PM.d.out 1).trans rfl
  go_upto_region 18 with fail
  skip
  repeat (first|(go_big_may;(first|(go_at_call 38;(with_reducible refine (bz.calls k p _ _ _ _ _ _ _ _ A9.out).mono ?_);rintro e w19 ⟨rfl,hb⟩;have m1:=aC.Pm.step PM hb;clear PM q0 q1 hb;have PM:=m1;clear m1)|(go_at_call 37;(with_reducible refine (dH.calls n0 n1 n2 ok r1 r2 r3 r4 _ h.out).mono ?_);rintro e w20 ⟨rfl,hb⟩;have m1:=aC.Pm.step PM hb;clear PM hb;have PM:=m1;clear m1;have QR:=aA.mk PM.l.out.r;obtain ⟨q1,q2,q3,q4,q5,q6⟩:=aC.res QR)))|go_values|go_skip|go_guarded|go_step|go_upon|dsimp only)
  refine bodyPost_ret (bC rfl _ _ gr 25 #[.int .i64 r1,.int .i64 r2,.int .i64 r3] (0,0) _ rfl (by refine dr ?_;refine bE (cs:=#[.int .i64 r1,.int .i64 r2,.int .i64 0]) ?_ 2 _ rfl;refine dr ?_;refine bE (cs:=#[.int .i64 r1,.int .i64 0,.int .i64 0]) ?_ 1 _ rfl;refine dr ?_;refine bE (cs:=#[.int .i64 0,.int .i64 0,.int .i64 0]) ?_ 0 _ rfl;(with_reducible repeat (first|refine cU ?_ _|refine aK ?_|refine cV ?_ _));exact QR.out) Try.underlying25 rfl (by kernel_rfl)) rfl ?_
  exact ⟨rfl,by repeat (first|(with_reducible first|exact PM.l.out.b|apply a6|apply ay|apply aV)|exact PM.l.out.b|refine al ?_ PM.l.out.i)⟩
set_option maxHeartbeats 8000000 in
set_option maxRecDepth 100000 in
theorem aC.calls (k:Nat) (p e0 e1 f0 f1 g0 g1 r1 r2 r3 r4:Int) (w:World) (h:aC.f k p e0 e1 f0 f1 g0 g1=some (r1,r2,r3,r4)) :
  Calls Try.prog 7 #[.int .i64 p,.agg #[.int .i64 e0,.int .i64 e1],.agg #[.int .i64 f0,.int .i64 f1],.agg #[.int .i64 g0,.int .i64 g1]] w fun e w'=>e=.returned (.tuple #[.agg #[.int .i64 r1,.int .i64 r2,.int .i64 r3],.int .i64 r4])∧Below w.heap.size w w':=aC.cut0.2 (aA.mk aC.cut1) k p e0 e1 f0 f1 g0 g1 r1 r2 r3 r4 w h
end Go.Proofs.Ytpihnmmoahplgaa.PAll
