-- turned out of the kit's print
import Derived.Test.YtpihnmmoahplgaaQx
import Derived.Test.YtpihnmmoahplgaaQspecl01Of
import Derived.Test.YtpihnmmoahplgaaQspecl05Code
import Derived.Test.YtpihnmmoahplgaaQspecl05Gap
namespace Go.Proofs.Ytpihnmmoahplgaa.PAll
open Go.RowKit Go.Proofs.YtpihnmmoahplgaaW.PrintWords Go.Proofs.YtpihnmmoahplgaaW.PrintLast Go.Proofs.YtpihnmmoahplgaaW.PrintMore
attribute [local go_sem] Go.Proofs.Ytpihnmmoahplgaa.Aux.setCell_drewN Go.Proofs.Ytpihnmmoahplgaa.Aux.isSome_setCell Go.Proofs.Ytpihnmmoahplgaa.Aux.max_eight max2_int min2_int max_two min_two max_three min_three max_four min_four
set_option linter.unusedVariables false
set_option linter.unusedSimpArgs false
def spec_MeetingOf.fin (k:Nat) (p n d g:Int):Option (Int × Int × Int × Int):=(spec_l01Of.f k p n d g).bind fun b=>if b.2.2.2=true then some (b.1,b.2.1,b.2.2.1,0) else some (0,0,0,3)
def spec_MeetingOf.two (k:Nat) (p a0 a1 b0 b1:Int):Option (Int × Int × Int × Int):=(spec_l05Gap.f k p a0 a1 b0 b1).bind fun g=>spec_MeetingOf.fin k p a0 a1 g
def spec_MeetingOf.three (k:Nat) (p e0 e1 f0 f1 g0 g1:Int):Option (Int × Int × Int × Int):=(spec_l05Gap.f k p f0 f1 e0 e1).bind fun v=>(spec_l05Gap.f k p g0 g1 e0 e1).bind fun x=>(spec_l05Gap.f k p g0 g1 f0 f1).bind fun y=>if v<x then (if x<y then spec_MeetingOf.fin k p g0 g1 y else spec_MeetingOf.fin k p g0 g1 x) else (if v<y then spec_MeetingOf.fin k p g0 g1 y else spec_MeetingOf.fin k p f0 f1 v)
def spec_MeetingOf.main (k:Nat) (p e0 e1 f0 f1 g0 g1:Int):Option (Int × Int × Int × Int):=if e1=0 then (if f1=0∨g1=0 then none else spec_MeetingOf.two k p g0 g1 f0 f1) else if f1=0 then (if g1=0 then none else spec_MeetingOf.two k p g0 g1 e0 e1) else if g1=0 then spec_MeetingOf.two k p f0 f1 e0 e1 else spec_MeetingOf.three k p e0 e1 f0 f1 g0 g1
def spec_MeetingOf.f (k:Nat) (p e0 e1 f0 f1 g0 g1:Int):Option (Int × Int × Int × Int):=(spec_l05Code.f k p [] [⟨e0,e1⟩,⟨f0,f1⟩,⟨g0,g1⟩]).bind fun c=>if c=0 then spec_MeetingOf.main k p e0 e1 f0 f1 g0 g1 else some (0,0,0,c)
theorem spec_MeetingOf.fin_mono (p n d g:Int) (k:Nat):LeO (spec_MeetingOf.fin k p n d g) (spec_MeetingOf.fin (k+1) p n d g):=by
 unfold spec_MeetingOf.fin
 exact LeO.bind (spec_l01Of.mono _ _ _ _ k) fun _=>LeO.refl _
theorem spec_MeetingOf.two_mono (p a0 a1 b0 b1:Int) (k:Nat):LeO (spec_MeetingOf.two k p a0 a1 b0 b1) (spec_MeetingOf.two (k+1) p a0 a1 b0 b1):=by
 unfold spec_MeetingOf.two
 repeat' first
  | (with_reducible exact LeO.none _)
  | (with_reducible exact spec_MeetingOf.fin_mono _ _ _ _ _)
  | (with_reducible exact spec_l05Gap.mono _ _ _ _ _ _)
  | (with_reducible refine LeO.ite ?_ ?_)
  | (with_reducible refine LeO.bind ?_ (fun _=>?_))
theorem spec_MeetingOf.three_mono (p e0 e1 f0 f1 g0 g1:Int) (k:Nat):LeO (spec_MeetingOf.three k p e0 e1 f0 f1 g0 g1) (spec_MeetingOf.three (k+1) p e0 e1 f0 f1 g0 g1):=by
 unfold spec_MeetingOf.three
 repeat' first
  | (with_reducible exact LeO.none _)
  | (with_reducible exact spec_MeetingOf.fin_mono _ _ _ _ _)
  | (with_reducible exact spec_l05Gap.mono _ _ _ _ _ _)
  | (with_reducible refine LeO.ite ?_ ?_)
  | (with_reducible refine LeO.bind ?_ (fun _=>?_))
theorem spec_MeetingOf.main_mono (p e0 e1 f0 f1 g0 g1:Int) (k:Nat):LeO (spec_MeetingOf.main k p e0 e1 f0 f1 g0 g1) (spec_MeetingOf.main (k+1) p e0 e1 f0 f1 g0 g1):=by
 unfold spec_MeetingOf.main
 repeat' first
  | (with_reducible exact LeO.none _)
  | (with_reducible exact spec_MeetingOf.two_mono _ _ _ _ _ _)
  | (with_reducible exact spec_MeetingOf.three_mono _ _ _ _ _ _ _ _)
  | (with_reducible refine LeO.ite ?_ ?_)
theorem spec_MeetingOf.mono:∀ a0 a1 a2 a3 a4 a5 a6 k,LeO (spec_MeetingOf.f k a0 a1 a2 a3 a4 a5 a6) (spec_MeetingOf.f (k+1) a0 a1 a2 a3 a4 a5 a6):=by
 intro a0 a1 a2 a3 a4 a5 a6 k
 unfold spec_MeetingOf.f
 repeat' first
  | with_reducible first|exact spec_MeetingOf.main_mono ..|exact spec_l05Code.mono ..|exact LeO.refl _|exact LeO.none _|refine LeO.ite ?_ ?_|refine LeO.bind ?_ fun _=>?_
structure spec_MeetingOf.Pa (w0 w:World) (e0 e1 f0 f1 g0 g1:Int) (ge gf gg gr:Nat):Prop where
 e:w.heap[ge]?=some (.cells #[.int .i64 e0,.int .i64 e1] 28 (0,0))
 f:w.heap[gf]?=some (.cells #[.int .i64 f0,.int .i64 f1] 28 (0,0))
 g:w.heap[gg]?=some (.cells #[.int .i64 g0,.int .i64 g1] 28 (0,0))
 r:w.heap[gr]?=some (.cells #[.int .i64 0,.int .i64 0,.int .i64 0] 25 (0,0))
 i:w0.heap.size≤gr
 b:Below w0.heap.size w0 w
theorem spec_MeetingOf.Pa.step {w0 w w1:World} {e0 e1 f0 f1 g0 g1:Int} {ge gf gg gr:Nat} (h:Aside0 (spec_MeetingOf.Pa w0 w e0 e1 f0 f1 g0 g1 ge gf gg gr)) (hb:Below w.heap.size w w1):Aside0 (spec_MeetingOf.Pa w0 w1 e0 e1 f0 f1 g0 g1 ge gf gg gr):=⟨⟨blk_below h.out.e hb,blk_below h.out.f hb,blk_below h.out.g hb,blk_below h.out.r hb,h.out.i,below_step h.out.b hb⟩⟩
theorem spec_MeetingOf.Pa.cells {w0 w:World} {e0 e1 f0 f1 g0 g1:Int} {ge gf gg gr:Nat} (h:Aside0 (spec_MeetingOf.Pa w0 w e0 e1 f0 f1 g0 g1 ge gf gg gr)):w.cell? ⟨ge,0,none⟩=some (.int .i64 e0)∧w.cell? ⟨ge,1,none⟩=some (.int .i64 e1)∧w.cell? ⟨gf,0,none⟩=some (.int .i64 f0)∧w.cell? ⟨gf,1,none⟩=some (.int .i64 f1)∧w.cell? ⟨gg,0,none⟩=some (.int .i64 g0)∧w.cell? ⟨gg,1,none⟩=some (.int .i64 g1):=⟨blk_cell h.out.e 0,blk_cell h.out.e 1,blk_cell h.out.f 0,blk_cell h.out.f 1,blk_cell h.out.g 0,blk_cell h.out.g 1⟩
theorem spec_MeetingOf.res {w:World} {gr:Nat} {a b c:Int} (h:Aside0 (w.heap[gr]?=some (.cells #[.int .i64 a,.int .i64 b,.int .i64 c] 25 (0,0)))):w.cell? ⟨gr,0,none⟩=some (.int .i64 a)∧w.cell? ⟨gr,1,none⟩=some (.int .i64 b)∧w.cell? ⟨gr,2,none⟩=some (.int .i64 c)∧w.frozen? ⟨gr,0,none⟩=false∧w.frozen? ⟨gr,1,none⟩=false∧w.frozen? ⟨gr,2,none⟩=false:=⟨blk_cell h.out 0,blk_cell h.out 1,blk_cell h.out 2,blk_frozen h.out 0,blk_frozen h.out 1,blk_frozen h.out 2⟩
theorem spec_MeetingOf.nm {A B:World→Prop} {W:World} (h:A W) (k:∀ w',A w'→B w'):B W:=k W h
theorem spec_MeetingOf.lt {w:World} {g g':Nat} {o:Obj} (h:w.heap[g]?=some o) (hg:g'=w.heap.size):g<g':=by rw [hg];exact (Array.getElem?_eq_some_iff.mp h).1
structure spec_MeetingOf.Pb (w0 w:World) (x0 x1 x2 x3 x4 x5 bn bd:Int) (gr gl gb:Nat):Prop where
 r:w.heap[gr]?=some (.cells #[.int .i64 0,.int .i64 0,.int .i64 0] 25 (0,0))
 l:w.heap[gl]?=some (.cells #[.int .i64 x0,.int .i64 x1,.int .i64 x2,.int .i64 x3,.int .i64 x4,.int .i64 x5] 57 (0,0))
 d:w.heap[gb]?=some (.cells #[.int .i64 bn,.int .i64 bd] 28 (0,0))
 i:w0.heap.size≤gr
 rl:gr<gl
 lb:gl<gb
 b:Below w0.heap.size w0 w
theorem spec_MeetingOf.Pb.step {w0 w w1:World} {x0 x1 x2 x3 x4 x5 bn bd:Int} {gr gl gb:Nat} (h:Aside0 (spec_MeetingOf.Pb w0 w x0 x1 x2 x3 x4 x5 bn bd gr gl gb)) (hb:Below w.heap.size w w1):Aside0 (spec_MeetingOf.Pb w0 w1 x0 x1 x2 x3 x4 x5 bn bd gr gl gb):=⟨⟨blk_below h.out.r hb,blk_below h.out.l hb,blk_below h.out.d hb,h.out.i,h.out.rl,h.out.lb,below_step h.out.b hb⟩⟩
def spec_MeetingOf.Sz (w0:World) (x0 x1 x2 x3 x4 x5 bn bd a b c:Int) (gr gl gb gz:Nat) (W:World):Prop:=Aside0 (spec_MeetingOf.Pb w0 W x0 x1 x2 x3 x4 x5 bn bd gr gl gb)∧Aside0 (W.heap[gz]?=some (.cells #[.int .i64 a,.int .i64 b,.int .i64 c] 25 (0,0)))
theorem spec_MeetingOf.pz {w0 w:World} {x0 x1 x2 x3 x4 x5 bn bd:Int} {gr gl gb gz:Nat} (a b c:Int) (h:Aside0 (spec_MeetingOf.Pb w0 w x0 x1 x2 x3 x4 x5 bn bd gr gl gb)) (hz:Aside0 (w.heap[gz]?=some (.cells #[.int .i64 0,.int .i64 0,.int .i64 0] 25 (0,0)))) (hg:Aside0 (w0.heap.size≤gz)) (hl:Aside0 (gb<gz)):spec_MeetingOf.Sz w0 x0 x1 x2 x3 x4 x5 bn bd a b c gr gl gb gz (((w.setCell ⟨gz,0,none⟩ (.int .i64 a)).setCell ⟨gz,1,none⟩ (.int .i64 b)).setCell ⟨gz,2,none⟩ (.int .i64 c)):=by
 have h1:=h.out.i
 have h2:=h.out.rl
 have h3:=h.out.lb
 have h4:=hl.out
 have n1:gr≠gz:=by omega
 have n2:gl≠gz:=by omega
 have n3:gb≠gz:=by omega
 exact ⟨⟨⟨blk_far (blk_far (blk_far h.out.r n1 _) n1 _) n1 _,blk_far (blk_far (blk_far h.out.l n2 _) n2 _) n2 _,blk_far (blk_far (blk_far h.out.d n3 _) n3 _) n3 _,h1,h2,h3,below_set (below_set (below_set h.out.b hg.out) hg.out) hg.out⟩⟩,⟨blk_put (blk_put (blk_put hz.out 0 _ rfl) 1 _ rfl) 2 _ rfl⟩⟩
theorem spec_MeetingOf.Pb.drew {w0 w:World} {x0 x1 x2 x3 x4 x5 bn bd:Int} {gr gl gb:Nat} (h:Aside0 (spec_MeetingOf.Pb w0 w x0 x1 x2 x3 x4 x5 bn bd gr gl gb)):Aside0 (spec_MeetingOf.Pb w0 w.drew x0 x1 x2 x3 x4 x5 bn bd gr gl gb):=spec_MeetingOf.Pb.step h (below_drew (Below.refl _ _))
theorem spec_MeetingOf.Pb.cells {w0 w:World} {x0 x1 x2 x3 x4 x5 bn bd:Int} {gr gl gb:Nat} (h:Aside0 (spec_MeetingOf.Pb w0 w x0 x1 x2 x3 x4 x5 bn bd gr gl gb)):w.cell? ⟨gl,0,none⟩=some (.int .i64 x0)∧w.cell? ⟨gl,1,none⟩=some (.int .i64 x1)∧w.cell? ⟨gl,2,none⟩=some (.int .i64 x2)∧w.cell? ⟨gl,3,none⟩=some (.int .i64 x3)∧w.cell? ⟨gl,4,none⟩=some (.int .i64 x4)∧w.cell? ⟨gl,5,none⟩=some (.int .i64 x5)∧w.cell? ⟨gb,0,none⟩=some (.int .i64 bn)∧w.cell? ⟨gb,1,none⟩=some (.int .i64 bd)∧w.frozen? ⟨gb,0,none⟩=false∧w.frozen? ⟨gb,1,none⟩=false:=⟨blk_cell h.out.l 0,blk_cell h.out.l 1,blk_cell h.out.l 2,blk_cell h.out.l 3,blk_cell h.out.l 4,blk_cell h.out.l 5,blk_cell h.out.d 0,blk_cell h.out.d 1,blk_frozen h.out.d 0,blk_frozen h.out.d 1⟩
theorem spec_MeetingOf.Pb.put {w0 w:World} {x0 x1 x2 x3 x4 x5 bn bd a b:Int} {gr gl gb:Nat} (h:Aside0 (spec_MeetingOf.Pb w0 w x0 x1 x2 x3 x4 x5 bn bd gr gl gb)):Aside0 (spec_MeetingOf.Pb w0 ((w.setCell ⟨gb,0,none⟩ (.int .i64 a)).setCell ⟨gb,1,none⟩ (.int .i64 b)) x0 x1 x2 x3 x4 x5 a b gr gl gb):=by
 have h1:=h.out.i
 have h2:=h.out.rl
 have h3:=h.out.lb
 have n1:gr≠gb:=by omega
 have n2:gl≠gb:=by omega
 have n3:w0.heap.size≤gb:=by omega
 exact ⟨⟨blk_far (blk_far h.out.r n1 _) n1 _,blk_far (blk_far h.out.l n2 _) n2 _,blk_put (blk_put h.out.d 0 _ rfl) 1 _ rfl,h1,h2,h3,below_set (below_set h.out.b n3) n3⟩⟩
theorem spec_MeetingOf.pb0 {w0 w:World} {e0 e1 f0 f1 g0 g1:Int} {gr gl gb:Nat} (hr:w.heap[gr]?=some (.cells #[.int .i64 0,.int .i64 0,.int .i64 0] 25 (0,0))) (hl:w.heap[gl]?=some (.cells #[.int .i64 0,.int .i64 0,.int .i64 0,.int .i64 0,.int .i64 0,.int .i64 0] 57 (0,0))) (hd:w.heap[gb]?=some (.cells #[.int .i64 0,.int .i64 0] 28 (0,0))) (h1:w0.heap.size≤gr) (h2:gr<gl) (h3:gl<gb) (hB:Below w0.heap.size w0 w) :
  Aside0 (spec_MeetingOf.Pb w0 ((((((((w.setCell ⟨gl,0,none⟩ (.int .i64 e0)).setCell ⟨gl,1,none⟩ (.int .i64 e1)).setCell ⟨gl,2,none⟩ (.int .i64 f0)).setCell ⟨gl,3,none⟩ (.int .i64 f1)).setCell ⟨gl,4,none⟩ (.int .i64 g0)).setCell ⟨gl,5,none⟩ (.int .i64 g1)).setCell ⟨gb,0,none⟩ (.int .i64 0)).setCell ⟨gb,1,none⟩ (.int .i64 0)) e0 e1 f0 f1 g0 g1 0 0 gr gl gb):=by
 have ha:∀ {W:World} {cs:Array Value} {t:TypeId} {x:Value} {j g g':Nat},W.heap[g]?=some (.cells cs t (0,0))→g≠g'→(W.setCell ⟨g',j,none⟩ x).heap[g]?=some (.cells cs t (0,0)):=fun {W cs t x j g g'} h hn=>blk_far (p:=⟨g',j,none⟩) h hn _
 have hs:∀ {W:World} {x:Value} {j g:Nat},w0.heap.size≤g→Below w0.heap.size w0 W→Below w0.heap.size w0 (W.setCell ⟨g,j,none⟩ x):=fun h hb=>below_set hb h
 refine ⟨⟨?_,?_,?_,h1,h2,h3,?_⟩⟩
 ·
  exact ha (ha (ha (ha (ha (ha (ha (ha hr (by omega)) (by omega)) (by omega)) (by omega)) (by omega)) (by omega)) (by omega)) (by omega)
 ·
  exact ha (ha (blk_put (blk_put (blk_put (blk_put (blk_put (blk_put hl 0 _ rfl) 1 _ rfl) 2 _ rfl) 3 _ rfl) 4 _ rfl) 5 _ rfl) (by omega)) (by omega)
 ·
  exact blk_put (blk_put (ha (ha (ha (ha (ha (ha hd (by omega)) (by omega)) (by omega)) (by omega)) (by omega)) (by omega)) 0 _ rfl) 1 _ rfl
 ·
  exact hs (by omega) (hs (by omega) (hs (by omega) (hs (by omega) (hs (by omega) (hs (by omega) (hs (by omega) (hs (by omega) hB)))))))
theorem spec_MeetingOf.six {w:World} {g:Nat} (h:Aside0 (w.heap[g]?=some (.cells #[.int .i64 0,.int .i64 0,.int .i64 0,.int .i64 0,.int .i64 0,.int .i64 0] 57 (0,0)))):(w.cell? ⟨g,0,none⟩=some (.int .i64 0)∧w.frozen? ⟨g,0,none⟩=false)∧(w.cell? ⟨g,1,none⟩=some (.int .i64 0)∧w.frozen? ⟨g,1,none⟩=false)∧(w.cell? ⟨g,2,none⟩=some (.int .i64 0)∧w.frozen? ⟨g,2,none⟩=false)∧(w.cell? ⟨g,3,none⟩=some (.int .i64 0)∧w.frozen? ⟨g,3,none⟩=false)∧(w.cell? ⟨g,4,none⟩=some (.int .i64 0)∧w.frozen? ⟨g,4,none⟩=false)∧(w.cell? ⟨g,5,none⟩=some (.int .i64 0)∧w.frozen? ⟨g,5,none⟩=false):=⟨⟨blk_cell h.out 0,blk_frozen h.out 0⟩,⟨blk_cell h.out 1,blk_frozen h.out 1⟩,⟨blk_cell h.out 2,blk_frozen h.out 2⟩,⟨blk_cell h.out 3,blk_frozen h.out 3⟩,⟨blk_cell h.out 4,blk_frozen h.out 4⟩,⟨blk_cell h.out 5,blk_frozen h.out 5⟩⟩
theorem spec_MeetingOf.two' {w:World} {g:Nat} {a b:Int} (h:Aside0 (w.heap[g]?=some (.cells #[.int .i64 a,.int .i64 b] 28 (0,0)))):w.cell? ⟨g,0,none⟩=some (.int .i64 a)∧w.cell? ⟨g,1,none⟩=some (.int .i64 b)∧w.frozen? ⟨g,0,none⟩=false∧w.frozen? ⟨g,1,none⟩=false:=⟨blk_cell h.out 0,blk_cell h.out 1,blk_frozen h.out 0,blk_frozen h.out 1⟩
set_option maxHeartbeats 8000000 in
set_option maxRecDepth 100000 in
theorem spec_MeetingOf.calls (k:Nat) (p e0 e1 f0 f1 g0 g1 r1 r2 r3 r4:Int) (w:World) (h:spec_MeetingOf.f k p e0 e1 f0 f1 g0 g1=some (r1,r2,r3,r4)) :
  Calls Try.prog 5 #[.int .i64 p,.agg #[.int .i64 e0,.int .i64 e1],.agg #[.int .i64 f0,.int .i64 f1],.agg #[.int .i64 g0,.int .i64 g1]] w fun e w'=>e=.returned (.tuple #[.agg #[.int .i64 r1,.int .i64 r2,.int .i64 r3],.int .i64 r4])∧Below w.heap.size w w':=by
 unfold spec_MeetingOf.f at h
 obtain ⟨y,hy⟩:∃ y_:List S28,y_=[(⟨e0,e1⟩:S28),(⟨f0,f1⟩:S28),(⟨g0,g1⟩:S28)]:=⟨_,rfl⟩
 rw [← hy] at h
 replace hy:=Aside0.mk hy
 replace h:=Option.bind_eq_some_iff.mp h
 obtain ⟨c,A1,h⟩:=h
 replace A1:=Aside0.mk A1
 replace h:=Aside0.mk h
 have HB:=Aside0.mk (Below.refl w.heap.size w)
 go_enter Try.func5,Try.ntmps5
 go_upto_region 1 with (first|((with_reducible refine gate_dst (N:=5) rfl ?_);refine bxE (cs:=#[.int .i64 e0,.int .i64 e1]) (t:=28) ?_;intro ge hg w5 hbox hb;have QE:=Aside0.mk hbox;have m9:=Aside0.mk (below_step HB.out hb);clear HB;have HB:=m9;clear m9 hb hg hbox)|((with_reducible refine gate_dst (N:=6) rfl ?_);refine bxE (cs:=#[.int .i64 f0,.int .i64 f1]) (t:=28) ?_;intro gf hg w6 hbox hb;have m1:=Aside0.mk (blk_below QE.out hb);clear QE;have QE:=m1;clear m1;have QF:=Aside0.mk hbox;have m9:=Aside0.mk (below_step HB.out hb);clear HB;have HB:=m9;clear m9 hb hg hbox)|((with_reducible refine gate_dst (N:=7) rfl ?_);refine bxE (cs:=#[.int .i64 g0,.int .i64 g1]) (t:=28) ?_;intro gg hg w7 hbox hb;have m1:=Aside0.mk (blk_below QE.out hb);have m2:=Aside0.mk (blk_below QF.out hb);clear QE QF;have QE:=m1;have QF:=m2;clear m1 m2;have QG:=Aside0.mk hbox;have m9:=Aside0.mk (below_step HB.out hb);clear HB;have HB:=m9;clear m9 hb hg hbox)|((with_reducible refine gate_dst (N:=8) rfl ?_);refine bxE (cs:=#[.int .i64 0,.int .i64 0,.int .i64 0]) (t:=25) ?_;intro gr hg w8 hbox hb;have PA:Aside0 (spec_MeetingOf.Pa w w8 e0 e1 f0 f1 g0 g1 ge gf gg gr):=⟨⟨blk_below QE.out hb,blk_below QF.out hb,blk_below QG.out hb,hbox,by rw [hg];exact below_size HB.out,below_step HB.out hb⟩⟩;clear QE QF QG HB hb hg hbox))
 (try simp only [Act.put,List.setIfInBounds_toArray,List.set_cons_zero,List.set_cons_succ])
 obtain ⟨c1,c2,c3,c4,c5,c6⟩:=spec_MeetingOf.Pa.cells PA
 by_cases z:c=0
 case neg=>
  replace h:=h.out
  rw [if_neg z] at h
  simp only [Option.some.injEq,Prod.mk.injEq] at h
  obtain ⟨rfl,rfl,rfl,rfl⟩:=h
  have zb:(c != 0)=true:=by simpa using z
  have zc:(c == 0)=false:=by simpa using z
  clear z
  go_wp2_with (first|((with_reducible refine gate_dst (N:=24) rfl ?_);(try (refine gate_guard (by rfl) ?_;dsimp only));refine Kd.R_lit k28 _ 28 ?hg (N:=24) ?hd (xs:=([(⟨e0,e1⟩:S28),(⟨f0,f1⟩:S28),(⟨g0,g1⟩:S28)]:List (S28))) (inner:=[.int .i64 e0,.int .i64 e1,.int .i64 f0,.int .i64 f1,.int .i64 g0,.int .i64 g1]) (ok:=fun _=>True) (okp:=fun _=>True) ?hr ?hp (fun _ hk=>hk) trivial (Below.refl _ _) (Nat.le_refl _) (by simp) ?_;(case hd=>rfl);(case hg=>rfl);(case hr=>first|(go_simp;done)|(go_simp;rfl));(case hp=>exact (Reps.c2 (show Kd.M k28 _ _ _ (⟨e0,e1⟩:S28) [.int .i64 e0,.int .i64 e1] from (k28_mkM _ _ _ (⟨e0,e1⟩:S28))) (Reps.c2 (show Kd.M k28 _ _ _ (⟨f0,f1⟩:S28) [.int .i64 f0,.int .i64 f1] from (k28_mkM _ _ _ (⟨f0,f1⟩:S28))) (Reps.c2 (show Kd.M k28 _ _ _ (⟨g0,g1⟩:S28) [.int .i64 g0,.int .i64 g1] from (k28_mkM _ _ _ (⟨g0,g1⟩:S28))) (Reps.none _ _)))));intro vL wL hoL hb hg_ hnew_;clear hg_ hnew_;rw [← hy.out] at hoL;have HL:=Aside0.mk hoL;clear hoL;have m1:=spec_MeetingOf.Pa.step PA hb;clear PA c1 c2 c3 c4 c5 c6 hb;have PA:=m1;clear m1;obtain ⟨c1,c2,c3,c4,c5,c6⟩:=spec_MeetingOf.Pa.cells PA;obtain ⟨AL,kL,eL⟩:=Kd.R_slice HL.out;subst eL)|((with_reducible refine gate_callee (f:=28) rfl ?_);refine gL (some 25) rfl Try.func28 #[.int .i64 p,.slice none 0 0,.slice AL y.length kL] ?_;(refine (spec_l05Code.calls k p _ _ ([]:List S25) _ _ y _ _ ?side0 ?sideZ ?side1 ?side2 A1.out).mono ?_);(case side0=>exact Kd.C_nil _ _);(case sideZ=>exact Nat.le_refl _);(case side1=>exact cR (Kd.R_reads' HL.out).2.2);(case side2=>exact (Kd.R_reads' HL.out).2.1);rintro e w9 ⟨rfl,hb⟩;refine ⟨_,rfl,?_⟩;have m1:=spec_MeetingOf.Pa.step PA hb;clear PA c1 c2 c3 c4 c5 c6 hb;have PA:=m1;clear m1;obtain ⟨c1,c2,c3,c4,c5,c6⟩:=spec_MeetingOf.Pa.cells PA;clear HL;obtain ⟨q1,q2,q3,q4,q5,q6⟩:=spec_MeetingOf.res (Aside0.mk PA.out.r)))
  refine bodyPost_ret (results_ct rfl _ _ gr 25 #[.int .i64 0,.int .i64 0,.int .i64 0] (0,0) _ rfl (by refine dr ?_;refine blk_put (cs:=#[.int .i64 0,.int .i64 0,.int .i64 0]) ?_ 2 _ rfl;refine dr ?_;refine blk_put (cs:=#[.int .i64 0,.int .i64 0,.int .i64 0]) ?_ 1 _ rfl;refine dr ?_;refine blk_put (cs:=#[.int .i64 0,.int .i64 0,.int .i64 0]) ?_ 0 _ rfl;(with_reducible repeat (first|refine blk_drewN ?_ _|refine blk_drew ?_|refine blk_alloc ?_ _));exact PA.out.r) Try.underlying25 rfl (by kernel_rfl)) rfl ?_
  exact ⟨rfl,by repeat (first|(with_reducible first|exact PA.out.b|apply below_alloc|apply pw_below_drewN|apply below_drew1)|exact PA.out.b|refine below_set ?_ PA.out.i)⟩
 case pos=>
 subst z
 replace h:=h.out
 rw [if_pos rfl] at h
 replace h:=Aside0.mk h
 go_wp2_with (first|((with_reducible refine gate_dst (N:=24) rfl ?_);(try (refine gate_guard (by rfl) ?_;dsimp only));refine Kd.R_lit k28 _ 28 ?hg (N:=24) ?hd (xs:=([(⟨e0,e1⟩:S28),(⟨f0,f1⟩:S28),(⟨g0,g1⟩:S28)]:List (S28))) (inner:=[.int .i64 e0,.int .i64 e1,.int .i64 f0,.int .i64 f1,.int .i64 g0,.int .i64 g1]) (ok:=fun _=>True) (okp:=fun _=>True) ?hr ?hp (fun _ hk=>hk) trivial (Below.refl _ _) (Nat.le_refl _) (by simp) ?_;(case hd=>rfl);(case hg=>rfl);(case hr=>first|(go_simp;done)|(go_simp;rfl));(case hp=>exact (Reps.c2 (show Kd.M k28 _ _ _ (⟨e0,e1⟩:S28) [.int .i64 e0,.int .i64 e1] from (k28_mkM _ _ _ (⟨e0,e1⟩:S28))) (Reps.c2 (show Kd.M k28 _ _ _ (⟨f0,f1⟩:S28) [.int .i64 f0,.int .i64 f1] from (k28_mkM _ _ _ (⟨f0,f1⟩:S28))) (Reps.c2 (show Kd.M k28 _ _ _ (⟨g0,g1⟩:S28) [.int .i64 g0,.int .i64 g1] from (k28_mkM _ _ _ (⟨g0,g1⟩:S28))) (Reps.none _ _)))));intro vL wL hoL hb hg_ hnew_;clear hg_ hnew_;rw [← hy.out] at hoL;have HL:=Aside0.mk hoL;clear hoL;have m1:=spec_MeetingOf.Pa.step PA hb;clear PA c1 c2 c3 c4 c5 c6 hb;have PA:=m1;clear m1;obtain ⟨c1,c2,c3,c4,c5,c6⟩:=spec_MeetingOf.Pa.cells PA;obtain ⟨AL,kL,eL⟩:=Kd.R_slice HL.out;subst eL)|((with_reducible refine gate_callee (f:=28) rfl ?_);refine gL (some 25) rfl Try.func28 #[.int .i64 p,.slice none 0 0,.slice AL y.length kL] ?_;(refine (spec_l05Code.calls k p _ _ ([]:List S25) _ _ y _ _ ?side0 ?sideZ ?side1 ?side2 A1.out).mono ?_);(case side0=>exact Kd.C_nil _ _);(case sideZ=>exact Nat.le_refl _);(case side1=>exact cR (Kd.R_reads' HL.out).2.2);(case side2=>exact (Kd.R_reads' HL.out).2.1);rintro e w9 ⟨rfl,hb⟩;refine ⟨_,rfl,?_⟩;have m1:=spec_MeetingOf.Pa.step PA hb;clear PA c1 c2 c3 c4 c5 c6 hb;have PA:=m1;clear m1;obtain ⟨c1,c2,c3,c4,c5,c6⟩:=spec_MeetingOf.Pa.cells PA;clear HL)|((with_reducible refine gate_dst (N:=11) rfl ?_);refine bxE (cs:=#[.int .i64 0,.int .i64 0,.int .i64 0,.int .i64 0,.int .i64 0,.int .i64 0]) (t:=57) ?_;intro gl hg w11 hbox hb;have nrl:gr<gl:=spec_MeetingOf.lt PA.out.r hg;have QL:=Aside0.mk hbox;have m1:=spec_MeetingOf.Pa.step PA hb;clear PA c1 c2 c3 c4 c5 c6 hb;have PA:=m1;clear m1;obtain ⟨c1,c2,c3,c4,c5,c6⟩:=spec_MeetingOf.Pa.cells PA;have d1:=(blk_cell QL.out 0).trans rfl;clear d1 hg hbox)|((with_reducible refine gate_dst (N:=12) rfl ?_);refine bxE (cs:=#[.int .i64 0,.int .i64 0]) (t:=28) ?_;intro gb hg w12 hbox hb;have nlb:gl<gb:=spec_MeetingOf.lt QL.out hg;have m2:=Aside0.mk (blk_below QL.out hb);clear QL;have QL:=m2;clear m2;have QB:=Aside0.mk hbox;have m1:=spec_MeetingOf.Pa.step PA hb;clear PA c1 c2 c3 c4 c5 c6 hb;have PA:=m1;clear m1;obtain ⟨c1,c2,c3,c4,c5,c6⟩:=spec_MeetingOf.Pa.cells PA;clear hg hbox;obtain ⟨⟨l0,u0⟩,⟨l1,u1⟩,⟨l2,u2⟩,⟨l3,u3⟩,⟨l4,u4⟩,⟨l5,u5⟩⟩:=spec_MeetingOf.six QL;obtain ⟨b0,b1,b2,b3⟩:=spec_MeetingOf.two' QB))
 refine spec_MeetingOf.nm (A:=fun W=>Aside0 (spec_MeetingOf.Pb w W e0 e1 f0 f1 g0 g1 0 0 gr gl gb)) (B:=fun w'=>Code.wp _ _ _ _ w') (spec_MeetingOf.pb0 (w0:=w) PA.out.r QL.out QB.out PA.out.i nrl nlb PA.out.b) ?_
 clear PA c1 c2 c3 c4 c5 c6 QL QB nrl nlb l0 l1 l2 l3 l4 l5 u0 u1 u2 u3 u4 u5 b0 b1 b2 b3
 intro w13 PB
 obtain ⟨d1,d2,d3,d4,d5,d6,d7,d8,d9,d10⟩:=spec_MeetingOf.Pb.cells PB
 replace h:=h.out
 unfold spec_MeetingOf.main at h
 by_cases ze1:e1=0
 case pos=>
  rw [if_pos ze1] at h
  by_cases zo:f1=0∨g1=0
  ·
   rw [if_pos zo] at h;cases h
  rw [if_neg zo] at h
  have zf1:f1≠0:=fun q=>zo (Or.inl q)
  have zg1:g1≠0:=fun q=>zo (Or.inr q)
  have e1z:(e1 == 0)=true:=beq_iff_eq.mpr ze1
  have f1z:(f1 == 0)=false:=beq_eq_false_iff_ne.mpr zf1
  have g1z:(g1 == 0)=false:=beq_eq_false_iff_ne.mpr zg1
  clear ze1 zf1 zg1 zo
  unfold spec_MeetingOf.two at h
  replace h:=Option.bind_eq_some_iff.mp h
  obtain ⟨v,A2,h⟩:=h
  replace A2:=Aside0.mk A2
  replace h:=Aside0.mk h
  refine wp_loop_rounds 4 ?_
  rw [rounds_succ];go_wp2
  refine wp_loop_rounds 4 ?_
  rw [rounds_succ];go_wp2
  rw [rounds_succ];go_wp2
  refine wp_loop_rounds 4 ?_
  rw [rounds_succ]
  go_wp2
  try ((refine wp_region_still_tail 7 (by kernel_rfl) (by kernel_rfl) ?_);change wpStill _ _ w13.drew (fun a'=>wpList _ _ _ _ a' w13.drew) _ _;simp only [List.take_succ_cons,List.take_zero,List.drop_succ_cons,List.drop_zero];(repeat still_step);(refine wpStill_nil ?_);go_wp2_with (go_at_call 29;(with_reducible refine (spec_l05Gap.calls k p _ _ _ _ _ _ (Aside0.out (by with_reducible assumption))).mono ?_);rintro e w9 ⟨rfl,hb⟩;have m1:=spec_MeetingOf.Pb.step (spec_MeetingOf.Pb.drew PB) hb;clear PB d1 d2 d3 d4 d5 d6 d7 d8 d9 d10 hb;have PB:=m1;clear m1;obtain ⟨d1,d2,d3,d4,d5,d6,d7,d8,d9,d10⟩:=spec_MeetingOf.Pb.cells PB))
  (first|refine spec_MeetingOf.nm (A:=fun W=>Aside0 (spec_MeetingOf.Pb w W e0 e1 f0 f1 g0 g1 _ _ gr gl gb)) (B:=fun w'=>Code.rounds _ _ _ _ _ w') (spec_MeetingOf.Pb.put PB) ?_|refine spec_MeetingOf.nm (A:=fun W=>Aside0 (spec_MeetingOf.Pb w W e0 e1 f0 f1 g0 g1 _ _ gr gl gb)) (B:=fun w'=>Code.rounds _ _ _ _ _ w') PB ?_)
  clear PB d1 d2 d3 d4 d5 d6 d7 d8 d9 d10
  intro w13 PB
  obtain ⟨d1,d2,d3,d4,d5,d6,d7,d8,d9,d10⟩:=spec_MeetingOf.Pb.cells PB
  rw [rounds_succ];go_wp2
  rw [rounds_succ];go_wp2
  refine wp_loop_rounds 4 ?_
  rw [rounds_succ]
  go_wp2
  try ((refine wp_region_still_tail 7 (by kernel_rfl) (by kernel_rfl) ?_);change wpStill _ _ w13.drew (fun a'=>wpList _ _ _ _ a' w13.drew) _ _;simp only [List.take_succ_cons,List.take_zero,List.drop_succ_cons,List.drop_zero];(repeat still_step);(refine wpStill_nil ?_);go_wp2_with (go_at_call 29;(with_reducible refine (spec_l05Gap.calls k p _ _ _ _ _ _ (Aside0.out (by with_reducible assumption))).mono ?_);rintro e w9 ⟨rfl,hb⟩;have m1:=spec_MeetingOf.Pb.step (spec_MeetingOf.Pb.drew PB) hb;clear PB d1 d2 d3 d4 d5 d6 d7 d8 d9 d10 hb;have PB:=m1;clear m1;obtain ⟨d1,d2,d3,d4,d5,d6,d7,d8,d9,d10⟩:=spec_MeetingOf.Pb.cells PB))
  (first|refine spec_MeetingOf.nm (A:=fun W=>Aside0 (spec_MeetingOf.Pb w W e0 e1 f0 f1 g0 g1 _ _ gr gl gb)) (B:=fun w'=>Code.rounds _ _ _ _ _ w') (spec_MeetingOf.Pb.put PB) ?_|refine spec_MeetingOf.nm (A:=fun W=>Aside0 (spec_MeetingOf.Pb w W e0 e1 f0 f1 g0 g1 _ _ gr gl gb)) (B:=fun w'=>Code.rounds _ _ _ _ _ w') PB ?_)
  clear PB d1 d2 d3 d4 d5 d6 d7 d8 d9 d10
  intro w13 PB
  obtain ⟨d1,d2,d3,d4,d5,d6,d7,d8,d9,d10⟩:=spec_MeetingOf.Pb.cells PB
  rw [rounds_succ]
  go_wp2
  try ((refine wp_region_still_tail 7 (by kernel_rfl) (by kernel_rfl) ?_);change wpStill _ _ w13.drew (fun a'=>wpList _ _ _ _ a' w13.drew) _ _;simp only [List.take_succ_cons,List.take_zero,List.drop_succ_cons,List.drop_zero];(repeat still_step);(refine wpStill_nil ?_);go_wp2_with (go_at_call 29;(with_reducible refine (spec_l05Gap.calls k p _ _ _ _ _ _ (Aside0.out (by with_reducible assumption))).mono ?_);rintro e w9 ⟨rfl,hb⟩;have m1:=spec_MeetingOf.Pb.step (spec_MeetingOf.Pb.drew PB) hb;clear PB d1 d2 d3 d4 d5 d6 d7 d8 d9 d10 hb;have PB:=m1;clear m1;obtain ⟨d1,d2,d3,d4,d5,d6,d7,d8,d9,d10⟩:=spec_MeetingOf.Pb.cells PB))
  (first|refine spec_MeetingOf.nm (A:=fun W=>Aside0 (spec_MeetingOf.Pb w W e0 e1 f0 f1 g0 g1 _ _ gr gl gb)) (B:=fun w'=>Code.rounds _ _ _ _ _ w') (spec_MeetingOf.Pb.put PB) ?_|refine spec_MeetingOf.nm (A:=fun W=>Aside0 (spec_MeetingOf.Pb w W e0 e1 f0 f1 g0 g1 _ _ gr gl gb)) (B:=fun w'=>Code.rounds _ _ _ _ _ w') PB ?_)
  clear PB d1 d2 d3 d4 d5 d6 d7 d8 d9 d10
  intro w13 PB
  obtain ⟨d1,d2,d3,d4,d5,d6,d7,d8,d9,d10⟩:=spec_MeetingOf.Pb.cells PB
  rw [rounds_succ];go_wp2
  replace h:=h.out
  unfold spec_MeetingOf.fin at h
  replace h:=Option.bind_eq_some_iff.mp h
  obtain ⟨⟨n0,n1,n2,ok⟩,A9,h⟩:=h
  replace A9:=Aside0.mk A9
  cases ok
  all_goals
   first|rw [if_pos rfl] at h|rw [if_neg (show ¬ (false=true) from Bool.false_ne_true)] at h
   simp only [Option.some.injEq,Prod.mk.injEq] at h
   obtain ⟨rfl,rfl,rfl,rfl⟩:=h
   rw [rounds_succ]
   go_upto_region 18 with (first|(go_at_call 30;(with_reducible refine (spec_l01Of.calls k p _ _ _ _ _ _ _ _ A9.out).mono ?_);rintro e w15 ⟨rfl,hb⟩;have m1:=spec_MeetingOf.Pb.step PB hb;clear PB d1 d2 d3 d4 d5 d6 d7 d8 d9 d10 hb;have PB:=m1;clear m1;obtain ⟨d1,d2,d3,d4,d5,d6,d7,d8,d9,d10⟩:=spec_MeetingOf.Pb.cells PB)|((with_reducible refine gate_dst (N:=18) rfl ?_);refine bxE (cs:=#[.int .i64 0,.int .i64 0,.int .i64 0]) (t:=25) ?_;intro gz hg w16 hbox hb;have nrz:gr<gz:=spec_MeetingOf.lt PB.out.r hg;have nbz:gb<gz:=spec_MeetingOf.lt PB.out.d hg;have m1:=spec_MeetingOf.Pb.step PB hb;clear PB d1 d2 d3 d4 d5 d6 d7 d8 d9 d10 hb;have PB:=m1;have GZ:Aside0 (w.heap.size≤gz):=⟨Nat.le_of_lt (Nat.lt_of_le_of_lt PB.out.i nrz)⟩;have NZ:Aside0 (gr≠gz):=⟨Nat.ne_of_lt nrz⟩;have QZ:=Aside0.mk hbox;obtain ⟨q7,q8,q9,q10,q11,q12⟩:=spec_MeetingOf.res QZ;clear m1 hg hbox))
   refine spec_MeetingOf.nm (B:=fun w'=>Code.wp _ _ _ _ w') (spec_MeetingOf.pz n0 n1 n2 PB QZ GZ (Aside0.mk nbz)) ?_
   clear PB QZ q7 q8 q9 q10 q11 q12
   intro w17 hst
   obtain ⟨PB,QZ⟩:=hst
   have QR:=Aside0.mk PB.out.r
   obtain ⟨q1,q2,q3,q4,q5,q6⟩:=spec_MeetingOf.res QR
   obtain ⟨q7,q8,q9,q10,q11,q12⟩:=spec_MeetingOf.res QZ
   clear q10 q11 q12
   repeat (first|go_values|go_skip|go_guarded|go_step|go_upon)
   first|(refine bodyPost_ret (results_ct rfl _ _ gr 25 #[.int .i64 0,.int .i64 0,.int .i64 0] (0,0) _ rfl (by refine dr ?_;refine blk_put (cs:=#[.int .i64 0,.int .i64 0,.int .i64 0]) ?_ 2 _ rfl;refine dr ?_;refine blk_put (cs:=#[.int .i64 0,.int .i64 0,.int .i64 0]) ?_ 1 _ rfl;refine dr ?_;refine blk_put (cs:=#[.int .i64 0,.int .i64 0,.int .i64 0]) ?_ 0 _ rfl;(with_reducible repeat (first|refine blk_drewN ?_ _|refine blk_drew ?_|refine blk_alloc ?_ _));repeat (first|(with_reducible exact QR.out)|refine blk_far ?_ NZ.out _)) Try.underlying25 rfl (by kernel_rfl)) rfl ?_)|(refine bodyPost_ret (results_ct rfl _ _ gr 25 #[.int .i64 n0,.int .i64 n1,.int .i64 n2] (0,0) _ rfl (by refine dr ?_;refine blk_put (cs:=#[.int .i64 n0,.int .i64 n1,.int .i64 0]) ?_ 2 _ rfl;refine dr ?_;refine blk_put (cs:=#[.int .i64 n0,.int .i64 0,.int .i64 0]) ?_ 1 _ rfl;refine dr ?_;refine blk_put (cs:=#[.int .i64 0,.int .i64 0,.int .i64 0]) ?_ 0 _ rfl;(with_reducible repeat (first|refine blk_drewN ?_ _|refine blk_drew ?_|refine blk_alloc ?_ _));repeat (first|(with_reducible exact QR.out)|refine blk_far ?_ NZ.out _)) Try.underlying25 rfl (by kernel_rfl)) rfl ?_)
   exact ⟨rfl,by repeat (first|(with_reducible first|exact PB.out.b|apply below_alloc|apply pw_below_drewN|apply below_drew1)|exact PB.out.b|refine below_set ?_ PB.out.i|refine below_set ?_ GZ.out)⟩
 rw [if_neg ze1] at h
 by_cases zf1:f1=0
 case pos=>
  rw [if_pos zf1] at h
  by_cases zg1:g1=0
  ·
   rw [if_pos zg1] at h;cases h
  rw [if_neg zg1] at h
  have e1z:(e1 == 0)=false:=beq_eq_false_iff_ne.mpr ze1
  have f1z:(f1 == 0)=true:=beq_iff_eq.mpr zf1
  have g1z:(g1 == 0)=false:=beq_eq_false_iff_ne.mpr zg1
  clear ze1 zf1 zg1
  unfold spec_MeetingOf.two at h
  replace h:=Option.bind_eq_some_iff.mp h
  obtain ⟨v,A2,h⟩:=h
  replace A2:=Aside0.mk A2
  replace h:=Aside0.mk h
  refine wp_loop_rounds 4 ?_
  rw [rounds_succ];go_wp2
  refine wp_loop_rounds 4 ?_
  rw [rounds_succ];go_wp2
  rw [rounds_succ];go_wp2
  refine wp_loop_rounds 4 ?_
  rw [rounds_succ]
  go_wp2
  try ((refine wp_region_still_tail 7 (by kernel_rfl) (by kernel_rfl) ?_);change wpStill _ _ w13.drew (fun a'=>wpList _ _ _ _ a' w13.drew) _ _;simp only [List.take_succ_cons,List.take_zero,List.drop_succ_cons,List.drop_zero];(repeat still_step);(refine wpStill_nil ?_);go_wp2_with (go_at_call 29;(with_reducible refine (spec_l05Gap.calls k p _ _ _ _ _ _ (Aside0.out (by with_reducible assumption))).mono ?_);rintro e w9 ⟨rfl,hb⟩;have m1:=spec_MeetingOf.Pb.step (spec_MeetingOf.Pb.drew PB) hb;clear PB d1 d2 d3 d4 d5 d6 d7 d8 d9 d10 hb;have PB:=m1;clear m1;obtain ⟨d1,d2,d3,d4,d5,d6,d7,d8,d9,d10⟩:=spec_MeetingOf.Pb.cells PB))
  (first|refine spec_MeetingOf.nm (A:=fun W=>Aside0 (spec_MeetingOf.Pb w W e0 e1 f0 f1 g0 g1 _ _ gr gl gb)) (B:=fun w'=>Code.rounds _ _ _ _ _ w') (spec_MeetingOf.Pb.put PB) ?_|refine spec_MeetingOf.nm (A:=fun W=>Aside0 (spec_MeetingOf.Pb w W e0 e1 f0 f1 g0 g1 _ _ gr gl gb)) (B:=fun w'=>Code.rounds _ _ _ _ _ w') PB ?_)
  clear PB d1 d2 d3 d4 d5 d6 d7 d8 d9 d10
  intro w13 PB
  obtain ⟨d1,d2,d3,d4,d5,d6,d7,d8,d9,d10⟩:=spec_MeetingOf.Pb.cells PB
  rw [rounds_succ];go_wp2
  rw [rounds_succ];go_wp2
  refine wp_loop_rounds 4 ?_
  rw [rounds_succ]
  go_wp2
  try ((refine wp_region_still_tail 7 (by kernel_rfl) (by kernel_rfl) ?_);change wpStill _ _ w13.drew (fun a'=>wpList _ _ _ _ a' w13.drew) _ _;simp only [List.take_succ_cons,List.take_zero,List.drop_succ_cons,List.drop_zero];(repeat still_step);(refine wpStill_nil ?_);go_wp2_with (go_at_call 29;(with_reducible refine (spec_l05Gap.calls k p _ _ _ _ _ _ (Aside0.out (by with_reducible assumption))).mono ?_);rintro e w9 ⟨rfl,hb⟩;have m1:=spec_MeetingOf.Pb.step (spec_MeetingOf.Pb.drew PB) hb;clear PB d1 d2 d3 d4 d5 d6 d7 d8 d9 d10 hb;have PB:=m1;clear m1;obtain ⟨d1,d2,d3,d4,d5,d6,d7,d8,d9,d10⟩:=spec_MeetingOf.Pb.cells PB))
  (first|refine spec_MeetingOf.nm (A:=fun W=>Aside0 (spec_MeetingOf.Pb w W e0 e1 f0 f1 g0 g1 _ _ gr gl gb)) (B:=fun w'=>Code.rounds _ _ _ _ _ w') (spec_MeetingOf.Pb.put PB) ?_|refine spec_MeetingOf.nm (A:=fun W=>Aside0 (spec_MeetingOf.Pb w W e0 e1 f0 f1 g0 g1 _ _ gr gl gb)) (B:=fun w'=>Code.rounds _ _ _ _ _ w') PB ?_)
  clear PB d1 d2 d3 d4 d5 d6 d7 d8 d9 d10
  intro w13 PB
  obtain ⟨d1,d2,d3,d4,d5,d6,d7,d8,d9,d10⟩:=spec_MeetingOf.Pb.cells PB
  rw [rounds_succ]
  go_wp2
  try ((refine wp_region_still_tail 7 (by kernel_rfl) (by kernel_rfl) ?_);change wpStill _ _ w13.drew (fun a'=>wpList _ _ _ _ a' w13.drew) _ _;simp only [List.take_succ_cons,List.take_zero,List.drop_succ_cons,List.drop_zero];(repeat still_step);(refine wpStill_nil ?_);go_wp2_with (go_at_call 29;(with_reducible refine (spec_l05Gap.calls k p _ _ _ _ _ _ (Aside0.out (by with_reducible assumption))).mono ?_);rintro e w9 ⟨rfl,hb⟩;have m1:=spec_MeetingOf.Pb.step (spec_MeetingOf.Pb.drew PB) hb;clear PB d1 d2 d3 d4 d5 d6 d7 d8 d9 d10 hb;have PB:=m1;clear m1;obtain ⟨d1,d2,d3,d4,d5,d6,d7,d8,d9,d10⟩:=spec_MeetingOf.Pb.cells PB))
  (first|refine spec_MeetingOf.nm (A:=fun W=>Aside0 (spec_MeetingOf.Pb w W e0 e1 f0 f1 g0 g1 _ _ gr gl gb)) (B:=fun w'=>Code.rounds _ _ _ _ _ w') (spec_MeetingOf.Pb.put PB) ?_|refine spec_MeetingOf.nm (A:=fun W=>Aside0 (spec_MeetingOf.Pb w W e0 e1 f0 f1 g0 g1 _ _ gr gl gb)) (B:=fun w'=>Code.rounds _ _ _ _ _ w') PB ?_)
  clear PB d1 d2 d3 d4 d5 d6 d7 d8 d9 d10
  intro w13 PB
  obtain ⟨d1,d2,d3,d4,d5,d6,d7,d8,d9,d10⟩:=spec_MeetingOf.Pb.cells PB
  rw [rounds_succ];go_wp2
  replace h:=h.out
  unfold spec_MeetingOf.fin at h
  replace h:=Option.bind_eq_some_iff.mp h
  obtain ⟨⟨n0,n1,n2,ok⟩,A9,h⟩:=h
  replace A9:=Aside0.mk A9
  cases ok
  all_goals
   first|rw [if_pos rfl] at h|rw [if_neg (show ¬ (false=true) from Bool.false_ne_true)] at h
   simp only [Option.some.injEq,Prod.mk.injEq] at h
   obtain ⟨rfl,rfl,rfl,rfl⟩:=h
   rw [rounds_succ]
   go_upto_region 18 with (first|(go_at_call 30;(with_reducible refine (spec_l01Of.calls k p _ _ _ _ _ _ _ _ A9.out).mono ?_);rintro e w15 ⟨rfl,hb⟩;have m1:=spec_MeetingOf.Pb.step PB hb;clear PB d1 d2 d3 d4 d5 d6 d7 d8 d9 d10 hb;have PB:=m1;clear m1;obtain ⟨d1,d2,d3,d4,d5,d6,d7,d8,d9,d10⟩:=spec_MeetingOf.Pb.cells PB)|((with_reducible refine gate_dst (N:=18) rfl ?_);refine bxE (cs:=#[.int .i64 0,.int .i64 0,.int .i64 0]) (t:=25) ?_;intro gz hg w16 hbox hb;have nrz:gr<gz:=spec_MeetingOf.lt PB.out.r hg;have nbz:gb<gz:=spec_MeetingOf.lt PB.out.d hg;have m1:=spec_MeetingOf.Pb.step PB hb;clear PB d1 d2 d3 d4 d5 d6 d7 d8 d9 d10 hb;have PB:=m1;have GZ:Aside0 (w.heap.size≤gz):=⟨Nat.le_of_lt (Nat.lt_of_le_of_lt PB.out.i nrz)⟩;have NZ:Aside0 (gr≠gz):=⟨Nat.ne_of_lt nrz⟩;have QZ:=Aside0.mk hbox;obtain ⟨q7,q8,q9,q10,q11,q12⟩:=spec_MeetingOf.res QZ;clear m1 hg hbox))
   refine spec_MeetingOf.nm (B:=fun w'=>Code.wp _ _ _ _ w') (spec_MeetingOf.pz n0 n1 n2 PB QZ GZ (Aside0.mk nbz)) ?_
   clear PB QZ q7 q8 q9 q10 q11 q12
   intro w17 hst
   obtain ⟨PB,QZ⟩:=hst
   have QR:=Aside0.mk PB.out.r
   obtain ⟨q1,q2,q3,q4,q5,q6⟩:=spec_MeetingOf.res QR
   obtain ⟨q7,q8,q9,q10,q11,q12⟩:=spec_MeetingOf.res QZ
   clear q10 q11 q12
   repeat (first|go_values|go_skip|go_guarded|go_step|go_upon)
   first|(refine bodyPost_ret (results_ct rfl _ _ gr 25 #[.int .i64 0,.int .i64 0,.int .i64 0] (0,0) _ rfl (by refine dr ?_;refine blk_put (cs:=#[.int .i64 0,.int .i64 0,.int .i64 0]) ?_ 2 _ rfl;refine dr ?_;refine blk_put (cs:=#[.int .i64 0,.int .i64 0,.int .i64 0]) ?_ 1 _ rfl;refine dr ?_;refine blk_put (cs:=#[.int .i64 0,.int .i64 0,.int .i64 0]) ?_ 0 _ rfl;(with_reducible repeat (first|refine blk_drewN ?_ _|refine blk_drew ?_|refine blk_alloc ?_ _));repeat (first|(with_reducible exact QR.out)|refine blk_far ?_ NZ.out _)) Try.underlying25 rfl (by kernel_rfl)) rfl ?_)|(refine bodyPost_ret (results_ct rfl _ _ gr 25 #[.int .i64 n0,.int .i64 n1,.int .i64 n2] (0,0) _ rfl (by refine dr ?_;refine blk_put (cs:=#[.int .i64 n0,.int .i64 n1,.int .i64 0]) ?_ 2 _ rfl;refine dr ?_;refine blk_put (cs:=#[.int .i64 n0,.int .i64 0,.int .i64 0]) ?_ 1 _ rfl;refine dr ?_;refine blk_put (cs:=#[.int .i64 0,.int .i64 0,.int .i64 0]) ?_ 0 _ rfl;(with_reducible repeat (first|refine blk_drewN ?_ _|refine blk_drew ?_|refine blk_alloc ?_ _));repeat (first|(with_reducible exact QR.out)|refine blk_far ?_ NZ.out _)) Try.underlying25 rfl (by kernel_rfl)) rfl ?_)
   exact ⟨rfl,by repeat (first|(with_reducible first|exact PB.out.b|apply below_alloc|apply pw_below_drewN|apply below_drew1)|exact PB.out.b|refine below_set ?_ PB.out.i|refine below_set ?_ GZ.out)⟩
 rw [if_neg zf1] at h
 by_cases zg1:g1=0
 case pos=>
  rw [if_pos zg1] at h
  have e1z:(e1 == 0)=false:=beq_eq_false_iff_ne.mpr ze1
  have f1z:(f1 == 0)=false:=beq_eq_false_iff_ne.mpr zf1
  have g1z:(g1 == 0)=true:=beq_iff_eq.mpr zg1
  clear ze1 zf1 zg1
  unfold spec_MeetingOf.two at h
  replace h:=Option.bind_eq_some_iff.mp h
  obtain ⟨v,A2,h⟩:=h
  replace A2:=Aside0.mk A2
  replace h:=Aside0.mk h
  refine wp_loop_rounds 4 ?_
  rw [rounds_succ];go_wp2
  refine wp_loop_rounds 4 ?_
  rw [rounds_succ];go_wp2
  rw [rounds_succ];go_wp2
  refine wp_loop_rounds 4 ?_
  rw [rounds_succ]
  go_wp2
  try ((refine wp_region_still_tail 7 (by kernel_rfl) (by kernel_rfl) ?_);change wpStill _ _ w13.drew (fun a'=>wpList _ _ _ _ a' w13.drew) _ _;simp only [List.take_succ_cons,List.take_zero,List.drop_succ_cons,List.drop_zero];(repeat still_step);(refine wpStill_nil ?_);go_wp2_with (go_at_call 29;(with_reducible refine (spec_l05Gap.calls k p _ _ _ _ _ _ (Aside0.out (by with_reducible assumption))).mono ?_);rintro e w9 ⟨rfl,hb⟩;have m1:=spec_MeetingOf.Pb.step (spec_MeetingOf.Pb.drew PB) hb;clear PB d1 d2 d3 d4 d5 d6 d7 d8 d9 d10 hb;have PB:=m1;clear m1;obtain ⟨d1,d2,d3,d4,d5,d6,d7,d8,d9,d10⟩:=spec_MeetingOf.Pb.cells PB))
  (first|refine spec_MeetingOf.nm (A:=fun W=>Aside0 (spec_MeetingOf.Pb w W e0 e1 f0 f1 g0 g1 _ _ gr gl gb)) (B:=fun w'=>Code.rounds _ _ _ _ _ w') (spec_MeetingOf.Pb.put PB) ?_|refine spec_MeetingOf.nm (A:=fun W=>Aside0 (spec_MeetingOf.Pb w W e0 e1 f0 f1 g0 g1 _ _ gr gl gb)) (B:=fun w'=>Code.rounds _ _ _ _ _ w') PB ?_)
  clear PB d1 d2 d3 d4 d5 d6 d7 d8 d9 d10
  intro w13 PB
  obtain ⟨d1,d2,d3,d4,d5,d6,d7,d8,d9,d10⟩:=spec_MeetingOf.Pb.cells PB
  rw [rounds_succ];go_wp2
  rw [rounds_succ];go_wp2
  refine wp_loop_rounds 4 ?_
  rw [rounds_succ]
  go_wp2
  try ((refine wp_region_still_tail 7 (by kernel_rfl) (by kernel_rfl) ?_);change wpStill _ _ w13.drew (fun a'=>wpList _ _ _ _ a' w13.drew) _ _;simp only [List.take_succ_cons,List.take_zero,List.drop_succ_cons,List.drop_zero];(repeat still_step);(refine wpStill_nil ?_);go_wp2_with (go_at_call 29;(with_reducible refine (spec_l05Gap.calls k p _ _ _ _ _ _ (Aside0.out (by with_reducible assumption))).mono ?_);rintro e w9 ⟨rfl,hb⟩;have m1:=spec_MeetingOf.Pb.step (spec_MeetingOf.Pb.drew PB) hb;clear PB d1 d2 d3 d4 d5 d6 d7 d8 d9 d10 hb;have PB:=m1;clear m1;obtain ⟨d1,d2,d3,d4,d5,d6,d7,d8,d9,d10⟩:=spec_MeetingOf.Pb.cells PB))
  (first|refine spec_MeetingOf.nm (A:=fun W=>Aside0 (spec_MeetingOf.Pb w W e0 e1 f0 f1 g0 g1 _ _ gr gl gb)) (B:=fun w'=>Code.rounds _ _ _ _ _ w') (spec_MeetingOf.Pb.put PB) ?_|refine spec_MeetingOf.nm (A:=fun W=>Aside0 (spec_MeetingOf.Pb w W e0 e1 f0 f1 g0 g1 _ _ gr gl gb)) (B:=fun w'=>Code.rounds _ _ _ _ _ w') PB ?_)
  clear PB d1 d2 d3 d4 d5 d6 d7 d8 d9 d10
  intro w13 PB
  obtain ⟨d1,d2,d3,d4,d5,d6,d7,d8,d9,d10⟩:=spec_MeetingOf.Pb.cells PB
  rw [rounds_succ]
  go_wp2
  try ((refine wp_region_still_tail 7 (by kernel_rfl) (by kernel_rfl) ?_);change wpStill _ _ w13.drew (fun a'=>wpList _ _ _ _ a' w13.drew) _ _;simp only [List.take_succ_cons,List.take_zero,List.drop_succ_cons,List.drop_zero];(repeat still_step);(refine wpStill_nil ?_);go_wp2_with (go_at_call 29;(with_reducible refine (spec_l05Gap.calls k p _ _ _ _ _ _ (Aside0.out (by with_reducible assumption))).mono ?_);rintro e w9 ⟨rfl,hb⟩;have m1:=spec_MeetingOf.Pb.step (spec_MeetingOf.Pb.drew PB) hb;clear PB d1 d2 d3 d4 d5 d6 d7 d8 d9 d10 hb;have PB:=m1;clear m1;obtain ⟨d1,d2,d3,d4,d5,d6,d7,d8,d9,d10⟩:=spec_MeetingOf.Pb.cells PB))
  (first|refine spec_MeetingOf.nm (A:=fun W=>Aside0 (spec_MeetingOf.Pb w W e0 e1 f0 f1 g0 g1 _ _ gr gl gb)) (B:=fun w'=>Code.rounds _ _ _ _ _ w') (spec_MeetingOf.Pb.put PB) ?_|refine spec_MeetingOf.nm (A:=fun W=>Aside0 (spec_MeetingOf.Pb w W e0 e1 f0 f1 g0 g1 _ _ gr gl gb)) (B:=fun w'=>Code.rounds _ _ _ _ _ w') PB ?_)
  clear PB d1 d2 d3 d4 d5 d6 d7 d8 d9 d10
  intro w13 PB
  obtain ⟨d1,d2,d3,d4,d5,d6,d7,d8,d9,d10⟩:=spec_MeetingOf.Pb.cells PB
  rw [rounds_succ];go_wp2
  replace h:=h.out
  unfold spec_MeetingOf.fin at h
  replace h:=Option.bind_eq_some_iff.mp h
  obtain ⟨⟨n0,n1,n2,ok⟩,A9,h⟩:=h
  replace A9:=Aside0.mk A9
  cases ok
  all_goals
   first|rw [if_pos rfl] at h|rw [if_neg (show ¬ (false=true) from Bool.false_ne_true)] at h
   simp only [Option.some.injEq,Prod.mk.injEq] at h
   obtain ⟨rfl,rfl,rfl,rfl⟩:=h
   rw [rounds_succ]
   go_upto_region 18 with (first|(go_at_call 30;(with_reducible refine (spec_l01Of.calls k p _ _ _ _ _ _ _ _ A9.out).mono ?_);rintro e w15 ⟨rfl,hb⟩;have m1:=spec_MeetingOf.Pb.step PB hb;clear PB d1 d2 d3 d4 d5 d6 d7 d8 d9 d10 hb;have PB:=m1;clear m1;obtain ⟨d1,d2,d3,d4,d5,d6,d7,d8,d9,d10⟩:=spec_MeetingOf.Pb.cells PB)|((with_reducible refine gate_dst (N:=18) rfl ?_);refine bxE (cs:=#[.int .i64 0,.int .i64 0,.int .i64 0]) (t:=25) ?_;intro gz hg w16 hbox hb;have nrz:gr<gz:=spec_MeetingOf.lt PB.out.r hg;have nbz:gb<gz:=spec_MeetingOf.lt PB.out.d hg;have m1:=spec_MeetingOf.Pb.step PB hb;clear PB d1 d2 d3 d4 d5 d6 d7 d8 d9 d10 hb;have PB:=m1;have GZ:Aside0 (w.heap.size≤gz):=⟨Nat.le_of_lt (Nat.lt_of_le_of_lt PB.out.i nrz)⟩;have NZ:Aside0 (gr≠gz):=⟨Nat.ne_of_lt nrz⟩;have QZ:=Aside0.mk hbox;obtain ⟨q7,q8,q9,q10,q11,q12⟩:=spec_MeetingOf.res QZ;clear m1 hg hbox))
   refine spec_MeetingOf.nm (B:=fun w'=>Code.wp _ _ _ _ w') (spec_MeetingOf.pz n0 n1 n2 PB QZ GZ (Aside0.mk nbz)) ?_
   clear PB QZ q7 q8 q9 q10 q11 q12
   intro w17 hst
   obtain ⟨PB,QZ⟩:=hst
   have QR:=Aside0.mk PB.out.r
   obtain ⟨q1,q2,q3,q4,q5,q6⟩:=spec_MeetingOf.res QR
   obtain ⟨q7,q8,q9,q10,q11,q12⟩:=spec_MeetingOf.res QZ
   clear q10 q11 q12
   repeat (first|go_values|go_skip|go_guarded|go_step|go_upon)
   first|(refine bodyPost_ret (results_ct rfl _ _ gr 25 #[.int .i64 0,.int .i64 0,.int .i64 0] (0,0) _ rfl (by refine dr ?_;refine blk_put (cs:=#[.int .i64 0,.int .i64 0,.int .i64 0]) ?_ 2 _ rfl;refine dr ?_;refine blk_put (cs:=#[.int .i64 0,.int .i64 0,.int .i64 0]) ?_ 1 _ rfl;refine dr ?_;refine blk_put (cs:=#[.int .i64 0,.int .i64 0,.int .i64 0]) ?_ 0 _ rfl;(with_reducible repeat (first|refine blk_drewN ?_ _|refine blk_drew ?_|refine blk_alloc ?_ _));repeat (first|(with_reducible exact QR.out)|refine blk_far ?_ NZ.out _)) Try.underlying25 rfl (by kernel_rfl)) rfl ?_)|(refine bodyPost_ret (results_ct rfl _ _ gr 25 #[.int .i64 n0,.int .i64 n1,.int .i64 n2] (0,0) _ rfl (by refine dr ?_;refine blk_put (cs:=#[.int .i64 n0,.int .i64 n1,.int .i64 0]) ?_ 2 _ rfl;refine dr ?_;refine blk_put (cs:=#[.int .i64 n0,.int .i64 0,.int .i64 0]) ?_ 1 _ rfl;refine dr ?_;refine blk_put (cs:=#[.int .i64 0,.int .i64 0,.int .i64 0]) ?_ 0 _ rfl;(with_reducible repeat (first|refine blk_drewN ?_ _|refine blk_drew ?_|refine blk_alloc ?_ _));repeat (first|(with_reducible exact QR.out)|refine blk_far ?_ NZ.out _)) Try.underlying25 rfl (by kernel_rfl)) rfl ?_)
   exact ⟨rfl,by repeat (first|(with_reducible first|exact PB.out.b|apply below_alloc|apply pw_below_drewN|apply below_drew1)|exact PB.out.b|refine below_set ?_ PB.out.i|refine below_set ?_ GZ.out)⟩
 rw [if_neg zg1] at h
 unfold spec_MeetingOf.three at h
 replace h:=Option.bind_eq_some_iff.mp h
 obtain ⟨v,A2,h⟩:=h
 replace A2:=Aside0.mk A2
 replace h:=Option.bind_eq_some_iff.mp h
 obtain ⟨x,A3,h⟩:=h
 replace A3:=Aside0.mk A3
 replace h:=Option.bind_eq_some_iff.mp h
 obtain ⟨y2,A4,h⟩:=h
 replace A4:=Aside0.mk A4
 have e1z:(e1 == 0)=false:=beq_eq_false_iff_ne.mpr ze1
 have f1z:(f1 == 0)=false:=beq_eq_false_iff_ne.mpr zf1
 have g1z:(g1 == 0)=false:=beq_eq_false_iff_ne.mpr zg1
 clear ze1 zf1 zg1
 by_cases c1:v<x
 all_goals
  first|rw [if_pos c1] at h|rw [if_neg c1] at h
  first|have k1:decide (v<x)=true:=decide_eq_true c1|have k1:decide (v<x)=false:=decide_eq_false c1
  clear c1
  by_cases c2:x<y2
  all_goals
   by_cases c3:v<y2
   all_goals
    first|have k2:decide (x<y2)=true:=decide_eq_true c2|have k2:decide (x<y2)=false:=decide_eq_false c2
    first|have k3:decide (v<y2)=true:=decide_eq_true c3|have k3:decide (v<y2)=false:=decide_eq_false c3
    (try rw [if_pos c2] at h);(try rw [if_neg c2] at h);(try rw [if_pos c3] at h);(try rw [if_neg c3] at h)
    clear c2 c3
    replace h:=Aside0.mk h
    refine wp_loop_rounds 4 ?_
    rw [rounds_succ];go_wp2
    refine wp_loop_rounds 4 ?_
    rw [rounds_succ];go_wp2
    rw [rounds_succ];go_wp2
    refine wp_loop_rounds 4 ?_
    rw [rounds_succ]
    go_wp2
    try ((refine wp_region_still_tail 7 (by kernel_rfl) (by kernel_rfl) ?_);change wpStill _ _ w13.drew (fun a'=>wpList _ _ _ _ a' w13.drew) _ _;simp only [List.take_succ_cons,List.take_zero,List.drop_succ_cons,List.drop_zero];(repeat still_step);(refine wpStill_nil ?_);go_wp2_with (go_at_call 29;(with_reducible refine (spec_l05Gap.calls k p _ _ _ _ _ _ (Aside0.out (by with_reducible assumption))).mono ?_);rintro e w9 ⟨rfl,hb⟩;have m1:=spec_MeetingOf.Pb.step (spec_MeetingOf.Pb.drew PB) hb;clear PB d1 d2 d3 d4 d5 d6 d7 d8 d9 d10 hb;have PB:=m1;clear m1;obtain ⟨d1,d2,d3,d4,d5,d6,d7,d8,d9,d10⟩:=spec_MeetingOf.Pb.cells PB))
    (first|refine spec_MeetingOf.nm (A:=fun W=>Aside0 (spec_MeetingOf.Pb w W e0 e1 f0 f1 g0 g1 _ _ gr gl gb)) (B:=fun w'=>Code.rounds _ _ _ _ _ w') (spec_MeetingOf.Pb.put PB) ?_|refine spec_MeetingOf.nm (A:=fun W=>Aside0 (spec_MeetingOf.Pb w W e0 e1 f0 f1 g0 g1 _ _ gr gl gb)) (B:=fun w'=>Code.rounds _ _ _ _ _ w') PB ?_)
    clear PB d1 d2 d3 d4 d5 d6 d7 d8 d9 d10
    intro w13 PB
    obtain ⟨d1,d2,d3,d4,d5,d6,d7,d8,d9,d10⟩:=spec_MeetingOf.Pb.cells PB
    rw [rounds_succ];go_wp2
    rw [rounds_succ];go_wp2
    refine wp_loop_rounds 4 ?_
    rw [rounds_succ]
    go_wp2
    try ((refine wp_region_still_tail 7 (by kernel_rfl) (by kernel_rfl) ?_);change wpStill _ _ w13.drew (fun a'=>wpList _ _ _ _ a' w13.drew) _ _;simp only [List.take_succ_cons,List.take_zero,List.drop_succ_cons,List.drop_zero];(repeat still_step);(refine wpStill_nil ?_);go_wp2_with (go_at_call 29;(with_reducible refine (spec_l05Gap.calls k p _ _ _ _ _ _ (Aside0.out (by with_reducible assumption))).mono ?_);rintro e w9 ⟨rfl,hb⟩;have m1:=spec_MeetingOf.Pb.step (spec_MeetingOf.Pb.drew PB) hb;clear PB d1 d2 d3 d4 d5 d6 d7 d8 d9 d10 hb;have PB:=m1;clear m1;obtain ⟨d1,d2,d3,d4,d5,d6,d7,d8,d9,d10⟩:=spec_MeetingOf.Pb.cells PB))
    (first|refine spec_MeetingOf.nm (A:=fun W=>Aside0 (spec_MeetingOf.Pb w W e0 e1 f0 f1 g0 g1 _ _ gr gl gb)) (B:=fun w'=>Code.rounds _ _ _ _ _ w') (spec_MeetingOf.Pb.put PB) ?_|refine spec_MeetingOf.nm (A:=fun W=>Aside0 (spec_MeetingOf.Pb w W e0 e1 f0 f1 g0 g1 _ _ gr gl gb)) (B:=fun w'=>Code.rounds _ _ _ _ _ w') PB ?_)
    clear PB d1 d2 d3 d4 d5 d6 d7 d8 d9 d10
    intro w13 PB
    obtain ⟨d1,d2,d3,d4,d5,d6,d7,d8,d9,d10⟩:=spec_MeetingOf.Pb.cells PB
    rw [rounds_succ]
    go_wp2
    try ((refine wp_region_still_tail 7 (by kernel_rfl) (by kernel_rfl) ?_);change wpStill _ _ w13.drew (fun a'=>wpList _ _ _ _ a' w13.drew) _ _;simp only [List.take_succ_cons,List.take_zero,List.drop_succ_cons,List.drop_zero];(repeat still_step);(refine wpStill_nil ?_);go_wp2_with (go_at_call 29;(with_reducible refine (spec_l05Gap.calls k p _ _ _ _ _ _ (Aside0.out (by with_reducible assumption))).mono ?_);rintro e w9 ⟨rfl,hb⟩;have m1:=spec_MeetingOf.Pb.step (spec_MeetingOf.Pb.drew PB) hb;clear PB d1 d2 d3 d4 d5 d6 d7 d8 d9 d10 hb;have PB:=m1;clear m1;obtain ⟨d1,d2,d3,d4,d5,d6,d7,d8,d9,d10⟩:=spec_MeetingOf.Pb.cells PB))
    (first|refine spec_MeetingOf.nm (A:=fun W=>Aside0 (spec_MeetingOf.Pb w W e0 e1 f0 f1 g0 g1 _ _ gr gl gb)) (B:=fun w'=>Code.rounds _ _ _ _ _ w') (spec_MeetingOf.Pb.put PB) ?_|refine spec_MeetingOf.nm (A:=fun W=>Aside0 (spec_MeetingOf.Pb w W e0 e1 f0 f1 g0 g1 _ _ gr gl gb)) (B:=fun w'=>Code.rounds _ _ _ _ _ w') PB ?_)
    clear PB d1 d2 d3 d4 d5 d6 d7 d8 d9 d10
    intro w13 PB
    obtain ⟨d1,d2,d3,d4,d5,d6,d7,d8,d9,d10⟩:=spec_MeetingOf.Pb.cells PB
    rw [rounds_succ];go_wp2
    replace h:=h.out
    unfold spec_MeetingOf.fin at h
    replace h:=Option.bind_eq_some_iff.mp h
    obtain ⟨⟨n0,n1,n2,ok⟩,A9,h⟩:=h
    replace A9:=Aside0.mk A9
    cases ok
    all_goals
     first|rw [if_pos rfl] at h|rw [if_neg (show ¬ (false=true) from Bool.false_ne_true)] at h
     simp only [Option.some.injEq,Prod.mk.injEq] at h
     obtain ⟨rfl,rfl,rfl,rfl⟩:=h
     rw [rounds_succ]
     go_upto_region 18 with (first|(go_at_call 30;(with_reducible refine (spec_l01Of.calls k p _ _ _ _ _ _ _ _ A9.out).mono ?_);rintro e w15 ⟨rfl,hb⟩;have m1:=spec_MeetingOf.Pb.step PB hb;clear PB d1 d2 d3 d4 d5 d6 d7 d8 d9 d10 hb;have PB:=m1;clear m1;obtain ⟨d1,d2,d3,d4,d5,d6,d7,d8,d9,d10⟩:=spec_MeetingOf.Pb.cells PB)|((with_reducible refine gate_dst (N:=18) rfl ?_);refine bxE (cs:=#[.int .i64 0,.int .i64 0,.int .i64 0]) (t:=25) ?_;intro gz hg w16 hbox hb;have nrz:gr<gz:=spec_MeetingOf.lt PB.out.r hg;have nbz:gb<gz:=spec_MeetingOf.lt PB.out.d hg;have m1:=spec_MeetingOf.Pb.step PB hb;clear PB d1 d2 d3 d4 d5 d6 d7 d8 d9 d10 hb;have PB:=m1;have GZ:Aside0 (w.heap.size≤gz):=⟨Nat.le_of_lt (Nat.lt_of_le_of_lt PB.out.i nrz)⟩;have NZ:Aside0 (gr≠gz):=⟨Nat.ne_of_lt nrz⟩;have QZ:=Aside0.mk hbox;obtain ⟨q7,q8,q9,q10,q11,q12⟩:=spec_MeetingOf.res QZ;clear m1 hg hbox))
     refine spec_MeetingOf.nm (B:=fun w'=>Code.wp _ _ _ _ w') (spec_MeetingOf.pz n0 n1 n2 PB QZ GZ (Aside0.mk nbz)) ?_
     clear PB QZ q7 q8 q9 q10 q11 q12
     intro w17 hst
     obtain ⟨PB,QZ⟩:=hst
     have QR:=Aside0.mk PB.out.r
     obtain ⟨q1,q2,q3,q4,q5,q6⟩:=spec_MeetingOf.res QR
     obtain ⟨q7,q8,q9,q10,q11,q12⟩:=spec_MeetingOf.res QZ
     clear q10 q11 q12
     repeat (first|go_values|go_skip|go_guarded|go_step|go_upon)
     first|(refine bodyPost_ret (results_ct rfl _ _ gr 25 #[.int .i64 0,.int .i64 0,.int .i64 0] (0,0) _ rfl (by refine dr ?_;refine blk_put (cs:=#[.int .i64 0,.int .i64 0,.int .i64 0]) ?_ 2 _ rfl;refine dr ?_;refine blk_put (cs:=#[.int .i64 0,.int .i64 0,.int .i64 0]) ?_ 1 _ rfl;refine dr ?_;refine blk_put (cs:=#[.int .i64 0,.int .i64 0,.int .i64 0]) ?_ 0 _ rfl;(with_reducible repeat (first|refine blk_drewN ?_ _|refine blk_drew ?_|refine blk_alloc ?_ _));repeat (first|(with_reducible exact QR.out)|refine blk_far ?_ NZ.out _)) Try.underlying25 rfl (by kernel_rfl)) rfl ?_)|(refine bodyPost_ret (results_ct rfl _ _ gr 25 #[.int .i64 n0,.int .i64 n1,.int .i64 n2] (0,0) _ rfl (by refine dr ?_;refine blk_put (cs:=#[.int .i64 n0,.int .i64 n1,.int .i64 0]) ?_ 2 _ rfl;refine dr ?_;refine blk_put (cs:=#[.int .i64 n0,.int .i64 0,.int .i64 0]) ?_ 1 _ rfl;refine dr ?_;refine blk_put (cs:=#[.int .i64 0,.int .i64 0,.int .i64 0]) ?_ 0 _ rfl;(with_reducible repeat (first|refine blk_drewN ?_ _|refine blk_drew ?_|refine blk_alloc ?_ _));repeat (first|(with_reducible exact QR.out)|refine blk_far ?_ NZ.out _)) Try.underlying25 rfl (by kernel_rfl)) rfl ?_)
     exact ⟨rfl,by repeat (first|(with_reducible first|exact PB.out.b|apply below_alloc|apply pw_below_drewN|apply below_drew1)|exact PB.out.b|refine below_set ?_ PB.out.i|refine below_set ?_ GZ.out)⟩
end Go.Proofs.Ytpihnmmoahplgaa.PAll
