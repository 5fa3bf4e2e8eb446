import Derived.Test.YtpihnmmoahplgaaQx
import Derived.Test.YtpihnmmoahplgaaQimplfourCode
import Derived.Test.YtpihnmmoahplgaaQspecl01EndOf
namespace Go.Proofs.Ytpihnmmoahplgaa.PAll
open Go.RowKit Go.Proofs.YtpihnmmoahplgaaW.PrintWords Go.Proofs.YtpihnmmoahplgaaW.PrintLast Go.Proofs.YtpihnmmoahplgaaW.PrintMore
attribute [local go_sem] Go.Proofs.Ytpihnmmoahplgaa.Aux.setCell_drewN Go.Proofs.Ytpihnmmoahplgaa.Aux.isSome_setCell Go.Proofs.Ytpihnmmoahplgaa.Aux.max_eight bq bo cG cF ba bZ bp bm
set_option linter.unusedVariables false
set_option linter.unusedSimpArgs false
def aD.f (k:Nat) (l0:List Int):Option (Int × Int × Int × Int × Int × Int × Int × Int × Int):=if l0.length<1000000 then (ao.f k (1 :: l0)).bind fun s=>(cH.f k l0).bind fun b=>(ag.f s.1 s.2.1 s.2.2 (([2,3,5,7,2,3,4]:List Int))).bind fun p=>some (p.1,b.1,b.2.1,b.2.2.1,b.2.2.2.1,b.2.2.2.2.1,b.2.2.2.2.2.1,b.2.2.2.2.2.2.1,b.2.2.2.2.2.2.2) else none
structure aD.Q (w0 w:World) (z0 z1 z2 z3 z4 z5 z6 z7:Int) (g3 g4 g5 g6:Nat):Prop where
 b0:w.heap[g3]?=some (.cells #[.int .i64 z0,.int .i64 z1] 28 (0,0))
 b1:w.heap[g4]?=some (.cells #[.int .i64 z2,.int .i64 z3] 28 (0,0))
 b2:w.heap[g5]?=some (.cells #[.int .i64 z4,.int .i64 z5] 28 (0,0))
 b3:w.heap[g6]?=some (.cells #[.int .i64 z6,.int .i64 z7] 28 (0,0))
 i:w0.heap.size≤g3
 o1:g3<g4
 o2:g4<g5
 o3:g5<g6
 b:Below w0.heap.size w0 w
theorem aD.Q.step {w0 w w1:World} {z0 z1 z2 z3 z4 z5 z6 z7:Int} {g3 g4 g5 g6:Nat} (h:aA (aD.Q w0 w z0 z1 z2 z3 z4 z5 z6 z7 g3 g4 g5 g6)) (hb:Below w.heap.size w w1):aA (aD.Q w0 w1 z0 z1 z2 z3 z4 z5 z6 z7 g3 g4 g5 g6):=⟨⟨aE h.out.b0 hb,aE h.out.b1 hb,aE h.out.b2 hb,aE h.out.b3 hb,h.out.i,h.out.o1,h.out.o2,h.out.o3,ai h.out.b hb⟩⟩
theorem aD.Q.cells {w0 w:World} {z0 z1 z2 z3 z4 z5 z6 z7:Int} {g3 g4 g5 g6:Nat} (h:aA (aD.Q w0 w z0 z1 z2 z3 z4 z5 z6 z7 g3 g4 g5 g6)):w.cell? ⟨g3,0,none⟩=some (.int .i64 z0)∧w.cell? ⟨g3,1,none⟩=some (.int .i64 z1)∧w.cell? ⟨g4,0,none⟩=some (.int .i64 z2)∧w.cell? ⟨g4,1,none⟩=some (.int .i64 z3)∧w.cell? ⟨g5,0,none⟩=some (.int .i64 z4)∧w.cell? ⟨g5,1,none⟩=some (.int .i64 z5)∧w.cell? ⟨g6,0,none⟩=some (.int .i64 z6)∧w.cell? ⟨g6,1,none⟩=some (.int .i64 z7):=⟨aT h.out.b0 0,aT h.out.b0 1,aT h.out.b1 0,aT h.out.b1 1,aT h.out.b2 0,aT h.out.b2 1,aT h.out.b3 0,aT h.out.b3 1⟩
theorem aD.Q.keep {w0 w w1:World} {gs:Nat} {z0 z1 z2 z3 z4 z5 z6 z7:Int} {g3 g4 g5 g6:Nat} (h:aA (aD.Q w0 w z0 z1 z2 z3 z4 z5 z6 z7 g3 g4 g5 g6)) (hk:a7 w w1 gs none) (hn:g3≠gs∧g4≠gs∧g5≠gs∧g6≠gs) (hb:Below w0.heap.size w0 w1):aA (aD.Q w0 w1 z0 z1 z2 z3 z4 z5 z6 z7 g3 g4 g5 g6):=⟨⟨a7.blk hk h.out.b0 hn.1 (by simp),a7.blk hk h.out.b1 hn.2.1 (by simp),a7.blk hk h.out.b2 hn.2.2.1 (by simp),a7.blk hk h.out.b3 hn.2.2.2 (by simp),h.out.i,h.out.o1,h.out.o2,h.out.o3,hb⟩⟩
theorem aD.Q.put0 {w0 w:World} {z0 z1 z2 z3 z4 z5 z6 z7:Int} {g3 g4 g5 g6:Nat} {a b:Int} (h:aA (aD.Q w0 w z0 z1 z2 z3 z4 z5 z6 z7 g3 g4 g5 g6)):aA (aD.Q w0 ((w.setCell ⟨g3,0,none⟩ (.int .i64 a)).setCell ⟨g3,1,none⟩ (.int .i64 b)) a b z2 z3 z4 z5 z6 z7 g3 g4 g5 g6):=by
 have h1:=h.out.i
 have h2:=h.out.o1
 have h3:=h.out.o2
 have h4:=h.out.o3
 exact ⟨⟨bE (bE h.out.b0 0 _ rfl) 1 _ rfl,aq (aq h.out.b1 (show g4≠g3 by omega) _) (show g4≠g3 by omega) _,aq (aq h.out.b2 (show g5≠g3 by omega) _) (show g5≠g3 by omega) _,aq (aq h.out.b3 (show g6≠g3 by omega) _) (show g6≠g3 by omega) _,h1,h2,h3,h4,al (al h.out.b (by omega)) (by omega)⟩⟩
theorem aD.Q.put1 {w0 w:World} {z0 z1 z2 z3 z4 z5 z6 z7:Int} {g3 g4 g5 g6:Nat} {a b:Int} (h:aA (aD.Q w0 w z0 z1 z2 z3 z4 z5 z6 z7 g3 g4 g5 g6)):aA (aD.Q w0 ((w.setCell ⟨g4,0,none⟩ (.int .i64 a)).setCell ⟨g4,1,none⟩ (.int .i64 b)) z0 z1 a b z4 z5 z6 z7 g3 g4 g5 g6):=by
 have h1:=h.out.i
 have h2:=h.out.o1
 have h3:=h.out.o2
 have h4:=h.out.o3
 exact ⟨⟨aq (aq h.out.b0 (show g3≠g4 by omega) _) (show g3≠g4 by omega) _,bE (bE h.out.b1 0 _ rfl) 1 _ rfl,aq (aq h.out.b2 (show g5≠g4 by omega) _) (show g5≠g4 by omega) _,aq (aq h.out.b3 (show g6≠g4 by omega) _) (show g6≠g4 by omega) _,h1,h2,h3,h4,al (al h.out.b (by omega)) (by omega)⟩⟩
theorem aD.Q.put2 {w0 w:World} {z0 z1 z2 z3 z4 z5 z6 z7:Int} {g3 g4 g5 g6:Nat} {a b:Int} (h:aA (aD.Q w0 w z0 z1 z2 z3 z4 z5 z6 z7 g3 g4 g5 g6)):aA (aD.Q w0 ((w.setCell ⟨g5,0,none⟩ (.int .i64 a)).setCell ⟨g5,1,none⟩ (.int .i64 b)) z0 z1 z2 z3 a b z6 z7 g3 g4 g5 g6):=by
 have h1:=h.out.i
 have h2:=h.out.o1
 have h3:=h.out.o2
 have h4:=h.out.o3
 exact ⟨⟨aq (aq h.out.b0 (show g3≠g5 by omega) _) (show g3≠g5 by omega) _,aq (aq h.out.b1 (show g4≠g5 by omega) _) (show g4≠g5 by omega) _,bE (bE h.out.b2 0 _ rfl) 1 _ rfl,aq (aq h.out.b3 (show g6≠g5 by omega) _) (show g6≠g5 by omega) _,h1,h2,h3,h4,al (al h.out.b (by omega)) (by omega)⟩⟩
theorem aD.Q.put3 {w0 w:World} {z0 z1 z2 z3 z4 z5 z6 z7:Int} {g3 g4 g5 g6:Nat} {a b:Int} (h:aA (aD.Q w0 w z0 z1 z2 z3 z4 z5 z6 z7 g3 g4 g5 g6)):aA (aD.Q w0 ((w.setCell ⟨g6,0,none⟩ (.int .i64 a)).setCell ⟨g6,1,none⟩ (.int .i64 b)) z0 z1 z2 z3 z4 z5 a b g3 g4 g5 g6):=by
 have h1:=h.out.i
 have h2:=h.out.o1
 have h3:=h.out.o2
 have h4:=h.out.o3
 exact ⟨⟨aq (aq h.out.b0 (show g3≠g6 by omega) _) (show g3≠g6 by omega) _,aq (aq h.out.b1 (show g4≠g6 by omega) _) (show g4≠g6 by omega) _,aq (aq h.out.b2 (show g5≠g6 by omega) _) (show g5≠g6 by omega) _,bE (bE h.out.b3 0 _ rfl) 1 _ rfl,h1,h2,h3,h4,al (al h.out.b (by omega)) (by omega)⟩⟩
theorem aD.Q.set {w0 w:World} {z0 z1 z2 z3 z4 z5 z6 z7:Int} {g3 g4 g5 g6 g j:Nat} {u:Value} (h:aA (aD.Q w0 w z0 z1 z2 z3 z4 z5 z6 z7 g3 g4 g5 g6)) (hg:g6<g):aA (aD.Q w0 (w.setCell ⟨g,j,none⟩ u) z0 z1 z2 z3 z4 z5 z6 z7 g3 g4 g5 g6):=by
 have h1:=h.out.i
 have h2:=h.out.o1
 have h3:=h.out.o2
 have h4:=h.out.o3
 exact ⟨⟨aq (p:=⟨g,j,none⟩) h.out.b0 (show g3≠g by omega) _,aq (p:=⟨g,j,none⟩) h.out.b1 (show g4≠g by omega) _,aq (p:=⟨g,j,none⟩) h.out.b2 (show g5≠g by omega) _,aq (p:=⟨g,j,none⟩) h.out.b3 (show g6≠g by omega) _,h1,h2,h3,h4,al h.out.b (by omega)⟩⟩
theorem aD.Q.setlow {w0 w:World} {z0 z1 z2 z3 z4 z5 z6 z7:Int} {g3 g4 g5 g6 g j:Nat} {u:Value} (h:aA (aD.Q w0 w z0 z1 z2 z3 z4 z5 z6 z7 g3 g4 g5 g6)) (hg:g<g3) (hw:w0.heap.size≤g):aA (aD.Q w0 (w.setCell ⟨g,j,none⟩ u) z0 z1 z2 z3 z4 z5 z6 z7 g3 g4 g5 g6):=by
 have h1:=h.out.i
 have h2:=h.out.o1
 have h3:=h.out.o2
 have h4:=h.out.o3
 exact ⟨⟨aq (p:=⟨g,j,none⟩) h.out.b0 (show g3≠g by omega) _,aq (p:=⟨g,j,none⟩) h.out.b1 (show g4≠g by omega) _,aq (p:=⟨g,j,none⟩) h.out.b2 (show g5≠g by omega) _,aq (p:=⟨g,j,none⟩) h.out.b3 (show g6≠g by omega) _,h1,h2,h3,h4,al h.out.b (by omega)⟩⟩
structure aD.St (w w14:World) (gs:Nat) (sl:List Int) (s1 s2:Int) (x0 x1 x2 x3 x4 x5 x6 x7 y0 y1 y2 y3 y4 y5 y6 y7:Int) (g3 g4 g5 g6 g8 g9 ga gb:Nat) (W:World):Prop where
 q:aA (aD.Q w W x0 x1 x2 x3 x4 x5 x6 x7 g3 g4 g5 g6)
 e:aA (aD.Q w W y0 y1 y2 y3 y4 y5 y6 y7 g8 g9 ga gb)
 s:aA (aW w14 W gs sl s1 s2)
 b:aA (Below w14.heap.size w14 W)
 o:aA (g6<g8)
 n:aA (g3≠gs∧g4≠gs∧g5≠gs∧g6≠gs)
 m:aA (g8≠gs∧g9≠gs∧ga≠gs∧gb≠gs)
 z:aA (w14.heap.size≤g8)
theorem aD.St.step {w w14:World} {gs:Nat} {sl:List Int} {s1 s2 x0 x1 x2 x3 x4 x5 x6 x7 y0 y1 y2 y3 y4 y5 y6 y7:Int} {g3 g4 g5 g6 g8 g9 ga gb:Nat} {W W1:World} (h:aD.St w w14 gs sl s1 s2 x0 x1 x2 x3 x4 x5 x6 x7 y0 y1 y2 y3 y4 y5 y6 y7 g3 g4 g5 g6 g8 g9 ga gb W) (hb:Below W.heap.size W W1):aD.St w w14 gs sl s1 s2 x0 x1 x2 x3 x4 x5 x6 x7 y0 y1 y2 y3 y4 y5 y6 y7 g3 g4 g5 g6 g8 g9 ga gb W1:=⟨aD.Q.step h.q hb,aD.Q.step h.e hb,⟨h.s.out.below hb⟩,⟨ai h.b.out hb⟩,h.o,h.n,h.m,h.z⟩
theorem aD.St.cells {w w14:World} {gs:Nat} {sl:List Int} {s1 s2 x0 x1 x2 x3 x4 x5 x6 x7 y0 y1 y2 y3 y4 y5 y6 y7:Int} {g3 g4 g5 g6 g8 g9 ga gb:Nat} {W:World} (h:aD.St w w14 gs sl s1 s2 x0 x1 x2 x3 x4 x5 x6 x7 y0 y1 y2 y3 y4 y5 y6 y7 g3 g4 g5 g6 g8 g9 ga gb W):W.cell? ⟨g8,0,none⟩=some (.int .i64 y0)∧W.cell? ⟨g8,1,none⟩=some (.int .i64 y1)∧W.cell? ⟨g9,0,none⟩=some (.int .i64 y2)∧W.cell? ⟨g9,1,none⟩=some (.int .i64 y3)∧W.cell? ⟨ga,0,none⟩=some (.int .i64 y4)∧W.cell? ⟨ga,1,none⟩=some (.int .i64 y5)∧W.cell? ⟨gb,0,none⟩=some (.int .i64 y6)∧W.cell? ⟨gb,1,none⟩=some (.int .i64 y7):=aD.Q.cells h.e
theorem aD.St.ent0 {w w14:World} {gs:Nat} {sl:List Int} {s1 s2 x0 x1 x2 x3 x4 x5 x6 x7 y0 y1 y2 y3 y4 y5 y6 y7:Int} {g3 g4 g5 g6 g8 g9 ga gb:Nat} {W:World} {a b:Int} (h:aD.St w w14 gs sl s1 s2 x0 x1 x2 x3 x4 x5 x6 x7 y0 y1 y2 y3 y4 y5 y6 y7 g3 g4 g5 g6 g8 g9 ga gb W):aD.St w w14 gs sl s1 s2 x0 x1 x2 x3 x4 x5 x6 x7 a b y2 y3 y4 y5 y6 y7 g3 g4 g5 g6 g8 g9 ga gb ((W.setCell ⟨g8,0,none⟩ (.int .i64 a)).setCell ⟨g8,1,none⟩ (.int .i64 b)):=by
 have h1:=h.e.out.o1
 have h2:=h.e.out.o2
 have h3:=h.e.out.o3
 have h4:=h.o.out
 have h5:=h.z.out
 have h6:=h.m.out
 exact ⟨aD.Q.set (aD.Q.set h.q (by omega)) (by omega),aD.Q.put0 h.e,⟨(h.s.out.far (p:=⟨g8,0,none⟩) (show gs≠g8 by omega) _).far (p:=⟨g8,1,none⟩) (show gs≠g8 by omega) _⟩,⟨al (al h.b.out (by omega)) (by omega)⟩,h.o,h.n,h.m,h.z⟩
theorem aD.St.ent1 {w w14:World} {gs:Nat} {sl:List Int} {s1 s2 x0 x1 x2 x3 x4 x5 x6 x7 y0 y1 y2 y3 y4 y5 y6 y7:Int} {g3 g4 g5 g6 g8 g9 ga gb:Nat} {W:World} {a b:Int} (h:aD.St w w14 gs sl s1 s2 x0 x1 x2 x3 x4 x5 x6 x7 y0 y1 y2 y3 y4 y5 y6 y7 g3 g4 g5 g6 g8 g9 ga gb W):aD.St w w14 gs sl s1 s2 x0 x1 x2 x3 x4 x5 x6 x7 y0 y1 a b y4 y5 y6 y7 g3 g4 g5 g6 g8 g9 ga gb ((W.setCell ⟨g9,0,none⟩ (.int .i64 a)).setCell ⟨g9,1,none⟩ (.int .i64 b)):=by
 have h1:=h.e.out.o1
 have h2:=h.e.out.o2
 have h3:=h.e.out.o3
 have h4:=h.o.out
 have h5:=h.z.out
 have h6:=h.m.out
 exact ⟨aD.Q.set (aD.Q.set h.q (by omega)) (by omega),aD.Q.put1 h.e,⟨(h.s.out.far (p:=⟨g9,0,none⟩) (show gs≠g9 by omega) _).far (p:=⟨g9,1,none⟩) (show gs≠g9 by omega) _⟩,⟨al (al h.b.out (by omega)) (by omega)⟩,h.o,h.n,h.m,h.z⟩
theorem aD.St.ent2 {w w14:World} {gs:Nat} {sl:List Int} {s1 s2 x0 x1 x2 x3 x4 x5 x6 x7 y0 y1 y2 y3 y4 y5 y6 y7:Int} {g3 g4 g5 g6 g8 g9 ga gb:Nat} {W:World} {a b:Int} (h:aD.St w w14 gs sl s1 s2 x0 x1 x2 x3 x4 x5 x6 x7 y0 y1 y2 y3 y4 y5 y6 y7 g3 g4 g5 g6 g8 g9 ga gb W):aD.St w w14 gs sl s1 s2 x0 x1 x2 x3 x4 x5 x6 x7 y0 y1 y2 y3 a b y6 y7 g3 g4 g5 g6 g8 g9 ga gb ((W.setCell ⟨ga,0,none⟩ (.int .i64 a)).setCell ⟨ga,1,none⟩ (.int .i64 b)):=by
 have h1:=h.e.out.o1
 have h2:=h.e.out.o2
 have h3:=h.e.out.o3
 have h4:=h.o.out
 have h5:=h.z.out
 have h6:=h.m.out
 exact ⟨aD.Q.set (aD.Q.set h.q (by omega)) (by omega),aD.Q.put2 h.e,⟨(h.s.out.far (p:=⟨ga,0,none⟩) (show gs≠ga by omega) _).far (p:=⟨ga,1,none⟩) (show gs≠ga by omega) _⟩,⟨al (al h.b.out (by omega)) (by omega)⟩,h.o,h.n,h.m,h.z⟩
theorem aD.St.ent3 {w w14:World} {gs:Nat} {sl:List Int} {s1 s2 x0 x1 x2 x3 x4 x5 x6 x7 y0 y1 y2 y3 y4 y5 y6 y7:Int} {g3 g4 g5 g6 g8 g9 ga gb:Nat} {W:World} {a b:Int} (h:aD.St w w14 gs sl s1 s2 x0 x1 x2 x3 x4 x5 x6 x7 y0 y1 y2 y3 y4 y5 y6 y7 g3 g4 g5 g6 g8 g9 ga gb W):aD.St w w14 gs sl s1 s2 x0 x1 x2 x3 x4 x5 x6 x7 y0 y1 y2 y3 y4 y5 a b g3 g4 g5 g6 g8 g9 ga gb ((W.setCell ⟨gb,0,none⟩ (.int .i64 a)).setCell ⟨gb,1,none⟩ (.int .i64 b)):=by
 have h1:=h.e.out.o1
 have h2:=h.e.out.o2
 have h3:=h.e.out.o3
 have h4:=h.o.out
 have h5:=h.z.out
 have h6:=h.m.out
 exact ⟨aD.Q.set (aD.Q.set h.q (by omega)) (by omega),aD.Q.put3 h.e,⟨(h.s.out.far (p:=⟨gb,0,none⟩) (show gs≠gb by omega) _).far (p:=⟨gb,1,none⟩) (show gs≠gb by omega) _⟩,⟨al (al h.b.out (by omega)) (by omega)⟩,h.o,h.n,h.m,h.z⟩
theorem aD.res0 {w W:World} {x0 x1 x2 x3 x4 x5 x6 x7 y0 y1 y2 y3 y4 y5 y6 y7 a b:Int} {g3 g4 g5 g6 g8 g9 ga gb:Nat} (o:aA (g6<g8)) (q:aA (aD.Q w W x0 x1 x2 x3 x4 x5 x6 x7 g3 g4 g5 g6)) (e:aA (aD.Q w W y0 y1 y2 y3 y4 y5 y6 y7 g8 g9 ga gb)):aA (aD.Q w ((W.setCell ⟨g3,0,none⟩ (.int .i64 a)).setCell ⟨g3,1,none⟩ (.int .i64 b)) a b x2 x3 x4 x5 x6 x7 g3 g4 g5 g6)∧aA (aD.Q w ((W.setCell ⟨g3,0,none⟩ (.int .i64 a)).setCell ⟨g3,1,none⟩ (.int .i64 b)) y0 y1 y2 y3 y4 y5 y6 y7 g8 g9 ga gb):=by
 have h1:=q.out.i
 have h2:=q.out.o1
 have h3:=q.out.o2
 have h4:=q.out.o3
 have h5:=o.out
 exact ⟨aD.Q.put0 q,aD.Q.setlow (aD.Q.setlow e (by omega) (by omega)) (by omega) (by omega)⟩
theorem aD.res1 {w W:World} {x0 x1 x2 x3 x4 x5 x6 x7 y0 y1 y2 y3 y4 y5 y6 y7 a b:Int} {g3 g4 g5 g6 g8 g9 ga gb:Nat} (o:aA (g6<g8)) (q:aA (aD.Q w W x0 x1 x2 x3 x4 x5 x6 x7 g3 g4 g5 g6)) (e:aA (aD.Q w W y0 y1 y2 y3 y4 y5 y6 y7 g8 g9 ga gb)):aA (aD.Q w ((W.setCell ⟨g4,0,none⟩ (.int .i64 a)).setCell ⟨g4,1,none⟩ (.int .i64 b)) x0 x1 a b x4 x5 x6 x7 g3 g4 g5 g6)∧aA (aD.Q w ((W.setCell ⟨g4,0,none⟩ (.int .i64 a)).setCell ⟨g4,1,none⟩ (.int .i64 b)) y0 y1 y2 y3 y4 y5 y6 y7 g8 g9 ga gb):=by
 have h1:=q.out.i
 have h2:=q.out.o1
 have h3:=q.out.o2
 have h4:=q.out.o3
 have h5:=o.out
 exact ⟨aD.Q.put1 q,aD.Q.setlow (aD.Q.setlow e (by omega) (by omega)) (by omega) (by omega)⟩
theorem aD.res2 {w W:World} {x0 x1 x2 x3 x4 x5 x6 x7 y0 y1 y2 y3 y4 y5 y6 y7 a b:Int} {g3 g4 g5 g6 g8 g9 ga gb:Nat} (o:aA (g6<g8)) (q:aA (aD.Q w W x0 x1 x2 x3 x4 x5 x6 x7 g3 g4 g5 g6)) (e:aA (aD.Q w W y0 y1 y2 y3 y4 y5 y6 y7 g8 g9 ga gb)):aA (aD.Q w ((W.setCell ⟨g5,0,none⟩ (.int .i64 a)).setCell ⟨g5,1,none⟩ (.int .i64 b)) x0 x1 x2 x3 a b x6 x7 g3 g4 g5 g6)∧aA (aD.Q w ((W.setCell ⟨g5,0,none⟩ (.int .i64 a)).setCell ⟨g5,1,none⟩ (.int .i64 b)) y0 y1 y2 y3 y4 y5 y6 y7 g8 g9 ga gb):=by
 have h1:=q.out.i
 have h2:=q.out.o1
 have h3:=q.out.o2
 have h4:=q.out.o3
 have h5:=o.out
 exact ⟨aD.Q.put2 q,aD.Q.setlow (aD.Q.setlow e (by omega) (by omega)) (by omega) (by omega)⟩
theorem aD.res3 {w W:World} {x0 x1 x2 x3 x4 x5 x6 x7 y0 y1 y2 y3 y4 y5 y6 y7 a b:Int} {g3 g4 g5 g6 g8 g9 ga gb:Nat} (o:aA (g6<g8)) (q:aA (aD.Q w W x0 x1 x2 x3 x4 x5 x6 x7 g3 g4 g5 g6)) (e:aA (aD.Q w W y0 y1 y2 y3 y4 y5 y6 y7 g8 g9 ga gb)):aA (aD.Q w ((W.setCell ⟨g6,0,none⟩ (.int .i64 a)).setCell ⟨g6,1,none⟩ (.int .i64 b)) x0 x1 x2 x3 x4 x5 a b g3 g4 g5 g6)∧aA (aD.Q w ((W.setCell ⟨g6,0,none⟩ (.int .i64 a)).setCell ⟨g6,1,none⟩ (.int .i64 b)) y0 y1 y2 y3 y4 y5 y6 y7 g8 g9 ga gb):=by
 have h1:=q.out.i
 have h2:=q.out.o1
 have h3:=q.out.o2
 have h4:=q.out.o3
 have h5:=o.out
 exact ⟨aD.Q.put3 q,aD.Q.setlow (aD.Q.setlow e (by omega) (by omega)) (by omega) (by omega)⟩
theorem aD.info8:(Try.prog.info? 5).map (fun i=>(i.zero,i.size,i.bytes))=some (some (.int .u8 0),1,1):=by kernel_rfl
theorem aD.nm {A B:World→Prop} {W:World} (h:A W) (k:∀ w',A w'→B w'):B W:=k W h
theorem aD.lt {w:World} {g g':Nat} {o:Obj} (h:w.heap[g]?=some o) (hg:g'=w.heap.size):g<g':=by rw [hg];exact (Array.getElem?_eq_some_iff.mp h).1
def aD.T3:Bool × List (List Nat × List Nat):=(true,[([],[]),([],[]),([0,1],[0,1]),([],[]),([],[]),([],[]),([],[]),([2,2,0,1,2],[2]),([3,7,0,1,2,3,7],[3]),([4,8,0,1,2,3,4,7,8],[4]),([5,9,0,1,2,3,4,5,7,8,9],[5]),([6,10,0,1,2,3,4,5,6,7,8,9,10],[6])])
def aD.B3:List Nat:=[0,0,3,0,0,0,0,7,143,415,959,2047]
theorem aD.tab3:ck .any (dC Try.f17 3)=aD.T3:=by kernel_rfl
theorem aD.bits3:br aD.T3.2 aD.B3=true:=by kernel_rfl
set_option maxHeartbeats 8000000 in
set_option maxRecDepth 100000 in
theorem aD.calls (k:Nat) (A0:Option Addr) (c0:Nat) (l0:List Int) (r1 r2 r3 r4 r5 r6 r7 r8 r9:Int) (w:World) (hr0:Kd.C (Kd.int .u8) w A0 l0.length l0) (hc0:l0.length≤c0) (h:aD.f k l0=some (r1,r2,r3,r4,r5,r6,r7,r8,r9)) :
  Calls Try.prog 17 #[.slice A0 l0.length c0] w fun e w'=>e=.returned (.tuple #[.int .i64 r1,.agg #[.int .i64 r2,.int .i64 r3],.agg #[.int .i64 r4,.int .i64 r5],.agg #[.int .i64 r6,.int .i64 r7],.agg #[.int .i64 r8,.int .i64 r9]])∧Below w.heap.size w w':=by
 unfold aD.f at h
 by_cases hlen:l0.length<1000000
 case neg=>rw [if_neg hlen] at h;cases h
 rw [if_pos hlen] at h
 have HLEN:=aA.mk hlen
 clear hlen
 replace h:=Option.bind_eq_some_iff.mp h
 obtain ⟨⟨sl,s1,s2⟩,A1,h⟩:=h
 replace A1:=aA.mk A1
 replace h:=Option.bind_eq_some_iff.mp h
 obtain ⟨⟨y0,y1,y2,y3,y4,y5,y6,y7⟩,A2,h⟩:=h
 replace A2:=aA.mk A2
 replace h:=Option.bind_eq_some_iff.mp h
 obtain ⟨⟨v,t1,t2⟩,A3,h⟩:=h
 replace A3:=aA.mk A3
 simp only [Option.some.injEq,Prod.mk.injEq] at h
 obtain ⟨rfl,rfl,rfl,rfl,rfl,rfl,rfl,rfl,rfl⟩:=h
 have HR0:=aA.mk hr0
 have HC0:=aA.mk hc0
 clear hr0 hc0
 have HB:=aA.mk (Below.refl w.heap.size w)
 go_enter Try.func17,Try.ntmps17
 go_upto_region 1 with (first|((with_reducible refine aH (N:=3) rfl ?_);refine bxE (cs:=#[.int .i64 0,.int .i64 0]) (t:=28) ?_;intro g3 hg w3 hbox hb;have i0:w.heap.size≤g3:=(by rw [hg];exact ak HB.out);have m9:=aA.mk (ai HB.out hb);clear HB hb hg;have HB:=m9;have Q0:=aA.mk hbox;clear m9 hbox)|((with_reducible refine aH (N:=4) rfl ?_);refine bxE (cs:=#[.int .i64 0,.int .i64 0]) (t:=28) ?_;intro g4 hg w4 hbox hb;have o1:=aD.lt Q0.out hg;have m0:=aA.mk (aE Q0.out hb);have m9:=aA.mk (ai HB.out hb);clear HB Q0 hb hg;have HB:=m9;have Q0:=m0;have Q1:=aA.mk hbox;clear m9 hbox m0)|((with_reducible refine aH (N:=5) rfl ?_);refine bxE (cs:=#[.int .i64 0,.int .i64 0]) (t:=28) ?_;intro g5 hg w5 hbox hb;have o2:=aD.lt Q1.out hg;have m0:=aA.mk (aE Q0.out hb);have m1:=aA.mk (aE Q1.out hb);have m9:=aA.mk (ai HB.out hb);clear HB Q0 Q1 hb hg;have HB:=m9;have Q0:=m0;have Q1:=m1;have Q2:=aA.mk hbox;clear m9 hbox m0 m1)|((with_reducible refine aH (N:=6) rfl ?_);refine bxE (cs:=#[.int .i64 0,.int .i64 0]) (t:=28) ?_;intro g6 hg w6 hbox hb;have o3:=aD.lt Q2.out hg;have m0:=aA.mk (aE Q0.out hb);have m1:=aA.mk (aE Q1.out hb);have m2:=aA.mk (aE Q2.out hb);have m9:=aA.mk (ai HB.out hb);clear HB Q0 Q1 Q2 hb hg;have HB:=m9;have Q0:=m0;have Q1:=m1;have Q2:=m2;have Q3:=aA.mk hbox;clear m9 hbox m0 m1 m2))
 have QQ:aA (aD.Q w w6 0 0 0 0 0 0 0 0 g3 g4 g5 g6):=⟨⟨Q0.out,Q1.out,Q2.out,Q3.out,i0,o1,o2,o3,HB.out⟩⟩
 clear Q0 Q1 Q2 Q3 i0 o1 o2 o3 HB
 go_upto_region 2 with (first|((with_reducible refine aH (N:=12) rfl ?_);refine Kd.R_lit (Kd.int .u8) _ 5 ?hg (N:=12) ?hd (xs:=([1]:List Int)) (inner:=[.int .u8 1]) (ok:=fun _=>True) (okp:=fun _=>True) ?hr ?hp (fun _ hk=>hk) trivial (Below.refl _ _) (Nat.le_refl _) (by simp) ?_;(case hd=>rfl);(case hg=>rfl);(case hr=>first|(go_simp;done)|(go_simp;rfl));(case hp=>exact (aY.one (show Kd.M (Kd.int .u8) _ _ _ 1 [.int .u8 1] from rfl) (aY.none _ _)));intro vL wL hoL hb hg_ hnew_;clear hg_ hnew_;have HL:=aA.mk (Kd.R_lower hoL (ak QQ.out.b));clear hoL;have m1:=aD.Q.step QQ hb;clear QQ hb;have QQ:=m1;clear m1)|((with_reducible refine eN (b:=.append) (xs:=#[.tmp 12,.tmp 13]) rfl ?_);at_builtin;go_loud (refine Kd.R_append_rows (Kd.int .u8) (w0:=w) w.heap.size rfl (.tmp 12) (.tmp 13) 32 5 (.int .u8 0) 1 rfl Try.underlying32 aD.info8 rfl (by decide) (by omega) _ ([1]:List Int) l0 _ _ _ (fun _=>True) (fun _=>False) rfl rfl ?aO ?aR (fun _ _ h=>h) (fun _ h=>h.elim) ?aF ?aB ?aS ?aL ?_);(case aR=>exact cR (Kd.C_below HR0.out QQ.out.b));(case aB=>exact QQ.out.b);(case aF=>exact (fun _ _=>trivial));(case aO=>exact HL.out);(case aS=>exact ak QQ.out.b);(case aL=>have:=HLEN.out;simp only [List.length_cons,List.length_nil];omega);intro v7 w14 ho hb hg hat;rw [List.singleton_append] at ho;have m1:aA (aD.Q w w14 0 0 0 0 0 0 0 0 g3 g4 g5 g6):=⟨⟨b9 QQ.out.b0 hg (Kd.R_ne HL.out QQ.out.b0 (by decide)),b9 QQ.out.b1 hg (Kd.R_ne HL.out QQ.out.b1 (by decide)),b9 QQ.out.b2 hg (Kd.R_ne HL.out QQ.out.b2 (by decide)),b9 QQ.out.b3 hg (Kd.R_ne HL.out QQ.out.b3 (by decide)),QQ.out.i,QQ.out.o1,QQ.out.o2,QQ.out.o3,hb⟩⟩;clear QQ HL hb hg hat;have QQ:=m1;clear m1;have HL:=aA.mk ho;clear ho;obtain ⟨AL,kL,eL⟩:=Kd.R_slice HL.out;subst eL)|((with_reducible refine bK (f:=39) rfl ?_);refine gL (some 15) rfl Try.func39 #[.slice AL (1 :: l0).length kL] ?_;(with_reducible refine (ao.calls k _ _ (1 :: l0) sl s1 s2 w14 _ ?side1 ?side2 ?side3 A1.out).mono ?_);(case side1=>exact Below.refl _ _);(case side2=>exact (Kd.R_reads' HL.out).2.2);(case side3=>exact (Kd.R_reads' HL.out).2.1);rintro e w15 ⟨gs,rfl,hi,hb,hb2⟩;refine ⟨_,rfl,?_⟩;have HW:=aA.mk QQ.out.b;have m1:=aD.Q.step QQ hb2;have HI:=aA.mk hi;have HB1:=aA.mk hb;have NE:aA (g3≠gs∧g4≠gs∧g5≠gs∧g6≠gs):=⟨⟨Ne.symm (hi.ne_blk m1.out.b0 (by decide)),Ne.symm (hi.ne_blk m1.out.b1 (by decide)),Ne.symm (hi.ne_blk m1.out.b2 (by decide)),Ne.symm (hi.ne_blk m1.out.b3 (by decide))⟩⟩;clear QQ HL hi hb hb2;have QQ:=m1;clear m1))
 (try simp only [Act.put,List.setIfInBounds_toArray,List.set_cons_zero,List.set_cons_succ])
 go_upto_region 3 with (first|((with_reducible refine gd 18 rfl ?_);refine gC (some 18) rfl Try.func52 (cH.calls (w:=_) (hr0:=Kd.C_below HR0.out QQ.out.b) (hc0:=HC0.out) (h:=A2.out)) ?_;intro w16 hb;have m1:=aD.Q.step QQ hb;have m2:=aA.mk (HI.out.below hb);have m3:=aA.mk (ai HB1.out hb);clear QQ HI HB1;have QQ:=m1;have HI:=m2;have HB1:=m3;clear m1 m2 m3;clear hb)|((with_reducible refine aH (N:=8) rfl ?_);refine bxE (cs:=#[.int .i64 0,.int .i64 0]) (t:=28) ?_;intro g8 hg w20 hbox hb;have o0:=aD.lt QQ.out.b3 hg;have z0:w14.heap.size≤g8:=(by rw [hg];exact ak HB1.out);have m1:=aD.Q.step QQ hb;have m2:=aA.mk (HI.out.below hb);have m3:=aA.mk (ai HB1.out hb);clear QQ HI HB1;have QQ:=m1;have HI:=m2;have HB1:=m3;clear m1 m2 m3;skip;have Q0:=aA.mk hbox;clear hbox hg hb;have s00:=(aT Q0.out 0).trans rfl;clear s00)|((with_reducible refine aH (N:=9) rfl ?_);refine bxE (cs:=#[.int .i64 0,.int .i64 0]) (t:=28) ?_;intro g9 hg w21 hbox hb;have o1:=aD.lt Q0.out hg;have m0_:=aA.mk (aE Q0.out hb);have m1:=aD.Q.step QQ hb;have m2:=aA.mk (HI.out.below hb);have m3:=aA.mk (ai HB1.out hb);clear QQ HI HB1;have QQ:=m1;have HI:=m2;have HB1:=m3;clear m1 m2 m3;clear Q0;have Q0:=m0_;have Q1:=aA.mk hbox;clear hbox hg hb m0_;have s10:=(aT Q1.out 0).trans rfl;clear s10)|((with_reducible refine aH (N:=10) rfl ?_);refine bxE (cs:=#[.int .i64 0,.int .i64 0]) (t:=28) ?_;intro ga hg w22 hbox hb;have o2:=aD.lt Q1.out hg;have m0_:=aA.mk (aE Q0.out hb);have m1_:=aA.mk (aE Q1.out hb);have m1:=aD.Q.step QQ hb;have m2:=aA.mk (HI.out.below hb);have m3:=aA.mk (ai HB1.out hb);clear QQ HI HB1;have QQ:=m1;have HI:=m2;have HB1:=m3;clear m1 m2 m3;clear Q0 Q1;have Q0:=m0_;have Q1:=m1_;have Q2:=aA.mk hbox;clear hbox hg hb m0_ m1_;have s20:=(aT Q2.out 0).trans rfl;clear s20)|((with_reducible refine aH (N:=11) rfl ?_);refine bxE (cs:=#[.int .i64 0,.int .i64 0]) (t:=28) ?_;intro gb hg w23 hbox hb;have o3:=aD.lt Q2.out hg;have m0_:=aA.mk (aE Q0.out hb);have m1_:=aA.mk (aE Q1.out hb);have m2_:=aA.mk (aE Q2.out hb);have m1:=aD.Q.step QQ hb;have m2:=aA.mk (HI.out.below hb);have m3:=aA.mk (ai HB1.out hb);clear QQ HI HB1;have QQ:=m1;have HI:=m2;have HB1:=m3;clear m1 m2 m3;clear Q0 Q1 Q2;have Q0:=m0_;have Q1:=m1_;have Q2:=m2_;have Q3:=aA.mk hbox;clear hbox hg hb m0_ m1_ m2_;have QE:aA (aD.Q w w23 0 0 0 0 0 0 0 0 g8 g9 ga gb):=⟨⟨Q0.out,Q1.out,Q2.out,Q3.out,Nat.le_trans (ak HW.out) z0,o1,o2,o3,QQ.out.b⟩⟩;have nm_:g8≠gs∧g9≠gs∧ga≠gs∧gb≠gs:=⟨Ne.symm (HI.out.ne_blk QE.out.b0 (by decide)),Ne.symm (HI.out.ne_blk QE.out.b1 (by decide)),Ne.symm (HI.out.ne_blk QE.out.b2 (by decide)),Ne.symm (HI.out.ne_blk QE.out.b3 (by decide))⟩;have S0:aD.St w w14 gs sl s1 s2 0 0 0 0 0 0 0 0 0 0 0 0 0 0 0 0 g3 g4 g5 g6 g8 g9 ga gb w23:=⟨QQ,QE,HI,HB1,⟨o0⟩,NE,⟨nm_⟩,⟨z0⟩⟩;have p00:=(aT Q0.out 0).trans rfl;have f00:=aQ Q0.out 0;have p01:=(aT Q0.out 1).trans rfl;have f01:=aQ Q0.out 1;have p10:=(aT Q1.out 0).trans rfl;have f10:=aQ Q1.out 0;have p11:=(aT Q1.out 1).trans rfl;have f11:=aQ Q1.out 1;have p20:=(aT Q2.out 0).trans rfl;have f20:=aQ Q2.out 0;have p21:=(aT Q2.out 1).trans rfl;have f21:=aQ Q2.out 1;have p30:=(aT Q3.out 0).trans rfl;have f30:=aQ Q3.out 0;have p31:=(aT Q3.out 1).trans rfl;have f31:=aQ Q3.out 1))
 refine aD.nm (A:=aD.St w w14 gs sl s1 s2 0 0 0 0 0 0 0 0 y0 y1 y2 y3 y4 y5 y6 y7 g3 g4 g5 g6 g8 g9 ga gb) (B:=fun w'=>Code.wp _ _ _ _ w') (aD.St.ent3 (aD.St.ent2 (aD.St.ent1 (aD.St.ent0 S0)))) ?_
 clear S0 QQ QE HI HB1 NE nm_ o0 o1 o2 o3 z0 Q0 Q1 Q2 Q3 p00 f00 p01 f01 p10 f10 p11 f11 p20 f20 p21 f21 p30 f30 p31 f31
 intro w24 S
 replace S:=aD.St.step S (eS (Below.refl _ _))
 obtain ⟨d0,d1,d2,d3,d4,d5,d6,d7⟩:=aD.St.cells S
 refine bf (n:=12) (S:=fun w'=>w'.cell? ⟨g8,0,none⟩=some (.int .i64 y0)∧w'.cell? ⟨g8,1,none⟩=some (.int .i64 y1)∧w'.cell? ⟨g9,0,none⟩=some (.int .i64 y2)∧w'.cell? ⟨g9,1,none⟩=some (.int .i64 y3)∧w'.cell? ⟨ga,0,none⟩=some (.int .i64 y4)∧w'.cell? ⟨ga,1,none⟩=some (.int .i64 y5)∧w'.cell? ⟨gb,0,none⟩=some (.int .i64 y6)∧w'.cell? ⟨gb,1,none⟩=some (.int .i64 y7)) (ds:=[]) #[Z,Z,Z,Z,Z,Z,Z,Z,Z,Z,Z,Z] (by kernel_rfl) rfl rfl ⟨d0,d1,d2,d3,d4,d5,d6,d7⟩ (fun hHeld=>?_)
 refine bH aD.tab3 aD.bits3 (fun HT_ HW_=>?_)
 clear d0 d1 d2 d3 d4 d5 d6 d7
 generalize w24.drew=w25 at S hHeld ⊢
 refine puA (i:=0) (N:=some 23) #[Y,Z,Z,Z,Z,Z,Z,Z,Z,Z,Z,Z] rfl rfl HT_ ?_
 refine taA (i:=3) (N:=some 26) #[Y,Z,Z,Y,Z,Z,Z,Z,Z,Z,Z,Z] rfl rfl HT_ HW_ hHeld ?_
 refine taA (i:=4) (N:=some 27) #[Y,Z,Z,Y,Y,Z,Z,Z,Z,Z,Z,Z] rfl rfl HT_ HW_ hHeld ?_
 refine taA (i:=5) (N:=some 28) #[Y,Z,Z,Y,Y,Y,Z,Z,Z,Z,Z,Z] rfl rfl HT_ HW_ hHeld ?_
 refine taA (i:=6) (N:=some 29) #[Y,Z,Z,Y,Y,Y,Y,Z,Z,Z,Z,Z] rfl rfl HT_ HW_ hHeld ?_
 refine bg (i:=1) (N:=some 24) #[Y,Y,Z,Y,Y,Y,Y,Z,Z,Z,Z,Z] rfl rfl (az HT_.out (by kernel_rfl)) (by decide) (fun K hK=>?_)
 refine Kd.R_lit_step (Kd.int .i64) _ 2 ?hg (N:=24) ?hd (xs:=([2,3,5,7,2,3,4]:List Int)) (inner:=[.int .i64 2,.int .i64 3,.int .i64 5,.int .i64 7,.int .i64 2,.int .i64 3,.int .i64 4]) (ok:=fun _=>True) (okp:=fun _=>True) ?hr ?hp (fun _ hk=>hk) trivial (Below.refl _ _) (Nat.le_refl _) (by simp) ?_
 case hd=>rfl
 case hg=>rfl
 case hr=>first|(go_simp;done)|(go_simp;rfl)
 case hp=>exact (aY.one (show Kd.M (Kd.int .i64) _ _ _ 2 [.int .i64 2] from rfl) (aY.one (show Kd.M (Kd.int .i64) _ _ _ 3 [.int .i64 3] from rfl) (aY.one (show Kd.M (Kd.int .i64) _ _ _ 5 [.int .i64 5] from rfl) (aY.one (show Kd.M (Kd.int .i64) _ _ _ 7 [.int .i64 7] from rfl) (aY.one (show Kd.M (Kd.int .i64) _ _ _ 2 [.int .i64 2] from rfl) (aY.one (show Kd.M (Kd.int .i64) _ _ _ 3 [.int .i64 3] from rfl) (aY.one (show Kd.M (Kd.int .i64) _ _ _ 4 [.int .i64 4] from rfl) (aY.none _ _))))))))
 intro v26 w26 ho hb hg_ hnew_
 clear hg_ hnew_
 replace S:=aD.St.step S hb
 have HL:=aA.mk ho
 clear ho hb
 obtain ⟨AL,kL,eL⟩:=Kd.R_slice HL.out
 subst eL
 obtain ⟨d0,d1,d2,d3,d4,d5,d6,d7⟩:=aD.St.cells S
 refine hK.out _ _ ⟨d0,d1,d2,d3,d4,d5,d6,d7⟩ (fun hHeld=>?_)
 clear hK K
 clear d0 d1 d2 d3 d4 d5 d6 d7
 refine nmA ?_
 refine bg (i:=2) (N:=some 25) #[Y,Y,Y,Y,Y,Y,Y,Z,Z,Z,Z,Z] rfl rfl (az HT_.out (by kernel_rfl)) (by decide) (fun K hK=>?_)
 refine goes_ Try.func40 (by kernel_rfl) rfl #[.pointer (some ⟨gs,0,none⟩),.slice AL ([2,3,5,7,2,3,4]:List Int).length kL] (by rfl) rfl rfl hA ?_
 refine (ag.calls gs sl s1 s2 _ _ ([2,3,5,7,2,3,4]:List Int) v t1 t2 w14 _ ?side1 ?side2 ?side3 ?side4 ?side5 A3.out).mono ?_
 case side1=>exact S.s.out
 case side2=>exact S.b.out
 case side3=>exact (Kd.R_reads' HL.out).2.2
 case side4=>exact (Kd.R_reads' HL.out).2.1
 case side5=>exact cw (aW.own_ne S.s.out HL.out (by decide))
 rintro e w27 ⟨rfl,hi,hb,hk⟩
 refine ⟨_,rfl,?_⟩
 have QQ:=aD.Q.keep S.q hk S.n.out (ai HW.out hb)
 have QE:=aD.Q.keep S.e hk S.m.out (ai HW.out hb)
 have o:=S.o
 clear S HL hi hb hk
 obtain ⟨d0,d1,d2,d3,d4,d5,d6,d7⟩:=aD.Q.cells QE
 refine hK.out _ _ ⟨d0,d1,d2,d3,d4,d5,d6,d7⟩ (fun hHeld=>?_)
 clear hK K
 clear d0 d1 d2 d3 d4 d5 d6 d7
 refine nmA ?_
 refine puA (i:=7) (N:=some 2) #[Y,Y,Y,Y,Y,Y,Y,Y,Z,Z,Z,Z] rfl rfl HT_ ?_
 refine bg (i:=8) (N:=none) #[Y,Y,Y,Y,Y,Y,Y,Y,Y,Z,Z,Z] rfl rfl (az HT_.out (by kernel_rfl)) (by decide) (fun K hK=>?_)
 have q0:=(aT QQ.out.b0 0).trans rfl
 have q1:=(aT QQ.out.b0 1).trans rfl
 have q2:=aQ QQ.out.b0 0
 have q3:=aQ QQ.out.b0 1
 refine dp (w1:=?_) (by rfl) rfl ?_ ?_
 rotate_left
 ·
  go_simp
  rfl
 clear q0 q1 q2 q3
 have mm:=aD.res0 (a:=y0) (b:=y1) o QQ QE
 clear QQ QE hHeld
 obtain ⟨QQ,QE⟩:=mm
 obtain ⟨d0,d1,d2,d3,d4,d5,d6,d7⟩:=aD.Q.cells QE
 refine hK.out _ _ ⟨d0,d1,d2,d3,d4,d5,d6,d7⟩ (fun hHeld=>?_)
 clear hK K
 clear d0 d1 d2 d3 d4 d5 d6 d7
 refine bg (i:=9) (N:=none) #[Y,Y,Y,Y,Y,Y,Y,Y,Y,Y,Z,Z] rfl rfl (az HT_.out (by kernel_rfl)) (by decide) (fun K hK=>?_)
 have q0:=(aT QQ.out.b1 0).trans rfl
 have q1:=(aT QQ.out.b1 1).trans rfl
 have q2:=aQ QQ.out.b1 0
 have q3:=aQ QQ.out.b1 1
 refine dp (w1:=?_) (by rfl) rfl ?_ ?_
 rotate_left
 ·
  go_simp
  rfl
 clear q0 q1 q2 q3
 have mm:=aD.res1 (a:=y2) (b:=y3) o QQ QE
 clear QQ QE hHeld
 obtain ⟨QQ,QE⟩:=mm
 obtain ⟨d0,d1,d2,d3,d4,d5,d6,d7⟩:=aD.Q.cells QE
 refine hK.out _ _ ⟨d0,d1,d2,d3,d4,d5,d6,d7⟩ (fun hHeld=>?_)
 clear hK K
 clear d0 d1 d2 d3 d4 d5 d6 d7
 refine bg (i:=10) (N:=none) #[Y,Y,Y,Y,Y,Y,Y,Y,Y,Y,Y,Z] rfl rfl (az HT_.out (by kernel_rfl)) (by decide) (fun K hK=>?_)
 have q0:=(aT QQ.out.b2 0).trans rfl
 have q1:=(aT QQ.out.b2 1).trans rfl
 have q2:=aQ QQ.out.b2 0
 have q3:=aQ QQ.out.b2 1
 refine dp (w1:=?_) (by rfl) rfl ?_ ?_
 rotate_left
 ·
  go_simp
  rfl
 clear q0 q1 q2 q3
 have mm:=aD.res2 (a:=y4) (b:=y5) o QQ QE
 clear QQ QE hHeld
 obtain ⟨QQ,QE⟩:=mm
 obtain ⟨d0,d1,d2,d3,d4,d5,d6,d7⟩:=aD.Q.cells QE
 refine hK.out _ _ ⟨d0,d1,d2,d3,d4,d5,d6,d7⟩ (fun hHeld=>?_)
 clear hK K
 clear d0 d1 d2 d3 d4 d5 d6 d7
 refine bg (i:=11) (N:=none) #[Y,Y,Y,Y,Y,Y,Y,Y,Y,Y,Y,Y] rfl rfl (az HT_.out (by kernel_rfl)) (by decide) (fun K hK=>?_)
 have q0:=(aT QQ.out.b3 0).trans rfl
 have q1:=(aT QQ.out.b3 1).trans rfl
 have q2:=aQ QQ.out.b3 0
 have q3:=aQ QQ.out.b3 1
 refine dp (w1:=?_) (by rfl) rfl ?_ ?_
 rotate_left
 ·
  go_simp
  rfl
 clear q0 q1 q2 q3
 have mm:=aD.res3 (a:=y6) (b:=y7) o QQ QE
 clear QQ QE hHeld
 obtain ⟨QQ,QE⟩:=mm
 obtain ⟨d0,d1,d2,d3,d4,d5,d6,d7⟩:=aD.Q.cells QE
 refine hK.out _ _ ⟨d0,d1,d2,d3,d4,d5,d6,d7⟩ (fun hHeld=>?_)
 clear hK K
 clear d0 d1 d2 d3 d4 d5 d6 d7
 refine cL (bX HT_.out (by kernel_rfl)) ?_
 repeat (first|go_values|go_skip|go_guarded|go_step|go_upon|dsimp only)
 refine bodyPost_ret (dF (rs:=[.tmp 2,.cell 3 28,.cell 4 28,.cell 5 28,.cell 6 28]) rfl (by simp) (.tmp (.cell g3 28 #[.int .i64 y0,.int .i64 y1] (0,0) _ rfl QQ.out.b0 Try.underlying28 rfl (by kernel_rfl) (.cell g4 28 #[.int .i64 y2,.int .i64 y3] (0,0) _ rfl QQ.out.b1 Try.underlying28 rfl (by kernel_rfl) (.cell g5 28 #[.int .i64 y4,.int .i64 y5] (0,0) _ rfl QQ.out.b2 Try.underlying28 rfl (by kernel_rfl) (.cell g6 28 #[.int .i64 y6,.int .i64 y7] (0,0) _ rfl QQ.out.b3 Try.underlying28 rfl (by kernel_rfl) .nil)))))) rfl ?_
 exact ⟨rfl,QQ.out.b⟩
end Go.Proofs.Ytpihnmmoahplgaa.PAll
