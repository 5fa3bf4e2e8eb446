import Derived.Test.YtpihnmmoahplgaaProg
import Derived.Below
import Derived.Deep.Draws
import Derived.Deep.AppendLies
import Derived.Maps.AppendAt
import Derived.OwnWalk
import Derived.Laws.BytesArg
import Derived.Laws.MakeOwn
import Derived.Laws.OwnMore
import Derived.Deep.OwnRows
import Derived.Tactics
import Derived.Lib.ConvBytes
import Derived.Laws.Slices
import Derived.WalkKit
import Derived.KernelRfl
import Derived.RowKit3
import Derived.Deep.LoopGhost
import Derived.Deep.QuietTactic
import Derived.BigQuiet
import Derived.WideLaws
import Derived.Deep.DeepCutAuto
import Derived.Deep.CutBlock
import Derived.Deep.RegionHeld3
import Derived.Laws.Rows
import Derived.Lib.AppendStr
import Derived.ArgAppend
import Derived.Laws.IdiomCopy
import Derived.OrdersHeld
import Derived.Laws.BitsLemmas
import Derived.RowKit
import Derived.Test.YtpihnmmoahplgaaAux
import Derived.Handy
import Derived.Test.YtpihnmmoahplgaaShelf
import Derived.StillTailTactics
import Derived.Deep.RegionWith
import Derived.Deep.DeepCutAuto
import Derived.Test.YtpihnmmoahplgaaV0
namespace Go.Proofs.Ytpihnmmoahplgaa.PAll
open Go.RowKit Go.Proofs.YtpihnmmoahplgaaW.PrintWords Go.Proofs.YtpihnmmoahplgaaW.PrintLast Go.Proofs.YtpihnmmoahplgaaW.PrintMore
attribute [local go_sem] Go.Proofs.Ytpihnmmoahplgaa.Aux.setCell_drewN Go.Proofs.Ytpihnmmoahplgaa.Aux.isSome_setCell Go.Proofs.Ytpihnmmoahplgaa.Aux.max_eight bq bo cG cF ba bZ bp bm
set_option linter.unusedVariables false
set_option linter.unusedSimpArgs false
def errW:Option Int→Value
  | none=>.nilIface
  | some c=>.iface 0 (.int .i64 c)
theorem bB:errW none=.nilIface:=rfl
theorem bA (c:Int):errW (some c)=.iface 0 (.int .i64 c):=rfl
theorem info25:(Try.prog.info? 25).map (fun i=>(i.zero,i.size,i.bytes))=some (some (.agg #[(.int .i64 0),(.int .i64 0),(.int .i64 0)]),3,24):=by kernel_rfl
theorem info28:(Try.prog.info? 28).map (fun i=>(i.zero,i.size,i.bytes))=some (some (.agg #[(.int .i64 0),(.int .i64 0)]),2,16):=by kernel_rfl
structure S25 where
  f0:Int
  f1:Int
  f2:Int
def z25:S25:=⟨(0:Int),(0:Int),(0:Int)⟩
def k25:Kd S25:=Kd.iso (Kd.pair (Kd.int .i64) (Kd.pair (Kd.int .i64) (Kd.int .i64))) (fun x:S25=>(x.f0,x.f1,x.f2))
theorem k25_open {w:World} {x:S25} {cs:List Value} (h:k25.K w x cs):cs=[.int .i64 x.f0,.int .i64 x.f1,.int .i64 x.f2]:=by
  obtain ⟨_,_,rfl,rfl,⟨_,_,rfl,rfl,rfl⟩⟩:=h
  exact rfl
theorem ex (w:World) (base:Nat) (ok:Nat→Prop) (x:S25)  : k25.M w base ok x [.int .i64 x.f0,.int .i64 x.f1,.int .i64 x.f2]:=⟨[.int .i64 x.f0],[.int .i64 x.f1,.int .i64 x.f2],rfl,rfl,⟨[.int .i64 x.f1],[.int .i64 x.f2],rfl,rfl,rfl⟩⟩
def an (xs:List S25) (i:Int):S25:=xs.getD i.toNat z25
theorem eH {w:World} {A:Option Addr} {n:Nat} {xs:List S25} (h:Kd.C k25 w A n xs) (i:Int) (h0:0≤i) (h1:i<n):∃ ad,A=some ad∧w.cell? (ad.add (i.toNat*3))=some (.int .i64 (an xs i).f0)∧w.cell? ⟨(ad.add (i.toNat*3)).block,(ad.add (i.toNat*3)).off+1,none⟩=some (.int .i64 (an xs i).f1)∧w.cell? ⟨(ad.add (i.toNat*3)).block,(ad.add (i.toNat*3)).off+2,none⟩=some (.int .i64 (an xs i).f2):=by
  obtain ⟨ad,c,e,_,hK,hc0⟩:=Kd.C_get h z25 i h0 h1
  have hc:∀ j u,c[j]?=some u→w.cell? (ad.add (i.toNat*3+j))=some u:=hc0
  obtain rfl:=k25_open hK
  exact ⟨ad,e,hc 0 _ rfl,by rw [← add_field _ _ 1 (by omega)];exact hc 1 _ rfl,by rw [← add_field _ _ 2 (by omega)];exact hc 2 _ rfl⟩
structure S28 where
  f0:Int
  f1:Int
def z28:S28:=⟨(0:Int),(0:Int)⟩
def k28:Kd S28:=Kd.iso (Kd.pair (Kd.int .i64) (Kd.int .i64)) (fun x:S28=>(x.f0,x.f1))
theorem k28_open {w:World} {x:S28} {cs:List Value} (h:k28.K w x cs):cs=[.int .i64 x.f0,.int .i64 x.f1]:=by
  obtain ⟨_,_,rfl,rfl,rfl⟩:=h
  exact rfl
theorem aw (w:World) (base:Nat) (ok:Nat→Prop) (x:S28)  : k28.M w base ok x [.int .i64 x.f0,.int .i64 x.f1]:=⟨[.int .i64 x.f0],[.int .i64 x.f1],rfl,rfl,rfl⟩
def am (xs:List S28) (i:Int):S28:=xs.getD i.toNat z28
theorem eG {w:World} {A:Option Addr} {n:Nat} {xs:List S28} (h:Kd.C k28 w A n xs) (i:Int) (h0:0≤i) (h1:i<n):∃ ad,A=some ad∧w.cell? (ad.add (i.toNat*2))=some (.int .i64 (am xs i).f0)∧w.cell? ⟨(ad.add (i.toNat*2)).block,(ad.add (i.toNat*2)).off+1,none⟩=some (.int .i64 (am xs i).f1):=by
  obtain ⟨ad,c,e,_,hK,hc0⟩:=Kd.C_get h z28 i h0 h1
  have hc:∀ j u,c[j]?=some u→w.cell? (ad.add (i.toNat*2+j))=some u:=hc0
  obtain rfl:=k28_open hK
  exact ⟨ad,e,hc 0 _ rfl,by rw [← add_field _ _ 1 (by omega)];exact hc 1 _ rfl⟩
theorem eqA25 (d:Nat) (w:World) (x0 y0:Int) (x1 y1:Int) (x2 y2:Int) :
    (Op.equalIn (d+2) 25 (.agg #[.int .i64 x0,.int .i64 x1,.int .i64 x2]) (.agg #[.int .i64 y0,.int .i64 y1,.int .i64 y2])).run Try.prog w=.ok (x0 == y0 && (x1 == y1 && (x2 == y2))) w:=by
  refine eqA_of Try.underlying25 (by kernel_rfl) ?_
  refine eqf_cons (by rfl) (by go_simp;rfl) (by go_simp;rfl) (by go_simp) ?_
  refine eqf_cons (by rfl) (by go_simp;rfl) (by go_simp;rfl) (by go_simp) ?_
  exact eqf_last (by rfl) (by go_simp;rfl) (by go_simp;rfl) (by go_simp)
theorem eqA28 (d:Nat) (w:World) (x0 y0:Int) (x1 y1:Int) :
    (Op.equalIn (d+2) 28 (.agg #[.int .i64 x0,.int .i64 x1]) (.agg #[.int .i64 y0,.int .i64 y1])).run Try.prog w=.ok (x0 == y0 && (x1 == y1)) w:=by
  refine eqA_of Try.underlying28 (by kernel_rfl) ?_
  refine eqf_cons (by rfl) (by go_simp;rfl) (by go_simp;rfl) (by go_simp) ?_
  exact eqf_last (by rfl) (by go_simp;rfl) (by go_simp;rfl) (by go_simp)
theorem blA {n:Nat} {w w':World} (h:Below n w w':=by repeat (first|(with_reducible first|exact HB.out|apply ay|apply a6|apply aV|refine al ?_ (aA.out (by assumption)))|exact HB.out)):Below n w w':=h
theorem bwA {n:Nat} {w w':World} (h:Below n w w':=by repeat (first|(with_reducible first|exact HBW.out|apply ay|apply a6|apply aV|refine al ?_ (aA.out (by assumption)))|exact HBW.out)):Below n w w':=h
theorem bkA {w w':World} {g:Nat} {o:Obj} (hb:aA (w.heap[g]?=some o)) (h:w.heap[g]?=some o→w'.heap[g]?=some o:=by intro hb_;(with_reducible repeat (first|refine cU ?_ _|refine aK ?_|refine cV ?_ _));exact hb_):w'.heap[g]?=some o:=h hb.out
theorem szA {w w':World} {g:Nat} (hg:g=w'.heap.size) (h:Below w.heap.size w w'):w.heap.size≤g:=by rw [hg];exact ak h
theorem neA {w:World} {g g':Nat} {o:Obj} (hg:g'=w.heap.size) (h:w.heap[g]?=some o):g≠g':=by rw [hg];exact Nat.ne_of_lt (ek h)
theorem neB {w:World} {g g':Nat} {o:Obj} (hg:g'=w.heap.size) (h:w.heap[g]?=some o):g'≠g:=by rw [hg];exact Nat.ne_of_gt (ek h)
theorem kB {w w1 w2:World} {g:Nat} {o:Obj} (h0:aA (w.heap[g]?=some o)) (hb:Below w1.heap.size w1 w2) (h:w.heap[g]?=some o→w1.heap[g]?=some o:=by intro hb_;(with_reducible repeat (first|refine cU ?_ _|refine aK ?_|refine cV ?_ _));exact hb_):aA (w2.heap[g]?=some o):=⟨aE (h h0.out) hb⟩
theorem lB {w w1 w2:World} (hb:Below w1.heap.size w1 w2) (h:Below w.heap.size w w1:=by repeat (first|(with_reducible first|exact HB.out|apply ay|apply a6|apply aV|refine al ?_ (aA.out (by assumption)))|exact HB.out)):aA (Below w.heap.size w w2):=⟨ai h hb⟩
theorem sA {w w1:World} {g:Nat} (hg:g=w1.heap.size) (h:Below w.heap.size w w1:=by repeat (first|(with_reducible first|exact HB.out|apply ay|apply a6|apply aV|refine al ?_ (aA.out (by assumption)))|exact HB.out)):aA (w.heap.size≤g):=⟨szA hg h⟩
theorem nL {w w1:World} {g g':Nat} {o:Obj} (hg:g'=w1.heap.size) (h0:aA (w.heap[g]?=some o)) (h:w.heap[g]?=some o→w1.heap[g]?=some o:=by intro hb_;(with_reducible repeat (first|refine cU ?_ _|refine aK ?_|refine cV ?_ _));exact hb_):aA (g<g'):=⟨by rw [hg];exact (Array.getElem?_eq_some_iff.mp (h h0.out)).1⟩
theorem nA {w w1:World} {g g':Nat} {o:Obj} (hg:g'=w1.heap.size) (h0:aA (w.heap[g]?=some o)) (h:w.heap[g]?=some o→w1.heap[g]?=some o:=by intro hb_;(with_reducible repeat (first|refine cU ?_ _|refine aK ?_|refine cV ?_ _));exact hb_):aA (g≠g'):=⟨neA hg (h h0.out)⟩
theorem nB {w w1:World} {g g':Nat} {o:Obj} (hg:g'=w1.heap.size) (h0:aA (w.heap[g]?=some o)) (h:w.heap[g]?=some o→w1.heap[g]?=some o:=by intro hb_;(with_reducible repeat (first|refine cU ?_ _|refine aK ?_|refine cV ?_ _));exact hb_):aA (g'≠g):=⟨neB hg (h h0.out)⟩
theorem bU {A:Prop} {n:Nat} {w w1:World} (hb:Below n w w1) (ha:A:=by first|rfl|(simp [bB,bA] <;> rfl)|(simp [*,bB,bA] <;> rfl)):A∧Below n w w1:=⟨ha,hb⟩
theorem cA {w:World} {g:Nat} {t:TypeId} {cs:Array Value} (h:aA (w.heap[g]?=some (.cells cs t (0,0)))) (i:Nat) {v:Option Value} (e:cs[i]?=v:=by rfl):w.cell? ⟨g,i,none⟩=v:=(aT h.out i).trans e
section
variable {α : Type} {d : Kd α} {e : Nat} {w w' : World} {base : Nat} {ok : Nat → Prop} {v : Value} {xs : List α}
theorem rA (ho:aA (Kd.R d e w base ok v xs)) (h:Kd.R d e w base ok v xs→Kd.R d e w' base ok v xs:=by intro h_;(with_reducible repeat (first|apply Kd.R_alloc|apply Kd.R_drewN|apply Kd.R_drew));exact h_):Kd.R d e w' base ok v xs:=h ho.out
end
theorem bkF {w w':World} {g:Nat} {o:Obj} (hb:aA (w.heap[g]?=some o)) (h:w.heap[g]?=some o→w'.heap[g]?=some o:=by intro hb_;repeat (first|(with_reducible exact hb_)|(with_reducible first|refine cU ?_ _|refine aK ?_|refine cV ?_ _)|refine aq ?_ (by first|exact aA.out (by assumption)|exact Nat.ne_of_lt (aA.out (by assumption))|exact Nat.ne_of_gt (aA.out (by assumption))) _)):w'.heap[g]?=some o:=h hb.out
theorem hA {A:Prop} (h:A:=by (try simp only [List.map_toArray,List.map_cons,List.map_nil]);first|done|rfl|(simp only [List.length_drop,List.length_take];rfl)):A:=h
theorem hB {A:Prop} (h:A:=by first|rfl|(simp;done)|(simp [*];done)):A:=h
theorem dA {p:Prop} [Decidable p] (h:decide p=true:=by first|(with_reducible assumption)|assumption):p:=of_decide_eq_true h
theorem pA:(∀ (a:Act) (d:Tmp) (v:Value),a.put (some d) v={ a with tmps:=a.tmps.setIfInBounds d v })∧(∀ (a:Act) (v:Value),a.put none v=a)∧(∀ (l:List Value) (i:Nat) (x:Value),l.toArray.setIfInBounds i x=(l.set i x).toArray)∧(∀ (x y:Value) (l:List Value),(x :: l).set 0 y=y :: l)∧(∀ (x y:Value) (l:List Value) (i:Nat),(x :: l).set (i+1) y=x :: l.set i y)∧(∀ n,IntKind.i64.wrap n=wrap64 n)∧(∀ n,IntKind.i32.wrap n=wrap32 n):=⟨fun _ _ _=>rfl,fun _ _=>rfl,fun _ _ _=>List.setIfInBounds_toArray ..,fun _ _ _=>rfl,fun _ _ _ _=>rfl,cl,co⟩
abbrev Y:Bool:=true
abbrev Z:Bool:=false
theorem fB {P Q:Prop} (x:P) (h:P→Q:=by intro x_;first|exact x_|(rw [eP];exact x_)|(show (Addr.add _ _).block≠_;rw [eP];exact x_)|(dsimp only;exact x_)):Q:=h x
theorem bS {α β:Type} {a:Option α} {f:α→Option β} {r:β} (h:a.bind f=some r):∃ t,aA (a=some t)∧f t=some r:=by
  obtain ⟨t,h1,h2⟩:=Option.bind_eq_some_iff.mp h
  exact ⟨t,⟨h1⟩,h2⟩
theorem cz2 {w:World} {g:Nat} {t:TypeId} {x0 x1:Value} (h:aA (w.heap[g]?=some (.cells #[x0,x1] t (0,0)))):w.cell? ⟨g,0,none⟩=some x0∧w.cell? ⟨g,1,none⟩=some x1∧w.frozen? ⟨g,0,none⟩=false∧w.frozen? ⟨g,1,none⟩=false:=⟨cA h 0,cA h 1,aQ h.out 0,aQ h.out 1⟩
theorem cz3 {w:World} {g:Nat} {t:TypeId} {x0 x1 x2:Value} (h:aA (w.heap[g]?=some (.cells #[x0,x1,x2] t (0,0)))):w.cell? ⟨g,0,none⟩=some x0∧w.cell? ⟨g,1,none⟩=some x1∧w.cell? ⟨g,2,none⟩=some x2∧w.frozen? ⟨g,0,none⟩=false∧w.frozen? ⟨g,1,none⟩=false∧w.frozen? ⟨g,2,none⟩=false:=⟨cA h 0,cA h 1,cA h 2,aQ h.out 0,aQ h.out 1,aQ h.out 2⟩
theorem dr {w w':World} {g:Nat} {o:Obj} (hb:w.heap[g]?=some o) (h:w.heap[g]?=some o→w'.heap[g]?=some o:=by intro hb_;(with_reducible repeat (first|refine cU ?_ _|refine aK ?_|refine cV ?_ _));exact hb_):w'.heap[g]?=some o:=h hb
section
variable {P : Program} {ops : Array Oper} {Q : Exit → Act → World → Prop} {md : Region.Mode} {S : World → Prop} {ds : List Nat} {T : Bool × List (List Nat × List Nat)}
theorem puA {i:Nat} {N:Option Tmp} {oi:Oper} {v:Value} {fuel:Nat} {l:Array Bool} {a:Act} {w:World} (l':Array Bool) (hi:ops[i]?=some oi) (hN:oi.dst=N) (hT:aA (ck md ops=T)) {a':Act}
  (h:bG P md ops Q S ds fuel l' a' w) (hc:anyT T l.toList l'.toList i=true:=by kernel_rfl) (hy:Yields P ops oi v a:=by
    refine Or.inl ⟨by rfl,?_⟩
    intro w'
    go_simp
    with_reducible rfl) (ha:a.put N v=a':=by
    simp only [pA]
    rfl) (hQ:∀ c a w,Q (.panic c) (a.put oi.dst v) w→Q (.panic c) a w:=by exact fun _ _ _ h=>h):bG P md ops Q S ds (fuel+1) l a w:=fT l' hi hN (any_of hT.out hc) hQ hy ha h
end
theorem iA {A B:Prop} (h0:aA B) (h:B→A:=by intro h_;repeat (first|(with_reducible first|exact h_|apply aW.alloc|apply aW.drewN|apply aW.drew|apply aW.set_1|apply aW.set_2|refine aW.far ?_ (aA.out (by assumption)) _)|exact h_)):A:=h h0.out
theorem blI {n:Nat} {w w':World} (h:Below n w w':=by repeat (first|(with_reducible first|exact HB.out|apply ay|apply a6|apply aV|refine al ?_ (aW.ge (aA.out (by assumption)))|refine al ?_ (aA.out (by assumption)))|exact HB.out)):Below n w w':=h
theorem lI {w w1 w2:World} (hb:Below w1.heap.size w1 w2) (h:Below w.heap.size w w1:=by repeat (first|(with_reducible first|exact HB.out|apply ay|apply a6|apply aV|refine al ?_ (aW.ge (aA.out (by assumption)))|refine al ?_ (aA.out (by assumption)))|exact HB.out)):aA (Below w.heap.size w w2):=⟨ai h hb⟩
theorem inA {W:World} {g gb:Nat} (hg:gb=W.heap.size) (h:g<W.heap.size):aA (g≠gb):=⟨by rw [hg];exact Nat.ne_of_lt h⟩
theorem inB {W:World} {g gb:Nat} (hg:gb=W.heap.size) (h:g<W.heap.size):aA (gb≠g):=⟨by rw [hg];exact Nat.ne_of_gt h⟩
theorem kpA {w W:World} {g:Nat} {row:Option Nat} (h:a7 w W g row:=by repeat (first|(with_reducible first|exact HK.out|apply a7.set_|apply et|apply fQ|apply ev|refine ff ?_ (aA.out (by assumption)) _)|exact HK.out)):a7 w W g row:=h
theorem kzA {w V W:World} {g gb:Nat} (hK:aA (a7 w V g none)) (hg:gb=W.heap.size) (h:a7 w V g none→a7 w W g none:=by intro hk_;repeat (first|(with_reducible first|exact hk_|apply a7.set_|apply et|apply fQ|apply ev|refine ff ?_ (aA.out (by assumption)) _)|exact hk_)):aA (w.heap.size≤gb):=⟨by rw [hg];exact dw (h hK.out)⟩
theorem kbA {w V W W1:World} {g:Nat} (hK:aA (a7 w V g none)) (hb:Below W.heap.size W W1) (h:a7 w V g none→a7 w W g none:=by intro hk_;repeat (first|(with_reducible first|exact hk_|apply a7.set_|apply et|apply fQ|apply ev|refine ff ?_ (aA.out (by assumption)) _)|exact hk_)):aA (a7 w W1 g none):=⟨a7.trans (h hK.out) (a7.of_below hb g none) (.inl rfl)⟩
theorem kkA {w V W W1:World} {g:Nat} (hK:aA (a7 w V g none)) (hk:a7 W W1 g none) (h:a7 w V g none→a7 w W g none:=by intro hk_;repeat (first|(with_reducible first|exact hk_|apply a7.set_|apply et|apply fQ|apply ev|refine ff ?_ (aA.out (by assumption)) _)|exact hk_)):aA (a7 w W1 g none):=⟨a7.trans (h hK.out) hk (.inl rfl)⟩
theorem kbk {w W W1:World} {g g':Nat} {o:Obj} (hk:a7 W W1 g none) (h0:aA (w.heap[g']?=some o)) (hn:aA (g'≠g)) (h:w.heap[g']?=some o→W.heap[g']?=some o:=by intro hb_;(with_reducible repeat (first|refine cU ?_ _|refine aK ?_|refine cV ?_ _));exact hb_):aA (W1.heap[g']?=some o):=⟨a7.blk hk (h h0.out) hn.out (by simp)⟩
section
variable {P : Program} {ops : Array Oper} {Q : Exit → Act → World → Prop} {md : Region.Mode} {S : World → Prop} {ds : List Nat} {T : Bool × List (List Nat × List Nat)}
theorem taA {i:Nat} {N:Option Tmp} {oi:Oper} {v:Value} {fuel:Nat} {l:Array Bool} {a:Act} {w:World} {B:List Nat} (l':Array Bool) (hi:ops[i]?=some oi) (hN:oi.dst=N) (hT:aA (ck md ops=T)) (hB:aA (br T.2 B=true)) (hS:S w) {a':Act}
  (h:bG P md ops Q S ds fuel l' a' w) (hc:takeW T B ds l.toList l'.toList i=true:=by kernel_rfl) (hy:YieldsIf P ops S oi v a:=by
    refine Or.inl ⟨by rfl,?_⟩
    intro w' hs_
    repeat (have hs1_:=hs_.1;replace hs_:=hs_.2)
    (try dsimp only at hs_)
    go_simp
    with_reducible rfl) (ha:a.put N v=a':=by
    simp only [pA]
    rfl) (hQ:∀ c a w,Q (.panic c) (a.put oi.dst v) w→Q (.panic c) a w:=by exact fun _ _ _ h=>h):bG P md ops Q S ds (fuel+1) l a w:=take_ l' hi hN (take_ofW hT.out hB.out hc) hQ hy hS ha h
theorem puU {i:Nat} {N:Option Tmp} {oi:Oper} {fuel:Nat} {l:Array Bool} {a:Act} {w:World} (l':Array Bool) (hi:ops[i]?=some oi) (hN:oi.dst=N) (hT:aA (ck md ops=T)) {a':Act}
  (h:bG P md ops Q S ds fuel l' a' w) (hc:anyT T l.toList l'.toList i=true:=by kernel_rfl) (hy:Yields P ops oi undef a:=by
    exact Or.inr ⟨by rfl,rfl⟩) (ha:a.put N undef=a':=by
    simp only [pA]
    rfl) (hQ:∀ c a w,Q (.panic c) (a.put oi.dst undef) w→Q (.panic c) a w:=by exact fun _ _ _ h=>h):bG P md ops Q S ds (fuel+1) l a w:=fT l' hi hN (any_of hT.out hc) hQ hy ha h
theorem nmA {fuel:Nat} {l:Array Bool} {a a':Act} {w:World} (h:bG P md ops Q S ds fuel l a' w) (ha:a=a':=by
    show Act.put _ (some _) _=_
    simp only [pA]
    rfl):bG P md ops Q S ds fuel l a w:=fA ha h
end
theorem rf0 {A B:Prop} (hb:B) (ha:A:=by first|rfl|(simp [bB,bA] <;> rfl)|(simp [*,bB,bA] <;> rfl)):A∧B:=⟨ha,hb⟩
theorem bxE {P:Program} {ops:Array Oper} {rest:List Oper} {o:Oper} {a:Act} {Q:Exit→Act→World→Prop} {W:World} {cs:Array Value} {t:TypeId}
  (h:∀ g,g=W.heap.size→∀ w1,w1.heap[g]?=some (.cells cs t (0,0))→Below W.heap.size W w1→wpList P ops Q rest (a.put o.dst (.pointer (some ⟨g,0,none⟩))) w1) (hgd:o.guard=none:=by rfl)
  (hrun:(execOp a.eval o).run P W=.ok (.value (.pointer (some ⟨W.heap.size,0,none⟩))) (W.alloc (.cells cs t (0,0))):=by first|(go_simp;done)|(go_simp;rfl)):wpList P ops Q (o :: rest) a W:=
  Kd.event_run hgd hrun (h _ rfl _ (blk_new W _) (ay (Below.refl _ _) _))
theorem gL {P:Program} {ops:Array Oper} {Q:Exit→Act→World→Prop} {rest:List Oper} {oi:Oper} {a:Act} {w:World} (N:Option Tmp) (hd:oi.dst=N) {f:FuncId} {fn:Func} {os:Array Operand} {ts:Array TypeId} (hf:P.funcs[f]?=some fn) (args:Array Value)
  (h : Calls P f args w fun e w' => ∃ v, e = .returned v ∧ wpList P ops Q rest (a.put N v) w') (hg : oi.guard = none := by rfl) (hname : (fn.name == "runtime.NumGoroutine") = false := by kernel_rfl) (hb : fn.body.isSome = true := by rfl)
  (hop:oi.op=.call { callee:=.value (.func f),args:=os,argTypes:=ts }:=by rfl) (hargs:os.map a.eval=args:=by (try simp only [List.map_toArray,List.map_cons,List.map_nil]);first|done|rfl|(simp only [List.length_drop,List.length_take];rfl)):wpList P ops Q (oi :: rest) a w:=goesL_ N hd hg hf hname hb args hop hargs h
theorem rH {α:Type} {y t:α} {A B:Prop} (hy:y=t) (H:A) (h:y=t→A→B:=by
  intro hy H
  first|(rw [hy];with_reducible exact H)|(have H2_:=(Option.bind_some _ _).symm.trans H;rw [hy];with_reducible exact H2_)|(have H2_:=(Option.bind_some _ _).symm.trans H;with_reducible exact H2_)|with_reducible exact H|(rw [hy];exact H)|exact H):B:=h hy H
theorem dd {A:Prop} (h:A:=by first|exact ⟨rfl,_,World.drewN_drewN _ _ _⟩|exact ⟨rfl,_,Eq.trans (World.drewN_drewN _ _ _) (congrArg (World.drewN _) (Nat.add_assoc _ _ _))⟩):A:=h
theorem eW {A:Prop} (h:A:=by first|rfl|(simp [bB,bA] <;> rfl)|(simp [*,bB,bA] <;> rfl)):A:=h
theorem nlA {A:Prop} (h:A:=by first|exact Kd.R_nil _ _ _ _ _|exact Kd.N_nil _ _ _ _ _|exact Kd.V_nil _ _ _ _ _|exact Kd.Q_nil _ _ _ _ _|exact Kd.S_nil _ _ _ _ _):A:=h
theorem cR {A B:Prop} (h0:B) (h:B→A:=by intro h_;repeat (first|exact h_|(with_reducible refine Kd.C_alloc ?_ _)|(with_reducible refine Kd.C_drewN ?_ _)|(with_reducible refine Kd.C_drew ?_))):A:=h h0
theorem bpA {w w':World} {g:Nat} {o o':Obj} (h0:aA (w.heap[g]?=some o)) (h:w.heap[g]?=some o→w'.heap[g]?=some o':=by
  intro hb_
  repeat (first|(with_reducible exact hb_)|(with_reducible first|refine cU ?_ _|refine aK ?_|refine cV ?_ _)|refine aq ?_ (by first|exact aA.out (by assumption)|exact Nat.ne_of_lt (aA.out (by assumption))|exact Nat.ne_of_gt (aA.out (by assumption))) _|(refine bE (cs:=?_) ?_ _ _ ?_;rotate_left))
  all_goals rfl):w'.heap[g]?=some o':=h h0.out
theorem cfA {A B:Prop} (h0:B) (h:B→A:=by intro h_;repeat (first|(with_reducible exact h_)|refine (de (by first|exact aA.out (by assumption)|exact Nat.ne_of_lt (aA.out (by assumption))|exact Nat.ne_of_gt (aA.out (by assumption))) _).trans ?_)):A:=h h0
section
variable {P : Program} {ops : Array Oper} {Q : Exit → Act → World → Prop} {rest : List Oper} {oi : Oper} {a : Act} {w : World} {N : Option Tmp} {f : FuncId} {fn : Func} {os : Array Operand} {ts : Array TypeId} {args : Array Value} {v : Value} {R : World → Prop} {K : Act → World → Prop}
theorem gd (n:Tmp) (_hd:oi.dst=some n) (h:wpList P ops Q (oi :: rest) a w):wpList P ops Q (oi :: rest) a w:=h
theorem gC (N:Option Tmp) (hd:oi.dst=N) (hf:P.funcs[f]?=some fn) (hc:Calls P f args w fun e w'=>e=.returned v∧R w') (h:∀ w',R w'→wpList P ops Q rest (a.put N v) w')
  (hop : oi.op = .call { callee := .value (.func f), args := os, argTypes := ts } := by rfl) (hg : oi.guard = none := by rfl) (hname : (fn.name == "runtime.NumGoroutine") = false := by kernel_rfl) (hb : fn.body.isSome = true := by rfl)
  (hargs:os.map a.eval=args:=by (try simp only [List.map_toArray,List.map_cons,List.map_nil]);first|done|rfl|(simp only [List.length_drop,List.length_take];rfl)):wpList P ops Q (oi :: rest) a w:=
  goesL_ N hd hg hf hname hb args hop hargs (hc.mono fun _ w' ⟨e,r⟩=>⟨v,e,h w' r⟩)
theorem goC (hf:P.funcs[f]?=some fn) (hc:Calls P f args w fun e w'=>e=.returned v∧R w') (h:∀ w',R w'→K (a.put N v) w')
  (hw : Region.wanted oi (yielded ops a.tmps) = true := by rfl) (hop : oi.op = .call { callee := .value (.func f), args := os, argTypes := ts } := by rfl) (hN : oi.dst = N := by rfl) (hname : (fn.name == "runtime.NumGoroutine") = false := by kernel_rfl) (hb : fn.body.isSome = true := by rfl)
  (hargs:os.map a.eval=args:=by (try simp only [List.map_toArray,List.map_cons,List.map_nil]);first|done|rfl|(simp only [List.length_drop,List.length_take];rfl)):if Region.wanted oi (yielded ops a.tmps)=true then Oper.wp P oi a w K Q else K (a.put N undef) w:=
  goes_ hf hname hb args hw hN hop hargs (hc.mono fun _ w' ⟨e,r⟩=>⟨v,e,h w' r⟩)
end
end Go.Proofs.Ytpihnmmoahplgaa.PAll
