import Derived.Test.YtnhiehpbkimaeaaGreatProg
import Derived.Below
import Derived.Deep.Draws
import Derived.Deep.AppendLies
import Derived.Maps.AppendAt
import Derived.OwnWalk
import Derived.Laws.BytesArg
import Derived.Laws.MakeOwn
import Derived.Laws.OwnMore
import Derived.Deep.OwnRows
import Derived.Tactics
import Derived.Lib.ConvBytes
import Derived.Laws.Slices
import Derived.WalkKit
import Derived.KernelRfl
import Derived.RowKit3
import Derived.Deep.LoopGhost
import Derived.Deep.QuietTactic
import Derived.BigQuiet
import Derived.WideLaws
import Derived.Deep.DeepCutAuto
import Derived.Deep.CutBlock
import Derived.Deep.RegionHeld3
import Derived.Laws.Rows
import Derived.Lib.AppendStr
import Derived.ArgAppend
import Derived.Laws.IdiomCopy
import Derived.OrdersHeld
import Derived.Laws.BitsLemmas
import Derived.RowKit
import Derived.Test.YtnhiehpbkimaeaaGreatAux
import Derived.Handy
import Derived.Test.YtnhiehpbkimaeaaGreatShelf
import Derived.StillTailTactics
import Derived.Deep.RegionWith
import Derived.Deep.DeepCutAuto
import Derived.Test.YtnhiehpbkimaeaaGreatV0
namespace Go.Proofs.YtnhiehpbkimaeaaGreat.PAll
open Go.RowKit Go.Proofs.YtnhiehpbkimaeaaGreatW.PrintWords Go.Proofs.YtnhiehpbkimaeaaGreatW.PrintLast Go.Proofs.YtnhiehpbkimaeaaGreatW.PrintMore
attribute [local go_sem] Go.Proofs.YtnhiehpbkimaeaaGreat.Aux.setCell_drewN Go.Proofs.YtnhiehpbkimaeaaGreat.Aux.isSome_setCell cC b9 cQ cP bm bl cB b8
set_option linter.unusedVariables false
set_option linter.unusedSimpArgs false
def errW:Option Int→Value
  | none=>.nilIface
  | some c=>.iface 0 (.int .i64 c)
theorem bB:errW none=.nilIface:=rfl
theorem bA (c:Int):errW (some c)=.iface 0 (.int .i64 c):=rfl
theorem eH:(Tryz.prog.info? 2).map (fun i=>(i.zero,i.size,i.bytes))=some (some (.int .i64 0),1,8):=by kernel_rfl
theorem info4:(Tryz.prog.info? 4).map (fun i=>(i.zero,i.size,i.bytes))=some (some (.bool false),1,1):=by kernel_rfl
theorem info38:(Tryz.prog.info? 38).map (fun i=>(i.zero,i.size,i.bytes))=some (some (.slice none 0 0),1,24):=by kernel_rfl
theorem eE:(Tryz.prog.info? 43).map (fun i=>(i.zero,i.size,i.bytes))=some (some (.agg #[(.int .i64 0),(.int .i64 0),(.int .i64 0)]),3,24):=by kernel_rfl
theorem info49:(Tryz.prog.info? 49).map (fun i=>(i.zero,i.size,i.bytes))=some (some (.slice none 0 0),1,24):=by kernel_rfl
theorem info50:(Tryz.prog.info? 50).map (fun i=>(i.zero,i.size,i.bytes))=some (some (.slice none 0 0),1,24):=by kernel_rfl
theorem info59:(Tryz.prog.info? 59).map (fun i=>(i.zero,i.size,i.bytes))=some (some (.agg #[(.int .i64 0),(.int .i64 0),(.int .i64 0),(.int .i64 0)]),4,32):=by kernel_rfl
structure S57 where
  f0:Int
  f1:Int
def z57:S57:=⟨(0:Int),(0:Int)⟩
def k57:Kd S57:=Kd.iso (Kd.pair (Kd.int .i64) (Kd.int .i64)) (fun x:S57=>(x.f0,x.f1))
theorem fl {w:World} {x:S57} {cs:List Value} (h:k57.K w x cs):cs=[.int .i64 x.f0,.int .i64 x.f1]:=by
  obtain ⟨_,_,rfl,rfl,rfl⟩:=h
  exact rfl
theorem k57_openM {w:World} {base:Nat} {ok:Nat→Prop} {x:S57} {cs:List Value} (h:k57.M w base ok x cs):cs=[.int .i64 x.f0,.int .i64 x.f1]:=by
  obtain ⟨_,_,rfl,rfl,rfl⟩:=h
  exact rfl
theorem k57_mk (w:World) (x:S57)  : k57.K w x [.int .i64 x.f0,.int .i64 x.f1]:=⟨[.int .i64 x.f0],[.int .i64 x.f1],rfl,rfl,rfl⟩
theorem k57_mkM (w:World) (base:Nat) (ok:Nat→Prop) (x:S57)  : k57.M w base ok x [.int .i64 x.f0,.int .i64 x.f1]:=⟨[.int .i64 x.f0],[.int .i64 x.f1],rfl,rfl,rfl⟩
structure S58 where
  f0:S57
  f1:S57
def z58:S58:=⟨z57,z57⟩
def k58:Kd S58:=Kd.iso (Kd.pair k57 k57) (fun x:S58=>(x.f0,x.f1))
theorem k58_open {w:World} {x:S58} {cs:List Value} (h:k58.K w x cs):cs=[.int .i64 x.f0.f0,.int .i64 x.f0.f1,.int .i64 x.f1.f0,.int .i64 x.f1.f1]:=by
  obtain ⟨_,_,rfl,s0,s2⟩:=h
  obtain rfl:=fl s0
  obtain rfl:=fl s2
  exact rfl
theorem k58_mk (w:World) (x:S58)  : k58.K w x [.int .i64 x.f0.f0,.int .i64 x.f0.f1,.int .i64 x.f1.f0,.int .i64 x.f1.f1]:=⟨[.int .i64 x.f0.f0,.int .i64 x.f0.f1],[.int .i64 x.f1.f0,.int .i64 x.f1.f1],rfl,(k57_mk w x.f0 ),(k57_mk w x.f1 )⟩
def eD (xs:List S58) (i:Int):S58:=xs.getD i.toNat z58
theorem at_T58 {w:World} {A:Option Addr} {n:Nat} {xs:List S58} (h:Kd.C k58 w A n xs) (i:Int) (h0:0≤i) (h1:i<n):∃ ad,A=some ad∧w.cell? (ad.add (i.toNat*4))=some (.int .i64 (eD xs i).f0.f0)∧w.cell? ⟨(ad.add (i.toNat*4)).block,(ad.add (i.toNat*4)).off+1,none⟩=some (.int .i64 (eD xs i).f0.f1)∧w.cell? ⟨(ad.add (i.toNat*4)).block,(ad.add (i.toNat*4)).off+2,none⟩=some (.int .i64 (eD xs i).f1.f0)∧w.cell? ⟨(ad.add (i.toNat*4)).block,(ad.add (i.toNat*4)).off+3,none⟩=some (.int .i64 (eD xs i).f1.f1):=by
  obtain ⟨ad,c,e,_,hK,hc0⟩:=Kd.C_get h z58 i h0 h1
  have hc:∀ j u,c[j]?=some u→w.cell? (ad.add (i.toNat*4+j))=some u:=hc0
  obtain rfl:=k58_open hK
  exact ⟨ad,e,hc 0 _ rfl,by rw [← dS _ _ 1 (by omega)];exact hc 1 _ rfl,by rw [← dS _ _ 2 (by omega)];exact hc 2 _ rfl,by rw [← dS _ _ 3 (by omega)];exact hc 3 _ rfl⟩
structure S59 where
  f0:S57
  f1:S57
def z59:S59:=⟨z57,z57⟩
def k59:Kd S59:=Kd.iso (Kd.pair k57 k57) (fun x:S59=>(x.f0,x.f1))
theorem k59_open {w:World} {x:S59} {cs:List Value} (h:k59.K w x cs):cs=[.int .i64 x.f0.f0,.int .i64 x.f0.f1,.int .i64 x.f1.f0,.int .i64 x.f1.f1]:=by
  obtain ⟨_,_,rfl,s0,s2⟩:=h
  obtain rfl:=fl s0
  obtain rfl:=fl s2
  exact rfl
theorem k59_openM {w:World} {base:Nat} {ok:Nat→Prop} {x:S59} {cs:List Value} (h:k59.M w base ok x cs):cs=[.int .i64 x.f0.f0,.int .i64 x.f0.f1,.int .i64 x.f1.f0,.int .i64 x.f1.f1]:=by
  obtain ⟨_,_,rfl,s0,s2⟩:=h
  obtain rfl:=k57_openM s0
  obtain rfl:=k57_openM s2
  exact rfl
theorem k59_mkM (w:World) (base:Nat) (ok:Nat→Prop) (x:S59)  : k59.M w base ok x [.int .i64 x.f0.f0,.int .i64 x.f0.f1,.int .i64 x.f1.f0,.int .i64 x.f1.f1]:=⟨[.int .i64 x.f0.f0,.int .i64 x.f0.f1],[.int .i64 x.f1.f0,.int .i64 x.f1.f1],rfl,(k57_mkM w base ok x.f0 ),(k57_mkM w base ok x.f1 )⟩
def ai (xs:List S59) (i:Int):S59:=xs.getD i.toNat z59
theorem fA {w:World} {A:Option Addr} {n:Nat} {xs:List S59} (h:Kd.C k59 w A n xs) (i:Int) (h0:0≤i) (h1:i<n):∃ ad,A=some ad∧w.cell? (ad.add (i.toNat*4))=some (.int .i64 (ai xs i).f0.f0)∧w.cell? ⟨(ad.add (i.toNat*4)).block,(ad.add (i.toNat*4)).off+1,none⟩=some (.int .i64 (ai xs i).f0.f1)∧w.cell? ⟨(ad.add (i.toNat*4)).block,(ad.add (i.toNat*4)).off+2,none⟩=some (.int .i64 (ai xs i).f1.f0)∧w.cell? ⟨(ad.add (i.toNat*4)).block,(ad.add (i.toNat*4)).off+3,none⟩=some (.int .i64 (ai xs i).f1.f1):=by
  obtain ⟨ad,c,e,_,hK,hc0⟩:=Kd.C_get h z59 i h0 h1
  have hc:∀ j u,c[j]?=some u→w.cell? (ad.add (i.toNat*4+j))=some u:=hc0
  obtain rfl:=k59_open hK
  exact ⟨ad,e,hc 0 _ rfl,by rw [← dS _ _ 1 (by omega)];exact hc 1 _ rfl,by rw [← dS _ _ 2 (by omega)];exact hc 2 _ rfl,by rw [← dS _ _ 3 (by omega)];exact hc 3 _ rfl⟩
structure S43 where
  f0:Int
  f1:Int
  f2:Int
def z43:S43:=⟨(0:Int),(0:Int),(0:Int)⟩
def k43:Kd S43:=Kd.iso (Kd.pair (Kd.int .i64) (Kd.pair (Kd.int .i64) (Kd.int .i64))) (fun x:S43=>(x.f0,x.f1,x.f2))
theorem k43_open {w:World} {x:S43} {cs:List Value} (h:k43.K w x cs):cs=[.int .i64 x.f0,.int .i64 x.f1,.int .i64 x.f2]:=by
  obtain ⟨_,_,rfl,rfl,⟨_,_,rfl,rfl,rfl⟩⟩:=h
  exact rfl
theorem de (w:World) (base:Nat) (ok:Nat→Prop) (x:S43)  : k43.M w base ok x [.int .i64 x.f0,.int .i64 x.f1,.int .i64 x.f2]:=⟨[.int .i64 x.f0],[.int .i64 x.f1,.int .i64 x.f2],rfl,rfl,⟨[.int .i64 x.f1],[.int .i64 x.f2],rfl,rfl,rfl⟩⟩
def aD (xs:List S43) (i:Int):S43:=xs.getD i.toNat z43
theorem cu {w:World} {A:Option Addr} {n:Nat} {xs:List S43} (h:Kd.C k43 w A n xs) (i:Int) (h0:0≤i) (h1:i<n):∃ ad,A=some ad∧w.cell? (ad.add (i.toNat*3))=some (.int .i64 (aD xs i).f0)∧w.cell? ⟨(ad.add (i.toNat*3)).block,(ad.add (i.toNat*3)).off+1,none⟩=some (.int .i64 (aD xs i).f1)∧w.cell? ⟨(ad.add (i.toNat*3)).block,(ad.add (i.toNat*3)).off+2,none⟩=some (.int .i64 (aD xs i).f2):=by
  obtain ⟨ad,c,e,_,hK,hc0⟩:=Kd.C_get h z43 i h0 h1
  have hc:∀ j u,c[j]?=some u→w.cell? (ad.add (i.toNat*3+j))=some u:=hc0
  obtain rfl:=k43_open hK
  exact ⟨ad,e,hc 0 _ rfl,by rw [← dS _ _ 1 (by omega)];exact hc 1 _ rfl,by rw [← dS _ _ 2 (by omega)];exact hc 2 _ rfl⟩
def bE (xs:List (List Int)) (i:Int):(List Int):=xs.getD i.toNat ([]:List Int)
theorem fp {w:World} {A:Option Addr} {n:Nat} {xs:List (List Int)} (h:Kd.C (Kd.slice 2 (Kd.int .i64)) w A n xs) (i:Int) (h0:0≤i) (h1:i<n):∃ ad A0 c0,A=some ad∧w.cell? (ad.add i.toNat)=some (.slice A0 (bE xs i).length c0)∧(bE xs i).length≤c0∧(Kd.int .i64).C w A0 (bE xs i).length (bE xs i):=by
  obtain ⟨ad,c,e,_,hK,hc0⟩:=Kd.C_get h ([]:List Int) i h0 h1
  have hc:∀ j u,c[j]?=some u→w.cell? (ad.add (i.toNat*1+j))=some u:=hc0
  obtain ⟨A0,c0,rfl,l0,g0⟩:=hK
  exact ⟨ad,A0,c0,e,by have hq:=hc 0 _ rfl;rwa [Nat.mul_one,Nat.add_zero] at hq,l0,g0⟩
def cX (xs:List (List Bool)) (i:Int):(List Bool):=xs.getD i.toNat ([]:List Bool)
theorem at_L7 {w:World} {A:Option Addr} {n:Nat} {xs:List (List Bool)} (h:Kd.C (Kd.slice 4 Kd.bool) w A n xs) (i:Int) (h0:0≤i) (h1:i<n):∃ ad A0 c0,A=some ad∧w.cell? (ad.add i.toNat)=some (.slice A0 (cX xs i).length c0)∧(cX xs i).length≤c0∧Kd.bool.C w A0 (cX xs i).length (cX xs i):=by
  obtain ⟨ad,c,e,_,hK,hc0⟩:=Kd.C_get h ([]:List Bool) i h0 h1
  have hc:∀ j u,c[j]?=some u→w.cell? (ad.add (i.toNat*1+j))=some u:=hc0
  obtain ⟨A0,c0,rfl,l0,g0⟩:=hK
  exact ⟨ad,A0,c0,e,by have hq:=hc 0 _ rfl;rwa [Nat.mul_one,Nat.add_zero] at hq,l0,g0⟩
def ax (xs:List (List S43)) (i:Int):(List S43):=xs.getD i.toNat ([]:List S43)
theorem at_L8 {w:World} {A:Option Addr} {n:Nat} {xs:List (List S43)} (h:Kd.C (Kd.slice 43 k43) w A n xs) (i:Int) (h0:0≤i) (h1:i<n):∃ ad A0 c0,A=some ad∧w.cell? (ad.add i.toNat)=some (.slice A0 (ax xs i).length c0)∧(ax xs i).length≤c0∧k43.C w A0 (ax xs i).length (ax xs i):=by
  obtain ⟨ad,c,e,_,hK,hc0⟩:=Kd.C_get h ([]:List S43) i h0 h1
  have hc:∀ j u,c[j]?=some u→w.cell? (ad.add (i.toNat*1+j))=some u:=hc0
  obtain ⟨A0,c0,rfl,l0,g0⟩:=hK
  exact ⟨ad,A0,c0,e,by have hq:=hc 0 _ rfl;rwa [Nat.mul_one,Nat.add_zero] at hq,l0,g0⟩
theorem eqA43 (d:Nat) (w:World) (x0 y0:Int) (x1 y1:Int) (x2 y2:Int) :
    (Op.equalIn (d+2) 43 (.agg #[.int .i64 x0,.int .i64 x1,.int .i64 x2]) (.agg #[.int .i64 y0,.int .i64 y1,.int .i64 y2])).run Tryz.prog w=.ok (x0 == y0 && (x1 == y1 && (x2 == y2))) w:=by
  refine eqA_of Tryz.underlying43 (by kernel_rfl) ?_
  refine eqf_cons (by rfl) (by go_simp;rfl) (by go_simp;rfl) (by go_simp) ?_
  refine eqf_cons (by rfl) (by go_simp;rfl) (by go_simp;rfl) (by go_simp) ?_
  exact eqf_last (by rfl) (by go_simp;rfl) (by go_simp;rfl) (by go_simp)
theorem blA {n:Nat} {w w':World} (h:Below n w w':=by repeat (first|(with_reducible first|exact HB.out|apply bV|apply bp|apply al|refine cK ?_ (aA.out (by assumption)))|exact HB.out)):Below n w w':=h
theorem bkA {w w':World} {g:Nat} {o:Obj} (hb:aA (w.heap[g]?=some o)) (h:w.heap[g]?=some o→w'.heap[g]?=some o:=by intro hb_;(with_reducible repeat (first|refine dq ?_ _|refine ac ?_|refine dr ?_ _));exact hb_):w'.heap[g]?=some o:=h hb.out
theorem szA {w w':World} {g:Nat} (hg:g=w'.heap.size) (h:Below w.heap.size w w'):w.heap.size≤g:=by rw [hg];exact aQ h
theorem neA {w:World} {g g':Nat} {o:Obj} (hg:g'=w.heap.size) (h:w.heap[g]?=some o):g≠g':=by rw [hg];exact Nat.ne_of_lt (cO h)
theorem neB {w:World} {g g':Nat} {o:Obj} (hg:g'=w.heap.size) (h:w.heap[g]?=some o):g'≠g:=by rw [hg];exact Nat.ne_of_gt (cO h)
theorem bret {b c:Bool} (h:b=c):Ending.returned (.bool b)=.returned (.bool c):=by rw [h]
theorem bcell {W w1:World} (hb:Below W.heap.size W w1):(∀ b o,b<W.heap.size→w1.cell? ⟨b,o,none⟩=W.cell? ⟨b,o,none⟩)∧(∀ b o,b<W.heap.size→w1.frozen? ⟨b,o,none⟩=W.frozen? ⟨b,o,none⟩):=
  ⟨fun b o h=>hb.cell (p:=⟨b,o,none⟩) h,fun b o h=>hb.frozen (p:=⟨b,o,none⟩) h⟩
theorem kB {w w1 w2:World} {g:Nat} {o:Obj} (h0:aA (w.heap[g]?=some o)) (hb:Below w1.heap.size w1 w2) (h:w.heap[g]?=some o→w1.heap[g]?=some o:=by intro hb_;(with_reducible repeat (first|refine dq ?_ _|refine ac ?_|refine dr ?_ _));exact hb_):aA (w2.heap[g]?=some o):=⟨bL (h h0.out) hb⟩
theorem lB {w w1 w2:World} (hb:Below w1.heap.size w1 w2) (h:Below w.heap.size w w1:=by repeat (first|(with_reducible first|exact HB.out|apply bV|apply bp|apply al|refine cK ?_ (aA.out (by assumption)))|exact HB.out)):aA (Below w.heap.size w w2):=⟨below_step h hb⟩
theorem sA {w w1:World} {g:Nat} (hg:g=w1.heap.size) (h:Below w.heap.size w w1:=by repeat (first|(with_reducible first|exact HB.out|apply bV|apply bp|apply al|refine cK ?_ (aA.out (by assumption)))|exact HB.out)):aA (w.heap.size≤g):=⟨szA hg h⟩
theorem nA {w w1:World} {g g':Nat} {o:Obj} (hg:g'=w1.heap.size) (h0:aA (w.heap[g]?=some o)) (h:w.heap[g]?=some o→w1.heap[g]?=some o:=by intro hb_;(with_reducible repeat (first|refine dq ?_ _|refine ac ?_|refine dr ?_ _));exact hb_):aA (g≠g'):=⟨neA hg (h h0.out)⟩
theorem nB {w w1:World} {g g':Nat} {o:Obj} (hg:g'=w1.heap.size) (h0:aA (w.heap[g]?=some o)) (h:w.heap[g]?=some o→w1.heap[g]?=some o:=by intro hb_;(with_reducible repeat (first|refine dq ?_ _|refine ac ?_|refine dr ?_ _));exact hb_):aA (g'≠g):=⟨neB hg (h h0.out)⟩
theorem cE {A:Prop} {n:Nat} {w w1:World} (hb:Below n w w1) (ha:A:=by first|rfl|(simp [bB,bA] <;> rfl)|(simp [*,bB,bA] <;> rfl)):A∧Below n w w1:=⟨ha,hb⟩
theorem cA {w:World} {g:Nat} {t:TypeId} {cs:Array Value} (h:aA (w.heap[g]?=some (.cells cs t (0,0)))) (i:Nat) {v:Option Value} (e:cs[i]?=v:=by rfl):w.cell? ⟨g,i,none⟩=v:=(blk_cell h.out i).trans e
section
variable {α : Type} {d : Kd α} {e : Nat} {w w' : World} {base : Nat} {ok : Nat → Prop} {v : Value} {xs : List α}
theorem rA (ho:aA (Kd.R d e w base ok v xs)) (h:Kd.R d e w base ok v xs→Kd.R d e w' base ok v xs:=by intro h_;(with_reducible repeat (first|apply Kd.R_alloc|apply Kd.R_drewN|apply Kd.R_drew));exact h_):Kd.R d e w' base ok v xs:=h ho.out
theorem rN (ho:aA (Kd.N d e w base ok v xs)) (h:Kd.N d e w base ok v xs→Kd.N d e w' base ok v xs:=by intro h_;(with_reducible repeat (first|apply Kd.N_alloc|apply Kd.N_drewN|apply Kd.N_drew));exact h_):Kd.N d e w' base ok v xs:=h ho.out
theorem rV (ho:aA (Kd.V d e w base ok v xs)) (h:Kd.V d e w base ok v xs→Kd.V d e w' base ok v xs:=by intro h_;(with_reducible repeat (first|apply Kd.V_alloc|apply Kd.V_drewN|apply Kd.V_drew));exact h_):Kd.V d e w' base ok v xs:=h ho.out
end
theorem bkF {w w':World} {g:Nat} {o:Obj} (hb:aA (w.heap[g]?=some o)) (h:w.heap[g]?=some o→w'.heap[g]?=some o:=by intro hb_;repeat (first|(with_reducible exact hb_)|(with_reducible first|refine dq ?_ _|refine ac ?_|refine dr ?_ _)|refine blk_far ?_ (by first|exact aA.out (by assumption)|exact Nat.ne_of_lt (aA.out (by assumption))|exact Nat.ne_of_gt (aA.out (by assumption))) _)):w'.heap[g]?=some o:=h hb.out
theorem hA {A:Prop} (h:A:=by (try simp only [List.map_toArray,List.map_cons,List.map_nil]);first|done|rfl|(simp only [List.length_drop,List.length_take];rfl)):A:=h
theorem hB {A:Prop} (h:A:=by first|rfl|(simp;done)|(simp [*];done)):A:=h
theorem dA {p:Prop} [Decidable p] (h:decide p=true:=by first|(with_reducible assumption)|assumption):p:=of_decide_eq_true h
theorem pA:(∀ (a:Act) (d:Tmp) (v:Value),a.put (some d) v={ a with tmps:=a.tmps.setIfInBounds d v })∧(∀ (a:Act) (v:Value),a.put none v=a)∧(∀ (l:List Value) (i:Nat) (x:Value),l.toArray.setIfInBounds i x=(l.set i x).toArray)∧(∀ (x y:Value) (l:List Value),(x :: l).set 0 y=y :: l)∧(∀ (x y:Value) (l:List Value) (i:Nat),(x :: l).set (i+1) y=x :: l.set i y)∧(∀ n,IntKind.i64.wrap n=wrap64 n)∧(∀ n,IntKind.i32.wrap n=wrap32 n):=⟨fun _ _ _=>rfl,fun _ _=>rfl,fun _ _ _=>List.setIfInBounds_toArray ..,fun _ _ _=>rfl,fun _ _ _ _=>rfl,dh,di⟩
abbrev Y:Bool:=true
abbrev Z:Bool:=false
theorem bS {α β:Type} {a:Option α} {f:α→Option β} {r:β} (h:a.bind f=some r):∃ t,aA (a=some t)∧f t=some r:=by
  obtain ⟨t,h1,h2⟩:=Option.bind_eq_some_iff.mp h
  exact ⟨t,⟨h1⟩,h2⟩
theorem cz2 {w:World} {g:Nat} {t:TypeId} {x0 x1:Value} (h:aA (w.heap[g]?=some (.cells #[x0,x1] t (0,0)))):w.cell? ⟨g,0,none⟩=some x0∧w.cell? ⟨g,1,none⟩=some x1∧w.frozen? ⟨g,0,none⟩=false∧w.frozen? ⟨g,1,none⟩=false:=⟨cA h 0,cA h 1,bH h.out 0,bH h.out 1⟩
theorem cz3 {w:World} {g:Nat} {t:TypeId} {x0 x1 x2:Value} (h:aA (w.heap[g]?=some (.cells #[x0,x1,x2] t (0,0)))):w.cell? ⟨g,0,none⟩=some x0∧w.cell? ⟨g,1,none⟩=some x1∧w.cell? ⟨g,2,none⟩=some x2∧w.frozen? ⟨g,0,none⟩=false∧w.frozen? ⟨g,1,none⟩=false∧w.frozen? ⟨g,2,none⟩=false:=⟨cA h 0,cA h 1,cA h 2,bH h.out 0,bH h.out 1,bH h.out 2⟩
theorem cz4 {w:World} {g:Nat} {t:TypeId} {x0 x1 x2 x3:Value} (h:aA (w.heap[g]?=some (.cells #[x0,x1,x2,x3] t (0,0)))):w.cell? ⟨g,0,none⟩=some x0∧w.cell? ⟨g,1,none⟩=some x1∧w.cell? ⟨g,2,none⟩=some x2∧w.cell? ⟨g,3,none⟩=some x3∧w.frozen? ⟨g,0,none⟩=false∧w.frozen? ⟨g,1,none⟩=false∧w.frozen? ⟨g,2,none⟩=false∧w.frozen? ⟨g,3,none⟩=false:=⟨cA h 0,cA h 1,cA h 2,cA h 3,bH h.out 0,bH h.out 1,bH h.out 2,bH h.out 3⟩
section
variable {P : Program} {ops : Array Oper} {Q : Exit → Act → World → Prop} {md : Region.Mode} {S : World → Prop} {ds : List Nat} {T : Bool × List (List Nat × List Nat)}
theorem puA {i:Nat} {N:Option Tmp} {oi:Oper} {v:Value} {fuel:Nat} {l:Array Bool} {a:Act} {w:World} (l':Array Bool) (hi:ops[i]?=some oi) (hN:oi.dst=N) (hT:aA (cZ md ops=T)) {a':Act}
  (h:af P md ops Q S ds fuel l' a' w) (hc:anyT T l.toList l'.toList i=true:=by kernel_rfl) (hy:Yields P ops oi v a:=by
    refine Or.inl ⟨by rfl,?_⟩
    intro w'
    go_simp
    with_reducible rfl) (ha:a.put N v=a':=by
    simp only [pA]
    rfl) (hQ:∀ c a w,Q (.panic c) (a.put oi.dst v) w→Q (.panic c) a w:=by exact fun _ _ _ h=>h):af P md ops Q S ds (fuel+1) l a w:=cH l' hi hN (any_of hT.out hc) hQ hy ha h
end
section
variable {P : Program} {ops : Array Oper} {Q : Exit → Act → World → Prop} {md : Region.Mode} {S : World → Prop} {ds : List Nat} {T : Bool × List (List Nat × List Nat)}
theorem taA {i:Nat} {N:Option Tmp} {oi:Oper} {v:Value} {fuel:Nat} {l:Array Bool} {a:Act} {w:World} {B:List Nat} (l':Array Bool) (hi:ops[i]?=some oi) (hN:oi.dst=N) (hT:aA (cZ md ops=T)) (hB:aA (bq T.2 B=true)) (hS:S w) {a':Act}
  (h:af P md ops Q S ds fuel l' a' w) (hc:takeW T B ds l.toList l'.toList i=true:=by kernel_rfl) (hy:YieldsIf P ops S oi v a:=by
    refine Or.inl ⟨by rfl,?_⟩
    intro w' hs_
    repeat (have hs1_:=hs_.1;replace hs_:=hs_.2)
    (try dsimp only at hs_)
    go_simp
    with_reducible rfl) (ha:a.put N v=a':=by
    simp only [pA]
    rfl) (hQ:∀ c a w,Q (.panic c) (a.put oi.dst v) w→Q (.panic c) a w:=by exact fun _ _ _ h=>h):af P md ops Q S ds (fuel+1) l a w:=take_ l' hi hN (take_ofW hT.out hB.out hc) hQ hy hS ha h
theorem puU {i:Nat} {N:Option Tmp} {oi:Oper} {fuel:Nat} {l:Array Bool} {a:Act} {w:World} (l':Array Bool) (hi:ops[i]?=some oi) (hN:oi.dst=N) (hT:aA (cZ md ops=T)) {a':Act}
  (h:af P md ops Q S ds fuel l' a' w) (hc:anyT T l.toList l'.toList i=true:=by kernel_rfl) (hy:Yields P ops oi undef a:=by
    exact Or.inr ⟨by rfl,rfl⟩) (ha:a.put N undef=a':=by
    simp only [pA]
    rfl) (hQ:∀ c a w,Q (.panic c) (a.put oi.dst undef) w→Q (.panic c) a w:=by exact fun _ _ _ h=>h):af P md ops Q S ds (fuel+1) l a w:=cH l' hi hN (any_of hT.out hc) hQ hy ha h
theorem nmA {fuel:Nat} {l:Array Bool} {a a':Act} {w:World} (h:af P md ops Q S ds fuel l a' w) (ha:a=a':=by
    show Act.put _ (some _) _=_
    simp only [pA]
    rfl):af P md ops Q S ds fuel l a w:=b6 ha h
end
theorem bxE {P:Program} {ops:Array Oper} {rest:List Oper} {o:Oper} {a:Act} {Q:Exit→Act→World→Prop} {W:World} {cs:Array Value} {t:TypeId}
  (h:∀ g,g=W.heap.size→∀ w1,w1.heap[g]?=some (.cells cs t (0,0))→Below W.heap.size W w1→wpList P ops Q rest (a.put o.dst (.pointer (some ⟨g,0,none⟩))) w1) (hgd:o.guard=none:=by rfl)
  (hrun:(execOp a.eval o).run P W=.ok (.value (.pointer (some ⟨W.heap.size,0,none⟩))) (W.alloc (.cells cs t (0,0))):=by first|(go_simp;done)|(go_simp;rfl)):wpList P ops Q (o :: rest) a W:=
  Kd.event_run hgd hrun (h _ rfl _ (blk_new W _) (bV (Below.refl _ _) _))
theorem gL {P:Program} {ops:Array Oper} {Q:Exit→Act→World→Prop} {rest:List Oper} {oi:Oper} {a:Act} {w:World} (N:Option Tmp) (hd:oi.dst=N) {f:FuncId} {fn:Func} {os:Array Operand} {ts:Array TypeId} (hf:P.funcs[f]?=some fn) (args:Array Value)
  (h : Calls P f args w fun e w' => ∃ v, e = .returned v ∧ wpList P ops Q rest (a.put N v) w') (hg : oi.guard = none := by rfl) (hname : (fn.name == "runtime.NumGoroutine") = false := by kernel_rfl) (hb : fn.body.isSome = true := by rfl)
  (hop:oi.op=.call { callee:=.value (.func f),args:=os,argTypes:=ts }:=by rfl) (hargs:os.map a.eval=args:=by (try simp only [List.map_toArray,List.map_cons,List.map_nil]);first|done|rfl|(simp only [List.length_drop,List.length_take];rfl)):wpList P ops Q (oi :: rest) a w:=eq N hd hg hf hname hb args hop hargs h
theorem rH {α:Type} {y t:α} {A B:Prop} (hy:y=t) (H:A) (h:y=t→A→B:=by
  intro hy H
  first|(rw [hy];with_reducible exact H)|(have H2_:=(Option.bind_some _ _).symm.trans H;rw [hy];with_reducible exact H2_)|(have H2_:=(Option.bind_some _ _).symm.trans H;with_reducible exact H2_)|with_reducible exact H|(rw [hy];exact H)|exact H):B:=h hy H
theorem dd {A:Prop} (h:A:=by first|exact ⟨rfl,_,World.drewN_drewN _ _ _⟩|exact ⟨rfl,_,Eq.trans (World.drewN_drewN _ _ _) (congrArg (World.drewN _) (Nat.add_assoc _ _ _))⟩):A:=h
theorem eW {A:Prop} (h:A:=by first|rfl|(simp [bB,bA] <;> rfl)|(simp [*,bB,bA] <;> rfl)):A:=h
theorem nlA {A:Prop} (h:A:=by first|exact Kd.R_nil _ _ _ _ _|exact Kd.N_nil _ _ _ _ _|exact Kd.V_nil _ _ _ _ _|exact Kd.Q_nil _ _ _ _ _|exact Kd.S_nil _ _ _ _ _):A:=h
theorem cR {A B:Prop} (h0:B) (h:B→A:=by intro h_;repeat (first|exact h_|(with_reducible refine Kd.C_alloc ?_ _)|(with_reducible refine Kd.C_drewN ?_ _)|(with_reducible refine Kd.C_drew ?_))):A:=h h0
theorem bpA {w w':World} {g:Nat} {o o':Obj} (h0:aA (w.heap[g]?=some o)) (h:w.heap[g]?=some o→w'.heap[g]?=some o':=by
  intro hb_
  repeat (first|(with_reducible exact hb_)|(with_reducible first|refine dq ?_ _|refine ac ?_|refine dr ?_ _)|refine blk_far ?_ (by first|exact aA.out (by assumption)|exact Nat.ne_of_lt (aA.out (by assumption))|exact Nat.ne_of_gt (aA.out (by assumption))) _|(refine blk_put (cs:=?_) ?_ _ _ ?_;rotate_left))
  all_goals rfl):w'.heap[g]?=some o':=h h0.out
theorem cfA {A B:Prop} (h0:B) (h:B→A:=by intro h_;repeat (first|(with_reducible exact h_)|refine (bv (by first|exact aA.out (by assumption)|exact Nat.ne_of_lt (aA.out (by assumption))|exact Nat.ne_of_gt (aA.out (by assumption))) _).trans ?_)):A:=h h0
section
variable {P : Program} {ops : Array Oper} {Q : Exit → Act → World → Prop} {rest : List Oper} {oi : Oper} {a : Act} {w : World} {N : Option Tmp} {f : FuncId} {fn : Func} {os : Array Operand} {ts : Array TypeId} {args : Array Value} {v : Value} {R : World → Prop} {K : Act → World → Prop}
theorem gd (n:Tmp) (_hd:oi.dst=some n) (h:wpList P ops Q (oi :: rest) a w):wpList P ops Q (oi :: rest) a w:=h
theorem gC (N:Option Tmp) (hd:oi.dst=N) (hf:P.funcs[f]?=some fn) (hc:Calls P f args w fun e w'=>e=.returned v∧R w') (h:∀ w',R w'→wpList P ops Q rest (a.put N v) w')
  (hop : oi.op = .call { callee := .value (.func f), args := os, argTypes := ts } := by rfl) (hg : oi.guard = none := by rfl) (hname : (fn.name == "runtime.NumGoroutine") = false := by kernel_rfl) (hb : fn.body.isSome = true := by rfl)
  (hargs:os.map a.eval=args:=by (try simp only [List.map_toArray,List.map_cons,List.map_nil]);first|done|rfl|(simp only [List.length_drop,List.length_take];rfl)):wpList P ops Q (oi :: rest) a w:=
  eq N hd hg hf hname hb args hop hargs (hc.mono fun _ w' ⟨e,r⟩=>⟨v,e,h w' r⟩)
theorem goC (hf:P.funcs[f]?=some fn) (hc:Calls P f args w fun e w'=>e=.returned v∧R w') (h:∀ w',R w'→K (a.put N v) w')
  (hw : Region.wanted oi (yielded ops a.tmps) = true := by rfl) (hop : oi.op = .call { callee := .value (.func f), args := os, argTypes := ts } := by rfl) (hN : oi.dst = N := by rfl) (hname : (fn.name == "runtime.NumGoroutine") = false := by kernel_rfl) (hb : fn.body.isSome = true := by rfl)
  (hargs:os.map a.eval=args:=by (try simp only [List.map_toArray,List.map_cons,List.map_nil]);first|done|rfl|(simp only [List.length_drop,List.length_take];rfl)):if Region.wanted oi (yielded ops a.tmps)=true then Oper.wp P oi a w K Q else K (a.put N undef) w:=
  d9 hf hname hb args hw hN hop hargs (hc.mono fun _ w' ⟨e,r⟩=>⟨v,e,h w' r⟩)
end
end Go.Proofs.YtnhiehpbkimaeaaGreat.PAll
