-- turned out of the kit's print
import Derived.Test.YtboneolhoajaoaaQx
import Derived.Test.YtboneolhoajaoaaQLeqBall
import Derived.Test.YtboneolhoajaoaaQimplballAt
namespace Go.Proofs.Ytboneolhoajaoaa.PAll
open Go.RowKit Go.Proofs.YtboneolhoajaoaaW.PrintWords Go.Proofs.YtboneolhoajaoaaW.PrintLast Go.Proofs.YtboneolhoajaoaaW.PrintMore
attribute [local go_sem] Go.Proofs.Ytboneolhoajaoaa.Aux.setCell_drewN Go.Proofs.Ytboneolhoajaoaa.Aux.isSome_setCell max2_int min2_int max_two min_two max_three min_three max_four min_four
set_option linter.unusedVariables false
set_option linter.unusedSimpArgs false
def impl_BallsOfLine.take (k:Nat) (p x0 x1 lv:Int) (s:Bool × List S38):Option (Bool × List S38):=(impl_ballAt.f k p x0 x1 lv).bind fun b=>if s.2.length<1000 then some (s.1 && b.2.2.2,s.2 ++ [⟨b.1,b.2.1,b.2.2.1⟩]) else none
def impl_BallsOfLine.row (k:Nat) (p x0 x1 d:Int):Nat→Int→Bool × List S38→Option (Bool × List S38)
 | 0,_,s=>some s
 | m+1,lv,s=>(impl_BallsOfLine.take k p x0 x1 lv s).bind fun s1=>impl_BallsOfLine.row k p x0 x1 d m (lv+d) s1
def impl_BallsOfLine.fin (s:Bool × List S38):Option (List S38 × Int):=if s.1=true then some (s.2,0) else some ([],3)
def impl_BallsOfLine.f (k:Nat) (a0 a1_0 a1_1 a2_0 a2_1 a3:Int):Option (List S38 × Int):=(impl_isPrime.f a0).bind fun t=>if t=true then (impl_areEnds.f k [⟨a1_0,a1_1⟩,⟨a2_0,a2_1⟩]).bind fun u=>(if u=true then (if a3<0∨6<a3 then some ([],2) else if a1_0=a2_0∧a1_1=a2_1 then some ([],5) else if a2_1=0 then (impl_BallsOfLine.row k a0 a1_0 a1_1 (-1) (2*a3+1).toNat a3 (true,[])).bind impl_BallsOfLine.fin else if a1_1=0 then (impl_BallsOfLine.row k a0 a2_0 a2_1 1 (2*a3+1).toNat (-a3) (true,[])).bind impl_BallsOfLine.fin else (impl_gap.f k a0 a1_0 a1_1 a2_0 a2_1).bind fun g=>if -1000≤g∧g≤1000 then (impl_BallsOfLine.row k a0 a1_0 a1_1 (-1) (a3+1).toNat (g+a3) (true,[])).bind fun s=>(impl_BallsOfLine.row k a0 a2_0 a2_1 1 a3.toNat (g+1) s).bind impl_BallsOfLine.fin else none) else some ([],1)) else some ([],1)
theorem impl_BallsOfLine.row_mono (p x0 x1 d:Int) (k:Nat):∀ m lv s,LeO (impl_BallsOfLine.row k p x0 x1 d m lv s) (impl_BallsOfLine.row (k+1) p x0 x1 d m lv s)
 | 0,_,_=>LeO.refl _
 | m+1,lv,s=>by
  unfold impl_BallsOfLine.row
  refine LeO.bind ?_ fun s1=>impl_BallsOfLine.row_mono p x0 x1 d k m (lv+d) s1
  unfold impl_BallsOfLine.take
  exact LeO.bind (impl_ballAt.mono _ _ _ _ k) fun _=>LeO.refl _
theorem impl_BallsOfLine.mono:∀ a0 a1 a2 a3 a4 a5 k,LeO (impl_BallsOfLine.f k a0 a1 a2 a3 a4 a5) (impl_BallsOfLine.f (k+1) a0 a1 a2 a3 a4 a5):=by
 intro a0 a1 a2 a3 a4 a5 k
 unfold impl_BallsOfLine.f
 repeat' first
  | with_reducible first|exact impl_BallsOfLine.row_mono ..|exact impl_areEnds.mono ..|exact impl_gap.mono ..|exact LeO.refl _|exact LeO.none _|refine LeO.ite ?_ ?_|refine LeO.bind ?_ fun _=>?_
  | exact LeO.none _
theorem impl_BallsOfLine.ne {w:World} {g g' t t':Nat} {cs cs':Array Value} (h:w.heap[g]?=some (.cells cs t (0,0))) (h':w.heap[g']?=some (.cells cs' t' (0,0))) (ht:t≠t'):g≠g':=by
 rintro rfl
 rw [h] at h'
 injection h' with h'
 injection h' with _ h'
 exact ht h'
def impl_BallsOfLine.Keep (w w':World):Prop:=∀ (g t:Nat) (cs:Array Value),t≠4→t≠24→t≠38→w.heap[g]?=some (.cells cs t (0,0))→w'.heap[g]?=some (.cells cs t (0,0))
theorem impl_BallsOfLine.nm {A B:World→Prop} {W:World} (h:A W) (k:∀ w',A w'→B w'):B W:=k W h
theorem impl_BallsOfLine.hE:∀ t,t≠38→∀ q,q ∈ 38 :: k38.E→q≠t:=fun t ht q hq=>by
 cases hq with
 | head=>exact fun e=>ht e.symm
 | tail _ h=>cases h
def impl_BallsOfLine.St (w w0:World) (gf go g7:Nat) (b:Bool) (v:Value) (l:List S38) (n0 n1 n2:Int) (W:World):Prop:=Aside0 (W.heap[g7]?=some (.cells #[.int .i64 n0,.int .i64 n1,.int .i64 n2] 38 (0,0)))∧Aside0 (W.heap[gf]?=some (.cells #[.bool b] 4 (0,0)))∧Aside0 (W.heap[go]?=some (.cells #[v] 24 (0,0)))∧Aside0 (Kd.R k38 38 W w0.heap.size (fun k=>(True∧k≠g7)∧k≠gf) v l)∧Aside0 (Below w0.heap.size w0 W)∧Aside0 (impl_BallsOfLine.Keep w W)
theorem impl_BallsOfLine.st {w w0 w5:World} {gf go g7:Nat} {b0:Bool} {v:Value} {l:List S38} (n0 n1 n2:Int) (b:Bool) (H7:Aside0 (w5.heap[g7]?=some (.cells #[.int .i64 0,.int .i64 0,.int .i64 0] 38 (0,0)))) (HF:Aside0 (w5.heap[gf]?=some (.cells #[.bool b0] 4 (0,0)))) (HO:Aside0 (w5.heap[go]?=some (.cells #[v] 24 (0,0)))) (HR:Aside0 (Kd.R k38 38 w5 w0.heap.size (fun k=>True∧k≠g7) v l)) (HB:Aside0 (Below w0.heap.size w0 w5)) (HX:Aside0 (impl_BallsOfLine.Keep w w5)) (G7:Aside0 (w0.heap.size≤g7)) (GF:Aside0 (w0.heap.size≤gf)) (h7f:g7≠gf) (h7o:g7≠go) (hfo:gf≠go) :
  impl_BallsOfLine.St w w0 gf go g7 b v l n0 n1 n2 ((((w5.setCell ⟨g7,0,none⟩ (.int .i64 n0)).setCell ⟨g7,1,none⟩ (.int .i64 n1)).setCell ⟨g7,2,none⟩ (.int .i64 n2)).setCell ⟨gf,0,none⟩ (.bool b)):=
 ⟨⟨blk_far (blk_put (blk_put (blk_put H7.out 0 _ rfl) 1 _ rfl) 2 _ rfl) h7f _⟩,⟨blk_put (blk_far (blk_far (blk_far HF.out h7f.symm _) h7f.symm _) h7f.symm _) 0 _ rfl⟩,⟨blk_far (blk_far (blk_far (blk_far HO.out h7o.symm _) h7o.symm _) h7o.symm _) hfo.symm _⟩,
  ⟨Kd.R_far (p:=⟨gf,0,none⟩) (Kd.R_far (p:=⟨g7,2,none⟩) (Kd.R_far (p:=⟨g7,1,none⟩) (Kd.R_far (p:=⟨g7,0,none⟩) (Kd.R_types HR.out HF.out (impl_BallsOfLine.hE _ (by decide))) (fun _ hk=>hk.1.2) _) (fun _ hk=>hk.1.2) _) (fun _ hk=>hk.1.2) _) (fun _ hk=>hk.2) _⟩,
  ⟨below_set (below_set (below_set (below_set HB.out G7.out) G7.out) G7.out) GF.out⟩,
  ⟨fun g t cs h1 h2 h3 h=>by
   have h5:=HX.out g t cs h1 h2 h3 h
   have e7:g≠g7:=impl_BallsOfLine.ne h5 H7.out h3
   have ef:g≠gf:=impl_BallsOfLine.ne h5 HF.out h1
   exact blk_far (blk_far (blk_far (blk_far h5 e7 _) e7 _) e7 _) ef _⟩⟩
set_option maxHeartbeats 8000000 in
set_option maxRecDepth 100000 in
theorem impl_BallsOfLine.clo (k:Nat) (p x0 x1 lv n0 n1 n2:Int) (ok fine:Bool) (gp gf go:Nat) (v:Value) (l:List S38) (w0 w:World)
  (HP:Aside0 (w.heap[gp]?=some (.cells #[.int .i64 p] 2 (0,0)))) (HF:Aside0 (w.heap[gf]?=some (.cells #[.bool fine] 4 (0,0)))) (HO:Aside0 (w.heap[go]?=some (.cells #[v] 24 (0,0)))) (HR:Aside0 (Kd.R k38 38 w w0.heap.size (fun _=>True) v l))
  (GF:Aside0 (w0.heap.size≤gf)) (GO:Aside0 (w0.heap.size≤go)) (HB:Aside0 (Below w0.heap.size w0 w)) (hl:l.length<1000) (h:impl_ballAt.f k p x0 x1 lv=some (n0,n1,n2,ok)) :
  Calls Try.prog 16 #[.agg #[.int .i64 x0,.int .i64 x1],.int .i64 lv,.pointer (some ⟨gp,0,none⟩),.pointer (some ⟨gf,0,none⟩),.pointer (some ⟨go,0,none⟩)] w fun e w'=>∃ v':Value,e=.returned (.tuple #[])∧w'.heap[gf]?=some (.cells #[.bool (fine && ok)] 4 (0,0))∧w'.heap[go]?=some (.cells #[v'] 24 (0,0))∧Kd.R k38 38 w' w0.heap.size (fun _=>True) v' (l ++ [⟨n0,n1,n2⟩])∧Below w0.heap.size w0 w'∧impl_BallsOfLine.Keep w w':=by
 have HL:=Aside0.mk hl
 have A:=Aside0.mk h
 clear hl h
 have HX:Aside0 (impl_BallsOfLine.Keep w w):=⟨fun _ _ _ _ _ _ h=>h⟩
 have hfo:gf≠go:=impl_BallsOfLine.ne HF.out HO.out (by decide)
 have hof:go≠gf:=hfo.symm
 have hcp0:w.cell? ⟨gp,0,none⟩=some (.int .i64 p):=(blk_cell HP.out 0).trans rfl
 obtain ⟨fine',hfine⟩:∃ b:Bool,(fine && ok)=b:=⟨_,rfl⟩
 rw [hfine]
 cases fine
 all_goals
  simp only [Bool.false_and,Bool.true_and] at hfine
  subst hfine
  go_enter Try.func16,Try.ntmps16
  go_upto_region 3 with (first|((with_reducible refine gate_dst (N:=5) rfl ?_);refine bxE (cs:=#[.int .i64 x0,.int .i64 x1]) (t:=27) ?_;intro g5 hg w3 hbox hb;have m1:=Aside0.mk (blk_below HP.out hb);have m2:=Aside0.mk (blk_below HF.out hb);have m3:=Aside0.mk (blk_below HO.out hb);have m4:=Aside0.mk (Kd.R_below HR.out hb);have m5:=Aside0.mk (below_step HB.out hb);have m6:Aside0 (impl_BallsOfLine.Keep w w3):=⟨fun g t cs h1 h2 h3 h=>blk_below (HX.out g t cs h1 h2 h3 h) hb⟩;clear HP HF HO HR HB HX hcp0;have HP:=m1;have HF:=m2;have HO:=m3;have HR:=m4;have HB:=m5;have HX:=m6;clear m1 m2 m3 m4 m5 m6 hb hg;have hcp3:w3.cell? ⟨gp,0,none⟩=some (.int .i64 p):=(blk_cell HP.out 0).trans rfl;have hc53_0:w3.cell? ⟨g5,0,none⟩=some (.int .i64 x0):=(blk_cell hbox 0).trans rfl;have hc53_1:w3.cell? ⟨g5,1,none⟩=some (.int .i64 x1):=(blk_cell hbox 1).trans rfl;clear hbox)|((with_reducible refine gd 16 rfl ?_);refine gC (some 16) rfl Try.func17 (impl_ballAt.calls (w:=_) (h:=A.out)) ?_;intro w4 hb;have m1:=Aside0.mk (blk_below HP.out hb);have m2:=Aside0.mk (blk_below HF.out hb);have m3:=Aside0.mk (blk_below HO.out hb);have m4:=Aside0.mk (Kd.R_below HR.out hb);have m5:=Aside0.mk (below_step HB.out hb);have m6:Aside0 (impl_BallsOfLine.Keep w w4):=⟨fun g t cs h1 h2 h3 h=>blk_below (HX.out g t cs h1 h2 h3 h) hb⟩;clear HP HF HO HR HB HX hcp3 hc53_0 hc53_1;have HP:=m1;have HF:=m2;have HO:=m3;have HR:=m4;have HB:=m5;have HX:=m6;clear m1 m2 m3 m4 m5 m6 hb)|((with_reducible refine gate_dst (N:=7) rfl ?_);refine bxE (cs:=#[.int .i64 0,.int .i64 0,.int .i64 0]) (t:=38) ?_;intro g7 hg w5 hbox hb;have m1:=Aside0.mk (blk_below HP.out hb);have m2:=Aside0.mk (blk_below HF.out hb);have m3:=Aside0.mk (blk_below HO.out hb);have m4:=Aside0.mk (Kd.R_below (Kd.R_elderB HR.out g7 (Nat.le_of_eq hg.symm)) hb);have m5:=Aside0.mk (below_step HB.out hb);have m6:Aside0 (impl_BallsOfLine.Keep w w5):=⟨fun g t cs h1 h2 h3 h=>blk_below (HX.out g t cs h1 h2 h3 h) hb⟩;have G7:Aside0 (w0.heap.size≤g7):=⟨by rw [hg];exact below_size HB.out⟩;clear HP HF HO HR HB HX;have HP:=m1;have HF:=m2;have HO:=m3;have HR:=m4;have HB:=m5;have HX:=m6;have H7:=Aside0.mk hbox;clear m1 m2 m3 m4 m5 m6 hb hg hbox;have h7f:g7≠gf:=impl_BallsOfLine.ne H7.out HF.out (by decide);have hf7:gf≠g7:=h7f.symm;have h7o:g7≠go:=impl_BallsOfLine.ne H7.out HO.out (by decide);have ho7:go≠g7:=h7o.symm;have hc7_0:w5.cell? ⟨g7,0,none⟩=some (.int .i64 0):=(blk_cell H7.out 0).trans rfl;have hc7_1:w5.cell? ⟨g7,1,none⟩=some (.int .i64 0):=(blk_cell H7.out 1).trans rfl;have hc7_2:w5.cell? ⟨g7,2,none⟩=some (.int .i64 0):=(blk_cell H7.out 2).trans rfl;have hz7_0:=blk_frozen H7.out 0;have hz7_1:=blk_frozen H7.out 1;have hz7_2:=blk_frozen H7.out 2;(first|(have hcf:w5.cell? ⟨gf,0,none⟩=some (.bool true):=(blk_cell HF.out 0).trans rfl)|(have hcf:w5.cell? ⟨gf,0,none⟩=some (.bool false):=(blk_cell HF.out 0).trans rfl));have hzf:=blk_frozen HF.out 0;have hco:w5.cell? ⟨go,0,none⟩=some v:=(blk_cell HO.out 0).trans rfl;have hzo:=blk_frozen HO.out 0))
  (try simp only [Act.put,List.setIfInBounds_toArray,List.set_cons_zero,List.set_cons_succ])
  refine impl_BallsOfLine.nm (B:=fun w'=>Code.wp _ _ _ _ w') (impl_BallsOfLine.st n0 n1 n2 _ H7 HF HO HR HB HX G7 GF h7f h7o hfo) ?_
  clear H7 HF HO HR HB HX HP hc7_0 hc7_1 hc7_2 hz7_0 hz7_1 hz7_2 hcf hzf hco hzo
  intro w6 hst
  obtain ⟨H7,HF,HO,HR,HB,HX⟩:=hst
  have hc7_0:w6.cell? ⟨g7,0,none⟩=some (.int .i64 n0):=(blk_cell H7.out 0).trans rfl
  have hc7_1:w6.cell? ⟨g7,1,none⟩=some (.int .i64 n1):=(blk_cell H7.out 1).trans rfl
  have hc7_2:w6.cell? ⟨g7,2,none⟩=some (.int .i64 n2):=(blk_cell H7.out 2).trans rfl
  have hco:w6.cell? ⟨go,0,none⟩=some v:=(blk_cell HO.out 0).trans rfl
  go_wp2_with ((with_reducible refine gate_builtin (b:=.append) (xs:=#[.tmp 23,.tmp 25]) rfl ?_);at_builtin;refine Kd.R_append k38 (w0:=w0) w0.heap.size rfl (.tmp 23) (.tmp 25) 24 38 (.agg #[(.int .i64 0),(.int .i64 0),(.int .i64 0)]) 24 rfl Try.underlying24 info38 rfl (by decide) (by omega) v l (⟨n0,n1,n2⟩:S38) [.int .i64 n0,.int .i64 n1,.int .i64 n2] (fun _=>True) (fun _=>False) rfl (by first|(go_simp;done)|(go_simp;rfl)) ?aP (fun _ hk=>hk.elim) (fun _ _=>trivial) ?aO ?aB ?aS ?aL ?_;(case aP=>exact k38_mkM _ _ _ (⟨n0,n1,n2⟩:S38));(case aB=>exact blA);(case aO=>exact (by (with_reducible repeat (first|apply Kd.R_alloc|apply Kd.R_drewN|apply Kd.R_drew));exact Kd.R_mono HR.out (fun _ _=>trivial)));(case aS=>exact (below_size blA));(case aL=>have:=HL.out;omega);intro v7 w7 ho hb hg hat;obtain ⟨A7,c7,hv7⟩:=Kd.R_slice ho;rw [List.length_append,List.length_singleton] at hv7;subst hv7;have hHF:=blk_grown (w1:=w7) (by (with_reducible repeat (first|refine blk_drewN ?_ _|refine blk_drew ?_|refine blk_alloc ?_ _));exact HF.out) hg (Kd.R_ne HR.out HF.out (by decide));have hHO:=blk_grown (w1:=w7) (by (with_reducible repeat (first|refine blk_drewN ?_ _|refine blk_drew ?_|refine blk_alloc ?_ _));exact HO.out) hg (Kd.R_ne HR.out HO.out (by decide));have m2:=Aside0.mk hHF;have m3:=Aside0.mk hHO;have m4:=Aside0.mk ho;have m5:=Aside0.mk hb;have m6:Aside0 (impl_BallsOfLine.Keep w w7):=⟨fun g t cs h1 h2 h3 h=>blk_grown (by (with_reducible repeat (first|refine blk_drewN ?_ _|refine blk_drew ?_|refine blk_alloc ?_ _));exact HX.out g t cs h1 h2 h3 h) hg (Kd.R_ne HR.out (HX.out g t cs h1 h2 h3 h) (fun e=>h3 e.symm))⟩;clear hc7_0 hc7_1 hc7_2 hco hHF hHO ho hb hg hat;have hco:w7.cell? ⟨go,0,none⟩=some v:=(blk_cell m3.out 0).trans rfl;have hzo:=blk_frozen m3.out 0)
  go_end0
  exact ⟨_,rfl,blk_far m2.out hfo _,blk_put m3.out 0 _ rfl,Kd.R_mono (Kd.R_far (p:=⟨go,0,none⟩) (Kd.R_types m4.out m3.out (impl_BallsOfLine.hE _ (by decide))) (fun _ hk=>hk.2) _) (fun _ _=>trivial),below_set m5.out GO.out,fun g t cs h1 h2 h3 h=>blk_far (m6.out g t cs h1 h2 h3 h) (fun e=>impl_BallsOfLine.ne (m6.out g t cs h1 h2 h3 h) m3.out h2 e) _⟩
structure impl_BallsOfLine.Pm (w0 w:World) (p e0 e1 f0 f1:Int) (gp ge gf:Nat):Prop where
 p:w.heap[gp]?=some (.cells #[.int .i64 p] 2 (0,0))
 e:w.heap[ge]?=some (.cells #[.int .i64 e0,.int .i64 e1] 27 (0,0))
 f:w.heap[gf]?=some (.cells #[.int .i64 f0,.int .i64 f1] 27 (0,0))
 b:Below w0.heap.size w0 w
theorem impl_BallsOfLine.Pm.step {w0 w w1:World} {p e0 e1 f0 f1:Int} {gp ge gf:Nat} (h:Aside0 (impl_BallsOfLine.Pm w0 w p e0 e1 f0 f1 gp ge gf)) (hb:Below w.heap.size w w1):Aside0 (impl_BallsOfLine.Pm w0 w1 p e0 e1 f0 f1 gp ge gf):=⟨⟨blk_below h.out.p hb,blk_below h.out.e hb,blk_below h.out.f hb,below_step h.out.b hb⟩⟩
theorem impl_BallsOfLine.Pm.keep {w0 w w1:World} {p e0 e1 f0 f1:Int} {gp ge gf:Nat} (h:Aside0 (impl_BallsOfLine.Pm w0 w p e0 e1 f0 f1 gp ge gf)) (hx:impl_BallsOfLine.Keep w w1) (hb:Below w0.heap.size w0 w1):Aside0 (impl_BallsOfLine.Pm w0 w1 p e0 e1 f0 f1 gp ge gf):=⟨⟨hx _ _ _ (by decide) (by decide) (by decide) h.out.p,hx _ _ _ (by decide) (by decide) (by decide) h.out.e,hx _ _ _ (by decide) (by decide) (by decide) h.out.f,hb⟩⟩
theorem impl_BallsOfLine.Pm.cells {w0 w:World} {p e0 e1 f0 f1:Int} {gp ge gf:Nat} (h:Aside0 (impl_BallsOfLine.Pm w0 w p e0 e1 f0 f1 gp ge gf)):w.cell? ⟨gp,0,none⟩=some (.int .i64 p)∧w.cell? ⟨ge,0,none⟩=some (.int .i64 e0)∧w.cell? ⟨ge,1,none⟩=some (.int .i64 e1)∧w.cell? ⟨gf,0,none⟩=some (.int .i64 f0)∧w.cell? ⟨gf,1,none⟩=some (.int .i64 f1):=⟨blk_cell h.out.p 0,blk_cell h.out.e 0,blk_cell h.out.e 1,blk_cell h.out.f 0,blk_cell h.out.f 1⟩
def impl_BallsOfLine.S8 (w0:World) (p e0 e1 f0 f1:Int) (gp ge gf go:Nat) (v:Value) (W:World):Prop:=Aside0 (impl_BallsOfLine.Pm w0 W p e0 e1 f0 f1 gp ge gf)∧Aside0 (W.heap[go]?=some (.cells #[v] 24 (0,0)))∧Aside0 (Kd.R k38 38 W w0.heap.size (fun _=>True) v [])
theorem impl_BallsOfLine.s8 {w0 w5:World} {p e0 e1 f0 f1:Int} {gp ge gf go:Nat} {u v:Value} (PM:Aside0 (impl_BallsOfLine.Pm w0 w5 p e0 e1 f0 f1 gp ge gf)) (HO:Aside0 (w5.heap[go]?=some (.cells #[u] 24 (0,0)))) (HR:Aside0 (Kd.R k38 38 w5 w0.heap.size (fun _=>True) v [])) (GO:Aside0 (w0.heap.size≤go)):impl_BallsOfLine.S8 w0 p e0 e1 f0 f1 gp ge gf go v (w5.setCell ⟨go,0,none⟩ v):=
 ⟨impl_BallsOfLine.Pm.keep PM (fun g t cs h1 h2 h3 h=>blk_far h (impl_BallsOfLine.ne h HO.out h2) _) (below_set PM.out.b GO.out),⟨blk_put HO.out 0 _ rfl⟩,⟨Kd.R_mono (Kd.R_far (p:=⟨go,0,none⟩) (Kd.R_types HR.out HO.out (impl_BallsOfLine.hE _ (by decide))) (fun _ hk=>hk.2) _) (fun _ _=>trivial)⟩⟩
def impl_BallsOfLine.Ls (w0:World) (p e0 e1 f0 f1:Int) (gp ge gf gn go:Nat) (fine:Bool) (v:Value) (l:List S38) (W:World):Prop:=Aside0 (impl_BallsOfLine.Pm w0 W p e0 e1 f0 f1 gp ge gf)∧Aside0 (W.heap[gn]?=some (.cells #[.bool fine] 4 (0,0)))∧Aside0 (W.heap[go]?=some (.cells #[v] 24 (0,0)))∧Aside0 (Kd.R k38 38 W w0.heap.size (fun _=>True) v l)
theorem impl_BallsOfLine.ls {w0 w5:World} {p e0 e1 f0 f1:Int} {gp ge gf gn go:Nat} {b0 b:Bool} {v:Value} {l:List S38} (PM:Aside0 (impl_BallsOfLine.Pm w0 w5 p e0 e1 f0 f1 gp ge gf)) (HF:Aside0 (w5.heap[gn]?=some (.cells #[.bool b0] 4 (0,0)))) (HO:Aside0 (w5.heap[go]?=some (.cells #[v] 24 (0,0)))) (HR:Aside0 (Kd.R k38 38 w5 w0.heap.size (fun _=>True) v l)) (GN:Aside0 (w0.heap.size≤gn)):impl_BallsOfLine.Ls w0 p e0 e1 f0 f1 gp ge gf gn go b v l (w5.setCell ⟨gn,0,none⟩ (.bool b)):=
 ⟨impl_BallsOfLine.Pm.keep PM (fun g t cs h1 h2 h3 h=>blk_far h (impl_BallsOfLine.ne h HF.out h1) _) (below_set PM.out.b GN.out),⟨blk_put HF.out 0 _ rfl⟩,⟨blk_far HO.out (impl_BallsOfLine.ne HO.out HF.out (by decide)) _⟩,⟨Kd.R_mono (Kd.R_far (p:=⟨gn,0,none⟩) (Kd.R_types HR.out HF.out (impl_BallsOfLine.hE _ (by decide))) (fun _ hk=>hk.2) _) (fun _ _=>trivial)⟩⟩
theorem impl_BallsOfLine.turn {w0 W:World} {p e0 e1 f0 f1:Int} {gp ge gf gn go:Nat} {fine:Bool} {v:Value} {l:List S38} {s1:Bool × List S38} (k:Nat) (x0 x1 lv:Int) (HS:Aside0 (impl_BallsOfLine.Ls w0 p e0 e1 f0 f1 gp ge gf gn go fine v l W)) (GN:Aside0 (w0.heap.size≤gn)) (GO:Aside0 (w0.heap.size≤go)) (h:Aside0 (impl_BallsOfLine.take k p x0 x1 lv (fine,l)=some s1)) :
  Calls Try.prog 16 #[.agg #[.int .i64 x0,.int .i64 x1],.int .i64 lv,.pointer (some ⟨gp,0,none⟩),.pointer (some ⟨gn,0,none⟩),.pointer (some ⟨go,0,none⟩)] W fun e w'=>∃ v':Value,e=.returned (.tuple #[])∧impl_BallsOfLine.Ls w0 p e0 e1 f0 f1 gp ge gf gn go s1.1 v' s1.2 w':=by
 have h:=h.out
 unfold impl_BallsOfLine.take at h
 obtain ⟨⟨n0,n1,n2,ok⟩,hb,h⟩:=Option.bind_eq_some_iff.mp h
 by_cases hl:l.length<1000
 case neg=>rw [if_neg hl] at h;cases h
 rw [if_pos hl] at h
 obtain rfl:=Option.some.inj h
 obtain ⟨PM,HF,HO,HR⟩:=HS.out
 refine (impl_BallsOfLine.clo k p x0 x1 lv n0 n1 n2 ok fine gp gn go v l w0 W ⟨PM.out.p⟩ HF HO HR GN GO ⟨PM.out.b⟩ hl hb).mono ?_
 rintro e w' ⟨v',he,h1,h2,h3,h4,h5⟩
 exact ⟨v',he,impl_BallsOfLine.Pm.keep PM h5 h4,⟨h1⟩,⟨h2⟩,⟨h3⟩⟩
theorem impl_BallsOfLine.Ls.step {w0 w w1:World} {p e0 e1 f0 f1:Int} {gp ge gf gn go:Nat} {fine:Bool} {v:Value} {l:List S38} (h:Aside0 (impl_BallsOfLine.Ls w0 p e0 e1 f0 f1 gp ge gf gn go fine v l w)) (hb:Below w.heap.size w w1):Aside0 (impl_BallsOfLine.Ls w0 p e0 e1 f0 f1 gp ge gf gn go fine v l w1):=⟨impl_BallsOfLine.Pm.step h.out.1 hb,⟨blk_below h.out.2.1.out hb⟩,⟨blk_below h.out.2.2.1.out hb⟩,⟨Kd.R_below h.out.2.2.2.out hb⟩⟩
set_option maxHeartbeats 8000000 in
set_option maxRecDepth 100000 in
noncomputable def impl_BallsOfLine.cut0:PSigma fun P:Prop=>Aside0 P→(∀ (k:Nat) (a0:Int) (a1_0:Int) (a1_1:Int) (a2_0:Int) (a2_1:Int) (a3:Int) (r1:List (S38)) (r2:Int) (w:World) (h:impl_BallsOfLine.f k a0 a1_0 a1_1 a2_0 a2_1 a3=some (r1,r2)),Calls Try.prog 6 #[.int .i64 a0,.agg #[.int .i64 a1_0,.int .i64 a1_1],.agg #[.int .i64 a2_0,.int .i64 a2_1],.int .i64 a3] w fun e w'=>∃ v0_:Value,e=.returned (.tuple #[v0_,.int .i64 r2])∧Kd.R k38 38 w' w.heap.size (fun _=>True) v0_ r1∧Below w.heap.size w w'):=by
 apply PSigma.mk
 ·
  intro hcutP
  intro k a0 a1_0 a1_1 a2_0 a2_1 a3 r1 r2 w h
  have HH:=Aside0.mk h
  clear h
  have HB:=Aside0.mk (Below.refl w.heap.size w)
  go_enter Try.func6,Try.ntmps6
  go_upto_region 1 with (first|((with_reducible refine gate_dst (N:=4) rfl ?_);refine bxE (cs:=#[.int .i64 a0]) (t:=2) ?_;intro g4 hg w4 hbox hb;have m1:=Aside0.mk hbox;have m2:=Aside0.mk (below_step HB.out hb);clear HB hg hbox hb;have P4:=m1;have HB:=m2;clear m1 m2)|((with_reducible refine gate_dst (N:=5) rfl ?_);refine bxE (cs:=#[.int .i64 a1_0,.int .i64 a1_1]) (t:=27) ?_;intro g5 hg w5 hbox hb;have m0:=Aside0.mk (blk_below P4.out hb);have m1:=Aside0.mk hbox;have m2:=Aside0.mk (below_step HB.out hb);clear HB P4 hg hbox hb;have P4:=m0;have P5:=m1;have HB:=m2;clear m0 m1 m2)|((with_reducible refine gate_dst (N:=6) rfl ?_);refine bxE (cs:=#[.int .i64 a2_0,.int .i64 a2_1]) (t:=27) ?_;intro g6 hg w6 hbox hb;have PM:Aside0 (impl_BallsOfLine.Pm w w6 a0 a1_0 a1_1 a2_0 a2_1 g4 g5 g6):=⟨⟨blk_below P4.out hb,blk_below P5.out hb,hbox,below_step HB.out hb⟩⟩;clear HB P4 P5 hg hbox hb))
  (try simp only [Act.put,List.setIfInBounds_toArray,List.set_cons_zero,List.set_cons_succ])
  have h:=HH.out
  clear HH
  unfold impl_BallsOfLine.f at h
  replace h:=Option.bind_eq_some_iff.mp h
  obtain ⟨t,A1,h⟩:=h
  replace A1:=Aside0.mk A1
  obtain ⟨c1,c2,c3,c4,c5⟩:=impl_BallsOfLine.Pm.cells PM
  cases t
  case false=>
   simp only [Bool.false_eq_true,if_false,Option.some.injEq,Prod.mk.injEq] at h
   obtain ⟨rfl,rfl⟩:=h
   go_wp2_with (go_at_call 14;(with_reducible refine (impl_isPrime.calls a0 false _ A1.out).mono ?_);rintro e w7 ⟨rfl,hb⟩;have m1:=impl_BallsOfLine.Pm.step PM hb.below;clear PM c1 c2 c3 c4 c5 hb;have PM:=m1;clear m1;obtain ⟨c1,c2,c3,c4,c5⟩:=impl_BallsOfLine.Pm.cells PM)
   go_ret2
   exact ⟨_,by first|rfl|(simp [errW_none,errW_some] <;> rfl),Kd.R_nil _ _ _ _ _,by repeat (first|(with_reducible first|exact PM.out.b|apply below_alloc|apply pw_below_drewN|apply below_drew1)|exact PM.out.b)⟩
  case true=>
  simp only [if_true] at h
  replace h:=Option.bind_eq_some_iff.mp h
  obtain ⟨u,A2,h⟩:=h
  obtain ⟨y,hy⟩:∃ y_:List S27,y_=[(⟨a1_0,a1_1⟩:S27),(⟨a2_0,a2_1⟩:S27)]:=⟨_,rfl⟩
  rw [← hy] at A2
  replace A2:=Aside0.mk A2
  replace hy:=Aside0.mk hy
  cases u
  case false=>
   simp only [Bool.false_eq_true,if_false,Option.some.injEq,Prod.mk.injEq] at h
   obtain ⟨rfl,rfl⟩:=h
   go_wp2_with (first|(go_at_call 14;(with_reducible refine (impl_isPrime.calls a0 true _ A1.out).mono ?_);rintro e w7 ⟨rfl,hb⟩;have m1:=impl_BallsOfLine.Pm.step PM hb.below;clear PM c1 c2 c3 c4 c5 hb;have PM:=m1;clear m1;obtain ⟨c1,c2,c3,c4,c5⟩:=impl_BallsOfLine.Pm.cells PM)|((with_reducible refine gate_dst (N:=25) rfl ?_);(try (refine gate_guard (by rfl) ?_;dsimp only));refine Kd.R_lit k27 _ 27 ?hg (N:=25) ?hd (xs:=([(⟨a1_0,a1_1⟩:S27),(⟨a2_0,a2_1⟩:S27)]:List (S27))) (inner:=[.int .i64 a1_0,.int .i64 a1_1,.int .i64 a2_0,.int .i64 a2_1]) (ok:=fun _=>True) (okp:=fun _=>True) ?hr ?hp (fun _ hk=>hk) trivial (Below.refl _ _) (Nat.le_refl _) (by simp) ?_;(case hd=>rfl);(case hg=>rfl);(case hr=>first|(go_simp;done)|(go_simp;rfl));(case hp=>exact (Reps.c2 (show Kd.M k27 _ _ _ (⟨a1_0,a1_1⟩:S27) [.int .i64 a1_0,.int .i64 a1_1] from (k27_mkM _ _ _ (⟨a1_0,a1_1⟩:S27) )) (Reps.c2 (show Kd.M k27 _ _ _ (⟨a2_0,a2_1⟩:S27) [.int .i64 a2_0,.int .i64 a2_1] from (k27_mkM _ _ _ (⟨a2_0,a2_1⟩:S27) )) (Reps.none _ _))));intro v8 w8 ho8 hb hg_ hnew_;clear hg_ hnew_;rw [← hy.out] at ho8;have m1:=impl_BallsOfLine.Pm.step PM hb;have HL8:=Aside0.mk ho8;clear PM c1 c2 c3 c4 c5 hb ho8;have PM:=m1;clear m1;obtain ⟨c1,c2,c3,c4,c5⟩:=impl_BallsOfLine.Pm.cells PM;obtain ⟨A8,k8,e8⟩:=Kd.R_slice HL8.out;subst e8)|(go_at_call 15;(with_reducible refine (impl_areEnds.calls k _ _ y false _ ?side1 ?side2 A2.out).mono ?_);(case side1=>exact cR (Kd.R_reads' HL8.out).2.2);(case side2=>exact (Kd.R_reads' HL8.out).2.1);rintro e w9 ⟨rfl,hb⟩;have m1:=impl_BallsOfLine.Pm.step PM hb;clear PM c1 c2 c3 c4 c5 hb HL8;have PM:=m1;clear m1;obtain ⟨c1,c2,c3,c4,c5⟩:=impl_BallsOfLine.Pm.cells PM))
   go_ret2
   exact ⟨_,by first|rfl|(simp [errW_none,errW_some] <;> rfl),Kd.R_nil _ _ _ _ _,by repeat (first|(with_reducible first|exact PM.out.b|apply below_alloc|apply pw_below_drewN|apply below_drew1)|exact PM.out.b)⟩
  case true=>
  simp only [if_true] at h
  go_upto_region 3 with (first|(go_at_call 14;(with_reducible refine (impl_isPrime.calls a0 true _ A1.out).mono ?_);rintro e w7 ⟨rfl,hb⟩;have m1:=impl_BallsOfLine.Pm.step PM hb.below;clear PM c1 c2 c3 c4 c5 hb;have PM:=m1;clear m1;obtain ⟨c1,c2,c3,c4,c5⟩:=impl_BallsOfLine.Pm.cells PM)|((with_reducible refine gate_dst (N:=25) rfl ?_);(try (refine gate_guard (by rfl) ?_;dsimp only));refine Kd.R_lit k27 _ 27 ?hg (N:=25) ?hd (xs:=([(⟨a1_0,a1_1⟩:S27),(⟨a2_0,a2_1⟩:S27)]:List (S27))) (inner:=[.int .i64 a1_0,.int .i64 a1_1,.int .i64 a2_0,.int .i64 a2_1]) (ok:=fun _=>True) (okp:=fun _=>True) ?hr ?hp (fun _ hk=>hk) trivial (Below.refl _ _) (Nat.le_refl _) (by simp) ?_;(case hd=>rfl);(case hg=>rfl);(case hr=>first|(go_simp;done)|(go_simp;rfl));(case hp=>exact (Reps.c2 (show Kd.M k27 _ _ _ (⟨a1_0,a1_1⟩:S27) [.int .i64 a1_0,.int .i64 a1_1] from (k27_mkM _ _ _ (⟨a1_0,a1_1⟩:S27) )) (Reps.c2 (show Kd.M k27 _ _ _ (⟨a2_0,a2_1⟩:S27) [.int .i64 a2_0,.int .i64 a2_1] from (k27_mkM _ _ _ (⟨a2_0,a2_1⟩:S27) )) (Reps.none _ _))));intro v8 w8 ho8 hb hg_ hnew_;clear hg_ hnew_;rw [← hy.out] at ho8;have m1:=impl_BallsOfLine.Pm.step PM hb;have HL8:=Aside0.mk ho8;clear PM c1 c2 c3 c4 c5 hb ho8;have PM:=m1;clear m1;obtain ⟨c1,c2,c3,c4,c5⟩:=impl_BallsOfLine.Pm.cells PM;obtain ⟨A8,k8,e8⟩:=Kd.R_slice HL8.out;subst e8)|(go_at_call 15;(with_reducible refine (impl_areEnds.calls k _ _ y true _ ?side1 ?side2 A2.out).mono ?_);(case side1=>exact cR (Kd.R_reads' HL8.out).2.2);(case side2=>exact (Kd.R_reads' HL8.out).2.1);rintro e w9 ⟨rfl,hb⟩;have m1:=impl_BallsOfLine.Pm.step PM hb;clear PM c1 c2 c3 c4 c5 hb HL8;have PM:=m1;clear m1;obtain ⟨c1,c2,c3,c4,c5⟩:=impl_BallsOfLine.Pm.cells PM))
  (try simp only [Act.put,List.setIfInBounds_toArray,List.set_cons_zero,List.set_cons_succ])
  clear A1 A2 hy
  by_cases q1:a3<0∨6<a3
  ·
   rw [if_pos q1] at h
   simp only [Option.some.injEq,Prod.mk.injEq] at h
   obtain ⟨rfl,rfl⟩:=h
   by_cases q2:a3<0
   all_goals
    first|have d1:decide (a3<0)=true:=decide_eq_true q2|have d1:decide (a3<0)=false:=decide_eq_false q2
    first|have d3:decide (a3>6)=true:=decide_eq_true (by omega)|have d3:decide (a3>6)=false:=decide_eq_false (by omega)
    go_wp2
    go_ret2
    exact ⟨_,by first|rfl|(simp [errW_none,errW_some] <;> rfl),Kd.R_nil _ _ _ _ _,by repeat (first|(with_reducible first|exact PM.out.b|apply below_alloc|apply pw_below_drewN|apply below_drew1)|exact PM.out.b)⟩
  rw [if_neg q1] at h
  have QA:Aside0 (0≤a3∧a3≤6):=⟨by omega⟩
  have d1:decide (a3<0)=false:=decide_eq_false (by omega)
  have d3:decide (a3>6)=false:=decide_eq_false (by omega)
  by_cases q2:a1_0=a2_0∧a1_1=a2_1
  ·
   rw [if_pos q2] at h
   simp only [Option.some.injEq,Prod.mk.injEq] at h
   obtain ⟨rfl,rfl⟩:=h
   obtain ⟨rfl,rfl⟩:=q2
   go_wp2
   go_ret2
   exact ⟨_,by first|rfl|(simp [errW_none,errW_some] <;> rfl),Kd.R_nil _ _ _ _ _,by repeat (first|(with_reducible first|exact PM.out.b|apply below_alloc|apply pw_below_drewN|apply below_drew1)|exact PM.out.b)⟩
  rw [if_neg q2] at h
  have he:∀ W:World,(binOp .eql 27 (.agg #[.int .i64 a1_0,.int .i64 a1_1]) (.agg #[.int .i64 a2_0,.int .i64 a2_1])).run Try.prog W=.ok (.bool false) W:=by
   intro W
   by_cases x:a1_0=a2_0
   ·
    have y:a1_1≠a2_1:=fun y=>q2 ⟨x,y⟩
    subst x
    go_simp
   ·
    go_simp
  clear q2
  go_upto_region 8 with (first|((with_reducible refine gate_dst (N:=40) rfl ?_);refine Kd.R_lit k38 _ 38 ?hg (N:=40) ?hd (xs:=([]:List (S38))) (inner:=[]) (ok:=fun _=>True) (okp:=fun _=>True) ?hr ?hp (fun _ hk=>hk) trivial (Below.refl _ _) (Nat.le_refl _) (by simp) ?_;(case hd=>rfl);(case hg=>rfl);(case hr=>first|(go_simp;done)|(go_simp;rfl));(case hp=>exact (Reps.none _ _));intro v10 w10 ho8 hb hg_ hnew_;clear hg_ hnew_;have m1:=impl_BallsOfLine.Pm.step PM hb;have HR:=Aside0.mk (Kd.R_lower ho8 (below_size PM.out.b));clear PM c1 c2 c3 c4 c5 hb ho8;have PM:=m1;clear m1;obtain ⟨A10,k10,e10⟩:=Kd.R_slice HR.out;subst e10)|((with_reducible refine gate_dst (N:=10) rfl ?_);refine bxE (cs:=#[.slice none 0 0]) (t:=24) ?_;intro g10 hg w11 hbox hb;have m1:=impl_BallsOfLine.Pm.step PM hb;have m2:=Aside0.mk (Kd.R_below HR.out hb);have G10:Aside0 (w.heap.size≤g10):=⟨by rw [hg];exact below_size PM.out.b⟩;clear PM HR hb hg;have PM:=m1;have HR:=m2;have HO:=Aside0.mk hbox;clear m1 m2 hbox;have hco:w11.cell? ⟨g10,0,none⟩=some (.slice none 0 0):=(blk_cell HO.out 0).trans rfl;have hzo:=blk_frozen HO.out 0))
  (try simp only [Act.put,List.setIfInBounds_toArray,List.set_cons_zero,List.set_cons_succ])
  refine impl_BallsOfLine.nm (B:=fun w'=>Code.wp _ _ _ _ w') (impl_BallsOfLine.s8 PM HO HR G10) ?_
  clear PM HO HR hco hzo
  intro w12 hst
  obtain ⟨PM,HO,HR⟩:=hst
  have hmf:∀ (fn:Fn) (first cap:Array Value) (w:World),(Instr.makeFunc fn first cap).run Try.prog w=.ok (.func fn first cap) w:=fun _ _ _ _=>rfl
  go_upto_region 9 with ((with_reducible refine gate_dst (N:=11) rfl ?_);refine bxE (cs:=#[.bool false]) (t:=4) ?_;intro g11 hg w13 hbox hb;have m1:=impl_BallsOfLine.Pm.step PM hb;have m2:=Aside0.mk (Kd.R_below HR.out hb);have m3:=Aside0.mk (blk_below HO.out hb);have G11:Aside0 (w.heap.size≤g11):=⟨by rw [hg];exact below_size PM.out.b⟩;clear PM HR HO hb hg;have PM:=m1;have HR:=m2;have HO:=m3;have HF:=Aside0.mk hbox;clear m1 m2 m3 hbox;have hcf:w13.cell? ⟨g11,0,none⟩=some (.bool false):=(blk_cell HF.out 0).trans rfl;have hzf:=blk_frozen HF.out 0)
  (try simp only [Act.put,List.setIfInBounds_toArray,List.set_cons_zero,List.set_cons_succ])
  refine impl_BallsOfLine.nm (B:=fun w'=>Code.wp _ _ _ _ w') (impl_BallsOfLine.ls (b:=true) PM HF HO HR G11) ?_
  clear PM HF HO HR hcf hzf
  intro w14 hst
  have HS:=Aside0.mk hst
  clear hst
  replace h:=Aside0.mk h
  clear he
  obtain ⟨c1,c2,c3,c4,c5⟩:=impl_BallsOfLine.Pm.cells HS.out.1
  go_upto_region 19 with fail
  expose_names
  clear q1 d1 d3
  revert k a0 a1_0 a1_1 a2_0 a2_1 a3 r1 r2 w g4 g5 g6 y A8 k8 A10 k10 g10 hmf g11 w14 K K_1
  exact hcutP.out
set_option maxHeartbeats 8000000 in
set_option maxRecDepth 100000 in
theorem impl_BallsOfLine.cut1:impl_BallsOfLine.cut0.1:=by
 conv=>whnf
 intro k a0 a1_0 a1_1 a2_0 a2_1 a3 r1 r2 w _ g4 g5 g6 y A8 k8 QA A10 k10 g10 G10 hmf g11 G11 w14 HS h c1 c2 c3 c4 c5 _ _ _ _
 obtain ⟨q1,q1'⟩:=QA.out
 have wn:wrap64 (-a3) = -a3:=by unfold wrap64;omega
 by_cases z1:a2_1=0
 ·
  have z1b:(a2_1 == 0)=true:=beq_iff_eq.mpr z1
  have h:=h.out
  rw [if_pos z1] at h
  replace h:=Option.bind_eq_some_iff.mp h
  obtain ⟨sf,hrow,h⟩:=h
  replace hrow:=Aside0.mk hrow
  replace h:=Aside0.mk h
  go_wp2
  go_loopg [13] (2*a3+1).toNat (fun kq vL w'=>∃ (lv:Int) (fine:Bool) (v:Value) (l:List S38),vL=.int .i64 lv∧Aside0 (impl_BallsOfLine.row k a0 a1_0 a1_1 (-1) kq lv (fine,l)=some sf)∧Aside0 (lv=(kq:Int) - 1 - a3)∧Aside0 (kq≤13)∧Aside0 (impl_BallsOfLine.Ls w a0 a1_0 a1_1 a2_0 a2_1 g4 g5 g6 g11 g10 fine v l w'))
  case atStart=>exact ⟨a3,true,_,[],rfl,hrow,⟨by omega⟩,⟨by omega⟩,HS⟩
  case round=>
   clear c1 c2 c3 c4 c5 HS hrow z1 z1b
   obtain ⟨lv,fine,v,l,rfl,HA,HV,HK,HS⟩:=hrel
   obtain ⟨c1,c2,c3,c4,c5⟩:=impl_BallsOfLine.Pm.cells HS.out.1
   cases gk with
   | zero=>
    have hge:decide (lv≥-a3)=false:=decide_eq_false (by have:=HV.out;omega)
    obtain rfl:=Option.some.inj HA.out
    have HR:=HS.out.2.2.2
    have c6:=(blk_cell HS.out.2.1.out 0).trans rfl
    have c7:=(blk_cell HS.out.2.2.1.out 0).trans rfl
    obtain ⟨A7,k7,e7⟩:=Kd.R_slice HR.out
    subst e7
    have h:=h.out
    unfold impl_BallsOfLine.fin at h
    cases fine
    case false=>
     simp only [Bool.false_eq_true,if_false,Option.some.injEq,Prod.mk.injEq] at h
     obtain ⟨rfl,rfl⟩:=h
     go_wp2
     go_ret2
     exact ⟨_,by first|rfl|(simp [errW_none,errW_some] <;> rfl),Kd.R_nil _ _ _ _ _,by repeat (first|(with_reducible first|exact HS.out.1.out.b|apply below_alloc|apply pw_below_drewN|apply below_drew1)|exact HS.out.1.out.b)⟩
    case true=>
     simp only [if_true,Option.some.injEq,Prod.mk.injEq] at h
     obtain ⟨rfl,rfl⟩:=h
     go_wp2
     go_ret2
     exact ⟨_,by first|rfl|(simp [errW_none,errW_some] <;> rfl),by (with_reducible repeat (first|apply Kd.R_alloc|apply Kd.R_drewN|apply Kd.R_drew));exact HR.out,by repeat (first|(with_reducible first|exact HS.out.1.out.b|apply below_alloc|apply pw_below_drewN|apply below_drew1)|exact HS.out.1.out.b)⟩
   | succ k2=>
    have hge:decide (lv≥-a3)=true:=decide_eq_true (by have:=HV.out;omega)
    have hw:wrap64 (lv - 1)=lv - 1:=by have:=HK.out;have:=HV.out;unfold wrap64;omega
    have hs:=Option.bind_eq_some_iff.mp HA.out
    obtain ⟨s1,hs1,hrest⟩:=hs
    replace hs1:=Aside0.mk hs1
    replace hrest:=Aside0.mk hrest
    clear HA
    go_wp2_with (go_at_call 16;refine (impl_BallsOfLine.turn k a1_0 a1_1 lv HS G11 G10 hs1).mono ?_;rintro e w2 ⟨v',rfl,hs2⟩;clear c1 c2 c3 c4 c5 HS)
    go_roundg k2
    case measure=>omega
    case rel=>exact ⟨lv - 1,s1.1,v',s1.2,by simp [hw],hrest,⟨by have:=HV.out;omega⟩,⟨by have:=HK.out;omega⟩,⟨hs2⟩⟩
 have z1b:(a2_1 == 0)=false:=beq_eq_false_iff_ne.mpr z1
 have h:=h.out
 rw [if_neg z1] at h
 by_cases z2:a1_1=0
 ·
  have z2b:(a1_1 == 0)=true:=beq_iff_eq.mpr z2
  rw [if_pos z2] at h
  replace h:=Option.bind_eq_some_iff.mp h
  obtain ⟨sf,hrow,h⟩:=h
  replace hrow:=Aside0.mk hrow
  replace h:=Aside0.mk h
  go_wp2
  go_loopg [14] (2*a3+1).toNat (fun kq vL w'=>∃ (lv:Int) (fine:Bool) (v:Value) (l:List S38),vL=.int .i64 lv∧Aside0 (impl_BallsOfLine.row k a0 a2_0 a2_1 1 kq lv (fine,l)=some sf)∧Aside0 (lv=a3+1 - (kq:Int))∧Aside0 (kq≤13)∧Aside0 (impl_BallsOfLine.Ls w a0 a1_0 a1_1 a2_0 a2_1 g4 g5 g6 g11 g10 fine v l w'))
  case atStart=>exact ⟨-a3,true,_,[],rfl,hrow,⟨by omega⟩,⟨by omega⟩,HS⟩
  case round=>
   clear c1 c2 c3 c4 c5 HS hrow z1 z1b z2 z2b
   obtain ⟨lv,fine,v,l,rfl,HA,HV,HK,HS⟩:=hrel
   obtain ⟨c1,c2,c3,c4,c5⟩:=impl_BallsOfLine.Pm.cells HS.out.1
   cases gk with
   | zero=>
    have hge:decide (lv≤a3)=false:=decide_eq_false (by have:=HV.out;omega)
    obtain rfl:=Option.some.inj HA.out
    have HR:=HS.out.2.2.2
    have c6:=(blk_cell HS.out.2.1.out 0).trans rfl
    have c7:=(blk_cell HS.out.2.2.1.out 0).trans rfl
    obtain ⟨A7,k7,e7⟩:=Kd.R_slice HR.out
    subst e7
    have h:=h.out
    unfold impl_BallsOfLine.fin at h
    cases fine
    case false=>
     simp only [Bool.false_eq_true,if_false,Option.some.injEq,Prod.mk.injEq] at h
     obtain ⟨rfl,rfl⟩:=h
     go_wp2
     go_ret2
     exact ⟨_,by first|rfl|(simp [errW_none,errW_some] <;> rfl),Kd.R_nil _ _ _ _ _,by repeat (first|(with_reducible first|exact HS.out.1.out.b|apply below_alloc|apply pw_below_drewN|apply below_drew1)|exact HS.out.1.out.b)⟩
    case true=>
     simp only [if_true,Option.some.injEq,Prod.mk.injEq] at h
     obtain ⟨rfl,rfl⟩:=h
     go_wp2
     go_ret2
     exact ⟨_,by first|rfl|(simp [errW_none,errW_some] <;> rfl),by (with_reducible repeat (first|apply Kd.R_alloc|apply Kd.R_drewN|apply Kd.R_drew));exact HR.out,by repeat (first|(with_reducible first|exact HS.out.1.out.b|apply below_alloc|apply pw_below_drewN|apply below_drew1)|exact HS.out.1.out.b)⟩
   | succ k2=>
    have hge:decide (lv≤a3)=true:=decide_eq_true (by have:=HV.out;omega)
    have hw:wrap64 (lv+1)=lv+1:=by have:=HK.out;have:=HV.out;unfold wrap64;omega
    have hs:=Option.bind_eq_some_iff.mp HA.out
    obtain ⟨s1,hs1,hrest⟩:=hs
    replace hs1:=Aside0.mk hs1
    replace hrest:=Aside0.mk hrest
    clear HA
    go_wp2_with (go_at_call 16;refine (impl_BallsOfLine.turn k a2_0 a2_1 lv HS G11 G10 hs1).mono ?_;rintro e w2 ⟨v',rfl,hs2⟩;clear c1 c2 c3 c4 c5 HS)
    go_roundg k2
    case measure=>omega
    case rel=>exact ⟨lv+1,s1.1,v',s1.2,by simp [hw],hrest,⟨by have:=HV.out;omega⟩,⟨by have:=HK.out;omega⟩,⟨hs2⟩⟩
 have z2b:(a1_1 == 0)=false:=beq_eq_false_iff_ne.mpr z2
 rw [if_neg z2] at h
 replace h:=Option.bind_eq_some_iff.mp h
 obtain ⟨g,hg,h⟩:=h
 by_cases z3 : -1000≤g∧g≤1000
 ·
  obtain ⟨z3,z3'⟩:=z3
  rw [if_pos ⟨z3,z3'⟩] at h
  replace h:=Option.bind_eq_some_iff.mp h
  obtain ⟨sf,hrow,h⟩:=h
  replace hrow:=Aside0.mk hrow
  replace h:=Aside0.mk h
  have wa:wrap64 (g+a3)=g+a3:=by unfold wrap64;omega
  have wb:wrap64 (g+1)=g+1:=by unfold wrap64;omega
  go_wp2_with (go_at_call 18;refine (impl_gap.calls k a0 a1_0 a1_1 a2_0 a2_1 g _ hg).mono ?_;rintro e w2 ⟨rfl,hb⟩;replace HS:=impl_BallsOfLine.Ls.step HS hb;clear hb c1 c2 c3 c4 c5;obtain ⟨c1,c2,c3,c4,c5⟩:=impl_BallsOfLine.Pm.cells HS.out.1)
  go_loopg [16] (a3+1).toNat (fun kq vL w'=>∃ (lv:Int) (fine:Bool) (v:Value) (l:List S38),vL=.int .i64 lv∧Aside0 (impl_BallsOfLine.row k a0 a1_0 a1_1 (-1) kq lv (fine,l)=some sf)∧Aside0 (lv=g - 1+(kq:Int))∧Aside0 (kq≤7)∧Aside0 (impl_BallsOfLine.Ls w a0 a1_0 a1_1 a2_0 a2_1 g4 g5 g6 g11 g10 fine v l w'))
  case atStart=>exact ⟨g+a3,true,_,[],rfl,hrow,⟨by omega⟩,⟨by omega⟩,HS⟩
  case round=>
   clear c1 c2 c3 c4 c5 HS hrow z1 z1b z2 z2b hg
   obtain ⟨lv,fine,v,l,rfl,HA,HV,HK,HS⟩:=hrel
   obtain ⟨c1,c2,c3,c4,c5⟩:=impl_BallsOfLine.Pm.cells HS.out.1
   cases gk with
   | zero=>
    have hge:decide (lv≥g)=false:=decide_eq_false (by have:=HV.out;omega)
    obtain rfl:=Option.some.inj HA.out
    clear HA
    have h:=h.out
    replace h:=Option.bind_eq_some_iff.mp h
    obtain ⟨sg,hrow,h⟩:=h
    replace hrow:=Aside0.mk hrow
    replace h:=Aside0.mk h
    go_wp2
    go_loopg [17] a3.toNat (fun kq vL w'=>∃ (lv:Int) (fine:Bool) (v:Value) (l:List S38),vL=.int .i64 lv∧Aside0 (impl_BallsOfLine.row k a0 a2_0 a2_1 1 kq lv (fine,l)=some sg)∧Aside0 (lv=g+a3+1 - (kq:Int))∧Aside0 (kq≤6)∧Aside0 (impl_BallsOfLine.Ls w a0 a1_0 a1_1 a2_0 a2_1 g4 g5 g6 g11 g10 fine v l w'))
    case atStart=>exact ⟨g+1,fine,v,l,rfl,hrow,⟨by omega⟩,⟨by omega⟩,HS⟩
    case round=>
     clear c1 c2 c3 c4 c5 HS hrow hge
     obtain ⟨lv,fine,v,l,rfl,HA,HV,HK,HS⟩:=hrel
     obtain ⟨c1,c2,c3,c4,c5⟩:=impl_BallsOfLine.Pm.cells HS.out.1
     cases gk with
     | zero=>
      have hge:decide (lv≤g+a3)=false:=decide_eq_false (by have:=HV.out;omega)
      obtain rfl:=Option.some.inj HA.out
      have HR:=HS.out.2.2.2
      have c6:=(blk_cell HS.out.2.1.out 0).trans rfl
      have c7:=(blk_cell HS.out.2.2.1.out 0).trans rfl
      obtain ⟨A7,k7,e7⟩:=Kd.R_slice HR.out
      subst e7
      have h:=h.out
      unfold impl_BallsOfLine.fin at h
      cases fine
      case false=>
       simp only [Bool.false_eq_true,if_false,Option.some.injEq,Prod.mk.injEq] at h
       obtain ⟨rfl,rfl⟩:=h
       go_wp2
       go_ret2
       exact ⟨_,by first|rfl|(simp [errW_none,errW_some] <;> rfl),Kd.R_nil _ _ _ _ _,by repeat (first|(with_reducible first|exact HS.out.1.out.b|apply below_alloc|apply pw_below_drewN|apply below_drew1)|exact HS.out.1.out.b)⟩
      case true=>
       simp only [if_true,Option.some.injEq,Prod.mk.injEq] at h
       obtain ⟨rfl,rfl⟩:=h
       go_wp2
       go_ret2
       exact ⟨_,by first|rfl|(simp [errW_none,errW_some] <;> rfl),by (with_reducible repeat (first|apply Kd.R_alloc|apply Kd.R_drewN|apply Kd.R_drew));exact HR.out,by repeat (first|(with_reducible first|exact HS.out.1.out.b|apply below_alloc|apply pw_below_drewN|apply below_drew1)|exact HS.out.1.out.b)⟩
     | succ k2=>
      have hge:decide (lv≤g+a3)=true:=decide_eq_true (by have:=HV.out;omega)
      have hw:wrap64 (lv+1)=lv+1:=by have:=HK.out;have:=HV.out;unfold wrap64;omega
      have hs:=Option.bind_eq_some_iff.mp HA.out
      obtain ⟨s1,hs1,hrest⟩:=hs
      replace hs1:=Aside0.mk hs1
      replace hrest:=Aside0.mk hrest
      clear HA
      go_wp2_with (go_at_call 16;refine (impl_BallsOfLine.turn k a2_0 a2_1 lv HS G11 G10 hs1).mono ?_;rintro e w2 ⟨v',rfl,hs2⟩;clear c1 c2 c3 c4 c5 HS)
      go_roundg k2
      case measure=>omega
      case rel=>exact ⟨lv+1,s1.1,v',s1.2,by simp [hw],hrest,⟨by have:=HV.out;omega⟩,⟨by have:=HK.out;omega⟩,⟨hs2⟩⟩
   | succ k2=>
    have hge:decide (lv≥g)=true:=decide_eq_true (by have:=HV.out;omega)
    have hw:wrap64 (lv - 1)=lv - 1:=by have:=HK.out;have:=HV.out;unfold wrap64;omega
    have hs:=Option.bind_eq_some_iff.mp HA.out
    obtain ⟨s1,hs1,hrest⟩:=hs
    replace hs1:=Aside0.mk hs1
    replace hrest:=Aside0.mk hrest
    clear HA
    go_wp2_with (go_at_call 16;refine (impl_BallsOfLine.turn k a1_0 a1_1 lv HS G11 G10 hs1).mono ?_;rintro e w2 ⟨v',rfl,hs2⟩;clear c1 c2 c3 c4 c5 HS)
    go_roundg k2
    case measure=>omega
    case rel=>exact ⟨lv - 1,s1.1,v',s1.2,by simp [hw],hrest,⟨by have:=HV.out;omega⟩,⟨by have:=HK.out;omega⟩,⟨hs2⟩⟩
 ·
  rw [if_neg z3] at h;cases h
set_option maxHeartbeats 8000000 in
set_option maxRecDepth 100000 in
theorem impl_BallsOfLine.calls (k:Nat) (a0 a1_0 a1_1 a2_0 a2_1 a3:Int) (r1:List (S38)) (r2:Int) (w:World) (h:impl_BallsOfLine.f k a0 a1_0 a1_1 a2_0 a2_1 a3=some (r1,r2)) :
  Calls Try.prog 6 #[.int .i64 a0,.agg #[.int .i64 a1_0,.int .i64 a1_1],.agg #[.int .i64 a2_0,.int .i64 a2_1],.int .i64 a3] w fun e w'=>∃ v0_:Value,e=.returned (.tuple #[v0_,.int .i64 r2])∧Kd.R k38 38 w' w.heap.size (fun _=>True) v0_ r1∧Below w.heap.size w w':=impl_BallsOfLine.cut0.2 (Aside0.mk impl_BallsOfLine.cut1) k a0 a1_0 a1_1 a2_0 a2_1 a3 r1 r2 w h
-- words: gate_guard Kd.R_lit Kd.R_reads Reps.c2 Reps.none Kd.C_alloc Kd.C_drewN Kd.C_drew run_makeFunc Kd.R_append Kd.R_far Kd.R_types Kd.R_mono Kd.R_ne Kd.R_away Kd.R_alloc Kd.R_drew Kd.R_drewN Kd.R_elderB Kd.freshB blk_far blk_grown blk_put blk_alloc blk_drew blk_drewN below_set below_alloc below_drew1 pw_below_drewN below_step go_loopg box_event gate_dst gate_callee gate_builtin goesL_ errW_none errW_some Kd.R_nil Kd.R_slice
end Go.Proofs.Ytboneolhoajaoaa.PAll
