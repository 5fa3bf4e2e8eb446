import Derived.Test.YtpihnmmoahplgaaQx
import Derived.Test.YtpihnmmoahplgaaQimplgap
import Derived.Test.YtpihnmmoahplgaaQimpltimes
import Derived.Test.YtpihnmmoahplgaaQspecMeetingOf
import Derived.Test.YtpihnmmoahplgaaQspecl01End
namespace Go.Proofs.Ytpihnmmoahplgaa.PAll
open Go.RowKit Go.Proofs.YtpihnmmoahplgaaW.PrintWords Go.Proofs.YtpihnmmoahplgaaW.PrintLast Go.Proofs.YtpihnmmoahplgaaW.PrintMore
attribute [local go_sem] Go.Proofs.Ytpihnmmoahplgaa.Aux.setCell_drewN Go.Proofs.Ytpihnmmoahplgaa.Aux.isSome_setCell Go.Proofs.Ytpihnmmoahplgaa.Aux.max_eight bq bo cG cF ba bZ bp bm
set_option linter.unusedVariables false
set_option linter.unusedSimpArgs false
def aG.take (k:Nat) (p x0 x1 lv:Int) (s:Bool × List S25):Option (Bool × List S25):=(bz.f k p x0 x1 lv).bind fun b=>if s.2.length<1000 then some (s.1 && b.2.2.2,s.2 ++ [⟨b.1,b.2.1,b.2.2.1⟩]) else none
def aG.row (k:Nat) (p x0 x1 d:Int):Nat→Int→Bool × List S25→Option (Bool × List S25)
 | 0,_,s=>some s
 | m+1,lv,s=>(aG.take k p x0 x1 lv s).bind fun s1=>aG.row k p x0 x1 d m (lv+d) s1
def aG.fin (s:Bool × List S25):Option (List S25 × Int):=if s.1=true then some (s.2,0) else some ([],3)
def aG.f (k:Nat) (a0 a1_0 a1_1 a2_0 a2_1 a3:Int):Option (List S25 × Int):=(av.f a0).bind fun t=>if t=true then (bL.f k [⟨a1_0,a1_1⟩,⟨a2_0,a2_1⟩]).bind fun u=>(if u=true then (if a3<0∨6<a3 then some ([],2) else if a1_0=a2_0∧a1_1=a2_1 then some ([],5) else if a2_1=0 then (aG.row k a0 a1_0 a1_1 (-1) (2*a3+1).toNat a3 (true,[])).bind aG.fin else if a1_1=0 then (aG.row k a0 a2_0 a2_1 1 (2*a3+1).toNat (-a3) (true,[])).bind aG.fin else (bh.f k a0 a1_0 a1_1 a2_0 a2_1).bind fun g=>if -1000≤g∧g≤1000 then (aG.row k a0 a1_0 a1_1 (-1) (a3+1).toNat (g+a3) (true,[])).bind fun s=>(aG.row k a0 a2_0 a2_1 1 a3.toNat (g+1) s).bind aG.fin else none) else some ([],1)) else some ([],1)
theorem aG.ne {w:World} {g g' t t':Nat} {cs cs':Array Value} (h:w.heap[g]?=some (.cells cs t (0,0))) (h':w.heap[g']?=some (.cells cs' t' (0,0))) (ht:t≠t'):g≠g':=by
 rintro rfl
 rw [h] at h'
 injection h' with h'
 injection h' with _ h'
 exact ht h'
def aG.Keep (w w':World):Prop:=∀ (g t:Nat) (cs:Array Value),t≠4→t≠36→t≠25→w.heap[g]?=some (.cells cs t (0,0))→w'.heap[g]?=some (.cells cs t (0,0))
theorem aG.nm {A B:World→Prop} {W:World} (h:A W) (k:∀ w',A w'→B w'):B W:=k W h
theorem aG.hE:∀ t,t≠25→∀ q,q ∈ 25 :: k25.E→q≠t:=fun t ht q hq=>by
 cases hq with
 | head=>exact fun e=>ht e.symm
 | tail _ h=>cases h
def aG.St (w w0:World) (gf go g7:Nat) (b:Bool) (v:Value) (l:List S25) (n0 n1 n2:Int) (W:World):Prop:=aA (W.heap[g7]?=some (.cells #[.int .i64 n0,.int .i64 n1,.int .i64 n2] 25 (0,0)))∧aA (W.heap[gf]?=some (.cells #[.bool b] 4 (0,0)))∧aA (W.heap[go]?=some (.cells #[v] 36 (0,0)))∧aA (Kd.R k25 25 W w0.heap.size (fun k=>(True∧k≠g7)∧k≠gf) v l)∧aA (Below w0.heap.size w0 W)∧aA (aG.Keep w W)
theorem aG.st {w w0 w5:World} {gf go g7:Nat} {b0:Bool} {v:Value} {l:List S25} (n0 n1 n2:Int) (b:Bool) (H7:aA (w5.heap[g7]?=some (.cells #[.int .i64 0,.int .i64 0,.int .i64 0] 25 (0,0)))) (HF:aA (w5.heap[gf]?=some (.cells #[.bool b0] 4 (0,0)))) (HO:aA (w5.heap[go]?=some (.cells #[v] 36 (0,0)))) (HR:aA (Kd.R k25 25 w5 w0.heap.size (fun k=>True∧k≠g7) v l)) (HB:aA (Below w0.heap.size w0 w5)) (HX:aA (aG.Keep w w5)) (G7:aA (w0.heap.size≤g7)) (GF:aA (w0.heap.size≤gf)) (h7f:g7≠gf) (h7o:g7≠go) (hfo:gf≠go) :
  aG.St w w0 gf go g7 b v l n0 n1 n2 ((((w5.setCell ⟨g7,0,none⟩ (.int .i64 n0)).setCell ⟨g7,1,none⟩ (.int .i64 n1)).setCell ⟨g7,2,none⟩ (.int .i64 n2)).setCell ⟨gf,0,none⟩ (.bool b)):=
 ⟨⟨aq (bE (bE (bE H7.out 0 _ rfl) 1 _ rfl) 2 _ rfl) h7f _⟩,⟨bE (aq (aq (aq HF.out h7f.symm _) h7f.symm _) h7f.symm _) 0 _ rfl⟩,⟨aq (aq (aq (aq HO.out h7o.symm _) h7o.symm _) h7o.symm _) hfo.symm _⟩,
  ⟨Kd.R_far (p:=⟨gf,0,none⟩) (Kd.R_far (p:=⟨g7,2,none⟩) (Kd.R_far (p:=⟨g7,1,none⟩) (Kd.R_far (p:=⟨g7,0,none⟩) (Kd.R_types HR.out HF.out (aG.hE _ (by decide))) (fun _ hk=>hk.1.2) _) (fun _ hk=>hk.1.2) _) (fun _ hk=>hk.1.2) _) (fun _ hk=>hk.2) _⟩,
  ⟨al (al (al (al HB.out G7.out) G7.out) G7.out) GF.out⟩,
  ⟨fun g t cs h1 h2 h3 h=>by
   have h5:=HX.out g t cs h1 h2 h3 h
   have e7:g≠g7:=aG.ne h5 H7.out h3
   have ef:g≠gf:=aG.ne h5 HF.out h1
   exact aq (aq (aq (aq h5 e7 _) e7 _) e7 _) ef _⟩⟩
set_option maxHeartbeats 8000000 in
set_option maxRecDepth 100000 in
theorem aG.clo (k:Nat) (p x0 x1 lv n0 n1 n2:Int) (ok fine:Bool) (gp gf go:Nat) (v:Value) (l:List S25) (w0 w:World)
  (HP:aA (w.heap[gp]?=some (.cells #[.int .i64 p] 2 (0,0)))) (HF:aA (w.heap[gf]?=some (.cells #[.bool fine] 4 (0,0)))) (HO:aA (w.heap[go]?=some (.cells #[v] 36 (0,0)))) (HR:aA (Kd.R k25 25 w w0.heap.size (fun _=>True) v l))
  (GF:aA (w0.heap.size≤gf)) (GO:aA (w0.heap.size≤go)) (HB:aA (Below w0.heap.size w0 w)) (hl:l.length<1000) (h:bz.f k p x0 x1 lv=some (n0,n1,n2,ok)) :
  Calls Try.prog 43 #[.agg #[.int .i64 x0,.int .i64 x1],.int .i64 lv,.pointer (some ⟨gp,0,none⟩),.pointer (some ⟨gf,0,none⟩),.pointer (some ⟨go,0,none⟩)] w fun e w'=>∃ v':Value,e=.returned (.tuple #[])∧w'.heap[gf]?=some (.cells #[.bool (fine && ok)] 4 (0,0))∧w'.heap[go]?=some (.cells #[v'] 36 (0,0))∧Kd.R k25 25 w' w0.heap.size (fun _=>True) v' (l ++ [⟨n0,n1,n2⟩])∧Below w0.heap.size w0 w'∧aG.Keep w w':=by
 have HL:=aA.mk hl
 have A:=aA.mk h
 clear hl h
 have HX:aA (aG.Keep w w):=⟨fun _ _ _ _ _ _ h=>h⟩
 have hfo:gf≠go:=aG.ne HF.out HO.out (by decide)
 have hof:go≠gf:=hfo.symm
 have hcp0:w.cell? ⟨gp,0,none⟩=some (.int .i64 p):=(aT HP.out 0).trans rfl
 obtain ⟨fine',hfine⟩:∃ b:Bool,(fine && ok)=b:=⟨_,rfl⟩
 rw [hfine]
 cases fine
 all_goals
  simp only [Bool.false_and,Bool.true_and] at hfine
  subst hfine
  go_enter Try.func43,Try.ntmps43
  go_upto_region 3 with (first|((with_reducible refine aH (N:=5) rfl ?_);refine bxE (cs:=#[.int .i64 x0,.int .i64 x1]) (t:=28) ?_;intro g5 hg w3 hbox hb;have m1:=aA.mk (aE HP.out hb);have m2:=aA.mk (aE HF.out hb);have m3:=aA.mk (aE HO.out hb);have m4:=aA.mk (Kd.R_below HR.out hb);have m5:=aA.mk (ai HB.out hb);have m6:aA (aG.Keep w w3):=⟨fun g t cs h1 h2 h3 h=>aE (HX.out g t cs h1 h2 h3 h) hb⟩;clear HP HF HO HR HB HX hcp0;have HP:=m1;have HF:=m2;have HO:=m3;have HR:=m4;have HB:=m5;have HX:=m6;clear m1 m2 m3 m4 m5 m6 hb hg;have hcp3:w3.cell? ⟨gp,0,none⟩=some (.int .i64 p):=(aT HP.out 0).trans rfl;have hc53_0:w3.cell? ⟨g5,0,none⟩=some (.int .i64 x0):=(aT hbox 0).trans rfl;have hc53_1:w3.cell? ⟨g5,1,none⟩=some (.int .i64 x1):=(aT hbox 1).trans rfl;clear hbox)|((with_reducible refine gd 16 rfl ?_);refine gC (some 16) rfl Try.func38 (bz.calls (w:=_) (h:=A.out)) ?_;intro w4 hb;have m1:=aA.mk (aE HP.out hb);have m2:=aA.mk (aE HF.out hb);have m3:=aA.mk (aE HO.out hb);have m4:=aA.mk (Kd.R_below HR.out hb);have m5:=aA.mk (ai HB.out hb);have m6:aA (aG.Keep w w4):=⟨fun g t cs h1 h2 h3 h=>aE (HX.out g t cs h1 h2 h3 h) hb⟩;clear HP HF HO HR HB HX hcp3 hc53_0 hc53_1;have HP:=m1;have HF:=m2;have HO:=m3;have HR:=m4;have HB:=m5;have HX:=m6;clear m1 m2 m3 m4 m5 m6 hb)|((with_reducible refine aH (N:=7) rfl ?_);refine bxE (cs:=#[.int .i64 0,.int .i64 0,.int .i64 0]) (t:=25) ?_;intro g7 hg w5 hbox hb;have m1:=aA.mk (aE HP.out hb);have m2:=aA.mk (aE HF.out hb);have m3:=aA.mk (aE HO.out hb);have m4:=aA.mk (Kd.R_below (Kd.R_elderB HR.out g7 (Nat.le_of_eq hg.symm)) hb);have m5:=aA.mk (ai HB.out hb);have m6:aA (aG.Keep w w5):=⟨fun g t cs h1 h2 h3 h=>aE (HX.out g t cs h1 h2 h3 h) hb⟩;have G7:aA (w0.heap.size≤g7):=⟨by rw [hg];exact ak HB.out⟩;clear HP HF HO HR HB HX;have HP:=m1;have HF:=m2;have HO:=m3;have HR:=m4;have HB:=m5;have HX:=m6;have H7:=aA.mk hbox;clear m1 m2 m3 m4 m5 m6 hb hg hbox;have h7f:g7≠gf:=aG.ne H7.out HF.out (by decide);have hf7:gf≠g7:=h7f.symm;have h7o:g7≠go:=aG.ne H7.out HO.out (by decide);have ho7:go≠g7:=h7o.symm;have hc7_0:w5.cell? ⟨g7,0,none⟩=some (.int .i64 0):=(aT H7.out 0).trans rfl;have hc7_1:w5.cell? ⟨g7,1,none⟩=some (.int .i64 0):=(aT H7.out 1).trans rfl;have hc7_2:w5.cell? ⟨g7,2,none⟩=some (.int .i64 0):=(aT H7.out 2).trans rfl;have hz7_0:=aQ H7.out 0;have hz7_1:=aQ H7.out 1;have hz7_2:=aQ H7.out 2;(first|(have hcf:w5.cell? ⟨gf,0,none⟩=some (.bool true):=(aT HF.out 0).trans rfl)|(have hcf:w5.cell? ⟨gf,0,none⟩=some (.bool false):=(aT HF.out 0).trans rfl));have hzf:=aQ HF.out 0;have hco:w5.cell? ⟨go,0,none⟩=some v:=(aT HO.out 0).trans rfl;have hzo:=aQ HO.out 0))
  (try simp only [Act.put,List.setIfInBounds_toArray,List.set_cons_zero,List.set_cons_succ])
  refine aG.nm (B:=fun w'=>Code.wp _ _ _ _ w') (aG.st n0 n1 n2 _ H7 HF HO HR HB HX G7 GF h7f h7o hfo) ?_
  clear H7 HF HO HR HB HX HP hc7_0 hc7_1 hc7_2 hz7_0 hz7_1 hz7_2 hcf hzf hco hzo
  intro w6 hst
  obtain ⟨H7,HF,HO,HR,HB,HX⟩:=hst
  have hc7_0:w6.cell? ⟨g7,0,none⟩=some (.int .i64 n0):=(aT H7.out 0).trans rfl
  have hc7_1:w6.cell? ⟨g7,1,none⟩=some (.int .i64 n1):=(aT H7.out 1).trans rfl
  have hc7_2:w6.cell? ⟨g7,2,none⟩=some (.int .i64 n2):=(aT H7.out 2).trans rfl
  have hco:w6.cell? ⟨go,0,none⟩=some v:=(aT HO.out 0).trans rfl
  go_wp2_with ((with_reducible refine eN (b:=.append) (xs:=#[.tmp 23,.tmp 25]) rfl ?_);at_builtin;refine Kd.R_append k25 (w0:=w0) w0.heap.size rfl (.tmp 23) (.tmp 25) 36 25 (.agg #[(.int .i64 0),(.int .i64 0),(.int .i64 0)]) 24 rfl Try.underlying36 info25 rfl (by decide) (by omega) v l (⟨n0,n1,n2⟩:S25) [.int .i64 n0,.int .i64 n1,.int .i64 n2] (fun _=>True) (fun _=>False) rfl (by first|(go_simp;done)|(go_simp;rfl)) ?aP (fun _ hk=>hk.elim) (fun _ _=>trivial) ?aO ?aB ?aS ?aL ?_;(case aP=>exact ex _ _ _ (⟨n0,n1,n2⟩:S25));(case aB=>exact blA);(case aO=>exact (by (with_reducible repeat (first|apply Kd.R_alloc|apply Kd.R_drewN|apply Kd.R_drew));exact Kd.R_mono HR.out (fun _ _=>trivial)));(case aS=>exact (ak blA));(case aL=>have:=HL.out;omega);intro v7 w7 ho hb hg hat;obtain ⟨A7,c7,hv7⟩:=Kd.R_slice ho;rw [List.length_append,List.length_singleton] at hv7;subst hv7;have hHF:=b9 (w1:=w7) (by (with_reducible repeat (first|refine cU ?_ _|refine aK ?_|refine cV ?_ _));exact HF.out) hg (Kd.R_ne HR.out HF.out (by decide));have hHO:=b9 (w1:=w7) (by (with_reducible repeat (first|refine cU ?_ _|refine aK ?_|refine cV ?_ _));exact HO.out) hg (Kd.R_ne HR.out HO.out (by decide));have m2:=aA.mk hHF;have m3:=aA.mk hHO;have m4:=aA.mk ho;have m5:=aA.mk hb;have m6:aA (aG.Keep w w7):=⟨fun g t cs h1 h2 h3 h=>b9 (by (with_reducible repeat (first|refine cU ?_ _|refine aK ?_|refine cV ?_ _));exact HX.out g t cs h1 h2 h3 h) hg (Kd.R_ne HR.out (HX.out g t cs h1 h2 h3 h) (fun e=>h3 e.symm))⟩;clear hc7_0 hc7_1 hc7_2 hco hHF hHO ho hb hg hat;have hco:w7.cell? ⟨go,0,none⟩=some v:=(aT m3.out 0).trans rfl;have hzo:=aQ m3.out 0)
  go_end0
  exact ⟨_,rfl,aq m2.out hfo _,bE m3.out 0 _ rfl,Kd.R_mono (Kd.R_far (p:=⟨go,0,none⟩) (Kd.R_types m4.out m3.out (aG.hE _ (by decide))) (fun _ hk=>hk.2) _) (fun _ _=>trivial),al m5.out GO.out,fun g t cs h1 h2 h3 h=>aq (m6.out g t cs h1 h2 h3 h) (fun e=>aG.ne (m6.out g t cs h1 h2 h3 h) m3.out h2 e) _⟩
structure aG.Pm (w0 w:World) (p e0 e1 f0 f1:Int) (gp ge gf:Nat):Prop where
 p:w.heap[gp]?=some (.cells #[.int .i64 p] 2 (0,0))
 e:w.heap[ge]?=some (.cells #[.int .i64 e0,.int .i64 e1] 28 (0,0))
 f:w.heap[gf]?=some (.cells #[.int .i64 f0,.int .i64 f1] 28 (0,0))
 b:Below w0.heap.size w0 w
theorem aG.Pm.step {w0 w w1:World} {p e0 e1 f0 f1:Int} {gp ge gf:Nat} (h:aA (aG.Pm w0 w p e0 e1 f0 f1 gp ge gf)) (hb:Below w.heap.size w w1):aA (aG.Pm w0 w1 p e0 e1 f0 f1 gp ge gf):=⟨⟨aE h.out.p hb,aE h.out.e hb,aE h.out.f hb,ai h.out.b hb⟩⟩
theorem aG.Pm.keep {w0 w w1:World} {p e0 e1 f0 f1:Int} {gp ge gf:Nat} (h:aA (aG.Pm w0 w p e0 e1 f0 f1 gp ge gf)) (hx:aG.Keep w w1) (hb:Below w0.heap.size w0 w1):aA (aG.Pm w0 w1 p e0 e1 f0 f1 gp ge gf):=⟨⟨hx _ _ _ (by decide) (by decide) (by decide) h.out.p,hx _ _ _ (by decide) (by decide) (by decide) h.out.e,hx _ _ _ (by decide) (by decide) (by decide) h.out.f,hb⟩⟩
theorem aG.Pm.cells {w0 w:World} {p e0 e1 f0 f1:Int} {gp ge gf:Nat} (h:aA (aG.Pm w0 w p e0 e1 f0 f1 gp ge gf)):w.cell? ⟨gp,0,none⟩=some (.int .i64 p)∧w.cell? ⟨ge,0,none⟩=some (.int .i64 e0)∧w.cell? ⟨ge,1,none⟩=some (.int .i64 e1)∧w.cell? ⟨gf,0,none⟩=some (.int .i64 f0)∧w.cell? ⟨gf,1,none⟩=some (.int .i64 f1):=⟨aT h.out.p 0,aT h.out.e 0,aT h.out.e 1,aT h.out.f 0,aT h.out.f 1⟩
def aG.S8 (w0:World) (p e0 e1 f0 f1:Int) (gp ge gf go:Nat) (v:Value) (W:World):Prop:=aA (aG.Pm w0 W p e0 e1 f0 f1 gp ge gf)∧aA (W.heap[go]?=some (.cells #[v] 36 (0,0)))∧aA (Kd.R k25 25 W w0.heap.size (fun _=>True) v [])
theorem aG.s8 {w0 w5:World} {p e0 e1 f0 f1:Int} {gp ge gf go:Nat} {u v:Value} (PM:aA (aG.Pm w0 w5 p e0 e1 f0 f1 gp ge gf)) (HO:aA (w5.heap[go]?=some (.cells #[u] 36 (0,0)))) (HR:aA (Kd.R k25 25 w5 w0.heap.size (fun _=>True) v [])) (GO:aA (w0.heap.size≤go)):aG.S8 w0 p e0 e1 f0 f1 gp ge gf go v (w5.setCell ⟨go,0,none⟩ v):=
 ⟨aG.Pm.keep PM (fun g t cs h1 h2 h3 h=>aq h (aG.ne h HO.out h2) _) (al PM.out.b GO.out),⟨bE HO.out 0 _ rfl⟩,⟨Kd.R_mono (Kd.R_far (p:=⟨go,0,none⟩) (Kd.R_types HR.out HO.out (aG.hE _ (by decide))) (fun _ hk=>hk.2) _) (fun _ _=>trivial)⟩⟩
def aG.Ls (w0:World) (p e0 e1 f0 f1:Int) (gp ge gf gn go:Nat) (fine:Bool) (v:Value) (l:List S25) (W:World):Prop:=aA (aG.Pm w0 W p e0 e1 f0 f1 gp ge gf)∧aA (W.heap[gn]?=some (.cells #[.bool fine] 4 (0,0)))∧aA (W.heap[go]?=some (.cells #[v] 36 (0,0)))∧aA (Kd.R k25 25 W w0.heap.size (fun _=>True) v l)
theorem aG.ls {w0 w5:World} {p e0 e1 f0 f1:Int} {gp ge gf gn go:Nat} {b0 b:Bool} {v:Value} {l:List S25} (PM:aA (aG.Pm w0 w5 p e0 e1 f0 f1 gp ge gf)) (HF:aA (w5.heap[gn]?=some (.cells #[.bool b0] 4 (0,0)))) (HO:aA (w5.heap[go]?=some (.cells #[v] 36 (0,0)))) (HR:aA (Kd.R k25 25 w5 w0.heap.size (fun _=>True) v l)) (GN:aA (w0.heap.size≤gn)):aG.Ls w0 p e0 e1 f0 f1 gp ge gf gn go b v l (w5.setCell ⟨gn,0,none⟩ (.bool b)):=
 ⟨aG.Pm.keep PM (fun g t cs h1 h2 h3 h=>aq h (aG.ne h HF.out h1) _) (al PM.out.b GN.out),⟨bE HF.out 0 _ rfl⟩,⟨aq HO.out (aG.ne HO.out HF.out (by decide)) _⟩,⟨Kd.R_mono (Kd.R_far (p:=⟨gn,0,none⟩) (Kd.R_types HR.out HF.out (aG.hE _ (by decide))) (fun _ hk=>hk.2) _) (fun _ _=>trivial)⟩⟩
theorem aG.turn {w0 W:World} {p e0 e1 f0 f1:Int} {gp ge gf gn go:Nat} {fine:Bool} {v:Value} {l:List S25} {s1:Bool × List S25} (k:Nat) (x0 x1 lv:Int) (HS:aA (aG.Ls w0 p e0 e1 f0 f1 gp ge gf gn go fine v l W)) (GN:aA (w0.heap.size≤gn)) (GO:aA (w0.heap.size≤go)) (h:aA (aG.take k p x0 x1 lv (fine,l)=some s1)) :
  Calls Try.prog 43 #[.agg #[.int .i64 x0,.int .i64 x1],.int .i64 lv,.pointer (some ⟨gp,0,none⟩),.pointer (some ⟨gn,0,none⟩),.pointer (some ⟨go,0,none⟩)] W fun e w'=>∃ v':Value,e=.returned (.tuple #[])∧aG.Ls w0 p e0 e1 f0 f1 gp ge gf gn go s1.1 v' s1.2 w':=by
 have h:=h.out
 unfold aG.take at h
 obtain ⟨⟨n0,n1,n2,ok⟩,hb,h⟩:=Option.bind_eq_some_iff.mp h
 by_cases hl:l.length<1000
 case neg=>rw [if_neg hl] at h;cases h
 rw [if_pos hl] at h
 obtain rfl:=Option.some.inj h
 obtain ⟨PM,HF,HO,HR⟩:=HS.out
 refine (aG.clo k p x0 x1 lv n0 n1 n2 ok fine gp gn go v l w0 W ⟨PM.out.p⟩ HF HO HR GN GO ⟨PM.out.b⟩ hl hb).mono ?_
 rintro e w' ⟨v',he,h1,h2,h3,h4,h5⟩
 exact ⟨v',he,aG.Pm.keep PM h5 h4,⟨h1⟩,⟨h2⟩,⟨h3⟩⟩
theorem aG.Ls.step {w0 w w1:World} {p e0 e1 f0 f1:Int} {gp ge gf gn go:Nat} {fine:Bool} {v:Value} {l:List S25} (h:aA (aG.Ls w0 p e0 e1 f0 f1 gp ge gf gn go fine v l w)) (hb:Below w.heap.size w w1):aA (aG.Ls w0 p e0 e1 f0 f1 gp ge gf gn go fine v l w1):=⟨aG.Pm.step h.out.1 hb,⟨aE h.out.2.1.out hb⟩,⟨aE h.out.2.2.1.out hb⟩,⟨Kd.R_below h.out.2.2.2.out hb⟩⟩
set_option maxHeartbeats 8000000 in
set_option maxRecDepth 100000 in
noncomputable def aG.cut0:PSigma fun P:Prop=>aA P→(∀ (k:Nat) (a0:Int) (a1_0:Int) (a1_1:Int) (a2_0:Int) (a2_1:Int) (a3:Int) (r1:List (S25)) (r2:Int) (w:World) (h:aG.f k a0 a1_0 a1_1 a2_0 a2_1 a3=some (r1,r2)),Calls Try.prog 11 #[.int .i64 a0,.agg #[.int .i64 a1_0,.int .i64 a1_1],.agg #[.int .i64 a2_0,.int .i64 a2_1],.int .i64 a3] w fun e w'=>∃ v0_:Value,e=.returned (.tuple #[v0_,.int .i64 r2])∧Kd.R k25 25 w' w.heap.size (fun _=>True) v0_ r1∧Below w.heap.size w w'):=by
 apply PSigma.mk
 ·
  intro hcutP
  intro k a0 a1_0 a1_1 a2_0 a2_1 a3 r1 r2 w h
  have HH:=aA.mk h
  clear h
  have HB:=aA.mk (Below.refl w.heap.size w)
  go_enter Try.func11,Try.ntmps11
  go_upto_region 1 with (first|((with_reducible refine aH (N:=4) rfl ?_);refine bxE (cs:=#[.int .i64 a0]) (t:=2) ?_;intro g4 hg w4 hbox hb;have m1:=aA.mk hbox;have m2:=aA.mk (ai HB.out hb);clear HB hg hbox hb;have P4:=m1;have HB:=m2;clear m1 m2)|((with_reducible refine aH (N:=5) rfl ?_);refine bxE (cs:=#[.int .i64 a1_0,.int .i64 a1_1]) (t:=28) ?_;intro g5 hg w5 hbox hb;have m0:=aA.mk (aE P4.out hb);have m1:=aA.mk hbox;have m2:=aA.mk (ai HB.out hb);clear HB P4 hg hbox hb;have P4:=m0;have P5:=m1;have HB:=m2;clear m0 m1 m2)|((with_reducible refine aH (N:=6) rfl ?_);refine bxE (cs:=#[.int .i64 a2_0,.int .i64 a2_1]) (t:=28) ?_;intro g6 hg w6 hbox hb;have PM:aA (aG.Pm w w6 a0 a1_0 a1_1 a2_0 a2_1 g4 g5 g6):=⟨⟨aE P4.out hb,aE P5.out hb,hbox,ai HB.out hb⟩⟩;clear HB P4 P5 hg hbox hb))
  (try simp only [Act.put,List.setIfInBounds_toArray,List.set_cons_zero,List.set_cons_succ])
  have h:=HH.out
  clear HH
  unfold aG.f at h
  replace h:=Option.bind_eq_some_iff.mp h
  obtain ⟨t,A1,h⟩:=h
  replace A1:=aA.mk A1
  obtain ⟨c1,c2,c3,c4,c5⟩:=aG.Pm.cells PM
  cases t
  case false=>
   simp only [Bool.false_eq_true,if_false,Option.some.injEq,Prod.mk.injEq] at h
   obtain ⟨rfl,rfl⟩:=h
   go_wp2_with (go_at_call 31;(with_reducible refine (av.calls a0 false _ A1.out).mono ?_);rintro e w7 ⟨rfl,hb⟩;have m1:=aG.Pm.step PM hb.below;clear PM c1 c2 c3 c4 c5 hb;have PM:=m1;clear m1;obtain ⟨c1,c2,c3,c4,c5⟩:=aG.Pm.cells PM)
   go_ret2
   exact ⟨_,by first|rfl|(simp [bB,bA] <;> rfl),Kd.R_nil _ _ _ _ _,by repeat (first|(with_reducible first|exact PM.out.b|apply ay|apply a6|apply aV)|exact PM.out.b)⟩
  case true=>
  simp only [if_true] at h
  replace h:=Option.bind_eq_some_iff.mp h
  obtain ⟨u,A2,h⟩:=h
  obtain ⟨y,hy⟩:∃ y_:List S28,y_=[(⟨a1_0,a1_1⟩:S28),(⟨a2_0,a2_1⟩:S28)]:=⟨_,rfl⟩
  rw [← hy] at A2
  replace A2:=aA.mk A2
  replace hy:=aA.mk hy
  cases u
  case false=>
   simp only [Bool.false_eq_true,if_false,Option.some.injEq,Prod.mk.injEq] at h
   obtain ⟨rfl,rfl⟩:=h
   go_wp2_with (first|(go_at_call 31;(with_reducible refine (av.calls a0 true _ A1.out).mono ?_);rintro e w7 ⟨rfl,hb⟩;have m1:=aG.Pm.step PM hb.below;clear PM c1 c2 c3 c4 c5 hb;have PM:=m1;clear m1;obtain ⟨c1,c2,c3,c4,c5⟩:=aG.Pm.cells PM)|((with_reducible refine aH (N:=25) rfl ?_);(try (refine cS (by rfl) ?_;dsimp only));refine Kd.R_lit k28 _ 28 ?hg (N:=25) ?hd (xs:=([(⟨a1_0,a1_1⟩:S28),(⟨a2_0,a2_1⟩:S28)]:List (S28))) (inner:=[.int .i64 a1_0,.int .i64 a1_1,.int .i64 a2_0,.int .i64 a2_1]) (ok:=fun _=>True) (okp:=fun _=>True) ?hr ?hp (fun _ hk=>hk) trivial (Below.refl _ _) (Nat.le_refl _) (by simp) ?_;(case hd=>rfl);(case hg=>rfl);(case hr=>first|(go_simp;done)|(go_simp;rfl));(case hp=>exact (aY.c2 (show Kd.M k28 _ _ _ (⟨a1_0,a1_1⟩:S28) [.int .i64 a1_0,.int .i64 a1_1] from (aw _ _ _ (⟨a1_0,a1_1⟩:S28) )) (aY.c2 (show Kd.M k28 _ _ _ (⟨a2_0,a2_1⟩:S28) [.int .i64 a2_0,.int .i64 a2_1] from (aw _ _ _ (⟨a2_0,a2_1⟩:S28) )) (aY.none _ _))));intro v8 w8 ho8 hb hg_ hnew_;clear hg_ hnew_;rw [← hy.out] at ho8;have m1:=aG.Pm.step PM hb;have HL8:=aA.mk ho8;clear PM c1 c2 c3 c4 c5 hb ho8;have PM:=m1;clear m1;obtain ⟨c1,c2,c3,c4,c5⟩:=aG.Pm.cells PM;obtain ⟨A8,k8,e8⟩:=Kd.R_slice HL8.out;subst e8)|(go_at_call 32;(with_reducible refine (bL.calls k _ _ y false _ ?side1 ?side2 A2.out).mono ?_);(case side1=>exact cR (Kd.R_reads' HL8.out).2.2);(case side2=>exact (Kd.R_reads' HL8.out).2.1);rintro e w9 ⟨rfl,hb⟩;have m1:=aG.Pm.step PM hb;clear PM c1 c2 c3 c4 c5 hb HL8;have PM:=m1;clear m1;obtain ⟨c1,c2,c3,c4,c5⟩:=aG.Pm.cells PM))
   go_ret2
   exact ⟨_,by first|rfl|(simp [bB,bA] <;> rfl),Kd.R_nil _ _ _ _ _,by repeat (first|(with_reducible first|exact PM.out.b|apply ay|apply a6|apply aV)|exact PM.out.b)⟩
  case true=>
  simp only [if_true] at h
  go_upto_region 3 with (first|(go_at_call 31;(with_reducible refine (av.calls a0 true _ A1.out).mono ?_);rintro e w7 ⟨rfl,hb⟩;have m1:=aG.Pm.step PM hb.below;clear PM c1 c2 c3 c4 c5 hb;have PM:=m1;clear m1;obtain ⟨c1,c2,c3,c4,c5⟩:=aG.Pm.cells PM)|((with_reducible refine aH (N:=25) rfl ?_);(try (refine cS (by rfl) ?_;dsimp only));refine Kd.R_lit k28 _ 28 ?hg (N:=25) ?hd (xs:=([(⟨a1_0,a1_1⟩:S28),(⟨a2_0,a2_1⟩:S28)]:List (S28))) (inner:=[.int .i64 a1_0,.int .i64 a1_1,.int .i64 a2_0,.int .i64 a2_1]) (ok:=fun _=>True) (okp:=fun _=>True) ?hr ?hp (fun _ hk=>hk) trivial (Below.refl _ _) (Nat.le_refl _) (by simp) ?_;(case hd=>rfl);(case hg=>rfl);(case hr=>first|(go_simp;done)|(go_simp;rfl));(case hp=>exact (aY.c2 (show Kd.M k28 _ _ _ (⟨a1_0,a1_1⟩:S28) [.int .i64 a1_0,.int .i64 a1_1] from (aw _ _ _ (⟨a1_0,a1_1⟩:S28) )) (aY.c2 (show Kd.M k28 _ _ _ (⟨a2_0,a2_1⟩:S28) [.int .i64 a2_0,.int .i64 a2_1] from (aw _ _ _ (⟨a2_0,a2_1⟩:S28) )) (aY.none _ _))));intro v8 w8 ho8 hb hg_ hnew_;clear hg_ hnew_;rw [← hy.out] at ho8;have m1:=aG.Pm.step PM hb;have HL8:=aA.mk ho8;clear PM c1 c2 c3 c4 c5 hb ho8;have PM:=m1;clear m1;obtain ⟨c1,c2,c3,c4,c5⟩:=aG.Pm.cells PM;obtain ⟨A8,k8,e8⟩:=Kd.R_slice HL8.out;subst e8)|(go_at_call 32;(with_reducible refine (bL.calls k _ _ y true _ ?side1 ?side2 A2.out).mono ?_);(case side1=>exact cR (Kd.R_reads' HL8.out).2.2);(case side2=>exact (Kd.R_reads' HL8.out).2.1);rintro e w9 ⟨rfl,hb⟩;have m1:=aG.Pm.step PM hb;clear PM c1 c2 c3 c4 c5 hb HL8;have PM:=m1;clear m1;obtain ⟨c1,c2,c3,c4,c5⟩:=aG.Pm.cells PM))
  (try simp only [Act.put,List.setIfInBounds_toArray,List.set_cons_zero,List.set_cons_succ])
  clear A1 A2 hy
  by_cases q1:a3<0∨6<a3
  ·
   rw [if_pos q1] at h
   simp only [Option.some.injEq,Prod.mk.injEq] at h
   obtain ⟨rfl,rfl⟩:=h
   by_cases q2:a3<0
   all_goals
    first|have d1:decide (a3<0)=true:=decide_eq_true q2|have d1:decide (a3<0)=false:=decide_eq_false q2
    first|have d3:decide (a3>6)=true:=decide_eq_true (by omega)|have d3:decide (a3>6)=false:=decide_eq_false (by omega)
    go_wp2
    go_ret2
    exact ⟨_,by first|rfl|(simp [bB,bA] <;> rfl),Kd.R_nil _ _ _ _ _,by repeat (first|(with_reducible first|exact PM.out.b|apply ay|apply a6|apply aV)|exact PM.out.b)⟩
  rw [if_neg q1] at h
  have QA:aA (0≤a3∧a3≤6):=⟨by omega⟩
  have d1:decide (a3<0)=false:=decide_eq_false (by omega)
  have d3:decide (a3>6)=false:=decide_eq_false (by omega)
  by_cases q2:a1_0=a2_0∧a1_1=a2_1
  ·
   rw [if_pos q2] at h
   simp only [Option.some.injEq,Prod.mk.injEq] at h
   obtain ⟨rfl,rfl⟩:=h
   obtain ⟨rfl,rfl⟩:=q2
   go_wp2
   go_ret2
   exact ⟨_,by first|rfl|(simp [bB,bA] <;> rfl),Kd.R_nil _ _ _ _ _,by repeat (first|(with_reducible first|exact PM.out.b|apply ay|apply a6|apply aV)|exact PM.out.b)⟩
  rw [if_neg q2] at h
  have he:∀ W:World,(binOp .eql 28 (.agg #[.int .i64 a1_0,.int .i64 a1_1]) (.agg #[.int .i64 a2_0,.int .i64 a2_1])).run Try.prog W=.ok (.bool false) W:=by
   intro W
   by_cases x:a1_0=a2_0
   ·
    have y:a1_1≠a2_1:=fun y=>q2 ⟨x,y⟩
    subst x
    go_simp
   ·
    go_simp
  clear q2
  go_upto_region 8 with (first|((with_reducible refine aH (N:=40) rfl ?_);refine Kd.R_lit k25 _ 25 ?hg (N:=40) ?hd (xs:=([]:List (S25))) (inner:=[]) (ok:=fun _=>True) (okp:=fun _=>True) ?hr ?hp (fun _ hk=>hk) trivial (Below.refl _ _) (Nat.le_refl _) (by simp) ?_;(case hd=>rfl);(case hg=>rfl);(case hr=>first|(go_simp;done)|(go_simp;rfl));(case hp=>exact (aY.none _ _));intro v10 w10 ho8 hb hg_ hnew_;clear hg_ hnew_;have m1:=aG.Pm.step PM hb;have HR:=aA.mk (Kd.R_lower ho8 (ak PM.out.b));clear PM c1 c2 c3 c4 c5 hb ho8;have PM:=m1;clear m1;obtain ⟨A10,k10,e10⟩:=Kd.R_slice HR.out;subst e10)|((with_reducible refine aH (N:=10) rfl ?_);refine bxE (cs:=#[.slice none 0 0]) (t:=36) ?_;intro g10 hg w11 hbox hb;have m1:=aG.Pm.step PM hb;have m2:=aA.mk (Kd.R_below HR.out hb);have G10:aA (w.heap.size≤g10):=⟨by rw [hg];exact ak PM.out.b⟩;clear PM HR hb hg;have PM:=m1;have HR:=m2;have HO:=aA.mk hbox;clear m1 m2 hbox;have hco:w11.cell? ⟨g10,0,none⟩=some (.slice none 0 0):=(aT HO.out 0).trans rfl;have hzo:=aQ HO.out 0))
  (try simp only [Act.put,List.setIfInBounds_toArray,List.set_cons_zero,List.set_cons_succ])
  refine aG.nm (B:=fun w'=>Code.wp _ _ _ _ w') (aG.s8 PM HO HR G10) ?_
  clear PM HO HR hco hzo
  intro w12 hst
  obtain ⟨PM,HO,HR⟩:=hst
  have hmf:∀ (fn:Fn) (first cap:Array Value) (w:World),(Instr.makeFunc fn first cap).run Try.prog w=.ok (.func fn first cap) w:=fun _ _ _ _=>rfl
  go_upto_region 9 with ((with_reducible refine aH (N:=11) rfl ?_);refine bxE (cs:=#[.bool false]) (t:=4) ?_;intro g11 hg w13 hbox hb;have m1:=aG.Pm.step PM hb;have m2:=aA.mk (Kd.R_below HR.out hb);have m3:=aA.mk (aE HO.out hb);have G11:aA (w.heap.size≤g11):=⟨by rw [hg];exact ak PM.out.b⟩;clear PM HR HO hb hg;have PM:=m1;have HR:=m2;have HO:=m3;have HF:=aA.mk hbox;clear m1 m2 m3 hbox;have hcf:w13.cell? ⟨g11,0,none⟩=some (.bool false):=(aT HF.out 0).trans rfl;have hzf:=aQ HF.out 0)
  (try simp only [Act.put,List.setIfInBounds_toArray,List.set_cons_zero,List.set_cons_succ])
  refine aG.nm (B:=fun w'=>Code.wp _ _ _ _ w') (aG.ls (b:=true) PM HF HO HR G11) ?_
  clear PM HF HO HR hcf hzf
  intro w14 hst
  have HS:=aA.mk hst
  clear hst
  replace h:=aA.mk h
  clear he
  obtain ⟨c1,c2,c3,c4,c5⟩:=aG.Pm.cells HS.out.1
  go_upto_region 19 with fail
  expose_names
  clear q1 d1 d3
  revert k a0 a1_0 a1_1 a2_0 a2_1 a3 r1 r2 w g4 g5 g6 y A8 k8 A10 k10 g10 hmf g11 w14 K K_1
  exact hcutP.out
set_option maxHeartbeats 8000000 in
set_option maxRecDepth 100000 in
theorem aG.cut1:aG.cut0.1:=by
 conv=>whnf
 intro k a0 a1_0 a1_1 a2_0 a2_1 a3 r1 r2 w _ g4 g5 g6 y A8 k8 QA A10 k10 g10 G10 hmf g11 G11 w14 HS h c1 c2 c3 c4 c5 _ _ _ _
 obtain ⟨q1,q1'⟩:=QA.out
 have wn:wrap64 (-a3) = -a3:=by unfold wrap64;omega
 by_cases z1:a2_1=0
 ·
  have z1b:(a2_1 == 0)=true:=beq_iff_eq.mpr z1
  have h:=h.out
  rw [if_pos z1] at h
  replace h:=Option.bind_eq_some_iff.mp h
  obtain ⟨sf,hrow,h⟩:=h
  replace hrow:=aA.mk hrow
  replace h:=aA.mk h
  go_wp2
  go_loopg [13] (2*a3+1).toNat (fun kq vL w'=>∃ (lv:Int) (fine:Bool) (v:Value) (l:List S25),vL=.int .i64 lv∧aA (aG.row k a0 a1_0 a1_1 (-1) kq lv (fine,l)=some sf)∧aA (lv=(kq:Int) - 1 - a3)∧aA (kq≤13)∧aA (aG.Ls w a0 a1_0 a1_1 a2_0 a2_1 g4 g5 g6 g11 g10 fine v l w'))
  case atStart=>exact ⟨a3,true,_,[],rfl,hrow,⟨by omega⟩,⟨by omega⟩,HS⟩
  case round=>
   clear c1 c2 c3 c4 c5 HS hrow z1 z1b
   obtain ⟨lv,fine,v,l,rfl,HA,HV,HK,HS⟩:=hrel
   obtain ⟨c1,c2,c3,c4,c5⟩:=aG.Pm.cells HS.out.1
   cases gk with
   | zero=>
    have hge:decide (lv≥-a3)=false:=decide_eq_false (by have:=HV.out;omega)
    obtain rfl:=Option.some.inj HA.out
    have HR:=HS.out.2.2.2
    have c6:=(aT HS.out.2.1.out 0).trans rfl
    have c7:=(aT HS.out.2.2.1.out 0).trans rfl
    obtain ⟨A7,k7,e7⟩:=Kd.R_slice HR.out
    subst e7
    have h:=h.out
    unfold aG.fin at h
    cases fine
    case false=>
     simp only [Bool.false_eq_true,if_false,Option.some.injEq,Prod.mk.injEq] at h
     obtain ⟨rfl,rfl⟩:=h
     go_wp2
     go_ret2
     exact ⟨_,by first|rfl|(simp [bB,bA] <;> rfl),Kd.R_nil _ _ _ _ _,by repeat (first|(with_reducible first|exact HS.out.1.out.b|apply ay|apply a6|apply aV)|exact HS.out.1.out.b)⟩
    case true=>
     simp only [if_true,Option.some.injEq,Prod.mk.injEq] at h
     obtain ⟨rfl,rfl⟩:=h
     go_wp2
     go_ret2
     exact ⟨_,by first|rfl|(simp [bB,bA] <;> rfl),by (with_reducible repeat (first|apply Kd.R_alloc|apply Kd.R_drewN|apply Kd.R_drew));exact HR.out,by repeat (first|(with_reducible first|exact HS.out.1.out.b|apply ay|apply a6|apply aV)|exact HS.out.1.out.b)⟩
   | succ k2=>
    have hge:decide (lv≥-a3)=true:=decide_eq_true (by have:=HV.out;omega)
    have hw:wrap64 (lv - 1)=lv - 1:=by have:=HK.out;have:=HV.out;unfold wrap64;omega
    have hs:=Option.bind_eq_some_iff.mp HA.out
    obtain ⟨s1,hs1,hrest⟩:=hs
    replace hs1:=aA.mk hs1
    replace hrest:=aA.mk hrest
    clear HA
    go_wp2_with (go_at_call 43;refine (aG.turn k a1_0 a1_1 lv HS G11 G10 hs1).mono ?_;rintro e w2 ⟨v',rfl,hs2⟩;clear c1 c2 c3 c4 c5 HS)
    go_roundg k2
    case measure=>omega
    case rel=>exact ⟨lv - 1,s1.1,v',s1.2,by simp [hw],hrest,⟨by have:=HV.out;omega⟩,⟨by have:=HK.out;omega⟩,⟨hs2⟩⟩
 have z1b:(a2_1 == 0)=false:=beq_eq_false_iff_ne.mpr z1
 have h:=h.out
 rw [if_neg z1] at h
 by_cases z2:a1_1=0
 ·
  have z2b:(a1_1 == 0)=true:=beq_iff_eq.mpr z2
  rw [if_pos z2] at h
  replace h:=Option.bind_eq_some_iff.mp h
  obtain ⟨sf,hrow,h⟩:=h
  replace hrow:=aA.mk hrow
  replace h:=aA.mk h
  go_wp2
  go_loopg [14] (2*a3+1).toNat (fun kq vL w'=>∃ (lv:Int) (fine:Bool) (v:Value) (l:List S25),vL=.int .i64 lv∧aA (aG.row k a0 a2_0 a2_1 1 kq lv (fine,l)=some sf)∧aA (lv=a3+1 - (kq:Int))∧aA (kq≤13)∧aA (aG.Ls w a0 a1_0 a1_1 a2_0 a2_1 g4 g5 g6 g11 g10 fine v l w'))
  case atStart=>exact ⟨-a3,true,_,[],rfl,hrow,⟨by omega⟩,⟨by omega⟩,HS⟩
  case round=>
   clear c1 c2 c3 c4 c5 HS hrow z1 z1b z2 z2b
   obtain ⟨lv,fine,v,l,rfl,HA,HV,HK,HS⟩:=hrel
   obtain ⟨c1,c2,c3,c4,c5⟩:=aG.Pm.cells HS.out.1
   cases gk with
   | zero=>
    have hge:decide (lv≤a3)=false:=decide_eq_false (by have:=HV.out;omega)
    obtain rfl:=Option.some.inj HA.out
    have HR:=HS.out.2.2.2
    have c6:=(aT HS.out.2.1.out 0).trans rfl
    have c7:=(aT HS.out.2.2.1.out 0).trans rfl
    obtain ⟨A7,k7,e7⟩:=Kd.R_slice HR.out
    subst e7
    have h:=h.out
    unfold aG.fin at h
    cases fine
    case false=>
     simp only [Bool.false_eq_true,if_false,Option.some.injEq,Prod.mk.injEq] at h
     obtain ⟨rfl,rfl⟩:=h
     go_wp2
     go_ret2
     exact ⟨_,by first|rfl|(simp [bB,bA] <;> rfl),Kd.R_nil _ _ _ _ _,by repeat (first|(with_reducible first|exact HS.out.1.out.b|apply ay|apply a6|apply aV)|exact HS.out.1.out.b)⟩
    case true=>
     simp only [if_true,Option.some.injEq,Prod.mk.injEq] at h
     obtain ⟨rfl,rfl⟩:=h
     go_wp2
     go_ret2
     exact ⟨_,by first|rfl|(simp [bB,bA] <;> rfl),by (with_reducible repeat (first|apply Kd.R_alloc|apply Kd.R_drewN|apply Kd.R_drew));exact HR.out,by repeat (first|(with_reducible first|exact HS.out.1.out.b|apply ay|apply a6|apply aV)|exact HS.out.1.out.b)⟩
   | succ k2=>
    have hge:decide (lv≤a3)=true:=decide_eq_true (by have:=HV.out;omega)
    have hw:wrap64 (lv+1)=lv+1:=by have:=HK.out;have:=HV.out;unfold wrap64;omega
    have hs:=Option.bind_eq_some_iff.mp HA.out
    obtain ⟨s1,hs1,hrest⟩:=hs
    replace hs1:=aA.mk hs1
    replace hrest:=aA.mk hrest
    clear HA
    go_wp2_with (go_at_call 43;refine (aG.turn k a2_0 a2_1 lv HS G11 G10 hs1).mono ?_;rintro e w2 ⟨v',rfl,hs2⟩;clear c1 c2 c3 c4 c5 HS)
    go_roundg k2
    case measure=>omega
    case rel=>exact ⟨lv+1,s1.1,v',s1.2,by simp [hw],hrest,⟨by have:=HV.out;omega⟩,⟨by have:=HK.out;omega⟩,⟨hs2⟩⟩
 have z2b:(a1_1 == 0)=false:=beq_eq_false_iff_ne.mpr z2
 rw [if_neg z2] at h
 replace h:=Option.bind_eq_some_iff.mp h
 obtain ⟨g,hg,h⟩:=h
 by_cases z3 : -1000≤g∧g≤1000
 ·
  obtain ⟨z3,z3'⟩:=z3
  rw [if_pos ⟨z3,z3'⟩] at h
  replace h:=Option.bind_eq_some_iff.mp h
  obtain ⟨sf,hrow,h⟩:=h
  replace hrow:=aA.mk hrow
  replace h:=aA.mk h
  have wa:wrap64 (g+a3)=g+a3:=by unfold wrap64;omega
  have wb:wrap64 (g+1)=g+1:=by unfold wrap64;omega
  go_wp2_with (go_at_call 36;refine (bh.calls k a0 a1_0 a1_1 a2_0 a2_1 g _ hg).mono ?_;rintro e w2 ⟨rfl,hb⟩;replace HS:=aG.Ls.step HS hb;clear hb c1 c2 c3 c4 c5;obtain ⟨c1,c2,c3,c4,c5⟩:=aG.Pm.cells HS.out.1)
  go_loopg [16] (a3+1).toNat (fun kq vL w'=>∃ (lv:Int) (fine:Bool) (v:Value) (l:List S25),vL=.int .i64 lv∧aA (aG.row k a0 a1_0 a1_1 (-1) kq lv (fine,l)=some sf)∧aA (lv=g - 1+(kq:Int))∧aA (kq≤7)∧aA (aG.Ls w a0 a1_0 a1_1 a2_0 a2_1 g4 g5 g6 g11 g10 fine v l w'))
  case atStart=>exact ⟨g+a3,true,_,[],rfl,hrow,⟨by omega⟩,⟨by omega⟩,HS⟩
  case round=>
   clear c1 c2 c3 c4 c5 HS hrow z1 z1b z2 z2b hg
   obtain ⟨lv,fine,v,l,rfl,HA,HV,HK,HS⟩:=hrel
   obtain ⟨c1,c2,c3,c4,c5⟩:=aG.Pm.cells HS.out.1
   cases gk with
   | zero=>
    have hge:decide (lv≥g)=false:=decide_eq_false (by have:=HV.out;omega)
    obtain rfl:=Option.some.inj HA.out
    clear HA
    have h:=h.out
    replace h:=Option.bind_eq_some_iff.mp h
    obtain ⟨sg,hrow,h⟩:=h
    replace hrow:=aA.mk hrow
    replace h:=aA.mk h
    go_wp2
    go_loopg [17] a3.toNat (fun kq vL w'=>∃ (lv:Int) (fine:Bool) (v:Value) (l:List S25),vL=.int .i64 lv∧aA (aG.row k a0 a2_0 a2_1 1 kq lv (fine,l)=some sg)∧aA (lv=g+a3+1 - (kq:Int))∧aA (kq≤6)∧aA (aG.Ls w a0 a1_0 a1_1 a2_0 a2_1 g4 g5 g6 g11 g10 fine v l w'))
    case atStart=>exact ⟨g+1,fine,v,l,rfl,hrow,⟨by omega⟩,⟨by omega⟩,HS⟩
    case round=>
     clear c1 c2 c3 c4 c5 HS hrow hge
     obtain ⟨lv,fine,v,l,rfl,HA,HV,HK,HS⟩:=hrel
     obtain ⟨c1,c2,c3,c4,c5⟩:=aG.Pm.cells HS.out.1
     cases gk with
     | zero=>
      have hge:decide (lv≤g+a3)=false:=decide_eq_false (by have:=HV.out;omega)
      obtain rfl:=Option.some.inj HA.out
      have HR:=HS.out.2.2.2
      have c6:=(aT HS.out.2.1.out 0).trans rfl
      have c7:=(aT HS.out.2.2.1.out 0).trans rfl
      obtain ⟨A7,k7,e7⟩:=Kd.R_slice HR.out
      subst e7
      have h:=h.out
      unfold aG.fin at h
      cases fine
      case false=>
       simp only [Bool.false_eq_true,if_false,Option.some.injEq,Prod.mk.injEq] at h
       obtain ⟨rfl,rfl⟩:=h
       go_wp2
       go_ret2
       exact ⟨_,by first|rfl|(simp [bB,bA] <;> rfl),Kd.R_nil _ _ _ _ _,by repeat (first|(with_reducible first|exact HS.out.1.out.b|apply ay|apply a6|apply aV)|exact HS.out.1.out.b)⟩
      case true=>
       simp only [if_true,Option.some.injEq,Prod.mk.injEq] at h
       obtain ⟨rfl,rfl⟩:=h
       go_wp2
       go_ret2
       exact ⟨_,by first|rfl|(simp [bB,bA] <;> rfl),by (with_reducible repeat (first|apply Kd.R_alloc|apply Kd.R_drewN|apply Kd.R_drew));exact HR.out,by repeat (first|(with_reducible first|exact HS.out.1.out.b|apply ay|apply a6|apply aV)|exact HS.out.1.out.b)⟩
     | succ k2=>
      have hge:decide (lv≤g+a3)=true:=decide_eq_true (by have:=HV.out;omega)
      have hw:wrap64 (lv+1)=lv+1:=by have:=HK.out;have:=HV.out;unfold wrap64;omega
      have hs:=Option.bind_eq_some_iff.mp HA.out
      obtain ⟨s1,hs1,hrest⟩:=hs
      replace hs1:=aA.mk hs1
      replace hrest:=aA.mk hrest
      clear HA
      go_wp2_with (go_at_call 43;refine (aG.turn k a2_0 a2_1 lv HS G11 G10 hs1).mono ?_;rintro e w2 ⟨v',rfl,hs2⟩;clear c1 c2 c3 c4 c5 HS)
      go_roundg k2
      case measure=>omega
      case rel=>exact ⟨lv+1,s1.1,v',s1.2,by simp [hw],hrest,⟨by have:=HV.out;omega⟩,⟨by have:=HK.out;omega⟩,⟨hs2⟩⟩
   | succ k2=>
    have hge:decide (lv≥g)=true:=decide_eq_true (by have:=HV.out;omega)
    have hw:wrap64 (lv - 1)=lv - 1:=by have:=HK.out;have:=HV.out;unfold wrap64;omega
    have hs:=Option.bind_eq_some_iff.mp HA.out
    obtain ⟨s1,hs1,hrest⟩:=hs
    replace hs1:=aA.mk hs1
    replace hrest:=aA.mk hrest
    clear HA
    go_wp2_with (go_at_call 43;refine (aG.turn k a1_0 a1_1 lv HS G11 G10 hs1).mono ?_;rintro e w2 ⟨v',rfl,hs2⟩;clear c1 c2 c3 c4 c5 HS)
    go_roundg k2
    case measure=>omega
    case rel=>exact ⟨lv - 1,s1.1,v',s1.2,by simp [hw],hrest,⟨by have:=HV.out;omega⟩,⟨by have:=HK.out;omega⟩,⟨hs2⟩⟩
 ·
  rw [if_neg z3] at h;cases h
set_option maxHeartbeats 8000000 in
set_option maxRecDepth 100000 in
theorem aG.calls (k:Nat) (a0 a1_0 a1_1 a2_0 a2_1 a3:Int) (r1:List (S25)) (r2:Int) (w:World) (h:aG.f k a0 a1_0 a1_1 a2_0 a2_1 a3=some (r1,r2)) :
  Calls Try.prog 11 #[.int .i64 a0,.agg #[.int .i64 a1_0,.int .i64 a1_1],.agg #[.int .i64 a2_0,.int .i64 a2_1],.int .i64 a3] w fun e w'=>∃ v0_:Value,e=.returned (.tuple #[v0_,.int .i64 r2])∧Kd.R k25 25 w' w.heap.size (fun _=>True) v0_ r1∧Below w.heap.size w w':=aG.cut0.2 (aA.mk aG.cut1) k a0 a1_0 a1_1 a2_0 a2_1 a3 r1 r2 w h
end Go.Proofs.Ytpihnmmoahplgaa.PAll
