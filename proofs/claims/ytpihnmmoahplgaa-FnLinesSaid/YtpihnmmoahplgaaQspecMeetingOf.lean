import Derived.Test.YtpihnmmoahplgaaQx
import Derived.Test.YtpihnmmoahplgaaQimpltimes
import Derived.Test.YtpihnmmoahplgaaQspecl01End
import Derived.Test.YtpihnmmoahplgaaQspecl01Of
import Derived.Test.YtpihnmmoahplgaaQspecl05Code
import Derived.Test.YtpihnmmoahplgaaQspecl05Gap
namespace Go.Proofs.Ytpihnmmoahplgaa.PAll
open Go.RowKit Go.Proofs.YtpihnmmoahplgaaW.PrintWords Go.Proofs.YtpihnmmoahplgaaW.PrintLast Go.Proofs.YtpihnmmoahplgaaW.PrintMore
attribute [local go_sem] Go.Proofs.Ytpihnmmoahplgaa.Aux.setCell_drewN Go.Proofs.Ytpihnmmoahplgaa.Aux.isSome_setCell Go.Proofs.Ytpihnmmoahplgaa.Aux.max_eight bq bo cG cF ba bZ bp bm
set_option linter.unusedVariables false
set_option linter.unusedSimpArgs false
def bz.j0:Nat→Int→Int→Int→Int→Int→Bool→Option (Int × Int × Int × Bool)
 | 0,_,_,_,_,_,_=>none
 | k+1,x0,x1,x2,x3,x10,x24=>if x24=true then (some (x3,0,0,true)) else (if x10<(-6) then (some (0,0,0,false)) else ((ar.f k x0 (wrap64 (x3+6))).bind fun t195=>((dN.f k x0 x1).bind fun t196=>((dN.f k x0 x2).bind fun t197=>((bw.f k t197 t195).bind fun t198=>((cy.f k t196 t198 t195).bind fun t199=>((ar.f k x0 (wrap64 (x10+6))).bind fun t200=>((cy.f k t199 t200 t195).bind fun t201=>((dX.f k x0 x3 t201).bind fun bt202=>(some (bt202.1,bt202.2.1,bt202.2.2.1,bt202.2.2.2)))))))))))
def bz.f (k:Nat) (a0 a1 a2 a3:Int):Option (Int × Int × Int × Bool):=(bW.f a3).bind fun t192=>(if t192=true then ((aX.f k a0 a1).bind fun t193=>((aX.f k a0 a2).bind fun t194=>(if a1=0 then (bz.j0 k a0 a1 a2 a3 (wrap64 (t193 - t194)) true) else (bz.j0 k a0 a1 a2 a3 (wrap64 (t193 - t194)) (decide ((wrap64 (t193 - t194))≥a3)))))) else (some (0,0,0,false)))
set_option maxHeartbeats 8000000 in
set_option maxRecDepth 100000 in
theorem bz.calls (k:Nat) (a0 a1 a2 a3 r1 r2 r3:Int) (r4:Bool) (w:World) (h:bz.f k a0 a1 a2 a3=some (r1,r2,r3,r4)) :
  Calls Try.prog 38 #[.int .i64 a0,.int .i64 a1,.int .i64 a2,.int .i64 a3] w fun e w'=>e=.returned (.tuple #[.agg #[.int .i64 r1,.int .i64 r2,.int .i64 r3],.bool r4])∧Below w.heap.size w w':=by
 have hu25:=Try.underlying25
 have HB:=aA.mk (Below.refl w.heap.size w)
 have H:=h
 unfold bz.f at H
 clear h
 replace H:=bS H
 obtain ⟨t192,A5,H⟩:=H
 try dsimp only at H
 by_cases c6:t192=true
 ·
  subst c6
  rw [if_pos rfl] at H
  try dsimp only at H
  replace H:=bS H
  obtain ⟨t193,A7,H⟩:=H
  try dsimp only at H
  replace H:=bS H
  obtain ⟨t194,A8,H⟩:=H
  try dsimp only at H
  have HC9:=aA.mk H
  clear H
  go_enter Try.func38,Try.ntmps38
  go_upto_region 4 with (first|((with_reducible refine aH (N:=8) rfl ?_);refine bxE (cs:=#[.int .i64 0,.int .i64 0,.int .i64 0]) (t:=25) ?_;intro gb191 hg w10 hbox hb;have BK191:=aA.mk hbox;have GW191:=sA hg;have GE191:=sA hg;replace HB:=lB hb;clear hb hbox hg)|((with_reducible refine gd 14 rfl ?_);refine gC (some 14) rfl Try.func75 (bW.calls (w:=_) (h:=A5.out)) ?_;rintro _ ⟨nd,rfl⟩)|((with_reducible refine gd 19 rfl ?_);refine gC (some 19) rfl Try.func54 (aX.calls (w:=_) (h:=A7.out)) ?_;rintro _ ⟨nd,rfl⟩)|((with_reducible refine gd 22 rfl ?_);refine gC (some 22) rfl Try.func54 (aX.calls (w:=_) (h:=A8.out)) ?_;rintro _ ⟨nd,rfl⟩))
  (try simp only [Act.put,List.setIfInBounds_toArray,List.set_cons_zero,List.set_cons_succ])
  go_cut [24] (fun v24 wc=>∃ (kq:Nat) (x24_8:Bool),v24=.bool x24_8∧aA (bz.j0 kq a0 a1 a2 a3 (wrap64 (t193 - t194)) x24_8=some (r1,r2,r3,r4))∧aA (kq≤k)∧aA (wc.heap[gb191]?=some (.cells #[.int .i64 0,.int .i64 0,.int .i64 0] 25 (0,0)))∧aA (Below w.heap.size w wc))
  case first=>
   have H:=HC9.out
   clear HC9
   by_cases c11:a1=0
   ·
    rw [if_pos c11] at H
    have c11b0:(a1 == 0)=true:=beq_iff_eq.mpr c11
    have c11b1:(a1 != 0)=false:=bne_eq_false_iff_eq.mpr c11
    clear c11
    (first|rw [c11b0]|(simp only [cl,co];rw [c11b0])|skip)
    have H':=aA.mk H
    clear H
    go_wp2
    go_meet
    case rel=>exact ⟨_,(true),hB,H',⟨by first|omega|exact Nat.le_refl _⟩,⟨bkA BK191⟩,⟨blA⟩⟩
   ·
    rw [if_neg c11] at H
    have c11b0:(a1 == 0)=false:=beq_eq_false_iff_ne.mpr c11
    have c11b1:(a1 != 0)=true:=bne_iff_ne.mpr c11
    (first|rw [c11b0]|(simp only [cl,co];rw [c11b0])|skip)
    have H':=aA.mk H
    clear H
    go_wp2
    go_meet
    case rel=>exact ⟨_,(decide ((wrap64 (t193 - t194))≥a3)),hB,H',⟨by first|omega|exact Nat.le_refl _⟩,⟨bkA BK191⟩,⟨blA⟩⟩
  case rest=>
   clear HC9
   try clear c6
   try clear c11
   try clear c11b0
   try clear c11b1
   obtain ⟨kq,x24_8,rfl,HA,HJ8,BK191,HB⟩:=hcut
   cases kq with
   | zero=>exact absurd HA.out (by simp [bz.j0])
   | succ kj8=>
    have H:=HA.out
    clear HA
    simp only [bz.j0] at H
    by_cases c12:x24_8=true
    ·
     subst c12
     rw [if_pos rfl] at H
     try dsimp only at H
     simp only [Option.some.injEq,Prod.mk.injEq] at H
     obtain ⟨rfl,rfl,rfl,rfl⟩:=H
     obtain ⟨hcz13_0,hcz13_1,hcz13_2,hfz13_0,hfz13_1,hfz13_2⟩:=cz3 BK191
     go_wp2
     refine bodyPost_ret (bC rfl _ _ gb191 25 #[.int .i64 a3,.int .i64 0,.int .i64 0] (0,0) _ rfl (bpA BK191) Try.underlying25 rfl (by kernel_rfl)) rfl ?_
     exact bU blA
    ·
     replace c12:=Bool.eq_false_iff.mpr c12
     subst c12
     rw [if_neg (show ¬ (false=true) by decide)] at H
     try dsimp only at H
     by_cases c14:(wrap64 (t193 - t194))<(-6)
     ·
      rw [if_pos c14] at H
      have c14b0:=decide_eq_true c14
      clear c14
      simp only [Option.some.injEq,Prod.mk.injEq] at H
      obtain ⟨rfl,rfl,rfl,rfl⟩:=H
      obtain ⟨hcz15_0,hcz15_1,hcz15_2,hfz15_0,hfz15_1,hfz15_2⟩:=cz3 BK191
      go_wp2
      refine bodyPost_ret (bC rfl _ _ gb191 25 #[.int .i64 0,.int .i64 0,.int .i64 0] (0,0) _ rfl (bpA BK191) Try.underlying25 rfl (by kernel_rfl)) rfl ?_
      exact bU blA
     ·
      rw [if_neg c14] at H
      have c14b0:=decide_eq_false c14
      clear c14
      replace H:=bS H
      obtain ⟨t195,A16,H⟩:=H
      try dsimp only at H
      replace H:=bS H
      obtain ⟨t196,A17,H⟩:=H
      try dsimp only at H
      replace H:=bS H
      obtain ⟨t197,A18,H⟩:=H
      try dsimp only at H
      replace H:=bS H
      obtain ⟨t198,A19,H⟩:=H
      try dsimp only at H
      replace H:=bS H
      obtain ⟨t199,A20,H⟩:=H
      try dsimp only at H
      replace H:=bS H
      obtain ⟨t200,A21,H⟩:=H
      try dsimp only at H
      replace H:=bS H
      obtain ⟨t201,A22,H⟩:=H
      try dsimp only at H
      replace H:=bS H
      obtain ⟨⟨t202,t203,t204,t205⟩,A23,H⟩:=H
      try dsimp only at H
      simp only [Option.some.injEq,Prod.mk.injEq] at H
      obtain ⟨rfl,rfl,rfl,rfl⟩:=H
      go_wp2_with (first|((with_reducible refine gd 41 rfl ?_);refine gC (some 41) rfl Try.func76 (ar.calls (w:=_) (h:=A16.out)) ?_;rintro _ ⟨nd,rfl⟩;(try (rw [cB wc];generalize hq_:World.drewN wc _=wc;replace BK191:=aA.mk (by rw [← hq_];exact (bkA BK191));replace HB:=aA.mk (by rw [← hq_];exact blA);clear hq_)))|((with_reducible refine gd 44 rfl ?_);refine gC (some 44) rfl Try.func78 (dN.calls (w:=_) (h:=A17.out)) ?_;rintro _ ⟨nd,rfl⟩;(try (rw [cB wc];generalize hq_:World.drewN wc _=wc;replace BK191:=aA.mk (by rw [← hq_];exact (bkA BK191));replace HB:=aA.mk (by rw [← hq_];exact blA);clear hq_)))|((with_reducible refine gd 47 rfl ?_);refine gC (some 47) rfl Try.func78 (dN.calls (w:=_) (h:=A18.out)) ?_;rintro _ ⟨nd,rfl⟩;(try (rw [cB wc];generalize hq_:World.drewN wc _=wc;replace BK191:=aA.mk (by rw [← hq_];exact (bkA BK191));replace HB:=aA.mk (by rw [← hq_];exact blA);clear hq_)))|((with_reducible refine gd 49 rfl ?_);refine gC (some 49) rfl Try.func79 (bw.calls (w:=_) (h:=A19.out)) ?_;rintro _ ⟨nd,rfl⟩;(try (rw [cB wc];generalize hq_:World.drewN wc _=wc;replace BK191:=aA.mk (by rw [← hq_];exact (bkA BK191));replace HB:=aA.mk (by rw [← hq_];exact blA);clear hq_)))|((with_reducible refine gd 51 rfl ?_);refine gC (some 51) rfl Try.func77 (cy.calls (w:=_) (h:=A20.out)) ?_;rintro _ ⟨nd,rfl⟩;(try (rw [cB wc];generalize hq_:World.drewN wc _=wc;replace BK191:=aA.mk (by rw [← hq_];exact (bkA BK191));replace HB:=aA.mk (by rw [← hq_];exact blA);clear hq_)))|((with_reducible refine gd 58 rfl ?_);refine gC (some 58) rfl Try.func76 (ar.calls (w:=_) (h:=A21.out)) ?_;rintro _ ⟨nd,rfl⟩;(try (rw [cB wc];generalize hq_:World.drewN wc _=wc;replace BK191:=aA.mk (by rw [← hq_];exact (bkA BK191));replace HB:=aA.mk (by rw [← hq_];exact blA);clear hq_)))|((with_reducible refine gd 60 rfl ?_);refine gC (some 60) rfl Try.func77 (cy.calls (w:=_) (h:=A22.out)) ?_;rintro _ ⟨nd,rfl⟩;(try (rw [cB wc];generalize hq_:World.drewN wc _=wc;replace BK191:=aA.mk (by rw [← hq_];exact (bkA BK191));replace HB:=aA.mk (by rw [← hq_];exact blA);clear hq_)))|((with_reducible refine gd 61 rfl ?_);refine gC (some 61) rfl Try.func80 (dX.calls (w:=_) (h:=A23.out)) ?_;intro w24 hb;replace BK191:=kB BK191 hb;replace HB:=lB hb;clear hb;obtain ⟨hcz25_0,hcz25_1,hcz25_2,hfz25_0,hfz25_1,hfz25_2⟩:=cz3 BK191))
      refine bodyPost_ret (bC rfl _ _ gb191 25 #[.int .i64 t202,.int .i64 t203,.int .i64 t204] (0,0) _ rfl (bpA BK191) Try.underlying25 rfl (by kernel_rfl)) rfl ?_
      exact bU blA
 ·
  replace c6:=Bool.eq_false_iff.mpr c6
  subst c6
  rw [if_neg (show ¬ (false=true) by decide)] at H
  try dsimp only at H
  simp only [Option.some.injEq,Prod.mk.injEq] at H
  obtain ⟨rfl,rfl,rfl,rfl⟩:=H
  go_enter Try.func38,Try.ntmps38
  go_wp2_with (first|((with_reducible refine aH (N:=8) rfl ?_);refine bxE (cs:=#[.int .i64 0,.int .i64 0,.int .i64 0]) (t:=25) ?_;intro gb191 hg w26 hbox hb;have BK191:=aA.mk hbox;have GW191:=sA hg;have GE191:=sA hg;replace HB:=lB hb;clear hb hbox hg)|((with_reducible refine gd 14 rfl ?_);refine gC (some 14) rfl Try.func75 (bW.calls (w:=_) (h:=A5.out)) ?_;rintro _ ⟨nd,rfl⟩;(try (rw [cB w26];generalize hq_:World.drewN w26 _=w26;replace BK191:=aA.mk (by rw [← hq_];exact (bkA BK191));replace HB:=aA.mk (by rw [← hq_];exact blA);clear hq_));obtain ⟨hcz27_0,hcz27_1,hcz27_2,hfz27_0,hfz27_1,hfz27_2⟩:=cz3 BK191))
  refine bodyPost_ret (bC rfl _ _ gb191 25 #[.int .i64 0,.int .i64 0,.int .i64 0] (0,0) _ rfl (bpA BK191) Try.underlying25 rfl (by kernel_rfl)) rfl ?_
  exact bU blA
def aI.fin (k:Nat) (p n d g:Int):Option (Int × Int × Int × Int):=(cM.f k p n d g).bind fun b=>if b.2.2.2=true then some (b.1,b.2.1,b.2.2.1,0) else some (0,0,0,3)
def aI.two (k:Nat) (p a0 a1 b0 b1:Int):Option (Int × Int × Int × Int):=(bN.f k p a0 a1 b0 b1).bind fun g=>aI.fin k p a0 a1 g
def aI.three (k:Nat) (p e0 e1 f0 f1 g0 g1:Int):Option (Int × Int × Int × Int):=(bN.f k p f0 f1 e0 e1).bind fun v=>(bN.f k p g0 g1 e0 e1).bind fun x=>(bN.f k p g0 g1 f0 f1).bind fun y=>if v<x then (if x<y then aI.fin k p g0 g1 y else aI.fin k p g0 g1 x) else (if v<y then aI.fin k p g0 g1 y else aI.fin k p f0 f1 v)
def aI.main (k:Nat) (p e0 e1 f0 f1 g0 g1:Int):Option (Int × Int × Int × Int):=if e1=0 then (if f1=0∨g1=0 then none else aI.two k p g0 g1 f0 f1) else if f1=0 then (if g1=0 then none else aI.two k p g0 g1 e0 e1) else if g1=0 then aI.two k p f0 f1 e0 e1 else aI.three k p e0 e1 f0 f1 g0 g1
def aI.f (k:Nat) (p e0 e1 f0 f1 g0 g1:Int):Option (Int × Int × Int × Int):=(ax.f k p [] [⟨e0,e1⟩,⟨f0,f1⟩,⟨g0,g1⟩]).bind fun c=>if c=0 then aI.main k p e0 e1 f0 f1 g0 g1 else some (0,0,0,c)
structure aI.Pa (w0 w:World) (e0 e1 f0 f1 g0 g1:Int) (ge gf gg gr:Nat):Prop where
 e:w.heap[ge]?=some (.cells #[.int .i64 e0,.int .i64 e1] 28 (0,0))
 f:w.heap[gf]?=some (.cells #[.int .i64 f0,.int .i64 f1] 28 (0,0))
 g:w.heap[gg]?=some (.cells #[.int .i64 g0,.int .i64 g1] 28 (0,0))
 r:w.heap[gr]?=some (.cells #[.int .i64 0,.int .i64 0,.int .i64 0] 25 (0,0))
 i:w0.heap.size≤gr
 b:Below w0.heap.size w0 w
theorem aI.Pa.step {w0 w w1:World} {e0 e1 f0 f1 g0 g1:Int} {ge gf gg gr:Nat} (h:aA (aI.Pa w0 w e0 e1 f0 f1 g0 g1 ge gf gg gr)) (hb:Below w.heap.size w w1):aA (aI.Pa w0 w1 e0 e1 f0 f1 g0 g1 ge gf gg gr):=⟨⟨aE h.out.e hb,aE h.out.f hb,aE h.out.g hb,aE h.out.r hb,h.out.i,ai h.out.b hb⟩⟩
theorem aI.Pa.cells {w0 w:World} {e0 e1 f0 f1 g0 g1:Int} {ge gf gg gr:Nat} (h:aA (aI.Pa w0 w e0 e1 f0 f1 g0 g1 ge gf gg gr)):w.cell? ⟨ge,0,none⟩=some (.int .i64 e0)∧w.cell? ⟨ge,1,none⟩=some (.int .i64 e1)∧w.cell? ⟨gf,0,none⟩=some (.int .i64 f0)∧w.cell? ⟨gf,1,none⟩=some (.int .i64 f1)∧w.cell? ⟨gg,0,none⟩=some (.int .i64 g0)∧w.cell? ⟨gg,1,none⟩=some (.int .i64 g1):=⟨aT h.out.e 0,aT h.out.e 1,aT h.out.f 0,aT h.out.f 1,aT h.out.g 0,aT h.out.g 1⟩
theorem aI.res {w:World} {gr:Nat} {a b c:Int} (h:aA (w.heap[gr]?=some (.cells #[.int .i64 a,.int .i64 b,.int .i64 c] 25 (0,0)))):w.cell? ⟨gr,0,none⟩=some (.int .i64 a)∧w.cell? ⟨gr,1,none⟩=some (.int .i64 b)∧w.cell? ⟨gr,2,none⟩=some (.int .i64 c)∧w.frozen? ⟨gr,0,none⟩=false∧w.frozen? ⟨gr,1,none⟩=false∧w.frozen? ⟨gr,2,none⟩=false:=⟨aT h.out 0,aT h.out 1,aT h.out 2,aQ h.out 0,aQ h.out 1,aQ h.out 2⟩
theorem aI.nm {A B:World→Prop} {W:World} (h:A W) (k:∀ w',A w'→B w'):B W:=k W h
theorem aI.lt {w:World} {g g':Nat} {o:Obj} (h:w.heap[g]?=some o) (hg:g'=w.heap.size):g<g':=by rw [hg];exact (Array.getElem?_eq_some_iff.mp h).1
structure aI.Pb (w0 w:World) (x0 x1 x2 x3 x4 x5 bn bd:Int) (gr gl gb:Nat):Prop where
 r:w.heap[gr]?=some (.cells #[.int .i64 0,.int .i64 0,.int .i64 0] 25 (0,0))
 l:w.heap[gl]?=some (.cells #[.int .i64 x0,.int .i64 x1,.int .i64 x2,.int .i64 x3,.int .i64 x4,.int .i64 x5] 57 (0,0))
 d:w.heap[gb]?=some (.cells #[.int .i64 bn,.int .i64 bd] 28 (0,0))
 i:w0.heap.size≤gr
 rl:gr<gl
 lb:gl<gb
 b:Below w0.heap.size w0 w
theorem aI.Pb.step {w0 w w1:World} {x0 x1 x2 x3 x4 x5 bn bd:Int} {gr gl gb:Nat} (h:aA (aI.Pb w0 w x0 x1 x2 x3 x4 x5 bn bd gr gl gb)) (hb:Below w.heap.size w w1):aA (aI.Pb w0 w1 x0 x1 x2 x3 x4 x5 bn bd gr gl gb):=⟨⟨aE h.out.r hb,aE h.out.l hb,aE h.out.d hb,h.out.i,h.out.rl,h.out.lb,ai h.out.b hb⟩⟩
def aI.Sz (w0:World) (x0 x1 x2 x3 x4 x5 bn bd a b c:Int) (gr gl gb gz:Nat) (W:World):Prop:=aA (aI.Pb w0 W x0 x1 x2 x3 x4 x5 bn bd gr gl gb)∧aA (W.heap[gz]?=some (.cells #[.int .i64 a,.int .i64 b,.int .i64 c] 25 (0,0)))
theorem aI.pz {w0 w:World} {x0 x1 x2 x3 x4 x5 bn bd:Int} {gr gl gb gz:Nat} (a b c:Int) (h:aA (aI.Pb w0 w x0 x1 x2 x3 x4 x5 bn bd gr gl gb)) (hz:aA (w.heap[gz]?=some (.cells #[.int .i64 0,.int .i64 0,.int .i64 0] 25 (0,0)))) (hg:aA (w0.heap.size≤gz)) (hl:aA (gb<gz)):aI.Sz w0 x0 x1 x2 x3 x4 x5 bn bd a b c gr gl gb gz (((w.setCell ⟨gz,0,none⟩ (.int .i64 a)).setCell ⟨gz,1,none⟩ (.int .i64 b)).setCell ⟨gz,2,none⟩ (.int .i64 c)):=by
 have h1:=h.out.i
 have h2:=h.out.rl
 have h3:=h.out.lb
 have h4:=hl.out
 have n1:gr≠gz:=by omega
 have n2:gl≠gz:=by omega
 have n3:gb≠gz:=by omega
 exact ⟨⟨⟨aq (aq (aq h.out.r n1 _) n1 _) n1 _,aq (aq (aq h.out.l n2 _) n2 _) n2 _,aq (aq (aq h.out.d n3 _) n3 _) n3 _,h1,h2,h3,al (al (al h.out.b hg.out) hg.out) hg.out⟩⟩,⟨bE (bE (bE hz.out 0 _ rfl) 1 _ rfl) 2 _ rfl⟩⟩
theorem aI.Pb.drew {w0 w:World} {x0 x1 x2 x3 x4 x5 bn bd:Int} {gr gl gb:Nat} (h:aA (aI.Pb w0 w x0 x1 x2 x3 x4 x5 bn bd gr gl gb)):aA (aI.Pb w0 w.drew x0 x1 x2 x3 x4 x5 bn bd gr gl gb):=aI.Pb.step h (eS (Below.refl _ _))
theorem aI.Pb.cells {w0 w:World} {x0 x1 x2 x3 x4 x5 bn bd:Int} {gr gl gb:Nat} (h:aA (aI.Pb w0 w x0 x1 x2 x3 x4 x5 bn bd gr gl gb)):w.cell? ⟨gl,0,none⟩=some (.int .i64 x0)∧w.cell? ⟨gl,1,none⟩=some (.int .i64 x1)∧w.cell? ⟨gl,2,none⟩=some (.int .i64 x2)∧w.cell? ⟨gl,3,none⟩=some (.int .i64 x3)∧w.cell? ⟨gl,4,none⟩=some (.int .i64 x4)∧w.cell? ⟨gl,5,none⟩=some (.int .i64 x5)∧w.cell? ⟨gb,0,none⟩=some (.int .i64 bn)∧w.cell? ⟨gb,1,none⟩=some (.int .i64 bd)∧w.frozen? ⟨gb,0,none⟩=false∧w.frozen? ⟨gb,1,none⟩=false:=⟨aT h.out.l 0,aT h.out.l 1,aT h.out.l 2,aT h.out.l 3,aT h.out.l 4,aT h.out.l 5,aT h.out.d 0,aT h.out.d 1,aQ h.out.d 0,aQ h.out.d 1⟩
theorem aI.Pb.put {w0 w:World} {x0 x1 x2 x3 x4 x5 bn bd a b:Int} {gr gl gb:Nat} (h:aA (aI.Pb w0 w x0 x1 x2 x3 x4 x5 bn bd gr gl gb)):aA (aI.Pb w0 ((w.setCell ⟨gb,0,none⟩ (.int .i64 a)).setCell ⟨gb,1,none⟩ (.int .i64 b)) x0 x1 x2 x3 x4 x5 a b gr gl gb):=by
 have h1:=h.out.i
 have h2:=h.out.rl
 have h3:=h.out.lb
 have n1:gr≠gb:=by omega
 have n2:gl≠gb:=by omega
 have n3:w0.heap.size≤gb:=by omega
 exact ⟨⟨aq (aq h.out.r n1 _) n1 _,aq (aq h.out.l n2 _) n2 _,bE (bE h.out.d 0 _ rfl) 1 _ rfl,h1,h2,h3,al (al h.out.b n3) n3⟩⟩
theorem aI.pb0 {w0 w:World} {e0 e1 f0 f1 g0 g1:Int} {gr gl gb:Nat} (hr:w.heap[gr]?=some (.cells #[.int .i64 0,.int .i64 0,.int .i64 0] 25 (0,0))) (hl:w.heap[gl]?=some (.cells #[.int .i64 0,.int .i64 0,.int .i64 0,.int .i64 0,.int .i64 0,.int .i64 0] 57 (0,0))) (hd:w.heap[gb]?=some (.cells #[.int .i64 0,.int .i64 0] 28 (0,0))) (h1:w0.heap.size≤gr) (h2:gr<gl) (h3:gl<gb) (hB:Below w0.heap.size w0 w) :
  aA (aI.Pb w0 ((((((((w.setCell ⟨gl,0,none⟩ (.int .i64 e0)).setCell ⟨gl,1,none⟩ (.int .i64 e1)).setCell ⟨gl,2,none⟩ (.int .i64 f0)).setCell ⟨gl,3,none⟩ (.int .i64 f1)).setCell ⟨gl,4,none⟩ (.int .i64 g0)).setCell ⟨gl,5,none⟩ (.int .i64 g1)).setCell ⟨gb,0,none⟩ (.int .i64 0)).setCell ⟨gb,1,none⟩ (.int .i64 0)) e0 e1 f0 f1 g0 g1 0 0 gr gl gb):=by
 have ha:∀ {W:World} {cs:Array Value} {t:TypeId} {x:Value} {j g g':Nat},W.heap[g]?=some (.cells cs t (0,0))→g≠g'→(W.setCell ⟨g',j,none⟩ x).heap[g]?=some (.cells cs t (0,0)):=fun {W cs t x j g g'} h hn=>aq (p:=⟨g',j,none⟩) h hn _
 have hs:∀ {W:World} {x:Value} {j g:Nat},w0.heap.size≤g→Below w0.heap.size w0 W→Below w0.heap.size w0 (W.setCell ⟨g,j,none⟩ x):=fun h hb=>al hb h
 refine ⟨⟨?_,?_,?_,h1,h2,h3,?_⟩⟩
 ·
  exact ha (ha (ha (ha (ha (ha (ha (ha hr (by omega)) (by omega)) (by omega)) (by omega)) (by omega)) (by omega)) (by omega)) (by omega)
 ·
  exact ha (ha (bE (bE (bE (bE (bE (bE hl 0 _ rfl) 1 _ rfl) 2 _ rfl) 3 _ rfl) 4 _ rfl) 5 _ rfl) (by omega)) (by omega)
 ·
  exact bE (bE (ha (ha (ha (ha (ha (ha hd (by omega)) (by omega)) (by omega)) (by omega)) (by omega)) (by omega)) 0 _ rfl) 1 _ rfl
 ·
  exact hs (by omega) (hs (by omega) (hs (by omega) (hs (by omega) (hs (by omega) (hs (by omega) (hs (by omega) (hs (by omega) hB)))))))
theorem aI.six {w:World} {g:Nat} (h:aA (w.heap[g]?=some (.cells #[.int .i64 0,.int .i64 0,.int .i64 0,.int .i64 0,.int .i64 0,.int .i64 0] 57 (0,0)))):(w.cell? ⟨g,0,none⟩=some (.int .i64 0)∧w.frozen? ⟨g,0,none⟩=false)∧(w.cell? ⟨g,1,none⟩=some (.int .i64 0)∧w.frozen? ⟨g,1,none⟩=false)∧(w.cell? ⟨g,2,none⟩=some (.int .i64 0)∧w.frozen? ⟨g,2,none⟩=false)∧(w.cell? ⟨g,3,none⟩=some (.int .i64 0)∧w.frozen? ⟨g,3,none⟩=false)∧(w.cell? ⟨g,4,none⟩=some (.int .i64 0)∧w.frozen? ⟨g,4,none⟩=false)∧(w.cell? ⟨g,5,none⟩=some (.int .i64 0)∧w.frozen? ⟨g,5,none⟩=false):=⟨⟨aT h.out 0,aQ h.out 0⟩,⟨aT h.out 1,aQ h.out 1⟩,⟨aT h.out 2,aQ h.out 2⟩,⟨aT h.out 3,aQ h.out 3⟩,⟨aT h.out 4,aQ h.out 4⟩,⟨aT h.out 5,aQ h.out 5⟩⟩
theorem aI.two' {w:World} {g:Nat} {a b:Int} (h:aA (w.heap[g]?=some (.cells #[.int .i64 a,.int .i64 b] 28 (0,0)))):w.cell? ⟨g,0,none⟩=some (.int .i64 a)∧w.cell? ⟨g,1,none⟩=some (.int .i64 b)∧w.frozen? ⟨g,0,none⟩=false∧w.frozen? ⟨g,1,none⟩=false:=⟨aT h.out 0,aT h.out 1,aQ h.out 0,aQ h.out 1⟩
set_option maxHeartbeats 8000000 in
set_option maxRecDepth 100000 in
theorem aI.calls (k:Nat) (p e0 e1 f0 f1 g0 g1 r1 r2 r3 r4:Int) (w:World) (h:aI.f k p e0 e1 f0 f1 g0 g1=some (r1,r2,r3,r4)) :
  Calls Try.prog 5 #[.int .i64 p,.agg #[.int .i64 e0,.int .i64 e1],.agg #[.int .i64 f0,.int .i64 f1],.agg #[.int .i64 g0,.int .i64 g1]] w fun e w'=>e=.returned (.tuple #[.agg #[.int .i64 r1,.int .i64 r2,.int .i64 r3],.int .i64 r4])∧Below w.heap.size w w':=by
 unfold aI.f at h
 obtain ⟨y,hy⟩:∃ y_:List S28,y_=[(⟨e0,e1⟩:S28),(⟨f0,f1⟩:S28),(⟨g0,g1⟩:S28)]:=⟨_,rfl⟩
 rw [← hy] at h
 replace hy:=aA.mk hy
 replace h:=Option.bind_eq_some_iff.mp h
 obtain ⟨c,A1,h⟩:=h
 replace A1:=aA.mk A1
 replace h:=aA.mk h
 have HB:=aA.mk (Below.refl w.heap.size w)
 go_enter Try.func5,Try.ntmps5
 go_upto_region 1 with (first|((with_reducible refine aH (N:=5) rfl ?_);refine bxE (cs:=#[.int .i64 e0,.int .i64 e1]) (t:=28) ?_;intro ge hg w5 hbox hb;have QE:=aA.mk hbox;have m9:=aA.mk (ai HB.out hb);clear HB;have HB:=m9;clear m9 hb hg hbox)|((with_reducible refine aH (N:=6) rfl ?_);refine bxE (cs:=#[.int .i64 f0,.int .i64 f1]) (t:=28) ?_;intro gf hg w6 hbox hb;have m1:=aA.mk (aE QE.out hb);clear QE;have QE:=m1;clear m1;have QF:=aA.mk hbox;have m9:=aA.mk (ai HB.out hb);clear HB;have HB:=m9;clear m9 hb hg hbox)|((with_reducible refine aH (N:=7) rfl ?_);refine bxE (cs:=#[.int .i64 g0,.int .i64 g1]) (t:=28) ?_;intro gg hg w7 hbox hb;have m1:=aA.mk (aE QE.out hb);have m2:=aA.mk (aE QF.out hb);clear QE QF;have QE:=m1;have QF:=m2;clear m1 m2;have QG:=aA.mk hbox;have m9:=aA.mk (ai HB.out hb);clear HB;have HB:=m9;clear m9 hb hg hbox)|((with_reducible refine aH (N:=8) rfl ?_);refine bxE (cs:=#[.int .i64 0,.int .i64 0,.int .i64 0]) (t:=25) ?_;intro gr hg w8 hbox hb;have PA:aA (aI.Pa w w8 e0 e1 f0 f1 g0 g1 ge gf gg gr):=⟨⟨aE QE.out hb,aE QF.out hb,aE QG.out hb,hbox,by rw [hg];exact ak HB.out,ai HB.out hb⟩⟩;clear QE QF QG HB hb hg hbox))
 (try simp only [Act.put,List.setIfInBounds_toArray,List.set_cons_zero,List.set_cons_succ])
 obtain ⟨c1,c2,c3,c4,c5,c6⟩:=aI.Pa.cells PA
 by_cases z:c=0
 case neg=>
  replace h:=h.out
  rw [if_neg z] at h
  simp only [Option.some.injEq,Prod.mk.injEq] at h
  obtain ⟨rfl,rfl,rfl,rfl⟩:=h
  have zb:(c != 0)=true:=by simpa using z
  have zc:(c == 0)=false:=by simpa using z
  clear z
  go_wp2_with (first|((with_reducible refine aH (N:=24) rfl ?_);(try (refine cS (by rfl) ?_;dsimp only));refine Kd.R_lit k28 _ 28 ?hg (N:=24) ?hd (xs:=([(⟨e0,e1⟩:S28),(⟨f0,f1⟩:S28),(⟨g0,g1⟩:S28)]:List (S28))) (inner:=[.int .i64 e0,.int .i64 e1,.int .i64 f0,.int .i64 f1,.int .i64 g0,.int .i64 g1]) (ok:=fun _=>True) (okp:=fun _=>True) ?hr ?hp (fun _ hk=>hk) trivial (Below.refl _ _) (Nat.le_refl _) (by simp) ?_;(case hd=>rfl);(case hg=>rfl);(case hr=>first|(go_simp;done)|(go_simp;rfl));(case hp=>exact (aY.c2 (show Kd.M k28 _ _ _ (⟨e0,e1⟩:S28) [.int .i64 e0,.int .i64 e1] from (aw _ _ _ (⟨e0,e1⟩:S28))) (aY.c2 (show Kd.M k28 _ _ _ (⟨f0,f1⟩:S28) [.int .i64 f0,.int .i64 f1] from (aw _ _ _ (⟨f0,f1⟩:S28))) (aY.c2 (show Kd.M k28 _ _ _ (⟨g0,g1⟩:S28) [.int .i64 g0,.int .i64 g1] from (aw _ _ _ (⟨g0,g1⟩:S28))) (aY.none _ _)))));intro vL wL hoL hb hg_ hnew_;clear hg_ hnew_;rw [← hy.out] at hoL;have HL:=aA.mk hoL;clear hoL;have m1:=aI.Pa.step PA hb;clear PA c1 c2 c3 c4 c5 c6 hb;have PA:=m1;clear m1;obtain ⟨c1,c2,c3,c4,c5,c6⟩:=aI.Pa.cells PA;obtain ⟨AL,kL,eL⟩:=Kd.R_slice HL.out;subst eL)|((with_reducible refine bK (f:=28) rfl ?_);refine gL (some 25) rfl Try.func28 #[.int .i64 p,.slice none 0 0,.slice AL y.length kL] ?_;(refine (ax.calls k p _ _ ([]:List S25) _ _ y _ _ ?side0 ?sideZ ?side1 ?side2 A1.out).mono ?_);(case side0=>exact Kd.C_nil _ _);(case sideZ=>exact Nat.le_refl _);(case side1=>exact cR (Kd.R_reads' HL.out).2.2);(case side2=>exact (Kd.R_reads' HL.out).2.1);rintro e w9 ⟨rfl,hb⟩;refine ⟨_,rfl,?_⟩;have m1:=aI.Pa.step PA hb;clear PA c1 c2 c3 c4 c5 c6 hb;have PA:=m1;clear m1;obtain ⟨c1,c2,c3,c4,c5,c6⟩:=aI.Pa.cells PA;clear HL;obtain ⟨q1,q2,q3,q4,q5,q6⟩:=aI.res (aA.mk PA.out.r)))
  refine bodyPost_ret (bC rfl _ _ gr 25 #[.int .i64 0,.int .i64 0,.int .i64 0] (0,0) _ rfl (by refine dr ?_;refine bE (cs:=#[.int .i64 0,.int .i64 0,.int .i64 0]) ?_ 2 _ rfl;refine dr ?_;refine bE (cs:=#[.int .i64 0,.int .i64 0,.int .i64 0]) ?_ 1 _ rfl;refine dr ?_;refine bE (cs:=#[.int .i64 0,.int .i64 0,.int .i64 0]) ?_ 0 _ rfl;(with_reducible repeat (first|refine cU ?_ _|refine aK ?_|refine cV ?_ _));exact PA.out.r) Try.underlying25 rfl (by kernel_rfl)) rfl ?_
  exact ⟨rfl,by repeat (first|(with_reducible first|exact PA.out.b|apply ay|apply a6|apply aV)|exact PA.out.b|refine al ?_ PA.out.i)⟩
 case pos=>
 subst z
 replace h:=h.out
 rw [if_pos rfl] at h
 replace h:=aA.mk h
 go_wp2_with (first|((with_reducible refine aH (N:=24) rfl ?_);(try (refine cS (by rfl) ?_;dsimp only));refine Kd.R_lit k28 _ 28 ?hg (N:=24) ?hd (xs:=([(⟨e0,e1⟩:S28),(⟨f0,f1⟩:S28),(⟨g0,g1⟩:S28)]:List (S28))) (inner:=[.int .i64 e0,.int .i64 e1,.int .i64 f0,.int .i64 f1,.int .i64 g0,.int .i64 g1]) (ok:=fun _=>True) (okp:=fun _=>True) ?hr ?hp (fun _ hk=>hk) trivial (Below.refl _ _) (Nat.le_refl _) (by simp) ?_;(case hd=>rfl);(case hg=>rfl);(case hr=>first|(go_simp;done)|(go_simp;rfl));(case hp=>exact (aY.c2 (show Kd.M k28 _ _ _ (⟨e0,e1⟩:S28) [.int .i64 e0,.int .i64 e1] from (aw _ _ _ (⟨e0,e1⟩:S28))) (aY.c2 (show Kd.M k28 _ _ _ (⟨f0,f1⟩:S28) [.int .i64 f0,.int .i64 f1] from (aw _ _ _ (⟨f0,f1⟩:S28))) (aY.c2 (show Kd.M k28 _ _ _ (⟨g0,g1⟩:S28) [.int .i64 g0,.int .i64 g1] from (aw _ _ _ (⟨g0,g1⟩:S28))) (aY.none _ _)))));intro vL wL hoL hb hg_ hnew_;clear hg_ hnew_;rw [← hy.out] at hoL;have HL:=aA.mk hoL;clear hoL;have m1:=aI.Pa.step PA hb;clear PA c1 c2 c3 c4 c5 c6 hb;have PA:=m1;clear m1;obtain ⟨c1,c2,c3,c4,c5,c6⟩:=aI.Pa.cells PA;obtain ⟨AL,kL,eL⟩:=Kd.R_slice HL.out;subst eL)|((with_reducible refine bK (f:=28) rfl ?_);refine gL (some 25) rfl Try.func28 #[.int .i64 p,.slice none 0 0,.slice AL y.length kL] ?_;(refine (ax.calls k p _ _ ([]:List S25) _ _ y _ _ ?side0 ?sideZ ?side1 ?side2 A1.out).mono ?_);(case side0=>exact Kd.C_nil _ _);(case sideZ=>exact Nat.le_refl _);(case side1=>exact cR (Kd.R_reads' HL.out).2.2);(case side2=>exact (Kd.R_reads' HL.out).2.1);rintro e w9 ⟨rfl,hb⟩;refine ⟨_,rfl,?_⟩;have m1:=aI.Pa.step PA hb;clear PA c1 c2 c3 c4 c5 c6 hb;have PA:=m1;clear m1;obtain ⟨c1,c2,c3,c4,c5,c6⟩:=aI.Pa.cells PA;clear HL)|((with_reducible refine aH (N:=11) rfl ?_);refine bxE (cs:=#[.int .i64 0,.int .i64 0,.int .i64 0,.int .i64 0,.int .i64 0,.int .i64 0]) (t:=57) ?_;intro gl hg w11 hbox hb;have nrl:gr<gl:=aI.lt PA.out.r hg;have QL:=aA.mk hbox;have m1:=aI.Pa.step PA hb;clear PA c1 c2 c3 c4 c5 c6 hb;have PA:=m1;clear m1;obtain ⟨c1,c2,c3,c4,c5,c6⟩:=aI.Pa.cells PA;have d1:=(aT QL.out 0).trans rfl;clear d1 hg hbox)|((with_reducible refine aH (N:=12) rfl ?_);refine bxE (cs:=#[.int .i64 0,.int .i64 0]) (t:=28) ?_;intro gb hg w12 hbox hb;have nlb:gl<gb:=aI.lt QL.out hg;have m2:=aA.mk (aE QL.out hb);clear QL;have QL:=m2;clear m2;have QB:=aA.mk hbox;have m1:=aI.Pa.step PA hb;clear PA c1 c2 c3 c4 c5 c6 hb;have PA:=m1;clear m1;obtain ⟨c1,c2,c3,c4,c5,c6⟩:=aI.Pa.cells PA;clear hg hbox;obtain ⟨⟨l0,u0⟩,⟨l1,u1⟩,⟨l2,u2⟩,⟨l3,u3⟩,⟨l4,u4⟩,⟨l5,u5⟩⟩:=aI.six QL;obtain ⟨b0,b1,b2,b3⟩:=aI.two' QB))
 refine aI.nm (A:=fun W=>aA (aI.Pb w W e0 e1 f0 f1 g0 g1 0 0 gr gl gb)) (B:=fun w'=>Code.wp _ _ _ _ w') (aI.pb0 (w0:=w) PA.out.r QL.out QB.out PA.out.i nrl nlb PA.out.b) ?_
 clear PA c1 c2 c3 c4 c5 c6 QL QB nrl nlb l0 l1 l2 l3 l4 l5 u0 u1 u2 u3 u4 u5 b0 b1 b2 b3
 intro w13 PB
 obtain ⟨d1,d2,d3,d4,d5,d6,d7,d8,d9,d10⟩:=aI.Pb.cells PB
 replace h:=h.out
 unfold aI.main at h
 by_cases ze1:e1=0 <;> by_cases zf1:f1=0 <;> by_cases zg1:g1=0
 all_goals try (exfalso;simp only [aI.main,ze1,zf1,zg1,if_true,if_false,or_true,true_or,or_false,or_self,reduceCtorEq] at h;done)
 all_goals simp only [aI.main,ze1,zf1,zg1,if_true,if_false,or_true,true_or,or_false,or_self,reduceCtorEq] at h
 all_goals first|have e1z:(e1 == 0)=true:=beq_iff_eq.mpr ze1|have e1z:(e1 == 0)=false:=beq_eq_false_iff_ne.mpr ze1
 all_goals first|have f1z:(f1 == 0)=true:=beq_iff_eq.mpr zf1|have f1z:(f1 == 0)=false:=beq_eq_false_iff_ne.mpr zf1
 all_goals first|have g1z:(g1 == 0)=true:=beq_iff_eq.mpr zg1|have g1z:(g1 == 0)=false:=beq_eq_false_iff_ne.mpr zg1
 all_goals clear ze1 zf1 zg1
 all_goals first|unfold aI.two at h|unfold aI.three at h
 all_goals replace h:=Option.bind_eq_some_iff.mp h
 all_goals obtain ⟨v,A2,h⟩:=h
 all_goals replace A2:=aA.mk A2
 all_goals first|(replace h:=Option.bind_eq_some_iff.mp h;obtain ⟨x,A3,h⟩:=h;replace h:=Option.bind_eq_some_iff.mp h;obtain ⟨y2,A4,h⟩:=h;replace A3:=aA.mk A3;replace A4:=aA.mk A4;by_cases c1:v<x <;> by_cases c2:x<y2 <;> by_cases c3:v<y2)|skip
 all_goals try (first|have k1:decide (v<x)=true:=decide_eq_true c1|have k1:decide (v<x)=false:=decide_eq_false c1)
 all_goals try (first|have k2:decide (x<y2)=true:=decide_eq_true c2|have k2:decide (x<y2)=false:=decide_eq_false c2)
 all_goals try (first|have k3:decide (v<y2)=true:=decide_eq_true c3|have k3:decide (v<y2)=false:=decide_eq_false c3)
 all_goals try rw [if_pos c1] at h
 all_goals try rw [if_neg c1] at h
 all_goals try rw [if_pos c2] at h
 all_goals try rw [if_neg c2] at h
 all_goals try rw [if_pos c3] at h
 all_goals try rw [if_neg c3] at h
 all_goals try clear c1 c2 c3
 all_goals replace h:=aA.mk h
 all_goals
  refine wp_loop_rounds 4 ?_
  rw [rounds_succ];go_wp2
  refine wp_loop_rounds 4 ?_
  rw [rounds_succ];go_wp2
  rw [rounds_succ];go_wp2
  refine wp_loop_rounds 4 ?_
  rw [rounds_succ]
  go_wp2
  try ((refine wp_region_still_tail 7 (by kernel_rfl) (by kernel_rfl) ?_);change wpStill _ _ w13.drew (fun a'=>wpList _ _ _ _ a' w13.drew) _ _;simp only [List.take_succ_cons,List.take_zero,List.drop_succ_cons,List.drop_zero];(repeat still_step);(refine wpStill_nil ?_);go_wp2_with (go_at_call 29;(with_reducible refine (bN.calls k p _ _ _ _ _ _ (aA.out (by with_reducible assumption))).mono ?_);rintro e w9 ⟨rfl,hb⟩;have m1:=aI.Pb.step (aI.Pb.drew PB) hb;clear PB d1 d2 d3 d4 d5 d6 d7 d8 d9 d10 hb;have PB:=m1;clear m1;obtain ⟨d1,d2,d3,d4,d5,d6,d7,d8,d9,d10⟩:=aI.Pb.cells PB))
  (first|refine aI.nm (A:=fun W=>aA (aI.Pb w W e0 e1 f0 f1 g0 g1 _ _ gr gl gb)) (B:=fun w'=>Code.rounds _ _ _ _ _ w') (aI.Pb.put PB) ?_|refine aI.nm (A:=fun W=>aA (aI.Pb w W e0 e1 f0 f1 g0 g1 _ _ gr gl gb)) (B:=fun w'=>Code.rounds _ _ _ _ _ w') PB ?_)
  clear PB d1 d2 d3 d4 d5 d6 d7 d8 d9 d10
  intro w13 PB
  obtain ⟨d1,d2,d3,d4,d5,d6,d7,d8,d9,d10⟩:=aI.Pb.cells PB
  rw [rounds_succ];go_wp2
  rw [rounds_succ];go_wp2
  refine wp_loop_rounds 4 ?_
  rw [rounds_succ]
  go_wp2
  try ((refine wp_region_still_tail 7 (by kernel_rfl) (by kernel_rfl) ?_);change wpStill _ _ w13.drew (fun a'=>wpList _ _ _ _ a' w13.drew) _ _;simp only [List.take_succ_cons,List.take_zero,List.drop_succ_cons,List.drop_zero];(repeat still_step);(refine wpStill_nil ?_);go_wp2_with (go_at_call 29;(with_reducible refine (bN.calls k p _ _ _ _ _ _ (aA.out (by with_reducible assumption))).mono ?_);rintro e w9 ⟨rfl,hb⟩;have m1:=aI.Pb.step (aI.Pb.drew PB) hb;clear PB d1 d2 d3 d4 d5 d6 d7 d8 d9 d10 hb;have PB:=m1;clear m1;obtain ⟨d1,d2,d3,d4,d5,d6,d7,d8,d9,d10⟩:=aI.Pb.cells PB))
  (first|refine aI.nm (A:=fun W=>aA (aI.Pb w W e0 e1 f0 f1 g0 g1 _ _ gr gl gb)) (B:=fun w'=>Code.rounds _ _ _ _ _ w') (aI.Pb.put PB) ?_|refine aI.nm (A:=fun W=>aA (aI.Pb w W e0 e1 f0 f1 g0 g1 _ _ gr gl gb)) (B:=fun w'=>Code.rounds _ _ _ _ _ w') PB ?_)
  clear PB d1 d2 d3 d4 d5 d6 d7 d8 d9 d10
  intro w13 PB
  obtain ⟨d1,d2,d3,d4,d5,d6,d7,d8,d9,d10⟩:=aI.Pb.cells PB
  rw [rounds_succ]
  go_wp2
  try ((refine wp_region_still_tail 7 (by kernel_rfl) (by kernel_rfl) ?_);change wpStill _ _ w13.drew (fun a'=>wpList _ _ _ _ a' w13.drew) _ _;simp only [List.take_succ_cons,List.take_zero,List.drop_succ_cons,List.drop_zero];(repeat still_step);(refine wpStill_nil ?_);go_wp2_with (go_at_call 29;(with_reducible refine (bN.calls k p _ _ _ _ _ _ (aA.out (by with_reducible assumption))).mono ?_);rintro e w9 ⟨rfl,hb⟩;have m1:=aI.Pb.step (aI.Pb.drew PB) hb;clear PB d1 d2 d3 d4 d5 d6 d7 d8 d9 d10 hb;have PB:=m1;clear m1;obtain ⟨d1,d2,d3,d4,d5,d6,d7,d8,d9,d10⟩:=aI.Pb.cells PB))
  (first|refine aI.nm (A:=fun W=>aA (aI.Pb w W e0 e1 f0 f1 g0 g1 _ _ gr gl gb)) (B:=fun w'=>Code.rounds _ _ _ _ _ w') (aI.Pb.put PB) ?_|refine aI.nm (A:=fun W=>aA (aI.Pb w W e0 e1 f0 f1 g0 g1 _ _ gr gl gb)) (B:=fun w'=>Code.rounds _ _ _ _ _ w') PB ?_)
  clear PB d1 d2 d3 d4 d5 d6 d7 d8 d9 d10
  intro w13 PB
  obtain ⟨d1,d2,d3,d4,d5,d6,d7,d8,d9,d10⟩:=aI.Pb.cells PB
  rw [rounds_succ];go_wp2
  replace h:=h.out
  unfold aI.fin at h
  replace h:=Option.bind_eq_some_iff.mp h
  obtain ⟨⟨n0,n1,n2,ok⟩,A9,h⟩:=h
  replace A9:=aA.mk A9
  cases ok
  all_goals
   first|rw [if_pos rfl] at h|rw [if_neg (show ¬ (false=true) from Bool.false_ne_true)] at h
   simp only [Option.some.injEq,Prod.mk.injEq] at h
   obtain ⟨rfl,rfl,rfl,rfl⟩:=h
   rw [rounds_succ]
   go_upto_region 18 with (first|(go_at_call 30;(with_reducible refine (cM.calls k p _ _ _ _ _ _ _ _ A9.out).mono ?_);rintro e w15 ⟨rfl,hb⟩;have m1:=aI.Pb.step PB hb;clear PB d1 d2 d3 d4 d5 d6 d7 d8 d9 d10 hb;have PB:=m1;clear m1;obtain ⟨d1,d2,d3,d4,d5,d6,d7,d8,d9,d10⟩:=aI.Pb.cells PB)|((with_reducible refine aH (N:=18) rfl ?_);refine bxE (cs:=#[.int .i64 0,.int .i64 0,.int .i64 0]) (t:=25) ?_;intro gz hg w16 hbox hb;have nrz:gr<gz:=aI.lt PB.out.r hg;have nbz:gb<gz:=aI.lt PB.out.d hg;have m1:=aI.Pb.step PB hb;clear PB d1 d2 d3 d4 d5 d6 d7 d8 d9 d10 hb;have PB:=m1;have GZ:aA (w.heap.size≤gz):=⟨Nat.le_of_lt (Nat.lt_of_le_of_lt PB.out.i nrz)⟩;have NZ:aA (gr≠gz):=⟨Nat.ne_of_lt nrz⟩;have QZ:=aA.mk hbox;obtain ⟨q7,q8,q9,q10,q11,q12⟩:=aI.res QZ;clear m1 hg hbox))
   refine aI.nm (B:=fun w'=>Code.wp _ _ _ _ w') (aI.pz n0 n1 n2 PB QZ GZ (aA.mk nbz)) ?_
   clear PB QZ q7 q8 q9 q10 q11 q12
   intro w17 hst
   obtain ⟨PB,QZ⟩:=hst
   have QR:=aA.mk PB.out.r
   obtain ⟨q1,q2,q3,q4,q5,q6⟩:=aI.res QR
   obtain ⟨q7,q8,q9,q10,q11,q12⟩:=aI.res QZ
   clear q10 q11 q12
   repeat (first|go_values|go_skip|go_guarded|go_step|go_upon)
   first|(refine bodyPost_ret (bC rfl _ _ gr 25 #[.int .i64 0,.int .i64 0,.int .i64 0] (0,0) _ rfl (by refine dr ?_;refine bE (cs:=#[.int .i64 0,.int .i64 0,.int .i64 0]) ?_ 2 _ rfl;refine dr ?_;refine bE (cs:=#[.int .i64 0,.int .i64 0,.int .i64 0]) ?_ 1 _ rfl;refine dr ?_;refine bE (cs:=#[.int .i64 0,.int .i64 0,.int .i64 0]) ?_ 0 _ rfl;(with_reducible repeat (first|refine cU ?_ _|refine aK ?_|refine cV ?_ _));repeat (first|(with_reducible exact QR.out)|refine aq ?_ NZ.out _)) Try.underlying25 rfl (by kernel_rfl)) rfl ?_)|(refine bodyPost_ret (bC rfl _ _ gr 25 #[.int .i64 n0,.int .i64 n1,.int .i64 n2] (0,0) _ rfl (by refine dr ?_;refine bE (cs:=#[.int .i64 n0,.int .i64 n1,.int .i64 0]) ?_ 2 _ rfl;refine dr ?_;refine bE (cs:=#[.int .i64 n0,.int .i64 0,.int .i64 0]) ?_ 1 _ rfl;refine dr ?_;refine bE (cs:=#[.int .i64 0,.int .i64 0,.int .i64 0]) ?_ 0 _ rfl;(with_reducible repeat (first|refine cU ?_ _|refine aK ?_|refine cV ?_ _));repeat (first|(with_reducible exact QR.out)|refine aq ?_ NZ.out _)) Try.underlying25 rfl (by kernel_rfl)) rfl ?_)
   exact ⟨rfl,by repeat (first|(with_reducible first|exact PB.out.b|apply ay|apply a6|apply aV)|exact PB.out.b|refine al ?_ PB.out.i|refine al ?_ GZ.out)⟩
end Go.Proofs.Ytpihnmmoahplgaa.PAll
