import Derived.Test.YtpihnmmoahplgaaQx
import Derived.Test.YtpihnmmoahplgaaQspecl01End
namespace Go.Proofs.Ytpihnmmoahplgaa.PAll
open Go.RowKit Go.Proofs.YtpihnmmoahplgaaW.PrintWords Go.Proofs.YtpihnmmoahplgaaW.PrintLast Go.Proofs.YtpihnmmoahplgaaW.PrintMore
attribute [local go_sem] Go.Proofs.Ytpihnmmoahplgaa.Aux.setCell_drewN Go.Proofs.Ytpihnmmoahplgaa.Aux.isSome_setCell Go.Proofs.Ytpihnmmoahplgaa.Aux.max_eight bq bo cG cF ba bZ bp bm
set_option linter.unusedVariables false
set_option linter.unusedSimpArgs false
def eC.f (l0:List Int):Option (Bool):=some (decide ((l0.length:Int)>4096))
set_option maxHeartbeats 8000000 in
set_option maxRecDepth 100000 in
theorem eC.calls (A0:Option Addr) (c0:Nat) (l0:List Int) (r:Bool) (w:World) (hr0:Kd.C (Kd.int .u8) w A0 l0.length l0) (hc0:l0.length≤c0) (h:eC.f l0=some r) :
  Calls Try.prog 9 #[.slice A0 l0.length c0] w fun e w'=>e=.returned (.bool r)∧aU w w':=by
 have HR0:=aA.mk hr0
 have HC0:=aA.mk hc0
 clear hr0 hc0
 have H:=h
 unfold eC.f at H
 clear h
 obtain rfl:=Option.some.inj H
 go_enter Try.func9,Try.ntmps9
 go_wp2
 go_ret
 exact ⟨by first|rfl|(simp;done)|(simp [*];done),by repeat (first|exact aU.refl _|apply aU.step)⟩
def aW (w0 W:World) (g:Nat) (f0:List Int) (f1 f2:Int):Prop:=∃ A0 c0,W.heap[g]?=some (.cells #[.slice A0 f0.length c0,.int .i64 f1,.int .u64 f2] 97 (0,0))∧w0.heap.size≤g∧Kd.C (Kd.int .u8) w0 A0 f0.length f0
theorem aW.grown {w0 W:World} {g:Nat} {f0:List Int} {f1:Int} {f2:Int} {W1:World} {row:Option Nat} (h:aW w0 W g f0 f1 f2) (hw:W.grownBy W1 row) (hne:some g≠row):aW w0 W1 g f0 f1 f2:=by
 obtain ⟨A0,c0,hb,hg,hr0⟩:=h
 exact ⟨A0,c0,b9 hb hw hne,hg,hr0⟩
theorem aW.kept {w0 W:World} {g:Nat} {f0:List Int} {f1:Int} {f2:Int} {W1:World} {S:Nat→Prop} (h:aW w0 W g f0 f1 f2) (hk:dg W W1 S) (hne:¬ S g):aW w0 W1 g f0 f1 f2:=by
 obtain ⟨A0,c0,hb,hg,hr0⟩:=h
 exact ⟨A0,c0,blk_kept hb hk hne,hg,hr0⟩
theorem aW.below {w0 W:World} {g:Nat} {f0:List Int} {f1:Int} {f2:Int} {W1:World} (h:aW w0 W g f0 f1 f2) (hw:Below W.heap.size W W1):aW w0 W1 g f0 f1 f2:=h.grown (fH hw none) (by simp)
theorem aW.alloc {w0 W:World} {g:Nat} {f0:List Int} {f1:Int} {f2:Int} (h:aW w0 W g f0 f1 f2) (o:Obj):aW w0 (W.alloc o) g f0 f1 f2:=h.below (ay (Below.refl _ _) o)
theorem aW.drewN {w0 W:World} {g:Nat} {f0:List Int} {f1:Int} {f2:Int} (h:aW w0 W g f0 f1 f2) (m:Nat):aW w0 (W.drewN m) g f0 f1 f2:=h
theorem aW.drew {w0 W:World} {g:Nat} {f0:List Int} {f1:Int} {f2:Int} (h:aW w0 W g f0 f1 f2):aW w0 W.drew g f0 f1 f2:=h
theorem aW.at_ {w0 W:World} {g:Nat} {f0:List Int} {f1:Int} {f2:Int} {w':World} {m:Nat} (hq:W.drewN m=w') (h:aW w0 W g f0 f1 f2):aW w0 w' g f0 f1 f2:=by subst hq;exact aW.drewN h m
theorem aW.apart {w0 W:World} {g:Nat} {f0:List Int} {f1:Int} {f2:Int} {α:Type} {d:Kd α} {e:Nat} {base:Nat} {ok:Nat→Prop} {v:Value} {xs:List α} (h:aW w0 W g f0 f1 f2) (ho:d.R e W base ok v xs) (ht:∀ q,q ∈ e :: d.E→q≠97):d.R e W base (fun k=>ok k∧k≠g) v xs:=by
 obtain ⟨A0,c0,hb,hg,hr0⟩:=h
 exact Kd.R_types ho hb ht
theorem aW.own_ne {w0 W:World} {g:Nat} {f0:List Int} {f1:Int} {f2:Int} {α:Type} {d:Kd α} {e:Nat} {base:Nat} {ok:Nat→Prop} {v:Value} {xs:List α} (h:aW w0 W g f0 f1 f2) (ho:d.R e W base ok v xs) (ht:e≠97):some g≠v.ownBlock:=by
 obtain ⟨A0,c0,hb,hg,hr0⟩:=h
 exact Kd.R_ne ho hb ht
theorem aW.lt {w0 W:World} {g:Nat} {f0:List Int} {f1:Int} {f2:Int} (h:aW w0 W g f0 f1 f2):g<W.heap.size:=by
 obtain ⟨A0,c0,hb,hg,hr0⟩:=h
 exact ek hb
theorem aW.ge {w0 W:World} {g:Nat} {f0:List Int} {f1:Int} {f2:Int} (h:aW w0 W g f0 f1 f2):w0.heap.size≤g:=by
 obtain ⟨A0,c0,hb,hg,hr0⟩:=h
 exact hg
theorem aW.ne_blk {w0 W:World} {g:Nat} {f0:List Int} {f1:Int} {f2:Int} {a:Nat} {cs:Array Value} {t:TypeId} {fr:Nat × Nat} (h:aW w0 W g f0 f1 f2) (hb2:W.heap[a]?=some (.cells cs t fr)) (ht:t≠97):g≠a:=by
 obtain ⟨A0,c0,hb,hg,hr0⟩:=h
 rintro rfl
 rw [hb] at hb2
 injection hb2 with hb2
 injection hb2 with _ ht2
 exact ht ht2.symm
theorem aW.far {w0 W:World} {g:Nat} {f0:List Int} {f1:Int} {f2:Int} {p:Addr} (h:aW w0 W g f0 f1 f2) (hne:g≠p.block) (u:Value):aW w0 (W.setCell p u) g f0 f1 f2:=by
 obtain ⟨A0,c0,hb,hg,hr0⟩:=h
 exact ⟨A0,c0,aq hb hne u,hg,hr0⟩
theorem cellS97_0 {W:World} {g:Nat} {A0:Option Addr} {c0:Nat} {f0:List Int} {f1:Int} {f2:Int} (h:W.heap[g]?=some (.cells #[.slice A0 f0.length c0,.int .i64 f1,.int .u64 f2] 97 (0,0))):W.cell? ⟨g,0,none⟩=some (.slice A0 f0.length c0):=(aT h 0).trans rfl
theorem cellS97_1 {W:World} {g:Nat} {A0:Option Addr} {c0:Nat} {f0:List Int} {f1:Int} {f2:Int} (h:W.heap[g]?=some (.cells #[.slice A0 f0.length c0,.int .i64 f1,.int .u64 f2] 97 (0,0))):W.cell? ⟨g,1,none⟩=some (.int .i64 f1):=(aT h 1).trans rfl
theorem aW.set_1 {w0 W:World} {g:Nat} {f0:List Int} {f1:Int} {f2:Int} (h:aW w0 W g f0 f1 f2) (x:Int):aW w0 (W.setCell ⟨g,1,none⟩ (.int .i64 x)) g f0 x f2:=by
 obtain ⟨A0,c0,hb,hg,hr0⟩:=h
 exact ⟨A0,c0,by simpa using blk_set hb 1 (.int .i64 x),hg,hr0⟩
theorem cellS97_2 {W:World} {g:Nat} {A0:Option Addr} {c0:Nat} {f0:List Int} {f1:Int} {f2:Int} (h:W.heap[g]?=some (.cells #[.slice A0 f0.length c0,.int .i64 f1,.int .u64 f2] 97 (0,0))):W.cell? ⟨g,2,none⟩=some (.int .u64 f2):=(aT h 2).trans rfl
theorem aW.set_2 {w0 W:World} {g:Nat} {f0:List Int} {f1:Int} {f2:Int} (h:aW w0 W g f0 f1 f2) (x:Int):aW w0 (W.setCell ⟨g,2,none⟩ (.int .u64 x)) g f0 f1 x:=by
 obtain ⟨A0,c0,hb,hg,hr0⟩:=h
 exact ⟨A0,c0,by simpa using blk_set hb 2 (.int .u64 x),hg,hr0⟩
def ao.l0:Nat→List Int→Int→List Int→Int→Int→Option (List Int × Int × Int)
 | 0,_,_,_,_,_=>none
 | k+1,x0,x4,x235000,x235001,x235002=>if x4<(x0.length:Int) then (if x4<4096 then (if 0≤x4 then (ao.l0 k x0 (wrap64 (x4+1)) x235000 x235001 (IntKind.u64.wrap ((IntKind.u64.wrap ((IntKind.u64.wrap (x235002*1099511628211))+(IntKind.u64.wrap (rd x0 x4))))+71))) else (none)) else (some (x235000,x235001,x235002))) else (some (x235000,x235001,x235002))
def ao.f (k:Nat) (l0:List Int):Option (List Int × Int × Int):=ao.l0 k l0 0 l0 0 (IntKind.u64.wrap (12527+(IntKind.u64.wrap ((l0.length:Int)))))
def ao.T5:Bool × List (List Nat × List Nat):=(true,[([],[]),([],[]),([1],[1]),([2],[2]),([3],[3]),([4],[4]),([],[]),([],[]),([6,7],[6,7]),([8],[8]),([9],[9]),([5,10],[5,10]),([11],[11]),([0,0,1,2,3,4,5,6,7,8,9,10,11,12],[0]),([13,0,1,2,3,4,5,6,7,8,9,10,11,12],[13]),([14,12,0,1,2,3,4,5,6,7,8,9,10,11,12],[12,14])])
def ao.B5:List Nat:=[0,0,2,6,14,30,0,0,192,448,960,2046,4094,8191,16383,32767]
theorem ao.tab5:ck .any (dC Try.f39 5)=ao.T5:=by kernel_rfl
theorem ao.bits5:br ao.T5.2 ao.B5=true:=by kernel_rfl
set_option maxHeartbeats 8000000 in
set_option maxRecDepth 100000 in
theorem ao.calls (k:Nat) (A0:Option Addr) (c0:Nat) (l0 r1:List Int) (r2 r3:Int) (w0 w:World) (hB:Below w0.heap.size w0 w) (hr0:Kd.C (Kd.int .u8) w0 A0 l0.length l0) (hc0:l0.length≤c0) (h:ao.f k l0=some (r1,r2,r3)) :
  Calls Try.prog 39 #[.slice A0 l0.length c0] w fun e w'=>∃ g_:Nat,e=.returned (.pointer (some ⟨g_,0,none⟩))∧aW w0 w' g_ r1 r2 r3∧Below w0.heap.size w0 w'∧Below w.heap.size w w':=by
 have hu97:=Try.underlying97
 have HR0:=aA.mk hr0
 have HC0:=aA.mk hc0
 clear hr0 hc0
 have HBW:=aA.mk (Below.refl w.heap.size w)
 have HW0:=aA.mk hB.size
 have HB:=aA.mk hB
 clear hB
 have H:=h
 unfold ao.f at H
 clear h
 have H':=aA.mk H
 clear H
 go_enter Try.func39,Try.ntmps39
 go_wp2_with (first|((with_reducible refine aH (N:=11) rfl ?_);refine bxE (cs:=#[.slice A0 l0.length c0,.int .i64 0,.int .u64 (IntKind.u64.wrap (12527+(IntKind.u64.wrap ((l0.length:Int)))))]) (t:=97) ?_;intro gb234 hg w2 hbox hb;have BK234:=aA.mk hbox;have GW234:=aA.mk (szA hg bwA);have GE234:=aA.mk ((Nat.le_trans HW0.out (szA hg bwA):w0.heap.size≤gb234));replace HBW:=aA.mk (ai HBW.out hb);replace HB:=lB hb;clear hb hbox hg))
 go_loopg [4] k (fun kq v4 w'=>∃ (x4_1:Int) (x235002_1:Int),v4=.int .i64 x4_1∧aA (ao.l0 kq l0 x4_1 l0 0 x235002_1=some (r1,r2,r3))∧aA (kq≤k)∧aA (w'.heap[gb234]?=some (.cells #[(.slice A0 l0.length c0),.int .i64 0,.int .u64 x235002_1] 97 (0,0)))∧aA (Below w0.heap.size w0 w')∧aA (Below w.heap.size w w'))
 case atStart=>exact ⟨(0),(IntKind.u64.wrap (12527+(IntKind.u64.wrap ((l0.length:Int))))),hB,H',⟨Nat.le_refl _⟩,⟨bkA BK234⟩,⟨blA⟩,⟨bwA⟩⟩
 case round=>
  clear H'
  obtain ⟨x4_1,x235002_1,rfl,HA,HK1,BK234,HB,HBW⟩:=hrel
  cases gk with
  | zero=>exact absurd HA.out (by simp [ao.l0])
  | succ k1=>
   have H:=HA.out
   clear HA
   simp only [ao.l0] at H
   by_cases c3:x4_1<(l0.length:Int)
   ·
    rw [if_pos c3] at H
    have c3b0:=decide_eq_true c3
    clear c3
    by_cases c4:x4_1<4096
    ·
     rw [if_pos c4] at H
     have c4b0:=decide_eq_true c4
     clear c4
     by_cases c5:0≤x4_1
     rotate_left
     ·
      rw [if_neg c5] at H
      exact absurd H (by simp)
     rw [if_pos c5] at H
     have c5b0:=decide_eq_true c5
     clear c5
     have H':=aA.mk H
     clear H
     try go_wp2
     have n0_:=aA.mk (aK BK234.out)
     have n1_:=aA.mk (aV HB.out)
     have nw_:=aA.mk (aV HBW.out)
     clear HBW
     have HBW:=nw_
     clear nw_
     clear BK234
     clear HB
     have BK234:=n0_
     have HB:=n1_
     clear n0_ n1_
     have p235:0≤(x4_1:Int):=dA
     have q235:x4_1<(l0.length:Int):=dA
     obtain ⟨ad235,e235,hx235_0⟩:=Kd.at_int HR0.out x4_1 p235 q235
     have hw235_0:=hx235_0
     cases e235
     replace hx235_0:=db HB.out hx235_0
     replace p235:=eq_true p235
     replace q235:=eq_true q235
     refine bf (n:=16) (S:=fun w'=>w'.cell? ⟨gb234,0,none⟩=some (.slice (some ad235) l0.length c0)∧w'.cell? ⟨gb234,1,none⟩=some (.int .i64 0)∧w'.cell? ⟨gb234,2,none⟩=some (.int .u64 x235002_1)∧w'.cell? (ad235.add (x4_1).toNat)=some (.int .u8 (rd l0 x4_1))) (ds:=[15]) #[Z,Z,Z,Z,Z,Z,Z,Z,Z,Z,Z,Z,Z,Z,Z,Z] (by kernel_rfl) rfl rfl ⟨cA BK234 0,cA BK234 1,cA BK234 2,((HB.out.cell (World.block_lt_of_cell? _ _ hw235_0)).trans hw235_0)⟩ (fun hHeld=>?_);refine bH ao.tab5 ao.bits5 (fun HT_ HW_=>?_)
     generalize wr.drew=w6 at BK234 HB HBW hx235_0 hHeld ⊢
     refine puA (i:=0) (N:=some 22) #[Y,Z,Z,Z,Z,Z,Z,Z,Z,Z,Z,Z,Z,Z,Z,Z] rfl rfl HT_ ?_
     refine puA (i:=1) (N:=some 23) #[Y,Y,Z,Z,Z,Z,Z,Z,Z,Z,Z,Z,Z,Z,Z,Z] rfl rfl HT_ ?_
     refine puA (i:=2) (N:=some 24) #[Y,Y,Y,Z,Z,Z,Z,Z,Z,Z,Z,Z,Z,Z,Z,Z] rfl rfl HT_ ?_
     refine puA (i:=3) (N:=some 25) #[Y,Y,Y,Y,Z,Z,Z,Z,Z,Z,Z,Z,Z,Z,Z,Z] rfl rfl HT_ ?_
     refine puA (i:=6) (N:=some 28) #[Y,Y,Y,Y,Z,Z,Y,Z,Z,Z,Z,Z,Z,Z,Z,Z] rfl rfl HT_ ?_
     refine puA (i:=7) (N:=some 29) #[Y,Y,Y,Y,Z,Z,Y,Y,Z,Z,Z,Z,Z,Z,Z,Z] rfl rfl HT_ ?_
     refine puA (i:=8) (N:=some 30) #[Y,Y,Y,Y,Z,Z,Y,Y,Y,Z,Z,Z,Z,Z,Z,Z] rfl rfl HT_ ?_
     refine taA (i:=4) (N:=some 26) #[Y,Y,Y,Y,Y,Z,Y,Y,Y,Z,Z,Z,Z,Z,Z,Z] rfl rfl HT_ HW_ hHeld ?_
     refine puA (i:=5) (N:=some 27) #[Y,Y,Y,Y,Y,Y,Y,Y,Y,Z,Z,Z,Z,Z,Z,Z] rfl rfl HT_ ?_
     refine taA (i:=9) (N:=some 31) #[Y,Y,Y,Y,Y,Y,Y,Y,Y,Y,Z,Z,Z,Z,Z,Z] rfl rfl HT_ HW_ hHeld ?_
     refine puA (i:=10) (N:=some 32) #[Y,Y,Y,Y,Y,Y,Y,Y,Y,Y,Y,Z,Z,Z,Z,Z] rfl rfl HT_ ?_
     refine puA (i:=11) (N:=some 33) #[Y,Y,Y,Y,Y,Y,Y,Y,Y,Y,Y,Y,Z,Z,Z,Z] rfl rfl HT_ ?_
     refine puA (i:=12) (N:=some 34) #[Y,Y,Y,Y,Y,Y,Y,Y,Y,Y,Y,Y,Y,Z,Z,Z] rfl rfl HT_ ?_
     refine puA (i:=13) (N:=some 35) #[Y,Y,Y,Y,Y,Y,Y,Y,Y,Y,Y,Y,Y,Y,Z,Z] rfl rfl HT_ ?_
     refine puA (i:=14) (N:=some 36) #[Y,Y,Y,Y,Y,Y,Y,Y,Y,Y,Y,Y,Y,Y,Y,Z] rfl rfl HT_ ?_
     refine last_ (i:=15) (N:=none) #[Y,Y,Y,Y,Y,Y,Y,Y,Y,Y,Y,Y,Y,Y,Y,Y] rfl rfl (az HT_.out (by kernel_rfl)) (by decide) (fun K hK=>?_)
     have hs7:w6.cell? ⟨gb234,2,none⟩=some (.int .u64 x235002_1):=cA BK234 2
     have hfs7:=aQ BK234.out 2
     refine dp (w1:=?_) (by rfl) rfl ?_ ?_
     rotate_left
     ·
      go_simp
      rfl
     refine hK.out _ _ ?_
     clear hK K
     refine cL (bX HT_.out (by kernel_rfl)) ?_
     try go_wp2
     go_roundg k1
     case measure=>have:=HK1.out;omega
     case rel=>exact ⟨(wrap64 (x4_1+1)),(IntKind.u64.wrap ((IntKind.u64.wrap ((IntKind.u64.wrap (x235002_1*1099511628211))+(IntKind.u64.wrap (rd l0 x4_1))))+71)),hB,H',⟨by have:=HK1.out;omega⟩,⟨bpA BK234⟩,⟨blA⟩,⟨bwA⟩⟩
    ·
     rw [if_neg c4] at H
     have c4b0:=decide_eq_false c4
     clear c4
     simp only [Option.some.injEq,Prod.mk.injEq] at H
     obtain ⟨rfl,rfl,rfl⟩:=H
     go_wp2
     go_ret
     exact ⟨_,rfl,(show aW w0 _ gb234 l0 0 x235002_1 from ⟨_,_,bkA BK234,GE234.out,HR0.out⟩),blA,bwA⟩
   ·
    rw [if_neg c3] at H
    have c3b0:=decide_eq_false c3
    clear c3
    simp only [Option.some.injEq,Prod.mk.injEq] at H
    obtain ⟨rfl,rfl,rfl⟩:=H
    go_wp2
    go_ret
    exact ⟨_,rfl,(show aW w0 _ gb234 l0 0 x235002_1 from ⟨_,_,bkA BK234,GE234.out,HR0.out⟩),blA,bwA⟩
def ae.f (s0_0:List Int) (s0_1 s0_2 a1:Int):Option (Int × Int × Int):=if a1<1 then (some (0,s0_1,s0_2)) else (if s0_1<(s0_0.length:Int) then (if 0≤s0_1 then (if a1=0 then (none) else (some (Int.tmod (wrap64 ((wrap64 (Go.bits .and .u64 ((IntKind.u64.wrap ((IntKind.u64.wrap (s0_2*6364136223846793005))+1442695040888963407)) / 8388608) 17179869183))+(wrap64 (rd s0_0 s0_1)))) a1,wrap64 (s0_1+1),IntKind.u64.wrap ((IntKind.u64.wrap (s0_2*6364136223846793005))+1442695040888963407)))) else (none)) else (if a1=0 then (none) else (some (Int.tmod (wrap64 (Go.bits .and .u64 ((IntKind.u64.wrap ((IntKind.u64.wrap (s0_2*6364136223846793005))+1442695040888963407)) / 8388608) 17179869183)) a1,s0_1,IntKind.u64.wrap ((IntKind.u64.wrap (s0_2*6364136223846793005))+1442695040888963407)))))
set_option maxHeartbeats 8000000 in
set_option maxRecDepth 100000 in
theorem ae.calls (g:Nat) (s0_0:List Int) (s0_1 s0_2 a1 r1 r2 r3:Int) (w0 w:World) (hI:aW w0 w g s0_0 s0_1 s0_2) (hB:Below w0.heap.size w0 w) (h:ae.f s0_0 s0_1 s0_2 a1=some (r1,r2,r3)) :
  Calls Try.prog 50 #[.pointer (some ⟨g,0,none⟩),.int .i64 a1] w fun e w'=>e=.returned (.int .i64 r1)∧aW w0 w' g s0_0 r2 r3∧Below w0.heap.size w0 w'∧a7 w w' g none:=by
 have HI0:=aA.mk hI
 have HK:=aA.mk (a7.refl w g none)
 have HL:=aA.mk hB.size
 clear hI
 have HW0:=aA.mk hB.size
 have HB:=aA.mk hB
 clear hB
 have H:=h
 unfold ae.f at H
 clear h
 by_cases c3:a1<1
 ·
  rw [if_pos c3] at H
  have c3b0:=decide_eq_true c3
  clear c3
  simp only [Option.some.injEq,Prod.mk.injEq] at H
  obtain ⟨rfl,rfl,rfl⟩:=H
  go_enter Try.func50,Try.ntmps50
  go_wp2
  repeat (go_quiet (fail);try go_wp2)
  go_ret
  exact ⟨eW,iA HI0,blI,kpA⟩
 ·
  rw [if_neg c3] at H
  have c3b0:=decide_eq_false c3
  clear c3
  by_cases c4:s0_1<(s0_0.length:Int)
  focus
   rw [if_pos c4] at H
   have c4b0:=decide_eq_true c4
   clear c4
   by_cases c5:0≤s0_1
   rotate_left
   ·
    rw [if_neg c5] at H
    exact absurd H (by simp)
   rw [if_pos c5] at H
   have c5b0:=decide_eq_true c5
   clear c5
   by_cases c6:a1=0
   ·
    rw [if_pos c6] at H
    exact absurd H (by simp)
   rw [if_neg c6] at H
   have c6b0:(a1 == 0)=false:=beq_eq_false_iff_ne.mpr c6
   have c6b1:(a1 != 0)=true:=bne_iff_ne.mpr c6
   simp only [Option.some.injEq,Prod.mk.injEq] at H
   obtain ⟨rfl,rfl,rfl⟩:=H
   obtain ⟨ASz7_0,cSz7_0,HGz7,hgz7,HSz7_0⟩:=HI0.out
   have hcz7_0:=cellS97_0 HGz7
   have hcz7_1:=cellS97_1 HGz7
   have hcz7_2:=cellS97_2 HGz7
   have hfz7_1:=aQ HGz7 1
   have hfz7_2:=aQ HGz7 2
   clear HGz7 hgz7
   have p236:0≤(s0_1:Int):=dA
   have q236:s0_1<(s0_0.length:Int):=dA
   obtain ⟨ad236,e236,hx236_0⟩:=Kd.at_int HSz7_0 s0_1 p236 q236
   cases e236
   have hn236_0:ad236.block≠g:=Nat.ne_of_lt (Nat.lt_of_lt_of_le (by have:=World.block_lt_of_cell? _ _ hx236_0;first|rwa [eP] at this|exact this) (aW.ge HI0.out))
   replace hx236_0:=db HB.out hx236_0
   replace hx236_0:=(de (p:=⟨g,2,none⟩) (by first|(rw [eP];exact hn236_0)|(show (Addr.add _ _).block≠_;rw [eP];exact hn236_0)|exact hn236_0) (.int .u64 (IntKind.u64.wrap ((IntKind.u64.wrap (s0_2*6364136223846793005))+1442695040888963407)))).trans hx236_0
   (try have hy236_0:=fun (n_:Nat)=>(show (((w.drewN n_).setCell ⟨g,2,none⟩ (.int .u64 (IntKind.u64.wrap ((IntKind.u64.wrap (s0_2*6364136223846793005))+1442695040888963407))))).cell? _=some _ from hx236_0))
   clear hn236_0
   replace p236:=eq_true p236
   replace q236:=eq_true q236
  rotate_left
  focus
   rw [if_neg c4] at H
   have c4b0:=decide_eq_false c4
   clear c4
   by_cases c8:a1=0
   ·
    rw [if_pos c8] at H
    exact absurd H (by simp)
   rw [if_neg c8] at H
   have c8b0:(a1 == 0)=false:=beq_eq_false_iff_ne.mpr c8
   have c8b1:(a1 != 0)=true:=bne_iff_ne.mpr c8
   simp only [Option.some.injEq,Prod.mk.injEq] at H
   obtain ⟨rfl,rfl,rfl⟩:=H
   obtain ⟨ASz9_0,cSz9_0,HGz9,hgz9,HSz9_0⟩:=HI0.out
   have hcz9_0:=cellS97_0 HGz9
   have hcz9_1:=cellS97_1 HGz9
   have hcz9_2:=cellS97_2 HGz9
   have hfz9_1:=aQ HGz9 1
   have hfz9_2:=aQ HGz9 2
   clear HGz9 hgz9
  rotate_left
  all_goals
   go_enter Try.func50,Try.ntmps50
   go_wp2
   repeat (go_quiet (fail);try go_wp2)
  ·
   go_ret
   exact ⟨eW,iA HI0,blI,kpA⟩
  ·
   go_ret
   exact ⟨eW,iA HI0,blI,kpA⟩
def dO.f (a0_0 a0_1:Int) (a1:Bool):Option (Int × Int × Int):=if a1=true then (some (a0_0,a0_1,0)) else (some (0,0,3))
set_option maxHeartbeats 8000000 in
set_option maxRecDepth 100000 in
theorem dO.calls (a0_0 a0_1:Int) (a1:Bool) (r1 r2 r3:Int) (w:World) (h:dO.f a0_0 a0_1 a1=some (r1,r2,r3)) :
  Calls Try.prog 60 #[.agg #[.int .i64 a0_0,.int .i64 a0_1],.bool a1] w fun e w'=>e=.returned (.tuple #[.agg #[.int .i64 r1,.int .i64 r2],.int .i64 r3])∧Below w.heap.size w w':=by
 have hu28:=Try.underlying28
 have HB:=aA.mk (Below.refl w.heap.size w)
 have H:=h
 unfold dO.f at H
 clear h
 by_cases c3:a1=true
 ·
  subst c3
  rw [if_pos rfl] at H
  try dsimp only at H
  simp only [Option.some.injEq,Prod.mk.injEq] at H
  obtain ⟨rfl,rfl,rfl⟩:=H
  go_enter Try.func60,Try.ntmps60
  go_wp2_with (first|((with_reducible refine aH (N:=2) rfl ?_);refine bxE (cs:=#[.int .i64 a0_0,.int .i64 a0_1]) (t:=28) ?_;intro gb575 hg w4 hbox hb;have BK575:=aA.mk hbox;have GW575:=sA hg;have GE575:=sA hg;replace HB:=lB hb;clear hb hbox hg)|((with_reducible refine aH (N:=4) rfl ?_);refine bxE (cs:=#[.int .i64 0,.int .i64 0]) (t:=28) ?_;intro gb576 hg w5 hbox hb;have BK576:=aA.mk hbox;have GW576:=sA hg;have GE576:=sA hg;have NB575_576:=nA hg BK575;have NB576_575:=nB hg BK575;have LT575_576:=nL hg BK575;replace BK575:=kB BK575 hb;replace HB:=lB hb;clear hb hbox hg;have hnb6:=LT575_576.out;obtain ⟨hcz7_0,hcz7_1,hfz7_0,hfz7_1⟩:=cz2 BK575;obtain ⟨hcz8_0,hcz8_1,hfz8_0,hfz8_1⟩:=cz2 BK576))
  refine bodyPost_ret (bC rfl _ _ gb576 28 #[.int .i64 a0_0,.int .i64 a0_1] (0,0) _ rfl (bpA BK576) Try.underlying28 rfl (by kernel_rfl)) rfl ?_
  exact bU blA
 ·
  replace c3:=Bool.eq_false_iff.mpr c3
  subst c3
  rw [if_neg (show ¬ (false=true) by decide)] at H
  try dsimp only at H
  simp only [Option.some.injEq,Prod.mk.injEq] at H
  obtain ⟨rfl,rfl,rfl⟩:=H
  go_enter Try.func60,Try.ntmps60
  go_wp2_with (first|((with_reducible refine aH (N:=2) rfl ?_);refine bxE (cs:=#[.int .i64 a0_0,.int .i64 a0_1]) (t:=28) ?_;intro gb575 hg w9 hbox hb;have BK575:=aA.mk hbox;have GW575:=sA hg;have GE575:=sA hg;replace HB:=lB hb;clear hb hbox hg)|((with_reducible refine aH (N:=4) rfl ?_);refine bxE (cs:=#[.int .i64 0,.int .i64 0]) (t:=28) ?_;intro gb576 hg w10 hbox hb;have BK576:=aA.mk hbox;have GW576:=sA hg;have GE576:=sA hg;have NB575_576:=nA hg BK575;have NB576_575:=nB hg BK575;have LT575_576:=nL hg BK575;replace BK575:=kB BK575 hb;replace HB:=lB hb;clear hb hbox hg;have hnb11:=LT575_576.out;obtain ⟨hcz12_0,hcz12_1,hfz12_0,hfz12_1⟩:=cz2 BK576))
  refine bodyPost_ret (bC rfl _ _ gb576 28 #[.int .i64 0,.int .i64 0] (0,0) _ rfl (bpA BK576) Try.underlying28 rfl (by kernel_rfl)) rfl ?_
  exact bU blA
def ag.f (s0_0:List Int) (s0_1 s0_2:Int) (l1:List Int):Option (Int × Int × Int):=(ae.f s0_0 s0_1 s0_2 (l1.length:Int)).bind fun bt237=>(if 0≤bt237.1 then (if bt237.1<(l1.length:Int) then (some (rd l1 bt237.1,bt237.2.1,bt237.2.2)) else (none)) else (none))
set_option maxHeartbeats 8000000 in
set_option maxRecDepth 100000 in
theorem ag.calls (g:Nat) (s0_0:List Int) (s0_1 s0_2:Int) (A1:Option Addr) (c1:Nat) (l1:List Int) (r1 r2 r3:Int) (w0 w:World) (hI:aW w0 w g s0_0 s0_1 s0_2) (hB:Below w0.heap.size w0 w) (hr1:Kd.C (Kd.int .i64) w A1 l1.length l1) (hc1:l1.length≤c1) (hf1:∀ ad,A1=some ad→0<l1.length→ad.block≠g) (h:ag.f s0_0 s0_1 s0_2 l1=some (r1,r2,r3)) :
  Calls Try.prog 40 #[.pointer (some ⟨g,0,none⟩),.slice A1 l1.length c1] w fun e w'=>e=.returned (.int .i64 r1)∧aW w0 w' g s0_0 r2 r3∧Below w0.heap.size w0 w'∧a7 w w' g none:=by
 have HR1:=aA.mk hr1
 have HC1:=aA.mk hc1
 clear hr1 hc1
 have HI0:=aA.mk hI
 have HK:=aA.mk (a7.refl w g none)
 have HL:=aA.mk hB.size
 clear hI
 have HW0:=aA.mk hB.size
 have HB:=aA.mk hB
 clear hB
 have H:=h
 unfold ag.f at H
 clear h
 replace H:=bS H
 obtain ⟨⟨t237,t238,t239⟩,A3,H⟩:=H
 try dsimp only at H
 by_cases c4:0≤t237
 rotate_left
 ·
  rw [if_neg c4] at H
  exact absurd H (by simp)
 rw [if_pos c4] at H
 have c4b0:=decide_eq_true c4
 clear c4
 by_cases c5:t237<(l1.length:Int)
 rotate_left
 ·
  rw [if_neg c5] at H
  exact absurd H (by simp)
 rw [if_pos c5] at H
 have c5b0:=decide_eq_true c5
 clear c5
 simp only [Option.some.injEq,Prod.mk.injEq] at H
 obtain ⟨rfl,rfl,rfl⟩:=H
 go_enter Try.func40,Try.ntmps40
 go_wp2_with (first|((with_reducible refine gd 9 rfl ?_);refine gC (some 9) rfl Try.func50 (ae.calls (w:=_) (g:=g) (w0:=w0) (hI:=iA HI0) (hB:=blI) (h:=A3.out)) ?_;rintro w6 ⟨hi,hb,hk⟩;replace HK:=kkA HK hk;replace HB:=aA.mk hb;replace HI0:=aA.mk hi;clear hi hb hk;have p240:0≤(t237:Int):=dA;have q240:t237<(l1.length:Int):=dA;obtain ⟨ad240,e240,hx240_0⟩:=Kd.at_int HR1.out t237 p240 q240;cases e240;replace hx240_0:=keep_cell HK.out hx240_0 (by first|(rw [eP];exact hf1 _ rfl (by omega))|exact hf1 _ rfl (by omega)|exact hf1 ad240 rfl (by omega));replace p240:=eq_true p240;replace q240:=eq_true q240))
 go_ret
 exact ⟨eW,iA HI0,blI,kpA⟩
def aZ.f (k:Nat) (a0 a1:Int):Option (Int × Int × Bool):=if a1=0 then (some (1,0,true)) else ((a9.f k a0 a1).bind fun t242=>(if a1<0 then (if (wrap64 (-t242))=0 then (none) else (if (wrap64 (Int.tdiv a1 (wrap64 (-t242))))≤1000000 then (some (wrap64 (Int.tdiv a0 (wrap64 (-t242))),wrap64 (Int.tdiv a1 (wrap64 (-t242))),decide ((mx (wrap64 (Int.tdiv a0 (wrap64 (-t242)))) (wrap64 (-(wrap64 (Int.tdiv a0 (wrap64 (-t242)))))))≤1000000))) else (some (wrap64 (Int.tdiv a0 (wrap64 (-t242))),wrap64 (Int.tdiv a1 (wrap64 (-t242))),false)))) else (if t242=0 then (none) else (if (wrap64 (Int.tdiv a1 t242))≤1000000 then (some (wrap64 (Int.tdiv a0 t242),wrap64 (Int.tdiv a1 t242),decide ((mx (wrap64 (Int.tdiv a0 t242)) (wrap64 (-(wrap64 (Int.tdiv a0 t242)))))≤1000000))) else (some (wrap64 (Int.tdiv a0 t242),wrap64 (Int.tdiv a1 t242),false))))))
def aZ.T6:Bool × List (List Nat × List Nat):=(true,[([],[]),([],[]),([0,1],[0,1]),([],[]),([],[]),([3,4],[3,4]),([2,5],[2,5]),([],[]),([7,6,0,1,2,3,4,5,6,7],[6,7])])
def aZ.B6:List Nat:=[0,0,3,0,0,24,63,0,255]
theorem aZ.tab6:ck .any (dC Try.f63 6)=aZ.T6:=by kernel_rfl
theorem aZ.bits6:br aZ.T6.2 aZ.B6=true:=by kernel_rfl
def aZ.T7:Bool × List (List Nat × List Nat):=(true,[([],[]),([],[]),([1],[1]),([2],[2]),([3],[3]),([4],[4]),([5,4],[4,5]),([4],[4]),([7,4],[4,7]),([8,4],[4,8]),([6,9,4],[4,6,9]),([10,4],[4,10]),([4,11],[4,11]),([0,4,0],[0]),([12,13,0,1,2,3,4,5,6,7,8,9,10,11,12,13],[12])])
def aZ.B7:List Nat:=[0,0,2,6,14,30,62,30,158,414,1022,2046,4094,31,16383]
theorem aZ.tab7:ck .any (dC Try.f63 7)=aZ.T7:=by kernel_rfl
theorem aZ.bits7:br aZ.T7.2 aZ.B7=true:=by kernel_rfl
set_option maxHeartbeats 8000000 in
set_option maxRecDepth 100000 in
theorem aZ.calls (k:Nat) (a0 a1 r1 r2:Int) (r3:Bool) (w:World) (h:aZ.f k a0 a1=some (r1,r2,r3)) :
  Calls Try.prog 63 #[.int .i64 a0,.int .i64 a1] w fun e w'=>e=.returned (.tuple #[.agg #[.int .i64 r1,.int .i64 r2],.bool r3])∧Below w.heap.size w w':=by
 have hu28:=Try.underlying28
 have HB:=aA.mk (Below.refl w.heap.size w)
 have H:=h
 unfold aZ.f at H
 clear h
 by_cases c3:a1=0
 focus
  rw [if_pos c3] at H
  have c3b0:(a1 == 0)=true:=beq_iff_eq.mpr c3
  have c3b1:(a1 != 0)=false:=bne_eq_false_iff_eq.mpr c3
  clear c3
  simp only [Option.some.injEq,Prod.mk.injEq] at H
  obtain ⟨rfl,rfl,rfl⟩:=H
 rotate_left
 focus
  rw [if_neg c3] at H
  have c3b0:(a1 == 0)=false:=beq_eq_false_iff_ne.mpr c3
  have c3b1:(a1 != 0)=true:=bne_iff_ne.mpr c3
  replace H:=bS H
  obtain ⟨t242,A6,H⟩:=H
  try dsimp only at H
  by_cases c7:a1<0
  focus
   rw [if_pos c7] at H
   have c7b0:=decide_eq_true c7
   clear c7
   by_cases c8:(wrap64 (-t242))=0
   ·
    rw [if_pos c8] at H
    exact absurd H (by simp)
   rw [if_neg c8] at H
   have c8b0:((wrap64 (-t242)) == 0)=false:=beq_eq_false_iff_ne.mpr c8
   have c8b1:((wrap64 (-t242)) != 0)=true:=bne_iff_ne.mpr c8
   by_cases c9:(wrap64 (Int.tdiv a1 (wrap64 (-t242))))≤1000000
   focus
    rw [if_pos c9] at H
    have c9b0:=decide_eq_true c9
    clear c9
    obtain ⟨ji10,hji10⟩:∃ j_:Int,(mx (wrap64 (Int.tdiv a0 (wrap64 (-t242)))) (wrap64 (-(wrap64 (Int.tdiv a0 (wrap64 (-t242)))))))=j_:=⟨_,rfl⟩
    replace H:(some (wrap64 (Int.tdiv a0 (wrap64 (-t242))),wrap64 (Int.tdiv a1 (wrap64 (-t242))),decide ((ji10)≤1000000)))=some (r1,r2,r3):=by first|(rw [hji10] at H;exact H)|(simp only [hji10] at H ⊢;exact H)
    (try rw [hji10] at A6)
    have hji10_:(if (wrap64 (Int.tdiv a0 (wrap64 (-t242))))<(wrap64 (-(wrap64 (Int.tdiv a0 (wrap64 (-t242)))))) then (wrap64 (-(wrap64 (Int.tdiv a0 (wrap64 (-t242)))))) else (wrap64 (Int.tdiv a0 (wrap64 (-t242)))))=ji10:=hji10
    simp only [Option.some.injEq,Prod.mk.injEq] at H
    obtain ⟨rfl,rfl,rfl⟩:=H
   rotate_left
   focus
    rw [if_neg c9] at H
    have c9b0:=decide_eq_false c9
    clear c9
    simp only [Option.some.injEq,Prod.mk.injEq] at H
    obtain ⟨rfl,rfl,rfl⟩:=H
   rotate_left
  rotate_left 2
  focus
   rw [if_neg c7] at H
   have c7b0:=decide_eq_false c7
   clear c7
   by_cases c31:t242=0
   ·
    rw [if_pos c31] at H
    exact absurd H (by simp)
   rw [if_neg c31] at H
   have c31b0:(t242 == 0)=false:=beq_eq_false_iff_ne.mpr c31
   have c31b1:(t242 != 0)=true:=bne_iff_ne.mpr c31
   by_cases c32:(wrap64 (Int.tdiv a1 t242))≤1000000
   focus
    rw [if_pos c32] at H
    have c32b0:=decide_eq_true c32
    clear c32
    obtain ⟨ji33,hji33⟩:∃ j_:Int,(mx (wrap64 (Int.tdiv a0 t242)) (wrap64 (-(wrap64 (Int.tdiv a0 t242)))))=j_:=⟨_,rfl⟩
    replace H:(some (wrap64 (Int.tdiv a0 t242),wrap64 (Int.tdiv a1 t242),decide ((ji33)≤1000000)))=some (r1,r2,r3):=by first|(rw [hji33] at H;exact H)|(simp only [hji33] at H ⊢;exact H)
    (try rw [hji33] at A6)
    have hji33_:(if (wrap64 (Int.tdiv a0 t242))<(wrap64 (-(wrap64 (Int.tdiv a0 t242)))) then (wrap64 (-(wrap64 (Int.tdiv a0 t242)))) else (wrap64 (Int.tdiv a0 t242)))=ji33:=hji33
    simp only [Option.some.injEq,Prod.mk.injEq] at H
    obtain ⟨rfl,rfl,rfl⟩:=H
   rotate_left
   focus
    rw [if_neg c32] at H
    have c32b0:=decide_eq_false c32
    clear c32
    simp only [Option.some.injEq,Prod.mk.injEq] at H
    obtain ⟨rfl,rfl,rfl⟩:=H
   rotate_left
  rotate_left 2
 rotate_left 4
 all_goals
  go_enter Try.func63,Try.ntmps63
 ·
  go_wp2_with (first|((with_reducible refine aH (N:=4) rfl ?_);(try (refine cS (by rfl) ?_;dsimp only));refine bxE (cs:=#[.int .i64 0,.int .i64 0]) (t:=28) ?_;intro gb241 hg w4 hbox hb;have BK241:=aA.mk hbox;have GW241:=sA hg;have GE241:=sA hg;replace HB:=lB hb;clear hb hbox hg;obtain ⟨hcz5_0,hcz5_1,hfz5_0,hfz5_1⟩:=cz2 BK241))
  refine bodyPost_ret (bC rfl _ _ gb241 28 #[.int .i64 1,.int .i64 0] (0,0) _ rfl (bpA BK241) Try.underlying28 rfl (by kernel_rfl)) rfl ?_
  exact bU blA
 rotate_left 4
 all_goals
  try go_wp2_with (first|((with_reducible refine aH (N:=4) rfl ?_);(try (refine cS (by rfl) ?_;dsimp only));refine bxE (cs:=#[.int .i64 0,.int .i64 0]) (t:=28) ?_;intro gb241 hg w11 hbox hb;have BK241:=aA.mk hbox;have GW241:=sA hg;have GE241:=sA hg;replace HB:=lB hb;clear hb hbox hg)|((with_reducible refine gd 13 rfl ?_);refine gC (some 13) rfl Try.func62 (a9.calls (w:=_) (h:=A6.out)) ?_;intro w12 hb;replace BK241:=kB BK241 hb;replace HB:=lB hb;clear hb))
  have n0_:=aA.mk (aK BK241.out)
  have n1_:=aA.mk (aV HB.out)
  clear BK241
  clear HB
  have BK241:=n0_
  have HB:=n1_
  clear n0_ n1_
  refine bf (n:=9) (S:=fun w'=>True) (ds:=[]) #[Z,Z,Z,Z,Z,Z,Z,Z,Z] (by kernel_rfl) rfl rfl trivial (fun hHeld=>?_);refine bH aZ.tab6 aZ.bits6 (fun HT_ HW_=>?_)
  generalize w12.drew=w13 at BK241 HB hHeld ⊢
  refine puA (i:=0) (N:=some 18) #[Y,Z,Z,Z,Z,Z,Z,Z,Z] rfl rfl HT_ ?_
  refine puA (i:=1) (N:=some 19) #[Y,Y,Z,Z,Z,Z,Z,Z,Z] rfl rfl HT_ ?_
  refine puA (i:=2) (N:=some 20) #[Y,Y,Y,Z,Z,Z,Z,Z,Z] rfl rfl HT_ ?_
  refine puA (i:=3) (N:=some 21) #[Y,Y,Y,Y,Z,Z,Z,Z,Z] rfl rfl HT_ ?_
  refine puA (i:=4) (N:=some 22) #[Y,Y,Y,Y,Y,Z,Z,Z,Z] rfl rfl HT_ ?_
  refine puA (i:=5) (N:=some 23) #[Y,Y,Y,Y,Y,Y,Z,Z,Z] rfl rfl HT_ ?_
  refine puA (i:=6) (N:=some 24) #[Y,Y,Y,Y,Y,Y,Y,Z,Z] rfl rfl HT_ ?_
  refine bg (i:=7) (N:=some 7) #[Y,Y,Y,Y,Y,Y,Y,Y,Z] rfl rfl (az HT_.out (by kernel_rfl)) (by decide) (fun K hK=>?_)
  refine df ?hg (N:=7) ?hd (cs:=#[.int .i64 0,.int .i64 0]) (t:=28) ?hr ?_;(case hd=>rfl);(case hg=>rfl);(case hr=>first|(go_simp;done)|(go_simp;rfl))
  intro gb243 hg w14 hbox hb
  have BK243:=aA.mk hbox
  have GW243:=sA hg
  have GE243:=sA hg
  have NB241_243:=nA hg BK241
  have NB243_241:=nB hg BK241
  have LT241_243:=nL hg BK241
  replace BK241:=kB BK241 hb
  replace HB:=lB hb
  clear hb hbox hg
  refine hK.out _ _ trivial (fun hHeld=>?_)
  clear hK K
  refine nmA ?_
  refine bg (i:=8) (N:=none) #[Y,Y,Y,Y,Y,Y,Y,Y,Y] rfl rfl (az HT_.out (by kernel_rfl)) (by decide) (fun K hK=>?_)
  have hs15:w14.cell? ⟨gb243,0,none⟩=some (.int .i64 0):=cA BK243 0
  have hfs15:=aQ BK243.out 0
  have hns15_0:=NB241_243.out
  have hms15_0:=NB243_241.out
  have hs16:w14.cell? ⟨gb243,1,none⟩=some (.int .i64 0):=cA BK243 1
  have hfs16:=aQ BK243.out 1
  have hns16_0:=NB241_243.out
  have hms16_0:=NB243_241.out
  refine dp (w1:=?_) (by rfl) rfl ?_ ?_
  rotate_left
  ·
   go_simp
   rfl
  refine hK.out _ _ trivial (fun hHeld=>?_)
  clear hK K
  refine cL (bX HT_.out (by kernel_rfl)) ?_
 rotate_left 2
 ·
  try go_wp2
  have n0_:aA (((w14.setCell ⟨gb243,0,none⟩ (.int .i64 (wrap64 (Int.tdiv a0 t242)))).setCell ⟨gb243,1,none⟩ (.int .i64 (wrap64 (Int.tdiv a1 t242)))).heap[gb241]?=some (.cells #[.int .i64 0,.int .i64 0] 28 (0,0))):=⟨bkF BK241⟩
  have n1_:aA (((w14.setCell ⟨gb243,0,none⟩ (.int .i64 (wrap64 (Int.tdiv a0 t242)))).setCell ⟨gb243,1,none⟩ (.int .i64 (wrap64 (Int.tdiv a1 t242)))).heap[gb243]?=some (.cells #[.int .i64 (wrap64 (Int.tdiv a0 t242)),.int .i64 (wrap64 (Int.tdiv a1 t242))] 28 (0,0))):=⟨bpA BK243⟩
  have n2_:aA (Below w.heap.size w ((w14.setCell ⟨gb243,0,none⟩ (.int .i64 (wrap64 (Int.tdiv a0 t242)))).setCell ⟨gb243,1,none⟩ (.int .i64 (wrap64 (Int.tdiv a1 t242))))):=⟨blA⟩
  (try clear BK241)
  (try clear BK243)
  (try clear HB)
  generalize ((w14.setCell ⟨gb243,0,none⟩ (.int .i64 (wrap64 (Int.tdiv a0 t242)))).setCell ⟨gb243,1,none⟩ (.int .i64 (wrap64 (Int.tdiv a1 t242))))=w40 at n0_ n1_ n2_ ⊢
  have BK241:=n0_
  have BK243:=n1_
  have HB:=n2_
  clear n0_ n1_ n2_
  have n0_:=aA.mk (aK BK241.out)
  have n1_:=aA.mk (aK BK243.out)
  have n2_:=aA.mk (aV HB.out)
  clear BK241
  clear BK243
  clear HB
  have BK241:=n0_
  have BK243:=n1_
  have HB:=n2_
  clear n0_ n1_ n2_
  refine bf (n:=15) (S:=fun w'=>w'.cell? ⟨gb243,0,none⟩=some (.int .i64 (wrap64 (Int.tdiv a0 t242)))∧w'.cell? ⟨gb243,1,none⟩=some (.int .i64 (wrap64 (Int.tdiv a1 t242)))) (ds:=[]) #[Z,Z,Z,Z,Z,Z,Z,Z,Z,Z,Z,Z,Z,Z,Z] (by kernel_rfl) rfl rfl ⟨cA BK243 0,cA BK243 1⟩ (fun hHeld=>?_);refine bH aZ.tab7 aZ.bits7 (fun HT_ HW_=>?_)
  generalize w40.drew=w41 at BK241 BK243 HB hHeld ⊢
  refine puA (i:=1) (N:=some 26) #[Z,Y,Z,Z,Z,Z,Z,Z,Z,Z,Z,Z,Z,Z,Z] rfl rfl HT_ ?_
  refine taA (i:=0) (N:=some 25) #[Y,Y,Z,Z,Z,Z,Z,Z,Z,Z,Z,Z,Z,Z,Z] rfl rfl HT_ HW_ hHeld ?_
  refine taA (i:=2) (N:=some 27) #[Y,Y,Y,Z,Z,Z,Z,Z,Z,Z,Z,Z,Z,Z,Z] rfl rfl HT_ HW_ hHeld ?_
  refine puA (i:=3) (N:=some 28) #[Y,Y,Y,Y,Z,Z,Z,Z,Z,Z,Z,Z,Z,Z,Z] rfl rfl HT_ ?_
  refine puA (i:=4) (N:=some 29) #[Y,Y,Y,Y,Y,Z,Z,Z,Z,Z,Z,Z,Z,Z,Z] rfl rfl HT_ ?_
  refine puA (i:=5) (N:=some 30) #[Y,Y,Y,Y,Y,Y,Z,Z,Z,Z,Z,Z,Z,Z,Z] rfl rfl HT_ ?_
  refine puA (i:=7) (N:=some 32) #[Y,Y,Y,Y,Y,Y,Z,Y,Z,Z,Z,Z,Z,Z,Z] rfl rfl HT_ ?_
  refine taA (i:=6) (N:=some 31) #[Y,Y,Y,Y,Y,Y,Y,Y,Z,Z,Z,Z,Z,Z,Z] rfl rfl HT_ HW_ hHeld ?_
  refine taA (i:=8) (N:=some 33) #[Y,Y,Y,Y,Y,Y,Y,Y,Y,Z,Z,Z,Z,Z,Z] rfl rfl HT_ HW_ hHeld ?_
  refine puA (i:=9) (N:=some 34) #[Y,Y,Y,Y,Y,Y,Y,Y,Y,Y,Z,Z,Z,Z,Z] rfl rfl HT_ ?_
  refine puA (i:=10) (N:=some 35) #[Y,Y,Y,Y,Y,Y,Y,Y,Y,Y,Y,Z,Z,Z,Z] rfl rfl HT_ ?_
  refine puA (i:=11) (N:=some 36) #[Y,Y,Y,Y,Y,Y,Y,Y,Y,Y,Y,Y,Z,Z,Z] rfl rfl HT_ ?_
  refine puA (i:=12) (N:=some 37) #[Y,Y,Y,Y,Y,Y,Y,Y,Y,Y,Y,Y,Y,Z,Z] rfl rfl HT_ ?_
  refine bg (i:=13) (N:=none) #[Y,Y,Y,Y,Y,Y,Y,Y,Y,Y,Y,Y,Y,Y,Z] rfl rfl (az HT_.out (by kernel_rfl)) (by decide) (fun K hK=>?_)
  have hs42:w41.cell? ⟨gb241,0,none⟩=some (.int .i64 0):=cA BK241 0
  have hfs42:=aQ BK241.out 0
  have hns42_1:=NB243_241.out
  have hms42_1:=NB241_243.out
  have hs43:w41.cell? ⟨gb241,1,none⟩=some (.int .i64 0):=cA BK241 1
  have hfs43:=aQ BK241.out 1
  have hns43_1:=NB243_241.out
  have hms43_1:=NB241_243.out
  refine dp (w1:=?_) (by rfl) rfl ?_ ?_
  rotate_left
  ·
   go_simp
   rfl
  refine hK.out _ _ ⟨cfA hHeld.1,cfA hHeld.2⟩ (fun hHeld=>?_)
  clear hK K
  refine puA (i:=14) (N:=some 5) #[Y,Y,Y,Y,Y,Y,Y,Y,Y,Y,Y,Y,Y,Y,Y] rfl rfl HT_ ?_
  refine cL (bX HT_.out (by kernel_rfl)) ?_
  try go_wp2
  refine bodyPost_ret (bC rfl _ _ gb241 28 #[.int .i64 (wrap64 (Int.tdiv a0 t242)),.int .i64 (wrap64 (Int.tdiv a1 t242))] (0,0) _ rfl (bpA BK241) Try.underlying28 rfl (by kernel_rfl)) rfl ?_
  exact ⟨by first|rfl|(simp [bB,bA] <;> rfl)|(simp only [← hji33];first|rfl|(simp [bB,bA] <;> rfl))|(simp [*,bB,bA] <;> rfl),blA⟩
 ·
  try go_wp2
  have n0_:aA (((w14.setCell ⟨gb243,0,none⟩ (.int .i64 (wrap64 (Int.tdiv a0 t242)))).setCell ⟨gb243,1,none⟩ (.int .i64 (wrap64 (Int.tdiv a1 t242)))).heap[gb241]?=some (.cells #[.int .i64 0,.int .i64 0] 28 (0,0))):=⟨bkF BK241⟩
  have n1_:aA (((w14.setCell ⟨gb243,0,none⟩ (.int .i64 (wrap64 (Int.tdiv a0 t242)))).setCell ⟨gb243,1,none⟩ (.int .i64 (wrap64 (Int.tdiv a1 t242)))).heap[gb243]?=some (.cells #[.int .i64 (wrap64 (Int.tdiv a0 t242)),.int .i64 (wrap64 (Int.tdiv a1 t242))] 28 (0,0))):=⟨bpA BK243⟩
  have n2_:aA (Below w.heap.size w ((w14.setCell ⟨gb243,0,none⟩ (.int .i64 (wrap64 (Int.tdiv a0 t242)))).setCell ⟨gb243,1,none⟩ (.int .i64 (wrap64 (Int.tdiv a1 t242))))):=⟨blA⟩
  (try clear BK241)
  (try clear BK243)
  (try clear HB)
  generalize ((w14.setCell ⟨gb243,0,none⟩ (.int .i64 (wrap64 (Int.tdiv a0 t242)))).setCell ⟨gb243,1,none⟩ (.int .i64 (wrap64 (Int.tdiv a1 t242))))=w40 at n0_ n1_ n2_ ⊢
  have BK241:=n0_
  have BK243:=n1_
  have HB:=n2_
  clear n0_ n1_ n2_
  have n0_:=aA.mk (aK BK241.out)
  have n1_:=aA.mk (aK BK243.out)
  have n2_:=aA.mk (aV HB.out)
  clear BK241
  clear BK243
  clear HB
  have BK241:=n0_
  have BK243:=n1_
  have HB:=n2_
  clear n0_ n1_ n2_
  refine bf (n:=15) (S:=fun w'=>w'.cell? ⟨gb243,0,none⟩=some (.int .i64 (wrap64 (Int.tdiv a0 t242)))∧w'.cell? ⟨gb243,1,none⟩=some (.int .i64 (wrap64 (Int.tdiv a1 t242)))) (ds:=[]) #[Z,Z,Z,Z,Z,Z,Z,Z,Z,Z,Z,Z,Z,Z,Z] (by kernel_rfl) rfl rfl ⟨cA BK243 0,cA BK243 1⟩ (fun hHeld=>?_);refine bH aZ.tab7 aZ.bits7 (fun HT_ HW_=>?_)
  generalize w40.drew=w51 at BK241 BK243 HB hHeld ⊢
  refine puA (i:=1) (N:=some 26) #[Z,Y,Z,Z,Z,Z,Z,Z,Z,Z,Z,Z,Z,Z,Z] rfl rfl HT_ ?_
  refine taA (i:=0) (N:=some 25) #[Y,Y,Z,Z,Z,Z,Z,Z,Z,Z,Z,Z,Z,Z,Z] rfl rfl HT_ HW_ hHeld ?_
  refine taA (i:=2) (N:=some 27) #[Y,Y,Y,Z,Z,Z,Z,Z,Z,Z,Z,Z,Z,Z,Z] rfl rfl HT_ HW_ hHeld ?_
  refine puA (i:=3) (N:=some 28) #[Y,Y,Y,Y,Z,Z,Z,Z,Z,Z,Z,Z,Z,Z,Z] rfl rfl HT_ ?_
  refine puA (i:=4) (N:=some 29) #[Y,Y,Y,Y,Y,Z,Z,Z,Z,Z,Z,Z,Z,Z,Z] rfl rfl HT_ ?_
  refine puU (i:=5) (N:=some 30) #[Y,Y,Y,Y,Y,Y,Z,Z,Z,Z,Z,Z,Z,Z,Z] rfl rfl HT_ ?_
  refine puU (i:=6) (N:=some 31) #[Y,Y,Y,Y,Y,Y,Y,Z,Z,Z,Z,Z,Z,Z,Z] rfl rfl HT_ ?_
  refine puU (i:=7) (N:=some 32) #[Y,Y,Y,Y,Y,Y,Y,Y,Z,Z,Z,Z,Z,Z,Z] rfl rfl HT_ ?_
  refine puU (i:=8) (N:=some 33) #[Y,Y,Y,Y,Y,Y,Y,Y,Y,Z,Z,Z,Z,Z,Z] rfl rfl HT_ ?_
  refine puU (i:=9) (N:=some 34) #[Y,Y,Y,Y,Y,Y,Y,Y,Y,Y,Z,Z,Z,Z,Z] rfl rfl HT_ ?_
  refine puU (i:=10) (N:=some 35) #[Y,Y,Y,Y,Y,Y,Y,Y,Y,Y,Y,Z,Z,Z,Z] rfl rfl HT_ ?_
  refine puU (i:=11) (N:=some 36) #[Y,Y,Y,Y,Y,Y,Y,Y,Y,Y,Y,Y,Z,Z,Z] rfl rfl HT_ ?_
  refine puA (i:=12) (N:=some 37) #[Y,Y,Y,Y,Y,Y,Y,Y,Y,Y,Y,Y,Y,Z,Z] rfl rfl HT_ ?_
  refine bg (i:=13) (N:=none) #[Y,Y,Y,Y,Y,Y,Y,Y,Y,Y,Y,Y,Y,Y,Z] rfl rfl (az HT_.out (by kernel_rfl)) (by decide) (fun K hK=>?_)
  have hs52:w51.cell? ⟨gb241,0,none⟩=some (.int .i64 0):=cA BK241 0
  have hfs52:=aQ BK241.out 0
  have hns52_1:=NB243_241.out
  have hms52_1:=NB241_243.out
  have hs53:w51.cell? ⟨gb241,1,none⟩=some (.int .i64 0):=cA BK241 1
  have hfs53:=aQ BK241.out 1
  have hns53_1:=NB243_241.out
  have hms53_1:=NB241_243.out
  refine dp (w1:=?_) (by rfl) rfl ?_ ?_
  rotate_left
  ·
   go_simp
   rfl
  refine hK.out _ _ ⟨cfA hHeld.1,cfA hHeld.2⟩ (fun hHeld=>?_)
  clear hK K
  refine puA (i:=14) (N:=some 5) #[Y,Y,Y,Y,Y,Y,Y,Y,Y,Y,Y,Y,Y,Y,Y] rfl rfl HT_ ?_
  refine cL (bX HT_.out (by kernel_rfl)) ?_
  try go_wp2
  refine bodyPost_ret (bC rfl _ _ gb241 28 #[.int .i64 (wrap64 (Int.tdiv a0 t242)),.int .i64 (wrap64 (Int.tdiv a1 t242))] (0,0) _ rfl (bpA BK241) Try.underlying28 rfl (by kernel_rfl)) rfl ?_
  exact bU blA
 all_goals
  try go_wp2
  have n0_:aA (((w14.setCell ⟨gb243,0,none⟩ (.int .i64 (wrap64 (Int.tdiv a0 (wrap64 (-t242)))))).setCell ⟨gb243,1,none⟩ (.int .i64 (wrap64 (Int.tdiv a1 (wrap64 (-t242)))))).heap[gb241]?=some (.cells #[.int .i64 0,.int .i64 0] 28 (0,0))):=⟨bkF BK241⟩
  have n1_:aA (((w14.setCell ⟨gb243,0,none⟩ (.int .i64 (wrap64 (Int.tdiv a0 (wrap64 (-t242)))))).setCell ⟨gb243,1,none⟩ (.int .i64 (wrap64 (Int.tdiv a1 (wrap64 (-t242)))))).heap[gb243]?=some (.cells #[.int .i64 (wrap64 (Int.tdiv a0 (wrap64 (-t242)))),.int .i64 (wrap64 (Int.tdiv a1 (wrap64 (-t242))))] 28 (0,0))):=⟨bpA BK243⟩
  have n2_:aA (Below w.heap.size w ((w14.setCell ⟨gb243,0,none⟩ (.int .i64 (wrap64 (Int.tdiv a0 (wrap64 (-t242)))))).setCell ⟨gb243,1,none⟩ (.int .i64 (wrap64 (Int.tdiv a1 (wrap64 (-t242))))))):=⟨blA⟩
  (try clear BK241)
  (try clear BK243)
  (try clear HB)
  generalize ((w14.setCell ⟨gb243,0,none⟩ (.int .i64 (wrap64 (Int.tdiv a0 (wrap64 (-t242)))))).setCell ⟨gb243,1,none⟩ (.int .i64 (wrap64 (Int.tdiv a1 (wrap64 (-t242))))))=w17 at n0_ n1_ n2_ ⊢
  have BK241:=n0_
  have BK243:=n1_
  have HB:=n2_
  clear n0_ n1_ n2_
  have n0_:=aA.mk (aK BK241.out)
  have n1_:=aA.mk (aK BK243.out)
  have n2_:=aA.mk (aV HB.out)
  clear BK241
  clear BK243
  clear HB
  have BK241:=n0_
  have BK243:=n1_
  have HB:=n2_
  clear n0_ n1_ n2_
 ·
  refine bf (n:=15) (S:=fun w'=>w'.cell? ⟨gb243,0,none⟩=some (.int .i64 (wrap64 (Int.tdiv a0 (wrap64 (-t242)))))∧w'.cell? ⟨gb243,1,none⟩=some (.int .i64 (wrap64 (Int.tdiv a1 (wrap64 (-t242)))))) (ds:=[]) #[Z,Z,Z,Z,Z,Z,Z,Z,Z,Z,Z,Z,Z,Z,Z] (by kernel_rfl) rfl rfl ⟨cA BK243 0,cA BK243 1⟩ (fun hHeld=>?_);refine bH aZ.tab7 aZ.bits7 (fun HT_ HW_=>?_)
  generalize w17.drew=w18 at BK241 BK243 HB hHeld ⊢
  refine puA (i:=1) (N:=some 26) #[Z,Y,Z,Z,Z,Z,Z,Z,Z,Z,Z,Z,Z,Z,Z] rfl rfl HT_ ?_
  refine taA (i:=0) (N:=some 25) #[Y,Y,Z,Z,Z,Z,Z,Z,Z,Z,Z,Z,Z,Z,Z] rfl rfl HT_ HW_ hHeld ?_
  refine taA (i:=2) (N:=some 27) #[Y,Y,Y,Z,Z,Z,Z,Z,Z,Z,Z,Z,Z,Z,Z] rfl rfl HT_ HW_ hHeld ?_
  refine puA (i:=3) (N:=some 28) #[Y,Y,Y,Y,Z,Z,Z,Z,Z,Z,Z,Z,Z,Z,Z] rfl rfl HT_ ?_
  refine puA (i:=4) (N:=some 29) #[Y,Y,Y,Y,Y,Z,Z,Z,Z,Z,Z,Z,Z,Z,Z] rfl rfl HT_ ?_
  refine puA (i:=5) (N:=some 30) #[Y,Y,Y,Y,Y,Y,Z,Z,Z,Z,Z,Z,Z,Z,Z] rfl rfl HT_ ?_
  refine puA (i:=7) (N:=some 32) #[Y,Y,Y,Y,Y,Y,Z,Y,Z,Z,Z,Z,Z,Z,Z] rfl rfl HT_ ?_
  refine taA (i:=6) (N:=some 31) #[Y,Y,Y,Y,Y,Y,Y,Y,Z,Z,Z,Z,Z,Z,Z] rfl rfl HT_ HW_ hHeld ?_
  refine taA (i:=8) (N:=some 33) #[Y,Y,Y,Y,Y,Y,Y,Y,Y,Z,Z,Z,Z,Z,Z] rfl rfl HT_ HW_ hHeld ?_
  refine puA (i:=9) (N:=some 34) #[Y,Y,Y,Y,Y,Y,Y,Y,Y,Y,Z,Z,Z,Z,Z] rfl rfl HT_ ?_
  refine puA (i:=10) (N:=some 35) #[Y,Y,Y,Y,Y,Y,Y,Y,Y,Y,Y,Z,Z,Z,Z] rfl rfl HT_ ?_
  refine puA (i:=11) (N:=some 36) #[Y,Y,Y,Y,Y,Y,Y,Y,Y,Y,Y,Y,Z,Z,Z] rfl rfl HT_ ?_
  refine puA (i:=12) (N:=some 37) #[Y,Y,Y,Y,Y,Y,Y,Y,Y,Y,Y,Y,Y,Z,Z] rfl rfl HT_ ?_
  refine bg (i:=13) (N:=none) #[Y,Y,Y,Y,Y,Y,Y,Y,Y,Y,Y,Y,Y,Y,Z] rfl rfl (az HT_.out (by kernel_rfl)) (by decide) (fun K hK=>?_)
  have hs19:w18.cell? ⟨gb241,0,none⟩=some (.int .i64 0):=cA BK241 0
  have hfs19:=aQ BK241.out 0
  have hns19_1:=NB243_241.out
  have hms19_1:=NB241_243.out
  have hs20:w18.cell? ⟨gb241,1,none⟩=some (.int .i64 0):=cA BK241 1
  have hfs20:=aQ BK241.out 1
  have hns20_1:=NB243_241.out
  have hms20_1:=NB241_243.out
  refine dp (w1:=?_) (by rfl) rfl ?_ ?_
  rotate_left
  ·
   go_simp
   rfl
  refine hK.out _ _ ⟨cfA hHeld.1,cfA hHeld.2⟩ (fun hHeld=>?_)
  clear hK K
  refine puA (i:=14) (N:=some 5) #[Y,Y,Y,Y,Y,Y,Y,Y,Y,Y,Y,Y,Y,Y,Y] rfl rfl HT_ ?_
  refine cL (bX HT_.out (by kernel_rfl)) ?_
  try go_wp2
  refine bodyPost_ret (bC rfl _ _ gb241 28 #[.int .i64 (wrap64 (Int.tdiv a0 (wrap64 (-t242)))),.int .i64 (wrap64 (Int.tdiv a1 (wrap64 (-t242))))] (0,0) _ rfl (bpA BK241) Try.underlying28 rfl (by kernel_rfl)) rfl ?_
  exact ⟨by first|rfl|(simp [bB,bA] <;> rfl)|(simp only [← hji10];first|rfl|(simp [bB,bA] <;> rfl))|(simp [*,bB,bA] <;> rfl),blA⟩
 ·
  refine bf (n:=15) (S:=fun w'=>w'.cell? ⟨gb243,0,none⟩=some (.int .i64 (wrap64 (Int.tdiv a0 (wrap64 (-t242)))))∧w'.cell? ⟨gb243,1,none⟩=some (.int .i64 (wrap64 (Int.tdiv a1 (wrap64 (-t242)))))) (ds:=[]) #[Z,Z,Z,Z,Z,Z,Z,Z,Z,Z,Z,Z,Z,Z,Z] (by kernel_rfl) rfl rfl ⟨cA BK243 0,cA BK243 1⟩ (fun hHeld=>?_);refine bH aZ.tab7 aZ.bits7 (fun HT_ HW_=>?_)
  generalize w17.drew=w28 at BK241 BK243 HB hHeld ⊢
  refine puA (i:=1) (N:=some 26) #[Z,Y,Z,Z,Z,Z,Z,Z,Z,Z,Z,Z,Z,Z,Z] rfl rfl HT_ ?_
  refine taA (i:=0) (N:=some 25) #[Y,Y,Z,Z,Z,Z,Z,Z,Z,Z,Z,Z,Z,Z,Z] rfl rfl HT_ HW_ hHeld ?_
  refine taA (i:=2) (N:=some 27) #[Y,Y,Y,Z,Z,Z,Z,Z,Z,Z,Z,Z,Z,Z,Z] rfl rfl HT_ HW_ hHeld ?_
  refine puA (i:=3) (N:=some 28) #[Y,Y,Y,Y,Z,Z,Z,Z,Z,Z,Z,Z,Z,Z,Z] rfl rfl HT_ ?_
  refine puA (i:=4) (N:=some 29) #[Y,Y,Y,Y,Y,Z,Z,Z,Z,Z,Z,Z,Z,Z,Z] rfl rfl HT_ ?_
  refine puU (i:=5) (N:=some 30) #[Y,Y,Y,Y,Y,Y,Z,Z,Z,Z,Z,Z,Z,Z,Z] rfl rfl HT_ ?_
  refine puU (i:=6) (N:=some 31) #[Y,Y,Y,Y,Y,Y,Y,Z,Z,Z,Z,Z,Z,Z,Z] rfl rfl HT_ ?_
  refine puU (i:=7) (N:=some 32) #[Y,Y,Y,Y,Y,Y,Y,Y,Z,Z,Z,Z,Z,Z,Z] rfl rfl HT_ ?_
  refine puU (i:=8) (N:=some 33) #[Y,Y,Y,Y,Y,Y,Y,Y,Y,Z,Z,Z,Z,Z,Z] rfl rfl HT_ ?_
  refine puU (i:=9) (N:=some 34) #[Y,Y,Y,Y,Y,Y,Y,Y,Y,Y,Z,Z,Z,Z,Z] rfl rfl HT_ ?_
  refine puU (i:=10) (N:=some 35) #[Y,Y,Y,Y,Y,Y,Y,Y,Y,Y,Y,Z,Z,Z,Z] rfl rfl HT_ ?_
  refine puU (i:=11) (N:=some 36) #[Y,Y,Y,Y,Y,Y,Y,Y,Y,Y,Y,Y,Z,Z,Z] rfl rfl HT_ ?_
  refine puA (i:=12) (N:=some 37) #[Y,Y,Y,Y,Y,Y,Y,Y,Y,Y,Y,Y,Y,Z,Z] rfl rfl HT_ ?_
  refine bg (i:=13) (N:=none) #[Y,Y,Y,Y,Y,Y,Y,Y,Y,Y,Y,Y,Y,Y,Z] rfl rfl (az HT_.out (by kernel_rfl)) (by decide) (fun K hK=>?_)
  have hs29:w28.cell? ⟨gb241,0,none⟩=some (.int .i64 0):=cA BK241 0
  have hfs29:=aQ BK241.out 0
  have hns29_1:=NB243_241.out
  have hms29_1:=NB241_243.out
  have hs30:w28.cell? ⟨gb241,1,none⟩=some (.int .i64 0):=cA BK241 1
  have hfs30:=aQ BK241.out 1
  have hns30_1:=NB243_241.out
  have hms30_1:=NB241_243.out
  refine dp (w1:=?_) (by rfl) rfl ?_ ?_
  rotate_left
  ·
   go_simp
   rfl
  refine hK.out _ _ ⟨cfA hHeld.1,cfA hHeld.2⟩ (fun hHeld=>?_)
  clear hK K
  refine puA (i:=14) (N:=some 5) #[Y,Y,Y,Y,Y,Y,Y,Y,Y,Y,Y,Y,Y,Y,Y] rfl rfl HT_ ?_
  refine cL (bX HT_.out (by kernel_rfl)) ?_
  try go_wp2
  refine bodyPost_ret (bC rfl _ _ gb241 28 #[.int .i64 (wrap64 (Int.tdiv a0 (wrap64 (-t242)))),.int .i64 (wrap64 (Int.tdiv a1 (wrap64 (-t242))))] (0,0) _ rfl (bpA BK241) Try.underlying28 rfl (by kernel_rfl)) rfl ?_
  exact bU blA
end Go.Proofs.Ytpihnmmoahplgaa.PAll
