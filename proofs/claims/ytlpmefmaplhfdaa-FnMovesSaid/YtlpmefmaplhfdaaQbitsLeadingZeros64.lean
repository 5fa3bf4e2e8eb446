-- turned out of the kit's print
import Derived.Test.YtlpmefmaplhfdaaQx
namespace Go.Proofs.Ytlpmefmaplhfdaa.PAll
open Go.RowKit Go.Proofs.YtlpmefmaplhfdaaW.PrintWords Go.Proofs.YtlpmefmaplhfdaaW.PrintLast Go.Proofs.YtlpmefmaplhfdaaW.PrintMore
attribute [local go_sem] Go.Proofs.Ytlpmefmaplhfdaa.Aux.setCell_drewN Go.Proofs.Ytlpmefmaplhfdaa.Aux.isSome_setCell max2_int min2_int max_two min_two max_three min_three max_four min_four
set_option linter.unusedVariables false
set_option linter.unusedSimpArgs false
def laws_big.f (l0:List Int):Option (Bool):=some (decide ((l0.length:Int)>4096))
set_option maxHeartbeats 8000000 in
set_option maxRecDepth 100000 in
theorem laws_big.calls (A0:Option Addr) (c0:Nat) (l0:List Int) (r:Bool) (w:World) (hr0:Kd.C (Kd.int .u8) w A0 l0.length l0) (hc0:l0.length≤c0) (h:laws_big.f l0=some r) :
  Calls Try.prog 6 #[.slice A0 l0.length c0] w fun e w'=>e=.returned (.bool r)∧Drawn0 w w':=by
 have HR0:=Aside0.mk hr0
 have HC0:=Aside0.mk hc0
 clear hr0 hc0
 have H:=h
 unfold laws_big.f at H
 clear h
 obtain rfl:=Option.some.inj H
 go_enter Try.func6,Try.ntmps6
 go_wp2
 go_ret
 exact ⟨by first|rfl|(simp;done)|(simp [*];done),by repeat (first|exact Drawn0.refl _|apply Drawn0.step)⟩

/-- A state of type 116 at block g of W; what its slices lead to came in by w0. -/
def IsS116 (w0 W:World) (g:Nat) (f0:List Int) (f1 f2:Int):Prop:=∃ A0 c0,W.heap[g]?=some (.cells #[.slice A0 f0.length c0,.int .i64 f1,.int .u64 f2] 116 (0,0))∧w0.heap.size≤g∧Kd.C (Kd.int .u8) w0 A0 f0.length f0
theorem IsS116.grown {w0 W:World} {g:Nat} {f0:List Int} {f1:Int} {f2:Int} {W1:World} {row:Option Nat} (h:IsS116 w0 W g f0 f1 f2) (hw:W.grownBy W1 row) (hne:some g≠row):IsS116 w0 W1 g f0 f1 f2:=by
 obtain ⟨A0,c0,hb,hg,hr0⟩:=h
 exact ⟨A0,c0,blk_grown hb hw hne,hg,hr0⟩
theorem IsS116.own_neN {w0 W:World} {g:Nat} {f0:List Int} {f1:Int} {f2:Int} {α:Type} {d:Kd α} {e:Nat} {base:Nat} {ok:Nat→Prop} {v:Value} {xs:List α} (h:IsS116 w0 W g f0 f1 f2) (ho:Kd.N d e W base ok v xs) (ht:e≠116):some g≠v.ownBlock:=by
 obtain ⟨A0,c0,hb,hg,hr0⟩:=h
 exact Kd.N_ne ho hb ht
theorem IsS116.fresh {w0 W:World} {g:Nat} {f0:List Int} {f1:Int} {f2:Int} (h:IsS116 w0 W g f0 f1 f2):∀ k,W.heap.size≤k→k≠g:=by
 obtain ⟨A0,c0,hb,hg,hr0⟩:=h
 exact Kd.freshB hb
theorem IsS116.kept {w0 W:World} {g:Nat} {f0:List Int} {f1:Int} {f2:Int} {W1:World} {S:Nat→Prop} (h:IsS116 w0 W g f0 f1 f2) (hk:Kept W W1 S) (hne:¬ S g):IsS116 w0 W1 g f0 f1 f2:=by
 obtain ⟨A0,c0,hb,hg,hr0⟩:=h
 exact ⟨A0,c0,blk_kept hb hk hne,hg,hr0⟩
theorem IsS116.below {w0 W:World} {g:Nat} {f0:List Int} {f1:Int} {f2:Int} {W1:World} (h:IsS116 w0 W g f0 f1 f2) (hw:Below W.heap.size W W1):IsS116 w0 W1 g f0 f1 f2:=h.grown (grown_of_below hw none) (by simp)
theorem IsS116.alloc {w0 W:World} {g:Nat} {f0:List Int} {f1:Int} {f2:Int} (h:IsS116 w0 W g f0 f1 f2) (o:Obj):IsS116 w0 (W.alloc o) g f0 f1 f2:=h.below (below_alloc (Below.refl _ _) o)
theorem IsS116.drewN {w0 W:World} {g:Nat} {f0:List Int} {f1:Int} {f2:Int} (h:IsS116 w0 W g f0 f1 f2) (m:Nat):IsS116 w0 (W.drewN m) g f0 f1 f2:=h
theorem IsS116.drew {w0 W:World} {g:Nat} {f0:List Int} {f1:Int} {f2:Int} (h:IsS116 w0 W g f0 f1 f2):IsS116 w0 W.drew g f0 f1 f2:=h
theorem IsS116.at_ {w0 W:World} {g:Nat} {f0:List Int} {f1:Int} {f2:Int} {w':World} {m:Nat} (hq:W.drewN m=w') (h:IsS116 w0 W g f0 f1 f2):IsS116 w0 w' g f0 f1 f2:=by subst hq;exact IsS116.drewN h m
theorem IsS116.apart {w0 W:World} {g:Nat} {f0:List Int} {f1:Int} {f2:Int} {α:Type} {d:Kd α} {e:Nat} {base:Nat} {ok:Nat→Prop} {v:Value} {xs:List α} (h:IsS116 w0 W g f0 f1 f2) (ho:d.R e W base ok v xs) (ht:∀ q,q ∈ e :: d.E→q≠116):d.R e W base (fun k=>ok k∧k≠g) v xs:=by
 obtain ⟨A0,c0,hb,hg,hr0⟩:=h
 exact Kd.R_types ho hb ht
theorem IsS116.own_ne {w0 W:World} {g:Nat} {f0:List Int} {f1:Int} {f2:Int} {α:Type} {d:Kd α} {e:Nat} {base:Nat} {ok:Nat→Prop} {v:Value} {xs:List α} (h:IsS116 w0 W g f0 f1 f2) (ho:d.R e W base ok v xs) (ht:e≠116):some g≠v.ownBlock:=by
 obtain ⟨A0,c0,hb,hg,hr0⟩:=h
 exact Kd.R_ne ho hb ht
theorem IsS116.apartQ {w0 W:World} {g:Nat} {f0:List Int} {f1:Int} {f2:Int} {α:Type} {d:Kd α} {e:Nat} {base:Nat} {ok:Nat→Prop} {v:Value} {xs:List α} (h:IsS116 w0 W g f0 f1 f2) (ho:d.Q e W base ok v xs) (ht:∀ q,q ∈ e :: d.E→q≠116):d.Q e W base (fun k=>ok k∧k≠g) v xs:=by
 obtain ⟨A0,c0,hb,hg,hr0⟩:=h
 exact Kd.Q_types ho hb ht
theorem IsS116.own_neQ {w0 W:World} {g:Nat} {f0:List Int} {f1:Int} {f2:Int} {α:Type} {d:Kd α} {e:Nat} {base:Nat} {ok:Nat→Prop} {v:Value} {xs:List α} (h:IsS116 w0 W g f0 f1 f2) (ho:d.Q e W base ok v xs) (ht:e≠116):some g≠v.ownBlock:=by
 obtain ⟨A0,c0,hb,hg,hr0⟩:=h
 exact Kd.Q_ne ho hb ht
theorem IsS116.apartS {w0 W:World} {g:Nat} {f0:List Int} {f1:Int} {f2:Int} {α:Type} {d:Kd α} {e:Nat} {base:Nat} {ok:Nat→Prop} {v:Value} {xs:List α} (h:IsS116 w0 W g f0 f1 f2) (ho:d.S e W base ok v xs) (ht:∀ q,q ∈ e :: d.E→q≠116):d.S e W base (fun k=>ok k∧k≠g) v xs:=by
 obtain ⟨A0,c0,hb,hg,hr0⟩:=h
 exact Kd.S_types ho hb ht
theorem IsS116.own_neS {w0 W:World} {g:Nat} {f0:List Int} {f1:Int} {f2:Int} {α:Type} {d:Kd α} {e:Nat} {base:Nat} {ok:Nat→Prop} {v:Value} {xs:List α} (h:IsS116 w0 W g f0 f1 f2) (ho:d.S e W base ok v xs) (ht:e≠116):some g≠v.ownBlock:=by
 obtain ⟨A0,c0,hb,hg,hr0⟩:=h
 exact Kd.S_ne ho hb ht
theorem IsS116.lt {w0 W:World} {g:Nat} {f0:List Int} {f1:Int} {f2:Int} (h:IsS116 w0 W g f0 f1 f2):g<W.heap.size:=by
 obtain ⟨A0,c0,hb,hg,hr0⟩:=h
 exact blk_lt hb
theorem IsS116.ge {w0 W:World} {g:Nat} {f0:List Int} {f1:Int} {f2:Int} (h:IsS116 w0 W g f0 f1 f2):w0.heap.size≤g:=by
 obtain ⟨A0,c0,hb,hg,hr0⟩:=h
 exact hg
theorem IsS116.ne_blk {w0 W:World} {g:Nat} {f0:List Int} {f1:Int} {f2:Int} {a:Nat} {cs:Array Value} {t:TypeId} {fr:Nat × Nat} (h:IsS116 w0 W g f0 f1 f2) (hb2:W.heap[a]?=some (.cells cs t fr)) (ht:t≠116):g≠a:=by
 obtain ⟨A0,c0,hb,hg,hr0⟩:=h
 rintro rfl
 rw [hb] at hb2
 injection hb2 with hb2
 injection hb2 with _ ht2
 exact ht ht2.symm
theorem IsS116.far {w0 W:World} {g:Nat} {f0:List Int} {f1:Int} {f2:Int} {p:Addr} (h:IsS116 w0 W g f0 f1 f2) (hne:g≠p.block) (u:Value):IsS116 w0 (W.setCell p u) g f0 f1 f2:=by
 obtain ⟨A0,c0,hb,hg,hr0⟩:=h
 exact ⟨A0,c0,blk_far hb hne u,hg,hr0⟩
theorem cellS116_0 {W:World} {g:Nat} {A0:Option Addr} {c0:Nat} {f0:List Int} {f1:Int} {f2:Int} (h:W.heap[g]?=some (.cells #[.slice A0 f0.length c0,.int .i64 f1,.int .u64 f2] 116 (0,0))):W.cell? ⟨g,0,none⟩=some (.slice A0 f0.length c0):=(blk_cell h 0).trans rfl
theorem cellS116_1 {W:World} {g:Nat} {A0:Option Addr} {c0:Nat} {f0:List Int} {f1:Int} {f2:Int} (h:W.heap[g]?=some (.cells #[.slice A0 f0.length c0,.int .i64 f1,.int .u64 f2] 116 (0,0))):W.cell? ⟨g,1,none⟩=some (.int .i64 f1):=(blk_cell h 1).trans rfl
theorem IsS116.set_1 {w0 W:World} {g:Nat} {f0:List Int} {f1:Int} {f2:Int} (h:IsS116 w0 W g f0 f1 f2) (x:Int):IsS116 w0 (W.setCell ⟨g,1,none⟩ (.int .i64 x)) g f0 x f2:=by
 obtain ⟨A0,c0,hb,hg,hr0⟩:=h
 exact ⟨A0,c0,by simpa using blk_set hb 1 (.int .i64 x),hg,hr0⟩
theorem cellS116_2 {W:World} {g:Nat} {A0:Option Addr} {c0:Nat} {f0:List Int} {f1:Int} {f2:Int} (h:W.heap[g]?=some (.cells #[.slice A0 f0.length c0,.int .i64 f1,.int .u64 f2] 116 (0,0))):W.cell? ⟨g,2,none⟩=some (.int .u64 f2):=(blk_cell h 2).trans rfl
theorem IsS116.set_2 {w0 W:World} {g:Nat} {f0:List Int} {f1:Int} {f2:Int} (h:IsS116 w0 W g f0 f1 f2) (x:Int):IsS116 w0 (W.setCell ⟨g,2,none⟩ (.int .u64 x)) g f0 f1 x:=by
 obtain ⟨A0,c0,hb,hg,hr0⟩:=h
 exact ⟨A0,c0,by simpa using blk_set hb 2 (.int .u64 x),hg,hr0⟩
theorem IsS116.new (w0 W:World) (A0:Option Addr) (c0:Nat) (f0:List Int) (f1 f2:Int) (hB:Below w0.heap.size w0 W) (hr0:Kd.C (Kd.int .u8) w0 A0 f0.length f0):IsS116 w0 (W.alloc (.cells #[.slice A0 f0.length c0,.int .i64 f1,.int .u64 f2] 116)) W.heap.size f0 f1 f2:=⟨A0,c0,by simpa using heap_alloc_new W _,hB.size,hr0⟩
def spec_l01From.l0:Nat→List Int→Int→List Int→Int→Int→Option (List Int × Int × Int)
 | 0,_,_,_,_,_=>none
 | k+1,x0,x4,x102000,x102001,x102002=>if x4<(x0.length:Int) then (if x4<4096 then (if 0≤x4 then (spec_l01From.l0 k x0 (wrap64 (x4+1)) x102000 x102001 (IntKind.u64.wrap ((IntKind.u64.wrap ((IntKind.u64.wrap (x102002*1099511628211))+(IntKind.u64.wrap (rd x0 x4))))+71))) else (none)) else (some (x102000,x102001,x102002))) else (some (x102000,x102001,x102002))
def spec_l01From.f (k:Nat) (l0:List Int):Option (List Int × Int × Int):=spec_l01From.l0 k l0 0 l0 0 (IntKind.u64.wrap (12527+(IntKind.u64.wrap ((l0.length:Int)))))
theorem spec_l01From.mono_l:∀ k,(∀ y0 y1 y2 y3 y4,LeO (spec_l01From.l0 k y0 y1 y2 y3 y4) (spec_l01From.l0 (k+1) y0 y1 y2 y3 y4))
 | 0=>fun _ _ _ _ _ r h=>by simp [spec_l01From.l0] at h
 | k+1=>by
  have ih0:=spec_l01From.mono_l k
  ·
   intro y0 y1 y2 y3 y4
   unfold spec_l01From.l0
   repeat' first
   | with_reducible first|exact ih0 ..|exact LeO.refl _|exact LeO.none _|refine LeO.ite ?_ ?_|refine LeO.bind ?_ fun _=>?_
theorem spec_l01From.mono:∀ a0 k,LeO (spec_l01From.f k a0) (spec_l01From.f (k+1) a0):=by
 intro a0 k
 have ih0:=spec_l01From.mono_l k
 unfold spec_l01From.f
 repeat' first
   | with_reducible first|exact ih0 ..|exact LeO.refl _|exact LeO.none _|refine LeO.ite ?_ ?_|refine LeO.bind ?_ fun _=>?_
def spec_l01From.T5:Bool × List (List Nat × List Nat):=(true,[([],[]),([],[]),([1],[1]),([2],[2]),([3],[3]),([4],[4]),([],[]),([],[]),([6,7],[6,7]),([8],[8]),([9],[9]),([5,10],[5,10]),([11],[11]),([0,0,1,2,3,4,5,6,7,8,9,10,11,12],[0]),([13,0,1,2,3,4,5,6,7,8,9,10,11,12],[13]),([14,12,0,1,2,3,4,5,6,7,8,9,10,11,12],[12,14])])
def spec_l01From.B5:List Nat:=[0,0,2,6,14,30,0,0,192,448,960,2046,4094,8191,16383,32767]
theorem spec_l01From.tab5:rtab .any (opsOf Try.f47 5)=spec_l01From.T5:=by kernel_rfl
theorem spec_l01From.bits5:waitsOk spec_l01From.T5.2 spec_l01From.B5=true:=by kernel_rfl
set_option maxHeartbeats 8000000 in
set_option maxRecDepth 100000 in
theorem spec_l01From.calls (k:Nat) (A0:Option Addr) (c0:Nat) (l0 r1:List Int) (r2 r3:Int) (w0 w:World) (hB:Below w0.heap.size w0 w) (hr0:Kd.C (Kd.int .u8) w0 A0 l0.length l0) (hc0:l0.length≤c0) (h:spec_l01From.f k l0=some (r1,r2,r3)) :
  Calls Try.prog 47 #[.slice A0 l0.length c0] w fun e w'=>∃ g_:Nat,e=.returned (.pointer (some ⟨g_,0,none⟩))∧IsS116 w0 w' g_ r1 r2 r3∧Below w0.heap.size w0 w'∧Below w.heap.size w w':=by
 have hu116:=Try.underlying116
 have HR0:=Aside0.mk hr0
 have HC0:=Aside0.mk hc0
 clear hr0 hc0
 have HBW:=Aside0.mk (Below.refl w.heap.size w)
 have HW0:=Aside0.mk hB.size
 have HB:=Aside0.mk hB
 clear hB
 have H:=h
 unfold spec_l01From.f at H
 clear h
 have H':=Aside0.mk H
 clear H
 go_enter Try.func47,Try.ntmps47
 go_wp2_with (first|((with_reducible refine gate_dst (N:=11) rfl ?_);refine bxE (cs:=#[.slice A0 l0.length c0,.int .i64 0,.int .u64 (IntKind.u64.wrap (12527+(IntKind.u64.wrap ((l0.length:Int)))))]) (t:=116) ?_;intro gb101 hg w2 hbox hb;have n0_:=Aside0.mk (below_step HBW.out hb);have n1_:=lB hb;have n2_:=Aside0.mk hbox;have n3_:=Aside0.mk (szA hg bwA);have n4_:=Aside0.mk ((Nat.le_trans HW0.out (szA hg bwA):w0.heap.size≤gb101));clear HBW;clear HB;have HBW:=n0_;have HB:=n1_;have BK101:=n2_;have GW101:=n3_;have GE101:=n4_;clear n0_ n1_ n2_ n3_ n4_;clear hb hbox hg))
 go_loopg [4] k (fun kq v4 w'=>∃ (x4_1:Int) (x102002_1:Int),v4=.int .i64 x4_1∧Aside0 (spec_l01From.l0 kq l0 x4_1 l0 0 x102002_1=some (r1,r2,r3))∧Aside0 (kq≤k)∧Aside0 (w'.heap[gb101]?=some (.cells #[(.slice A0 l0.length c0),.int .i64 0,.int .u64 x102002_1] 116 (0,0)))∧Aside0 (Below w0.heap.size w0 w')∧Aside0 (Below w.heap.size w w'))
 case atStart=>exact ⟨(0),(IntKind.u64.wrap (12527+(IntKind.u64.wrap ((l0.length:Int))))),hB,H',⟨Nat.le_refl _⟩,⟨bkA BK101⟩,⟨blA⟩,⟨bwA⟩⟩
 case round=>
  clear H'
  obtain ⟨x4_1,x102002_1,rfl,HA,HK1,BK101,HB,HBW⟩:=hrel
  cases gk with
  | zero=>exact absurd HA.out (by simp [spec_l01From.l0])
  | succ k1=>
   have H:=HA.out
   clear HA
   simp only [spec_l01From.l0] at H
   by_cases c3:x4_1<(l0.length:Int)
   ·
    rw [if_pos c3] at H
    have c3b0:=decide_eq_true c3
    clear c3
    by_cases c4:x4_1<4096
    ·
     rw [if_pos c4] at H
     have c4b0:=decide_eq_true c4
     clear c4
     by_cases c5:0≤x4_1
     rotate_left
     ·
      rw [if_neg c5] at H
      exact absurd H (by simp)
     rw [if_pos c5] at H
     have c5b0:=decide_eq_true c5
     clear c5
     have H':=Aside0.mk H
     clear H
     try go_wp2
     have n0_:=Aside0.mk (blk_drew BK101.out)
     have n1_:=Aside0.mk (below_drew1 HB.out)
     have nw_:=Aside0.mk (below_drew1 HBW.out)
     clear HBW
     have HBW:=nw_
     clear nw_
     clear BK101
     clear HB
     have BK101:=n0_
     have HB:=n1_
     clear n0_ n1_
     have p102:0≤(x4_1:Int):=dA
     have q102:x4_1<(l0.length:Int):=dA
     obtain ⟨ad102,e102,hx102_0⟩:=Kd.at_int HR0.out x4_1 p102 q102
     have hw102_0:=hx102_0
     cases e102
     replace hx102_0:=pw_cell_below HB.out hx102_0
     replace p102:=eq_true p102
     replace q102:=eq_true q102
     refine start_ (n:=16) (S:=fun w'=>w'.cell? ⟨gb101,0,none⟩=some (.slice (some ad102) l0.length c0)∧w'.cell? ⟨gb101,1,none⟩=some (.int .i64 0)∧w'.cell? ⟨gb101,2,none⟩=some (.int .u64 x102002_1)∧w'.cell? (ad102.add (x4_1).toNat)=some (.int .u8 (rd l0 x4_1))) (ds:=[15]) #[Z,Z,Z,Z,Z,Z,Z,Z,Z,Z,Z,Z,Z,Z,Z,Z] (by kernel_rfl) rfl rfl ⟨cA BK101 0,cA BK101 1,cA BK101 2,((HB.out.cell (World.block_lt_of_cell? _ _ hw102_0)).trans hw102_0)⟩ (fun hHeld=>?_);refine with_tabW spec_l01From.tab5 spec_l01From.bits5 (fun HT_ HW_=>?_)
     generalize wr.drew=w6 at BK101 HB HBW hx102_0 hHeld ⊢
     refine puA (i:=0) (N:=some 22) #[Y,Z,Z,Z,Z,Z,Z,Z,Z,Z,Z,Z,Z,Z,Z,Z] rfl rfl HT_ ?_
     refine puA (i:=1) (N:=some 23) #[Y,Y,Z,Z,Z,Z,Z,Z,Z,Z,Z,Z,Z,Z,Z,Z] rfl rfl HT_ ?_
     refine puA (i:=2) (N:=some 24) #[Y,Y,Y,Z,Z,Z,Z,Z,Z,Z,Z,Z,Z,Z,Z,Z] rfl rfl HT_ ?_
     refine puA (i:=3) (N:=some 25) #[Y,Y,Y,Y,Z,Z,Z,Z,Z,Z,Z,Z,Z,Z,Z,Z] rfl rfl HT_ ?_
     refine puA (i:=6) (N:=some 28) #[Y,Y,Y,Y,Z,Z,Y,Z,Z,Z,Z,Z,Z,Z,Z,Z] rfl rfl HT_ ?_
     refine puA (i:=7) (N:=some 29) #[Y,Y,Y,Y,Z,Z,Y,Y,Z,Z,Z,Z,Z,Z,Z,Z] rfl rfl HT_ ?_
     refine puA (i:=8) (N:=some 30) #[Y,Y,Y,Y,Z,Z,Y,Y,Y,Z,Z,Z,Z,Z,Z,Z] rfl rfl HT_ ?_
     refine taA (i:=4) (N:=some 26) #[Y,Y,Y,Y,Y,Z,Y,Y,Y,Z,Z,Z,Z,Z,Z,Z] rfl rfl HT_ HW_ hHeld ?_
     refine puA (i:=5) (N:=some 27) #[Y,Y,Y,Y,Y,Y,Y,Y,Y,Z,Z,Z,Z,Z,Z,Z] rfl rfl HT_ ?_
     refine taA (i:=9) (N:=some 31) #[Y,Y,Y,Y,Y,Y,Y,Y,Y,Y,Z,Z,Z,Z,Z,Z] rfl rfl HT_ HW_ hHeld ?_
     refine puA (i:=10) (N:=some 32) #[Y,Y,Y,Y,Y,Y,Y,Y,Y,Y,Y,Z,Z,Z,Z,Z] rfl rfl HT_ ?_
     refine puA (i:=11) (N:=some 33) #[Y,Y,Y,Y,Y,Y,Y,Y,Y,Y,Y,Y,Z,Z,Z,Z] rfl rfl HT_ ?_
     refine puA (i:=12) (N:=some 34) #[Y,Y,Y,Y,Y,Y,Y,Y,Y,Y,Y,Y,Y,Z,Z,Z] rfl rfl HT_ ?_
     refine puA (i:=13) (N:=some 35) #[Y,Y,Y,Y,Y,Y,Y,Y,Y,Y,Y,Y,Y,Y,Z,Z] rfl rfl HT_ ?_
     refine puA (i:=14) (N:=some 36) #[Y,Y,Y,Y,Y,Y,Y,Y,Y,Y,Y,Y,Y,Y,Y,Z] rfl rfl HT_ ?_
     refine last_ (i:=15) (N:=none) #[Y,Y,Y,Y,Y,Y,Y,Y,Y,Y,Y,Y,Y,Y,Y,Y] rfl rfl (one_of HT_.out (by kernel_rfl)) (by decide) (fun K hK=>?_)
     have hs7:w6.cell? ⟨gb101,2,none⟩=some (.int .u64 x102002_1):=cA BK101 2
     have hfs7:=blk_frozen BK101.out 2
     refine skip_ (w1:=?_) (by rfl) rfl ?_ ?_
     rotate_left
     ·
      go_simp
      rfl
     refine hK.out _ _ ?_
     clear hK K
     refine done_ (done_of HT_.out (by kernel_rfl)) ?_
     try go_wp2
     go_roundg k1
     case measure=>have:=HK1.out;omega
     case rel=>exact ⟨(wrap64 (x4_1+1)),(IntKind.u64.wrap ((IntKind.u64.wrap ((IntKind.u64.wrap (x102002_1*1099511628211))+(IntKind.u64.wrap (rd l0 x4_1))))+71)),hB,H',⟨by have:=HK1.out;omega⟩,⟨bpA BK101⟩,⟨blA⟩,⟨bwA⟩⟩
    ·
     rw [if_neg c4] at H
     have c4b0:=decide_eq_false c4
     clear c4
     simp only [Option.some.injEq,Prod.mk.injEq] at H
     obtain ⟨rfl,rfl,rfl⟩:=H
     go_wp2
     go_ret
     exact ⟨_,rfl,(show IsS116 w0 _ gb101 l0 0 x102002_1 from ⟨_,_,bkA BK101,GE101.out,HR0.out⟩),blA,bwA⟩
   ·
    rw [if_neg c3] at H
    have c3b0:=decide_eq_false c3
    clear c3
    simp only [Option.some.injEq,Prod.mk.injEq] at H
    obtain ⟨rfl,rfl,rfl⟩:=H
    go_wp2
    go_ret
    exact ⟨_,rfl,(show IsS116 w0 _ gb101 l0 0 x102002_1 from ⟨_,_,bkA BK101,GE101.out,HR0.out⟩),blA,bwA⟩
def spec_l01Next.f (s0_0:List Int) (s0_1 s0_2 a1:Int):Option (Int × Int × Int):=if a1<1 then (some (0,s0_1,s0_2)) else (if s0_1<(s0_0.length:Int) then (if 0≤s0_1 then (if a1=0 then (none) else (some (Int.tmod (wrap64 ((wrap64 (Go.bits .and .u64 ((IntKind.u64.wrap ((IntKind.u64.wrap (s0_2*6364136223846793005))+1442695040888963407)) / 8388608) 17179869183))+(wrap64 (rd s0_0 s0_1)))) a1,wrap64 (s0_1+1),IntKind.u64.wrap ((IntKind.u64.wrap (s0_2*6364136223846793005))+1442695040888963407)))) else (none)) else (if a1=0 then (none) else (some (Int.tmod (wrap64 (Go.bits .and .u64 ((IntKind.u64.wrap ((IntKind.u64.wrap (s0_2*6364136223846793005))+1442695040888963407)) / 8388608) 17179869183)) a1,s0_1,IntKind.u64.wrap ((IntKind.u64.wrap (s0_2*6364136223846793005))+1442695040888963407)))))
set_option maxHeartbeats 8000000 in
set_option maxRecDepth 100000 in
theorem spec_l01Next.calls (g:Nat) (s0_0:List Int) (s0_1 s0_2 a1 r1 r2 r3:Int) (w0 w:World) (hI:IsS116 w0 w g s0_0 s0_1 s0_2) (hB:Below w0.heap.size w0 w) (h:spec_l01Next.f s0_0 s0_1 s0_2 a1=some (r1,r2,r3)) :
  Calls Try.prog 82 #[.pointer (some ⟨g,0,none⟩),.int .i64 a1] w fun e w'=>e=.returned (.int .i64 r1)∧IsS116 w0 w' g s0_0 r2 r3∧Below w0.heap.size w0 w'∧KeepBut w w' g none:=by
 have HI0:=Aside0.mk hI
 have HK:=Aside0.mk (KeepBut.refl w g none)
 have HL:=Aside0.mk hB.size
 clear hI
 have HW0:=Aside0.mk hB.size
 have HB:=Aside0.mk hB
 clear hB
 have H:=h
 unfold spec_l01Next.f at H
 clear h
 by_cases c3:a1<1
 ·
  rw [if_pos c3] at H
  have c3b0:=decide_eq_true c3
  clear c3
  simp only [Option.some.injEq,Prod.mk.injEq] at H
  obtain ⟨rfl,rfl,rfl⟩:=H
  go_enter Try.func82,Try.ntmps82
  go_wp2
  repeat (go_quiet (fail);try go_wp2)
  go_ret
  exact ⟨eW,iA HI0,blI,kpA⟩
 ·
  rw [if_neg c3] at H
  have c3b0:=decide_eq_false c3
  clear c3
  by_cases c4:s0_1<(s0_0.length:Int)
  focus
   rw [if_pos c4] at H
   have c4b0:=decide_eq_true c4
   clear c4
   by_cases c5:0≤s0_1
   rotate_left
   ·
    rw [if_neg c5] at H
    exact absurd H (by simp)
   rw [if_pos c5] at H
   have c5b0:=decide_eq_true c5
   clear c5
   by_cases c6:a1=0
   ·
    rw [if_pos c6] at H
    exact absurd H (by simp)
   rw [if_neg c6] at H
   have c6b0:(a1 == 0)=false:=beq_eq_false_iff_ne.mpr c6
   have c6b1:(a1 != 0)=true:=bne_iff_ne.mpr c6
   simp only [Option.some.injEq,Prod.mk.injEq] at H
   obtain ⟨rfl,rfl,rfl⟩:=H
   obtain ⟨ASz7_0,cSz7_0,HGz7,hgz7,HSz7_0⟩:=HI0.out
   have hcz7_0:=cellS116_0 HGz7
   have hcz7_1:=cellS116_1 HGz7
   have hcz7_2:=cellS116_2 HGz7
   have hfz7_1:=blk_frozen HGz7 1
   have hfz7_2:=blk_frozen HGz7 2
   clear HGz7 hgz7
   have p103:0≤(s0_1:Int):=dA
   have q103:s0_1<(s0_0.length:Int):=dA
   obtain ⟨ad103,e103,hx103_0⟩:=Kd.at_int HSz7_0 s0_1 p103 q103
   cases e103
   have hn103_0:ad103.block≠g:=Nat.ne_of_lt (Nat.lt_of_lt_of_le (by have:=World.block_lt_of_cell? _ _ hx103_0;first|rwa [add_block] at this|exact this) (IsS116.ge HI0.out))
   replace hx103_0:=pw_cell_below HB.out hx103_0
   replace hx103_0:=(cell_far (p:=⟨g,2,none⟩) (by first|(rw [add_block];exact hn103_0)|(show (Addr.add _ _).block≠_;rw [add_block];exact hn103_0)|exact hn103_0) (.int .u64 (IntKind.u64.wrap ((IntKind.u64.wrap (s0_2*6364136223846793005))+1442695040888963407)))).trans hx103_0
   (try have hy103_0:=fun (n_:Nat)=>(show (((w.drewN n_).setCell ⟨g,2,none⟩ (.int .u64 (IntKind.u64.wrap ((IntKind.u64.wrap (s0_2*6364136223846793005))+1442695040888963407))))).cell? _=some _ from hx103_0))
   clear hn103_0
   replace p103:=eq_true p103
   replace q103:=eq_true q103
  rotate_left
  focus
   rw [if_neg c4] at H
   have c4b0:=decide_eq_false c4
   clear c4
   by_cases c8:a1=0
   ·
    rw [if_pos c8] at H
    exact absurd H (by simp)
   rw [if_neg c8] at H
   have c8b0:(a1 == 0)=false:=beq_eq_false_iff_ne.mpr c8
   have c8b1:(a1 != 0)=true:=bne_iff_ne.mpr c8
   simp only [Option.some.injEq,Prod.mk.injEq] at H
   obtain ⟨rfl,rfl,rfl⟩:=H
   obtain ⟨ASz9_0,cSz9_0,HGz9,hgz9,HSz9_0⟩:=HI0.out
   have hcz9_0:=cellS116_0 HGz9
   have hcz9_1:=cellS116_1 HGz9
   have hcz9_2:=cellS116_2 HGz9
   have hfz9_1:=blk_frozen HGz9 1
   have hfz9_2:=blk_frozen HGz9 2
   clear HGz9 hgz9
  rotate_left
  all_goals
   go_enter Try.func82,Try.ntmps82
   go_wp2
   repeat (go_quiet (fail);try go_wp2)
  ·
   go_ret
   exact ⟨eW,iA HI0,blI,kpA⟩
  ·
   go_ret
   exact ⟨eW,iA HI0,blI,kpA⟩
def spec_l04Det.f (a0_0 a0_1 a0_2 a0_3:Int):Option (Int):=some (wrap64 ((wrap64 (a0_0*a0_3)) - (wrap64 (a0_1*a0_2))))
set_option maxHeartbeats 8000000 in
set_option maxRecDepth 100000 in
theorem spec_l04Det.calls (a0_0 a0_1 a0_2 a0_3 r:Int) (w:World) (h:spec_l04Det.f a0_0 a0_1 a0_2 a0_3=some r) :
  Calls Try.prog 96 #[.agg #[.int .i64 a0_0,.int .i64 a0_1,.int .i64 a0_2,.int .i64 a0_3]] w fun e w'=>e=.returned (.int .i64 r)∧Below w.heap.size w w':=by
 have hu26:=Try.underlying26
 have HB:=Aside0.mk (Below.refl w.heap.size w)
 have H:=h
 unfold spec_l04Det.f at H
 clear h
 obtain rfl:=Option.some.inj H
 go_enter Try.func96,Try.ntmps96
 go_wp2_with (first|((with_reducible refine gate_dst (N:=1) rfl ?_);refine bxE (cs:=#[.int .i64 a0_0,.int .i64 a0_1,.int .i64 a0_2,.int .i64 a0_3]) (t:=26) ?_;intro gb108 hg w2 hbox hb;have BK108:=Aside0.mk hbox;have GW108:=sA hg;have GE108:=sA hg;replace HB:=lB hb;clear hb hbox hg;obtain ⟨hcz3_0,hcz3_1,hcz3_2,hcz3_3,hfz3_0,hfz3_1,hfz3_2,hfz3_3⟩:=cz4 BK108))
 go_ret
 exact finA blA
def spec_l01Power.l0:Nat→Int→Int→Int→Option (Int)
 | 0,_,_,_=>none
 | k+1,x0,x1,x5=>if x1>0 then (spec_l01Power.l0 k x0 (wrap64 (x1 - 1)) (wrap64 (x5*x0))) else (some x5)
def spec_l01Power.f (k:Nat) (a0 a1:Int):Option (Int):=spec_l01Power.l0 k a0 a1 1
theorem spec_l01Power.mono_l:∀ k,(∀ y0 y1 y2,LeO (spec_l01Power.l0 k y0 y1 y2) (spec_l01Power.l0 (k+1) y0 y1 y2))
 | 0=>fun _ _ _ r h=>by simp [spec_l01Power.l0] at h
 | k+1=>by
  have ih0:=spec_l01Power.mono_l k
  ·
   intro y0 y1 y2
   unfold spec_l01Power.l0
   repeat' first
   | with_reducible first|exact ih0 ..|exact LeO.refl _|exact LeO.none _|refine LeO.ite ?_ ?_|refine LeO.bind ?_ fun _=>?_
theorem spec_l01Power.mono:∀ a0 a1 k,LeO (spec_l01Power.f k a0 a1) (spec_l01Power.f (k+1) a0 a1):=by
 intro a0 a1 k
 have ih0:=spec_l01Power.mono_l k
 unfold spec_l01Power.f
 repeat' first
   | with_reducible first|exact ih0 ..|exact LeO.refl _|exact LeO.none _|refine LeO.ite ?_ ?_|refine LeO.bind ?_ fun _=>?_
set_option maxHeartbeats 8000000 in
set_option maxRecDepth 100000 in
theorem spec_l01Power.calls (k:Nat) (a0 a1 r:Int) (w:World) (h:spec_l01Power.f k a0 a1=some r) :
  Calls Try.prog 94 #[.int .i64 a0,.int .i64 a1] w fun e w'=>e=.returned (.int .i64 r)∧Drawn0 w w':=by
 have H:=h
 unfold spec_l01Power.f at H
 clear h
 have H':=Aside0.mk H
 clear H
 go_enter Try.func94,Try.ntmps94
 go_wp2
 go_loopg [1,5] k (fun kq v1 v5 w'=>∃ (x1_1:Int) (x5_1:Int),v1=.int .i64 x1_1∧v5=.int .i64 x5_1∧Aside0 (spec_l01Power.l0 kq a0 x1_1 x5_1=some r)∧Aside0 (kq≤k)∧Drawn0 w w')
 case atStart=>exact ⟨(a1),(1),hB,hB,H',⟨Nat.le_refl _⟩,by repeat (first|exact Drawn0.refl _|apply Drawn0.step)⟩
 case round=>
  clear H'
  obtain ⟨x1_1,x5_1,rfl,rfl,HA,HK1,⟨m1,rfl⟩⟩:=hrel
  cases gk with
  | zero=>exact absurd HA.out (by simp [spec_l01Power.l0])
  | succ k1=>
   have H:=HA.out
   clear HA
   simp only [spec_l01Power.l0] at H
   by_cases c3:x1_1>0
   ·
    rw [if_pos c3] at H
    have c3b0:decide (0<x1_1)=true:=decide_eq_true c3
    clear c3
    have H':=Aside0.mk H
    clear H
    go_wp2
    go_roundg k1
    case measure=>have:=HK1.out;omega
    case rel=>exact ⟨(wrap64 (x1_1 - 1)),(wrap64 (x5_1*a0)),hB,hB,H',⟨by have:=HK1.out;omega⟩,by repeat (first|exact Drawn0.refl _|apply Drawn0.step)⟩
   ·
    rw [if_neg c3] at H
    have c3b0:decide (0<x1_1)=false:=decide_eq_false c3
    clear c3
    obtain rfl:=Option.some.inj H
    go_wp2
    go_ret
    exact ⟨by first|rfl|(simp;done)|(simp [*];done),by repeat (first|exact Drawn0.refl _|apply Drawn0.step)⟩
def spec_l01In.f (a0 a1 a2:Int):Option (Bool):=if a0≥a1 then (some (decide (a0≤a2))) else (some false)
set_option maxHeartbeats 8000000 in
set_option maxRecDepth 100000 in
theorem spec_l01In.calls (a0 a1 a2:Int) (r:Bool) (w:World) (h:spec_l01In.f a0 a1 a2=some r) :
  Calls Try.prog 85 #[.int .i64 a0,.int .i64 a1,.int .i64 a2] w fun e w'=>e=.returned (.bool r)∧Drawn0 w w':=by
 have H:=h
 unfold spec_l01In.f at H
 clear h
 by_cases c4:a0≥a1
 ·
  rw [if_pos c4] at H
  have c4b0:decide (a1≤a0)=true:=decide_eq_true c4
  clear c4
  obtain rfl:=Option.some.inj H
  go_enter Try.func85,Try.ntmps85
  go_wp2
  go_ret
  exact ⟨by first|rfl|(simp;done)|(simp [*];done),by repeat (first|exact Drawn0.refl _|apply Drawn0.step)⟩
 ·
  rw [if_neg c4] at H
  have c4b0:decide (a1≤a0)=false:=decide_eq_false c4
  clear c4
  obtain rfl:=Option.some.inj H
  go_enter Try.func85,Try.ntmps85
  go_wp2
  go_ret
  exact ⟨by first|rfl|(simp;done)|(simp [*];done),by repeat (first|exact Drawn0.refl _|apply Drawn0.step)⟩
def spec_l01Val.l0:Nat→Int→Int→Int→Option (Int)
 | 0,_,_,_=>none
 | k+1,x0,x1,x5=>if x0=0 then (none) else (if (Int.tmod x1 x0)=0 then (spec_l01Val.l0 k x0 (wrap64 (Int.tdiv x1 x0)) (wrap64 (x5+1))) else (some x5))
def spec_l01Val.f (k:Nat) (a0 a1:Int):Option (Int):=spec_l01Val.l0 k a0 a1 0
theorem spec_l01Val.mono_l:∀ k,(∀ y0 y1 y2,LeO (spec_l01Val.l0 k y0 y1 y2) (spec_l01Val.l0 (k+1) y0 y1 y2))
 | 0=>fun _ _ _ r h=>by simp [spec_l01Val.l0] at h
 | k+1=>by
  have ih0:=spec_l01Val.mono_l k
  ·
   intro y0 y1 y2
   unfold spec_l01Val.l0
   repeat' first
   | with_reducible first|exact ih0 ..|exact LeO.refl _|exact LeO.none _|refine LeO.ite ?_ ?_|refine LeO.bind ?_ fun _=>?_
theorem spec_l01Val.mono:∀ a0 a1 k,LeO (spec_l01Val.f k a0 a1) (spec_l01Val.f (k+1) a0 a1):=by
 intro a0 a1 k
 have ih0:=spec_l01Val.mono_l k
 unfold spec_l01Val.f
 repeat' first
   | with_reducible first|exact ih0 ..|exact LeO.refl _|exact LeO.none _|refine LeO.ite ?_ ?_|refine LeO.bind ?_ fun _=>?_
set_option maxHeartbeats 8000000 in
set_option maxRecDepth 100000 in
theorem spec_l01Val.calls (k:Nat) (a0 a1 r:Int) (w:World) (h:spec_l01Val.f k a0 a1=some r) :
  Calls Try.prog 95 #[.int .i64 a0,.int .i64 a1] w fun e w'=>e=.returned (.int .i64 r)∧Drawn0 w w':=by
 have H:=h
 unfold spec_l01Val.f at H
 clear h
 have H':=Aside0.mk H
 clear H
 go_enter Try.func95,Try.ntmps95
 go_wp2
 go_loopg [1,5] k (fun kq v1 v5 w'=>∃ (x1_1:Int) (x5_1:Int),v1=.int .i64 x1_1∧v5=.int .i64 x5_1∧Aside0 (spec_l01Val.l0 kq a0 x1_1 x5_1=some r)∧Aside0 (kq≤k)∧Drawn0 w w')
 case atStart=>exact ⟨(a1),(0),hB,hB,H',⟨Nat.le_refl _⟩,by repeat (first|exact Drawn0.refl _|apply Drawn0.step)⟩
 case round=>
  clear H'
  obtain ⟨x1_1,x5_1,rfl,rfl,HA,HK1,⟨m1,rfl⟩⟩:=hrel
  cases gk with
  | zero=>exact absurd HA.out (by simp [spec_l01Val.l0])
  | succ k1=>
   have H:=HA.out
   clear HA
   simp only [spec_l01Val.l0] at H
   by_cases c3:a0=0
   ·
    rw [if_pos c3] at H
    exact absurd H (by simp)
   rw [if_neg c3] at H
   have c3b0:(a0 == 0)=false:=beq_eq_false_iff_ne.mpr c3
   have c3b1:(a0 != 0)=true:=bne_iff_ne.mpr c3
   by_cases c4:(Int.tmod x1_1 a0)=0
   ·
    rw [if_pos c4] at H
    have c4b0:((Int.tmod x1_1 a0) == 0)=true:=beq_iff_eq.mpr c4
    have c4b1:((Int.tmod x1_1 a0) != 0)=false:=bne_eq_false_iff_eq.mpr c4
    clear c4
    have H':=Aside0.mk H
    clear H
    go_wp2
    go_roundg k1
    case measure=>have:=HK1.out;omega
    case rel=>exact ⟨(wrap64 (Int.tdiv x1_1 a0)),(wrap64 (x5_1+1)),hB,hB,H',⟨by have:=HK1.out;omega⟩,by repeat (first|exact Drawn0.refl _|apply Drawn0.step)⟩
   ·
    rw [if_neg c4] at H
    have c4b0:((Int.tmod x1_1 a0) == 0)=false:=beq_eq_false_iff_ne.mpr c4
    have c4b1:((Int.tmod x1_1 a0) != 0)=true:=bne_iff_ne.mpr c4
    obtain rfl:=Option.some.inj H
    go_wp2
    go_ret
    exact ⟨by first|rfl|(simp;done)|(simp [*];done),by repeat (first|exact Drawn0.refl _|apply Drawn0.step)⟩
def spec_l01MulMod.f (a0 a1 a2:Int):Option (Int):=if a2=0 then (none) else (some (Int.tmod (wrap64 ((Int.tmod (wrap64 ((Int.tmod (wrap64 ((Int.tmod (wrap64 ((Int.tmod a0 a2)+a2)) a2)*(wrap64 (Int.tdiv (Int.tmod (wrap64 ((Int.tmod a1 a2)+a2)) a2) 1000000)))) a2)*1000000)) a2)+(Int.tmod (wrap64 ((Int.tmod (wrap64 ((Int.tmod a0 a2)+a2)) a2)*(Int.tmod (Int.tmod (wrap64 ((Int.tmod a1 a2)+a2)) a2) 1000000))) a2))) a2))
set_option maxHeartbeats 8000000 in
set_option maxRecDepth 100000 in
theorem spec_l01MulMod.calls (a0 a1 a2 r:Int) (w:World) (h:spec_l01MulMod.f a0 a1 a2=some r) :
  Calls Try.prog 125 #[.int .i64 a0,.int .i64 a1,.int .i64 a2] w fun e w'=>e=.returned (.int .i64 r)∧Drawn0 w w':=by
 have H:=h
 unfold spec_l01MulMod.f at H
 clear h
 by_cases c4:a2=0
 ·
  rw [if_pos c4] at H
  exact absurd H (by simp)
 rw [if_neg c4] at H
 have c4b0:(a2 == 0)=false:=beq_eq_false_iff_ne.mpr c4
 have c4b1:(a2 != 0)=true:=bne_iff_ne.mpr c4
 obtain rfl:=Option.some.inj H
 go_enter Try.func125,Try.ntmps125
 go_wp2
 repeat (go_quiet (fail);try go_wp2)
 go_ret
 exact ⟨by first|rfl|(simp;done)|(simp [*];done),by repeat (first|exact Drawn0.refl _|apply Drawn0.step)⟩
def spec_l01InvMod.l0:Nat→Int→Int→Int→Int→Int→Option (Int)
 | 0,_,_,_,_,_=>none
 | k+1,x1,x5,x6,x7,x8=>if x6=0 then (if x1=0 then (none) else (some (Int.tmod (wrap64 ((Int.tmod x7 x1)+x1)) x1))) else (spec_l01InvMod.l0 k x1 x6 (wrap64 (x5 - (wrap64 ((wrap64 (Int.tdiv x5 x6))*x6)))) x8 (wrap64 (x7 - (wrap64 ((wrap64 (Int.tdiv x5 x6))*x8)))))
def spec_l01InvMod.f (k:Nat) (a0 a1:Int):Option (Int):=if a1=0 then (none) else (spec_l01InvMod.l0 k a1 (Int.tmod (wrap64 ((Int.tmod a0 a1)+a1)) a1) a1 1 0)
theorem spec_l01InvMod.mono_l:∀ k,(∀ y0 y1 y2 y3 y4,LeO (spec_l01InvMod.l0 k y0 y1 y2 y3 y4) (spec_l01InvMod.l0 (k+1) y0 y1 y2 y3 y4))
 | 0=>fun _ _ _ _ _ r h=>by simp [spec_l01InvMod.l0] at h
 | k+1=>by
  have ih0:=spec_l01InvMod.mono_l k
  ·
   intro y0 y1 y2 y3 y4
   unfold spec_l01InvMod.l0
   repeat' first
   | with_reducible first|exact ih0 ..|exact LeO.refl _|exact LeO.none _|refine LeO.ite ?_ ?_|refine LeO.bind ?_ fun _=>?_
theorem spec_l01InvMod.mono:∀ a0 a1 k,LeO (spec_l01InvMod.f k a0 a1) (spec_l01InvMod.f (k+1) a0 a1):=by
 intro a0 a1 k
 have ih0:=spec_l01InvMod.mono_l k
 unfold spec_l01InvMod.f
 repeat' first
   | with_reducible first|exact ih0 ..|exact LeO.refl _|exact LeO.none _|refine LeO.ite ?_ ?_|refine LeO.bind ?_ fun _=>?_
set_option maxHeartbeats 8000000 in
set_option maxRecDepth 100000 in
theorem spec_l01InvMod.calls (k:Nat) (a0 a1 r:Int) (w:World) (h:spec_l01InvMod.f k a0 a1=some r) :
  Calls Try.prog 126 #[.int .i64 a0,.int .i64 a1] w fun e w'=>e=.returned (.int .i64 r)∧Drawn0 w w':=by
 have H:=h
 unfold spec_l01InvMod.f at H
 clear h
 by_cases c3:a1=0
 ·
  rw [if_pos c3] at H
  exact absurd H (by simp)
 rw [if_neg c3] at H
 have c3b0:(a1 == 0)=false:=beq_eq_false_iff_ne.mpr c3
 have c3b1:(a1 != 0)=true:=bne_iff_ne.mpr c3
 have H':=Aside0.mk H
 clear H
 go_enter Try.func126,Try.ntmps126
 go_wp2
 go_loopg [5,6,7,8] k (fun kq v5 v6 v7 v8 w'=>∃ (x5_1:Int) (x6_1:Int) (x7_1:Int) (x8_1:Int),v5=.int .i64 x5_1∧v6=.int .i64 x6_1∧v7=.int .i64 x7_1∧v8=.int .i64 x8_1∧Aside0 (spec_l01InvMod.l0 kq a1 x5_1 x6_1 x7_1 x8_1=some r)∧Aside0 (kq≤k)∧Drawn0 w w')
 case atStart=>exact ⟨(Int.tmod (wrap64 ((Int.tmod a0 a1)+a1)) a1),(a1),(1),(0),hB,hB,hB,hB,H',⟨Nat.le_refl _⟩,by repeat (first|exact Drawn0.refl _|apply Drawn0.step)⟩
 case round=>
  clear H'
  try clear c3
  try clear c3b0
  try clear c3b1
  obtain ⟨x5_1,x6_1,x7_1,x8_1,rfl,rfl,rfl,rfl,HA,HK1,⟨m1,rfl⟩⟩:=hrel
  cases gk with
  | zero=>exact absurd HA.out (by simp [spec_l01InvMod.l0])
  | succ k1=>
   have H:=HA.out
   clear HA
   simp only [spec_l01InvMod.l0] at H
   by_cases c4:x6_1=0
   ·
    rw [if_pos c4] at H
    have c4b0:(x6_1 == 0)=true:=beq_iff_eq.mpr c4
    have c4b1:(x6_1 != 0)=false:=bne_eq_false_iff_eq.mpr c4
    clear c4
    by_cases c5:a1=0
    ·
     rw [if_pos c5] at H
     exact absurd H (by simp)
    rw [if_neg c5] at H
    have c5b0:(a1 == 0)=false:=beq_eq_false_iff_ne.mpr c5
    have c5b1:(a1 != 0)=true:=bne_iff_ne.mpr c5
    obtain rfl:=Option.some.inj H
    go_wp2
    go_ret
    exact ⟨by first|rfl|(simp;done)|(simp [*];done),by repeat (first|exact Drawn0.refl _|apply Drawn0.step)⟩
   ·
    rw [if_neg c4] at H
    have c4b0:(x6_1 == 0)=false:=beq_eq_false_iff_ne.mpr c4
    have c4b1:(x6_1 != 0)=true:=bne_iff_ne.mpr c4
    have H':=Aside0.mk H
    clear H
    go_wp2
    go_roundg k1
    case measure=>have:=HK1.out;omega
    case rel=>exact ⟨(x6_1),(wrap64 (x5_1 - (wrap64 ((wrap64 (Int.tdiv x5_1 x6_1))*x6_1)))),(x8_1),(wrap64 (x7_1 - (wrap64 ((wrap64 (Int.tdiv x5_1 x6_1))*x8_1)))),hB,hB,hB,hB,H',⟨by have:=HK1.out;omega⟩,by repeat (first|exact Drawn0.refl _|apply Drawn0.step)⟩
def impl_isPrime.f (a0:Int):Option (Bool):=if a0=2 then (some true) else (if a0=3 then (some true) else (if a0=5 then (some true) else (some (a0 == 7))))
set_option maxHeartbeats 8000000 in
set_option maxRecDepth 100000 in
theorem impl_isPrime.calls (a0:Int) (r:Bool) (w:World) (h:impl_isPrime.f a0=some r) :
  Calls Try.prog 57 #[.int .i64 a0] w fun e w'=>e=.returned (.bool r)∧Drawn0 w w':=by
 have H:=h
 unfold impl_isPrime.f at H
 clear h
 by_cases c2:a0=2
 ·
  rw [if_pos c2] at H
  have c2b0:(a0 == 2)=true:=beq_iff_eq.mpr c2
  have c2b1:(a0 != 2)=false:=bne_eq_false_iff_eq.mpr c2
  clear c2
  obtain rfl:=Option.some.inj H
  go_enter Try.func57,Try.ntmps57
  go_wp2
  go_ret
  exact ⟨by first|rfl|(simp;done)|(simp [*];done),by repeat (first|exact Drawn0.refl _|apply Drawn0.step)⟩
 ·
  rw [if_neg c2] at H
  have c2b0:(a0 == 2)=false:=beq_eq_false_iff_ne.mpr c2
  have c2b1:(a0 != 2)=true:=bne_iff_ne.mpr c2
  by_cases c3:a0=3
  ·
   rw [if_pos c3] at H
   have c3b0:(a0 == 3)=true:=beq_iff_eq.mpr c3
   have c3b1:(a0 != 3)=false:=bne_eq_false_iff_eq.mpr c3
   clear c3
   obtain rfl:=Option.some.inj H
   go_enter Try.func57,Try.ntmps57
   go_wp2
   go_ret
   exact ⟨by first|rfl|(simp;done)|(simp [*];done),by repeat (first|exact Drawn0.refl _|apply Drawn0.step)⟩
  ·
   rw [if_neg c3] at H
   have c3b0:(a0 == 3)=false:=beq_eq_false_iff_ne.mpr c3
   have c3b1:(a0 != 3)=true:=bne_iff_ne.mpr c3
   by_cases c4:a0=5
   ·
    rw [if_pos c4] at H
    have c4b0:(a0 == 5)=true:=beq_iff_eq.mpr c4
    have c4b1:(a0 != 5)=false:=bne_eq_false_iff_eq.mpr c4
    clear c4
    obtain rfl:=Option.some.inj H
    go_enter Try.func57,Try.ntmps57
    go_wp2
    go_ret
    exact ⟨by first|rfl|(simp;done)|(simp [*];done),by repeat (first|exact Drawn0.refl _|apply Drawn0.step)⟩
   ·
    rw [if_neg c4] at H
    have c4b0:(a0 == 5)=false:=beq_eq_false_iff_ne.mpr c4
    have c4b1:(a0 != 5)=true:=bne_iff_ne.mpr c4
    obtain rfl:=Option.some.inj H
    go_enter Try.func57,Try.ntmps57
    go_wp2
    go_ret
    exact ⟨by first|rfl|(simp;done)|(simp [*];done),by repeat (first|exact Drawn0.refl _|apply Drawn0.step)⟩
def impl_isLevel.f (a0:Int):Option (Bool):=if a0≥(-6) then (some (decide (a0≤6))) else (some false)
set_option maxHeartbeats 8000000 in
set_option maxRecDepth 100000 in
theorem impl_isLevel.calls (a0:Int) (r:Bool) (w:World) (h:impl_isLevel.f a0=some r) :
  Calls Try.prog 58 #[.int .i64 a0] w fun e w'=>e=.returned (.bool r)∧Drawn0 w w':=by
 have H:=h
 unfold impl_isLevel.f at H
 clear h
 by_cases c2:a0≥(-6)
 ·
  rw [if_pos c2] at H
  have c2b0:decide ((-6)≤a0)=true:=decide_eq_true c2
  clear c2
  obtain rfl:=Option.some.inj H
  go_enter Try.func58,Try.ntmps58
  go_wp2
  go_ret
  exact ⟨by first|rfl|(simp;done)|(simp [*];done),by repeat (first|exact Drawn0.refl _|apply Drawn0.step)⟩
 ·
  rw [if_neg c2] at H
  have c2b0:decide ((-6)≤a0)=false:=decide_eq_false c2
  clear c2
  obtain rfl:=Option.some.inj H
  go_enter Try.func58,Try.ntmps58
  go_wp2
  go_ret
  exact ⟨by first|rfl|(simp;done)|(simp [*];done),by repeat (first|exact Drawn0.refl _|apply Drawn0.step)⟩
def impl_power.l0:Nat→Int→Int→Int→Int→Option (Int)
 | 0,_,_,_,_=>none
 | k+1,x0,x5,x6,x7=>if x7<x6 then (impl_power.l0 k x0 (wrap64 (x5*x0)) x6 (wrap64 (x7+1))) else (some x5)
def impl_power.f (k:Nat) (a0 a1:Int):Option (Int):=impl_power.l0 k a0 1 a1 0
theorem impl_power.mono_l:∀ k,(∀ y0 y1 y2 y3,LeO (impl_power.l0 k y0 y1 y2 y3) (impl_power.l0 (k+1) y0 y1 y2 y3))
 | 0=>fun _ _ _ _ r h=>by simp [impl_power.l0] at h
 | k+1=>by
  have ih0:=impl_power.mono_l k
  ·
   intro y0 y1 y2 y3
   unfold impl_power.l0
   repeat' first
   | with_reducible first|exact ih0 ..|exact LeO.refl _|exact LeO.none _|refine LeO.ite ?_ ?_|refine LeO.bind ?_ fun _=>?_
theorem impl_power.mono:∀ a0 a1 k,LeO (impl_power.f k a0 a1) (impl_power.f (k+1) a0 a1):=by
 intro a0 a1 k
 have ih0:=impl_power.mono_l k
 unfold impl_power.f
 repeat' first
   | with_reducible first|exact ih0 ..|exact LeO.refl _|exact LeO.none _|refine LeO.ite ?_ ?_|refine LeO.bind ?_ fun _=>?_
set_option maxHeartbeats 8000000 in
set_option maxRecDepth 100000 in
theorem impl_power.calls (k:Nat) (a0 a1 r:Int) (w:World) (h:impl_power.f k a0 a1=some r) :
  Calls Try.prog 59 #[.int .i64 a0,.int .i64 a1] w fun e w'=>e=.returned (.int .i64 r)∧Drawn0 w w':=by
 have H:=h
 unfold impl_power.f at H
 clear h
 have H':=Aside0.mk H
 clear H
 go_enter Try.func59,Try.ntmps59
 go_wp2
 go_loopg [5,7] k (fun kq v5 v7 w'=>∃ (x5_1:Int) (x7_1:Int),v5=.int .i64 x5_1∧v7=.int .i64 x7_1∧Aside0 (impl_power.l0 kq a0 x5_1 a1 x7_1=some r)∧Aside0 (kq≤k)∧Drawn0 w w')
 case atStart=>exact ⟨(1),(0),hB,hB,H',⟨Nat.le_refl _⟩,by repeat (first|exact Drawn0.refl _|apply Drawn0.step)⟩
 case round=>
  clear H'
  obtain ⟨x5_1,x7_1,rfl,rfl,HA,HK1,⟨m1,rfl⟩⟩:=hrel
  cases gk with
  | zero=>exact absurd HA.out (by simp [impl_power.l0])
  | succ k1=>
   have H:=HA.out
   clear HA
   simp only [impl_power.l0] at H
   by_cases c3:x7_1<a1
   ·
    rw [if_pos c3] at H
    have c3b0:=decide_eq_true c3
    clear c3
    have H':=Aside0.mk H
    clear H
    go_wp2
    go_roundg k1
    case measure=>have:=HK1.out;omega
    case rel=>exact ⟨(wrap64 (x5_1*a0)),(wrap64 (x7_1+1)),hB,hB,H',⟨by have:=HK1.out;omega⟩,by repeat (first|exact Drawn0.refl _|apply Drawn0.step)⟩
   ·
    rw [if_neg c3] at H
    have c3b0:=decide_eq_false c3
    clear c3
    obtain rfl:=Option.some.inj H
    go_wp2
    go_ret
    exact ⟨by first|rfl|(simp;done)|(simp [*];done),by repeat (first|exact Drawn0.refl _|apply Drawn0.step)⟩
def impl_within.l0:Nat→Int→List Int→Int→Int→Option (Bool)
 | 0,_,_,_,_=>none
 | k+1,x0,x7,x8,x9=>if x9<x8 then (if 0≤x9 then (if x9<(x7.length:Int) then (if (rd x7 x9)<(wrap64 (-x0)) then (some false) else (if (rd x7 x9)>x0 then (some false) else (impl_within.l0 k x0 x7 x8 (wrap64 (x9+1))))) else (none)) else (none)) else (some true)
def impl_within.f (k:Nat) (a0:Int) (l1:List Int):Option (Bool):=impl_within.l0 k a0 l1 (l1.length:Int) 0
theorem impl_within.mono_l:∀ k,(∀ y0 y1 y2 y3,LeO (impl_within.l0 k y0 y1 y2 y3) (impl_within.l0 (k+1) y0 y1 y2 y3))
 | 0=>fun _ _ _ _ r h=>by simp [impl_within.l0] at h
 | k+1=>by
  have ih0:=impl_within.mono_l k
  ·
   intro y0 y1 y2 y3
   unfold impl_within.l0
   repeat' first
   | with_reducible first|exact ih0 ..|exact LeO.refl _|exact LeO.none _|refine LeO.ite ?_ ?_|refine LeO.bind ?_ fun _=>?_
theorem impl_within.mono:∀ a0 a1 k,LeO (impl_within.f k a0 a1) (impl_within.f (k+1) a0 a1):=by
 intro a0 a1 k
 have ih0:=impl_within.mono_l k
 unfold impl_within.f
 repeat' first
   | with_reducible first|exact ih0 ..|exact LeO.refl _|exact LeO.none _|refine LeO.ite ?_ ?_|refine LeO.bind ?_ fun _=>?_
set_option maxHeartbeats 8000000 in
set_option maxRecDepth 100000 in
theorem impl_within.calls (k:Nat) (a0:Int) (A1:Option Addr) (c1:Nat) (l1:List Int) (r:Bool) (w:World) (hr1:Kd.C (Kd.int .i64) w A1 l1.length l1) (hc1:l1.length≤c1) (h:impl_within.f k a0 l1=some r) :
  Calls Try.prog 88 #[.int .i64 a0,.slice A1 l1.length c1] w fun e w'=>e=.returned (.bool r)∧Drawn0 w w':=by
 have HR1:=Aside0.mk hr1
 have HC1:=Aside0.mk hc1
 clear hr1 hc1
 have H:=h
 unfold impl_within.f at H
 clear h
 have H':=Aside0.mk H
 clear H
 go_enter Try.func88,Try.ntmps88
 go_wp2
 go_loopg [9] k (fun kq v9 w'=>∃ (x9_1:Int),v9=.int .i64 x9_1∧Aside0 (impl_within.l0 kq a0 l1 (l1.length:Int) x9_1=some r)∧Aside0 (kq≤k)∧Drawn0 w w')
 case atStart=>exact ⟨(0),hB,H',⟨Nat.le_refl _⟩,by repeat (first|exact Drawn0.refl _|apply Drawn0.step)⟩
 case round=>
  clear H'
  try clear c1
  obtain ⟨x9_1,rfl,HA,HK1,⟨m1,rfl⟩⟩:=hrel
  cases gk with
  | zero=>exact absurd HA.out (by simp [impl_within.l0])
  | succ k1=>
   have H:=HA.out
   clear HA
   simp only [impl_within.l0] at H
   by_cases c3:x9_1<(l1.length:Int)
   ·
    rw [if_pos c3] at H
    have c3b0:=decide_eq_true c3
    clear c3
    by_cases c4:0≤x9_1
    rotate_left
    ·
     rw [if_neg c4] at H
     exact absurd H (by simp)
    rw [if_pos c4] at H
    have c4b0:=decide_eq_true c4
    clear c4
    by_cases c5:x9_1<(l1.length:Int)
    rotate_left
    ·
     rw [if_neg c5] at H
     exact absurd H (by simp)
    rw [if_pos c5] at H
    have c5b0:=decide_eq_true c5
    clear c5
    by_cases c6:(rd l1 x9_1)<(wrap64 (-a0))
    ·
     rw [if_pos c6] at H
     have c6b0:=decide_eq_true c6
     clear c6
     obtain rfl:=Option.some.inj H
     have p313:0≤(x9_1:Int):=dA
     have q313:x9_1<(l1.length:Int):=dA
     obtain ⟨ad313,e313,hx313_0⟩:=Kd.at_int HR1.out x9_1 p313 q313
     cases e313
     replace p313:=eq_true p313
     replace q313:=eq_true q313
     go_wp2
     go_ret
     exact ⟨by first|rfl|(simp;done)|(simp [*];done),by repeat (first|exact Drawn0.refl _|apply Drawn0.step)⟩
    ·
     rw [if_neg c6] at H
     have c6b0:=decide_eq_false c6
     clear c6
     by_cases c7:(rd l1 x9_1)>a0
     ·
      rw [if_pos c7] at H
      have c7b0:decide (a0<(rd l1 x9_1))=true:=decide_eq_true c7
      clear c7
      obtain rfl:=Option.some.inj H
      have p313:0≤(x9_1:Int):=dA
      have q313:x9_1<(l1.length:Int):=dA
      obtain ⟨ad313,e313,hx313_0⟩:=Kd.at_int HR1.out x9_1 p313 q313
      cases e313
      replace p313:=eq_true p313
      replace q313:=eq_true q313
      go_wp2
      go_ret
      exact ⟨by first|rfl|(simp;done)|(simp [*];done),by repeat (first|exact Drawn0.refl _|apply Drawn0.step)⟩
     ·
      rw [if_neg c7] at H
      have c7b0:decide (a0<(rd l1 x9_1))=false:=decide_eq_false c7
      clear c7
      have H':=Aside0.mk H
      clear H
      have p313:0≤(x9_1:Int):=dA
      have q313:x9_1<(l1.length:Int):=dA
      obtain ⟨ad313,e313,hx313_0⟩:=Kd.at_int HR1.out x9_1 p313 q313
      cases e313
      replace p313:=eq_true p313
      replace q313:=eq_true q313
      go_wp2
      go_roundg k1
      case measure=>have:=HK1.out;omega
      case rel=>exact ⟨(wrap64 (x9_1+1)),hB,H',⟨by have:=HK1.out;omega⟩,by repeat (first|exact Drawn0.refl _|apply Drawn0.step)⟩
   ·
    rw [if_neg c3] at H
    have c3b0:=decide_eq_false c3
    clear c3
    obtain rfl:=Option.some.inj H
    go_wp2
    go_ret
    exact ⟨by first|rfl|(simp;done)|(simp [*];done),by repeat (first|exact Drawn0.refl _|apply Drawn0.step)⟩
def impl_determinant.f (a0_0 a0_1 a0_2 a0_3:Int):Option (Int):=some (wrap64 ((wrap64 (a0_0*a0_3)) - (wrap64 (a0_1*a0_2))))
set_option maxHeartbeats 8000000 in
set_option maxRecDepth 100000 in
theorem impl_determinant.calls (a0_0 a0_1 a0_2 a0_3 r:Int) (w:World) (h:impl_determinant.f a0_0 a0_1 a0_2 a0_3=some r) :
  Calls Try.prog 89 #[.agg #[.int .i64 a0_0,.int .i64 a0_1,.int .i64 a0_2,.int .i64 a0_3]] w fun e w'=>e=.returned (.int .i64 r)∧Below w.heap.size w w':=by
 have hu26:=Try.underlying26
 have HB:=Aside0.mk (Below.refl w.heap.size w)
 have H:=h
 unfold impl_determinant.f at H
 clear h
 obtain rfl:=Option.some.inj H
 go_enter Try.func89,Try.ntmps89
 go_wp2_with (first|((with_reducible refine gate_dst (N:=1) rfl ?_);refine bxE (cs:=#[.int .i64 a0_0,.int .i64 a0_1,.int .i64 a0_2,.int .i64 a0_3]) (t:=26) ?_;intro gb314 hg w2 hbox hb;have BK314:=Aside0.mk hbox;have GW314:=sA hg;have GE314:=sA hg;replace HB:=lB hb;clear hb hbox hg;obtain ⟨hcz3_0,hcz3_1,hcz3_2,hcz3_3,hfz3_0,hfz3_1,hfz3_2,hfz3_3⟩:=cz4 BK314))
 go_ret
 exact finA blA
def impl_fitted.f (a0_0 a0_1 a0_2:Int) (a1:Bool):Option (Int × Int × Int × Int):=if a1=true then (some (a0_0,a0_1,a0_2,0)) else (some (0,0,0,3))
set_option maxHeartbeats 8000000 in
set_option maxRecDepth 100000 in
theorem impl_fitted.calls (a0_0 a0_1 a0_2:Int) (a1:Bool) (r1 r2 r3 r4:Int) (w:World) (h:impl_fitted.f a0_0 a0_1 a0_2 a1=some (r1,r2,r3,r4)) :
  Calls Try.prog 43 #[.agg #[.int .i64 a0_0,.int .i64 a0_1,.int .i64 a0_2],.bool a1] w fun e w'=>e=.returned (.tuple #[.agg #[.int .i64 r1,.int .i64 r2,.int .i64 r3],.int .i64 r4])∧Below w.heap.size w w':=by
 have hu28:=Try.underlying28
 have HB:=Aside0.mk (Below.refl w.heap.size w)
 have H:=h
 unfold impl_fitted.f at H
 clear h
 by_cases c3:a1=true
 ·
  subst c3
  rw [if_pos rfl] at H
  try dsimp only at H
  simp only [Option.some.injEq,Prod.mk.injEq] at H
  obtain ⟨rfl,rfl,rfl,rfl⟩:=H
  go_enter Try.func43,Try.ntmps43
  go_wp2_with (first|((with_reducible refine gate_dst (N:=2) rfl ?_);refine bxE (cs:=#[.int .i64 a0_0,.int .i64 a0_1,.int .i64 a0_2]) (t:=28) ?_;intro gb321 hg w4 hbox hb;have BK321:=Aside0.mk hbox;have GW321:=sA hg;have GE321:=sA hg;replace HB:=lB hb;clear hb hbox hg)|((with_reducible refine gate_dst (N:=4) rfl ?_);refine bxE (cs:=#[.int .i64 0,.int .i64 0,.int .i64 0]) (t:=28) ?_;intro gb322 hg w5 hbox hb;have BK322:=Aside0.mk hbox;have GW322:=sA hg;have GE322:=sA hg;have NB321_322:=nA hg BK321;have NB322_321:=nB hg BK321;replace BK321:=kB BK321 hb;replace HB:=lB hb;clear hb hbox hg;have hnb6:=NB321_322.out;have hnc6:=NB322_321.out;obtain ⟨hcz7_0,hcz7_1,hcz7_2,hfz7_0,hfz7_1,hfz7_2⟩:=cz3 BK321;obtain ⟨hcz8_0,hcz8_1,hcz8_2,hfz8_0,hfz8_1,hfz8_2⟩:=cz3 BK322))
  refine bodyPost_ret (results_ct rfl _ _ gb322 28 #[.int .i64 a0_0,.int .i64 a0_1,.int .i64 a0_2] (0,0) _ rfl (bpA BK322) Try.underlying28 rfl (by kernel_rfl)) rfl ?_
  exact finA blA
 ·
  replace c3:=Bool.eq_false_iff.mpr c3
  subst c3
  rw [if_neg (show ¬ (false=true) by decide)] at H
  try dsimp only at H
  simp only [Option.some.injEq,Prod.mk.injEq] at H
  obtain ⟨rfl,rfl,rfl,rfl⟩:=H
  go_enter Try.func43,Try.ntmps43
  go_wp2_with (first|((with_reducible refine gate_dst (N:=2) rfl ?_);refine bxE (cs:=#[.int .i64 a0_0,.int .i64 a0_1,.int .i64 a0_2]) (t:=28) ?_;intro gb321 hg w9 hbox hb;have BK321:=Aside0.mk hbox;have GW321:=sA hg;have GE321:=sA hg;replace HB:=lB hb;clear hb hbox hg)|((with_reducible refine gate_dst (N:=4) rfl ?_);refine bxE (cs:=#[.int .i64 0,.int .i64 0,.int .i64 0]) (t:=28) ?_;intro gb322 hg w10 hbox hb;have BK322:=Aside0.mk hbox;have GW322:=sA hg;have GE322:=sA hg;have NB321_322:=nA hg BK321;have NB322_321:=nB hg BK321;replace BK321:=kB BK321 hb;replace HB:=lB hb;clear hb hbox hg;have hnb11:=NB322_321.out;have hnc11:=NB321_322.out;obtain ⟨hcz12_0,hcz12_1,hcz12_2,hfz12_0,hfz12_1,hfz12_2⟩:=cz3 BK322))
  refine bodyPost_ret (results_ct rfl _ _ gb322 28 #[.int .i64 0,.int .i64 0,.int .i64 0] (0,0) _ rfl (bpA BK322) Try.underlying28 rfl (by kernel_rfl)) rfl ?_
  exact finA blA
def impl_valuation.l0:Nat→Int→Int→Int→Option (Int)
 | 0,_,_,_=>none
 | k+1,x0,x1,x5=>if x0=0 then (none) else (if (Int.tmod x1 x0)=0 then (impl_valuation.l0 k x0 (wrap64 (Int.tdiv x1 x0)) (wrap64 (x5+1))) else (some x5))
def impl_valuation.f (k:Nat) (a0 a1:Int):Option (Int):=if a1=0 then (some 1000) else (impl_valuation.l0 k a0 a1 0)
theorem impl_valuation.mono_l:∀ k,(∀ y0 y1 y2,LeO (impl_valuation.l0 k y0 y1 y2) (impl_valuation.l0 (k+1) y0 y1 y2))
 | 0=>fun _ _ _ r h=>by simp [impl_valuation.l0] at h
 | k+1=>by
  have ih0:=impl_valuation.mono_l k
  ·
   intro y0 y1 y2
   unfold impl_valuation.l0
   repeat' first
   | with_reducible first|exact ih0 ..|exact LeO.refl _|exact LeO.none _|refine LeO.ite ?_ ?_|refine LeO.bind ?_ fun _=>?_
theorem impl_valuation.mono:∀ a0 a1 k,LeO (impl_valuation.f k a0 a1) (impl_valuation.f (k+1) a0 a1):=by
 intro a0 a1 k
 have ih0:=impl_valuation.mono_l k
 unfold impl_valuation.f
 repeat' first
   | with_reducible first|exact ih0 ..|exact LeO.refl _|exact LeO.none _|refine LeO.ite ?_ ?_|refine LeO.bind ?_ fun _=>?_
set_option maxHeartbeats 8000000 in
set_option maxRecDepth 100000 in
theorem impl_valuation.calls (k:Nat) (a0 a1 r:Int) (w:World) (h:impl_valuation.f k a0 a1=some r) :
  Calls Try.prog 91 #[.int .i64 a0,.int .i64 a1] w fun e w'=>e=.returned (.int .i64 r)∧Drawn0 w w':=by
 have H:=h
 unfold impl_valuation.f at H
 clear h
 by_cases c3:a1=0
 ·
  rw [if_pos c3] at H
  have c3b0:(a1 == 0)=true:=beq_iff_eq.mpr c3
  have c3b1:(a1 != 0)=false:=bne_eq_false_iff_eq.mpr c3
  clear c3
  obtain rfl:=Option.some.inj H
  go_enter Try.func91,Try.ntmps91
  go_wp2
  go_ret
  exact ⟨by first|rfl|(simp;done)|(simp [*];done),by repeat (first|exact Drawn0.refl _|apply Drawn0.step)⟩
 ·
  rw [if_neg c3] at H
  have c3b0:(a1 == 0)=false:=beq_eq_false_iff_ne.mpr c3
  have c3b1:(a1 != 0)=true:=bne_iff_ne.mpr c3
  have H':=Aside0.mk H
  clear H
  go_enter Try.func91,Try.ntmps91
  go_wp2
  go_loopg [1,5] k (fun kq v1 v5 w'=>∃ (x1_1:Int) (x5_1:Int),v1=.int .i64 x1_1∧v5=.int .i64 x5_1∧Aside0 (impl_valuation.l0 kq a0 x1_1 x5_1=some r)∧Aside0 (kq≤k)∧Drawn0 w w')
  case atStart=>exact ⟨(a1),(0),hB,hB,H',⟨Nat.le_refl _⟩,by repeat (first|exact Drawn0.refl _|apply Drawn0.step)⟩
  case round=>
   clear H'
   try clear c3
   try clear c3b0
   try clear c3b1
   obtain ⟨x1_1,x5_1,rfl,rfl,HA,HK1,⟨m1,rfl⟩⟩:=hrel
   cases gk with
   | zero=>exact absurd HA.out (by simp [impl_valuation.l0])
   | succ k1=>
    have H:=HA.out
    clear HA
    simp only [impl_valuation.l0] at H
    by_cases c4:a0=0
    ·
     rw [if_pos c4] at H
     exact absurd H (by simp)
    rw [if_neg c4] at H
    have c4b0:(a0 == 0)=false:=beq_eq_false_iff_ne.mpr c4
    have c4b1:(a0 != 0)=true:=bne_iff_ne.mpr c4
    by_cases c5:(Int.tmod x1_1 a0)=0
    ·
     rw [if_pos c5] at H
     have c5b0:((Int.tmod x1_1 a0) == 0)=true:=beq_iff_eq.mpr c5
     have c5b1:((Int.tmod x1_1 a0) != 0)=false:=bne_eq_false_iff_eq.mpr c5
     clear c5
     have H':=Aside0.mk H
     clear H
     go_wp2
     go_roundg k1
     case measure=>have:=HK1.out;omega
     case rel=>exact ⟨(wrap64 (Int.tdiv x1_1 a0)),(wrap64 (x5_1+1)),hB,hB,H',⟨by have:=HK1.out;omega⟩,by repeat (first|exact Drawn0.refl _|apply Drawn0.step)⟩
    ·
     rw [if_neg c5] at H
     have c5b0:((Int.tmod x1_1 a0) == 0)=false:=beq_eq_false_iff_ne.mpr c5
     have c5b1:((Int.tmod x1_1 a0) != 0)=true:=bne_iff_ne.mpr c5
     obtain rfl:=Option.some.inj H
     go_wp2
     go_ret
     exact ⟨by first|rfl|(simp;done)|(simp [*];done),by repeat (first|exact Drawn0.refl _|apply Drawn0.step)⟩
def impl_mod.f (a0 a1:Int):Option (Int):=if a1=0 then (none) else (some (Int.tmod (wrap64 ((Int.tmod a0 a1)+a1)) a1))
set_option maxHeartbeats 8000000 in
set_option maxRecDepth 100000 in
theorem impl_mod.calls (a0 a1 r:Int) (w:World) (h:impl_mod.f a0 a1=some r) :
  Calls Try.prog 127 #[.int .i64 a0,.int .i64 a1] w fun e w'=>e=.returned (.int .i64 r)∧Drawn0 w w':=by
 have H:=h
 unfold impl_mod.f at H
 clear h
 by_cases c3:a1=0
 ·
  rw [if_pos c3] at H
  exact absurd H (by simp)
 rw [if_neg c3] at H
 have c3b0:(a1 == 0)=false:=beq_eq_false_iff_ne.mpr c3
 have c3b1:(a1 != 0)=true:=bne_iff_ne.mpr c3
 obtain rfl:=Option.some.inj H
 go_enter Try.func127,Try.ntmps127
 go_wp2
 go_ret
 exact ⟨by first|rfl|(simp;done)|(simp [*];done),by repeat (first|exact Drawn0.refl _|apply Drawn0.step)⟩
def bits_Mul64.f (a0 a1:Int):Option (Int × Int):=if 0≤a0∧a0<18446744073709551616∧0≤a1∧a1<18446744073709551616 then some (a0*a1 / 18446744073709551616,a0*a1 % 18446744073709551616) else none
theorem bits_Mul64.calls (a0 a1 r1 r2:Int) (w:World) (h:bits_Mul64.f a0 a1=some (r1,r2)) :
  Calls Try.prog 132 #[.int .u64 a0,.int .u64 a1] w fun e w'=>e=.returned (.tuple #[.int .u64 r1,.int .u64 r2])∧Drawn0 w w':=by
 unfold bits_Mul64.f at h
 by_cases c:0≤a0∧a0<18446744073709551616∧0≤a1∧a1<18446744073709551616
 ·
  rw [if_pos c] at h
  obtain ⟨h0,h1,h2,h3⟩:=c
  obtain ⟨x,rfl⟩:=Int.eq_ofNat_of_zero_le h0
  obtain ⟨y,rfl⟩:=Int.eq_ofNat_of_zero_le h2
  simp only [Option.some.injEq,Prod.mk.injEq] at h
  obtain ⟨rfl,rfl⟩:=h
  refine (Try.bits_Mul64 x y (by omega) (by omega) w).mono fun e w' ⟨he,hw⟩=>⟨he.trans ?_,hw ▸ Drawn0.refl _⟩
  simp
 ·
  rw [if_neg c] at h;cases h
def bits_LeadingZeros64.f (a0:Int):Option (Int):=if 0≤a0∧a0≤18446744073709551615 then some (64 - (Lib.bitLen a0.toNat:Int)) else none
theorem bits_LeadingZeros64.calls (a0 r:Int) (w:World) (h:bits_LeadingZeros64.f a0=some r) :
  Calls Try.prog 137 #[.int .u64 a0] w fun e w'=>e=.returned (.int .i64 r)∧Drawn0 w w':=by
 unfold bits_LeadingZeros64.f at h
 by_cases c:0≤a0∧a0≤18446744073709551615
 ·
  rw [if_pos c] at h
  obtain rfl:=Option.some.inj h
  exact (Try.bits_LeadingZeros64 a0 w c.1 c.2).mono fun e w' ⟨he,hw⟩=>⟨he,hw ▸ Drawn0.refl _⟩
 ·
  rw [if_neg c] at h;cases h
end Go.Proofs.Ytlpmefmaplhfdaa.PAll
