-- turned out of the kit's print
import Derived.Test.YtlpmefmaplhfdaaQx
import Derived.Test.YtlpmefmaplhfdaaQbitsLeadingZeros64
import Derived.Test.YtlpmefmaplhfdaaQimplofMark
namespace Go.Proofs.Ytlpmefmaplhfdaa.PAll
open Go.RowKit Go.Proofs.YtlpmefmaplhfdaaW.PrintWords Go.Proofs.YtlpmefmaplhfdaaW.PrintLast Go.Proofs.YtlpmefmaplhfdaaW.PrintMore
attribute [local go_sem] Go.Proofs.Ytlpmefmaplhfdaa.Aux.setCell_drewN Go.Proofs.Ytlpmefmaplhfdaa.Aux.isSome_setCell max2_int min2_int max_two min_two max_three min_three max_four min_four
set_option linter.unusedVariables false
set_option linter.unusedSimpArgs false
mutual
def spec_l04Draw.j1:Nat→List Int→Int→Int→Int→Int→Int→Int→Option (Int × Int × Int × Int × Int × Int)
 | 0,_,_,_,_,_,_,_=>none
 | k+1,x1000,x1001,x1002,x111000,x111001,x111002,x111003=>(spec_l01Next.f x1000 x1001 x1002 9).bind fun bt124=>(if bt124.1=0 then ((spec_l01Pick.f x1000 bt124.2.1 bt124.2.2 (([2,3,4,5,9]:List Int))).bind fun bt130=>((spec_l01Next.f x1000 bt130.2.1 bt130.2.2 5).bind fun bt133=>(spec_l04Draw.j2 k x1000 bt133.2.1 bt133.2.2 bt130.1 (wrap64 (bt133.1 - 2)) 0 1))) else (if bt124.1=1 then ((spec_l01Pick.f x1000 bt124.2.1 bt124.2.2 (([2,3,4,7,1]:List Int))).bind fun bt139=>(spec_l04Draw.j2 k x1000 bt139.2.1 bt139.2.2 1 0 0 bt139.1)) else (if bt124.1=2 then ((spec_l01Pick.f x1000 bt124.2.1 bt124.2.2 (([1,(-1),2,3]:List Int))).bind fun bt145=>(spec_l04Draw.j2 k x1000 bt145.2.1 bt145.2.2 0 bt145.1 1 0)) else (if bt124.1=3 then ((spec_l01Next.f x1000 bt124.2.1 bt124.2.2 2001).bind fun bt148=>((spec_l01Next.f x1000 bt148.2.1 bt148.2.2 9).bind fun bt151=>((spec_l01Next.f x1000 bt151.2.1 bt151.2.2 9).bind fun bt154=>((spec_l01Next.f x1000 bt154.2.1 bt154.2.2 2001).bind fun bt157=>(spec_l04Draw.j2 k x1000 bt157.2.1 bt157.2.2 (wrap64 (bt148.1 - 1000)) bt151.1 bt154.1 (wrap64 (bt157.1 - 1000))))))) else (if bt124.1=4 then ((spec_l01Next.f x1000 bt124.2.1 bt124.2.2 7).bind fun bt160=>(spec_l04Draw.j2 k x1000 bt160.2.1 bt160.2.2 1 (wrap64 (bt160.1 - 3)) 0 1)) else (spec_l04Draw.j2 k x1000 bt124.2.1 bt124.2.2 x111000 x111001 x111002 x111003))))))
def spec_l04Draw.j2:Nat→List Int→Int→Int→Int→Int→Int→Int→Option (Int × Int × Int × Int × Int × Int)
 | 0,_,_,_,_,_,_,_=>none
 | k+1,x1000,x1001,x1002,x111000,x111001,x111002,x111003=>(spec_l01Next.f x1000 x1001 x1002 40).bind fun bt163=>(if bt163.1=0 then (some (1001,x111001,x111002,x111003,bt163.2.1,bt163.2.2)) else (if bt163.1=1 then (some (x111000,x111001,x111000,x111001,bt163.2.1,bt163.2.2)) else (some (x111000,x111001,x111002,x111003,bt163.2.1,bt163.2.2))))
def spec_l04Draw.l0:Nat→Int→List Int→Int→Int→Int→Int→Int→Int→Option (Int × Int × Int × Int × Int × Int)
 | 0,_,_,_,_,_,_,_,_=>none
 | k+1,x4,x1000,x1001,x1002,x111000,x111001,x111002,x111003=>if x4<5 then ((spec_l01Next.f x1000 x1001 x1002 11).bind fun bt111=>((spec_l01Next.f x1000 bt111.2.1 bt111.2.2 11).bind fun bt114=>((spec_l01Next.f x1000 bt114.2.1 bt114.2.2 11).bind fun bt117=>((spec_l01Next.f x1000 bt117.2.1 bt117.2.2 11).bind fun bt120=>((spec_l04Det.f (wrap64 (bt111.1 - 5)) (wrap64 (bt114.1 - 5)) (wrap64 (bt117.1 - 5)) (wrap64 (bt120.1 - 5))).bind fun t123=>(if t123=0 then (spec_l04Draw.l0 k (wrap64 (x4+1)) x1000 bt120.2.1 bt120.2.2 (wrap64 (bt111.1 - 5)) (wrap64 (bt114.1 - 5)) (wrap64 (bt117.1 - 5)) (wrap64 (bt120.1 - 5))) else (spec_l04Draw.j1 k x1000 bt120.2.1 bt120.2.2 (wrap64 (bt111.1 - 5)) (wrap64 (bt114.1 - 5)) (wrap64 (bt117.1 - 5)) (wrap64 (bt120.1 - 5))))))))) else (spec_l04Draw.j1 k x1000 x1001 x1002 x111000 x111001 x111002 x111003)
end
def spec_l04Draw.f (k:Nat) (s0_0:List Int) (s0_1 s0_2:Int):Option (Int × Int × Int × Int × Int × Int):=spec_l04Draw.l0 k 0 s0_0 s0_1 s0_2 0 0 0 0
theorem spec_l04Draw.mono_l:∀ k,(∀ y0 y1 y2 y3 y4 y5 y6,LeO (spec_l04Draw.j1 k y0 y1 y2 y3 y4 y5 y6) (spec_l04Draw.j1 (k+1) y0 y1 y2 y3 y4 y5 y6))∧(∀ y0 y1 y2 y3 y4 y5 y6,LeO (spec_l04Draw.j2 k y0 y1 y2 y3 y4 y5 y6) (spec_l04Draw.j2 (k+1) y0 y1 y2 y3 y4 y5 y6))∧(∀ y0 y1 y2 y3 y4 y5 y6 y7,LeO (spec_l04Draw.l0 k y0 y1 y2 y3 y4 y5 y6 y7) (spec_l04Draw.l0 (k+1) y0 y1 y2 y3 y4 y5 y6 y7))
 | 0=>by refine ⟨?_,?_,?_⟩ <;> (intros;intro r h;simp [spec_l04Draw.j1,spec_l04Draw.j2,spec_l04Draw.l0] at h)
 | k+1=>by
  obtain ⟨ih0,ih1,ih2⟩:=spec_l04Draw.mono_l k
  refine ⟨?_,?_,?_⟩ <;> (intros;first|unfold spec_l04Draw.j1|unfold spec_l04Draw.j2|unfold spec_l04Draw.l0)
  all_goals repeat' first
  | with_reducible first|exact ih0 ..|exact ih1 ..|exact ih2 ..|exact LeO.refl _|exact LeO.none _|refine LeO.ite ?_ ?_|refine LeO.bind ?_ fun _=>?_
theorem spec_l04Draw.mono:∀ a0 a1 a2 k,LeO (spec_l04Draw.f k a0 a1 a2) (spec_l04Draw.f (k+1) a0 a1 a2):=by
 intro a0 a1 a2 k
 obtain ⟨ih0,ih1,ih2⟩:=spec_l04Draw.mono_l k
 unfold spec_l04Draw.f
 repeat' first
   | with_reducible first|exact ih0 ..|exact ih1 ..|exact ih2 ..|exact LeO.refl _|exact LeO.none _|refine LeO.ite ?_ ?_|refine LeO.bind ?_ fun _=>?_
def spec_l04Draw.T8:Bool × List (List Nat × List Nat):=(true,[([],[]),([0],[0]),([],[]),([2],[2]),([],[]),([4],[4]),([5],[5]),([1],[1]),([7,3,0,1,2,3,4,5,6],[3,7]),([8,6,5,0,1,2,3,4,5,6],[6,8])])
def spec_l04Draw.B8:List Nat:=[0,1,0,4,0,16,48,3,255,511]
theorem spec_l04Draw.tab8:rtab .any (opsOf Try.f48 8)=spec_l04Draw.T8:=by kernel_rfl
theorem wz0:wrap64 0=0:=by unfold wrap64;rfl
theorem wz1:wrap64 1=1:=by unfold wrap64;rfl
theorem spec_l04Draw.bits8:waitsOk spec_l04Draw.T8.2 spec_l04Draw.B8=true:=by kernel_rfl
set_option maxHeartbeats 8000000 in
set_option maxRecDepth 100000 in
theorem spec_l04Draw.calls (k g:Nat) (s0_0:List Int) (s0_1 s0_2 r1 r2 r3 r4 r5 r6:Int) (w0 w:World) (hI:IsS116 w0 w g s0_0 s0_1 s0_2) (hB:Below w0.heap.size w0 w) (h:spec_l04Draw.f k s0_0 s0_1 s0_2=some (r1,r2,r3,r4,r5,r6)) :
  Calls Try.prog 48 #[.pointer (some ⟨g,0,none⟩)] w fun e w'=>e=.returned (.agg #[.int .i64 r1,.int .i64 r2,.int .i64 r3,.int .i64 r4])∧IsS116 w0 w' g s0_0 r5 r6∧Below w0.heap.size w0 w'∧KeepBut w w' g none:=by
 have hu26:=Try.underlying26
 have hu24:=Try.underlying24
 have HI0:=Aside0.mk hI
 have HK:=Aside0.mk (KeepBut.refl w g none)
 have HL:=Aside0.mk hB.size
 clear hI
 have HW0:=Aside0.mk hB.size
 have HB:=Aside0.mk hB
 clear hB
 have H:=h
 unfold spec_l04Draw.f at H
 clear h
 have HC2:=Aside0.mk H
 clear H
 go_enter Try.func48,Try.ntmps48
 go_upto_block 0 with (first|((with_reducible refine gate_dst (N:=2) rfl ?_);refine bxE (cs:=#[.int .i64 0,.int .i64 0,.int .i64 0,.int .i64 0]) (t:=26) ?_;intro gb109 hg w3 hbox hb;have n0_:=Aside0.mk (IsS116.below (iA HI0) hb);have n1_:=kbA HK hb;have n2_:=lI hb;have n3_:=Aside0.mk hbox;have n4_:=kzA HK hg;have n5_:=Aside0.mk (Nat.le_trans HW0.out (kzA HK hg).out);have n6_:=inA hg (IsS116.lt (iA HI0));have n7_:=inB hg (IsS116.lt (iA HI0));clear HI0;clear HK;clear HB;have HI0:=n0_;have HK:=n1_;have HB:=n2_;have BK109:=n3_;have GW109:=n4_;have GE109:=n5_;have NB0_109:=n6_;have NB109_0:=n7_;clear n0_ n1_ n2_ n3_ n4_ n5_ n6_ n7_;clear hb hbox hg)|((with_reducible refine gate_dst (N:=3) rfl ?_);refine bxE (cs:=#[.int .i64 0,.int .i64 0,.int .i64 0,.int .i64 0]) (t:=26) ?_;intro gb110 hg w4 hbox hb;have n0_:=Aside0.mk (IsS116.below (iA HI0) hb);have n1_:=kB BK109 hb;have n2_:=kbA HK hb;have n3_:=lI hb;have n4_:=Aside0.mk hbox;have n5_:=kzA HK hg;have n6_:=Aside0.mk (Nat.le_trans HW0.out (kzA HK hg).out);have n7_:=nA hg BK109;have n8_:=nB hg BK109;have n9_:=inA hg (IsS116.lt (iA HI0));have n10_:=inB hg (IsS116.lt (iA HI0));clear HI0;clear BK109;clear HK;clear HB;have HI0:=n0_;have BK109:=n1_;have HK:=n2_;have HB:=n3_;have BK110:=n4_;have GW110:=n5_;have GE110:=n6_;have NB109_110:=n7_;have NB110_109:=n8_;have NB0_110:=n9_;have NB110_0:=n10_;clear n0_ n1_ n2_ n3_ n4_ n5_ n6_ n7_ n8_ n9_ n10_;clear hb hbox hg;have hnb5:=NB110_109.out;have hnc5:=NB109_110.out;have hnb6:=NB110_0.out;have hnc6:=NB0_110.out;obtain ⟨hcz7_0,hcz7_1,hcz7_2,hcz7_3,hfz7_0,hfz7_1,hfz7_2,hfz7_3⟩:=cz4 BK110))
 (try simp only [Act.put,List.setIfInBounds_toArray,List.set_cons_zero,List.set_cons_succ])
 go_cut [] (fun wc=>∃ (kq:Nat) (x1001_1:Int) (x1002_1:Int) (x111000_1:Int) (x111001_1:Int) (x111002_1:Int) (x111003_1:Int),Aside0 (spec_l04Draw.j1 kq s0_0 x1001_1 x1002_1 x111000_1 x111001_1 x111002_1 x111003_1=some (r1,r2,r3,r4,r5,r6))∧Aside0 (kq≤k)∧Aside0 (wc.heap[gb109]?=some (.cells #[.int .i64 0,.int .i64 0,.int .i64 0,.int .i64 0] 26 (0,0)))∧Aside0 (wc.heap[gb110]?=some (.cells #[.int .i64 x111000_1,.int .i64 x111001_1,.int .i64 x111002_1,.int .i64 x111003_1] 26 (0,0)))∧Aside0 (IsS116 w0 wc g s0_0 x1001_1 x1002_1)∧Aside0 (KeepBut w wc g none)∧Aside0 (Below w0.heap.size w0 wc))
 case first=>
  have H:=HC2.out
  clear HC2
  have H':=Aside0.mk H
  clear H
  go_wp2
  go_loopg [4] k (fun kq v4 w'=>∃ (x4_1:Int) (x1001_1:Int) (x1002_1:Int) (x111000_1:Int) (x111001_1:Int) (x111002_1:Int) (x111003_1:Int),v4=.int .i64 x4_1∧Aside0 (spec_l04Draw.l0 kq x4_1 s0_0 x1001_1 x1002_1 x111000_1 x111001_1 x111002_1 x111003_1=some (r1,r2,r3,r4,r5,r6))∧Aside0 (kq≤k)∧Aside0 (w'.heap[gb109]?=some (.cells #[.int .i64 0,.int .i64 0,.int .i64 0,.int .i64 0] 26 (0,0)))∧Aside0 (w'.heap[gb110]?=some (.cells #[.int .i64 x111000_1,.int .i64 x111001_1,.int .i64 x111002_1,.int .i64 x111003_1] 26 (0,0)))∧Aside0 (IsS116 w0 w' g s0_0 x1001_1 x1002_1)∧Aside0 (KeepBut w w' g none)∧Aside0 (Below w0.heap.size w0 w'))
  case atStart=>exact ⟨(0),(s0_1),(s0_2),(0),(0),(0),(0),hB,H',⟨Nat.le_refl _⟩,⟨bkF BK109⟩,⟨bpA BK110⟩,⟨iA HI0⟩,⟨kpA⟩,⟨blI⟩⟩
  case round=>
   clear H'
   try clear hcz7_0
   try clear hcz7_1
   try clear hcz7_2
   try clear hcz7_3
   try clear hfz7_0
   try clear hfz7_1
   try clear hfz7_2
   try clear hfz7_3
   obtain ⟨x4_1,x1001_1,x1002_1,x111000_1,x111001_1,x111002_1,x111003_1,rfl,HA,HK1,BK109,BK110,HI0,HK,HB⟩:=hrel
   cases gk with
   | zero=>exact absurd HA.out (by simp [spec_l04Draw.l0])
   | succ k1=>
    have H:=HA.out
    clear HA
    simp only [spec_l04Draw.l0] at H
    by_cases c8:x4_1<5
    ·
     rw [if_pos c8] at H
     have c8b0:=decide_eq_true c8
     clear c8
     (first|rw [c8b0]|(simp only [i64_w,i32_w];rw [c8b0])|skip)
     replace H:=bS H
     obtain ⟨⟨t111,t112,t113⟩,A9,H⟩:=H
     try dsimp only at H
     replace H:=bS H
     obtain ⟨⟨t114,t115,t116⟩,A10,H⟩:=H
     try dsimp only at H
     replace H:=bS H
     obtain ⟨⟨t117,t118,t119⟩,A11,H⟩:=H
     try dsimp only at H
     replace H:=bS H
     obtain ⟨⟨t120,t121,t122⟩,A12,H⟩:=H
     try dsimp only at H
     replace H:=bS H
     obtain ⟨t123,A13,H⟩:=H
     try dsimp only at H
     by_cases c14:t123=0
     focus
      rw [if_pos c14] at H
      have c14b0:(t123 == 0)=true:=beq_iff_eq.mpr c14
      have c14b1:(t123 != 0)=false:=bne_eq_false_iff_eq.mpr c14
      clear c14
      have H':=Aside0.mk H
      clear H
     rotate_left
     focus
      rw [if_neg c14] at H
      have c14b0:(t123 == 0)=false:=beq_eq_false_iff_ne.mpr c14
      have c14b1:(t123 != 0)=true:=bne_iff_ne.mpr c14
      have H':=Aside0.mk H
      clear H
     rotate_left
     all_goals
      try go_wp2
      refine wp_loop_rounds 5 ?_
      rw [rounds_succ]
      try go_wp2
      have n0_:=Aside0.mk (blk_drew BK109.out)
      have n1_:=Aside0.mk (blk_drew BK110.out)
      have n2_:=Aside0.mk (IsS116.drew HI0.out)
      have n3_:=Aside0.mk (keep_drew HK.out)
      have n4_:=Aside0.mk (below_drew1 HB.out)
      clear BK109
      clear BK110
      clear HI0
      clear HK
      clear HB
      have BK109:=n0_
      have BK110:=n1_
      have HI0:=n2_
      have HK:=n3_
      have HB:=n4_
      clear n0_ n1_ n2_ n3_ n4_
      refine start_ (n:=10) (S:=fun w'=>True) (ds:=[]) #[Z,Z,Z,Z,Z,Z,Z,Z,Z,Z] (by kernel_rfl) rfl rfl trivial (fun hHeld=>?_);refine with_tabW spec_l04Draw.tab8 spec_l04Draw.bits8 (fun HT_ HW_=>?_)
      generalize wr.drew=w15 at BK109 BK110 HI0 HK HB hHeld ⊢
      refine puA (i:=0) (N:=some 15) #[Y,Z,Z,Z,Z,Z,Z,Z,Z,Z] rfl rfl HT_ ?_
      refine puA (i:=1) (N:=some 16) #[Y,Y,Z,Z,Z,Z,Z,Z,Z,Z] rfl rfl HT_ ?_
      refine puA (i:=2) (N:=some 17) #[Y,Y,Y,Z,Z,Z,Z,Z,Z,Z] rfl rfl HT_ ?_
      refine puA (i:=3) (N:=some 18) #[Y,Y,Y,Y,Z,Z,Z,Z,Z,Z] rfl rfl HT_ ?_
      refine puA (i:=4) (N:=some 19) #[Y,Y,Y,Y,Y,Z,Z,Z,Z,Z] rfl rfl HT_ ?_
      refine puA (i:=7) (N:=some 22) (hy:=Or.inl ⟨by rfl,by intro w';go_simp;(try simp only [wz0,wz1]);rfl⟩) #[Y,Y,Y,Y,Y,Z,Z,Y,Z,Z] rfl rfl HT_ ?_
      refine one_ (i:=5) (N:=some 20) #[Y,Y,Y,Y,Y,Y,Z,Y,Z,Z] rfl rfl (one_of HT_.out (by kernel_rfl)) (by decide) (fun K hK=>?_)
      refine goC Try.func82 (spec_l01Next.calls (w:=_) (g:=g) (w0:=w0) (hI:=iA HI0) (hB:=blI) (h:=A9.out)) ?_
      rintro w16 ⟨hi,hb,hk⟩
      replace BK109:=kbk hk BK109 NB109_0
      replace BK110:=kbk hk BK110 NB110_0
      replace HK:=kkA HK hk
      replace HB:=Aside0.mk hb
      replace HI0:=Aside0.mk hi
      (try clear hb)
      (try clear hb2)
      (try clear hk)
      (try clear hi)
      refine hK.out _ _ trivial (fun hHeld=>?_)
      clear hK K
      refine nmA ?_
      refine puA (i:=6) (N:=some 21) #[Y,Y,Y,Y,Y,Y,Y,Y,Z,Z] rfl rfl HT_ ?_
      refine puA (i:=8) (N:=some 23) (hy:=Or.inl ⟨by rfl,by intro w';go_simp;(try simp only [wz0,wz1]);rfl⟩) #[Y,Y,Y,Y,Y,Y,Y,Y,Y,Z] rfl rfl HT_ ?_
      refine one_ (i:=9) (N:=none) #[Y,Y,Y,Y,Y,Y,Y,Y,Y,Y] rfl rfl (one_of HT_.out (by kernel_rfl)) (by decide) (fun K hK=>?_)
      have hs17:w16.cell? ⟨gb110,0,none⟩=some (.int .i64 x111000_1):=cA BK110 0
      have hfs17:=blk_frozen BK110.out 0
      have hns17_0:=NB109_110.out
      have hms17_0:=NB110_109.out
      refine skip_ (w1:=?_) (by rfl) rfl ?_ ?_
      rotate_left
      ·
       go_simp
       rfl
      refine hK.out _ _ trivial (fun hHeld=>?_)
      clear hK K
      refine done_ (done_of HT_.out (by kernel_rfl)) ?_
      try go_wp2
      rw [rounds_succ]
      try go_wp2
      have n0_:Aside0 ((w16.setCell ⟨gb110,0,none⟩ (.int .i64 (wrap64 (t111 - 5)))).heap[gb109]?=some (.cells #[.int .i64 0,.int .i64 0,.int .i64 0,.int .i64 0] 26 (0,0))):=⟨bkF BK109⟩
      have n1_:Aside0 ((w16.setCell ⟨gb110,0,none⟩ (.int .i64 (wrap64 (t111 - 5)))).heap[gb110]?=some (.cells #[.int .i64 (wrap64 (t111 - 5)),.int .i64 x111001_1,.int .i64 x111002_1,.int .i64 x111003_1] 26 (0,0))):=⟨bpA BK110⟩
      have n2_:Aside0 (IsS116 w0 (w16.setCell ⟨gb110,0,none⟩ (.int .i64 (wrap64 (t111 - 5)))) g s0_0 t112 t113):=⟨iA HI0⟩
      have n3_:Aside0 (KeepBut w (w16.setCell ⟨gb110,0,none⟩ (.int .i64 (wrap64 (t111 - 5)))) g none):=⟨kpA⟩
      have n4_:Aside0 (Below w0.heap.size w0 (w16.setCell ⟨gb110,0,none⟩ (.int .i64 (wrap64 (t111 - 5))))):=⟨blI⟩
      (try clear BK109)
      (try clear BK110)
      (try clear HI0)
      (try clear HK)
      (try clear HB)
      generalize (w16.setCell ⟨gb110,0,none⟩ (.int .i64 (wrap64 (t111 - 5))))=w18 at n0_ n1_ n2_ n3_ n4_ ⊢
      have BK109:=n0_
      have BK110:=n1_
      have HI0:=n2_
      have HK:=n3_
      have HB:=n4_
      clear n0_ n1_ n2_ n3_ n4_
      have n0_:=Aside0.mk (blk_drew BK109.out)
      have n1_:=Aside0.mk (blk_drew BK110.out)
      have n2_:=Aside0.mk (IsS116.drew HI0.out)
      have n3_:=Aside0.mk (keep_drew HK.out)
      have n4_:=Aside0.mk (below_drew1 HB.out)
      clear BK109
      clear BK110
      clear HI0
      clear HK
      clear HB
      have BK109:=n0_
      have BK110:=n1_
      have HI0:=n2_
      have HK:=n3_
      have HB:=n4_
      clear n0_ n1_ n2_ n3_ n4_
      refine start_ (n:=10) (S:=fun w'=>True) (ds:=[]) #[Z,Z,Z,Z,Z,Z,Z,Z,Z,Z] (by kernel_rfl) rfl rfl trivial (fun hHeld=>?_);refine with_tabW spec_l04Draw.tab8 spec_l04Draw.bits8 (fun HT_ HW_=>?_)
      generalize w18.drew=w19 at BK109 BK110 HI0 HK HB hHeld ⊢
      refine puA (i:=0) (N:=some 15) #[Y,Z,Z,Z,Z,Z,Z,Z,Z,Z] rfl rfl HT_ ?_
      refine puA (i:=1) (N:=some 16) #[Y,Y,Z,Z,Z,Z,Z,Z,Z,Z] rfl rfl HT_ ?_
      refine puA (i:=2) (N:=some 17) #[Y,Y,Y,Z,Z,Z,Z,Z,Z,Z] rfl rfl HT_ ?_
      refine puA (i:=3) (N:=some 18) #[Y,Y,Y,Y,Z,Z,Z,Z,Z,Z] rfl rfl HT_ ?_
      refine puA (i:=4) (N:=some 19) #[Y,Y,Y,Y,Y,Z,Z,Z,Z,Z] rfl rfl HT_ ?_
      refine puA (i:=7) (N:=some 22) (hy:=Or.inl ⟨by rfl,by intro w';go_simp;(try simp only [wz0,wz1]);rfl⟩) #[Y,Y,Y,Y,Y,Z,Z,Y,Z,Z] rfl rfl HT_ ?_
      refine one_ (i:=5) (N:=some 20) #[Y,Y,Y,Y,Y,Y,Z,Y,Z,Z] rfl rfl (one_of HT_.out (by kernel_rfl)) (by decide) (fun K hK=>?_)
      refine goC Try.func82 (spec_l01Next.calls (w:=_) (g:=g) (w0:=w0) (hI:=iA HI0) (hB:=blI) (h:=A10.out)) ?_
      rintro w20 ⟨hi,hb,hk⟩
      replace BK109:=kbk hk BK109 NB109_0
      replace BK110:=kbk hk BK110 NB110_0
      replace HK:=kkA HK hk
      replace HB:=Aside0.mk hb
      replace HI0:=Aside0.mk hi
      (try clear hb)
      (try clear hb2)
      (try clear hk)
      (try clear hi)
      refine hK.out _ _ trivial (fun hHeld=>?_)
      clear hK K
      refine nmA ?_
      refine puA (i:=6) (N:=some 21) #[Y,Y,Y,Y,Y,Y,Y,Y,Z,Z] rfl rfl HT_ ?_
      refine puA (i:=8) (N:=some 23) (hy:=Or.inl ⟨by rfl,by intro w';go_simp;(try simp only [wz0,wz1]);rfl⟩) #[Y,Y,Y,Y,Y,Y,Y,Y,Y,Z] rfl rfl HT_ ?_
      refine one_ (i:=9) (N:=none) #[Y,Y,Y,Y,Y,Y,Y,Y,Y,Y] rfl rfl (one_of HT_.out (by kernel_rfl)) (by decide) (fun K hK=>?_)
      have hs21:w20.cell? ⟨gb110,1,none⟩=some (.int .i64 x111001_1):=cA BK110 1
      have hfs21:=blk_frozen BK110.out 1
      have hns21_0:=NB109_110.out
      have hms21_0:=NB110_109.out
      refine skip_ (w1:=?_) (by rfl) rfl ?_ ?_
      rotate_left
      ·
       go_simp
       rfl
      refine hK.out _ _ trivial (fun hHeld=>?_)
      clear hK K
      refine done_ (done_of HT_.out (by kernel_rfl)) ?_
      try go_wp2
      rw [rounds_succ]
      try go_wp2
      have n0_:Aside0 ((w20.setCell ⟨gb110,1,none⟩ (.int .i64 (wrap64 (t114 - 5)))).heap[gb109]?=some (.cells #[.int .i64 0,.int .i64 0,.int .i64 0,.int .i64 0] 26 (0,0))):=⟨bkF BK109⟩
      have n1_:Aside0 ((w20.setCell ⟨gb110,1,none⟩ (.int .i64 (wrap64 (t114 - 5)))).heap[gb110]?=some (.cells #[.int .i64 (wrap64 (t111 - 5)),.int .i64 (wrap64 (t114 - 5)),.int .i64 x111002_1,.int .i64 x111003_1] 26 (0,0))):=⟨bpA BK110⟩
      have n2_:Aside0 (IsS116 w0 (w20.setCell ⟨gb110,1,none⟩ (.int .i64 (wrap64 (t114 - 5)))) g s0_0 t115 t116):=⟨iA HI0⟩
      have n3_:Aside0 (KeepBut w (w20.setCell ⟨gb110,1,none⟩ (.int .i64 (wrap64 (t114 - 5)))) g none):=⟨kpA⟩
      have n4_:Aside0 (Below w0.heap.size w0 (w20.setCell ⟨gb110,1,none⟩ (.int .i64 (wrap64 (t114 - 5))))):=⟨blI⟩
      (try clear BK109)
      (try clear BK110)
      (try clear HI0)
      (try clear HK)
      (try clear HB)
      generalize (w20.setCell ⟨gb110,1,none⟩ (.int .i64 (wrap64 (t114 - 5))))=w22 at n0_ n1_ n2_ n3_ n4_ ⊢
      have BK109:=n0_
      have BK110:=n1_
      have HI0:=n2_
      have HK:=n3_
      have HB:=n4_
      clear n0_ n1_ n2_ n3_ n4_
      have n0_:=Aside0.mk (blk_drew BK109.out)
      have n1_:=Aside0.mk (blk_drew BK110.out)
      have n2_:=Aside0.mk (IsS116.drew HI0.out)
      have n3_:=Aside0.mk (keep_drew HK.out)
      have n4_:=Aside0.mk (below_drew1 HB.out)
      clear BK109
      clear BK110
      clear HI0
      clear HK
      clear HB
      have BK109:=n0_
      have BK110:=n1_
      have HI0:=n2_
      have HK:=n3_
      have HB:=n4_
      clear n0_ n1_ n2_ n3_ n4_
      refine start_ (n:=10) (S:=fun w'=>True) (ds:=[]) #[Z,Z,Z,Z,Z,Z,Z,Z,Z,Z] (by kernel_rfl) rfl rfl trivial (fun hHeld=>?_);refine with_tabW spec_l04Draw.tab8 spec_l04Draw.bits8 (fun HT_ HW_=>?_)
      generalize w22.drew=w23 at BK109 BK110 HI0 HK HB hHeld ⊢
      refine puA (i:=0) (N:=some 15) #[Y,Z,Z,Z,Z,Z,Z,Z,Z,Z] rfl rfl HT_ ?_
      refine puA (i:=1) (N:=some 16) #[Y,Y,Z,Z,Z,Z,Z,Z,Z,Z] rfl rfl HT_ ?_
      refine puA (i:=2) (N:=some 17) #[Y,Y,Y,Z,Z,Z,Z,Z,Z,Z] rfl rfl HT_ ?_
      refine puA (i:=3) (N:=some 18) #[Y,Y,Y,Y,Z,Z,Z,Z,Z,Z] rfl rfl HT_ ?_
      refine puA (i:=4) (N:=some 19) #[Y,Y,Y,Y,Y,Z,Z,Z,Z,Z] rfl rfl HT_ ?_
      refine puA (i:=7) (N:=some 22) (hy:=Or.inl ⟨by rfl,by intro w';go_simp;(try simp only [wz0,wz1]);rfl⟩) #[Y,Y,Y,Y,Y,Z,Z,Y,Z,Z] rfl rfl HT_ ?_
      refine one_ (i:=5) (N:=some 20) #[Y,Y,Y,Y,Y,Y,Z,Y,Z,Z] rfl rfl (one_of HT_.out (by kernel_rfl)) (by decide) (fun K hK=>?_)
      refine goC Try.func82 (spec_l01Next.calls (w:=_) (g:=g) (w0:=w0) (hI:=iA HI0) (hB:=blI) (h:=A11.out)) ?_
      rintro w24 ⟨hi,hb,hk⟩
      replace BK109:=kbk hk BK109 NB109_0
      replace BK110:=kbk hk BK110 NB110_0
      replace HK:=kkA HK hk
      replace HB:=Aside0.mk hb
      replace HI0:=Aside0.mk hi
      (try clear hb)
      (try clear hb2)
      (try clear hk)
      (try clear hi)
      refine hK.out _ _ trivial (fun hHeld=>?_)
      clear hK K
      refine nmA ?_
      refine puA (i:=6) (N:=some 21) #[Y,Y,Y,Y,Y,Y,Y,Y,Z,Z] rfl rfl HT_ ?_
      refine puA (i:=8) (N:=some 23) (hy:=Or.inl ⟨by rfl,by intro w';go_simp;(try simp only [wz0,wz1]);rfl⟩) #[Y,Y,Y,Y,Y,Y,Y,Y,Y,Z] rfl rfl HT_ ?_
      refine one_ (i:=9) (N:=none) #[Y,Y,Y,Y,Y,Y,Y,Y,Y,Y] rfl rfl (one_of HT_.out (by kernel_rfl)) (by decide) (fun K hK=>?_)
      have hs25:w24.cell? ⟨gb110,2,none⟩=some (.int .i64 x111002_1):=cA BK110 2
      have hfs25:=blk_frozen BK110.out 2
      have hns25_0:=NB109_110.out
      have hms25_0:=NB110_109.out
      refine skip_ (w1:=?_) (by rfl) rfl ?_ ?_
      rotate_left
      ·
       go_simp
       rfl
      refine hK.out _ _ trivial (fun hHeld=>?_)
      clear hK K
      refine done_ (done_of HT_.out (by kernel_rfl)) ?_
      try go_wp2
      rw [rounds_succ]
      try go_wp2
      have n0_:Aside0 ((w24.setCell ⟨gb110,2,none⟩ (.int .i64 (wrap64 (t117 - 5)))).heap[gb109]?=some (.cells #[.int .i64 0,.int .i64 0,.int .i64 0,.int .i64 0] 26 (0,0))):=⟨bkF BK109⟩
      have n1_:Aside0 ((w24.setCell ⟨gb110,2,none⟩ (.int .i64 (wrap64 (t117 - 5)))).heap[gb110]?=some (.cells #[.int .i64 (wrap64 (t111 - 5)),.int .i64 (wrap64 (t114 - 5)),.int .i64 (wrap64 (t117 - 5)),.int .i64 x111003_1] 26 (0,0))):=⟨bpA BK110⟩
      have n2_:Aside0 (IsS116 w0 (w24.setCell ⟨gb110,2,none⟩ (.int .i64 (wrap64 (t117 - 5)))) g s0_0 t118 t119):=⟨iA HI0⟩
      have n3_:Aside0 (KeepBut w (w24.setCell ⟨gb110,2,none⟩ (.int .i64 (wrap64 (t117 - 5)))) g none):=⟨kpA⟩
      have n4_:Aside0 (Below w0.heap.size w0 (w24.setCell ⟨gb110,2,none⟩ (.int .i64 (wrap64 (t117 - 5))))):=⟨blI⟩
      (try clear BK109)
      (try clear BK110)
      (try clear HI0)
      (try clear HK)
      (try clear HB)
      generalize (w24.setCell ⟨gb110,2,none⟩ (.int .i64 (wrap64 (t117 - 5))))=w26 at n0_ n1_ n2_ n3_ n4_ ⊢
      have BK109:=n0_
      have BK110:=n1_
      have HI0:=n2_
      have HK:=n3_
      have HB:=n4_
      clear n0_ n1_ n2_ n3_ n4_
      have n0_:=Aside0.mk (blk_drew BK109.out)
      have n1_:=Aside0.mk (blk_drew BK110.out)
      have n2_:=Aside0.mk (IsS116.drew HI0.out)
      have n3_:=Aside0.mk (keep_drew HK.out)
      have n4_:=Aside0.mk (below_drew1 HB.out)
      clear BK109
      clear BK110
      clear HI0
      clear HK
      clear HB
      have BK109:=n0_
      have BK110:=n1_
      have HI0:=n2_
      have HK:=n3_
      have HB:=n4_
      clear n0_ n1_ n2_ n3_ n4_
      refine start_ (n:=10) (S:=fun w'=>True) (ds:=[]) #[Z,Z,Z,Z,Z,Z,Z,Z,Z,Z] (by kernel_rfl) rfl rfl trivial (fun hHeld=>?_);refine with_tabW spec_l04Draw.tab8 spec_l04Draw.bits8 (fun HT_ HW_=>?_)
      generalize w26.drew=w27 at BK109 BK110 HI0 HK HB hHeld ⊢
      refine puA (i:=0) (N:=some 15) #[Y,Z,Z,Z,Z,Z,Z,Z,Z,Z] rfl rfl HT_ ?_
      refine puA (i:=1) (N:=some 16) #[Y,Y,Z,Z,Z,Z,Z,Z,Z,Z] rfl rfl HT_ ?_
      refine puA (i:=2) (N:=some 17) #[Y,Y,Y,Z,Z,Z,Z,Z,Z,Z] rfl rfl HT_ ?_
      refine puA (i:=3) (N:=some 18) #[Y,Y,Y,Y,Z,Z,Z,Z,Z,Z] rfl rfl HT_ ?_
      refine puA (i:=4) (N:=some 19) #[Y,Y,Y,Y,Y,Z,Z,Z,Z,Z] rfl rfl HT_ ?_
      refine puA (i:=7) (N:=some 22) (hy:=Or.inl ⟨by rfl,by intro w';go_simp;(try simp only [wz0,wz1]);rfl⟩) #[Y,Y,Y,Y,Y,Z,Z,Y,Z,Z] rfl rfl HT_ ?_
      refine one_ (i:=5) (N:=some 20) #[Y,Y,Y,Y,Y,Y,Z,Y,Z,Z] rfl rfl (one_of HT_.out (by kernel_rfl)) (by decide) (fun K hK=>?_)
      refine goC Try.func82 (spec_l01Next.calls (w:=_) (g:=g) (w0:=w0) (hI:=iA HI0) (hB:=blI) (h:=A12.out)) ?_
      rintro w28 ⟨hi,hb,hk⟩
      replace BK109:=kbk hk BK109 NB109_0
      replace BK110:=kbk hk BK110 NB110_0
      replace HK:=kkA HK hk
      replace HB:=Aside0.mk hb
      replace HI0:=Aside0.mk hi
      (try clear hb)
      (try clear hb2)
      (try clear hk)
      (try clear hi)
      refine hK.out _ _ trivial (fun hHeld=>?_)
      clear hK K
      refine nmA ?_
      refine puA (i:=6) (N:=some 21) #[Y,Y,Y,Y,Y,Y,Y,Y,Z,Z] rfl rfl HT_ ?_
      refine puA (i:=8) (N:=some 23) (hy:=Or.inl ⟨by rfl,by intro w';go_simp;(try simp only [wz0,wz1]);rfl⟩) #[Y,Y,Y,Y,Y,Y,Y,Y,Y,Z] rfl rfl HT_ ?_
      refine one_ (i:=9) (N:=none) #[Y,Y,Y,Y,Y,Y,Y,Y,Y,Y] rfl rfl (one_of HT_.out (by kernel_rfl)) (by decide) (fun K hK=>?_)
      have hs29:w28.cell? ⟨gb110,3,none⟩=some (.int .i64 x111003_1):=cA BK110 3
      have hfs29:=blk_frozen BK110.out 3
      have hns29_0:=NB109_110.out
      have hms29_0:=NB110_109.out
      refine skip_ (w1:=?_) (by rfl) rfl ?_ ?_
      rotate_left
      ·
       go_simp
       rfl
      refine hK.out _ _ trivial (fun hHeld=>?_)
      clear hK K
      refine done_ (done_of HT_.out (by kernel_rfl)) ?_
      have hnb30:=NB110_109.out
      have hnc30:=NB109_110.out
      have hnb31:=NB110_0.out
      have hnc31:=NB0_110.out
      obtain ⟨hcz32_0,hcz32_1,hcz32_2,hcz32_3,hfz32_0,hfz32_1,hfz32_2,hfz32_3⟩:=cz4 BK110
      try go_wp2
      rw [rounds_succ]
     ·
      try go_wp2_with (first|((with_reducible refine gd 25 rfl ?_);refine gC (some 25) rfl Try.func96 (spec_l04Det.calls (w:=_) (h:=A13.out)) ?_;intro w33 hb;have n0_:=Aside0.mk (blk_below (g:=gb109) (o:=.cells #[.int .i64 0,.int .i64 0,.int .i64 0,.int .i64 0] 26 (0,0)) (bkF BK109) hb);have n1_:=Aside0.mk (blk_below (g:=gb110) (o:=.cells #[.int .i64 (wrap64 (t111 - 5)),.int .i64 (wrap64 (t114 - 5)),.int .i64 (wrap64 (t117 - 5)),.int .i64 (wrap64 (t120 - 5))] 26 (0,0)) (bpA BK110) hb);have n2_:=Aside0.mk (IsS116.below (show IsS116 w0 (w28.setCell ⟨gb110,3,none⟩ (.int .i64 (wrap64 (t120 - 5)))) g s0_0 t121 t122 from iA HI0) hb);have n3_:=kbA HK hb;have n4_:=lI hb;clear BK109;clear BK110;clear HI0;clear HK;clear HB;have BK109:=n0_;have BK110:=n1_;have HI0:=n2_;have HK:=n3_;have HB:=n4_;clear n0_ n1_ n2_ n3_ n4_;clear hb))
      go_roundg k1
      case measure=>have:=HK1.out;omega
      case rel=>exact ⟨(wrap64 (x4_1+1)),(t121),(t122),(wrap64 (t111 - 5)),(wrap64 (t114 - 5)),(wrap64 (t117 - 5)),(wrap64 (t120 - 5)),hB,H',⟨by have:=HK1.out;omega⟩,⟨bkA BK109⟩,⟨bkA BK110⟩,⟨iA HI0⟩,⟨kpA⟩,⟨blI⟩⟩
     ·
      try go_wp2_with (first|((with_reducible refine gd 25 rfl ?_);refine gC (some 25) rfl Try.func96 (spec_l04Det.calls (w:=_) (h:=A13.out)) ?_;intro w52 hb;have n0_:=Aside0.mk (blk_below (g:=gb109) (o:=.cells #[.int .i64 0,.int .i64 0,.int .i64 0,.int .i64 0] 26 (0,0)) (bkF BK109) hb);have n1_:=Aside0.mk (blk_below (g:=gb110) (o:=.cells #[.int .i64 (wrap64 (t111 - 5)),.int .i64 (wrap64 (t114 - 5)),.int .i64 (wrap64 (t117 - 5)),.int .i64 (wrap64 (t120 - 5))] 26 (0,0)) (bpA BK110) hb);have n2_:=Aside0.mk (IsS116.below (show IsS116 w0 (w28.setCell ⟨gb110,3,none⟩ (.int .i64 (wrap64 (t120 - 5)))) g s0_0 t121 t122 from iA HI0) hb);have n3_:=kbA HK hb;have n4_:=lI hb;clear BK109;clear BK110;clear HI0;clear HK;clear HB;have BK109:=n0_;have BK110:=n1_;have HI0:=n2_;have HK:=n3_;have HB:=n4_;clear n0_ n1_ n2_ n3_ n4_;clear hb))
      go_meet
      case rel=>exact ⟨_,(t121),(t122),(wrap64 (t111 - 5)),(wrap64 (t114 - 5)),(wrap64 (t117 - 5)),(wrap64 (t120 - 5)),H',⟨by have:=HK1.out;first|omega|exact Nat.le_refl _⟩,⟨bkA BK109⟩,⟨bkA BK110⟩,⟨iA HI0⟩,⟨kpA⟩,⟨blI⟩⟩
    ·
     rw [if_neg c8] at H
     have c8b0:=decide_eq_false c8
     clear c8
     (first|rw [c8b0]|(simp only [i64_w,i32_w];rw [c8b0])|skip)
     have H':=Aside0.mk H
     clear H
     go_wp2
     go_meet
     case rel=>exact ⟨_,(x1001_1),(x1002_1),(x111000_1),(x111001_1),(x111002_1),(x111003_1),H',⟨by have:=HK1.out;first|omega|exact Nat.le_refl _⟩,⟨bkA BK109⟩,⟨bkA BK110⟩,⟨iA HI0⟩,⟨kpA⟩,⟨blI⟩⟩
 case rest=>
  clear HC2
  try clear c8
  try clear c8b0
  try clear c14
  try clear c14b0
  try clear c14b1
  try clear hcz51_0
  try clear hcz51_1
  try clear hcz51_2
  try clear hcz51_3
  try clear hfz51_0
  try clear hfz51_1
  try clear hfz51_2
  try clear hfz51_3
  obtain ⟨kq,x1001_1,x1002_1,x111000_1,x111001_1,x111002_1,x111003_1,HA,HJ1,BK109,BK110,HI0,HK,HB⟩:=hcut
  cases kq with
  | zero=>exact absurd HA.out (by simp [spec_l04Draw.j1])
  | succ kj1=>
   have H:=HA.out
   clear HA
   simp only [spec_l04Draw.j1] at H
   replace H:=bS H
   obtain ⟨⟨t124,t125,t126⟩,A53,H⟩:=H
   try dsimp only at H
   have HC54:=Aside0.mk H
   clear H
   go_upto_block 4 with (first|((with_reducible refine gd 28 rfl ?_);refine gC (some 28) rfl Try.func82 (spec_l01Next.calls (w:=_) (g:=g) (w0:=w0) (hI:=iA HI0) (hB:=blI) (h:=A53.out)) ?_;rintro w55 ⟨hi,hb,hk⟩;have n0_:=kbk hk BK109 NB109_0;have n1_:=kbk hk BK110 NB110_0;have n2_:=kkA HK hk;have n3_:=Aside0.mk hb;have n4_:=Aside0.mk hi;clear BK109;clear BK110;clear HK;clear HB;clear HI0;have BK109:=n0_;have BK110:=n1_;have HK:=n2_;have HB:=n3_;have HI0:=n4_;clear n0_ n1_ n2_ n3_ n4_;clear hi hb hk))
   (try simp only [Act.put,List.setIfInBounds_toArray,List.set_cons_zero,List.set_cons_succ])
   go_cut [] (fun wc=>∃ (kq:Nat) (x1001_53:Int) (x1002_53:Int) (x111000_53:Int) (x111001_53:Int) (x111002_53:Int) (x111003_53:Int),Aside0 (spec_l04Draw.j2 kq s0_0 x1001_53 x1002_53 x111000_53 x111001_53 x111002_53 x111003_53=some (r1,r2,r3,r4,r5,r6))∧Aside0 (kq≤kj1)∧Aside0 (wc.heap[gb109]?=some (.cells #[.int .i64 0,.int .i64 0,.int .i64 0,.int .i64 0] 26 (0,0)))∧Aside0 (wc.heap[gb110]?=some (.cells #[.int .i64 x111000_53,.int .i64 x111001_53,.int .i64 x111002_53,.int .i64 x111003_53] 26 (0,0)))∧Aside0 (IsS116 w0 wc g s0_0 x1001_53 x1002_53)∧Aside0 (KeepBut w wc g none)∧Aside0 (Below w0.heap.size w0 wc))
   case first=>
    have H:=HC54.out
    clear HC54
    by_cases c56:t124=0
    ·
     rw [if_pos c56] at H
     have c56b0:(t124 == 0)=true:=beq_iff_eq.mpr c56
     have c56b1:(t124 != 0)=false:=bne_eq_false_iff_eq.mpr c56
     clear c56
     (first|rw [c56b0]|(simp only [i64_w,i32_w];rw [c56b0])|skip)
     obtain ⟨y127,hy127⟩:∃ y_:List Int,y_=(([2,3,4,5,9]:List Int)):=⟨_,rfl⟩
     replace H:((spec_l01Pick.f s0_0 t125 t126 y127).bind fun bt130=>((spec_l01Next.f s0_0 bt130.2.1 bt130.2.2 5).bind fun bt133=>(spec_l04Draw.j2 kj1 s0_0 bt133.2.1 bt133.2.2 bt130.1 (wrap64 (bt133.1 - 2)) 0 1)))=some (r1,r2,r3,r4,r5,r6):=rH hy127 H
     have Ny127:=Aside0.mk hy127
     clear hy127
     replace H:=bS H
     obtain ⟨⟨t130,t131,t132⟩,A57,H⟩:=H
     try dsimp only at H
     replace H:=bS H
     obtain ⟨⟨t133,t134,t135⟩,A58,H⟩:=H
     try dsimp only at H
     have H':=Aside0.mk H
     clear H
     go_wp2_with (first|((with_reducible refine gate_dst (N:=32) rfl ?_);refine Kd.R_lit (Kd.int .i64) _ 2 ?hg (N:=32) ?hd (xs:=([2,3,4,5,9]:List Int)) (inner:=[.int .i64 2,.int .i64 3,.int .i64 4,.int .i64 5,.int .i64 9]) (ok:=fun _=>True) (okp:=fun _=>True) ?hr ?hp (fun _ hk=>hk) trivial (Below.refl _ _) (Nat.le_refl _) (by simp) ?_;(case hd=>rfl);(case hg=>rfl);(case hr=>first|(go_simp;done)|(go_simp;rfl));(case hp=>exact (Reps.one (show Kd.M (Kd.int .i64) _ _ _ 2 [.int .i64 2] from rfl) (Reps.one (show Kd.M (Kd.int .i64) _ _ _ 3 [.int .i64 3] from rfl) (Reps.one (show Kd.M (Kd.int .i64) _ _ _ 4 [.int .i64 4] from rfl) (Reps.one (show Kd.M (Kd.int .i64) _ _ _ 5 [.int .i64 5] from rfl) (Reps.one (show Kd.M (Kd.int .i64) _ _ _ 9 [.int .i64 9] from rfl) (Reps.none _ _)))))));intro v128 w59 ho60 hb hg_ hnew_;clear hg_ hnew_;(first|rw [← Ny127.out] at ho60|(simp only [Int.reduceToNat] at ho60;rw [← Ny127.out] at ho60));have n0_:=Aside0.mk (Kd.R_lower ho60 (keep_size (w:=w) (g:=g) (row:=none) kpA));have n1_:=kB BK109 hb;have n2_:=kB BK110 hb;have n3_:=Aside0.mk (IsS116.below (iA HI0) hb);have n4_:=kbA HK hb;have n5_:=lI hb;clear BK109;clear BK110;clear HI0;clear HK;clear HB;have HO129:=n0_;have BK109:=n1_;have BK110:=n2_;have HI0:=n3_;have HK:=n4_;have HB:=n5_;clear n0_ n1_ n2_ n3_ n4_ n5_;clear hb ho60;obtain ⟨Ao61,co61,eo61⟩:=Kd.R_slice HO129.out;subst eo61)|((with_reducible refine gd 33 rfl ?_);refine gC (some 33) rfl Try.func81 (spec_l01Pick.calls (w:=_) (g:=g) (w0:=w0) (hI:=iA HI0) (hB:=blI) (hr1:=cR (Kd.R_reads' HO129.out).2.2) (hc1:=(Kd.R_reads' HO129.out).2.1) (hf1:=far_slice (IsS116.own_ne HI0.out HO129.out (by decide))) (h:=A57.out)) ?_;rintro w62 ⟨hi,hb,hk⟩;have n0_:=kbk hk BK109 NB109_0;have n1_:=kbk hk BK110 NB110_0;have n2_:=Aside0.mk (Kd.R_mono (Kd.R_keep (IsS116.apart (show IsS116 w0 _ g s0_0 t125 t126 from iA HI0) (rA HO129) (by decide)) hk (fun _ h=>h.2)) (fun _ h=>h.1));have n3_:=kkA HK hk;have n4_:=Aside0.mk hb;have n5_:=Aside0.mk hi;clear BK109;clear BK110;clear HO129;clear HK;clear HB;clear HI0;have BK109:=n0_;have BK110:=n1_;have HO129:=n2_;have HK:=n3_;have HB:=n4_;have HI0:=n5_;clear n0_ n1_ n2_ n3_ n4_ n5_;clear hi hb hk)|((with_reducible refine gd 35 rfl ?_);refine gC (some 35) rfl Try.func82 (spec_l01Next.calls (w:=_) (g:=g) (w0:=w0) (hI:=iA HI0) (hB:=blI) (h:=A58.out)) ?_;rintro w63 ⟨hi,hb,hk⟩;have n0_:=kbk hk BK109 NB109_0;have n1_:=kbk hk BK110 NB110_0;have n2_:=Aside0.mk (Kd.R_mono (Kd.R_keep (IsS116.apart (show IsS116 w0 _ g s0_0 t131 t132 from iA HI0) (rA HO129) (by decide)) hk (fun _ h=>h.2)) (fun _ h=>h.1));have n3_:=kkA HK hk;have n4_:=Aside0.mk hb;have n5_:=Aside0.mk hi;clear BK109;clear BK110;clear HO129;clear HK;clear HB;clear HI0;have BK109:=n0_;have BK110:=n1_;have HO129:=n2_;have HK:=n3_;have HB:=n4_;have HI0:=n5_;clear n0_ n1_ n2_ n3_ n4_ n5_;clear hi hb hk;have hnb64:=NB110_109.out;have hnc64:=NB109_110.out;have hnb65:=NB110_0.out;have hnc65:=NB0_110.out;obtain ⟨hcz66_0,hcz66_1,hcz66_2,hcz66_3,hfz66_0,hfz66_1,hfz66_2,hfz66_3⟩:=cz4 BK110))
     go_meet
     case rel=>exact ⟨_,(t134),(t135),(t130),(wrap64 (t133 - 2)),(0),(1),H',⟨by have:=HJ1.out;first|omega|exact Nat.le_refl _⟩,⟨bkF BK109⟩,⟨bpA BK110⟩,⟨iA HI0⟩,⟨kpA⟩,⟨blI⟩⟩
    ·
     rw [if_neg c56] at H
     have c56b0:(t124 == 0)=false:=beq_eq_false_iff_ne.mpr c56
     have c56b1:(t124 != 0)=true:=bne_iff_ne.mpr c56
     (first|rw [c56b0]|(simp only [i64_w,i32_w];rw [c56b0])|skip)
     by_cases c67:t124=1
     ·
      rw [if_pos c67] at H
      have c67b0:(t124 == 1)=true:=beq_iff_eq.mpr c67
      have c67b1:(t124 != 1)=false:=bne_eq_false_iff_eq.mpr c67
      clear c67
      obtain ⟨y136,hy136⟩:∃ y_:List Int,y_=(([2,3,4,7,1]:List Int)):=⟨_,rfl⟩
      replace H:((spec_l01Pick.f s0_0 t125 t126 y136).bind fun bt139=>(spec_l04Draw.j2 kj1 s0_0 bt139.2.1 bt139.2.2 1 0 0 bt139.1))=some (r1,r2,r3,r4,r5,r6):=rH hy136 H
      have Ny136:=Aside0.mk hy136
      clear hy136
      replace H:=bS H
      obtain ⟨⟨t139,t140,t141⟩,A68,H⟩:=H
      try dsimp only at H
      have H':=Aside0.mk H
      clear H
      go_wp2_with (first|((with_reducible refine gate_dst (N:=44) rfl ?_);refine Kd.R_lit (Kd.int .i64) _ 2 ?hg (N:=44) ?hd (xs:=([2,3,4,7,1]:List Int)) (inner:=[.int .i64 2,.int .i64 3,.int .i64 4,.int .i64 7,.int .i64 1]) (ok:=fun _=>True) (okp:=fun _=>True) ?hr ?hp (fun _ hk=>hk) trivial (Below.refl _ _) (Nat.le_refl _) (by simp) ?_;(case hd=>rfl);(case hg=>rfl);(case hr=>first|(go_simp;done)|(go_simp;rfl));(case hp=>exact (Reps.one (show Kd.M (Kd.int .i64) _ _ _ 2 [.int .i64 2] from rfl) (Reps.one (show Kd.M (Kd.int .i64) _ _ _ 3 [.int .i64 3] from rfl) (Reps.one (show Kd.M (Kd.int .i64) _ _ _ 4 [.int .i64 4] from rfl) (Reps.one (show Kd.M (Kd.int .i64) _ _ _ 7 [.int .i64 7] from rfl) (Reps.one (show Kd.M (Kd.int .i64) _ _ _ 1 [.int .i64 1] from rfl) (Reps.none _ _)))))));intro v137 w69 ho70 hb hg_ hnew_;clear hg_ hnew_;(first|rw [← Ny136.out] at ho70|(simp only [Int.reduceToNat] at ho70;rw [← Ny136.out] at ho70));have n0_:=Aside0.mk (Kd.R_lower ho70 (keep_size (w:=w) (g:=g) (row:=none) kpA));have n1_:=kB BK109 hb;have n2_:=kB BK110 hb;have n3_:=Aside0.mk (IsS116.below (iA HI0) hb);have n4_:=kbA HK hb;have n5_:=lI hb;clear BK109;clear BK110;clear HI0;clear HK;clear HB;have HO138:=n0_;have BK109:=n1_;have BK110:=n2_;have HI0:=n3_;have HK:=n4_;have HB:=n5_;clear n0_ n1_ n2_ n3_ n4_ n5_;clear hb ho70;obtain ⟨Ao71,co71,eo71⟩:=Kd.R_slice HO138.out;subst eo71)|((with_reducible refine gd 45 rfl ?_);refine gC (some 45) rfl Try.func81 (spec_l01Pick.calls (w:=_) (g:=g) (w0:=w0) (hI:=iA HI0) (hB:=blI) (hr1:=cR (Kd.R_reads' HO138.out).2.2) (hc1:=(Kd.R_reads' HO138.out).2.1) (hf1:=far_slice (IsS116.own_ne HI0.out HO138.out (by decide))) (h:=A68.out)) ?_;rintro w72 ⟨hi,hb,hk⟩;have n0_:=kbk hk BK109 NB109_0;have n1_:=kbk hk BK110 NB110_0;have n2_:=Aside0.mk (Kd.R_mono (Kd.R_keep (IsS116.apart (show IsS116 w0 _ g s0_0 t125 t126 from iA HI0) (rA HO138) (by decide)) hk (fun _ h=>h.2)) (fun _ h=>h.1));have n3_:=kkA HK hk;have n4_:=Aside0.mk hb;have n5_:=Aside0.mk hi;clear BK109;clear BK110;clear HO138;clear HK;clear HB;clear HI0;have BK109:=n0_;have BK110:=n1_;have HO138:=n2_;have HK:=n3_;have HB:=n4_;have HI0:=n5_;clear n0_ n1_ n2_ n3_ n4_ n5_;clear hi hb hk;have hnb73:=NB110_109.out;have hnc73:=NB109_110.out;have hnb74:=NB110_0.out;have hnc74:=NB0_110.out;obtain ⟨hcz75_0,hcz75_1,hcz75_2,hcz75_3,hfz75_0,hfz75_1,hfz75_2,hfz75_3⟩:=cz4 BK110))
      go_meet
      case rel=>exact ⟨_,(t140),(t141),(1),(0),(0),(t139),H',⟨by have:=HJ1.out;first|omega|exact Nat.le_refl _⟩,⟨bkF BK109⟩,⟨bpA BK110⟩,⟨iA HI0⟩,⟨kpA⟩,⟨blI⟩⟩
     ·
      rw [if_neg c67] at H
      have c67b0:(t124 == 1)=false:=beq_eq_false_iff_ne.mpr c67
      have c67b1:(t124 != 1)=true:=bne_iff_ne.mpr c67
      by_cases c76:t124=2
      ·
       rw [if_pos c76] at H
       have c76b0:(t124 == 2)=true:=beq_iff_eq.mpr c76
       have c76b1:(t124 != 2)=false:=bne_eq_false_iff_eq.mpr c76
       clear c76
       obtain ⟨y142,hy142⟩:∃ y_:List Int,y_=(([1,(-1),2,3]:List Int)):=⟨_,rfl⟩
       replace H:((spec_l01Pick.f s0_0 t125 t126 y142).bind fun bt145=>(spec_l04Draw.j2 kj1 s0_0 bt145.2.1 bt145.2.2 0 bt145.1 1 0))=some (r1,r2,r3,r4,r5,r6):=rH hy142 H
       have Ny142:=Aside0.mk hy142
       clear hy142
       replace H:=bS H
       obtain ⟨⟨t145,t146,t147⟩,A77,H⟩:=H
       try dsimp only at H
       have H':=Aside0.mk H
       clear H
       go_wp2_with (first|((with_reducible refine gate_dst (N:=51) rfl ?_);refine Kd.R_lit (Kd.int .i64) _ 2 ?hg (N:=51) ?hd (xs:=([1,(-1),2,3]:List Int)) (inner:=[.int .i64 1,.int .i64 (-1),.int .i64 2,.int .i64 3]) (ok:=fun _=>True) (okp:=fun _=>True) ?hr ?hp (fun _ hk=>hk) trivial (Below.refl _ _) (Nat.le_refl _) (by simp) ?_;(case hd=>rfl);(case hg=>rfl);(case hr=>first|(go_simp;done)|(go_simp;rfl));(case hp=>exact (Reps.one (show Kd.M (Kd.int .i64) _ _ _ 1 [.int .i64 1] from rfl) (Reps.one (show Kd.M (Kd.int .i64) _ _ _ (-1) [.int .i64 (-1)] from rfl) (Reps.one (show Kd.M (Kd.int .i64) _ _ _ 2 [.int .i64 2] from rfl) (Reps.one (show Kd.M (Kd.int .i64) _ _ _ 3 [.int .i64 3] from rfl) (Reps.none _ _))))));intro v143 w78 ho79 hb hg_ hnew_;clear hg_ hnew_;(first|rw [← Ny142.out] at ho79|(simp only [Int.reduceToNat] at ho79;rw [← Ny142.out] at ho79));have n0_:=Aside0.mk (Kd.R_lower ho79 (keep_size (w:=w) (g:=g) (row:=none) kpA));have n1_:=kB BK109 hb;have n2_:=kB BK110 hb;have n3_:=Aside0.mk (IsS116.below (iA HI0) hb);have n4_:=kbA HK hb;have n5_:=lI hb;clear BK109;clear BK110;clear HI0;clear HK;clear HB;have HO144:=n0_;have BK109:=n1_;have BK110:=n2_;have HI0:=n3_;have HK:=n4_;have HB:=n5_;clear n0_ n1_ n2_ n3_ n4_ n5_;clear hb ho79;obtain ⟨Ao80,co80,eo80⟩:=Kd.R_slice HO144.out;subst eo80)|((with_reducible refine gd 52 rfl ?_);refine gC (some 52) rfl Try.func81 (spec_l01Pick.calls (w:=_) (g:=g) (w0:=w0) (hI:=iA HI0) (hB:=blI) (hr1:=cR (Kd.R_reads' HO144.out).2.2) (hc1:=(Kd.R_reads' HO144.out).2.1) (hf1:=far_slice (IsS116.own_ne HI0.out HO144.out (by decide))) (h:=A77.out)) ?_;rintro w81 ⟨hi,hb,hk⟩;have n0_:=kbk hk BK109 NB109_0;have n1_:=kbk hk BK110 NB110_0;have n2_:=Aside0.mk (Kd.R_mono (Kd.R_keep (IsS116.apart (show IsS116 w0 _ g s0_0 t125 t126 from iA HI0) (rA HO144) (by decide)) hk (fun _ h=>h.2)) (fun _ h=>h.1));have n3_:=kkA HK hk;have n4_:=Aside0.mk hb;have n5_:=Aside0.mk hi;clear BK109;clear BK110;clear HO144;clear HK;clear HB;clear HI0;have BK109:=n0_;have BK110:=n1_;have HO144:=n2_;have HK:=n3_;have HB:=n4_;have HI0:=n5_;clear n0_ n1_ n2_ n3_ n4_ n5_;clear hi hb hk;have hnb82:=NB110_109.out;have hnc82:=NB109_110.out;have hnb83:=NB110_0.out;have hnc83:=NB0_110.out;obtain ⟨hcz84_0,hcz84_1,hcz84_2,hcz84_3,hfz84_0,hfz84_1,hfz84_2,hfz84_3⟩:=cz4 BK110))
       go_meet
       case rel=>exact ⟨_,(t146),(t147),(0),(t145),(1),(0),H',⟨by have:=HJ1.out;first|omega|exact Nat.le_refl _⟩,⟨bkF BK109⟩,⟨bpA BK110⟩,⟨iA HI0⟩,⟨kpA⟩,⟨blI⟩⟩
      ·
       rw [if_neg c76] at H
       have c76b0:(t124 == 2)=false:=beq_eq_false_iff_ne.mpr c76
       have c76b1:(t124 != 2)=true:=bne_iff_ne.mpr c76
       by_cases c85:t124=3
       ·
        rw [if_pos c85] at H
        have c85b0:(t124 == 3)=true:=beq_iff_eq.mpr c85
        have c85b1:(t124 != 3)=false:=bne_eq_false_iff_eq.mpr c85
        clear c85
        replace H:=bS H
        obtain ⟨⟨t148,t149,t150⟩,A86,H⟩:=H
        try dsimp only at H
        replace H:=bS H
        obtain ⟨⟨t151,t152,t153⟩,A87,H⟩:=H
        try dsimp only at H
        replace H:=bS H
        obtain ⟨⟨t154,t155,t156⟩,A88,H⟩:=H
        try dsimp only at H
        replace H:=bS H
        obtain ⟨⟨t157,t158,t159⟩,A89,H⟩:=H
        try dsimp only at H
        have H':=Aside0.mk H
        clear H
        go_wp2_with (first|((with_reducible refine gd 59 rfl ?_);refine gC (some 59) rfl Try.func82 (spec_l01Next.calls (w:=_) (g:=g) (w0:=w0) (hI:=iA HI0) (hB:=blI) (h:=A86.out)) ?_;rintro w90 ⟨hi,hb,hk⟩;have n0_:=kbk hk BK109 NB109_0;have n1_:=kbk hk BK110 NB110_0;have n2_:=kkA HK hk;have n3_:=Aside0.mk hb;have n4_:=Aside0.mk hi;clear BK109;clear BK110;clear HK;clear HB;clear HI0;have BK109:=n0_;have BK110:=n1_;have HK:=n2_;have HB:=n3_;have HI0:=n4_;clear n0_ n1_ n2_ n3_ n4_;clear hi hb hk)|((with_reducible refine gd 62 rfl ?_);refine gC (some 62) rfl Try.func82 (spec_l01Next.calls (w:=_) (g:=g) (w0:=w0) (hI:=iA HI0) (hB:=blI) (h:=A87.out)) ?_;rintro w91 ⟨hi,hb,hk⟩;have n0_:=kbk hk BK109 NB109_0;have n1_:=kbk hk BK110 NB110_0;have n2_:=kkA HK hk;have n3_:=Aside0.mk hb;have n4_:=Aside0.mk hi;clear BK109;clear BK110;clear HK;clear HB;clear HI0;have BK109:=n0_;have BK110:=n1_;have HK:=n2_;have HB:=n3_;have HI0:=n4_;clear n0_ n1_ n2_ n3_ n4_;clear hi hb hk)|((with_reducible refine gd 65 rfl ?_);refine gC (some 65) rfl Try.func82 (spec_l01Next.calls (w:=_) (g:=g) (w0:=w0) (hI:=iA HI0) (hB:=blI) (h:=A88.out)) ?_;rintro w92 ⟨hi,hb,hk⟩;have n0_:=kbk hk BK109 NB109_0;have n1_:=kbk hk BK110 NB110_0;have n2_:=kkA HK hk;have n3_:=Aside0.mk hb;have n4_:=Aside0.mk hi;clear BK109;clear BK110;clear HK;clear HB;clear HI0;have BK109:=n0_;have BK110:=n1_;have HK:=n2_;have HB:=n3_;have HI0:=n4_;clear n0_ n1_ n2_ n3_ n4_;clear hi hb hk)|((with_reducible refine gd 67 rfl ?_);refine gC (some 67) rfl Try.func82 (spec_l01Next.calls (w:=_) (g:=g) (w0:=w0) (hI:=iA HI0) (hB:=blI) (h:=A89.out)) ?_;rintro w93 ⟨hi,hb,hk⟩;have n0_:=kbk hk BK109 NB109_0;have n1_:=kbk hk BK110 NB110_0;have n2_:=kkA HK hk;have n3_:=Aside0.mk hb;have n4_:=Aside0.mk hi;clear BK109;clear BK110;clear HK;clear HB;clear HI0;have BK109:=n0_;have BK110:=n1_;have HK:=n2_;have HB:=n3_;have HI0:=n4_;clear n0_ n1_ n2_ n3_ n4_;clear hi hb hk;have hnb94:=NB110_109.out;have hnc94:=NB109_110.out;have hnb95:=NB110_0.out;have hnc95:=NB0_110.out;obtain ⟨hcz96_0,hcz96_1,hcz96_2,hcz96_3,hfz96_0,hfz96_1,hfz96_2,hfz96_3⟩:=cz4 BK110))
        go_meet
        case rel=>exact ⟨_,(t158),(t159),(wrap64 (t148 - 1000)),(t151),(t154),(wrap64 (t157 - 1000)),H',⟨by have:=HJ1.out;first|omega|exact Nat.le_refl _⟩,⟨bkF BK109⟩,⟨bpA BK110⟩,⟨iA HI0⟩,⟨kpA⟩,⟨blI⟩⟩
       ·
        rw [if_neg c85] at H
        have c85b0:(t124 == 3)=false:=beq_eq_false_iff_ne.mpr c85
        have c85b1:(t124 != 3)=true:=bne_iff_ne.mpr c85
        by_cases c97:t124=4
        ·
         rw [if_pos c97] at H
         have c97b0:(t124 == 4)=true:=beq_iff_eq.mpr c97
         have c97b1:(t124 != 4)=false:=bne_eq_false_iff_eq.mpr c97
         clear c97
         replace H:=bS H
         obtain ⟨⟨t160,t161,t162⟩,A98,H⟩:=H
         try dsimp only at H
         have H':=Aside0.mk H
         clear H
         go_wp2_with (first|((with_reducible refine gd 74 rfl ?_);refine gC (some 74) rfl Try.func82 (spec_l01Next.calls (w:=_) (g:=g) (w0:=w0) (hI:=iA HI0) (hB:=blI) (h:=A98.out)) ?_;rintro w99 ⟨hi,hb,hk⟩;have n0_:=kbk hk BK109 NB109_0;have n1_:=kbk hk BK110 NB110_0;have n2_:=kkA HK hk;have n3_:=Aside0.mk hb;have n4_:=Aside0.mk hi;clear BK109;clear BK110;clear HK;clear HB;clear HI0;have BK109:=n0_;have BK110:=n1_;have HK:=n2_;have HB:=n3_;have HI0:=n4_;clear n0_ n1_ n2_ n3_ n4_;clear hi hb hk;have hnb100:=NB110_109.out;have hnc100:=NB109_110.out;have hnb101:=NB110_0.out;have hnc101:=NB0_110.out;obtain ⟨hcz102_0,hcz102_1,hcz102_2,hcz102_3,hfz102_0,hfz102_1,hfz102_2,hfz102_3⟩:=cz4 BK110))
         go_meet
         case rel=>exact ⟨_,(t161),(t162),(1),(wrap64 (t160 - 3)),(0),(1),H',⟨by have:=HJ1.out;first|omega|exact Nat.le_refl _⟩,⟨bkF BK109⟩,⟨bpA BK110⟩,⟨iA HI0⟩,⟨kpA⟩,⟨blI⟩⟩
        ·
         rw [if_neg c97] at H
         have c97b0:(t124 == 4)=false:=beq_eq_false_iff_ne.mpr c97
         have c97b1:(t124 != 4)=true:=bne_iff_ne.mpr c97
         have H':=Aside0.mk H
         clear H
         go_wp2
         go_meet
         case rel=>exact ⟨_,(t125),(t126),(x111000_1),(x111001_1),(x111002_1),(x111003_1),H',⟨by have:=HJ1.out;first|omega|exact Nat.le_refl _⟩,⟨bkA BK109⟩,⟨bkA BK110⟩,⟨iA HI0⟩,⟨kpA⟩,⟨blI⟩⟩
   case rest=>
    clear HC54
    try clear c8
    try clear c8b0
    try clear c14
    try clear c14b0
    try clear c14b1
    try clear c56
    try clear c56b0
    try clear c56b1
    try clear c67
    try clear c67b0
    try clear c67b1
    try clear c76
    try clear c76b0
    try clear c76b1
    try clear c85
    try clear c85b0
    try clear c85b1
    try clear c97
    try clear c97b0
    try clear c97b1
    try clear hcz102_0
    try clear hcz102_1
    try clear hcz102_2
    try clear hcz102_3
    try clear hcz51_0
    try clear hcz51_1
    try clear hcz51_2
    try clear hcz51_3
    try clear hcz66_0
    try clear hcz66_1
    try clear hcz66_2
    try clear hcz66_3
    try clear hcz75_0
    try clear hcz75_1
    try clear hcz75_2
    try clear hcz75_3
    try clear hcz84_0
    try clear hcz84_1
    try clear hcz84_2
    try clear hcz84_3
    try clear hcz96_0
    try clear hcz96_1
    try clear hcz96_2
    try clear hcz96_3
    try clear hfz102_0
    try clear hfz102_1
    try clear hfz102_2
    try clear hfz102_3
    try clear hfz51_0
    try clear hfz51_1
    try clear hfz51_2
    try clear hfz51_3
    try clear hfz66_0
    try clear hfz66_1
    try clear hfz66_2
    try clear hfz66_3
    try clear hfz75_0
    try clear hfz75_1
    try clear hfz75_2
    try clear hfz75_3
    try clear hfz84_0
    try clear hfz84_1
    try clear hfz84_2
    try clear hfz84_3
    try clear hfz96_0
    try clear hfz96_1
    try clear hfz96_2
    try clear hfz96_3
    obtain ⟨kq,x1001_53,x1002_53,x111000_53,x111001_53,x111002_53,x111003_53,HA,HJ53,BK109,BK110,HI0,HK,HB⟩:=hcut
    cases kq with
    | zero=>exact absurd HA.out (by simp [spec_l04Draw.j2])
    | succ kj53=>
     have H:=HA.out
     clear HA
     simp only [spec_l04Draw.j2] at H
     replace H:=bS H
     obtain ⟨⟨t163,t164,t165⟩,A103,H⟩:=H
     try dsimp only at H
     by_cases c104:t163=0
     ·
      rw [if_pos c104] at H
      have c104b0:(t163 == 0)=true:=beq_iff_eq.mpr c104
      have c104b1:(t163 != 0)=false:=bne_eq_false_iff_eq.mpr c104
      clear c104
      simp only [Option.some.injEq,Prod.mk.injEq] at H
      obtain ⟨rfl,rfl,rfl,rfl,rfl,rfl⟩:=H
      go_wp2_with (first|((with_reducible refine gd 80 rfl ?_);refine gC (some 80) rfl Try.func82 (spec_l01Next.calls (w:=_) (g:=g) (w0:=w0) (hI:=iA HI0) (hB:=blI) (h:=A103.out)) ?_;rintro w105 ⟨hi,hb,hk⟩;have n0_:=kbk hk BK109 NB109_0;have n1_:=kbk hk BK110 NB110_0;have n2_:=kkA HK hk;have n3_:=Aside0.mk hb;have n4_:=Aside0.mk hi;clear BK109;clear BK110;clear HK;clear HB;clear HI0;have BK109:=n0_;have BK110:=n1_;have HK:=n2_;have HB:=n3_;have HI0:=n4_;clear n0_ n1_ n2_ n3_ n4_;clear hi hb hk;have hnb106:=NB110_109.out;have hnc106:=NB109_110.out;have hnb107:=NB110_0.out;have hnc107:=NB0_110.out;obtain ⟨hcz108_0,hcz108_1,hcz108_2,hcz108_3,hfz108_0,hfz108_1,hfz108_2,hfz108_3⟩:=cz4 BK110;have hnb109:=NB109_0.out;have hnc109:=NB0_109.out;obtain ⟨hcz110_0,hcz110_1,hcz110_2,hcz110_3,hfz110_0,hfz110_1,hfz110_2,hfz110_3⟩:=cz4 BK109))
      refine bodyPost_ret (results_cell_row rfl _ _ gb109 26 #[.int .i64 1001,.int .i64 x111001_53,.int .i64 x111002_53,.int .i64 x111003_53] (0,0) _ rfl (bpA BK109) Try.underlying26 rfl (by kernel_rfl)) rfl ?_
      exact ⟨eW,iA HI0,blI,kpA⟩
     ·
      rw [if_neg c104] at H
      have c104b0:(t163 == 0)=false:=beq_eq_false_iff_ne.mpr c104
      have c104b1:(t163 != 0)=true:=bne_iff_ne.mpr c104
      by_cases c111:t163=1
      focus
       rw [if_pos c111] at H
       have c111b0:(t163 == 1)=true:=beq_iff_eq.mpr c111
       have c111b1:(t163 != 1)=false:=bne_eq_false_iff_eq.mpr c111
       clear c111
       simp only [Option.some.injEq,Prod.mk.injEq] at H
       obtain ⟨rfl,rfl,rfl,rfl,rfl,rfl⟩:=H
      rotate_left
      focus
       rw [if_neg c111] at H
       have c111b0:(t163 == 1)=false:=beq_eq_false_iff_ne.mpr c111
       have c111b1:(t163 != 1)=true:=bne_iff_ne.mpr c111
       simp only [Option.some.injEq,Prod.mk.injEq] at H
       obtain ⟨rfl,rfl,rfl,rfl,rfl,rfl⟩:=H
      rotate_left
      all_goals
       go_wp2_with (first|((with_reducible refine gd 80 rfl ?_);refine gC (some 80) rfl Try.func82 (spec_l01Next.calls (w:=_) (g:=g) (w0:=w0) (hI:=iA HI0) (hB:=blI) (h:=A103.out)) ?_;rintro w112 ⟨hi,hb,hk⟩;have n0_:=kbk hk BK109 NB109_0;have n1_:=kbk hk BK110 NB110_0;have n2_:=kkA HK hk;have n3_:=Aside0.mk hb;have n4_:=Aside0.mk hi;clear BK109;clear BK110;clear HK;clear HB;clear HI0;have BK109:=n0_;have BK110:=n1_;have HK:=n2_;have HB:=n3_;have HI0:=n4_;clear n0_ n1_ n2_ n3_ n4_;clear hi hb hk;have hnb113:=NB110_109.out;have hnc113:=NB109_110.out;have hnb114:=NB110_0.out;have hnc114:=NB0_110.out;obtain ⟨hcz115_0,hcz115_1,hcz115_2,hcz115_3,hfz115_0,hfz115_1,hfz115_2,hfz115_3⟩:=cz4 BK110;have hnb116:=NB109_0.out;have hnc116:=NB0_109.out;obtain ⟨hcz117_0,hcz117_1,hcz117_2,hcz117_3,hfz117_0,hfz117_1,hfz117_2,hfz117_3⟩:=cz4 BK109))
      ·
       refine bodyPost_ret (results_cell_row rfl _ _ gb109 26 #[.int .i64 x111000_53,.int .i64 x111001_53,.int .i64 x111000_53,.int .i64 x111001_53] (0,0) _ rfl (bpA BK109) Try.underlying26 rfl (by kernel_rfl)) rfl ?_
       exact ⟨eW,iA HI0,blI,kpA⟩
      ·
       refine bodyPost_ret (results_cell_row rfl _ _ gb109 26 #[.int .i64 x111000_53,.int .i64 x111001_53,.int .i64 x111002_53,.int .i64 x111003_53] (0,0) _ rfl (bpA BK109) Try.underlying26 rfl (by kernel_rfl)) rfl ?_
       exact ⟨eW,iA HI0,blI,kpA⟩
def spec_l01DrawPrime.f (s0_0:List Int) (s0_1 s0_2:Int):Option (Int × Int × Int):=(spec_l01Pick.f s0_0 s0_1 s0_2 (([2,2,3,3,5,7]:List Int))).bind fun bt169=>(some (bt169.1,bt169.2.1,bt169.2.2))
set_option maxHeartbeats 8000000 in
set_option maxRecDepth 100000 in
theorem spec_l01DrawPrime.calls (g:Nat) (s0_0:List Int) (s0_1 s0_2 r1 r2 r3:Int) (w0 w:World) (hI:IsS116 w0 w g s0_0 s0_1 s0_2) (hB:Below w0.heap.size w0 w) (h:spec_l01DrawPrime.f s0_0 s0_1 s0_2=some (r1,r2,r3)) :
  Calls Try.prog 118 #[.pointer (some ⟨g,0,none⟩)] w fun e w'=>e=.returned (.int .i64 r1)∧IsS116 w0 w' g s0_0 r2 r3∧Below w0.heap.size w0 w'∧KeepBut w w' g none:=by
 have HI0:=Aside0.mk hI
 have HK:=Aside0.mk (KeepBut.refl w g none)
 have HL:=Aside0.mk hB.size
 clear hI
 have HW0:=Aside0.mk hB.size
 have HB:=Aside0.mk hB
 clear hB
 have H:=h
 unfold spec_l01DrawPrime.f at H
 clear h
 obtain ⟨y166,hy166⟩:∃ y_:List Int,y_=(([2,2,3,3,5,7]:List Int)):=⟨_,rfl⟩
 replace H:((spec_l01Pick.f s0_0 s0_1 s0_2 y166).bind fun bt169=>(some (bt169.1,bt169.2.1,bt169.2.2)))=some (r1,r2,r3):=rH hy166 H
 have Ny166:=Aside0.mk hy166
 clear hy166
 replace H:=bS H
 obtain ⟨⟨t169,t170,t171⟩,A2,H⟩:=H
 try dsimp only at H
 simp only [Option.some.injEq,Prod.mk.injEq] at H
 obtain ⟨rfl,rfl,rfl⟩:=H
 go_enter Try.func118,Try.ntmps118
 go_wp2_with (first|((with_reducible refine gate_dst (N:=4) rfl ?_);refine Kd.R_lit (Kd.int .i64) _ 2 ?hg (N:=4) ?hd (xs:=([2,2,3,3,5,7]:List Int)) (inner:=[.int .i64 2,.int .i64 2,.int .i64 3,.int .i64 3,.int .i64 5,.int .i64 7]) (ok:=fun _=>True) (okp:=fun _=>True) ?hr ?hp (fun _ hk=>hk) trivial (Below.refl _ _) (Nat.le_refl _) (by simp) ?_;(case hd=>rfl);(case hg=>rfl);(case hr=>first|(go_simp;done)|(go_simp;rfl));(case hp=>exact (Reps.one (show Kd.M (Kd.int .i64) _ _ _ 2 [.int .i64 2] from rfl) (Reps.one (show Kd.M (Kd.int .i64) _ _ _ 2 [.int .i64 2] from rfl) (Reps.one (show Kd.M (Kd.int .i64) _ _ _ 3 [.int .i64 3] from rfl) (Reps.one (show Kd.M (Kd.int .i64) _ _ _ 3 [.int .i64 3] from rfl) (Reps.one (show Kd.M (Kd.int .i64) _ _ _ 5 [.int .i64 5] from rfl) (Reps.one (show Kd.M (Kd.int .i64) _ _ _ 7 [.int .i64 7] from rfl) (Reps.none _ _))))))));intro v167 w3 ho4 hb hg_ hnew_;clear hg_ hnew_;(first|rw [← Ny166.out] at ho4|(simp only [Int.reduceToNat] at ho4;rw [← Ny166.out] at ho4));have n0_:=Aside0.mk (Kd.R_lower ho4 (keep_size (w:=w) (g:=g) (row:=none) kpA));have n1_:=Aside0.mk (IsS116.below (iA HI0) hb);have n2_:=kbA HK hb;have n3_:=lI hb;clear HI0;clear HK;clear HB;have HO168:=n0_;have HI0:=n1_;have HK:=n2_;have HB:=n3_;clear n0_ n1_ n2_ n3_;clear hb ho4;obtain ⟨Ao5,co5,eo5⟩:=Kd.R_slice HO168.out;subst eo5)|((with_reducible refine gd 5 rfl ?_);refine gC (some 5) rfl Try.func81 (spec_l01Pick.calls (w:=_) (g:=g) (w0:=w0) (hI:=iA HI0) (hB:=blI) (hr1:=cR (Kd.R_reads' HO168.out).2.2) (hc1:=(Kd.R_reads' HO168.out).2.1) (hf1:=far_slice (IsS116.own_ne HI0.out HO168.out (by decide))) (h:=A2.out)) ?_;rintro w6 ⟨hi,hb,hk⟩;replace HO168:=Aside0.mk (Kd.R_mono (Kd.R_keep (IsS116.apart (show IsS116 w0 _ g s0_0 s0_1 s0_2 from iA HI0) (rA HO168) (by decide)) hk (fun _ h=>h.2)) (fun _ h=>h.1));replace HK:=kkA HK hk;replace HB:=Aside0.mk hb;replace HI0:=Aside0.mk hi;clear hi hb hk))
 go_ret
 exact ⟨eW,iA HI0,blI,kpA⟩
end Go.Proofs.Ytlpmefmaplhfdaa.PAll
