import Derived.Test.YtpihnmmoahplgaaQx
import Derived.Test.YtpihnmmoahplgaaQspecGapOf
import Derived.Test.YtpihnmmoahplgaaQspecl01Of
import Derived.Test.YtpihnmmoahplgaaQspecl05Gap
namespace Go.Proofs.Ytpihnmmoahplgaa.PAll
open Go.RowKit Go.Proofs.YtpihnmmoahplgaaW.PrintWords Go.Proofs.YtpihnmmoahplgaaW.PrintLast Go.Proofs.YtpihnmmoahplgaaW.PrintMore
attribute [local go_sem] Go.Proofs.Ytpihnmmoahplgaa.Aux.setCell_drewN Go.Proofs.Ytpihnmmoahplgaa.Aux.isSome_setCell Go.Proofs.Ytpihnmmoahplgaa.Aux.max_eight bq bo cG cF ba bZ bp bm
set_option linter.unusedVariables false
set_option linter.unusedSimpArgs false
def bb.f (k:Nat) (a0 a1_0 a1_1 a2_0 a2_1:Int):Option (Int × Int × Int × Int):=(bu.f k a0 a1_0 a1_1 a2_0 a2_1).bind fun t717=>(if t717=0 then ((bN.f k a0 a1_0 a1_1 a2_0 a2_1).bind fun t718=>((cM.f k a0 a1_0 a1_1 t718).bind fun bt719=>(if bt719.2.2.2=true then (some (bt719.1,bt719.2.1,bt719.2.2.1,0)) else (some (0,0,0,3))))) else (some (0,0,0,t717)))
def bb.T4:Bool × List (List Nat × List Nat):=(true,[([],[]),([],[]),([1],[1]),([],[]),([3],[3]),([],[]),([],[]),([],[]),([5,6,7],[5,6,7]),([0,2,4,8,8],[0,2,4,8]),([9],[9]),([10],[10]),([10],[10]),([],[]),([13,11,9,0,1,2,3,4,5,6,7,8,9,10,11,13],[11,13]),([12,14,0,1,2,3,4,5,6,7,8,9,10,11,12,13,14],[12])])
def bb.B4:List Nat:=[0,0,2,0,8,0,0,0,224,511,1023,2047,2047,0,12287,32767]
theorem bb.tab4:ck .any (dC Try.f27 4)=bb.T4:=by kernel_rfl
theorem bb.bits4:br bb.T4.2 bb.B4=true:=by kernel_rfl
set_option maxHeartbeats 8000000 in
set_option maxRecDepth 100000 in
theorem bb.calls (k:Nat) (a0 a1_0 a1_1 a2_0 a2_1 r1 r2 r3 r4:Int) (w:World) (h:bb.f k a0 a1_0 a1_1 a2_0 a2_1=some (r1,r2,r3,r4)) :
  Calls Try.prog 27 #[.int .i64 a0,.agg #[.int .i64 a1_0,.int .i64 a1_1],.agg #[.int .i64 a2_0,.int .i64 a2_1]] w fun e w'=>e=.returned (.tuple #[.agg #[.int .i64 r1,.int .i64 r2,.int .i64 r3],.int .i64 r4])∧Below w.heap.size w w':=by
 have hu28:=Try.underlying28
 have hu25:=Try.underlying25
 have HB:=aA.mk (Below.refl w.heap.size w)
 have H:=h
 unfold bb.f at H
 clear h
 replace H:=bS H
 obtain ⟨t717,A4,H⟩:=H
 try dsimp only at H
 by_cases c5:t717=0
 focus
  rw [if_pos c5] at H
  have c5b0:(t717 == 0)=true:=beq_iff_eq.mpr c5
  have c5b1:(t717 != 0)=false:=bne_eq_false_iff_eq.mpr c5
  clear c5
  replace H:=bS H
  obtain ⟨t718,A6,H⟩:=H
  try dsimp only at H
  replace H:=bS H
  obtain ⟨⟨t719,t720,t721,t722⟩,A7,H⟩:=H
  try dsimp only at H
  by_cases c8:t722=true
  focus
   subst c8
   rw [if_pos rfl] at H
   try dsimp only at H
   simp only [Option.some.injEq,Prod.mk.injEq] at H
   obtain ⟨rfl,rfl,rfl,rfl⟩:=H
  rotate_left
  focus
   replace c8:=Bool.eq_false_iff.mpr c8
   subst c8
   rw [if_neg (show ¬ (false=true) by decide)] at H
   try dsimp only at H
   simp only [Option.some.injEq,Prod.mk.injEq] at H
   obtain ⟨rfl,rfl,rfl,rfl⟩:=H
  rotate_left
 rotate_left 2
 focus
  rw [if_neg c5] at H
  have c5b0:(t717 == 0)=false:=beq_eq_false_iff_ne.mpr c5
  have c5b1:(t717 != 0)=true:=bne_iff_ne.mpr c5
  simp only [Option.some.injEq,Prod.mk.injEq] at H
  obtain ⟨rfl,rfl,rfl,rfl⟩:=H
 rotate_left
 all_goals
  go_enter Try.func27,Try.ntmps27
 rotate_left 2
 ·
  go_wp2_with (first|((with_reducible refine aH (N:=4) rfl ?_);refine bxE (cs:=#[.int .i64 a1_0,.int .i64 a1_1]) (t:=28) ?_;intro gb714 hg w50 hbox hb;have BK714:=aA.mk hbox;have GW714:=sA hg;have GE714:=sA hg;replace HB:=lB hb;clear hb hbox hg)|((with_reducible refine aH (N:=5) rfl ?_);refine bxE (cs:=#[.int .i64 a2_0,.int .i64 a2_1]) (t:=28) ?_;intro gb715 hg w51 hbox hb;have LT714_715:=nL hg BK714;have BK715:=aA.mk hbox;have GW715:=sA hg;have GE715:=sA hg;replace BK714:=kB BK714 hb;replace HB:=lB hb;clear hb hbox hg)|((with_reducible refine aH (N:=6) rfl ?_);refine bxE (cs:=#[.int .i64 0,.int .i64 0,.int .i64 0]) (t:=25) ?_;intro gb716 hg w52 hbox hb;have LT714_716:=nL hg BK714;have LT715_716:=nL hg BK715;have BK716:=aA.mk hbox;have GW716:=sA hg;have GE716:=sA hg;replace BK714:=kB BK714 hb;replace BK715:=kB BK715 hb;replace HB:=lB hb;clear hb hbox hg;have hnb53:=LT714_715.out;have hnb54:=LT714_716.out;obtain ⟨hcz55_0,hcz55_1,hfz55_0,hfz55_1⟩:=cz2 BK714;have hnb56:=LT715_716.out;obtain ⟨hcz57_0,hcz57_1,hfz57_0,hfz57_1⟩:=cz2 BK715)|((with_reducible refine gd 14 rfl ?_);refine gC (some 14) rfl Try.func65 (bu.calls (w:=_) (h:=A4.out)) ?_;intro w58 hb;replace BK714:=kB BK714 hb;replace BK715:=kB BK715 hb;replace BK716:=kB BK716 hb;replace HB:=lB hb;clear hb;obtain ⟨hcz59_0,hcz59_1,hcz59_2,hfz59_0,hfz59_1,hfz59_2⟩:=cz3 BK716))
  refine bodyPost_ret (bC rfl _ _ gb716 25 #[.int .i64 0,.int .i64 0,.int .i64 0] (0,0) _ rfl (bpA BK716) Try.underlying25 rfl (by kernel_rfl)) rfl ?_
  exact bU blA
 all_goals
  try go_wp2_with (first|((with_reducible refine aH (N:=4) rfl ?_);refine bxE (cs:=#[.int .i64 a1_0,.int .i64 a1_1]) (t:=28) ?_;intro gb714 hg w9 hbox hb;have BK714:=aA.mk hbox;have GW714:=sA hg;have GE714:=sA hg;replace HB:=lB hb;clear hb hbox hg)|((with_reducible refine aH (N:=5) rfl ?_);refine bxE (cs:=#[.int .i64 a2_0,.int .i64 a2_1]) (t:=28) ?_;intro gb715 hg w10 hbox hb;have LT714_715:=nL hg BK714;have BK715:=aA.mk hbox;have GW715:=sA hg;have GE715:=sA hg;replace BK714:=kB BK714 hb;replace HB:=lB hb;clear hb hbox hg)|((with_reducible refine aH (N:=6) rfl ?_);refine bxE (cs:=#[.int .i64 0,.int .i64 0,.int .i64 0]) (t:=25) ?_;intro gb716 hg w11 hbox hb;have LT714_716:=nL hg BK714;have LT715_716:=nL hg BK715;have BK716:=aA.mk hbox;have GW716:=sA hg;have GE716:=sA hg;replace BK714:=kB BK714 hb;replace BK715:=kB BK715 hb;replace HB:=lB hb;clear hb hbox hg;have hnb12:=LT714_715.out;have hnb13:=LT714_716.out;obtain ⟨hcz14_0,hcz14_1,hfz14_0,hfz14_1⟩:=cz2 BK714;have hnb15:=LT715_716.out;obtain ⟨hcz16_0,hcz16_1,hfz16_0,hfz16_1⟩:=cz2 BK715)|((with_reducible refine gd 14 rfl ?_);refine gC (some 14) rfl Try.func65 (bu.calls (w:=_) (h:=A4.out)) ?_;intro w17 hb;replace BK714:=kB BK714 hb;replace BK715:=kB BK715 hb;replace BK716:=kB BK716 hb;replace HB:=lB hb;clear hb))
  have n0_:=aA.mk (aK BK714.out)
  have n1_:=aA.mk (aK BK715.out)
  have n2_:=aA.mk (aK BK716.out)
  have n3_:=aA.mk (aV HB.out)
  clear BK714
  clear BK715
  clear BK716
  clear HB
  have BK714:=n0_
  have BK715:=n1_
  have BK716:=n2_
  have HB:=n3_
  clear n0_ n1_ n2_ n3_
 ·
  refine bf (n:=16) (S:=fun w'=>w'.cell? ⟨gb714,0,none⟩=some (.int .i64 a1_0)∧w'.cell? ⟨gb714,1,none⟩=some (.int .i64 a1_1)∧w'.cell? ⟨gb715,0,none⟩=some (.int .i64 a2_0)∧w'.cell? ⟨gb715,1,none⟩=some (.int .i64 a2_1)) (ds:=[]) #[Z,Z,Z,Z,Z,Z,Z,Z,Z,Z,Z,Z,Z,Z,Z,Z] (by kernel_rfl) rfl rfl ⟨cA BK714 0,cA BK714 1,cA BK715 0,cA BK715 1⟩ (fun hHeld=>?_);refine bH bb.tab4 bb.bits4 (fun HT_ HW_=>?_)
  generalize w17.drew=w18 at BK714 BK715 BK716 HB hHeld ⊢
  refine puA (i:=0) (N:=some 20) #[Y,Z,Z,Z,Z,Z,Z,Z,Z,Z,Z,Z,Z,Z,Z,Z] rfl rfl HT_ ?_
  refine puA (i:=1) (N:=some 21) #[Y,Y,Z,Z,Z,Z,Z,Z,Z,Z,Z,Z,Z,Z,Z,Z] rfl rfl HT_ ?_
  refine puA (i:=3) (N:=some 23) #[Y,Y,Z,Y,Z,Z,Z,Z,Z,Z,Z,Z,Z,Z,Z,Z] rfl rfl HT_ ?_
  refine puA (i:=5) (N:=some 25) #[Y,Y,Z,Y,Z,Y,Z,Z,Z,Z,Z,Z,Z,Z,Z,Z] rfl rfl HT_ ?_
  refine taA (i:=2) (N:=some 22) #[Y,Y,Y,Y,Z,Y,Z,Z,Z,Z,Z,Z,Z,Z,Z,Z] rfl rfl HT_ HW_ hHeld ?_
  refine taA (i:=4) (N:=some 24) #[Y,Y,Y,Y,Y,Y,Z,Z,Z,Z,Z,Z,Z,Z,Z,Z] rfl rfl HT_ HW_ hHeld ?_
  refine taA (i:=6) (N:=some 26) #[Y,Y,Y,Y,Y,Y,Y,Z,Z,Z,Z,Z,Z,Z,Z,Z] rfl rfl HT_ HW_ hHeld ?_
  refine taA (i:=7) (N:=some 27) #[Y,Y,Y,Y,Y,Y,Y,Y,Z,Z,Z,Z,Z,Z,Z,Z] rfl rfl HT_ HW_ hHeld ?_
  refine join_ (σ:=Nat) 2 #[Y,Y,Y,Y,Y,Y,Y,Y,Y,Y,Y,Y,Y,Y,Z,Z] (fun s_=>[(28,.int .i64 t718),(29,.tuple #[.agg #[.int .i64 t719,.int .i64 t720,.int .i64 t721],.bool true]),(9,.pointer (some ⟨s_,0,none⟩)),(19,.tuple #[.agg #[.int .i64 t719,.int .i64 t720,.int .i64 t721],.bool true]),(30,.agg #[.int .i64 t719,.int .i64 t720,.int .i64 t721]),(31,.bool true)]) (fun s_ w'=>(w'.cell? ⟨gb714,0,none⟩=some (.int .i64 a1_0)∧w'.cell? ⟨gb714,1,none⟩=some (.int .i64 a1_1)∧w'.cell? ⟨gb715,0,none⟩=some (.int .i64 a2_0)∧w'.cell? ⟨gb715,1,none⟩=some (.int .i64 a2_1))∧(w'.heap[gb714]?=some (.cells #[.int .i64 a1_0,.int .i64 a1_1] 28 (0,0)))∧(w'.heap[gb715]?=some (.cells #[.int .i64 a2_0,.int .i64 a2_1] 28 (0,0)))∧(w'.heap[gb716]?=some (.cells #[.int .i64 0,.int .i64 0,.int .i64 0] 25 (0,0)))∧(w'.heap[s_]?=some (.cells #[.int .i64 0,.int .i64 0,.int .i64 0] 25 (0,0)))∧(w.heap.size≤s_)∧(w.heap.size≤s_)∧(gb714≠s_)∧(s_≠gb714)∧(gb715≠s_)∧(s_≠gb715)∧(gb716≠s_)∧(s_≠gb716)∧(Below w.heap.size w w')) ?_ ?_
  rotate_left
  ·
   intro hCont
   refine two_ (i:=8) (j:=13) (Ni:=some 28) (Nj:=some 9) #[Y,Y,Y,Y,Y,Y,Y,Y,Y,Z,Z,Z,Z,Z,Z,Z] #[Y,Y,Y,Y,Y,Y,Y,Y,Z,Z,Z,Z,Z,Y,Z,Z] rfl rfl rfl rfl (two_of HT_.out (by kernel_rfl)) (by decide) (by decide) (fun K hK=>?_) (fun K hK=>?_)
   ·
    skip
    refine goC Try.func29 (bN.calls (w:=_) (h:=A6.out)) ?_
    intro w19 hb
    replace BK714:=kB BK714 hb
    replace BK715:=kB BK715 hb
    replace BK716:=kB BK716 hb
    replace HB:=lB hb
    (try clear hb)
    (try clear hb2)
    (try clear hk)
    (try clear hi)
    refine hK.out _ _ ⟨cA BK714 0,cA BK714 1,cA BK715 0,cA BK715 1⟩ (fun hHeld=>?_)
    clear hK K
    refine nmA ?_
    refine two_ (i:=9) (j:=13) (Ni:=some 29) (Nj:=some 9) #[Y,Y,Y,Y,Y,Y,Y,Y,Y,Y,Z,Z,Z,Z,Z,Z] #[Y,Y,Y,Y,Y,Y,Y,Y,Y,Z,Z,Z,Z,Y,Z,Z] rfl rfl rfl rfl (two_of HT_.out (by kernel_rfl)) (by decide) (by decide) (fun K hK=>?_) (fun K hK=>?_)
    ·
     skip
     refine goC Try.func30 (cM.calls (w:=_) (h:=A7.out)) ?_
     intro w20 hb
     replace BK714:=kB BK714 hb
     replace BK715:=kB BK715 hb
     replace BK716:=kB BK716 hb
     replace HB:=lB hb
     (try clear hb)
     (try clear hb2)
     (try clear hk)
     (try clear hi)
     refine hK.out _ _ ⟨cA BK714 0,cA BK714 1,cA BK715 0,cA BK715 1⟩ (fun hHeld=>?_)
     clear hK K
     refine nmA ?_
     refine puA (i:=10) (N:=some 19) #[Y,Y,Y,Y,Y,Y,Y,Y,Y,Y,Y,Z,Z,Z,Z,Z] rfl rfl HT_ ?_
     refine puA (i:=11) (N:=some 30) #[Y,Y,Y,Y,Y,Y,Y,Y,Y,Y,Y,Y,Z,Z,Z,Z] rfl rfl HT_ ?_
     refine puA (i:=12) (N:=some 31) #[Y,Y,Y,Y,Y,Y,Y,Y,Y,Y,Y,Y,Y,Z,Z,Z] rfl rfl HT_ ?_
     refine bg (i:=13) (N:=some 9) #[Y,Y,Y,Y,Y,Y,Y,Y,Y,Y,Y,Y,Y,Y,Z,Z] rfl rfl (az HT_.out (by kernel_rfl)) (by decide) (fun K hK=>?_)
     refine df ?hg (N:=9) ?hd (cs:=#[.int .i64 0,.int .i64 0,.int .i64 0]) (t:=25) ?hr ?_;(case hd=>rfl);(case hg=>rfl);(case hr=>first|(go_simp;done)|(go_simp;rfl))
     intro gb723 hg w21 hbox hb
     have BK723:=aA.mk hbox
     have GW723:=sA hg
     have GE723:=sA hg
     have NB714_723:=nA hg BK714
     have NB723_714:=nB hg BK714
     have LT714_723:=nL hg BK714
     have NB715_723:=nA hg BK715
     have NB723_715:=nB hg BK715
     have LT715_723:=nL hg BK715
     have NB716_723:=nA hg BK716
     have NB723_716:=nB hg BK716
     have LT716_723:=nL hg BK716
     replace BK714:=kB BK714 hb
     replace BK715:=kB BK715 hb
     replace BK716:=kB BK716 hb
     replace HB:=lB hb
     clear hb hbox hg
     refine hK.out _ _ ⟨cA BK714 0,cA BK714 1,cA BK715 0,cA BK715 1⟩ (fun hHeld=>?_)
     clear hK K
     refine nmA ?_
     exact fA (by simp only [da,Act.put,List.setIfInBounds_toArray,List.set_cons_zero,List.set_cons_succ]) (hCont (gb723) _ ⟨hHeld,(bkA BK714),(bkA BK715),(bkA BK716),(bkA BK723),GW723.out,GE723.out,NB714_723.out,NB723_714.out,NB715_723.out,NB723_715.out,NB716_723.out,NB723_716.out,blA⟩)
    ·
     skip
     refine df ?hg (N:=9) ?hd (cs:=#[.int .i64 0,.int .i64 0,.int .i64 0]) (t:=25) ?hr ?_;(case hd=>rfl);(case hg=>rfl);(case hr=>first|(go_simp;done)|(go_simp;rfl))
     intro gb723 hg w20 hbox hb
     have BK723:=aA.mk hbox
     have GW723:=sA hg
     have GE723:=sA hg
     have NB714_723:=nA hg BK714
     have NB723_714:=nB hg BK714
     have LT714_723:=nL hg BK714
     have NB715_723:=nA hg BK715
     have NB723_715:=nB hg BK715
     have LT715_723:=nL hg BK715
     have NB716_723:=nA hg BK716
     have NB723_716:=nB hg BK716
     have LT716_723:=nL hg BK716
     replace BK714:=kB BK714 hb
     replace BK715:=kB BK715 hb
     replace BK716:=kB BK716 hb
     replace HB:=lB hb
     clear hb hbox hg
     refine hK.out _ _ ⟨cA BK714 0,cA BK714 1,cA BK715 0,cA BK715 1⟩ (fun hHeld=>?_)
     clear hK K
     refine nmA ?_
     refine bg (i:=9) (N:=some 29) #[Y,Y,Y,Y,Y,Y,Y,Y,Y,Y,Z,Z,Z,Y,Z,Z] rfl rfl (az HT_.out (by kernel_rfl)) (by decide) (fun K hK=>?_)
     refine goC Try.func30 (cM.calls (w:=_) (h:=A7.out)) ?_
     intro w21 hb
     replace BK714:=kB BK714 hb
     replace BK715:=kB BK715 hb
     replace BK716:=kB BK716 hb
     replace BK723:=kB BK723 hb
     replace HB:=lB hb
     (try clear hb)
     (try clear hb2)
     (try clear hk)
     (try clear hi)
     refine hK.out _ _ ⟨cA BK714 0,cA BK714 1,cA BK715 0,cA BK715 1⟩ (fun hHeld=>?_)
     clear hK K
     refine nmA ?_
     refine puA (i:=10) (N:=some 19) #[Y,Y,Y,Y,Y,Y,Y,Y,Y,Y,Y,Z,Z,Y,Z,Z] rfl rfl HT_ ?_
     refine puA (i:=11) (N:=some 30) #[Y,Y,Y,Y,Y,Y,Y,Y,Y,Y,Y,Y,Z,Y,Z,Z] rfl rfl HT_ ?_
     refine puA (i:=12) (N:=some 31) #[Y,Y,Y,Y,Y,Y,Y,Y,Y,Y,Y,Y,Y,Y,Z,Z] rfl rfl HT_ ?_
     exact fA (by simp only [da,Act.put,List.setIfInBounds_toArray,List.set_cons_zero,List.set_cons_succ]) (hCont (gb723) _ ⟨hHeld,(bkA BK714),(bkA BK715),(bkA BK716),(bkA BK723),GW723.out,GE723.out,NB714_723.out,NB723_714.out,NB715_723.out,NB723_715.out,NB716_723.out,NB723_716.out,blA⟩)
   ·
    skip
    refine df ?hg (N:=9) ?hd (cs:=#[.int .i64 0,.int .i64 0,.int .i64 0]) (t:=25) ?hr ?_;(case hd=>rfl);(case hg=>rfl);(case hr=>first|(go_simp;done)|(go_simp;rfl))
    intro gb723 hg w19 hbox hb
    have BK723:=aA.mk hbox
    have GW723:=sA hg
    have GE723:=sA hg
    have NB714_723:=nA hg BK714
    have NB723_714:=nB hg BK714
    have LT714_723:=nL hg BK714
    have NB715_723:=nA hg BK715
    have NB723_715:=nB hg BK715
    have LT715_723:=nL hg BK715
    have NB716_723:=nA hg BK716
    have NB723_716:=nB hg BK716
    have LT716_723:=nL hg BK716
    replace BK714:=kB BK714 hb
    replace BK715:=kB BK715 hb
    replace BK716:=kB BK716 hb
    replace HB:=lB hb
    clear hb hbox hg
    refine hK.out _ _ ⟨cA BK714 0,cA BK714 1,cA BK715 0,cA BK715 1⟩ (fun hHeld=>?_)
    clear hK K
    refine nmA ?_
    refine bg (i:=8) (N:=some 28) #[Y,Y,Y,Y,Y,Y,Y,Y,Y,Z,Z,Z,Z,Y,Z,Z] rfl rfl (az HT_.out (by kernel_rfl)) (by decide) (fun K hK=>?_)
    refine goC Try.func29 (bN.calls (w:=_) (h:=A6.out)) ?_
    intro w20 hb
    replace BK714:=kB BK714 hb
    replace BK715:=kB BK715 hb
    replace BK716:=kB BK716 hb
    replace BK723:=kB BK723 hb
    replace HB:=lB hb
    (try clear hb)
    (try clear hb2)
    (try clear hk)
    (try clear hi)
    refine hK.out _ _ ⟨cA BK714 0,cA BK714 1,cA BK715 0,cA BK715 1⟩ (fun hHeld=>?_)
    clear hK K
    refine nmA ?_
    refine bg (i:=9) (N:=some 29) #[Y,Y,Y,Y,Y,Y,Y,Y,Y,Y,Z,Z,Z,Y,Z,Z] rfl rfl (az HT_.out (by kernel_rfl)) (by decide) (fun K hK=>?_)
    refine goC Try.func30 (cM.calls (w:=_) (h:=A7.out)) ?_
    intro w21 hb
    replace BK714:=kB BK714 hb
    replace BK715:=kB BK715 hb
    replace BK716:=kB BK716 hb
    replace BK723:=kB BK723 hb
    replace HB:=lB hb
    (try clear hb)
    (try clear hb2)
    (try clear hk)
    (try clear hi)
    refine hK.out _ _ ⟨cA BK714 0,cA BK714 1,cA BK715 0,cA BK715 1⟩ (fun hHeld=>?_)
    clear hK K
    refine nmA ?_
    refine puA (i:=10) (N:=some 19) #[Y,Y,Y,Y,Y,Y,Y,Y,Y,Y,Y,Z,Z,Y,Z,Z] rfl rfl HT_ ?_
    refine puA (i:=11) (N:=some 30) #[Y,Y,Y,Y,Y,Y,Y,Y,Y,Y,Y,Y,Z,Y,Z,Z] rfl rfl HT_ ?_
    refine puA (i:=12) (N:=some 31) #[Y,Y,Y,Y,Y,Y,Y,Y,Y,Y,Y,Y,Y,Y,Z,Z] rfl rfl HT_ ?_
    exact fA (by simp only [da,Act.put,List.setIfInBounds_toArray,List.set_cons_zero,List.set_cons_succ]) (hCont (gb723) _ ⟨hHeld,(bkA BK714),(bkA BK715),(bkA BK716),(bkA BK723),GW723.out,GE723.out,NB714_723.out,NB723_714.out,NB715_723.out,NB723_715.out,NB716_723.out,NB723_716.out,blA⟩)
  rintro gb723 w22 ⟨hS_,h0_,h1_,h2_,h3_,h4_,h5_,h6_,h7_,h8_,h9_,h10_,h11_,h12_⟩
  have BK723:=aA.mk h3_
  have GW723:=aA.mk h4_
  have GE723:=aA.mk h5_
  have NB714_723:=aA.mk h6_
  have NB723_714:=aA.mk h7_
  have NB715_723:=aA.mk h8_
  have NB723_715:=aA.mk h9_
  have NB716_723:=aA.mk h10_
  have NB723_716:=aA.mk h11_
  replace BK714:=aA.mk h0_
  replace BK715:=aA.mk h1_
  replace BK716:=aA.mk h2_
  replace HB:=aA.mk h12_
  clear h0_ h1_ h2_ h3_ h4_ h5_ h6_ h7_ h8_ h9_ h10_ h11_ h12_
  have hHeld:w22.cell? ⟨gb714,0,none⟩=some (.int .i64 a1_0)∧w22.cell? ⟨gb714,1,none⟩=some (.int .i64 a1_1)∧w22.cell? ⟨gb715,0,none⟩=some (.int .i64 a2_0)∧w22.cell? ⟨gb715,1,none⟩=some (.int .i64 a2_1):=hS_
  refine fA (a':=?_) ?_ ?_
  rotate_left
  ·
   simp only [da,Act.put,List.setIfInBounds_toArray,List.set_cons_zero,List.set_cons_succ]
   rfl
  refine bg (i:=14) (N:=none) #[Y,Y,Y,Y,Y,Y,Y,Y,Y,Y,Y,Y,Y,Y,Y,Z] rfl rfl (az HT_.out (by kernel_rfl)) (by decide) (fun K hK=>?_)
  have hs23:w22.cell? ⟨gb723,0,none⟩=some (.int .i64 0):=cA BK723 0
  have hfs23:=aQ BK723.out 0
  have hns23_0:=NB714_723.out
  have hns23_1:=NB715_723.out
  have hns23_2:=NB716_723.out
  have hms23_0:=NB723_714.out
  have hms23_1:=NB723_715.out
  have hms23_2:=NB723_716.out
  have hs24:w22.cell? ⟨gb723,1,none⟩=some (.int .i64 0):=cA BK723 1
  have hfs24:=aQ BK723.out 1
  have hns24_0:=NB714_723.out
  have hns24_1:=NB715_723.out
  have hns24_2:=NB716_723.out
  have hms24_0:=NB723_714.out
  have hms24_1:=NB723_715.out
  have hms24_2:=NB723_716.out
  have hs25:w22.cell? ⟨gb723,2,none⟩=some (.int .i64 0):=cA BK723 2
  have hfs25:=aQ BK723.out 2
  have hns25_0:=NB714_723.out
  have hns25_1:=NB715_723.out
  have hns25_2:=NB716_723.out
  have hms25_0:=NB723_714.out
  have hms25_1:=NB723_715.out
  have hms25_2:=NB723_716.out
  refine dp (w1:=?_) (by rfl) rfl ?_ ?_
  rotate_left
  ·
   go_simp
   rfl
  refine hK.out _ _ ⟨cfA hHeld.1,cfA hHeld.2.1,cfA hHeld.2.2.1,cfA hHeld.2.2.2⟩ (fun hHeld=>?_)
  clear hK K
  refine puA (i:=15) (N:=some 10) #[Y,Y,Y,Y,Y,Y,Y,Y,Y,Y,Y,Y,Y,Y,Y,Y] rfl rfl HT_ ?_
  refine cL (bX HT_.out (by kernel_rfl)) ?_
  have hnb26:=NB714_723.out
  have hnb27:=NB715_723.out
  have hnb28:=NB716_723.out
  obtain ⟨hcz29_0,hcz29_1,hcz29_2,hfz29_0,hfz29_1,hfz29_2⟩:=cz3 BK723
  obtain ⟨hcz30_0,hcz30_1,hcz30_2,hfz30_0,hfz30_1,hfz30_2⟩:=cz3 BK716
  try go_wp2
  refine bodyPost_ret (bC rfl _ _ gb716 25 #[.int .i64 t719,.int .i64 t720,.int .i64 t721] (0,0) _ rfl (bpA BK716) Try.underlying25 rfl (by kernel_rfl)) rfl ?_
  exact bU blA
 ·
  refine bf (n:=16) (S:=fun w'=>w'.cell? ⟨gb714,0,none⟩=some (.int .i64 a1_0)∧w'.cell? ⟨gb714,1,none⟩=some (.int .i64 a1_1)∧w'.cell? ⟨gb715,0,none⟩=some (.int .i64 a2_0)∧w'.cell? ⟨gb715,1,none⟩=some (.int .i64 a2_1)) (ds:=[]) #[Z,Z,Z,Z,Z,Z,Z,Z,Z,Z,Z,Z,Z,Z,Z,Z] (by kernel_rfl) rfl rfl ⟨cA BK714 0,cA BK714 1,cA BK715 0,cA BK715 1⟩ (fun hHeld=>?_);refine bH bb.tab4 bb.bits4 (fun HT_ HW_=>?_)
  generalize w17.drew=w40 at BK714 BK715 BK716 HB hHeld ⊢
  refine puA (i:=0) (N:=some 20) #[Y,Z,Z,Z,Z,Z,Z,Z,Z,Z,Z,Z,Z,Z,Z,Z] rfl rfl HT_ ?_
  refine puA (i:=1) (N:=some 21) #[Y,Y,Z,Z,Z,Z,Z,Z,Z,Z,Z,Z,Z,Z,Z,Z] rfl rfl HT_ ?_
  refine puA (i:=3) (N:=some 23) #[Y,Y,Z,Y,Z,Z,Z,Z,Z,Z,Z,Z,Z,Z,Z,Z] rfl rfl HT_ ?_
  refine puA (i:=5) (N:=some 25) #[Y,Y,Z,Y,Z,Y,Z,Z,Z,Z,Z,Z,Z,Z,Z,Z] rfl rfl HT_ ?_
  refine taA (i:=2) (N:=some 22) #[Y,Y,Y,Y,Z,Y,Z,Z,Z,Z,Z,Z,Z,Z,Z,Z] rfl rfl HT_ HW_ hHeld ?_
  refine taA (i:=4) (N:=some 24) #[Y,Y,Y,Y,Y,Y,Z,Z,Z,Z,Z,Z,Z,Z,Z,Z] rfl rfl HT_ HW_ hHeld ?_
  refine taA (i:=6) (N:=some 26) #[Y,Y,Y,Y,Y,Y,Y,Z,Z,Z,Z,Z,Z,Z,Z,Z] rfl rfl HT_ HW_ hHeld ?_
  refine taA (i:=7) (N:=some 27) #[Y,Y,Y,Y,Y,Y,Y,Y,Z,Z,Z,Z,Z,Z,Z,Z] rfl rfl HT_ HW_ hHeld ?_
  refine join_ (σ:=Nat) 2 #[Y,Y,Y,Y,Y,Y,Y,Y,Y,Y,Y,Y,Y,Y,Z,Z] (fun s_=>[(28,.int .i64 t718),(29,.tuple #[.agg #[.int .i64 t719,.int .i64 t720,.int .i64 t721],.bool false]),(9,.pointer (some ⟨s_,0,none⟩)),(19,.tuple #[.agg #[.int .i64 t719,.int .i64 t720,.int .i64 t721],.bool false]),(30,.agg #[.int .i64 t719,.int .i64 t720,.int .i64 t721]),(31,.bool false)]) (fun s_ w'=>(w'.cell? ⟨gb714,0,none⟩=some (.int .i64 a1_0)∧w'.cell? ⟨gb714,1,none⟩=some (.int .i64 a1_1)∧w'.cell? ⟨gb715,0,none⟩=some (.int .i64 a2_0)∧w'.cell? ⟨gb715,1,none⟩=some (.int .i64 a2_1))∧(w'.heap[gb714]?=some (.cells #[.int .i64 a1_0,.int .i64 a1_1] 28 (0,0)))∧(w'.heap[gb715]?=some (.cells #[.int .i64 a2_0,.int .i64 a2_1] 28 (0,0)))∧(w'.heap[gb716]?=some (.cells #[.int .i64 0,.int .i64 0,.int .i64 0] 25 (0,0)))∧(w'.heap[s_]?=some (.cells #[.int .i64 0,.int .i64 0,.int .i64 0] 25 (0,0)))∧(w.heap.size≤s_)∧(w.heap.size≤s_)∧(gb714≠s_)∧(s_≠gb714)∧(gb715≠s_)∧(s_≠gb715)∧(gb716≠s_)∧(s_≠gb716)∧(Below w.heap.size w w')) ?_ ?_
  rotate_left
  ·
   intro hCont
   refine two_ (i:=8) (j:=13) (Ni:=some 28) (Nj:=some 9) #[Y,Y,Y,Y,Y,Y,Y,Y,Y,Z,Z,Z,Z,Z,Z,Z] #[Y,Y,Y,Y,Y,Y,Y,Y,Z,Z,Z,Z,Z,Y,Z,Z] rfl rfl rfl rfl (two_of HT_.out (by kernel_rfl)) (by decide) (by decide) (fun K hK=>?_) (fun K hK=>?_)
   ·
    skip
    refine goC Try.func29 (bN.calls (w:=_) (h:=A6.out)) ?_
    intro w41 hb
    replace BK714:=kB BK714 hb
    replace BK715:=kB BK715 hb
    replace BK716:=kB BK716 hb
    replace HB:=lB hb
    (try clear hb)
    (try clear hb2)
    (try clear hk)
    (try clear hi)
    refine hK.out _ _ ⟨cA BK714 0,cA BK714 1,cA BK715 0,cA BK715 1⟩ (fun hHeld=>?_)
    clear hK K
    refine nmA ?_
    refine two_ (i:=9) (j:=13) (Ni:=some 29) (Nj:=some 9) #[Y,Y,Y,Y,Y,Y,Y,Y,Y,Y,Z,Z,Z,Z,Z,Z] #[Y,Y,Y,Y,Y,Y,Y,Y,Y,Z,Z,Z,Z,Y,Z,Z] rfl rfl rfl rfl (two_of HT_.out (by kernel_rfl)) (by decide) (by decide) (fun K hK=>?_) (fun K hK=>?_)
    ·
     skip
     refine goC Try.func30 (cM.calls (w:=_) (h:=A7.out)) ?_
     intro w42 hb
     replace BK714:=kB BK714 hb
     replace BK715:=kB BK715 hb
     replace BK716:=kB BK716 hb
     replace HB:=lB hb
     (try clear hb)
     (try clear hb2)
     (try clear hk)
     (try clear hi)
     refine hK.out _ _ ⟨cA BK714 0,cA BK714 1,cA BK715 0,cA BK715 1⟩ (fun hHeld=>?_)
     clear hK K
     refine nmA ?_
     refine puA (i:=10) (N:=some 19) #[Y,Y,Y,Y,Y,Y,Y,Y,Y,Y,Y,Z,Z,Z,Z,Z] rfl rfl HT_ ?_
     refine puA (i:=11) (N:=some 30) #[Y,Y,Y,Y,Y,Y,Y,Y,Y,Y,Y,Y,Z,Z,Z,Z] rfl rfl HT_ ?_
     refine puA (i:=12) (N:=some 31) #[Y,Y,Y,Y,Y,Y,Y,Y,Y,Y,Y,Y,Y,Z,Z,Z] rfl rfl HT_ ?_
     refine bg (i:=13) (N:=some 9) #[Y,Y,Y,Y,Y,Y,Y,Y,Y,Y,Y,Y,Y,Y,Z,Z] rfl rfl (az HT_.out (by kernel_rfl)) (by decide) (fun K hK=>?_)
     refine df ?hg (N:=9) ?hd (cs:=#[.int .i64 0,.int .i64 0,.int .i64 0]) (t:=25) ?hr ?_;(case hd=>rfl);(case hg=>rfl);(case hr=>first|(go_simp;done)|(go_simp;rfl))
     intro gb723 hg w43 hbox hb
     have BK723:=aA.mk hbox
     have GW723:=sA hg
     have GE723:=sA hg
     have NB714_723:=nA hg BK714
     have NB723_714:=nB hg BK714
     have LT714_723:=nL hg BK714
     have NB715_723:=nA hg BK715
     have NB723_715:=nB hg BK715
     have LT715_723:=nL hg BK715
     have NB716_723:=nA hg BK716
     have NB723_716:=nB hg BK716
     have LT716_723:=nL hg BK716
     replace BK714:=kB BK714 hb
     replace BK715:=kB BK715 hb
     replace BK716:=kB BK716 hb
     replace HB:=lB hb
     clear hb hbox hg
     refine hK.out _ _ ⟨cA BK714 0,cA BK714 1,cA BK715 0,cA BK715 1⟩ (fun hHeld=>?_)
     clear hK K
     refine nmA ?_
     exact fA (by simp only [da,Act.put,List.setIfInBounds_toArray,List.set_cons_zero,List.set_cons_succ]) (hCont (gb723) _ ⟨hHeld,(bkA BK714),(bkA BK715),(bkA BK716),(bkA BK723),GW723.out,GE723.out,NB714_723.out,NB723_714.out,NB715_723.out,NB723_715.out,NB716_723.out,NB723_716.out,blA⟩)
    ·
     skip
     refine df ?hg (N:=9) ?hd (cs:=#[.int .i64 0,.int .i64 0,.int .i64 0]) (t:=25) ?hr ?_;(case hd=>rfl);(case hg=>rfl);(case hr=>first|(go_simp;done)|(go_simp;rfl))
     intro gb723 hg w42 hbox hb
     have BK723:=aA.mk hbox
     have GW723:=sA hg
     have GE723:=sA hg
     have NB714_723:=nA hg BK714
     have NB723_714:=nB hg BK714
     have LT714_723:=nL hg BK714
     have NB715_723:=nA hg BK715
     have NB723_715:=nB hg BK715
     have LT715_723:=nL hg BK715
     have NB716_723:=nA hg BK716
     have NB723_716:=nB hg BK716
     have LT716_723:=nL hg BK716
     replace BK714:=kB BK714 hb
     replace BK715:=kB BK715 hb
     replace BK716:=kB BK716 hb
     replace HB:=lB hb
     clear hb hbox hg
     refine hK.out _ _ ⟨cA BK714 0,cA BK714 1,cA BK715 0,cA BK715 1⟩ (fun hHeld=>?_)
     clear hK K
     refine nmA ?_
     refine bg (i:=9) (N:=some 29) #[Y,Y,Y,Y,Y,Y,Y,Y,Y,Y,Z,Z,Z,Y,Z,Z] rfl rfl (az HT_.out (by kernel_rfl)) (by decide) (fun K hK=>?_)
     refine goC Try.func30 (cM.calls (w:=_) (h:=A7.out)) ?_
     intro w43 hb
     replace BK714:=kB BK714 hb
     replace BK715:=kB BK715 hb
     replace BK716:=kB BK716 hb
     replace BK723:=kB BK723 hb
     replace HB:=lB hb
     (try clear hb)
     (try clear hb2)
     (try clear hk)
     (try clear hi)
     refine hK.out _ _ ⟨cA BK714 0,cA BK714 1,cA BK715 0,cA BK715 1⟩ (fun hHeld=>?_)
     clear hK K
     refine nmA ?_
     refine puA (i:=10) (N:=some 19) #[Y,Y,Y,Y,Y,Y,Y,Y,Y,Y,Y,Z,Z,Y,Z,Z] rfl rfl HT_ ?_
     refine puA (i:=11) (N:=some 30) #[Y,Y,Y,Y,Y,Y,Y,Y,Y,Y,Y,Y,Z,Y,Z,Z] rfl rfl HT_ ?_
     refine puA (i:=12) (N:=some 31) #[Y,Y,Y,Y,Y,Y,Y,Y,Y,Y,Y,Y,Y,Y,Z,Z] rfl rfl HT_ ?_
     exact fA (by simp only [da,Act.put,List.setIfInBounds_toArray,List.set_cons_zero,List.set_cons_succ]) (hCont (gb723) _ ⟨hHeld,(bkA BK714),(bkA BK715),(bkA BK716),(bkA BK723),GW723.out,GE723.out,NB714_723.out,NB723_714.out,NB715_723.out,NB723_715.out,NB716_723.out,NB723_716.out,blA⟩)
   ·
    skip
    refine df ?hg (N:=9) ?hd (cs:=#[.int .i64 0,.int .i64 0,.int .i64 0]) (t:=25) ?hr ?_;(case hd=>rfl);(case hg=>rfl);(case hr=>first|(go_simp;done)|(go_simp;rfl))
    intro gb723 hg w41 hbox hb
    have BK723:=aA.mk hbox
    have GW723:=sA hg
    have GE723:=sA hg
    have NB714_723:=nA hg BK714
    have NB723_714:=nB hg BK714
    have LT714_723:=nL hg BK714
    have NB715_723:=nA hg BK715
    have NB723_715:=nB hg BK715
    have LT715_723:=nL hg BK715
    have NB716_723:=nA hg BK716
    have NB723_716:=nB hg BK716
    have LT716_723:=nL hg BK716
    replace BK714:=kB BK714 hb
    replace BK715:=kB BK715 hb
    replace BK716:=kB BK716 hb
    replace HB:=lB hb
    clear hb hbox hg
    refine hK.out _ _ ⟨cA BK714 0,cA BK714 1,cA BK715 0,cA BK715 1⟩ (fun hHeld=>?_)
    clear hK K
    refine nmA ?_
    refine bg (i:=8) (N:=some 28) #[Y,Y,Y,Y,Y,Y,Y,Y,Y,Z,Z,Z,Z,Y,Z,Z] rfl rfl (az HT_.out (by kernel_rfl)) (by decide) (fun K hK=>?_)
    refine goC Try.func29 (bN.calls (w:=_) (h:=A6.out)) ?_
    intro w42 hb
    replace BK714:=kB BK714 hb
    replace BK715:=kB BK715 hb
    replace BK716:=kB BK716 hb
    replace BK723:=kB BK723 hb
    replace HB:=lB hb
    (try clear hb)
    (try clear hb2)
    (try clear hk)
    (try clear hi)
    refine hK.out _ _ ⟨cA BK714 0,cA BK714 1,cA BK715 0,cA BK715 1⟩ (fun hHeld=>?_)
    clear hK K
    refine nmA ?_
    refine bg (i:=9) (N:=some 29) #[Y,Y,Y,Y,Y,Y,Y,Y,Y,Y,Z,Z,Z,Y,Z,Z] rfl rfl (az HT_.out (by kernel_rfl)) (by decide) (fun K hK=>?_)
    refine goC Try.func30 (cM.calls (w:=_) (h:=A7.out)) ?_
    intro w43 hb
    replace BK714:=kB BK714 hb
    replace BK715:=kB BK715 hb
    replace BK716:=kB BK716 hb
    replace BK723:=kB BK723 hb
    replace HB:=lB hb
    (try clear hb)
    (try clear hb2)
    (try clear hk)
    (try clear hi)
    refine hK.out _ _ ⟨cA BK714 0,cA BK714 1,cA BK715 0,cA BK715 1⟩ (fun hHeld=>?_)
    clear hK K
    refine nmA ?_
    refine puA (i:=10) (N:=some 19) #[Y,Y,Y,Y,Y,Y,Y,Y,Y,Y,Y,Z,Z,Y,Z,Z] rfl rfl HT_ ?_
    refine puA (i:=11) (N:=some 30) #[Y,Y,Y,Y,Y,Y,Y,Y,Y,Y,Y,Y,Z,Y,Z,Z] rfl rfl HT_ ?_
    refine puA (i:=12) (N:=some 31) #[Y,Y,Y,Y,Y,Y,Y,Y,Y,Y,Y,Y,Y,Y,Z,Z] rfl rfl HT_ ?_
    exact fA (by simp only [da,Act.put,List.setIfInBounds_toArray,List.set_cons_zero,List.set_cons_succ]) (hCont (gb723) _ ⟨hHeld,(bkA BK714),(bkA BK715),(bkA BK716),(bkA BK723),GW723.out,GE723.out,NB714_723.out,NB723_714.out,NB715_723.out,NB723_715.out,NB716_723.out,NB723_716.out,blA⟩)
  rintro gb723 w44 ⟨hS_,h0_,h1_,h2_,h3_,h4_,h5_,h6_,h7_,h8_,h9_,h10_,h11_,h12_⟩
  have BK723:=aA.mk h3_
  have GW723:=aA.mk h4_
  have GE723:=aA.mk h5_
  have NB714_723:=aA.mk h6_
  have NB723_714:=aA.mk h7_
  have NB715_723:=aA.mk h8_
  have NB723_715:=aA.mk h9_
  have NB716_723:=aA.mk h10_
  have NB723_716:=aA.mk h11_
  replace BK714:=aA.mk h0_
  replace BK715:=aA.mk h1_
  replace BK716:=aA.mk h2_
  replace HB:=aA.mk h12_
  clear h0_ h1_ h2_ h3_ h4_ h5_ h6_ h7_ h8_ h9_ h10_ h11_ h12_
  have hHeld:w44.cell? ⟨gb714,0,none⟩=some (.int .i64 a1_0)∧w44.cell? ⟨gb714,1,none⟩=some (.int .i64 a1_1)∧w44.cell? ⟨gb715,0,none⟩=some (.int .i64 a2_0)∧w44.cell? ⟨gb715,1,none⟩=some (.int .i64 a2_1):=hS_
  refine fA (a':=?_) ?_ ?_
  rotate_left
  ·
   simp only [da,Act.put,List.setIfInBounds_toArray,List.set_cons_zero,List.set_cons_succ]
   rfl
  refine bg (i:=14) (N:=none) #[Y,Y,Y,Y,Y,Y,Y,Y,Y,Y,Y,Y,Y,Y,Y,Z] rfl rfl (az HT_.out (by kernel_rfl)) (by decide) (fun K hK=>?_)
  have hs45:w44.cell? ⟨gb723,0,none⟩=some (.int .i64 0):=cA BK723 0
  have hfs45:=aQ BK723.out 0
  have hns45_0:=NB714_723.out
  have hns45_1:=NB715_723.out
  have hns45_2:=NB716_723.out
  have hms45_0:=NB723_714.out
  have hms45_1:=NB723_715.out
  have hms45_2:=NB723_716.out
  have hs46:w44.cell? ⟨gb723,1,none⟩=some (.int .i64 0):=cA BK723 1
  have hfs46:=aQ BK723.out 1
  have hns46_0:=NB714_723.out
  have hns46_1:=NB715_723.out
  have hns46_2:=NB716_723.out
  have hms46_0:=NB723_714.out
  have hms46_1:=NB723_715.out
  have hms46_2:=NB723_716.out
  have hs47:w44.cell? ⟨gb723,2,none⟩=some (.int .i64 0):=cA BK723 2
  have hfs47:=aQ BK723.out 2
  have hns47_0:=NB714_723.out
  have hns47_1:=NB715_723.out
  have hns47_2:=NB716_723.out
  have hms47_0:=NB723_714.out
  have hms47_1:=NB723_715.out
  have hms47_2:=NB723_716.out
  refine dp (w1:=?_) (by rfl) rfl ?_ ?_
  rotate_left
  ·
   go_simp
   rfl
  refine hK.out _ _ ⟨cfA hHeld.1,cfA hHeld.2.1,cfA hHeld.2.2.1,cfA hHeld.2.2.2⟩ (fun hHeld=>?_)
  clear hK K
  refine puA (i:=15) (N:=some 10) #[Y,Y,Y,Y,Y,Y,Y,Y,Y,Y,Y,Y,Y,Y,Y,Y] rfl rfl HT_ ?_
  refine cL (bX HT_.out (by kernel_rfl)) ?_
  have hnb48:=NB716_723.out
  obtain ⟨hcz49_0,hcz49_1,hcz49_2,hfz49_0,hfz49_1,hfz49_2⟩:=cz3 BK716
  try go_wp2
  refine bodyPost_ret (bC rfl _ _ gb716 25 #[.int .i64 0,.int .i64 0,.int .i64 0] (0,0) _ rfl (bpA BK716) Try.underlying25 rfl (by kernel_rfl)) rfl ?_
  exact bU blA
end Go.Proofs.Ytpihnmmoahplgaa.PAll
