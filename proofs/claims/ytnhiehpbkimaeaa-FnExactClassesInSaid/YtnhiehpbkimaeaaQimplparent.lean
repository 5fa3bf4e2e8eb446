-- turned out of the kit's print
import Derived.Test.YtnhiehpbkimaeaaQx
import Derived.Test.YtnhiehpbkimaeaaQimplBall38
import Derived.Test.YtnhiehpbkimaeaaQimplBall56
import Derived.Test.YtnhiehpbkimaeaaQimplmark
import Derived.Test.YtnhiehpbkimaeaaQspecl01Is
namespace Go.Proofs.Ytnhiehpbkimaeaa.PAll
open Go.RowKit Go.Proofs.YtnhiehpbkimaeaaW.PrintWords Go.Proofs.YtnhiehpbkimaeaaW.PrintLast Go.Proofs.YtnhiehpbkimaeaaW.PrintMore
attribute [local go_sem] Go.Proofs.Ytnhiehpbkimaeaa.Aux.setCell_drewN Go.Proofs.Ytnhiehpbkimaeaa.Aux.isSome_setCell max2_int min2_int max_two min_two max_three min_three max_four min_four
set_option linter.unusedVariables false
set_option linter.unusedSimpArgs false
def spec_l01Parent.f (k:Nat) (a0 a1_0 a1_1 a1_2:Int):Option (Int × Int × Int × Bool):=(spec_l01Power.f k a0 a1_2).bind fun t185=>((spec_l01Of.f k a0 a1_1 t185 (wrap64 (a1_0 - 1))).bind fun bt186=>(some (bt186.1,bt186.2.1,bt186.2.2.1,bt186.2.2.2)))
theorem spec_l01Parent.mono:∀ a0 a1 a2 a3 k,LeO (spec_l01Parent.f k a0 a1 a2 a3) (spec_l01Parent.f (k+1) a0 a1 a2 a3):=by
 intro a0 a1 a2 a3 k
 unfold spec_l01Parent.f
 repeat' first
   | with_reducible first|exact spec_l01Of.mono ..|exact spec_l01Power.mono ..|exact LeO.refl _|exact LeO.none _|refine LeO.ite ?_ ?_|refine LeO.bind ?_ fun _=>?_
def spec_l01Parent.T1:Bool × List (List Nat × List Nat):=(true,[([],[]),([],[]),([1],[1]),([],[]),([],[]),([4],[4]),([3,5],[3,5]),([],[]),([7],[7]),([8],[8]),([0,2,6,9,6],[0,2,6,9]),([10],[10]),([11],[11]),([11],[11]),([],[]),([14,12,10,0,1,2,3,4,5,6,7,8,9,10,11,12,14],[12,14]),([13,15,0,1,2,3,4,5,6,7,8,9,10,11,12,13,14,15],[13])])
def spec_l01Parent.B1:List Nat:=[0,0,2,0,0,16,56,0,128,384,1023,2047,4095,4095,0,24575,65535]
theorem spec_l01Parent.tab1:rtab .any (opsOf Try.f60 1)=spec_l01Parent.T1:=by kernel_rfl
theorem spec_l01Parent.bits1:waitsOk spec_l01Parent.T1.2 spec_l01Parent.B1=true:=by kernel_rfl
set_option maxHeartbeats 8000000 in
set_option maxRecDepth 100000 in
theorem spec_l01Parent.calls (k:Nat) (a0 a1_0 a1_1 a1_2 r1 r2 r3:Int) (r4:Bool) (w:World) (h:spec_l01Parent.f k a0 a1_0 a1_1 a1_2=some (r1,r2,r3,r4)) :
  Calls Try.prog 60 #[.int .i64 a0,.agg #[.int .i64 a1_0,.int .i64 a1_1,.int .i64 a1_2]] w fun e w'=>e=.returned (.tuple #[.agg #[.int .i64 r1,.int .i64 r2,.int .i64 r3],.bool r4])∧Below w.heap.size w w':=by
 have hu53:=Try.underlying53
 have HB:=Aside0.mk (Below.refl w.heap.size w)
 have H:=h
 unfold spec_l01Parent.f at H
 clear h
 replace H:=bS H
 obtain ⟨t185,A3,H⟩:=H
 try dsimp only at H
 replace H:=bS H
 obtain ⟨⟨t186,t187,t188,t189⟩,A4,H⟩:=H
 try dsimp only at H
 simp only [Option.some.injEq,Prod.mk.injEq] at H
 obtain ⟨rfl,rfl,rfl,rfl⟩:=H
 go_enter Try.func60,Try.ntmps60
 try go_wp2_with (first|((with_reducible refine gate_dst (N:=3) rfl ?_);refine bxE (cs:=#[.int .i64 a1_0,.int .i64 a1_1,.int .i64 a1_2]) (t:=53) ?_;intro gb183 hg w5 hbox hb;have n0_:=lB hb;have n1_:=Aside0.mk hbox;have n2_:=sA hg;have n3_:=sA hg;clear HB;have HB:=n0_;have BK183:=n1_;have GW183:=n2_;have GE183:=n3_;clear n0_ n1_ n2_ n3_;clear hb hbox hg)|((with_reducible refine gate_dst (N:=4) rfl ?_);refine bxE (cs:=#[.int .i64 0,.int .i64 0,.int .i64 0]) (t:=53) ?_;intro gb184 hg w6 hbox hb;have n0_:=kB BK183 hb;have n1_:=lB hb;have n2_:=Aside0.mk hbox;have n3_:=sA hg;have n4_:=sA hg;have n5_:=nA hg BK183;have n6_:=nB hg BK183;clear BK183;clear HB;have BK183:=n0_;have HB:=n1_;have BK184:=n2_;have GW184:=n3_;have GE184:=n4_;have NB183_184:=n5_;have NB184_183:=n6_;clear n0_ n1_ n2_ n3_ n4_ n5_ n6_;clear hb hbox hg))
 have n0_:=Aside0.mk (blk_drew BK183.out)
 have n1_:=Aside0.mk (blk_drew BK184.out)
 have n2_:=Aside0.mk (below_drew1 HB.out)
 clear BK183
 clear BK184
 clear HB
 have BK183:=n0_
 have BK184:=n1_
 have HB:=n2_
 clear n0_ n1_ n2_
 refine start_ (n:=17) (S:=fun w'=>w'.cell? ⟨gb183,0,none⟩=some (.int .i64 a1_0)∧w'.cell? ⟨gb183,1,none⟩=some (.int .i64 a1_1)∧w'.cell? ⟨gb183,2,none⟩=some (.int .i64 a1_2)) (ds:=[]) #[Z,Z,Z,Z,Z,Z,Z,Z,Z,Z,Z,Z,Z,Z,Z,Z,Z] (by kernel_rfl) rfl rfl ⟨cA BK183 0,cA BK183 1,cA BK183 2⟩ (fun hHeld=>?_);refine with_tabW spec_l01Parent.tab1 spec_l01Parent.bits1 (fun HT_ HW_=>?_)
 generalize w6.drew=w7 at BK183 BK184 HB hHeld ⊢
 refine puA (i:=0) (N:=some 9) #[Y,Z,Z,Z,Z,Z,Z,Z,Z,Z,Z,Z,Z,Z,Z,Z,Z] rfl rfl HT_ ?_
 refine puA (i:=1) (N:=some 10) #[Y,Y,Z,Z,Z,Z,Z,Z,Z,Z,Z,Z,Z,Z,Z,Z,Z] rfl rfl HT_ ?_
 refine puA (i:=3) (N:=some 12) #[Y,Y,Z,Y,Z,Z,Z,Z,Z,Z,Z,Z,Z,Z,Z,Z,Z] rfl rfl HT_ ?_
 refine puA (i:=4) (N:=some 13) #[Y,Y,Z,Y,Y,Z,Z,Z,Z,Z,Z,Z,Z,Z,Z,Z,Z] rfl rfl HT_ ?_
 refine puA (i:=7) (N:=some 16) #[Y,Y,Z,Y,Y,Z,Z,Y,Z,Z,Z,Z,Z,Z,Z,Z,Z] rfl rfl HT_ ?_
 refine taA (i:=2) (N:=some 11) #[Y,Y,Y,Y,Y,Z,Z,Y,Z,Z,Z,Z,Z,Z,Z,Z,Z] rfl rfl HT_ HW_ hHeld ?_
 refine taA (i:=5) (N:=some 14) #[Y,Y,Y,Y,Y,Y,Z,Y,Z,Z,Z,Z,Z,Z,Z,Z,Z] rfl rfl HT_ HW_ hHeld ?_
 refine taA (i:=8) (N:=some 17) #[Y,Y,Y,Y,Y,Y,Z,Y,Y,Z,Z,Z,Z,Z,Z,Z,Z] rfl rfl HT_ HW_ hHeld ?_
 refine puA (i:=9) (N:=some 18) #[Y,Y,Y,Y,Y,Y,Z,Y,Y,Y,Z,Z,Z,Z,Z,Z,Z] rfl rfl HT_ ?_
 refine join_ (σ:=Nat) 2 #[Y,Y,Y,Y,Y,Y,Y,Y,Y,Y,Y,Y,Y,Y,Y,Z,Z] (fun s_=>[(15,.int .i64 t185),(19,.tuple #[.agg #[.int .i64 t186,.int .i64 t187,.int .i64 t188],.bool t189]),(6,.pointer (some ⟨s_,0,none⟩)),(8,.tuple #[.agg #[.int .i64 t186,.int .i64 t187,.int .i64 t188],.bool t189]),(20,.agg #[.int .i64 t186,.int .i64 t187,.int .i64 t188]),(21,.bool t189)]) (fun s_ w'=>(w'.cell? ⟨gb183,0,none⟩=some (.int .i64 a1_0)∧w'.cell? ⟨gb183,1,none⟩=some (.int .i64 a1_1)∧w'.cell? ⟨gb183,2,none⟩=some (.int .i64 a1_2))∧(w'.heap[gb183]?=some (.cells #[.int .i64 a1_0,.int .i64 a1_1,.int .i64 a1_2] 53 (0,0)))∧(w'.heap[gb184]?=some (.cells #[.int .i64 0,.int .i64 0,.int .i64 0] 53 (0,0)))∧(w'.heap[s_]?=some (.cells #[.int .i64 0,.int .i64 0,.int .i64 0] 53 (0,0)))∧(w.heap.size≤s_)∧(w.heap.size≤s_)∧(gb183≠s_)∧(s_≠gb183)∧(gb184≠s_)∧(s_≠gb184)∧(Below w.heap.size w w')) ?_ ?_
 rotate_left
 ·
  intro hCont
  refine two_ (i:=6) (j:=14) (Ni:=some 15) (Nj:=some 6) #[Y,Y,Y,Y,Y,Y,Y,Y,Y,Y,Z,Z,Z,Z,Z,Z,Z] #[Y,Y,Y,Y,Y,Y,Z,Y,Y,Y,Z,Z,Z,Z,Y,Z,Z] rfl rfl rfl rfl (two_of HT_.out (by kernel_rfl)) (by decide) (by decide) (fun K hK=>?_) (fun K hK=>?_)
  ·
   skip
   refine goC Try.func41 (spec_l01Power.calls (w:=_) (h:=A3.out)) ?_
   rintro _ ⟨nd,rfl⟩
   refine hK.out _ _ ⟨cA BK183 0,cA BK183 1,cA BK183 2⟩ (fun hHeld=>?_)
   clear hK K
   refine nmA ?_
   refine two_ (i:=10) (j:=14) (Ni:=some 19) (Nj:=some 6) #[Y,Y,Y,Y,Y,Y,Y,Y,Y,Y,Y,Z,Z,Z,Z,Z,Z] #[Y,Y,Y,Y,Y,Y,Y,Y,Y,Y,Z,Z,Z,Z,Y,Z,Z] rfl rfl rfl rfl (two_of HT_.out (by kernel_rfl)) (by decide) (by decide) (fun K hK=>?_) (fun K hK=>?_)
   ·
    skip
    refine goC Try.func44 (spec_l01Of.calls (w:=_) (h:=A4.out)) ?_
    intro w8 hb
    replace BK183:=kB BK183 hb
    replace BK184:=kB BK184 hb
    replace HB:=lB hb
    (try clear hb)
    (try clear hb2)
    (try clear hk)
    (try clear hi)
    refine hK.out _ _ ⟨cA BK183 0,cA BK183 1,cA BK183 2⟩ (fun hHeld=>?_)
    clear hK K
    refine nmA ?_
    refine puA (i:=11) (N:=some 8) #[Y,Y,Y,Y,Y,Y,Y,Y,Y,Y,Y,Y,Z,Z,Z,Z,Z] rfl rfl HT_ ?_
    refine puA (i:=12) (N:=some 20) #[Y,Y,Y,Y,Y,Y,Y,Y,Y,Y,Y,Y,Y,Z,Z,Z,Z] rfl rfl HT_ ?_
    refine puA (i:=13) (N:=some 21) #[Y,Y,Y,Y,Y,Y,Y,Y,Y,Y,Y,Y,Y,Y,Z,Z,Z] rfl rfl HT_ ?_
    refine one_ (i:=14) (N:=some 6) #[Y,Y,Y,Y,Y,Y,Y,Y,Y,Y,Y,Y,Y,Y,Y,Z,Z] rfl rfl (one_of HT_.out (by kernel_rfl)) (by decide) (fun K hK=>?_)
    refine box_step ?hg (N:=6) ?hd (cs:=#[.int .i64 0,.int .i64 0,.int .i64 0]) (t:=53) ?hr ?_;(case hd=>rfl);(case hg=>rfl);(case hr=>first|(go_simp;done)|(go_simp;rfl))
    intro gb190 hg w9 hbox hb
    have BK190:=Aside0.mk hbox
    have GW190:=sA hg
    have GE190:=sA hg
    have NB183_190:=nA hg BK183
    have NB190_183:=nB hg BK183
    have NB184_190:=nA hg BK184
    have NB190_184:=nB hg BK184
    replace BK183:=kB BK183 hb
    replace BK184:=kB BK184 hb
    replace HB:=lB hb
    clear hb hbox hg
    refine hK.out _ _ ⟨cA BK183 0,cA BK183 1,cA BK183 2⟩ (fun hHeld=>?_)
    clear hK K
    refine nmA ?_
    exact norm_ (by simp only [putAll,Act.put,List.setIfInBounds_toArray,List.set_cons_zero,List.set_cons_succ]) (hCont (gb190) _ ⟨hHeld,(bkA BK183),(bkA BK184),(bkA BK190),GW190.out,GE190.out,NB183_190.out,NB190_183.out,NB184_190.out,NB190_184.out,blA⟩)
   ·
    skip
    refine box_step ?hg (N:=6) ?hd (cs:=#[.int .i64 0,.int .i64 0,.int .i64 0]) (t:=53) ?hr ?_;(case hd=>rfl);(case hg=>rfl);(case hr=>first|(go_simp;done)|(go_simp;rfl))
    intro gb190 hg w8 hbox hb
    have BK190:=Aside0.mk hbox
    have GW190:=sA hg
    have GE190:=sA hg
    have NB183_190:=nA hg BK183
    have NB190_183:=nB hg BK183
    have NB184_190:=nA hg BK184
    have NB190_184:=nB hg BK184
    replace BK183:=kB BK183 hb
    replace BK184:=kB BK184 hb
    replace HB:=lB hb
    clear hb hbox hg
    refine hK.out _ _ ⟨cA BK183 0,cA BK183 1,cA BK183 2⟩ (fun hHeld=>?_)
    clear hK K
    refine nmA ?_
    refine one_ (i:=10) (N:=some 19) #[Y,Y,Y,Y,Y,Y,Y,Y,Y,Y,Y,Z,Z,Z,Y,Z,Z] rfl rfl (one_of HT_.out (by kernel_rfl)) (by decide) (fun K hK=>?_)
    refine goC Try.func44 (spec_l01Of.calls (w:=_) (h:=A4.out)) ?_
    intro w9 hb
    replace BK183:=kB BK183 hb
    replace BK184:=kB BK184 hb
    replace BK190:=kB BK190 hb
    replace HB:=lB hb
    (try clear hb)
    (try clear hb2)
    (try clear hk)
    (try clear hi)
    refine hK.out _ _ ⟨cA BK183 0,cA BK183 1,cA BK183 2⟩ (fun hHeld=>?_)
    clear hK K
    refine nmA ?_
    refine puA (i:=11) (N:=some 8) #[Y,Y,Y,Y,Y,Y,Y,Y,Y,Y,Y,Y,Z,Z,Y,Z,Z] rfl rfl HT_ ?_
    refine puA (i:=12) (N:=some 20) #[Y,Y,Y,Y,Y,Y,Y,Y,Y,Y,Y,Y,Y,Z,Y,Z,Z] rfl rfl HT_ ?_
    refine puA (i:=13) (N:=some 21) #[Y,Y,Y,Y,Y,Y,Y,Y,Y,Y,Y,Y,Y,Y,Y,Z,Z] rfl rfl HT_ ?_
    exact norm_ (by simp only [putAll,Act.put,List.setIfInBounds_toArray,List.set_cons_zero,List.set_cons_succ]) (hCont (gb190) _ ⟨hHeld,(bkA BK183),(bkA BK184),(bkA BK190),GW190.out,GE190.out,NB183_190.out,NB190_183.out,NB184_190.out,NB190_184.out,blA⟩)
  ·
   skip
   refine box_step ?hg (N:=6) ?hd (cs:=#[.int .i64 0,.int .i64 0,.int .i64 0]) (t:=53) ?hr ?_;(case hd=>rfl);(case hg=>rfl);(case hr=>first|(go_simp;done)|(go_simp;rfl))
   intro gb190 hg w8 hbox hb
   have BK190:=Aside0.mk hbox
   have GW190:=sA hg
   have GE190:=sA hg
   have NB183_190:=nA hg BK183
   have NB190_183:=nB hg BK183
   have NB184_190:=nA hg BK184
   have NB190_184:=nB hg BK184
   replace BK183:=kB BK183 hb
   replace BK184:=kB BK184 hb
   replace HB:=lB hb
   clear hb hbox hg
   refine hK.out _ _ ⟨cA BK183 0,cA BK183 1,cA BK183 2⟩ (fun hHeld=>?_)
   clear hK K
   refine nmA ?_
   refine one_ (i:=6) (N:=some 15) #[Y,Y,Y,Y,Y,Y,Y,Y,Y,Y,Z,Z,Z,Z,Y,Z,Z] rfl rfl (one_of HT_.out (by kernel_rfl)) (by decide) (fun K hK=>?_)
   refine goC Try.func41 (spec_l01Power.calls (w:=_) (h:=A3.out)) ?_
   rintro _ ⟨nd,rfl⟩
   refine hK.out _ _ ⟨cA BK183 0,cA BK183 1,cA BK183 2⟩ (fun hHeld=>?_)
   clear hK K
   refine nmA ?_
   refine one_ (i:=10) (N:=some 19) #[Y,Y,Y,Y,Y,Y,Y,Y,Y,Y,Y,Z,Z,Z,Y,Z,Z] rfl rfl (one_of HT_.out (by kernel_rfl)) (by decide) (fun K hK=>?_)
   refine goC Try.func44 (spec_l01Of.calls (w:=_) (h:=A4.out)) ?_
   intro w9 hb
   replace BK183:=kB BK183 hb
   replace BK184:=kB BK184 hb
   replace BK190:=kB BK190 hb
   replace HB:=lB hb
   (try clear hb)
   (try clear hb2)
   (try clear hk)
   (try clear hi)
   refine hK.out _ _ ⟨cA BK183 0,cA BK183 1,cA BK183 2⟩ (fun hHeld=>?_)
   clear hK K
   refine nmA ?_
   refine puA (i:=11) (N:=some 8) #[Y,Y,Y,Y,Y,Y,Y,Y,Y,Y,Y,Y,Z,Z,Y,Z,Z] rfl rfl HT_ ?_
   refine puA (i:=12) (N:=some 20) #[Y,Y,Y,Y,Y,Y,Y,Y,Y,Y,Y,Y,Y,Z,Y,Z,Z] rfl rfl HT_ ?_
   refine puA (i:=13) (N:=some 21) #[Y,Y,Y,Y,Y,Y,Y,Y,Y,Y,Y,Y,Y,Y,Y,Z,Z] rfl rfl HT_ ?_
   exact norm_ (by simp only [putAll,Act.put,List.setIfInBounds_toArray,List.set_cons_zero,List.set_cons_succ]) (hCont (gb190) _ ⟨hHeld,(bkA BK183),(bkA BK184),(bkA BK190),GW190.out,GE190.out,NB183_190.out,NB190_183.out,NB184_190.out,NB190_184.out,blA⟩)
 rintro gb190 w10 ⟨hS_,h0_,h1_,h2_,h3_,h4_,h5_,h6_,h7_,h8_,h9_⟩
 have BK190:=Aside0.mk h2_
 have GW190:=Aside0.mk h3_
 have GE190:=Aside0.mk h4_
 have NB183_190:=Aside0.mk h5_
 have NB190_183:=Aside0.mk h6_
 have NB184_190:=Aside0.mk h7_
 have NB190_184:=Aside0.mk h8_
 replace BK183:=Aside0.mk h0_
 replace BK184:=Aside0.mk h1_
 replace HB:=Aside0.mk h9_
 clear h0_ h1_ h2_ h3_ h4_ h5_ h6_ h7_ h8_ h9_
 have hHeld:w10.cell? ⟨gb183,0,none⟩=some (.int .i64 a1_0)∧w10.cell? ⟨gb183,1,none⟩=some (.int .i64 a1_1)∧w10.cell? ⟨gb183,2,none⟩=some (.int .i64 a1_2):=hS_
 refine norm_ (a':=?_) ?_ ?_
 rotate_left
 ·
  simp only [putAll,Act.put,List.setIfInBounds_toArray,List.set_cons_zero,List.set_cons_succ]
  rfl
 refine one_ (i:=15) (N:=none) #[Y,Y,Y,Y,Y,Y,Y,Y,Y,Y,Y,Y,Y,Y,Y,Y,Z] rfl rfl (one_of HT_.out (by kernel_rfl)) (by decide) (fun K hK=>?_)
 have hs11:w10.cell? ⟨gb190,0,none⟩=some (.int .i64 0):=cA BK190 0
 have hfs11:=blk_frozen BK190.out 0
 have hns11_0:=NB183_190.out
 have hns11_1:=NB184_190.out
 have hms11_0:=NB190_183.out
 have hms11_1:=NB190_184.out
 have hs12:w10.cell? ⟨gb190,1,none⟩=some (.int .i64 0):=cA BK190 1
 have hfs12:=blk_frozen BK190.out 1
 have hns12_0:=NB183_190.out
 have hns12_1:=NB184_190.out
 have hms12_0:=NB190_183.out
 have hms12_1:=NB190_184.out
 have hs13:w10.cell? ⟨gb190,2,none⟩=some (.int .i64 0):=cA BK190 2
 have hfs13:=blk_frozen BK190.out 2
 have hns13_0:=NB183_190.out
 have hns13_1:=NB184_190.out
 have hms13_0:=NB190_183.out
 have hms13_1:=NB190_184.out
 refine skip_ (w1:=?_) (by rfl) rfl ?_ ?_
 rotate_left
 ·
  go_simp
  rfl
 refine hK.out _ _ ⟨cfA hHeld.1,cfA hHeld.2.1,cfA hHeld.2.2⟩ (fun hHeld=>?_)
 clear hK K
 refine puA (i:=16) (N:=some 7) #[Y,Y,Y,Y,Y,Y,Y,Y,Y,Y,Y,Y,Y,Y,Y,Y,Y] rfl rfl HT_ ?_
 refine done_ (done_of HT_.out (by kernel_rfl)) ?_
 have hnb14:=NB190_183.out
 have hnc14:=NB183_190.out
 have hnb15:=NB190_184.out
 have hnc15:=NB184_190.out
 obtain ⟨hcz16_0,hcz16_1,hcz16_2,hfz16_0,hfz16_1,hfz16_2⟩:=cz3 BK190
 have hnb17:=NB184_183.out
 have hnc17:=NB183_184.out
 obtain ⟨hcz18_0,hcz18_1,hcz18_2,hfz18_0,hfz18_1,hfz18_2⟩:=cz3 BK184
 try go_wp2
 refine bodyPost_ret (results_ct rfl _ _ gb184 53 #[.int .i64 t186,.int .i64 t187,.int .i64 t188] (0,0) _ rfl (bpA BK184) Try.underlying53 rfl (by kernel_rfl)) rfl ?_
 exact finA blA
def spec_l01Child.f (k:Nat) (a0 a1_0 a1_1 a1_2 a2:Int):Option (Int × Int × Int × Bool):=if a1_0=6 then (some (0,0,0,false)) else ((spec_l01Power.f k a0 a1_2).bind fun t193=>(if a1_0≥0 then ((spec_l01Power.f k a0 a1_0).bind fun t194=>((spec_l01Of.f k a0 (wrap64 (a1_1+(wrap64 ((wrap64 (a2*t193))*t194)))) t193 (wrap64 (a1_0+1))).bind fun bt195=>(some (bt195.1,bt195.2.1,bt195.2.2.1,bt195.2.2.2)))) else ((spec_l01Power.f k a0 (wrap64 (-a1_0))).bind fun t200=>(if t193=0 then (none) else ((spec_l01Power.f k a0 (wrap64 (-a1_0))).bind fun t201=>(if t201=0 then (none) else ((spec_l01Of.f k a0 (wrap64 ((wrap64 (a1_1*(wrap64 (Int.tdiv (mx t193 t200) t193))))+(wrap64 (a2*(wrap64 (Int.tdiv (mx t193 t200) t201)))))) (mx t193 t200) (wrap64 (a1_0+1))).bind fun bt202=>(some (bt202.1,bt202.2.1,bt202.2.2.1,bt202.2.2.2)))))))))
theorem spec_l01Child.mono:∀ a0 a1 a2 a3 a4 k,LeO (spec_l01Child.f k a0 a1 a2 a3 a4) (spec_l01Child.f (k+1) a0 a1 a2 a3 a4):=by
 intro a0 a1 a2 a3 a4 k
 unfold spec_l01Child.f
 repeat' first
   | with_reducible first|exact spec_l01Of.mono ..|exact spec_l01Power.mono ..|exact LeO.refl _|exact LeO.none _|refine LeO.ite ?_ ?_|refine LeO.bind ?_ fun _=>?_
set_option maxHeartbeats 8000000 in
set_option maxRecDepth 100000 in
theorem spec_l01Child.calls (k:Nat) (a0 a1_0 a1_1 a1_2 a2 r1 r2 r3:Int) (r4:Bool) (w:World) (h:spec_l01Child.f k a0 a1_0 a1_1 a1_2 a2=some (r1,r2,r3,r4)) :
  Calls Try.prog 71 #[.int .i64 a0,.agg #[.int .i64 a1_0,.int .i64 a1_1,.int .i64 a1_2],.int .i64 a2] w fun e w'=>e=.returned (.tuple #[.agg #[.int .i64 r1,.int .i64 r2,.int .i64 r3],.bool r4])∧Below w.heap.size w w':=by
 have hu53:=Try.underlying53
 have HB:=Aside0.mk (Below.refl w.heap.size w)
 have H:=h
 unfold spec_l01Child.f at H
 clear h
 by_cases c4:a1_0=6
 ·
  rw [if_pos c4] at H
  have c4b0:(a1_0 == 6)=true:=beq_iff_eq.mpr c4
  have c4b1:(a1_0 != 6)=false:=bne_eq_false_iff_eq.mpr c4
  clear c4
  simp only [Option.some.injEq,Prod.mk.injEq] at H
  obtain ⟨rfl,rfl,rfl,rfl⟩:=H
  go_enter Try.func71,Try.ntmps71
  go_wp2_with (first|((with_reducible refine gate_dst (N:=4) rfl ?_);refine bxE (cs:=#[.int .i64 a1_0,.int .i64 a1_1,.int .i64 a1_2]) (t:=53) ?_;intro gb191 hg w5 hbox hb;have BK191:=Aside0.mk hbox;have GW191:=sA hg;have GE191:=sA hg;replace HB:=lB hb;clear hb hbox hg)|((with_reducible refine gate_dst (N:=6) rfl ?_);refine bxE (cs:=#[.int .i64 0,.int .i64 0,.int .i64 0]) (t:=53) ?_;intro gb192 hg w6 hbox hb;have BK192:=Aside0.mk hbox;have GW192:=sA hg;have GE192:=sA hg;have NB191_192:=nA hg BK191;have NB192_191:=nB hg BK191;replace BK191:=kB BK191 hb;replace HB:=lB hb;clear hb hbox hg;have hnb7:=NB191_192.out;have hnc7:=NB192_191.out;obtain ⟨hcz8_0,hcz8_1,hcz8_2,hfz8_0,hfz8_1,hfz8_2⟩:=cz3 BK191;obtain ⟨hcz9_0,hcz9_1,hcz9_2,hfz9_0,hfz9_1,hfz9_2⟩:=cz3 BK192))
  repeat (go_quiet (first|((with_reducible refine gate_dst (N:=4) rfl ?_);refine bxE (cs:=#[.int .i64 a1_0,.int .i64 a1_1,.int .i64 a1_2]) (t:=53) ?_;intro gb191 hg w5 hbox hb;have BK191:=Aside0.mk hbox;have GW191:=sA hg;have GE191:=sA hg;replace HB:=lB hb;clear hb hbox hg)|((with_reducible refine gate_dst (N:=6) rfl ?_);refine bxE (cs:=#[.int .i64 0,.int .i64 0,.int .i64 0]) (t:=53) ?_;intro gb192 hg w6 hbox hb;have BK192:=Aside0.mk hbox;have GW192:=sA hg;have GE192:=sA hg;have NB191_192:=nA hg BK191;have NB192_191:=nB hg BK191;replace BK191:=kB BK191 hb;replace HB:=lB hb;clear hb hbox hg;have hnb7:=NB191_192.out;have hnc7:=NB192_191.out;obtain ⟨hcz8_0,hcz8_1,hcz8_2,hfz8_0,hfz8_1,hfz8_2⟩:=cz3 BK191;obtain ⟨hcz9_0,hcz9_1,hcz9_2,hfz9_0,hfz9_1,hfz9_2⟩:=cz3 BK192));try go_wp2_with (first|((with_reducible refine gate_dst (N:=4) rfl ?_);refine bxE (cs:=#[.int .i64 a1_0,.int .i64 a1_1,.int .i64 a1_2]) (t:=53) ?_;intro gb191 hg w5 hbox hb;have BK191:=Aside0.mk hbox;have GW191:=sA hg;have GE191:=sA hg;replace HB:=lB hb;clear hb hbox hg)|((with_reducible refine gate_dst (N:=6) rfl ?_);refine bxE (cs:=#[.int .i64 0,.int .i64 0,.int .i64 0]) (t:=53) ?_;intro gb192 hg w6 hbox hb;have BK192:=Aside0.mk hbox;have GW192:=sA hg;have GE192:=sA hg;have NB191_192:=nA hg BK191;have NB192_191:=nB hg BK191;replace BK191:=kB BK191 hb;replace HB:=lB hb;clear hb hbox hg;have hnb7:=NB191_192.out;have hnc7:=NB192_191.out;obtain ⟨hcz8_0,hcz8_1,hcz8_2,hfz8_0,hfz8_1,hfz8_2⟩:=cz3 BK191;obtain ⟨hcz9_0,hcz9_1,hcz9_2,hfz9_0,hfz9_1,hfz9_2⟩:=cz3 BK192)))
  refine bodyPost_ret (results_ct rfl _ _ gb192 53 #[.int .i64 0,.int .i64 0,.int .i64 0] (0,0) _ rfl (bpA BK192) Try.underlying53 rfl (by kernel_rfl)) rfl ?_
  exact finA blA
 ·
  rw [if_neg c4] at H
  have c4b0:(a1_0 == 6)=false:=beq_eq_false_iff_ne.mpr c4
  have c4b1:(a1_0 != 6)=true:=bne_iff_ne.mpr c4
  replace H:=bS H
  obtain ⟨t193,A10,H⟩:=H
  try dsimp only at H
  by_cases c11:a1_0≥0
  ·
   rw [if_pos c11] at H
   have c11b0:decide (0≤a1_0)=true:=decide_eq_true c11
   clear c11
   replace H:=bS H
   obtain ⟨t194,A12,H⟩:=H
   try dsimp only at H
   replace H:=bS H
   obtain ⟨⟨t195,t196,t197,t198⟩,A13,H⟩:=H
   try dsimp only at H
   simp only [Option.some.injEq,Prod.mk.injEq] at H
   obtain ⟨rfl,rfl,rfl,rfl⟩:=H
   go_enter Try.func71,Try.ntmps71
   go_wp2_with (first|((with_reducible refine gate_dst (N:=4) rfl ?_);refine bxE (cs:=#[.int .i64 a1_0,.int .i64 a1_1,.int .i64 a1_2]) (t:=53) ?_;intro gb191 hg w14 hbox hb;have BK191:=Aside0.mk hbox;have GW191:=sA hg;have GE191:=sA hg;replace HB:=lB hb;clear hb hbox hg)|((with_reducible refine gate_dst (N:=6) rfl ?_);refine bxE (cs:=#[.int .i64 0,.int .i64 0,.int .i64 0]) (t:=53) ?_;intro gb192 hg w15 hbox hb;have BK192:=Aside0.mk hbox;have GW192:=sA hg;have GE192:=sA hg;have NB191_192:=nA hg BK191;have NB192_191:=nB hg BK191;replace BK191:=kB BK191 hb;replace HB:=lB hb;clear hb hbox hg;have hnb16:=NB191_192.out;have hnc16:=NB192_191.out;obtain ⟨hcz17_0,hcz17_1,hcz17_2,hfz17_0,hfz17_1,hfz17_2⟩:=cz3 BK191)|(go_at_call 41;(with_reducible refine (spec_l01Power.calls k a0 a1_2 t193 _ A10.out).mono ?_);rintro e w' ⟨rfl,⟨nd,rfl⟩⟩;(try exact dd))|(go_at_call 41;(with_reducible refine (spec_l01Power.calls k a0 a1_0 t194 _ A12.out).mono ?_);rintro e w' ⟨rfl,⟨nd,rfl⟩⟩;(try exact dd))|(go_at_call 44;(with_reducible refine (spec_l01Of.calls k a0 (wrap64 (a1_1+(wrap64 ((wrap64 (a2*t193))*t194)))) t193 (wrap64 (a1_0+1)) t195 t196 t197 t198 _ A13.out).mono ?_);rintro e w18 ⟨rfl,hb⟩;replace BK191:=kB BK191 hb;replace BK192:=kB BK192 hb;replace HB:=lB hb;clear hb)|((with_reducible refine gate_dst (N:=11) rfl ?_);refine bxE (cs:=#[.int .i64 0,.int .i64 0,.int .i64 0]) (t:=53) ?_;intro gb199 hg w19 hbox hb;have BK199:=Aside0.mk hbox;have GW199:=sA hg;have GE199:=sA hg;have NB191_199:=nA hg BK191;have NB199_191:=nB hg BK191;have NB192_199:=nA hg BK192;have NB199_192:=nB hg BK192;replace BK191:=kB BK191 hb;replace BK192:=kB BK192 hb;replace HB:=lB hb;clear hb hbox hg;have hnb20:=NB199_191.out;have hnc20:=NB191_199.out;have hnb21:=NB199_192.out;have hnc21:=NB192_199.out;obtain ⟨hcz22_0,hcz22_1,hcz22_2,hfz22_0,hfz22_1,hfz22_2⟩:=cz3 BK199;obtain ⟨hcz23_0,hcz23_1,hcz23_2,hfz23_0,hfz23_1,hfz23_2⟩:=cz3 BK192))
   repeat (go_quiet (first|((with_reducible refine gate_dst (N:=4) rfl ?_);refine bxE (cs:=#[.int .i64 a1_0,.int .i64 a1_1,.int .i64 a1_2]) (t:=53) ?_;intro gb191 hg w14 hbox hb;have BK191:=Aside0.mk hbox;have GW191:=sA hg;have GE191:=sA hg;replace HB:=lB hb;clear hb hbox hg)|((with_reducible refine gate_dst (N:=6) rfl ?_);refine bxE (cs:=#[.int .i64 0,.int .i64 0,.int .i64 0]) (t:=53) ?_;intro gb192 hg w15 hbox hb;have BK192:=Aside0.mk hbox;have GW192:=sA hg;have GE192:=sA hg;have NB191_192:=nA hg BK191;have NB192_191:=nB hg BK191;replace BK191:=kB BK191 hb;replace HB:=lB hb;clear hb hbox hg;have hnb16:=NB191_192.out;have hnc16:=NB192_191.out;obtain ⟨hcz17_0,hcz17_1,hcz17_2,hfz17_0,hfz17_1,hfz17_2⟩:=cz3 BK191)|(go_at_call 41;(with_reducible refine (spec_l01Power.calls k a0 a1_2 t193 _ A10.out).mono ?_);rintro e w' ⟨rfl,⟨nd,rfl⟩⟩;(try exact dd))|(go_at_call 41;(with_reducible refine (spec_l01Power.calls k a0 a1_0 t194 _ A12.out).mono ?_);rintro e w' ⟨rfl,⟨nd,rfl⟩⟩;(try exact dd))|(go_at_call 44;(with_reducible refine (spec_l01Of.calls k a0 (wrap64 (a1_1+(wrap64 ((wrap64 (a2*t193))*t194)))) t193 (wrap64 (a1_0+1)) t195 t196 t197 t198 _ A13.out).mono ?_);rintro e w18 ⟨rfl,hb⟩;replace BK191:=kB BK191 hb;replace BK192:=kB BK192 hb;replace HB:=lB hb;clear hb)|((with_reducible refine gate_dst (N:=11) rfl ?_);refine bxE (cs:=#[.int .i64 0,.int .i64 0,.int .i64 0]) (t:=53) ?_;intro gb199 hg w19 hbox hb;have BK199:=Aside0.mk hbox;have GW199:=sA hg;have GE199:=sA hg;have NB191_199:=nA hg BK191;have NB199_191:=nB hg BK191;have NB192_199:=nA hg BK192;have NB199_192:=nB hg BK192;replace BK191:=kB BK191 hb;replace BK192:=kB BK192 hb;replace HB:=lB hb;clear hb hbox hg;have hnb20:=NB199_191.out;have hnc20:=NB191_199.out;have hnb21:=NB199_192.out;have hnc21:=NB192_199.out;obtain ⟨hcz22_0,hcz22_1,hcz22_2,hfz22_0,hfz22_1,hfz22_2⟩:=cz3 BK199;obtain ⟨hcz23_0,hcz23_1,hcz23_2,hfz23_0,hfz23_1,hfz23_2⟩:=cz3 BK192));try go_wp2_with (first|((with_reducible refine gate_dst (N:=4) rfl ?_);refine bxE (cs:=#[.int .i64 a1_0,.int .i64 a1_1,.int .i64 a1_2]) (t:=53) ?_;intro gb191 hg w14 hbox hb;have BK191:=Aside0.mk hbox;have GW191:=sA hg;have GE191:=sA hg;replace HB:=lB hb;clear hb hbox hg)|((with_reducible refine gate_dst (N:=6) rfl ?_);refine bxE (cs:=#[.int .i64 0,.int .i64 0,.int .i64 0]) (t:=53) ?_;intro gb192 hg w15 hbox hb;have BK192:=Aside0.mk hbox;have GW192:=sA hg;have GE192:=sA hg;have NB191_192:=nA hg BK191;have NB192_191:=nB hg BK191;replace BK191:=kB BK191 hb;replace HB:=lB hb;clear hb hbox hg;have hnb16:=NB191_192.out;have hnc16:=NB192_191.out;obtain ⟨hcz17_0,hcz17_1,hcz17_2,hfz17_0,hfz17_1,hfz17_2⟩:=cz3 BK191)|(go_at_call 41;(with_reducible refine (spec_l01Power.calls k a0 a1_2 t193 _ A10.out).mono ?_);rintro e w' ⟨rfl,⟨nd,rfl⟩⟩;(try exact dd))|(go_at_call 41;(with_reducible refine (spec_l01Power.calls k a0 a1_0 t194 _ A12.out).mono ?_);rintro e w' ⟨rfl,⟨nd,rfl⟩⟩;(try exact dd))|(go_at_call 44;(with_reducible refine (spec_l01Of.calls k a0 (wrap64 (a1_1+(wrap64 ((wrap64 (a2*t193))*t194)))) t193 (wrap64 (a1_0+1)) t195 t196 t197 t198 _ A13.out).mono ?_);rintro e w18 ⟨rfl,hb⟩;replace BK191:=kB BK191 hb;replace BK192:=kB BK192 hb;replace HB:=lB hb;clear hb)|((with_reducible refine gate_dst (N:=11) rfl ?_);refine bxE (cs:=#[.int .i64 0,.int .i64 0,.int .i64 0]) (t:=53) ?_;intro gb199 hg w19 hbox hb;have BK199:=Aside0.mk hbox;have GW199:=sA hg;have GE199:=sA hg;have NB191_199:=nA hg BK191;have NB199_191:=nB hg BK191;have NB192_199:=nA hg BK192;have NB199_192:=nB hg BK192;replace BK191:=kB BK191 hb;replace BK192:=kB BK192 hb;replace HB:=lB hb;clear hb hbox hg;have hnb20:=NB199_191.out;have hnc20:=NB191_199.out;have hnb21:=NB199_192.out;have hnc21:=NB192_199.out;obtain ⟨hcz22_0,hcz22_1,hcz22_2,hfz22_0,hfz22_1,hfz22_2⟩:=cz3 BK199;obtain ⟨hcz23_0,hcz23_1,hcz23_2,hfz23_0,hfz23_1,hfz23_2⟩:=cz3 BK192)))
   refine bodyPost_ret (results_ct rfl _ _ gb192 53 #[.int .i64 t195,.int .i64 t196,.int .i64 t197] (0,0) _ rfl (bpA BK192) Try.underlying53 rfl (by kernel_rfl)) rfl ?_
   exact finA blA
  ·
   rw [if_neg c11] at H
   have c11b0:decide (0≤a1_0)=false:=decide_eq_false c11
   clear c11
   replace H:=bS H
   obtain ⟨t200,A24,H⟩:=H
   try dsimp only at H
   obtain ⟨ji25,hji25⟩:∃ j_:Int,(mx t193 t200)=j_:=⟨_,rfl⟩
   replace H:(if t193=0 then (none) else ((spec_l01Power.f k a0 (wrap64 (-a1_0))).bind fun t201=>(if t201=0 then (none) else ((spec_l01Of.f k a0 (wrap64 ((wrap64 (a1_1*(wrap64 (Int.tdiv (ji25) t193))))+(wrap64 (a2*(wrap64 (Int.tdiv (ji25) t201)))))) (ji25) (wrap64 (a1_0+1))).bind fun bt202=>(some (bt202.1,bt202.2.1,bt202.2.2.1,bt202.2.2.2))))))=some (r1,r2,r3,r4):=by first|(rw [hji25] at H;exact H)|(simp only [hji25] at H ⊢;exact H)
   (try rw [hji25] at A10)
   (try rw [hji25] at A24)
   have hji25_:(if t193<t200 then t200 else t193)=ji25:=hji25
   by_cases c26:t193=0
   ·
    rw [if_pos c26] at H
    exact absurd H (by simp)
   rw [if_neg c26] at H
   have c26b0:(t193 == 0)=false:=beq_eq_false_iff_ne.mpr c26
   have c26b1:(t193 != 0)=true:=bne_iff_ne.mpr c26
   replace H:=bS H
   obtain ⟨t201,A27,H⟩:=H
   try dsimp only at H
   try (obtain rfl:t201=t200:=Option.some.inj (A27.out.symm.trans A24.out))
   by_cases c28:t201=0
   ·
    rw [if_pos c28] at H
    exact absurd H (by simp)
   rw [if_neg c28] at H
   have c28b0:(t201 == 0)=false:=beq_eq_false_iff_ne.mpr c28
   have c28b1:(t201 != 0)=true:=bne_iff_ne.mpr c28
   replace H:=bS H
   obtain ⟨⟨t202,t203,t204,t205⟩,A29,H⟩:=H
   try dsimp only at H
   simp only [Option.some.injEq,Prod.mk.injEq] at H
   obtain ⟨rfl,rfl,rfl,rfl⟩:=H
   go_enter Try.func71,Try.ntmps71
   go_wp2_with (first|((with_reducible refine gate_dst (N:=4) rfl ?_);refine bxE (cs:=#[.int .i64 a1_0,.int .i64 a1_1,.int .i64 a1_2]) (t:=53) ?_;intro gb191 hg w30 hbox hb;have BK191:=Aside0.mk hbox;have GW191:=sA hg;have GE191:=sA hg;replace HB:=lB hb;clear hb hbox hg)|((with_reducible refine gate_dst (N:=6) rfl ?_);refine bxE (cs:=#[.int .i64 0,.int .i64 0,.int .i64 0]) (t:=53) ?_;intro gb192 hg w31 hbox hb;have BK192:=Aside0.mk hbox;have GW192:=sA hg;have GE192:=sA hg;have NB191_192:=nA hg BK191;have NB192_191:=nB hg BK191;replace BK191:=kB BK191 hb;replace HB:=lB hb;clear hb hbox hg;have hnb32:=NB191_192.out;have hnc32:=NB192_191.out;obtain ⟨hcz33_0,hcz33_1,hcz33_2,hfz33_0,hfz33_1,hfz33_2⟩:=cz3 BK191)|(go_at_call 41;(with_reducible refine (spec_l01Power.calls k a0 a1_2 t193 _ A10.out).mono ?_);rintro e w' ⟨rfl,⟨nd,rfl⟩⟩;(try exact dd))|(go_at_call 41;(with_reducible refine (spec_l01Power.calls k a0 (wrap64 (-a1_0)) t200 _ A24.out).mono ?_);rintro e w' ⟨rfl,⟨nd,rfl⟩⟩;(try exact dd))|(go_at_call 41;(with_reducible refine (spec_l01Power.calls k a0 (wrap64 (-a1_0)) t201 _ A27.out).mono ?_);rintro e w' ⟨rfl,⟨nd,rfl⟩⟩;(try exact dd))|(go_at_call 44;(with_reducible refine (spec_l01Of.calls k a0 (wrap64 ((wrap64 (a1_1*(wrap64 (Int.tdiv (ji25) t193))))+(wrap64 (a2*(wrap64 (Int.tdiv (ji25) t201)))))) ji25 (wrap64 (a1_0+1)) t202 t203 t204 t205 _ A29.out).mono ?_);rintro e w34 ⟨rfl,hb⟩;replace BK191:=kB BK191 hb;replace BK192:=kB BK192 hb;replace HB:=lB hb;clear hb)|((with_reducible refine gate_dst (N:=11) rfl ?_);refine bxE (cs:=#[.int .i64 0,.int .i64 0,.int .i64 0]) (t:=53) ?_;intro gb206 hg w35 hbox hb;have BK206:=Aside0.mk hbox;have GW206:=sA hg;have GE206:=sA hg;have NB191_206:=nA hg BK191;have NB206_191:=nB hg BK191;have NB192_206:=nA hg BK192;have NB206_192:=nB hg BK192;replace BK191:=kB BK191 hb;replace BK192:=kB BK192 hb;replace HB:=lB hb;clear hb hbox hg;have hnb36:=NB206_191.out;have hnc36:=NB191_206.out;have hnb37:=NB206_192.out;have hnc37:=NB192_206.out;obtain ⟨hcz38_0,hcz38_1,hcz38_2,hfz38_0,hfz38_1,hfz38_2⟩:=cz3 BK206;obtain ⟨hcz39_0,hcz39_1,hcz39_2,hfz39_0,hfz39_1,hfz39_2⟩:=cz3 BK192))
   repeat (go_quiet (first|((with_reducible refine gate_dst (N:=4) rfl ?_);refine bxE (cs:=#[.int .i64 a1_0,.int .i64 a1_1,.int .i64 a1_2]) (t:=53) ?_;intro gb191 hg w30 hbox hb;have BK191:=Aside0.mk hbox;have GW191:=sA hg;have GE191:=sA hg;replace HB:=lB hb;clear hb hbox hg)|((with_reducible refine gate_dst (N:=6) rfl ?_);refine bxE (cs:=#[.int .i64 0,.int .i64 0,.int .i64 0]) (t:=53) ?_;intro gb192 hg w31 hbox hb;have BK192:=Aside0.mk hbox;have GW192:=sA hg;have GE192:=sA hg;have NB191_192:=nA hg BK191;have NB192_191:=nB hg BK191;replace BK191:=kB BK191 hb;replace HB:=lB hb;clear hb hbox hg;have hnb32:=NB191_192.out;have hnc32:=NB192_191.out;obtain ⟨hcz33_0,hcz33_1,hcz33_2,hfz33_0,hfz33_1,hfz33_2⟩:=cz3 BK191)|(go_at_call 41;(with_reducible refine (spec_l01Power.calls k a0 a1_2 t193 _ A10.out).mono ?_);rintro e w' ⟨rfl,⟨nd,rfl⟩⟩;(try exact dd))|(go_at_call 41;(with_reducible refine (spec_l01Power.calls k a0 (wrap64 (-a1_0)) t200 _ A24.out).mono ?_);rintro e w' ⟨rfl,⟨nd,rfl⟩⟩;(try exact dd))|(go_at_call 41;(with_reducible refine (spec_l01Power.calls k a0 (wrap64 (-a1_0)) t201 _ A27.out).mono ?_);rintro e w' ⟨rfl,⟨nd,rfl⟩⟩;(try exact dd))|(go_at_call 44;(with_reducible refine (spec_l01Of.calls k a0 (wrap64 ((wrap64 (a1_1*(wrap64 (Int.tdiv (ji25) t193))))+(wrap64 (a2*(wrap64 (Int.tdiv (ji25) t201)))))) ji25 (wrap64 (a1_0+1)) t202 t203 t204 t205 _ A29.out).mono ?_);rintro e w34 ⟨rfl,hb⟩;replace BK191:=kB BK191 hb;replace BK192:=kB BK192 hb;replace HB:=lB hb;clear hb)|((with_reducible refine gate_dst (N:=11) rfl ?_);refine bxE (cs:=#[.int .i64 0,.int .i64 0,.int .i64 0]) (t:=53) ?_;intro gb206 hg w35 hbox hb;have BK206:=Aside0.mk hbox;have GW206:=sA hg;have GE206:=sA hg;have NB191_206:=nA hg BK191;have NB206_191:=nB hg BK191;have NB192_206:=nA hg BK192;have NB206_192:=nB hg BK192;replace BK191:=kB BK191 hb;replace BK192:=kB BK192 hb;replace HB:=lB hb;clear hb hbox hg;have hnb36:=NB206_191.out;have hnc36:=NB191_206.out;have hnb37:=NB206_192.out;have hnc37:=NB192_206.out;obtain ⟨hcz38_0,hcz38_1,hcz38_2,hfz38_0,hfz38_1,hfz38_2⟩:=cz3 BK206;obtain ⟨hcz39_0,hcz39_1,hcz39_2,hfz39_0,hfz39_1,hfz39_2⟩:=cz3 BK192));try go_wp2_with (first|((with_reducible refine gate_dst (N:=4) rfl ?_);refine bxE (cs:=#[.int .i64 a1_0,.int .i64 a1_1,.int .i64 a1_2]) (t:=53) ?_;intro gb191 hg w30 hbox hb;have BK191:=Aside0.mk hbox;have GW191:=sA hg;have GE191:=sA hg;replace HB:=lB hb;clear hb hbox hg)|((with_reducible refine gate_dst (N:=6) rfl ?_);refine bxE (cs:=#[.int .i64 0,.int .i64 0,.int .i64 0]) (t:=53) ?_;intro gb192 hg w31 hbox hb;have BK192:=Aside0.mk hbox;have GW192:=sA hg;have GE192:=sA hg;have NB191_192:=nA hg BK191;have NB192_191:=nB hg BK191;replace BK191:=kB BK191 hb;replace HB:=lB hb;clear hb hbox hg;have hnb32:=NB191_192.out;have hnc32:=NB192_191.out;obtain ⟨hcz33_0,hcz33_1,hcz33_2,hfz33_0,hfz33_1,hfz33_2⟩:=cz3 BK191)|(go_at_call 41;(with_reducible refine (spec_l01Power.calls k a0 a1_2 t193 _ A10.out).mono ?_);rintro e w' ⟨rfl,⟨nd,rfl⟩⟩;(try exact dd))|(go_at_call 41;(with_reducible refine (spec_l01Power.calls k a0 (wrap64 (-a1_0)) t200 _ A24.out).mono ?_);rintro e w' ⟨rfl,⟨nd,rfl⟩⟩;(try exact dd))|(go_at_call 41;(with_reducible refine (spec_l01Power.calls k a0 (wrap64 (-a1_0)) t201 _ A27.out).mono ?_);rintro e w' ⟨rfl,⟨nd,rfl⟩⟩;(try exact dd))|(go_at_call 44;(with_reducible refine (spec_l01Of.calls k a0 (wrap64 ((wrap64 (a1_1*(wrap64 (Int.tdiv (ji25) t193))))+(wrap64 (a2*(wrap64 (Int.tdiv (ji25) t201)))))) ji25 (wrap64 (a1_0+1)) t202 t203 t204 t205 _ A29.out).mono ?_);rintro e w34 ⟨rfl,hb⟩;replace BK191:=kB BK191 hb;replace BK192:=kB BK192 hb;replace HB:=lB hb;clear hb)|((with_reducible refine gate_dst (N:=11) rfl ?_);refine bxE (cs:=#[.int .i64 0,.int .i64 0,.int .i64 0]) (t:=53) ?_;intro gb206 hg w35 hbox hb;have BK206:=Aside0.mk hbox;have GW206:=sA hg;have GE206:=sA hg;have NB191_206:=nA hg BK191;have NB206_191:=nB hg BK191;have NB192_206:=nA hg BK192;have NB206_192:=nB hg BK192;replace BK191:=kB BK191 hb;replace BK192:=kB BK192 hb;replace HB:=lB hb;clear hb hbox hg;have hnb36:=NB206_191.out;have hnc36:=NB191_206.out;have hnb37:=NB206_192.out;have hnc37:=NB192_206.out;obtain ⟨hcz38_0,hcz38_1,hcz38_2,hfz38_0,hfz38_1,hfz38_2⟩:=cz3 BK206;obtain ⟨hcz39_0,hcz39_1,hcz39_2,hfz39_0,hfz39_1,hfz39_2⟩:=cz3 BK192)))
   refine bodyPost_ret (results_ct rfl _ _ gb192 53 #[.int .i64 t202,.int .i64 t203,.int .i64 t204] (0,0) _ rfl (bpA BK192) Try.underlying53 rfl (by kernel_rfl)) rfl ?_
   exact ⟨by first|rfl|(simp [errW_none,errW_some] <;> rfl)|(simp only [← hji25];first|rfl|(simp [errW_none,errW_some] <;> rfl))|(simp [*,errW_none,errW_some] <;> rfl),blA⟩
def spec_l02Join.f (k:Nat) (a0 a1_0 a1_1 a1_2 a2_0 a2_1 a2_2:Int):Option (Int):=(spec_l02Valuation.f k a0 a1_0 a1_1 a1_2 a2_0 a2_1 a2_2).bind fun bt242=>(if bt242.2=true then (some (mn (mn a1_0 a2_0) bt242.1)) else (some (mn a1_0 a2_0)))
theorem spec_l02Join.mono:∀ a0 a1 a2 a3 a4 a5 a6 k,LeO (spec_l02Join.f k a0 a1 a2 a3 a4 a5 a6) (spec_l02Join.f (k+1) a0 a1 a2 a3 a4 a5 a6):=by
 intro a0 a1 a2 a3 a4 a5 a6 k
 unfold spec_l02Join.f
 repeat' first
   | with_reducible first|exact spec_l02Valuation.mono ..|exact LeO.refl _|exact LeO.none _|refine LeO.ite ?_ ?_|refine LeO.bind ?_ fun _=>?_
set_option maxHeartbeats 8000000 in
set_option maxRecDepth 100000 in
theorem spec_l02Join.calls (k:Nat) (a0 a1_0 a1_1 a1_2 a2_0 a2_1 a2_2 r:Int) (w:World) (h:spec_l02Join.f k a0 a1_0 a1_1 a1_2 a2_0 a2_1 a2_2=some r) :
  Calls Try.prog 62 #[.int .i64 a0,.agg #[.int .i64 a1_0,.int .i64 a1_1,.int .i64 a1_2],.agg #[.int .i64 a2_0,.int .i64 a2_1,.int .i64 a2_2]] w fun e w'=>e=.returned (.int .i64 r)∧Below w.heap.size w w':=by
 have hu53:=Try.underlying53
 have HB:=Aside0.mk (Below.refl w.heap.size w)
 have H:=h
 unfold spec_l02Join.f at H
 clear h
 obtain ⟨ji4,hji4⟩:∃ j_:Int,(mn a1_0 a2_0)=j_:=⟨_,rfl⟩
 replace H:((spec_l02Valuation.f k a0 a1_0 a1_1 a1_2 a2_0 a2_1 a2_2).bind fun bt242=>(if bt242.2=true then (some (mn (ji4) bt242.1)) else (some ji4)))=some r:=by first|(rw [hji4] at H;exact H)|(simp only [hji4] at H ⊢;exact H)
 have hji4_:(if a2_0<a1_0 then a2_0 else a1_0)=ji4:=hji4
 replace H:=bS H
 obtain ⟨⟨t242,t243⟩,A5,H⟩:=H
 try dsimp only at H
 by_cases c6:t243=true
 focus
  subst c6
  rw [if_pos rfl] at H
  try dsimp only at H
  obtain ⟨ji7,hji7⟩:∃ j_:Int,(mn (ji4) t242)=j_:=⟨_,rfl⟩
  replace H:(some ji7)=some r:=by first|(rw [hji7] at H;exact H)|(simp only [hji7] at H ⊢;exact H)
  (try rw [hji7] at A5)
  have hji7_:(if t242<(ji4) then t242 else (ji4))=ji7:=hji7
  obtain rfl:=Option.some.inj H
 rotate_left
 focus
  replace c6:=Bool.eq_false_iff.mpr c6
  subst c6
  rw [if_neg (show ¬ (false=true) by decide)] at H
  try dsimp only at H
  obtain rfl:=Option.some.inj H
 rotate_left
 all_goals
  go_enter Try.func62,Try.ntmps62
  go_wp2_with (first|((with_reducible refine gate_dst (N:=4) rfl ?_);refine bxE (cs:=#[.int .i64 a1_0,.int .i64 a1_1,.int .i64 a1_2]) (t:=53) ?_;intro gb240 hg w8 hbox hb;have BK240:=Aside0.mk hbox;have GW240:=sA hg;have GE240:=sA hg;replace HB:=lB hb;clear hb hbox hg)|((with_reducible refine gate_dst (N:=5) rfl ?_);refine bxE (cs:=#[.int .i64 a2_0,.int .i64 a2_1,.int .i64 a2_2]) (t:=53) ?_;intro gb241 hg w9 hbox hb;have BK241:=Aside0.mk hbox;have GW241:=sA hg;have GE241:=sA hg;have NB240_241:=nA hg BK240;have NB241_240:=nB hg BK240;replace BK240:=kB BK240 hb;replace HB:=lB hb;clear hb hbox hg;have hnb10:=NB240_241.out;have hnc10:=NB241_240.out;obtain ⟨hcz11_0,hcz11_1,hcz11_2,hfz11_0,hfz11_1,hfz11_2⟩:=cz3 BK240;obtain ⟨hcz12_0,hcz12_1,hcz12_2,hfz12_0,hfz12_1,hfz12_2⟩:=cz3 BK241)|((with_reducible refine gd 19 rfl ?_);refine gC (some 19) rfl Try.func72 (spec_l02Valuation.calls (w:=_) (h:=A5.out)) ?_;intro w13 hb;replace BK240:=kB BK240 hb;replace BK241:=kB BK241 hb;replace HB:=lB hb;clear hb))
 ·
  go_ret
  exact ⟨by first|rfl|(simp [errW_none,errW_some] <;> rfl)|(simp only [← hji4,← hji7];first|rfl|(simp [errW_none,errW_some] <;> rfl))|(simp [*,errW_none,errW_some] <;> rfl),blA⟩
 ·
  go_ret
  exact ⟨by first|rfl|(simp [errW_none,errW_some] <;> rfl)|(simp only [← hji4];first|rfl|(simp [errW_none,errW_some] <;> rfl))|(simp [*,errW_none,errW_some] <;> rfl),blA⟩
def impl_areMatrices.l0:Nat→List (S42)→Int→Int→Option (Bool)
 | 0,_,_,_=>none
 | k+1,x5,x6,x7=>if x7<x6 then (if 0≤x7 then (if x7<(x5.length:Int) then ((impl_IsMatrix.f k ((rd_T42 x5 x7).f0.f0) ((rd_T42 x5 x7).f0.f1) ((rd_T42 x5 x7).f1.f0) ((rd_T42 x5 x7).f1.f1)).bind fun t309=>(if t309=true then (impl_areMatrices.l0 k x5 x6 (wrap64 (x7+1))) else (some false))) else (none)) else (none)) else (some true)
def impl_areMatrices.f (k:Nat) (l0:List (S42)):Option (Bool):=impl_areMatrices.l0 k l0 (l0.length:Int) 0
theorem impl_areMatrices.mono_l:∀ k,(∀ y0 y1 y2,LeO (impl_areMatrices.l0 k y0 y1 y2) (impl_areMatrices.l0 (k+1) y0 y1 y2))
 | 0=>fun _ _ _ r h=>by simp [impl_areMatrices.l0] at h
 | k+1=>by
  have ih0:=impl_areMatrices.mono_l k
  ·
   intro y0 y1 y2
   unfold impl_areMatrices.l0
   repeat' first
   | with_reducible first|exact ih0 ..|exact impl_IsMatrix.mono ..|exact LeO.refl _|exact LeO.none _|refine LeO.ite ?_ ?_|refine LeO.bind ?_ fun _=>?_
theorem impl_areMatrices.mono:∀ a0 k,LeO (impl_areMatrices.f k a0) (impl_areMatrices.f (k+1) a0):=by
 intro a0 k
 have ih0:=impl_areMatrices.mono_l k
 unfold impl_areMatrices.f
 repeat' first
   | with_reducible first|exact ih0 ..|exact impl_IsMatrix.mono ..|exact LeO.refl _|exact LeO.none _|refine LeO.ite ?_ ?_|refine LeO.bind ?_ fun _=>?_
set_option maxHeartbeats 8000000 in
set_option maxRecDepth 100000 in
theorem impl_areMatrices.calls (k:Nat) (A0:Option Addr) (c0:Nat) (l0:List (S42)) (r:Bool) (w:World) (hr0:Kd.C k42 w A0 l0.length l0) (hc0:l0.length≤c0) (h:impl_areMatrices.f k l0=some r) :
  Calls Try.prog 48 #[.slice A0 l0.length c0] w fun e w'=>e=.returned (.bool r)∧Below w.heap.size w w':=by
 have hu42:=Try.underlying42
 have HR0:=Aside0.mk hr0
 have HC0:=Aside0.mk hc0
 clear hr0 hc0
 have HB:=Aside0.mk (Below.refl w.heap.size w)
 have H:=h
 unfold impl_areMatrices.f at H
 clear h
 have H':=Aside0.mk H
 clear H
 go_enter Try.func48,Try.ntmps48
 go_wp2
 go_loopg [7] k (fun kq v7 w'=>∃ (x7_1:Int),v7=.int .i64 x7_1∧Aside0 (impl_areMatrices.l0 kq l0 (l0.length:Int) x7_1=some r)∧Aside0 (kq≤k)∧Aside0 (Below w.heap.size w w'))
 case atStart=>exact ⟨(0),hB,H',⟨Nat.le_refl _⟩,⟨blA⟩⟩
 case round=>
  clear H'
  obtain ⟨x7_1,rfl,HA,HK1,HB⟩:=hrel
  cases gk with
  | zero=>exact absurd HA.out (by simp [impl_areMatrices.l0])
  | succ k1=>
   have H:=HA.out
   clear HA
   simp only [impl_areMatrices.l0] at H
   by_cases c2:x7_1<(l0.length:Int)
   ·
    rw [if_pos c2] at H
    have c2b0:=decide_eq_true c2
    clear c2
    by_cases c3:0≤x7_1
    rotate_left
    ·
     rw [if_neg c3] at H
     exact absurd H (by simp)
    rw [if_pos c3] at H
    have c3b0:=decide_eq_true c3
    clear c3
    by_cases c4:x7_1<(l0.length:Int)
    rotate_left
    ·
     rw [if_neg c4] at H
     exact absurd H (by simp)
    rw [if_pos c4] at H
    have c4b0:=decide_eq_true c4
    clear c4
    replace H:=bS H
    obtain ⟨t309,A5,H⟩:=H
    try dsimp only at H
    by_cases c6:t309=true
    focus
     subst c6
     rw [if_pos rfl] at H
     try dsimp only at H
     have H':=Aside0.mk H
     clear H
     have p307:0≤(x7_1:Int):=dA
     have q307:x7_1<(l0.length:Int):=dA
     obtain ⟨ad307,e307,hx307_0,hx307_1,hx307_2,hx307_3⟩:=at_T42 HR0.out x7_1 p307 q307
     cases e307
     replace hx307_0:=(HB.out.cell (World.block_lt_of_cell? w _ hx307_0)).trans hx307_0
     replace hx307_1:=(HB.out.cell (World.block_lt_of_cell? w _ hx307_1)).trans hx307_1
     replace hx307_2:=(HB.out.cell (World.block_lt_of_cell? w _ hx307_2)).trans hx307_2
     replace hx307_3:=(HB.out.cell (World.block_lt_of_cell? w _ hx307_3)).trans hx307_3
     replace p307:=eq_true p307
     replace q307:=eq_true q307
    rotate_left
    focus
     replace c6:=Bool.eq_false_iff.mpr c6
     subst c6
     rw [if_neg (show ¬ (false=true) by decide)] at H
     try dsimp only at H
     obtain rfl:=Option.some.inj H
     have p307:0≤(x7_1:Int):=dA
     have q307:x7_1<(l0.length:Int):=dA
     obtain ⟨ad307,e307,hx307_0,hx307_1,hx307_2,hx307_3⟩:=at_T42 HR0.out x7_1 p307 q307
     cases e307
     replace hx307_0:=(HB.out.cell (World.block_lt_of_cell? w _ hx307_0)).trans hx307_0
     replace hx307_1:=(HB.out.cell (World.block_lt_of_cell? w _ hx307_1)).trans hx307_1
     replace hx307_2:=(HB.out.cell (World.block_lt_of_cell? w _ hx307_2)).trans hx307_2
     replace hx307_3:=(HB.out.cell (World.block_lt_of_cell? w _ hx307_3)).trans hx307_3
     replace p307:=eq_true p307
     replace q307:=eq_true q307
    rotate_left
    all_goals
     go_wp2_with (first|((with_reducible refine gate_dst (N:=4) rfl ?_);refine bxE (cs:=#[.int .i64 0,.int .i64 0,.int .i64 0,.int .i64 0]) (t:=42) ?_;intro gb308 hg w7 hbox hb;have BK308:=Aside0.mk hbox;have GW308:=sA hg;have GE308:=sA hg;replace HB:=lB hb;clear hb hbox hg;obtain ⟨hcz8_0,hcz8_1,hcz8_2,hcz8_3,hfz8_0,hfz8_1,hfz8_2,hfz8_3⟩:=cz4 BK308)|((with_reducible refine gd 12 rfl ?_);refine gC (some 12) rfl Try.func63 (impl_IsMatrix.calls (w:=_) (h:=A5.out)) ?_;intro w9 hb;have n0_:=Aside0.mk (blk_below (g:=gb308) (o:=.cells #[.int .i64 ((rd_T42 l0 x7_1).f0.f0),.int .i64 ((rd_T42 l0 x7_1).f0.f1),.int .i64 ((rd_T42 l0 x7_1).f1.f0),.int .i64 ((rd_T42 l0 x7_1).f1.f1)] 42 (0,0)) (bpA BK308) hb);have n1_:=lB hb;clear BK308;clear HB;have BK308:=n0_;have HB:=n1_;clear n0_ n1_;clear hb))
    ·
     go_roundg k1
     case measure=>have:=HK1.out;omega
     case rel=>exact ⟨(wrap64 (x7_1+1)),hB,H',⟨by have:=HK1.out;omega⟩,⟨blA⟩⟩
    ·
     go_ret
     exact finA blA
   ·
    rw [if_neg c2] at H
    have c2b0:=decide_eq_false c2
    clear c2
    obtain rfl:=Option.some.inj H
    go_wp2
    go_ret
    exact finA blA
def impl_times.f (k:Nat) (a0 a1 a2:Int):Option (Int):=(impl_mod.f a0 a2).bind fun t317=>((impl_mod.f a1 a2).bind fun t318=>((bits_Mul64.f (IntKind.u64.wrap (t317)) (IntKind.u64.wrap (t318))).bind fun bt319=>(if (IntKind.u64.wrap (a2))=0 then (none) else ((bits_Div64.f k (Int.tmod bt319.1 (IntKind.u64.wrap (a2))) bt319.2 (IntKind.u64.wrap (a2))).bind fun bt321=>(some (wrap64 (bt321.2)))))))
theorem impl_times.mono:∀ a0 a1 a2 k,LeO (impl_times.f k a0 a1 a2) (impl_times.f (k+1) a0 a1 a2):=by
 intro a0 a1 a2 k
 unfold impl_times.f
 repeat' first
   | with_reducible first|exact bits_Div64.mono ..|exact LeO.refl _|exact LeO.none _|refine LeO.ite ?_ ?_|refine LeO.bind ?_ fun _=>?_
set_option maxHeartbeats 8000000 in
set_option maxRecDepth 100000 in
theorem impl_times.calls (k:Nat) (a0 a1 a2 r:Int) (w:World) (h:impl_times.f k a0 a1 a2=some r) :
  Calls Try.prog 65 #[.int .i64 a0,.int .i64 a1,.int .i64 a2] w fun e w'=>e=.returned (.int .i64 r)∧Drawn0 w w':=by
 have H:=h
 unfold impl_times.f at H
 clear h
 replace H:=bS H
 obtain ⟨t317,A4,H⟩:=H
 try dsimp only at H
 replace H:=bS H
 obtain ⟨t318,A5,H⟩:=H
 try dsimp only at H
 replace H:=bS H
 obtain ⟨⟨t319,t320⟩,A6,H⟩:=H
 try dsimp only at H
 by_cases c7:(IntKind.u64.wrap (a2))=0
 ·
  rw [if_pos c7] at H
  exact absurd H (by simp)
 rw [if_neg c7] at H
 have c7b0:((IntKind.u64.wrap (a2)) == 0)=false:=beq_eq_false_iff_ne.mpr c7
 have c7b1:((IntKind.u64.wrap (a2)) != 0)=true:=bne_iff_ne.mpr c7
 replace H:=bS H
 obtain ⟨⟨t321,t322⟩,A8,H⟩:=H
 try dsimp only at H
 obtain rfl:=Option.some.inj H
 go_enter Try.func65,Try.ntmps65
 go_wp2_with (first|((with_reducible refine gd 14 rfl ?_);refine gC (some 14) rfl Try.func75 (impl_mod.calls (w:=_) (h:=A4.out)) ?_;rintro _ ⟨nd,rfl⟩)|((with_reducible refine gd 18 rfl ?_);refine gC (some 18) rfl Try.func75 (impl_mod.calls (w:=_) (h:=A5.out)) ?_;rintro _ ⟨nd,rfl⟩)|((with_reducible refine gd 20 rfl ?_);refine gC (some 20) rfl Try.func74 (bits_Mul64.calls (w:=_) (h:=A6.out)) ?_;rintro _ ⟨nd,rfl⟩)|((with_reducible refine gd 31 rfl ?_);refine gC (some 31) rfl Try.func76 (bits_Div64.calls (w:=_) (h:=A8.out)) ?_;rintro _ ⟨nd,rfl⟩))
 go_ret
 exact ⟨by first|rfl|(simp;done)|(simp [*];done),by repeat (first|exact Drawn0.refl _|apply Drawn0.step)⟩
def impl_parent.f (k:Nat) (a0 a1_0 a1_1 a1_2:Int):Option (Int × Int × Int × Bool):=(impl_mark.f k a0 a1_0 a1_1 a1_2).bind fun t418=>((impl_ofMark.f k a0 (wrap64 (a1_0 - 1)) t418).bind fun bt419=>(some (bt419.1,bt419.2.1,bt419.2.2.1,bt419.2.2.2)))
theorem impl_parent.mono:∀ a0 a1 a2 a3 k,LeO (impl_parent.f k a0 a1 a2 a3) (impl_parent.f (k+1) a0 a1 a2 a3):=by
 intro a0 a1 a2 a3 k
 unfold impl_parent.f
 repeat' first
   | with_reducible first|exact impl_mark.mono ..|exact impl_ofMark.mono ..|exact LeO.refl _|exact LeO.none _|refine LeO.ite ?_ ?_|refine LeO.bind ?_ fun _=>?_
def impl_parent.T1:Bool × List (List Nat × List Nat):=(true,[([],[]),([],[]),([1],[1]),([2],[2]),([],[]),([],[]),([4,5],[4,5]),([0,3,6,6],[0,3,6]),([7],[7]),([7],[7]),([8,7,0,1,2,3,4,5,6,7,8,9],[8]),([9,10,0,1,2,3,4,5,6,7,8,9,10],[9])])
def impl_parent.B1:List Nat:=[0,0,2,6,0,0,48,127,255,255,1023,2047]
theorem impl_parent.tab1:rtab .any (opsOf Try.f77 1)=impl_parent.T1:=by kernel_rfl
theorem impl_parent.bits1:waitsOk impl_parent.T1.2 impl_parent.B1=true:=by kernel_rfl
set_option maxHeartbeats 8000000 in
set_option maxRecDepth 100000 in
theorem impl_parent.calls (k:Nat) (a0 a1_0 a1_1 a1_2 r1 r2 r3:Int) (r4:Bool) (w:World) (h:impl_parent.f k a0 a1_0 a1_1 a1_2=some (r1,r2,r3,r4)) :
  Calls Try.prog 77 #[.int .i64 a0,.agg #[.int .i64 a1_0,.int .i64 a1_1,.int .i64 a1_2]] w fun e w'=>e=.returned (.tuple #[.agg #[.int .i64 r1,.int .i64 r2,.int .i64 r3],.bool r4])∧Below w.heap.size w w':=by
 have hu53:=Try.underlying53
 have HB:=Aside0.mk (Below.refl w.heap.size w)
 have H:=h
 unfold impl_parent.f at H
 clear h
 replace H:=bS H
 obtain ⟨t418,A3,H⟩:=H
 try dsimp only at H
 replace H:=bS H
 obtain ⟨⟨t419,t420,t421,t422⟩,A4,H⟩:=H
 try dsimp only at H
 simp only [Option.some.injEq,Prod.mk.injEq] at H
 obtain ⟨rfl,rfl,rfl,rfl⟩:=H
 go_enter Try.func77,Try.ntmps77
 try go_wp2_with (first|((with_reducible refine gate_dst (N:=3) rfl ?_);refine bxE (cs:=#[.int .i64 a1_0,.int .i64 a1_1,.int .i64 a1_2]) (t:=53) ?_;intro gb416 hg w5 hbox hb;have n0_:=lB hb;have n1_:=Aside0.mk hbox;have n2_:=sA hg;have n3_:=sA hg;clear HB;have HB:=n0_;have BK416:=n1_;have GW416:=n2_;have GE416:=n3_;clear n0_ n1_ n2_ n3_;clear hb hbox hg)|((with_reducible refine gate_dst (N:=4) rfl ?_);refine bxE (cs:=#[.int .i64 0,.int .i64 0,.int .i64 0]) (t:=53) ?_;intro gb417 hg w6 hbox hb;have n0_:=kB BK416 hb;have n1_:=lB hb;have n2_:=Aside0.mk hbox;have n3_:=sA hg;have n4_:=sA hg;have n5_:=nA hg BK416;have n6_:=nB hg BK416;clear BK416;clear HB;have BK416:=n0_;have HB:=n1_;have BK417:=n2_;have GW417:=n3_;have GE417:=n4_;have NB416_417:=n5_;have NB417_416:=n6_;clear n0_ n1_ n2_ n3_ n4_ n5_ n6_;clear hb hbox hg))
 have n0_:=Aside0.mk (blk_drew BK416.out)
 have n1_:=Aside0.mk (blk_drew BK417.out)
 have n2_:=Aside0.mk (below_drew1 HB.out)
 clear BK416
 clear BK417
 clear HB
 have BK416:=n0_
 have BK417:=n1_
 have HB:=n2_
 clear n0_ n1_ n2_
 refine start_ (n:=12) (S:=fun w'=>w'.cell? ⟨gb416,0,none⟩=some (.int .i64 a1_0)∧w'.cell? ⟨gb416,1,none⟩=some (.int .i64 a1_1)∧w'.cell? ⟨gb416,2,none⟩=some (.int .i64 a1_2)) (ds:=[]) #[Z,Z,Z,Z,Z,Z,Z,Z,Z,Z,Z,Z] (by kernel_rfl) rfl rfl ⟨cA BK416 0,cA BK416 1,cA BK416 2⟩ (fun hHeld=>?_);refine with_tabW impl_parent.tab1 impl_parent.bits1 (fun HT_ HW_=>?_)
 generalize w6.drew=w7 at BK416 BK417 HB hHeld ⊢
 refine puA (i:=0) (N:=some 6) #[Y,Z,Z,Z,Z,Z,Z,Z,Z,Z,Z,Z] rfl rfl HT_ ?_
 refine puA (i:=1) (N:=some 7) #[Y,Y,Z,Z,Z,Z,Z,Z,Z,Z,Z,Z] rfl rfl HT_ ?_
 refine puA (i:=4) (N:=some 10) #[Y,Y,Z,Z,Y,Z,Z,Z,Z,Z,Z,Z] rfl rfl HT_ ?_
 refine taA (i:=2) (N:=some 8) #[Y,Y,Y,Z,Y,Z,Z,Z,Z,Z,Z,Z] rfl rfl HT_ HW_ hHeld ?_
 refine puA (i:=3) (N:=some 9) #[Y,Y,Y,Y,Y,Z,Z,Z,Z,Z,Z,Z] rfl rfl HT_ ?_
 refine taA (i:=5) (N:=some 11) #[Y,Y,Y,Y,Y,Y,Z,Z,Z,Z,Z,Z] rfl rfl HT_ HW_ hHeld ?_
 refine one_ (i:=6) (N:=some 12) #[Y,Y,Y,Y,Y,Y,Y,Z,Z,Z,Z,Z] rfl rfl (one_of HT_.out (by kernel_rfl)) (by decide) (fun K hK=>?_)
 refine goC Try.func49 (impl_mark.calls (w:=_) (h:=A3.out)) ?_
 intro w8 hb
 replace BK416:=kB BK416 hb
 replace BK417:=kB BK417 hb
 replace HB:=lB hb
 (try clear hb)
 (try clear hb2)
 (try clear hk)
 (try clear hi)
 refine hK.out _ _ ⟨cA BK416 0,cA BK416 1,cA BK416 2⟩ (fun hHeld=>?_)
 clear hK K
 refine nmA ?_
 refine one_ (i:=7) (N:=some 13) #[Y,Y,Y,Y,Y,Y,Y,Y,Z,Z,Z,Z] rfl rfl (one_of HT_.out (by kernel_rfl)) (by decide) (fun K hK=>?_)
 refine goC Try.func68 (impl_ofMark.calls (w:=_) (h:=A4.out)) ?_
 intro w9 hb
 replace BK416:=kB BK416 hb
 replace BK417:=kB BK417 hb
 replace HB:=lB hb
 (try clear hb)
 (try clear hb2)
 (try clear hk)
 (try clear hi)
 refine hK.out _ _ ⟨cA BK416 0,cA BK416 1,cA BK416 2⟩ (fun hHeld=>?_)
 clear hK K
 refine nmA ?_
 refine puA (i:=8) (N:=some 14) #[Y,Y,Y,Y,Y,Y,Y,Y,Y,Z,Z,Z] rfl rfl HT_ ?_
 refine puA (i:=9) (N:=some 15) #[Y,Y,Y,Y,Y,Y,Y,Y,Y,Y,Z,Z] rfl rfl HT_ ?_
 refine one_ (i:=10) (N:=none) #[Y,Y,Y,Y,Y,Y,Y,Y,Y,Y,Y,Z] rfl rfl (one_of HT_.out (by kernel_rfl)) (by decide) (fun K hK=>?_)
 have hs10:w9.cell? ⟨gb417,0,none⟩=some (.int .i64 0):=cA BK417 0
 have hfs10:=blk_frozen BK417.out 0
 have hns10_0:=NB416_417.out
 have hms10_0:=NB417_416.out
 have hs11:w9.cell? ⟨gb417,1,none⟩=some (.int .i64 0):=cA BK417 1
 have hfs11:=blk_frozen BK417.out 1
 have hns11_0:=NB416_417.out
 have hms11_0:=NB417_416.out
 have hs12:w9.cell? ⟨gb417,2,none⟩=some (.int .i64 0):=cA BK417 2
 have hfs12:=blk_frozen BK417.out 2
 have hns12_0:=NB416_417.out
 have hms12_0:=NB417_416.out
 refine skip_ (w1:=?_) (by rfl) rfl ?_ ?_
 rotate_left
 ·
  go_simp
  rfl
 refine hK.out _ _ ⟨cfA hHeld.1,cfA hHeld.2.1,cfA hHeld.2.2⟩ (fun hHeld=>?_)
 clear hK K
 refine puA (i:=11) (N:=some 5) #[Y,Y,Y,Y,Y,Y,Y,Y,Y,Y,Y,Y] rfl rfl HT_ ?_
 refine done_ (done_of HT_.out (by kernel_rfl)) ?_
 try go_wp2
 refine bodyPost_ret (results_ct rfl _ _ gb417 53 #[.int .i64 t419,.int .i64 t420,.int .i64 t421] (0,0) _ rfl (bpA BK417) Try.underlying53 rfl (by kernel_rfl)) rfl ?_
 exact finA blA
end Go.Proofs.Ytnhiehpbkimaeaa.PAll
