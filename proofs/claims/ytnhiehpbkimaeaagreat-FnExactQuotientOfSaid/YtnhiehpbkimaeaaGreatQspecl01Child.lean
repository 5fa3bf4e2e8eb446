import Derived.Test.YtnhiehpbkimaeaaGreatQx
import Derived.Test.YtnhiehpbkimaeaaGreatQcmpisNaNint64
import Derived.Test.YtnhiehpbkimaeaaGreatQimplofMark
namespace Go.Proofs.YtnhiehpbkimaeaaGreat.PAll
open Go.RowKit Go.Proofs.YtnhiehpbkimaeaaGreatW.PrintWords Go.Proofs.YtnhiehpbkimaeaaGreatW.PrintLast Go.Proofs.YtnhiehpbkimaeaaGreatW.PrintMore
attribute [local go_sem] Go.Proofs.YtnhiehpbkimaeaaGreat.Aux.setCell_drewN Go.Proofs.YtnhiehpbkimaeaaGreat.Aux.isSome_setCell cC b9 cQ cP bm bl cB b8
set_option linter.unusedVariables false
set_option linter.unusedSimpArgs false
def bO.f (k:Nat) (a0 a1_0 a1_1 a1_2:Int):Option (Int × Int × Int × Bool):=(aJ.f k a0 a1_2).bind fun t142=>((bf.f k a0 a1_1 t142 (wrap64 (a1_0 - 1))).bind fun bt143=>(some (bt143.1,bt143.2.1,bt143.2.2.1,bt143.2.2.2)))
def bO.T1:Bool × List (List Nat × List Nat):=(true,[([],[]),([],[]),([1],[1]),([],[]),([],[]),([4],[4]),([3,5],[3,5]),([],[]),([7],[7]),([8],[8]),([0,2,6,9,6],[0,2,6,9]),([10],[10]),([11],[11]),([11],[11]),([],[]),([14,12,10,0,1,2,3,4,5,6,7,8,9,10,11,12,14],[12,14]),([13,15,0,1,2,3,4,5,6,7,8,9,10,11,12,13,14,15],[13])])
def bO.B1:List Nat:=[0,0,2,0,0,16,56,0,128,384,1023,2047,4095,4095,0,24575,65535]
theorem bO.tab1:cZ .any (dL Tryz.f119 1)=bO.T1:=by kernel_rfl
theorem bO.bits1:bq bO.T1.2 bO.B1=true:=by kernel_rfl
set_option maxHeartbeats 8000000 in
set_option maxRecDepth 100000 in
theorem bO.calls (k:Nat) (a0 a1_0 a1_1 a1_2 r1 r2 r3:Int) (r4:Bool) (w:World) (h:bO.f k a0 a1_0 a1_1 a1_2=some (r1,r2,r3,r4)) :
  Calls Tryz.prog 119 #[.int .i64 a0,.agg #[.int .i64 a1_0,.int .i64 a1_1,.int .i64 a1_2]] w fun e w'=>e=.returned (.tuple #[.agg #[.int .i64 r1,.int .i64 r2,.int .i64 r3],.bool r4])∧Below w.heap.size w w':=by
 have hu43:=Tryz.underlying43
 have HB:=aA.mk (Below.refl w.heap.size w)
 have H:=h
 unfold bO.f at H
 clear h
 replace H:=bS H
 obtain ⟨t142,A3,H⟩:=H
 try dsimp only at H
 replace H:=bS H
 obtain ⟨⟨t143,t144,t145,t146⟩,A4,H⟩:=H
 try dsimp only at H
 simp only [Option.some.injEq,Prod.mk.injEq] at H
 obtain ⟨rfl,rfl,rfl,rfl⟩:=H
 go_enter Tryz.func119,Tryz.ntmps119
 try go_wp2_with (first|((with_reducible refine aN (N:=3) rfl ?_);refine bxE (cs:=#[.int .i64 a1_0,.int .i64 a1_1,.int .i64 a1_2]) (t:=43) ?_;intro gb140 hg w5 hbox hb;have n0_:=lB hb;have n1_:=aA.mk hbox;have n2_:=sA hg;have n3_:=sA hg;clear HB;have HB:=n0_;have BK140:=n1_;have GW140:=n2_;have GE140:=n3_;clear n0_ n1_ n2_ n3_;clear hb hbox hg)|((with_reducible refine aN (N:=4) rfl ?_);refine bxE (cs:=#[.int .i64 0,.int .i64 0,.int .i64 0]) (t:=43) ?_;intro gb141 hg w6 hbox hb;have n0_:=kB BK140 hb;have n1_:=lB hb;have n2_:=aA.mk hbox;have n3_:=sA hg;have n4_:=sA hg;have n5_:=nA hg BK140;have n6_:=nB hg BK140;clear BK140;clear HB;have BK140:=n0_;have HB:=n1_;have BK141:=n2_;have GW141:=n3_;have GE141:=n4_;have NB140_141:=n5_;have NB141_140:=n6_;clear n0_ n1_ n2_ n3_ n4_ n5_ n6_;clear hb hbox hg))
 have n0_:=aA.mk (ac BK140.out)
 have n1_:=aA.mk (ac BK141.out)
 have n2_:=aA.mk (al HB.out)
 clear BK140
 clear BK141
 clear HB
 have BK140:=n0_
 have BK141:=n1_
 have HB:=n2_
 clear n0_ n1_ n2_
 refine b7 (n:=17) (S:=fun w'=>w'.cell? ⟨gb140,0,none⟩=some (.int .i64 a1_0)∧w'.cell? ⟨gb140,1,none⟩=some (.int .i64 a1_1)∧w'.cell? ⟨gb140,2,none⟩=some (.int .i64 a1_2)) (ds:=[]) #[Z,Z,Z,Z,Z,Z,Z,Z,Z,Z,Z,Z,Z,Z,Z,Z,Z] (by kernel_rfl) rfl rfl ⟨cA BK140 0,cA BK140 1,cA BK140 2⟩ (fun hHeld=>?_);refine bT bO.tab1 bO.bits1 (fun HT_ HW_=>?_)
 generalize w6.drew=w7 at BK140 BK141 HB hHeld ⊢
 refine puA (i:=0) (N:=some 9) #[Y,Z,Z,Z,Z,Z,Z,Z,Z,Z,Z,Z,Z,Z,Z,Z,Z] rfl rfl HT_ ?_
 refine puA (i:=1) (N:=some 10) #[Y,Y,Z,Z,Z,Z,Z,Z,Z,Z,Z,Z,Z,Z,Z,Z,Z] rfl rfl HT_ ?_
 refine puA (i:=3) (N:=some 12) #[Y,Y,Z,Y,Z,Z,Z,Z,Z,Z,Z,Z,Z,Z,Z,Z,Z] rfl rfl HT_ ?_
 refine puA (i:=4) (N:=some 13) #[Y,Y,Z,Y,Y,Z,Z,Z,Z,Z,Z,Z,Z,Z,Z,Z,Z] rfl rfl HT_ ?_
 refine puA (i:=7) (N:=some 16) #[Y,Y,Z,Y,Y,Z,Z,Y,Z,Z,Z,Z,Z,Z,Z,Z,Z] rfl rfl HT_ ?_
 refine taA (i:=2) (N:=some 11) #[Y,Y,Y,Y,Y,Z,Z,Y,Z,Z,Z,Z,Z,Z,Z,Z,Z] rfl rfl HT_ HW_ hHeld ?_
 refine taA (i:=5) (N:=some 14) #[Y,Y,Y,Y,Y,Y,Z,Y,Z,Z,Z,Z,Z,Z,Z,Z,Z] rfl rfl HT_ HW_ hHeld ?_
 refine taA (i:=8) (N:=some 17) #[Y,Y,Y,Y,Y,Y,Z,Y,Y,Z,Z,Z,Z,Z,Z,Z,Z] rfl rfl HT_ HW_ hHeld ?_
 refine puA (i:=9) (N:=some 18) #[Y,Y,Y,Y,Y,Y,Z,Y,Y,Y,Z,Z,Z,Z,Z,Z,Z] rfl rfl HT_ ?_
 refine d8 (σ:=Nat) 2 #[Y,Y,Y,Y,Y,Y,Y,Y,Y,Y,Y,Y,Y,Y,Y,Z,Z] (fun s_=>[(15,.int .i64 t142),(19,.tuple #[.agg #[.int .i64 t143,.int .i64 t144,.int .i64 t145],.bool t146]),(6,.pointer (some ⟨s_,0,none⟩)),(8,.tuple #[.agg #[.int .i64 t143,.int .i64 t144,.int .i64 t145],.bool t146]),(20,.agg #[.int .i64 t143,.int .i64 t144,.int .i64 t145]),(21,.bool t146)]) (fun s_ w'=>(w'.cell? ⟨gb140,0,none⟩=some (.int .i64 a1_0)∧w'.cell? ⟨gb140,1,none⟩=some (.int .i64 a1_1)∧w'.cell? ⟨gb140,2,none⟩=some (.int .i64 a1_2))∧(w'.heap[gb140]?=some (.cells #[.int .i64 a1_0,.int .i64 a1_1,.int .i64 a1_2] 43 (0,0)))∧(w'.heap[gb141]?=some (.cells #[.int .i64 0,.int .i64 0,.int .i64 0] 43 (0,0)))∧(w'.heap[s_]?=some (.cells #[.int .i64 0,.int .i64 0,.int .i64 0] 43 (0,0)))∧(w.heap.size≤s_)∧(w.heap.size≤s_)∧(gb140≠s_)∧(s_≠gb140)∧(gb141≠s_)∧(s_≠gb141)∧(Below w.heap.size w w')) ?_ ?_
 rotate_left
 ·
  intro hCont
  refine two_ (i:=6) (j:=14) (Ni:=some 15) (Nj:=some 6) #[Y,Y,Y,Y,Y,Y,Y,Y,Y,Y,Z,Z,Z,Z,Z,Z,Z] #[Y,Y,Y,Y,Y,Y,Z,Y,Y,Y,Z,Z,Z,Z,Y,Z,Z] rfl rfl rfl rfl (eY HT_.out (by kernel_rfl)) (by decide) (by decide) (fun K hK=>?_) (fun K hK=>?_)
  ·
   skip
   refine goC Tryz.func82 (aJ.calls (w:=_) (h:=A3.out)) ?_
   rintro _ ⟨nd,rfl⟩
   refine hK.out _ _ ⟨cA BK140 0,cA BK140 1,cA BK140 2⟩ (fun hHeld=>?_)
   clear hK K
   refine nmA ?_
   refine two_ (i:=10) (j:=14) (Ni:=some 19) (Nj:=some 6) #[Y,Y,Y,Y,Y,Y,Y,Y,Y,Y,Y,Z,Z,Z,Z,Z,Z] #[Y,Y,Y,Y,Y,Y,Y,Y,Y,Y,Z,Z,Z,Z,Y,Z,Z] rfl rfl rfl rfl (eY HT_.out (by kernel_rfl)) (by decide) (by decide) (fun K hK=>?_) (fun K hK=>?_)
   ·
    skip
    refine goC Tryz.func81 (bf.calls (w:=_) (h:=A4.out)) ?_
    intro w8 hb
    replace BK140:=kB BK140 hb
    replace BK141:=kB BK141 hb
    replace HB:=lB hb
    (try clear hb)
    (try clear hb2)
    (try clear hk)
    (try clear hi)
    refine hK.out _ _ ⟨cA BK140 0,cA BK140 1,cA BK140 2⟩ (fun hHeld=>?_)
    clear hK K
    refine nmA ?_
    refine puA (i:=11) (N:=some 8) #[Y,Y,Y,Y,Y,Y,Y,Y,Y,Y,Y,Y,Z,Z,Z,Z,Z] rfl rfl HT_ ?_
    refine puA (i:=12) (N:=some 20) #[Y,Y,Y,Y,Y,Y,Y,Y,Y,Y,Y,Y,Y,Z,Z,Z,Z] rfl rfl HT_ ?_
    refine puA (i:=13) (N:=some 21) #[Y,Y,Y,Y,Y,Y,Y,Y,Y,Y,Y,Y,Y,Y,Z,Z,Z] rfl rfl HT_ ?_
    refine cV (i:=14) (N:=some 6) #[Y,Y,Y,Y,Y,Y,Y,Y,Y,Y,Y,Y,Y,Y,Y,Z,Z] rfl rfl (bX HT_.out (by kernel_rfl)) (by decide) (fun K hK=>?_)
    refine ez ?hg (N:=6) ?hd (cs:=#[.int .i64 0,.int .i64 0,.int .i64 0]) (t:=43) ?hr ?_;(case hd=>rfl);(case hg=>rfl);(case hr=>first|(go_simp;done)|(go_simp;rfl))
    intro gb147 hg w9 hbox hb
    have BK147:=aA.mk hbox
    have GW147:=sA hg
    have GE147:=sA hg
    have NB140_147:=nA hg BK140
    have NB147_140:=nB hg BK140
    have NB141_147:=nA hg BK141
    have NB147_141:=nB hg BK141
    replace BK140:=kB BK140 hb
    replace BK141:=kB BK141 hb
    replace HB:=lB hb
    clear hb hbox hg
    refine hK.out _ _ ⟨cA BK140 0,cA BK140 1,cA BK140 2⟩ (fun hHeld=>?_)
    clear hK K
    refine nmA ?_
    exact b6 (by simp only [a8,Act.put,List.setIfInBounds_toArray,List.set_cons_zero,List.set_cons_succ]) (hCont (gb147) _ ⟨hHeld,(bkA BK140),(bkA BK141),(bkA BK147),GW147.out,GE147.out,NB140_147.out,NB147_140.out,NB141_147.out,NB147_141.out,blA⟩)
   ·
    skip
    refine ez ?hg (N:=6) ?hd (cs:=#[.int .i64 0,.int .i64 0,.int .i64 0]) (t:=43) ?hr ?_;(case hd=>rfl);(case hg=>rfl);(case hr=>first|(go_simp;done)|(go_simp;rfl))
    intro gb147 hg w8 hbox hb
    have BK147:=aA.mk hbox
    have GW147:=sA hg
    have GE147:=sA hg
    have NB140_147:=nA hg BK140
    have NB147_140:=nB hg BK140
    have NB141_147:=nA hg BK141
    have NB147_141:=nB hg BK141
    replace BK140:=kB BK140 hb
    replace BK141:=kB BK141 hb
    replace HB:=lB hb
    clear hb hbox hg
    refine hK.out _ _ ⟨cA BK140 0,cA BK140 1,cA BK140 2⟩ (fun hHeld=>?_)
    clear hK K
    refine nmA ?_
    refine cV (i:=10) (N:=some 19) #[Y,Y,Y,Y,Y,Y,Y,Y,Y,Y,Y,Z,Z,Z,Y,Z,Z] rfl rfl (bX HT_.out (by kernel_rfl)) (by decide) (fun K hK=>?_)
    refine goC Tryz.func81 (bf.calls (w:=_) (h:=A4.out)) ?_
    intro w9 hb
    replace BK140:=kB BK140 hb
    replace BK141:=kB BK141 hb
    replace BK147:=kB BK147 hb
    replace HB:=lB hb
    (try clear hb)
    (try clear hb2)
    (try clear hk)
    (try clear hi)
    refine hK.out _ _ ⟨cA BK140 0,cA BK140 1,cA BK140 2⟩ (fun hHeld=>?_)
    clear hK K
    refine nmA ?_
    refine puA (i:=11) (N:=some 8) #[Y,Y,Y,Y,Y,Y,Y,Y,Y,Y,Y,Y,Z,Z,Y,Z,Z] rfl rfl HT_ ?_
    refine puA (i:=12) (N:=some 20) #[Y,Y,Y,Y,Y,Y,Y,Y,Y,Y,Y,Y,Y,Z,Y,Z,Z] rfl rfl HT_ ?_
    refine puA (i:=13) (N:=some 21) #[Y,Y,Y,Y,Y,Y,Y,Y,Y,Y,Y,Y,Y,Y,Y,Z,Z] rfl rfl HT_ ?_
    exact b6 (by simp only [a8,Act.put,List.setIfInBounds_toArray,List.set_cons_zero,List.set_cons_succ]) (hCont (gb147) _ ⟨hHeld,(bkA BK140),(bkA BK141),(bkA BK147),GW147.out,GE147.out,NB140_147.out,NB147_140.out,NB141_147.out,NB147_141.out,blA⟩)
  ·
   skip
   refine ez ?hg (N:=6) ?hd (cs:=#[.int .i64 0,.int .i64 0,.int .i64 0]) (t:=43) ?hr ?_;(case hd=>rfl);(case hg=>rfl);(case hr=>first|(go_simp;done)|(go_simp;rfl))
   intro gb147 hg w8 hbox hb
   have BK147:=aA.mk hbox
   have GW147:=sA hg
   have GE147:=sA hg
   have NB140_147:=nA hg BK140
   have NB147_140:=nB hg BK140
   have NB141_147:=nA hg BK141
   have NB147_141:=nB hg BK141
   replace BK140:=kB BK140 hb
   replace BK141:=kB BK141 hb
   replace HB:=lB hb
   clear hb hbox hg
   refine hK.out _ _ ⟨cA BK140 0,cA BK140 1,cA BK140 2⟩ (fun hHeld=>?_)
   clear hK K
   refine nmA ?_
   refine cV (i:=6) (N:=some 15) #[Y,Y,Y,Y,Y,Y,Y,Y,Y,Y,Z,Z,Z,Z,Y,Z,Z] rfl rfl (bX HT_.out (by kernel_rfl)) (by decide) (fun K hK=>?_)
   refine goC Tryz.func82 (aJ.calls (w:=_) (h:=A3.out)) ?_
   rintro _ ⟨nd,rfl⟩
   refine hK.out _ _ ⟨cA BK140 0,cA BK140 1,cA BK140 2⟩ (fun hHeld=>?_)
   clear hK K
   refine nmA ?_
   refine cV (i:=10) (N:=some 19) #[Y,Y,Y,Y,Y,Y,Y,Y,Y,Y,Y,Z,Z,Z,Y,Z,Z] rfl rfl (bX HT_.out (by kernel_rfl)) (by decide) (fun K hK=>?_)
   refine goC Tryz.func81 (bf.calls (w:=_) (h:=A4.out)) ?_
   intro w9 hb
   replace BK140:=kB BK140 hb
   replace BK141:=kB BK141 hb
   replace BK147:=kB BK147 hb
   replace HB:=lB hb
   (try clear hb)
   (try clear hb2)
   (try clear hk)
   (try clear hi)
   refine hK.out _ _ ⟨cA BK140 0,cA BK140 1,cA BK140 2⟩ (fun hHeld=>?_)
   clear hK K
   refine nmA ?_
   refine puA (i:=11) (N:=some 8) #[Y,Y,Y,Y,Y,Y,Y,Y,Y,Y,Y,Y,Z,Z,Y,Z,Z] rfl rfl HT_ ?_
   refine puA (i:=12) (N:=some 20) #[Y,Y,Y,Y,Y,Y,Y,Y,Y,Y,Y,Y,Y,Z,Y,Z,Z] rfl rfl HT_ ?_
   refine puA (i:=13) (N:=some 21) #[Y,Y,Y,Y,Y,Y,Y,Y,Y,Y,Y,Y,Y,Y,Y,Z,Z] rfl rfl HT_ ?_
   exact b6 (by simp only [a8,Act.put,List.setIfInBounds_toArray,List.set_cons_zero,List.set_cons_succ]) (hCont (gb147) _ ⟨hHeld,(bkA BK140),(bkA BK141),(bkA BK147),GW147.out,GE147.out,NB140_147.out,NB147_140.out,NB141_147.out,NB147_141.out,blA⟩)
 rintro gb147 w10 ⟨hS_,h0_,h1_,h2_,h3_,h4_,h5_,h6_,h7_,h8_,h9_⟩
 have BK147:=aA.mk h2_
 have GW147:=aA.mk h3_
 have GE147:=aA.mk h4_
 have NB140_147:=aA.mk h5_
 have NB147_140:=aA.mk h6_
 have NB141_147:=aA.mk h7_
 have NB147_141:=aA.mk h8_
 replace BK140:=aA.mk h0_
 replace BK141:=aA.mk h1_
 replace HB:=aA.mk h9_
 clear h0_ h1_ h2_ h3_ h4_ h5_ h6_ h7_ h8_ h9_
 have hHeld:w10.cell? ⟨gb140,0,none⟩=some (.int .i64 a1_0)∧w10.cell? ⟨gb140,1,none⟩=some (.int .i64 a1_1)∧w10.cell? ⟨gb140,2,none⟩=some (.int .i64 a1_2):=hS_
 refine b6 (a':=?_) ?_ ?_
 rotate_left
 ·
  simp only [a8,Act.put,List.setIfInBounds_toArray,List.set_cons_zero,List.set_cons_succ]
  rfl
 refine cV (i:=15) (N:=none) #[Y,Y,Y,Y,Y,Y,Y,Y,Y,Y,Y,Y,Y,Y,Y,Y,Z] rfl rfl (bX HT_.out (by kernel_rfl)) (by decide) (fun K hK=>?_)
 have hs11:w10.cell? ⟨gb147,0,none⟩=some (.int .i64 0):=cA BK147 0
 have hfs11:=bH BK147.out 0
 have hns11_0:=NB140_147.out
 have hns11_1:=NB141_147.out
 have hms11_0:=NB147_140.out
 have hms11_1:=NB147_141.out
 have hs12:w10.cell? ⟨gb147,1,none⟩=some (.int .i64 0):=cA BK147 1
 have hfs12:=bH BK147.out 1
 have hns12_0:=NB140_147.out
 have hns12_1:=NB141_147.out
 have hms12_0:=NB147_140.out
 have hms12_1:=NB147_141.out
 have hs13:w10.cell? ⟨gb147,2,none⟩=some (.int .i64 0):=cA BK147 2
 have hfs13:=bH BK147.out 2
 have hns13_0:=NB140_147.out
 have hns13_1:=NB141_147.out
 have hms13_0:=NB147_140.out
 have hms13_1:=NB147_141.out
 refine skip_ (w1:=?_) (by rfl) rfl ?_ ?_
 rotate_left
 ·
  go_simp
  rfl
 refine hK.out _ _ ⟨cfA hHeld.1,cfA hHeld.2.1,cfA hHeld.2.2⟩ (fun hHeld=>?_)
 clear hK K
 refine puA (i:=16) (N:=some 7) #[Y,Y,Y,Y,Y,Y,Y,Y,Y,Y,Y,Y,Y,Y,Y,Y,Y] rfl rfl HT_ ?_
 refine cg (br HT_.out (by kernel_rfl)) ?_
 have hnb14:=NB147_140.out
 have hnc14:=NB140_147.out
 have hnb15:=NB147_141.out
 have hnc15:=NB141_147.out
 obtain ⟨hcz16_0,hcz16_1,hcz16_2,hfz16_0,hfz16_1,hfz16_2⟩:=cz3 BK147
 have hnb17:=NB141_140.out
 have hnc17:=NB140_141.out
 obtain ⟨hcz18_0,hcz18_1,hcz18_2,hfz18_0,hfz18_1,hfz18_2⟩:=cz3 BK141
 try go_wp2
 refine bodyPost_ret (bZ rfl _ _ gb141 43 #[.int .i64 t143,.int .i64 t144,.int .i64 t145] (0,0) _ rfl (bpA BK141) Tryz.underlying43 rfl (by kernel_rfl)) rfl ?_
 exact cE blA
def cp.f (k:Nat) (a0 a1_0 a1_1 a1_2 a2:Int):Option (Int × Int × Int × Bool):=if a1_0=6 then (some (0,0,0,false)) else ((aJ.f k a0 a1_2).bind fun t150=>(if a1_0≥0 then ((aJ.f k a0 a1_0).bind fun t151=>((bf.f k a0 (wrap64 (a1_1+(wrap64 ((wrap64 (a2*t150))*t151)))) t150 (wrap64 (a1_0+1))).bind fun bt152=>(some (bt152.1,bt152.2.1,bt152.2.2.1,bt152.2.2.2)))) else ((aJ.f k a0 (wrap64 (-a1_0))).bind fun t157=>(if t150=0 then (none) else ((aJ.f k a0 (wrap64 (-a1_0))).bind fun t158=>(if t158=0 then (none) else ((bf.f k a0 (wrap64 ((wrap64 (a1_1*(wrap64 (Int.tdiv (mx t150 t157) t150))))+(wrap64 (a2*(wrap64 (Int.tdiv (mx t150 t157) t158)))))) (mx t150 t157) (wrap64 (a1_0+1))).bind fun bt159=>(some (bt159.1,bt159.2.1,bt159.2.2.1,bt159.2.2.2)))))))))
set_option maxHeartbeats 8000000 in
set_option maxRecDepth 100000 in
theorem cp.calls (k:Nat) (a0 a1_0 a1_1 a1_2 a2 r1 r2 r3:Int) (r4:Bool) (w:World) (h:cp.f k a0 a1_0 a1_1 a1_2 a2=some (r1,r2,r3,r4)) :
  Calls Tryz.prog 132 #[.int .i64 a0,.agg #[.int .i64 a1_0,.int .i64 a1_1,.int .i64 a1_2],.int .i64 a2] w fun e w'=>e=.returned (.tuple #[.agg #[.int .i64 r1,.int .i64 r2,.int .i64 r3],.bool r4])∧Below w.heap.size w w':=by
 have hu43:=Tryz.underlying43
 have HB:=aA.mk (Below.refl w.heap.size w)
 have H:=h
 unfold cp.f at H
 clear h
 by_cases c4:a1_0=6
 ·
  rw [if_pos c4] at H
  have c4b0:(a1_0 == 6)=true:=beq_iff_eq.mpr c4
  have c4b1:(a1_0 != 6)=false:=bne_eq_false_iff_eq.mpr c4
  clear c4
  simp only [Option.some.injEq,Prod.mk.injEq] at H
  obtain ⟨rfl,rfl,rfl,rfl⟩:=H
  go_enter Tryz.func132,Tryz.ntmps132
  go_wp2_with (first|((with_reducible refine aN (N:=4) rfl ?_);refine bxE (cs:=#[.int .i64 a1_0,.int .i64 a1_1,.int .i64 a1_2]) (t:=43) ?_;intro gb148 hg w5 hbox hb;have BK148:=aA.mk hbox;have GW148:=sA hg;have GE148:=sA hg;replace HB:=lB hb;clear hb hbox hg)|((with_reducible refine aN (N:=6) rfl ?_);refine bxE (cs:=#[.int .i64 0,.int .i64 0,.int .i64 0]) (t:=43) ?_;intro gb149 hg w6 hbox hb;have BK149:=aA.mk hbox;have GW149:=sA hg;have GE149:=sA hg;have NB148_149:=nA hg BK148;have NB149_148:=nB hg BK148;replace BK148:=kB BK148 hb;replace HB:=lB hb;clear hb hbox hg;have hnb7:=NB148_149.out;have hnc7:=NB149_148.out;obtain ⟨hcz8_0,hcz8_1,hcz8_2,hfz8_0,hfz8_1,hfz8_2⟩:=cz3 BK148;obtain ⟨hcz9_0,hcz9_1,hcz9_2,hfz9_0,hfz9_1,hfz9_2⟩:=cz3 BK149))
  repeat (go_quiet (first|((with_reducible refine aN (N:=4) rfl ?_);refine bxE (cs:=#[.int .i64 a1_0,.int .i64 a1_1,.int .i64 a1_2]) (t:=43) ?_;intro gb148 hg w5 hbox hb;have BK148:=aA.mk hbox;have GW148:=sA hg;have GE148:=sA hg;replace HB:=lB hb;clear hb hbox hg)|((with_reducible refine aN (N:=6) rfl ?_);refine bxE (cs:=#[.int .i64 0,.int .i64 0,.int .i64 0]) (t:=43) ?_;intro gb149 hg w6 hbox hb;have BK149:=aA.mk hbox;have GW149:=sA hg;have GE149:=sA hg;have NB148_149:=nA hg BK148;have NB149_148:=nB hg BK148;replace BK148:=kB BK148 hb;replace HB:=lB hb;clear hb hbox hg;have hnb7:=NB148_149.out;have hnc7:=NB149_148.out;obtain ⟨hcz8_0,hcz8_1,hcz8_2,hfz8_0,hfz8_1,hfz8_2⟩:=cz3 BK148;obtain ⟨hcz9_0,hcz9_1,hcz9_2,hfz9_0,hfz9_1,hfz9_2⟩:=cz3 BK149));try go_wp2_with (first|((with_reducible refine aN (N:=4) rfl ?_);refine bxE (cs:=#[.int .i64 a1_0,.int .i64 a1_1,.int .i64 a1_2]) (t:=43) ?_;intro gb148 hg w5 hbox hb;have BK148:=aA.mk hbox;have GW148:=sA hg;have GE148:=sA hg;replace HB:=lB hb;clear hb hbox hg)|((with_reducible refine aN (N:=6) rfl ?_);refine bxE (cs:=#[.int .i64 0,.int .i64 0,.int .i64 0]) (t:=43) ?_;intro gb149 hg w6 hbox hb;have BK149:=aA.mk hbox;have GW149:=sA hg;have GE149:=sA hg;have NB148_149:=nA hg BK148;have NB149_148:=nB hg BK148;replace BK148:=kB BK148 hb;replace HB:=lB hb;clear hb hbox hg;have hnb7:=NB148_149.out;have hnc7:=NB149_148.out;obtain ⟨hcz8_0,hcz8_1,hcz8_2,hfz8_0,hfz8_1,hfz8_2⟩:=cz3 BK148;obtain ⟨hcz9_0,hcz9_1,hcz9_2,hfz9_0,hfz9_1,hfz9_2⟩:=cz3 BK149)))
  refine bodyPost_ret (bZ rfl _ _ gb149 43 #[.int .i64 0,.int .i64 0,.int .i64 0] (0,0) _ rfl (bpA BK149) Tryz.underlying43 rfl (by kernel_rfl)) rfl ?_
  exact cE blA
 ·
  rw [if_neg c4] at H
  have c4b0:(a1_0 == 6)=false:=beq_eq_false_iff_ne.mpr c4
  have c4b1:(a1_0 != 6)=true:=bne_iff_ne.mpr c4
  replace H:=bS H
  obtain ⟨t150,A10,H⟩:=H
  try dsimp only at H
  by_cases c11:a1_0≥0
  ·
   rw [if_pos c11] at H
   have c11b0:decide (0≤a1_0)=true:=decide_eq_true c11
   clear c11
   replace H:=bS H
   obtain ⟨t151,A12,H⟩:=H
   try dsimp only at H
   replace H:=bS H
   obtain ⟨⟨t152,t153,t154,t155⟩,A13,H⟩:=H
   try dsimp only at H
   simp only [Option.some.injEq,Prod.mk.injEq] at H
   obtain ⟨rfl,rfl,rfl,rfl⟩:=H
   go_enter Tryz.func132,Tryz.ntmps132
   go_wp2_with (first|((with_reducible refine aN (N:=4) rfl ?_);refine bxE (cs:=#[.int .i64 a1_0,.int .i64 a1_1,.int .i64 a1_2]) (t:=43) ?_;intro gb148 hg w14 hbox hb;have BK148:=aA.mk hbox;have GW148:=sA hg;have GE148:=sA hg;replace HB:=lB hb;clear hb hbox hg)|((with_reducible refine aN (N:=6) rfl ?_);refine bxE (cs:=#[.int .i64 0,.int .i64 0,.int .i64 0]) (t:=43) ?_;intro gb149 hg w15 hbox hb;have BK149:=aA.mk hbox;have GW149:=sA hg;have GE149:=sA hg;have NB148_149:=nA hg BK148;have NB149_148:=nB hg BK148;replace BK148:=kB BK148 hb;replace HB:=lB hb;clear hb hbox hg;have hnb16:=NB148_149.out;have hnc16:=NB149_148.out;obtain ⟨hcz17_0,hcz17_1,hcz17_2,hfz17_0,hfz17_1,hfz17_2⟩:=cz3 BK148)|(go_at_call 82;(with_reducible refine (aJ.calls k a0 a1_2 t150 _ A10.out).mono ?_);rintro e w' ⟨rfl,⟨nd,rfl⟩⟩;(try exact dd))|(go_at_call 82;(with_reducible refine (aJ.calls k a0 a1_0 t151 _ A12.out).mono ?_);rintro e w' ⟨rfl,⟨nd,rfl⟩⟩;(try exact dd))|(go_at_call 81;(with_reducible refine (bf.calls k a0 (wrap64 (a1_1+(wrap64 ((wrap64 (a2*t150))*t151)))) t150 (wrap64 (a1_0+1)) t152 t153 t154 t155 _ A13.out).mono ?_);rintro e w18 ⟨rfl,hb⟩;replace BK148:=kB BK148 hb;replace BK149:=kB BK149 hb;replace HB:=lB hb;clear hb)|((with_reducible refine aN (N:=11) rfl ?_);refine bxE (cs:=#[.int .i64 0,.int .i64 0,.int .i64 0]) (t:=43) ?_;intro gb156 hg w19 hbox hb;have BK156:=aA.mk hbox;have GW156:=sA hg;have GE156:=sA hg;have NB148_156:=nA hg BK148;have NB156_148:=nB hg BK148;have NB149_156:=nA hg BK149;have NB156_149:=nB hg BK149;replace BK148:=kB BK148 hb;replace BK149:=kB BK149 hb;replace HB:=lB hb;clear hb hbox hg;have hnb20:=NB156_148.out;have hnc20:=NB148_156.out;have hnb21:=NB156_149.out;have hnc21:=NB149_156.out;obtain ⟨hcz22_0,hcz22_1,hcz22_2,hfz22_0,hfz22_1,hfz22_2⟩:=cz3 BK156;obtain ⟨hcz23_0,hcz23_1,hcz23_2,hfz23_0,hfz23_1,hfz23_2⟩:=cz3 BK149))
   repeat (go_quiet (first|((with_reducible refine aN (N:=4) rfl ?_);refine bxE (cs:=#[.int .i64 a1_0,.int .i64 a1_1,.int .i64 a1_2]) (t:=43) ?_;intro gb148 hg w14 hbox hb;have BK148:=aA.mk hbox;have GW148:=sA hg;have GE148:=sA hg;replace HB:=lB hb;clear hb hbox hg)|((with_reducible refine aN (N:=6) rfl ?_);refine bxE (cs:=#[.int .i64 0,.int .i64 0,.int .i64 0]) (t:=43) ?_;intro gb149 hg w15 hbox hb;have BK149:=aA.mk hbox;have GW149:=sA hg;have GE149:=sA hg;have NB148_149:=nA hg BK148;have NB149_148:=nB hg BK148;replace BK148:=kB BK148 hb;replace HB:=lB hb;clear hb hbox hg;have hnb16:=NB148_149.out;have hnc16:=NB149_148.out;obtain ⟨hcz17_0,hcz17_1,hcz17_2,hfz17_0,hfz17_1,hfz17_2⟩:=cz3 BK148)|(go_at_call 82;(with_reducible refine (aJ.calls k a0 a1_2 t150 _ A10.out).mono ?_);rintro e w' ⟨rfl,⟨nd,rfl⟩⟩;(try exact dd))|(go_at_call 82;(with_reducible refine (aJ.calls k a0 a1_0 t151 _ A12.out).mono ?_);rintro e w' ⟨rfl,⟨nd,rfl⟩⟩;(try exact dd))|(go_at_call 81;(with_reducible refine (bf.calls k a0 (wrap64 (a1_1+(wrap64 ((wrap64 (a2*t150))*t151)))) t150 (wrap64 (a1_0+1)) t152 t153 t154 t155 _ A13.out).mono ?_);rintro e w18 ⟨rfl,hb⟩;replace BK148:=kB BK148 hb;replace BK149:=kB BK149 hb;replace HB:=lB hb;clear hb)|((with_reducible refine aN (N:=11) rfl ?_);refine bxE (cs:=#[.int .i64 0,.int .i64 0,.int .i64 0]) (t:=43) ?_;intro gb156 hg w19 hbox hb;have BK156:=aA.mk hbox;have GW156:=sA hg;have GE156:=sA hg;have NB148_156:=nA hg BK148;have NB156_148:=nB hg BK148;have NB149_156:=nA hg BK149;have NB156_149:=nB hg BK149;replace BK148:=kB BK148 hb;replace BK149:=kB BK149 hb;replace HB:=lB hb;clear hb hbox hg;have hnb20:=NB156_148.out;have hnc20:=NB148_156.out;have hnb21:=NB156_149.out;have hnc21:=NB149_156.out;obtain ⟨hcz22_0,hcz22_1,hcz22_2,hfz22_0,hfz22_1,hfz22_2⟩:=cz3 BK156;obtain ⟨hcz23_0,hcz23_1,hcz23_2,hfz23_0,hfz23_1,hfz23_2⟩:=cz3 BK149));try go_wp2_with (first|((with_reducible refine aN (N:=4) rfl ?_);refine bxE (cs:=#[.int .i64 a1_0,.int .i64 a1_1,.int .i64 a1_2]) (t:=43) ?_;intro gb148 hg w14 hbox hb;have BK148:=aA.mk hbox;have GW148:=sA hg;have GE148:=sA hg;replace HB:=lB hb;clear hb hbox hg)|((with_reducible refine aN (N:=6) rfl ?_);refine bxE (cs:=#[.int .i64 0,.int .i64 0,.int .i64 0]) (t:=43) ?_;intro gb149 hg w15 hbox hb;have BK149:=aA.mk hbox;have GW149:=sA hg;have GE149:=sA hg;have NB148_149:=nA hg BK148;have NB149_148:=nB hg BK148;replace BK148:=kB BK148 hb;replace HB:=lB hb;clear hb hbox hg;have hnb16:=NB148_149.out;have hnc16:=NB149_148.out;obtain ⟨hcz17_0,hcz17_1,hcz17_2,hfz17_0,hfz17_1,hfz17_2⟩:=cz3 BK148)|(go_at_call 82;(with_reducible refine (aJ.calls k a0 a1_2 t150 _ A10.out).mono ?_);rintro e w' ⟨rfl,⟨nd,rfl⟩⟩;(try exact dd))|(go_at_call 82;(with_reducible refine (aJ.calls k a0 a1_0 t151 _ A12.out).mono ?_);rintro e w' ⟨rfl,⟨nd,rfl⟩⟩;(try exact dd))|(go_at_call 81;(with_reducible refine (bf.calls k a0 (wrap64 (a1_1+(wrap64 ((wrap64 (a2*t150))*t151)))) t150 (wrap64 (a1_0+1)) t152 t153 t154 t155 _ A13.out).mono ?_);rintro e w18 ⟨rfl,hb⟩;replace BK148:=kB BK148 hb;replace BK149:=kB BK149 hb;replace HB:=lB hb;clear hb)|((with_reducible refine aN (N:=11) rfl ?_);refine bxE (cs:=#[.int .i64 0,.int .i64 0,.int .i64 0]) (t:=43) ?_;intro gb156 hg w19 hbox hb;have BK156:=aA.mk hbox;have GW156:=sA hg;have GE156:=sA hg;have NB148_156:=nA hg BK148;have NB156_148:=nB hg BK148;have NB149_156:=nA hg BK149;have NB156_149:=nB hg BK149;replace BK148:=kB BK148 hb;replace BK149:=kB BK149 hb;replace HB:=lB hb;clear hb hbox hg;have hnb20:=NB156_148.out;have hnc20:=NB148_156.out;have hnb21:=NB156_149.out;have hnc21:=NB149_156.out;obtain ⟨hcz22_0,hcz22_1,hcz22_2,hfz22_0,hfz22_1,hfz22_2⟩:=cz3 BK156;obtain ⟨hcz23_0,hcz23_1,hcz23_2,hfz23_0,hfz23_1,hfz23_2⟩:=cz3 BK149)))
   refine bodyPost_ret (bZ rfl _ _ gb149 43 #[.int .i64 t152,.int .i64 t153,.int .i64 t154] (0,0) _ rfl (bpA BK149) Tryz.underlying43 rfl (by kernel_rfl)) rfl ?_
   exact cE blA
  ·
   rw [if_neg c11] at H
   have c11b0:decide (0≤a1_0)=false:=decide_eq_false c11
   clear c11
   replace H:=bS H
   obtain ⟨t157,A24,H⟩:=H
   try dsimp only at H
   obtain ⟨ji25,hji25⟩:∃ j_:Int,(mx t150 t157)=j_:=⟨_,rfl⟩
   replace H:(if t150=0 then (none) else ((aJ.f k a0 (wrap64 (-a1_0))).bind fun t158=>(if t158=0 then (none) else ((bf.f k a0 (wrap64 ((wrap64 (a1_1*(wrap64 (Int.tdiv (ji25) t150))))+(wrap64 (a2*(wrap64 (Int.tdiv (ji25) t158)))))) (ji25) (wrap64 (a1_0+1))).bind fun bt159=>(some (bt159.1,bt159.2.1,bt159.2.2.1,bt159.2.2.2))))))=some (r1,r2,r3,r4):=by first|(rw [hji25] at H;exact H)|(simp only [hji25] at H ⊢;exact H)
   (try rw [hji25] at A10)
   (try rw [hji25] at A24)
   have hji25_:(if t150<t157 then t157 else t150)=ji25:=hji25
   by_cases c26:t150=0
   ·
    rw [if_pos c26] at H
    exact absurd H (by simp)
   rw [if_neg c26] at H
   have c26b0:(t150 == 0)=false:=beq_eq_false_iff_ne.mpr c26
   have c26b1:(t150 != 0)=true:=bne_iff_ne.mpr c26
   replace H:=bS H
   obtain ⟨t158,A27,H⟩:=H
   try dsimp only at H
   try (obtain rfl:t158=t157:=Option.some.inj (A27.out.symm.trans A24.out))
   by_cases c28:t158=0
   ·
    rw [if_pos c28] at H
    exact absurd H (by simp)
   rw [if_neg c28] at H
   have c28b0:(t158 == 0)=false:=beq_eq_false_iff_ne.mpr c28
   have c28b1:(t158 != 0)=true:=bne_iff_ne.mpr c28
   replace H:=bS H
   obtain ⟨⟨t159,t160,t161,t162⟩,A29,H⟩:=H
   try dsimp only at H
   simp only [Option.some.injEq,Prod.mk.injEq] at H
   obtain ⟨rfl,rfl,rfl,rfl⟩:=H
   go_enter Tryz.func132,Tryz.ntmps132
   go_wp2_with (first|((with_reducible refine aN (N:=4) rfl ?_);refine bxE (cs:=#[.int .i64 a1_0,.int .i64 a1_1,.int .i64 a1_2]) (t:=43) ?_;intro gb148 hg w30 hbox hb;have BK148:=aA.mk hbox;have GW148:=sA hg;have GE148:=sA hg;replace HB:=lB hb;clear hb hbox hg)|((with_reducible refine aN (N:=6) rfl ?_);refine bxE (cs:=#[.int .i64 0,.int .i64 0,.int .i64 0]) (t:=43) ?_;intro gb149 hg w31 hbox hb;have BK149:=aA.mk hbox;have GW149:=sA hg;have GE149:=sA hg;have NB148_149:=nA hg BK148;have NB149_148:=nB hg BK148;replace BK148:=kB BK148 hb;replace HB:=lB hb;clear hb hbox hg;have hnb32:=NB148_149.out;have hnc32:=NB149_148.out;obtain ⟨hcz33_0,hcz33_1,hcz33_2,hfz33_0,hfz33_1,hfz33_2⟩:=cz3 BK148)|(go_at_call 82;(with_reducible refine (aJ.calls k a0 a1_2 t150 _ A10.out).mono ?_);rintro e w' ⟨rfl,⟨nd,rfl⟩⟩;(try exact dd))|(go_at_call 82;(with_reducible refine (aJ.calls k a0 (wrap64 (-a1_0)) t157 _ A24.out).mono ?_);rintro e w' ⟨rfl,⟨nd,rfl⟩⟩;(try exact dd))|(go_at_call 82;(with_reducible refine (aJ.calls k a0 (wrap64 (-a1_0)) t158 _ A27.out).mono ?_);rintro e w' ⟨rfl,⟨nd,rfl⟩⟩;(try exact dd))|(go_at_call 81;(with_reducible refine (bf.calls k a0 (wrap64 ((wrap64 (a1_1*(wrap64 (Int.tdiv (ji25) t150))))+(wrap64 (a2*(wrap64 (Int.tdiv (ji25) t158)))))) ji25 (wrap64 (a1_0+1)) t159 t160 t161 t162 _ A29.out).mono ?_);rintro e w34 ⟨rfl,hb⟩;replace BK148:=kB BK148 hb;replace BK149:=kB BK149 hb;replace HB:=lB hb;clear hb)|((with_reducible refine aN (N:=11) rfl ?_);refine bxE (cs:=#[.int .i64 0,.int .i64 0,.int .i64 0]) (t:=43) ?_;intro gb163 hg w35 hbox hb;have BK163:=aA.mk hbox;have GW163:=sA hg;have GE163:=sA hg;have NB148_163:=nA hg BK148;have NB163_148:=nB hg BK148;have NB149_163:=nA hg BK149;have NB163_149:=nB hg BK149;replace BK148:=kB BK148 hb;replace BK149:=kB BK149 hb;replace HB:=lB hb;clear hb hbox hg;have hnb36:=NB163_148.out;have hnc36:=NB148_163.out;have hnb37:=NB163_149.out;have hnc37:=NB149_163.out;obtain ⟨hcz38_0,hcz38_1,hcz38_2,hfz38_0,hfz38_1,hfz38_2⟩:=cz3 BK163;obtain ⟨hcz39_0,hcz39_1,hcz39_2,hfz39_0,hfz39_1,hfz39_2⟩:=cz3 BK149))
   repeat (go_quiet (first|((with_reducible refine aN (N:=4) rfl ?_);refine bxE (cs:=#[.int .i64 a1_0,.int .i64 a1_1,.int .i64 a1_2]) (t:=43) ?_;intro gb148 hg w30 hbox hb;have BK148:=aA.mk hbox;have GW148:=sA hg;have GE148:=sA hg;replace HB:=lB hb;clear hb hbox hg)|((with_reducible refine aN (N:=6) rfl ?_);refine bxE (cs:=#[.int .i64 0,.int .i64 0,.int .i64 0]) (t:=43) ?_;intro gb149 hg w31 hbox hb;have BK149:=aA.mk hbox;have GW149:=sA hg;have GE149:=sA hg;have NB148_149:=nA hg BK148;have NB149_148:=nB hg BK148;replace BK148:=kB BK148 hb;replace HB:=lB hb;clear hb hbox hg;have hnb32:=NB148_149.out;have hnc32:=NB149_148.out;obtain ⟨hcz33_0,hcz33_1,hcz33_2,hfz33_0,hfz33_1,hfz33_2⟩:=cz3 BK148)|(go_at_call 82;(with_reducible refine (aJ.calls k a0 a1_2 t150 _ A10.out).mono ?_);rintro e w' ⟨rfl,⟨nd,rfl⟩⟩;(try exact dd))|(go_at_call 82;(with_reducible refine (aJ.calls k a0 (wrap64 (-a1_0)) t157 _ A24.out).mono ?_);rintro e w' ⟨rfl,⟨nd,rfl⟩⟩;(try exact dd))|(go_at_call 82;(with_reducible refine (aJ.calls k a0 (wrap64 (-a1_0)) t158 _ A27.out).mono ?_);rintro e w' ⟨rfl,⟨nd,rfl⟩⟩;(try exact dd))|(go_at_call 81;(with_reducible refine (bf.calls k a0 (wrap64 ((wrap64 (a1_1*(wrap64 (Int.tdiv (ji25) t150))))+(wrap64 (a2*(wrap64 (Int.tdiv (ji25) t158)))))) ji25 (wrap64 (a1_0+1)) t159 t160 t161 t162 _ A29.out).mono ?_);rintro e w34 ⟨rfl,hb⟩;replace BK148:=kB BK148 hb;replace BK149:=kB BK149 hb;replace HB:=lB hb;clear hb)|((with_reducible refine aN (N:=11) rfl ?_);refine bxE (cs:=#[.int .i64 0,.int .i64 0,.int .i64 0]) (t:=43) ?_;intro gb163 hg w35 hbox hb;have BK163:=aA.mk hbox;have GW163:=sA hg;have GE163:=sA hg;have NB148_163:=nA hg BK148;have NB163_148:=nB hg BK148;have NB149_163:=nA hg BK149;have NB163_149:=nB hg BK149;replace BK148:=kB BK148 hb;replace BK149:=kB BK149 hb;replace HB:=lB hb;clear hb hbox hg;have hnb36:=NB163_148.out;have hnc36:=NB148_163.out;have hnb37:=NB163_149.out;have hnc37:=NB149_163.out;obtain ⟨hcz38_0,hcz38_1,hcz38_2,hfz38_0,hfz38_1,hfz38_2⟩:=cz3 BK163;obtain ⟨hcz39_0,hcz39_1,hcz39_2,hfz39_0,hfz39_1,hfz39_2⟩:=cz3 BK149));try go_wp2_with (first|((with_reducible refine aN (N:=4) rfl ?_);refine bxE (cs:=#[.int .i64 a1_0,.int .i64 a1_1,.int .i64 a1_2]) (t:=43) ?_;intro gb148 hg w30 hbox hb;have BK148:=aA.mk hbox;have GW148:=sA hg;have GE148:=sA hg;replace HB:=lB hb;clear hb hbox hg)|((with_reducible refine aN (N:=6) rfl ?_);refine bxE (cs:=#[.int .i64 0,.int .i64 0,.int .i64 0]) (t:=43) ?_;intro gb149 hg w31 hbox hb;have BK149:=aA.mk hbox;have GW149:=sA hg;have GE149:=sA hg;have NB148_149:=nA hg BK148;have NB149_148:=nB hg BK148;replace BK148:=kB BK148 hb;replace HB:=lB hb;clear hb hbox hg;have hnb32:=NB148_149.out;have hnc32:=NB149_148.out;obtain ⟨hcz33_0,hcz33_1,hcz33_2,hfz33_0,hfz33_1,hfz33_2⟩:=cz3 BK148)|(go_at_call 82;(with_reducible refine (aJ.calls k a0 a1_2 t150 _ A10.out).mono ?_);rintro e w' ⟨rfl,⟨nd,rfl⟩⟩;(try exact dd))|(go_at_call 82;(with_reducible refine (aJ.calls k a0 (wrap64 (-a1_0)) t157 _ A24.out).mono ?_);rintro e w' ⟨rfl,⟨nd,rfl⟩⟩;(try exact dd))|(go_at_call 82;(with_reducible refine (aJ.calls k a0 (wrap64 (-a1_0)) t158 _ A27.out).mono ?_);rintro e w' ⟨rfl,⟨nd,rfl⟩⟩;(try exact dd))|(go_at_call 81;(with_reducible refine (bf.calls k a0 (wrap64 ((wrap64 (a1_1*(wrap64 (Int.tdiv (ji25) t150))))+(wrap64 (a2*(wrap64 (Int.tdiv (ji25) t158)))))) ji25 (wrap64 (a1_0+1)) t159 t160 t161 t162 _ A29.out).mono ?_);rintro e w34 ⟨rfl,hb⟩;replace BK148:=kB BK148 hb;replace BK149:=kB BK149 hb;replace HB:=lB hb;clear hb)|((with_reducible refine aN (N:=11) rfl ?_);refine bxE (cs:=#[.int .i64 0,.int .i64 0,.int .i64 0]) (t:=43) ?_;intro gb163 hg w35 hbox hb;have BK163:=aA.mk hbox;have GW163:=sA hg;have GE163:=sA hg;have NB148_163:=nA hg BK148;have NB163_148:=nB hg BK148;have NB149_163:=nA hg BK149;have NB163_149:=nB hg BK149;replace BK148:=kB BK148 hb;replace BK149:=kB BK149 hb;replace HB:=lB hb;clear hb hbox hg;have hnb36:=NB163_148.out;have hnc36:=NB148_163.out;have hnb37:=NB163_149.out;have hnc37:=NB149_163.out;obtain ⟨hcz38_0,hcz38_1,hcz38_2,hfz38_0,hfz38_1,hfz38_2⟩:=cz3 BK163;obtain ⟨hcz39_0,hcz39_1,hcz39_2,hfz39_0,hfz39_1,hfz39_2⟩:=cz3 BK149)))
   refine bodyPost_ret (bZ rfl _ _ gb149 43 #[.int .i64 t159,.int .i64 t160,.int .i64 t161] (0,0) _ rfl (bpA BK149) Tryz.underlying43 rfl (by kernel_rfl)) rfl ?_
   exact ⟨by first|rfl|(simp [bB,bA] <;> rfl)|(simp only [← hji25];first|rfl|(simp [bB,bA] <;> rfl))|(simp [*,bB,bA] <;> rfl),blA⟩
end Go.Proofs.YtnhiehpbkimaeaaGreat.PAll
