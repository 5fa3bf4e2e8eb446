-- turned out of the kit's print
import Derived.Test.YtlpmefmaplhfdaaQx
import Derived.Test.YtlpmefmaplhfdaaQbitsLeadingZeros64
import Derived.Test.YtlpmefmaplhfdaaQimplchild
import Derived.Test.YtlpmefmaplhfdaaQimplofMark
import Derived.Test.YtlpmefmaplhfdaaQspecl01Spoil
namespace Go.Proofs.Ytlpmefmaplhfdaa.PAll
open Go.RowKit Go.Proofs.YtlpmefmaplhfdaaW.PrintWords Go.Proofs.YtlpmefmaplhfdaaW.PrintLast Go.Proofs.YtlpmefmaplhfdaaW.PrintMore
attribute [local go_sem] Go.Proofs.Ytlpmefmaplhfdaa.Aux.setCell_drewN Go.Proofs.Ytlpmefmaplhfdaa.Aux.isSome_setCell max2_int min2_int max_two min_two max_three min_three max_four min_four
set_option linter.unusedVariables false
set_option linter.unusedSimpArgs false
def spec_l01Parent.f (k:Nat) (a0 a1_0 a1_1 a1_2:Int):Option (Int × Int × Int × Bool):=(spec_l01Power.f k a0 a1_2).bind fun t934=>((spec_l01Of.f k a0 a1_1 t934 (wrap64 (a1_0 - 1))).bind fun bt935=>(some (bt935.1,bt935.2.1,bt935.2.2.1,bt935.2.2.2)))
theorem spec_l01Parent.mono:∀ a0 a1 a2 a3 k,LeO (spec_l01Parent.f k a0 a1 a2 a3) (spec_l01Parent.f (k+1) a0 a1 a2 a3):=by
 intro a0 a1 a2 a3 k
 unfold spec_l01Parent.f
 repeat' first
   | with_reducible first|exact spec_l01Of.mono ..|exact spec_l01Power.mono ..|exact LeO.refl _|exact LeO.none _|refine LeO.ite ?_ ?_|refine LeO.bind ?_ fun _=>?_
def spec_l01Parent.T1:Bool × List (List Nat × List Nat):=(true,[([],[]),([],[]),([1],[1]),([],[]),([],[]),([4],[4]),([3,5],[3,5]),([],[]),([7],[7]),([8],[8]),([0,2,6,9,6],[0,2,6,9]),([10],[10]),([11],[11]),([11],[11]),([],[]),([14,12,10,0,1,2,3,4,5,6,7,8,9,10,11,12,14],[12,14]),([13,15,0,1,2,3,4,5,6,7,8,9,10,11,12,13,14,15],[13])])
def spec_l01Parent.B1:List Nat:=[0,0,2,0,0,16,56,0,128,384,1023,2047,4095,4095,0,24575,65535]
theorem spec_l01Parent.tab1:rtab .any (opsOf Try.f134 1)=spec_l01Parent.T1:=by kernel_rfl
theorem spec_l01Parent.bits1:waitsOk spec_l01Parent.T1.2 spec_l01Parent.B1=true:=by kernel_rfl
set_option maxHeartbeats 8000000 in
set_option maxRecDepth 100000 in
theorem spec_l01Parent.calls (k:Nat) (a0 a1_0 a1_1 a1_2 r1 r2 r3:Int) (r4:Bool) (w:World) (h:spec_l01Parent.f k a0 a1_0 a1_1 a1_2=some (r1,r2,r3,r4)) :
  Calls Try.prog 134 #[.int .i64 a0,.agg #[.int .i64 a1_0,.int .i64 a1_1,.int .i64 a1_2]] w fun e w'=>e=.returned (.tuple #[.agg #[.int .i64 r1,.int .i64 r2,.int .i64 r3],.bool r4])∧Below w.heap.size w w':=by
 have hu28:=Try.underlying28
 have HB:=Aside0.mk (Below.refl w.heap.size w)
 have H:=h
 unfold spec_l01Parent.f at H
 clear h
 replace H:=bS H
 obtain ⟨t934,A3,H⟩:=H
 try dsimp only at H
 replace H:=bS H
 obtain ⟨⟨t935,t936,t937,t938⟩,A4,H⟩:=H
 try dsimp only at H
 simp only [Option.some.injEq,Prod.mk.injEq] at H
 obtain ⟨rfl,rfl,rfl,rfl⟩:=H
 go_enter Try.func134,Try.ntmps134
 try go_wp2_with (first|((with_reducible refine gate_dst (N:=3) rfl ?_);refine bxE (cs:=#[.int .i64 a1_0,.int .i64 a1_1,.int .i64 a1_2]) (t:=28) ?_;intro gb932 hg w5 hbox hb;have n0_:=lB hb;have n1_:=Aside0.mk hbox;have n2_:=sA hg;have n3_:=sA hg;clear HB;have HB:=n0_;have BK932:=n1_;have GW932:=n2_;have GE932:=n3_;clear n0_ n1_ n2_ n3_;clear hb hbox hg)|((with_reducible refine gate_dst (N:=4) rfl ?_);refine bxE (cs:=#[.int .i64 0,.int .i64 0,.int .i64 0]) (t:=28) ?_;intro gb933 hg w6 hbox hb;have n0_:=kB BK932 hb;have n1_:=lB hb;have n2_:=Aside0.mk hbox;have n3_:=sA hg;have n4_:=sA hg;have n5_:=nA hg BK932;have n6_:=nB hg BK932;clear BK932;clear HB;have BK932:=n0_;have HB:=n1_;have BK933:=n2_;have GW933:=n3_;have GE933:=n4_;have NB932_933:=n5_;have NB933_932:=n6_;clear n0_ n1_ n2_ n3_ n4_ n5_ n6_;clear hb hbox hg))
 have n0_:=Aside0.mk (blk_drew BK932.out)
 have n1_:=Aside0.mk (blk_drew BK933.out)
 have n2_:=Aside0.mk (below_drew1 HB.out)
 clear BK932
 clear BK933
 clear HB
 have BK932:=n0_
 have BK933:=n1_
 have HB:=n2_
 clear n0_ n1_ n2_
 refine start_ (n:=17) (S:=fun w'=>w'.cell? ⟨gb932,0,none⟩=some (.int .i64 a1_0)∧w'.cell? ⟨gb932,1,none⟩=some (.int .i64 a1_1)∧w'.cell? ⟨gb932,2,none⟩=some (.int .i64 a1_2)) (ds:=[]) #[Z,Z,Z,Z,Z,Z,Z,Z,Z,Z,Z,Z,Z,Z,Z,Z,Z] (by kernel_rfl) rfl rfl ⟨cA BK932 0,cA BK932 1,cA BK932 2⟩ (fun hHeld=>?_);refine with_tabW spec_l01Parent.tab1 spec_l01Parent.bits1 (fun HT_ HW_=>?_)
 generalize w6.drew=w7 at BK932 BK933 HB hHeld ⊢
 refine puA (i:=0) (N:=some 9) #[Y,Z,Z,Z,Z,Z,Z,Z,Z,Z,Z,Z,Z,Z,Z,Z,Z] rfl rfl HT_ ?_
 refine puA (i:=1) (N:=some 10) #[Y,Y,Z,Z,Z,Z,Z,Z,Z,Z,Z,Z,Z,Z,Z,Z,Z] rfl rfl HT_ ?_
 refine puA (i:=3) (N:=some 12) #[Y,Y,Z,Y,Z,Z,Z,Z,Z,Z,Z,Z,Z,Z,Z,Z,Z] rfl rfl HT_ ?_
 refine puA (i:=4) (N:=some 13) #[Y,Y,Z,Y,Y,Z,Z,Z,Z,Z,Z,Z,Z,Z,Z,Z,Z] rfl rfl HT_ ?_
 refine puA (i:=7) (N:=some 16) #[Y,Y,Z,Y,Y,Z,Z,Y,Z,Z,Z,Z,Z,Z,Z,Z,Z] rfl rfl HT_ ?_
 refine taA (i:=2) (N:=some 11) #[Y,Y,Y,Y,Y,Z,Z,Y,Z,Z,Z,Z,Z,Z,Z,Z,Z] rfl rfl HT_ HW_ hHeld ?_
 refine taA (i:=5) (N:=some 14) #[Y,Y,Y,Y,Y,Y,Z,Y,Z,Z,Z,Z,Z,Z,Z,Z,Z] rfl rfl HT_ HW_ hHeld ?_
 refine taA (i:=8) (N:=some 17) #[Y,Y,Y,Y,Y,Y,Z,Y,Y,Z,Z,Z,Z,Z,Z,Z,Z] rfl rfl HT_ HW_ hHeld ?_
 refine puA (i:=9) (N:=some 18) #[Y,Y,Y,Y,Y,Y,Z,Y,Y,Y,Z,Z,Z,Z,Z,Z,Z] rfl rfl HT_ ?_
 refine join_ (σ:=Nat) 2 #[Y,Y,Y,Y,Y,Y,Y,Y,Y,Y,Y,Y,Y,Y,Y,Z,Z] (fun s_=>[(15,.int .i64 t934),(19,.tuple #[.agg #[.int .i64 t935,.int .i64 t936,.int .i64 t937],.bool t938]),(6,.pointer (some ⟨s_,0,none⟩)),(8,.tuple #[.agg #[.int .i64 t935,.int .i64 t936,.int .i64 t937],.bool t938]),(20,.agg #[.int .i64 t935,.int .i64 t936,.int .i64 t937]),(21,.bool t938)]) (fun s_ w'=>(w'.cell? ⟨gb932,0,none⟩=some (.int .i64 a1_0)∧w'.cell? ⟨gb932,1,none⟩=some (.int .i64 a1_1)∧w'.cell? ⟨gb932,2,none⟩=some (.int .i64 a1_2))∧(w'.heap[gb932]?=some (.cells #[.int .i64 a1_0,.int .i64 a1_1,.int .i64 a1_2] 28 (0,0)))∧(w'.heap[gb933]?=some (.cells #[.int .i64 0,.int .i64 0,.int .i64 0] 28 (0,0)))∧(w'.heap[s_]?=some (.cells #[.int .i64 0,.int .i64 0,.int .i64 0] 28 (0,0)))∧(w.heap.size≤s_)∧(w.heap.size≤s_)∧(gb932≠s_)∧(s_≠gb932)∧(gb933≠s_)∧(s_≠gb933)∧(Below w.heap.size w w')) ?_ ?_
 rotate_left
 ·
  intro hCont
  refine two_ (i:=6) (j:=14) (Ni:=some 15) (Nj:=some 6) #[Y,Y,Y,Y,Y,Y,Y,Y,Y,Y,Z,Z,Z,Z,Z,Z,Z] #[Y,Y,Y,Y,Y,Y,Z,Y,Y,Y,Z,Z,Z,Z,Y,Z,Z] rfl rfl rfl rfl (two_of HT_.out (by kernel_rfl)) (by decide) (by decide) (fun K hK=>?_) (fun K hK=>?_)
  ·
   skip
   refine goC Try.func94 (spec_l01Power.calls (w:=_) (h:=A3.out)) ?_
   rintro _ ⟨nd,rfl⟩
   refine hK.out _ _ ⟨cA BK932 0,cA BK932 1,cA BK932 2⟩ (fun hHeld=>?_)
   clear hK K
   refine nmA ?_
   refine two_ (i:=10) (j:=14) (Ni:=some 19) (Nj:=some 6) #[Y,Y,Y,Y,Y,Y,Y,Y,Y,Y,Y,Z,Z,Z,Z,Z,Z] #[Y,Y,Y,Y,Y,Y,Y,Y,Y,Y,Z,Z,Z,Z,Y,Z,Z] rfl rfl rfl rfl (two_of HT_.out (by kernel_rfl)) (by decide) (by decide) (fun K hK=>?_) (fun K hK=>?_)
   ·
    skip
    refine goC Try.func97 (spec_l01Of.calls (w:=_) (h:=A4.out)) ?_
    intro w8 hb
    replace BK932:=kB BK932 hb
    replace BK933:=kB BK933 hb
    replace HB:=lB hb
    (try clear hb)
    (try clear hb2)
    (try clear hk)
    (try clear hi)
    refine hK.out _ _ ⟨cA BK932 0,cA BK932 1,cA BK932 2⟩ (fun hHeld=>?_)
    clear hK K
    refine nmA ?_
    refine puA (i:=11) (N:=some 8) #[Y,Y,Y,Y,Y,Y,Y,Y,Y,Y,Y,Y,Z,Z,Z,Z,Z] rfl rfl HT_ ?_
    refine puA (i:=12) (N:=some 20) #[Y,Y,Y,Y,Y,Y,Y,Y,Y,Y,Y,Y,Y,Z,Z,Z,Z] rfl rfl HT_ ?_
    refine puA (i:=13) (N:=some 21) #[Y,Y,Y,Y,Y,Y,Y,Y,Y,Y,Y,Y,Y,Y,Z,Z,Z] rfl rfl HT_ ?_
    refine one_ (i:=14) (N:=some 6) #[Y,Y,Y,Y,Y,Y,Y,Y,Y,Y,Y,Y,Y,Y,Y,Z,Z] rfl rfl (one_of HT_.out (by kernel_rfl)) (by decide) (fun K hK=>?_)
    refine box_step ?hg (N:=6) ?hd (cs:=#[.int .i64 0,.int .i64 0,.int .i64 0]) (t:=28) ?hr ?_;(case hd=>rfl);(case hg=>rfl);(case hr=>first|(go_simp;done)|(go_simp;rfl))
    intro gb939 hg w9 hbox hb
    have BK939:=Aside0.mk hbox
    have GW939:=sA hg
    have GE939:=sA hg
    have NB932_939:=nA hg BK932
    have NB939_932:=nB hg BK932
    have NB933_939:=nA hg BK933
    have NB939_933:=nB hg BK933
    replace BK932:=kB BK932 hb
    replace BK933:=kB BK933 hb
    replace HB:=lB hb
    clear hb hbox hg
    refine hK.out _ _ ⟨cA BK932 0,cA BK932 1,cA BK932 2⟩ (fun hHeld=>?_)
    clear hK K
    refine nmA ?_
    exact norm_ (by simp only [putAll,Act.put,List.setIfInBounds_toArray,List.set_cons_zero,List.set_cons_succ]) (hCont (gb939) _ ⟨hHeld,(bkA BK932),(bkA BK933),(bkA BK939),GW939.out,GE939.out,NB932_939.out,NB939_932.out,NB933_939.out,NB939_933.out,blA⟩)
   ·
    skip
    refine box_step ?hg (N:=6) ?hd (cs:=#[.int .i64 0,.int .i64 0,.int .i64 0]) (t:=28) ?hr ?_;(case hd=>rfl);(case hg=>rfl);(case hr=>first|(go_simp;done)|(go_simp;rfl))
    intro gb939 hg w8 hbox hb
    have BK939:=Aside0.mk hbox
    have GW939:=sA hg
    have GE939:=sA hg
    have NB932_939:=nA hg BK932
    have NB939_932:=nB hg BK932
    have NB933_939:=nA hg BK933
    have NB939_933:=nB hg BK933
    replace BK932:=kB BK932 hb
    replace BK933:=kB BK933 hb
    replace HB:=lB hb
    clear hb hbox hg
    refine hK.out _ _ ⟨cA BK932 0,cA BK932 1,cA BK932 2⟩ (fun hHeld=>?_)
    clear hK K
    refine nmA ?_
    refine one_ (i:=10) (N:=some 19) #[Y,Y,Y,Y,Y,Y,Y,Y,Y,Y,Y,Z,Z,Z,Y,Z,Z] rfl rfl (one_of HT_.out (by kernel_rfl)) (by decide) (fun K hK=>?_)
    refine goC Try.func97 (spec_l01Of.calls (w:=_) (h:=A4.out)) ?_
    intro w9 hb
    replace BK932:=kB BK932 hb
    replace BK933:=kB BK933 hb
    replace BK939:=kB BK939 hb
    replace HB:=lB hb
    (try clear hb)
    (try clear hb2)
    (try clear hk)
    (try clear hi)
    refine hK.out _ _ ⟨cA BK932 0,cA BK932 1,cA BK932 2⟩ (fun hHeld=>?_)
    clear hK K
    refine nmA ?_
    refine puA (i:=11) (N:=some 8) #[Y,Y,Y,Y,Y,Y,Y,Y,Y,Y,Y,Y,Z,Z,Y,Z,Z] rfl rfl HT_ ?_
    refine puA (i:=12) (N:=some 20) #[Y,Y,Y,Y,Y,Y,Y,Y,Y,Y,Y,Y,Y,Z,Y,Z,Z] rfl rfl HT_ ?_
    refine puA (i:=13) (N:=some 21) #[Y,Y,Y,Y,Y,Y,Y,Y,Y,Y,Y,Y,Y,Y,Y,Z,Z] rfl rfl HT_ ?_
    exact norm_ (by simp only [putAll,Act.put,List.setIfInBounds_toArray,List.set_cons_zero,List.set_cons_succ]) (hCont (gb939) _ ⟨hHeld,(bkA BK932),(bkA BK933),(bkA BK939),GW939.out,GE939.out,NB932_939.out,NB939_932.out,NB933_939.out,NB939_933.out,blA⟩)
  ·
   skip
   refine box_step ?hg (N:=6) ?hd (cs:=#[.int .i64 0,.int .i64 0,.int .i64 0]) (t:=28) ?hr ?_;(case hd=>rfl);(case hg=>rfl);(case hr=>first|(go_simp;done)|(go_simp;rfl))
   intro gb939 hg w8 hbox hb
   have BK939:=Aside0.mk hbox
   have GW939:=sA hg
   have GE939:=sA hg
   have NB932_939:=nA hg BK932
   have NB939_932:=nB hg BK932
   have NB933_939:=nA hg BK933
   have NB939_933:=nB hg BK933
   replace BK932:=kB BK932 hb
   replace BK933:=kB BK933 hb
   replace HB:=lB hb
   clear hb hbox hg
   refine hK.out _ _ ⟨cA BK932 0,cA BK932 1,cA BK932 2⟩ (fun hHeld=>?_)
   clear hK K
   refine nmA ?_
   refine one_ (i:=6) (N:=some 15) #[Y,Y,Y,Y,Y,Y,Y,Y,Y,Y,Z,Z,Z,Z,Y,Z,Z] rfl rfl (one_of HT_.out (by kernel_rfl)) (by decide) (fun K hK=>?_)
   refine goC Try.func94 (spec_l01Power.calls (w:=_) (h:=A3.out)) ?_
   rintro _ ⟨nd,rfl⟩
   refine hK.out _ _ ⟨cA BK932 0,cA BK932 1,cA BK932 2⟩ (fun hHeld=>?_)
   clear hK K
   refine nmA ?_
   refine one_ (i:=10) (N:=some 19) #[Y,Y,Y,Y,Y,Y,Y,Y,Y,Y,Y,Z,Z,Z,Y,Z,Z] rfl rfl (one_of HT_.out (by kernel_rfl)) (by decide) (fun K hK=>?_)
   refine goC Try.func97 (spec_l01Of.calls (w:=_) (h:=A4.out)) ?_
   intro w9 hb
   replace BK932:=kB BK932 hb
   replace BK933:=kB BK933 hb
   replace BK939:=kB BK939 hb
   replace HB:=lB hb
   (try clear hb)
   (try clear hb2)
   (try clear hk)
   (try clear hi)
   refine hK.out _ _ ⟨cA BK932 0,cA BK932 1,cA BK932 2⟩ (fun hHeld=>?_)
   clear hK K
   refine nmA ?_
   refine puA (i:=11) (N:=some 8) #[Y,Y,Y,Y,Y,Y,Y,Y,Y,Y,Y,Y,Z,Z,Y,Z,Z] rfl rfl HT_ ?_
   refine puA (i:=12) (N:=some 20) #[Y,Y,Y,Y,Y,Y,Y,Y,Y,Y,Y,Y,Y,Z,Y,Z,Z] rfl rfl HT_ ?_
   refine puA (i:=13) (N:=some 21) #[Y,Y,Y,Y,Y,Y,Y,Y,Y,Y,Y,Y,Y,Y,Y,Z,Z] rfl rfl HT_ ?_
   exact norm_ (by simp only [putAll,Act.put,List.setIfInBounds_toArray,List.set_cons_zero,List.set_cons_succ]) (hCont (gb939) _ ⟨hHeld,(bkA BK932),(bkA BK933),(bkA BK939),GW939.out,GE939.out,NB932_939.out,NB939_932.out,NB933_939.out,NB939_933.out,blA⟩)
 rintro gb939 w10 ⟨hS_,h0_,h1_,h2_,h3_,h4_,h5_,h6_,h7_,h8_,h9_⟩
 have BK939:=Aside0.mk h2_
 have GW939:=Aside0.mk h3_
 have GE939:=Aside0.mk h4_
 have NB932_939:=Aside0.mk h5_
 have NB939_932:=Aside0.mk h6_
 have NB933_939:=Aside0.mk h7_
 have NB939_933:=Aside0.mk h8_
 replace BK932:=Aside0.mk h0_
 replace BK933:=Aside0.mk h1_
 replace HB:=Aside0.mk h9_
 clear h0_ h1_ h2_ h3_ h4_ h5_ h6_ h7_ h8_ h9_
 have hHeld:w10.cell? ⟨gb932,0,none⟩=some (.int .i64 a1_0)∧w10.cell? ⟨gb932,1,none⟩=some (.int .i64 a1_1)∧w10.cell? ⟨gb932,2,none⟩=some (.int .i64 a1_2):=hS_
 refine norm_ (a':=?_) ?_ ?_
 rotate_left
 ·
  simp only [putAll,Act.put,List.setIfInBounds_toArray,List.set_cons_zero,List.set_cons_succ]
  rfl
 refine one_ (i:=15) (N:=none) #[Y,Y,Y,Y,Y,Y,Y,Y,Y,Y,Y,Y,Y,Y,Y,Y,Z] rfl rfl (one_of HT_.out (by kernel_rfl)) (by decide) (fun K hK=>?_)
 have hs11:w10.cell? ⟨gb939,0,none⟩=some (.int .i64 0):=cA BK939 0
 have hfs11:=blk_frozen BK939.out 0
 have hns11_0:=NB932_939.out
 have hns11_1:=NB933_939.out
 have hms11_0:=NB939_932.out
 have hms11_1:=NB939_933.out
 have hs12:w10.cell? ⟨gb939,1,none⟩=some (.int .i64 0):=cA BK939 1
 have hfs12:=blk_frozen BK939.out 1
 have hns12_0:=NB932_939.out
 have hns12_1:=NB933_939.out
 have hms12_0:=NB939_932.out
 have hms12_1:=NB939_933.out
 have hs13:w10.cell? ⟨gb939,2,none⟩=some (.int .i64 0):=cA BK939 2
 have hfs13:=blk_frozen BK939.out 2
 have hns13_0:=NB932_939.out
 have hns13_1:=NB933_939.out
 have hms13_0:=NB939_932.out
 have hms13_1:=NB939_933.out
 refine skip_ (w1:=?_) (by rfl) rfl ?_ ?_
 rotate_left
 ·
  go_simp
  rfl
 refine hK.out _ _ ⟨cfA hHeld.1,cfA hHeld.2.1,cfA hHeld.2.2⟩ (fun hHeld=>?_)
 clear hK K
 refine puA (i:=16) (N:=some 7) #[Y,Y,Y,Y,Y,Y,Y,Y,Y,Y,Y,Y,Y,Y,Y,Y,Y] rfl rfl HT_ ?_
 refine done_ (done_of HT_.out (by kernel_rfl)) ?_
 have hnb14:=NB939_932.out
 have hnc14:=NB932_939.out
 have hnb15:=NB939_933.out
 have hnc15:=NB933_939.out
 obtain ⟨hcz16_0,hcz16_1,hcz16_2,hfz16_0,hfz16_1,hfz16_2⟩:=cz3 BK939
 have hnb17:=NB933_932.out
 have hnc17:=NB932_933.out
 obtain ⟨hcz18_0,hcz18_1,hcz18_2,hfz18_0,hfz18_1,hfz18_2⟩:=cz3 BK933
 try go_wp2
 refine bodyPost_ret (results_ct rfl _ _ gb933 28 #[.int .i64 t935,.int .i64 t936,.int .i64 t937] (0,0) _ rfl (bpA BK933) Try.underlying28 rfl (by kernel_rfl)) rfl ?_
 exact finA blA
def spec_l01Child.f (k:Nat) (a0 a1_0 a1_1 a1_2 a2:Int):Option (Int × Int × Int × Bool):=if a1_0=6 then (some (0,0,0,false)) else ((spec_l01Power.f k a0 a1_2).bind fun t942=>(if a1_0≥0 then ((spec_l01Power.f k a0 a1_0).bind fun t943=>((spec_l01Of.f k a0 (wrap64 (a1_1+(wrap64 ((wrap64 (a2*t942))*t943)))) t942 (wrap64 (a1_0+1))).bind fun bt944=>(some (bt944.1,bt944.2.1,bt944.2.2.1,bt944.2.2.2)))) else ((spec_l01Power.f k a0 (wrap64 (-a1_0))).bind fun t949=>(if t942=0 then (none) else ((spec_l01Power.f k a0 (wrap64 (-a1_0))).bind fun t950=>(if t950=0 then (none) else ((spec_l01Of.f k a0 (wrap64 ((wrap64 (a1_1*(wrap64 (Int.tdiv (mx t942 t949) t942))))+(wrap64 (a2*(wrap64 (Int.tdiv (mx t942 t949) t950)))))) (mx t942 t949) (wrap64 (a1_0+1))).bind fun bt951=>(some (bt951.1,bt951.2.1,bt951.2.2.1,bt951.2.2.2)))))))))
theorem spec_l01Child.mono:∀ a0 a1 a2 a3 a4 k,LeO (spec_l01Child.f k a0 a1 a2 a3 a4) (spec_l01Child.f (k+1) a0 a1 a2 a3 a4):=by
 intro a0 a1 a2 a3 a4 k
 unfold spec_l01Child.f
 repeat' first
   | with_reducible first|exact spec_l01Of.mono ..|exact spec_l01Power.mono ..|exact LeO.refl _|exact LeO.none _|refine LeO.ite ?_ ?_|refine LeO.bind ?_ fun _=>?_
set_option maxHeartbeats 8000000 in
set_option maxRecDepth 100000 in
theorem spec_l01Child.calls (k:Nat) (a0 a1_0 a1_1 a1_2 a2 r1 r2 r3:Int) (r4:Bool) (w:World) (h:spec_l01Child.f k a0 a1_0 a1_1 a1_2 a2=some (r1,r2,r3,r4)) :
  Calls Try.prog 138 #[.int .i64 a0,.agg #[.int .i64 a1_0,.int .i64 a1_1,.int .i64 a1_2],.int .i64 a2] w fun e w'=>e=.returned (.tuple #[.agg #[.int .i64 r1,.int .i64 r2,.int .i64 r3],.bool r4])∧Below w.heap.size w w':=by
 have hu28:=Try.underlying28
 have HB:=Aside0.mk (Below.refl w.heap.size w)
 have H:=h
 unfold spec_l01Child.f at H
 clear h
 by_cases c4:a1_0=6
 ·
  rw [if_pos c4] at H
  have c4b0:(a1_0 == 6)=true:=beq_iff_eq.mpr c4
  have c4b1:(a1_0 != 6)=false:=bne_eq_false_iff_eq.mpr c4
  clear c4
  simp only [Option.some.injEq,Prod.mk.injEq] at H
  obtain ⟨rfl,rfl,rfl,rfl⟩:=H
  go_enter Try.func138,Try.ntmps138
  go_wp2_with (first|((with_reducible refine gate_dst (N:=4) rfl ?_);refine bxE (cs:=#[.int .i64 a1_0,.int .i64 a1_1,.int .i64 a1_2]) (t:=28) ?_;intro gb940 hg w5 hbox hb;have BK940:=Aside0.mk hbox;have GW940:=sA hg;have GE940:=sA hg;replace HB:=lB hb;clear hb hbox hg)|((with_reducible refine gate_dst (N:=6) rfl ?_);refine bxE (cs:=#[.int .i64 0,.int .i64 0,.int .i64 0]) (t:=28) ?_;intro gb941 hg w6 hbox hb;have BK941:=Aside0.mk hbox;have GW941:=sA hg;have GE941:=sA hg;have NB940_941:=nA hg BK940;have NB941_940:=nB hg BK940;replace BK940:=kB BK940 hb;replace HB:=lB hb;clear hb hbox hg;have hnb7:=NB940_941.out;have hnc7:=NB941_940.out;obtain ⟨hcz8_0,hcz8_1,hcz8_2,hfz8_0,hfz8_1,hfz8_2⟩:=cz3 BK940;obtain ⟨hcz9_0,hcz9_1,hcz9_2,hfz9_0,hfz9_1,hfz9_2⟩:=cz3 BK941))
  repeat (go_quiet (first|((with_reducible refine gate_dst (N:=4) rfl ?_);refine bxE (cs:=#[.int .i64 a1_0,.int .i64 a1_1,.int .i64 a1_2]) (t:=28) ?_;intro gb940 hg w5 hbox hb;have BK940:=Aside0.mk hbox;have GW940:=sA hg;have GE940:=sA hg;replace HB:=lB hb;clear hb hbox hg)|((with_reducible refine gate_dst (N:=6) rfl ?_);refine bxE (cs:=#[.int .i64 0,.int .i64 0,.int .i64 0]) (t:=28) ?_;intro gb941 hg w6 hbox hb;have BK941:=Aside0.mk hbox;have GW941:=sA hg;have GE941:=sA hg;have NB940_941:=nA hg BK940;have NB941_940:=nB hg BK940;replace BK940:=kB BK940 hb;replace HB:=lB hb;clear hb hbox hg;have hnb7:=NB940_941.out;have hnc7:=NB941_940.out;obtain ⟨hcz8_0,hcz8_1,hcz8_2,hfz8_0,hfz8_1,hfz8_2⟩:=cz3 BK940;obtain ⟨hcz9_0,hcz9_1,hcz9_2,hfz9_0,hfz9_1,hfz9_2⟩:=cz3 BK941));try go_wp2_with (first|((with_reducible refine gate_dst (N:=4) rfl ?_);refine bxE (cs:=#[.int .i64 a1_0,.int .i64 a1_1,.int .i64 a1_2]) (t:=28) ?_;intro gb940 hg w5 hbox hb;have BK940:=Aside0.mk hbox;have GW940:=sA hg;have GE940:=sA hg;replace HB:=lB hb;clear hb hbox hg)|((with_reducible refine gate_dst (N:=6) rfl ?_);refine bxE (cs:=#[.int .i64 0,.int .i64 0,.int .i64 0]) (t:=28) ?_;intro gb941 hg w6 hbox hb;have BK941:=Aside0.mk hbox;have GW941:=sA hg;have GE941:=sA hg;have NB940_941:=nA hg BK940;have NB941_940:=nB hg BK940;replace BK940:=kB BK940 hb;replace HB:=lB hb;clear hb hbox hg;have hnb7:=NB940_941.out;have hnc7:=NB941_940.out;obtain ⟨hcz8_0,hcz8_1,hcz8_2,hfz8_0,hfz8_1,hfz8_2⟩:=cz3 BK940;obtain ⟨hcz9_0,hcz9_1,hcz9_2,hfz9_0,hfz9_1,hfz9_2⟩:=cz3 BK941)))
  refine bodyPost_ret (results_ct rfl _ _ gb941 28 #[.int .i64 0,.int .i64 0,.int .i64 0] (0,0) _ rfl (bpA BK941) Try.underlying28 rfl (by kernel_rfl)) rfl ?_
  exact finA blA
 ·
  rw [if_neg c4] at H
  have c4b0:(a1_0 == 6)=false:=beq_eq_false_iff_ne.mpr c4
  have c4b1:(a1_0 != 6)=true:=bne_iff_ne.mpr c4
  replace H:=bS H
  obtain ⟨t942,A10,H⟩:=H
  try dsimp only at H
  by_cases c11:a1_0≥0
  ·
   rw [if_pos c11] at H
   have c11b0:decide (0≤a1_0)=true:=decide_eq_true c11
   clear c11
   replace H:=bS H
   obtain ⟨t943,A12,H⟩:=H
   try dsimp only at H
   replace H:=bS H
   obtain ⟨⟨t944,t945,t946,t947⟩,A13,H⟩:=H
   try dsimp only at H
   simp only [Option.some.injEq,Prod.mk.injEq] at H
   obtain ⟨rfl,rfl,rfl,rfl⟩:=H
   go_enter Try.func138,Try.ntmps138
   go_wp2_with (first|((with_reducible refine gate_dst (N:=4) rfl ?_);refine bxE (cs:=#[.int .i64 a1_0,.int .i64 a1_1,.int .i64 a1_2]) (t:=28) ?_;intro gb940 hg w14 hbox hb;have BK940:=Aside0.mk hbox;have GW940:=sA hg;have GE940:=sA hg;replace HB:=lB hb;clear hb hbox hg)|((with_reducible refine gate_dst (N:=6) rfl ?_);refine bxE (cs:=#[.int .i64 0,.int .i64 0,.int .i64 0]) (t:=28) ?_;intro gb941 hg w15 hbox hb;have BK941:=Aside0.mk hbox;have GW941:=sA hg;have GE941:=sA hg;have NB940_941:=nA hg BK940;have NB941_940:=nB hg BK940;replace BK940:=kB BK940 hb;replace HB:=lB hb;clear hb hbox hg;have hnb16:=NB940_941.out;have hnc16:=NB941_940.out;obtain ⟨hcz17_0,hcz17_1,hcz17_2,hfz17_0,hfz17_1,hfz17_2⟩:=cz3 BK940)|(go_at_call 94;(with_reducible refine (spec_l01Power.calls k a0 a1_2 t942 _ A10.out).mono ?_);rintro e w' ⟨rfl,⟨nd,rfl⟩⟩;(try exact dd))|(go_at_call 94;(with_reducible refine (spec_l01Power.calls k a0 a1_0 t943 _ A12.out).mono ?_);rintro e w' ⟨rfl,⟨nd,rfl⟩⟩;(try exact dd))|(go_at_call 97;(with_reducible refine (spec_l01Of.calls k a0 (wrap64 (a1_1+(wrap64 ((wrap64 (a2*t942))*t943)))) t942 (wrap64 (a1_0+1)) t944 t945 t946 t947 _ A13.out).mono ?_);rintro e w18 ⟨rfl,hb⟩;replace BK940:=kB BK940 hb;replace BK941:=kB BK941 hb;replace HB:=lB hb;clear hb)|((with_reducible refine gate_dst (N:=11) rfl ?_);refine bxE (cs:=#[.int .i64 0,.int .i64 0,.int .i64 0]) (t:=28) ?_;intro gb948 hg w19 hbox hb;have BK948:=Aside0.mk hbox;have GW948:=sA hg;have GE948:=sA hg;have NB940_948:=nA hg BK940;have NB948_940:=nB hg BK940;have NB941_948:=nA hg BK941;have NB948_941:=nB hg BK941;replace BK940:=kB BK940 hb;replace BK941:=kB BK941 hb;replace HB:=lB hb;clear hb hbox hg;have hnb20:=NB948_940.out;have hnc20:=NB940_948.out;have hnb21:=NB948_941.out;have hnc21:=NB941_948.out;obtain ⟨hcz22_0,hcz22_1,hcz22_2,hfz22_0,hfz22_1,hfz22_2⟩:=cz3 BK948;obtain ⟨hcz23_0,hcz23_1,hcz23_2,hfz23_0,hfz23_1,hfz23_2⟩:=cz3 BK941))
   repeat (go_quiet (first|((with_reducible refine gate_dst (N:=4) rfl ?_);refine bxE (cs:=#[.int .i64 a1_0,.int .i64 a1_1,.int .i64 a1_2]) (t:=28) ?_;intro gb940 hg w14 hbox hb;have BK940:=Aside0.mk hbox;have GW940:=sA hg;have GE940:=sA hg;replace HB:=lB hb;clear hb hbox hg)|((with_reducible refine gate_dst (N:=6) rfl ?_);refine bxE (cs:=#[.int .i64 0,.int .i64 0,.int .i64 0]) (t:=28) ?_;intro gb941 hg w15 hbox hb;have BK941:=Aside0.mk hbox;have GW941:=sA hg;have GE941:=sA hg;have NB940_941:=nA hg BK940;have NB941_940:=nB hg BK940;replace BK940:=kB BK940 hb;replace HB:=lB hb;clear hb hbox hg;have hnb16:=NB940_941.out;have hnc16:=NB941_940.out;obtain ⟨hcz17_0,hcz17_1,hcz17_2,hfz17_0,hfz17_1,hfz17_2⟩:=cz3 BK940)|(go_at_call 94;(with_reducible refine (spec_l01Power.calls k a0 a1_2 t942 _ A10.out).mono ?_);rintro e w' ⟨rfl,⟨nd,rfl⟩⟩;(try exact dd))|(go_at_call 94;(with_reducible refine (spec_l01Power.calls k a0 a1_0 t943 _ A12.out).mono ?_);rintro e w' ⟨rfl,⟨nd,rfl⟩⟩;(try exact dd))|(go_at_call 97;(with_reducible refine (spec_l01Of.calls k a0 (wrap64 (a1_1+(wrap64 ((wrap64 (a2*t942))*t943)))) t942 (wrap64 (a1_0+1)) t944 t945 t946 t947 _ A13.out).mono ?_);rintro e w18 ⟨rfl,hb⟩;replace BK940:=kB BK940 hb;replace BK941:=kB BK941 hb;replace HB:=lB hb;clear hb)|((with_reducible refine gate_dst (N:=11) rfl ?_);refine bxE (cs:=#[.int .i64 0,.int .i64 0,.int .i64 0]) (t:=28) ?_;intro gb948 hg w19 hbox hb;have BK948:=Aside0.mk hbox;have GW948:=sA hg;have GE948:=sA hg;have NB940_948:=nA hg BK940;have NB948_940:=nB hg BK940;have NB941_948:=nA hg BK941;have NB948_941:=nB hg BK941;replace BK940:=kB BK940 hb;replace BK941:=kB BK941 hb;replace HB:=lB hb;clear hb hbox hg;have hnb20:=NB948_940.out;have hnc20:=NB940_948.out;have hnb21:=NB948_941.out;have hnc21:=NB941_948.out;obtain ⟨hcz22_0,hcz22_1,hcz22_2,hfz22_0,hfz22_1,hfz22_2⟩:=cz3 BK948;obtain ⟨hcz23_0,hcz23_1,hcz23_2,hfz23_0,hfz23_1,hfz23_2⟩:=cz3 BK941));try go_wp2_with (first|((with_reducible refine gate_dst (N:=4) rfl ?_);refine bxE (cs:=#[.int .i64 a1_0,.int .i64 a1_1,.int .i64 a1_2]) (t:=28) ?_;intro gb940 hg w14 hbox hb;have BK940:=Aside0.mk hbox;have GW940:=sA hg;have GE940:=sA hg;replace HB:=lB hb;clear hb hbox hg)|((with_reducible refine gate_dst (N:=6) rfl ?_);refine bxE (cs:=#[.int .i64 0,.int .i64 0,.int .i64 0]) (t:=28) ?_;intro gb941 hg w15 hbox hb;have BK941:=Aside0.mk hbox;have GW941:=sA hg;have GE941:=sA hg;have NB940_941:=nA hg BK940;have NB941_940:=nB hg BK940;replace BK940:=kB BK940 hb;replace HB:=lB hb;clear hb hbox hg;have hnb16:=NB940_941.out;have hnc16:=NB941_940.out;obtain ⟨hcz17_0,hcz17_1,hcz17_2,hfz17_0,hfz17_1,hfz17_2⟩:=cz3 BK940)|(go_at_call 94;(with_reducible refine (spec_l01Power.calls k a0 a1_2 t942 _ A10.out).mono ?_);rintro e w' ⟨rfl,⟨nd,rfl⟩⟩;(try exact dd))|(go_at_call 94;(with_reducible refine (spec_l01Power.calls k a0 a1_0 t943 _ A12.out).mono ?_);rintro e w' ⟨rfl,⟨nd,rfl⟩⟩;(try exact dd))|(go_at_call 97;(with_reducible refine (spec_l01Of.calls k a0 (wrap64 (a1_1+(wrap64 ((wrap64 (a2*t942))*t943)))) t942 (wrap64 (a1_0+1)) t944 t945 t946 t947 _ A13.out).mono ?_);rintro e w18 ⟨rfl,hb⟩;replace BK940:=kB BK940 hb;replace BK941:=kB BK941 hb;replace HB:=lB hb;clear hb)|((with_reducible refine gate_dst (N:=11) rfl ?_);refine bxE (cs:=#[.int .i64 0,.int .i64 0,.int .i64 0]) (t:=28) ?_;intro gb948 hg w19 hbox hb;have BK948:=Aside0.mk hbox;have GW948:=sA hg;have GE948:=sA hg;have NB940_948:=nA hg BK940;have NB948_940:=nB hg BK940;have NB941_948:=nA hg BK941;have NB948_941:=nB hg BK941;replace BK940:=kB BK940 hb;replace BK941:=kB BK941 hb;replace HB:=lB hb;clear hb hbox hg;have hnb20:=NB948_940.out;have hnc20:=NB940_948.out;have hnb21:=NB948_941.out;have hnc21:=NB941_948.out;obtain ⟨hcz22_0,hcz22_1,hcz22_2,hfz22_0,hfz22_1,hfz22_2⟩:=cz3 BK948;obtain ⟨hcz23_0,hcz23_1,hcz23_2,hfz23_0,hfz23_1,hfz23_2⟩:=cz3 BK941)))
   refine bodyPost_ret (results_ct rfl _ _ gb941 28 #[.int .i64 t944,.int .i64 t945,.int .i64 t946] (0,0) _ rfl (bpA BK941) Try.underlying28 rfl (by kernel_rfl)) rfl ?_
   exact finA blA
  ·
   rw [if_neg c11] at H
   have c11b0:decide (0≤a1_0)=false:=decide_eq_false c11
   clear c11
   replace H:=bS H
   obtain ⟨t949,A24,H⟩:=H
   try dsimp only at H
   obtain ⟨ji25,hji25⟩:∃ j_:Int,(mx t942 t949)=j_:=⟨_,rfl⟩
   replace H:(if t942=0 then (none) else ((spec_l01Power.f k a0 (wrap64 (-a1_0))).bind fun t950=>(if t950=0 then (none) else ((spec_l01Of.f k a0 (wrap64 ((wrap64 (a1_1*(wrap64 (Int.tdiv (ji25) t942))))+(wrap64 (a2*(wrap64 (Int.tdiv (ji25) t950)))))) (ji25) (wrap64 (a1_0+1))).bind fun bt951=>(some (bt951.1,bt951.2.1,bt951.2.2.1,bt951.2.2.2))))))=some (r1,r2,r3,r4):=by first|(rw [hji25] at H;exact H)|(simp only [hji25] at H ⊢;exact H)
   (try rw [hji25] at A10)
   (try rw [hji25] at A24)
   have hji25_:(if t942<t949 then t949 else t942)=ji25:=hji25
   by_cases c26:t942=0
   ·
    rw [if_pos c26] at H
    exact absurd H (by simp)
   rw [if_neg c26] at H
   have c26b0:(t942 == 0)=false:=beq_eq_false_iff_ne.mpr c26
   have c26b1:(t942 != 0)=true:=bne_iff_ne.mpr c26
   replace H:=bS H
   obtain ⟨t950,A27,H⟩:=H
   try dsimp only at H
   try (obtain rfl:t950=t949:=Option.some.inj (A27.out.symm.trans A24.out))
   by_cases c28:t950=0
   ·
    rw [if_pos c28] at H
    exact absurd H (by simp)
   rw [if_neg c28] at H
   have c28b0:(t950 == 0)=false:=beq_eq_false_iff_ne.mpr c28
   have c28b1:(t950 != 0)=true:=bne_iff_ne.mpr c28
   replace H:=bS H
   obtain ⟨⟨t951,t952,t953,t954⟩,A29,H⟩:=H
   try dsimp only at H
   simp only [Option.some.injEq,Prod.mk.injEq] at H
   obtain ⟨rfl,rfl,rfl,rfl⟩:=H
   go_enter Try.func138,Try.ntmps138
   go_wp2_with (first|((with_reducible refine gate_dst (N:=4) rfl ?_);refine bxE (cs:=#[.int .i64 a1_0,.int .i64 a1_1,.int .i64 a1_2]) (t:=28) ?_;intro gb940 hg w30 hbox hb;have BK940:=Aside0.mk hbox;have GW940:=sA hg;have GE940:=sA hg;replace HB:=lB hb;clear hb hbox hg)|((with_reducible refine gate_dst (N:=6) rfl ?_);refine bxE (cs:=#[.int .i64 0,.int .i64 0,.int .i64 0]) (t:=28) ?_;intro gb941 hg w31 hbox hb;have BK941:=Aside0.mk hbox;have GW941:=sA hg;have GE941:=sA hg;have NB940_941:=nA hg BK940;have NB941_940:=nB hg BK940;replace BK940:=kB BK940 hb;replace HB:=lB hb;clear hb hbox hg;have hnb32:=NB940_941.out;have hnc32:=NB941_940.out;obtain ⟨hcz33_0,hcz33_1,hcz33_2,hfz33_0,hfz33_1,hfz33_2⟩:=cz3 BK940)|(go_at_call 94;(with_reducible refine (spec_l01Power.calls k a0 a1_2 t942 _ A10.out).mono ?_);rintro e w' ⟨rfl,⟨nd,rfl⟩⟩;(try exact dd))|(go_at_call 94;(with_reducible refine (spec_l01Power.calls k a0 (wrap64 (-a1_0)) t949 _ A24.out).mono ?_);rintro e w' ⟨rfl,⟨nd,rfl⟩⟩;(try exact dd))|(go_at_call 94;(with_reducible refine (spec_l01Power.calls k a0 (wrap64 (-a1_0)) t950 _ A27.out).mono ?_);rintro e w' ⟨rfl,⟨nd,rfl⟩⟩;(try exact dd))|(go_at_call 97;(with_reducible refine (spec_l01Of.calls k a0 (wrap64 ((wrap64 (a1_1*(wrap64 (Int.tdiv (ji25) t942))))+(wrap64 (a2*(wrap64 (Int.tdiv (ji25) t950)))))) ji25 (wrap64 (a1_0+1)) t951 t952 t953 t954 _ A29.out).mono ?_);rintro e w34 ⟨rfl,hb⟩;replace BK940:=kB BK940 hb;replace BK941:=kB BK941 hb;replace HB:=lB hb;clear hb)|((with_reducible refine gate_dst (N:=11) rfl ?_);refine bxE (cs:=#[.int .i64 0,.int .i64 0,.int .i64 0]) (t:=28) ?_;intro gb955 hg w35 hbox hb;have BK955:=Aside0.mk hbox;have GW955:=sA hg;have GE955:=sA hg;have NB940_955:=nA hg BK940;have NB955_940:=nB hg BK940;have NB941_955:=nA hg BK941;have NB955_941:=nB hg BK941;replace BK940:=kB BK940 hb;replace BK941:=kB BK941 hb;replace HB:=lB hb;clear hb hbox hg;have hnb36:=NB955_940.out;have hnc36:=NB940_955.out;have hnb37:=NB955_941.out;have hnc37:=NB941_955.out;obtain ⟨hcz38_0,hcz38_1,hcz38_2,hfz38_0,hfz38_1,hfz38_2⟩:=cz3 BK955;obtain ⟨hcz39_0,hcz39_1,hcz39_2,hfz39_0,hfz39_1,hfz39_2⟩:=cz3 BK941))
   repeat (go_quiet (first|((with_reducible refine gate_dst (N:=4) rfl ?_);refine bxE (cs:=#[.int .i64 a1_0,.int .i64 a1_1,.int .i64 a1_2]) (t:=28) ?_;intro gb940 hg w30 hbox hb;have BK940:=Aside0.mk hbox;have GW940:=sA hg;have GE940:=sA hg;replace HB:=lB hb;clear hb hbox hg)|((with_reducible refine gate_dst (N:=6) rfl ?_);refine bxE (cs:=#[.int .i64 0,.int .i64 0,.int .i64 0]) (t:=28) ?_;intro gb941 hg w31 hbox hb;have BK941:=Aside0.mk hbox;have GW941:=sA hg;have GE941:=sA hg;have NB940_941:=nA hg BK940;have NB941_940:=nB hg BK940;replace BK940:=kB BK940 hb;replace HB:=lB hb;clear hb hbox hg;have hnb32:=NB940_941.out;have hnc32:=NB941_940.out;obtain ⟨hcz33_0,hcz33_1,hcz33_2,hfz33_0,hfz33_1,hfz33_2⟩:=cz3 BK940)|(go_at_call 94;(with_reducible refine (spec_l01Power.calls k a0 a1_2 t942 _ A10.out).mono ?_);rintro e w' ⟨rfl,⟨nd,rfl⟩⟩;(try exact dd))|(go_at_call 94;(with_reducible refine (spec_l01Power.calls k a0 (wrap64 (-a1_0)) t949 _ A24.out).mono ?_);rintro e w' ⟨rfl,⟨nd,rfl⟩⟩;(try exact dd))|(go_at_call 94;(with_reducible refine (spec_l01Power.calls k a0 (wrap64 (-a1_0)) t950 _ A27.out).mono ?_);rintro e w' ⟨rfl,⟨nd,rfl⟩⟩;(try exact dd))|(go_at_call 97;(with_reducible refine (spec_l01Of.calls k a0 (wrap64 ((wrap64 (a1_1*(wrap64 (Int.tdiv (ji25) t942))))+(wrap64 (a2*(wrap64 (Int.tdiv (ji25) t950)))))) ji25 (wrap64 (a1_0+1)) t951 t952 t953 t954 _ A29.out).mono ?_);rintro e w34 ⟨rfl,hb⟩;replace BK940:=kB BK940 hb;replace BK941:=kB BK941 hb;replace HB:=lB hb;clear hb)|((with_reducible refine gate_dst (N:=11) rfl ?_);refine bxE (cs:=#[.int .i64 0,.int .i64 0,.int .i64 0]) (t:=28) ?_;intro gb955 hg w35 hbox hb;have BK955:=Aside0.mk hbox;have GW955:=sA hg;have GE955:=sA hg;have NB940_955:=nA hg BK940;have NB955_940:=nB hg BK940;have NB941_955:=nA hg BK941;have NB955_941:=nB hg BK941;replace BK940:=kB BK940 hb;replace BK941:=kB BK941 hb;replace HB:=lB hb;clear hb hbox hg;have hnb36:=NB955_940.out;have hnc36:=NB940_955.out;have hnb37:=NB955_941.out;have hnc37:=NB941_955.out;obtain ⟨hcz38_0,hcz38_1,hcz38_2,hfz38_0,hfz38_1,hfz38_2⟩:=cz3 BK955;obtain ⟨hcz39_0,hcz39_1,hcz39_2,hfz39_0,hfz39_1,hfz39_2⟩:=cz3 BK941));try go_wp2_with (first|((with_reducible refine gate_dst (N:=4) rfl ?_);refine bxE (cs:=#[.int .i64 a1_0,.int .i64 a1_1,.int .i64 a1_2]) (t:=28) ?_;intro gb940 hg w30 hbox hb;have BK940:=Aside0.mk hbox;have GW940:=sA hg;have GE940:=sA hg;replace HB:=lB hb;clear hb hbox hg)|((with_reducible refine gate_dst (N:=6) rfl ?_);refine bxE (cs:=#[.int .i64 0,.int .i64 0,.int .i64 0]) (t:=28) ?_;intro gb941 hg w31 hbox hb;have BK941:=Aside0.mk hbox;have GW941:=sA hg;have GE941:=sA hg;have NB940_941:=nA hg BK940;have NB941_940:=nB hg BK940;replace BK940:=kB BK940 hb;replace HB:=lB hb;clear hb hbox hg;have hnb32:=NB940_941.out;have hnc32:=NB941_940.out;obtain ⟨hcz33_0,hcz33_1,hcz33_2,hfz33_0,hfz33_1,hfz33_2⟩:=cz3 BK940)|(go_at_call 94;(with_reducible refine (spec_l01Power.calls k a0 a1_2 t942 _ A10.out).mono ?_);rintro e w' ⟨rfl,⟨nd,rfl⟩⟩;(try exact dd))|(go_at_call 94;(with_reducible refine (spec_l01Power.calls k a0 (wrap64 (-a1_0)) t949 _ A24.out).mono ?_);rintro e w' ⟨rfl,⟨nd,rfl⟩⟩;(try exact dd))|(go_at_call 94;(with_reducible refine (spec_l01Power.calls k a0 (wrap64 (-a1_0)) t950 _ A27.out).mono ?_);rintro e w' ⟨rfl,⟨nd,rfl⟩⟩;(try exact dd))|(go_at_call 97;(with_reducible refine (spec_l01Of.calls k a0 (wrap64 ((wrap64 (a1_1*(wrap64 (Int.tdiv (ji25) t942))))+(wrap64 (a2*(wrap64 (Int.tdiv (ji25) t950)))))) ji25 (wrap64 (a1_0+1)) t951 t952 t953 t954 _ A29.out).mono ?_);rintro e w34 ⟨rfl,hb⟩;replace BK940:=kB BK940 hb;replace BK941:=kB BK941 hb;replace HB:=lB hb;clear hb)|((with_reducible refine gate_dst (N:=11) rfl ?_);refine bxE (cs:=#[.int .i64 0,.int .i64 0,.int .i64 0]) (t:=28) ?_;intro gb955 hg w35 hbox hb;have BK955:=Aside0.mk hbox;have GW955:=sA hg;have GE955:=sA hg;have NB940_955:=nA hg BK940;have NB955_940:=nB hg BK940;have NB941_955:=nA hg BK941;have NB955_941:=nB hg BK941;replace BK940:=kB BK940 hb;replace BK941:=kB BK941 hb;replace HB:=lB hb;clear hb hbox hg;have hnb36:=NB955_940.out;have hnc36:=NB940_955.out;have hnb37:=NB955_941.out;have hnc37:=NB941_955.out;obtain ⟨hcz38_0,hcz38_1,hcz38_2,hfz38_0,hfz38_1,hfz38_2⟩:=cz3 BK955;obtain ⟨hcz39_0,hcz39_1,hcz39_2,hfz39_0,hfz39_1,hfz39_2⟩:=cz3 BK941)))
   refine bodyPost_ret (results_ct rfl _ _ gb941 28 #[.int .i64 t951,.int .i64 t952,.int .i64 t953] (0,0) _ rfl (bpA BK941) Try.underlying28 rfl (by kernel_rfl)) rfl ?_
   exact ⟨by first|rfl|(simp [errW_none,errW_some] <;> rfl)|(simp only [← hji25];first|rfl|(simp [errW_none,errW_some] <;> rfl))|(simp [*,errW_none,errW_some] <;> rfl),blA⟩
def spec_l02Distance.f (k:Nat) (a0 a1_0 a1_1 a1_2 a2_0 a2_1 a2_2:Int):Option (Int):=(spec_l02Join.f k a0 a1_0 a1_1 a1_2 a2_0 a2_1 a2_2).bind fun t765=>(some (wrap64 ((wrap64 (a1_0+a2_0)) - (wrap64 (2*t765)))))
theorem spec_l02Distance.mono:∀ a0 a1 a2 a3 a4 a5 a6 k,LeO (spec_l02Distance.f k a0 a1 a2 a3 a4 a5 a6) (spec_l02Distance.f (k+1) a0 a1 a2 a3 a4 a5 a6):=by
 intro a0 a1 a2 a3 a4 a5 a6 k
 unfold spec_l02Distance.f
 repeat' first
   | with_reducible first|exact spec_l02Join.mono ..|exact LeO.refl _|exact LeO.none _|refine LeO.ite ?_ ?_|refine LeO.bind ?_ fun _=>?_
def spec_l02Distance.T1:Bool × List (List Nat × List Nat):=(true,[([],[]),([0],[0]),([],[]),([2],[2]),([1,3],[1,3]),([],[]),([],[]),([],[]),([5,6,7],[5,6,7]),([8],[8]),([4,9],[4,9]),([10,8,0,1,2,3,4,5,6,7,8,9,10],[10])])
def spec_l02Distance.B1:List Nat:=[0,1,0,4,15,0,0,0,224,480,1023,2047]
theorem spec_l02Distance.tab1:rtab .any (opsOf Try.f78 1)=spec_l02Distance.T1:=by kernel_rfl
theorem spec_l02Distance.bits1:waitsOk spec_l02Distance.T1.2 spec_l02Distance.B1=true:=by kernel_rfl
set_option maxHeartbeats 8000000 in
set_option maxRecDepth 100000 in
theorem spec_l02Distance.calls (k:Nat) (a0 a1_0 a1_1 a1_2 a2_0 a2_1 a2_2 r:Int) (w:World) (h:spec_l02Distance.f k a0 a1_0 a1_1 a1_2 a2_0 a2_1 a2_2=some r) :
  Calls Try.prog 78 #[.int .i64 a0,.agg #[.int .i64 a1_0,.int .i64 a1_1,.int .i64 a1_2],.agg #[.int .i64 a2_0,.int .i64 a2_1,.int .i64 a2_2]] w fun e w'=>e=.returned (.int .i64 r)∧Below w.heap.size w w':=by
 have hu28:=Try.underlying28
 have HB:=Aside0.mk (Below.refl w.heap.size w)
 have H:=h
 unfold spec_l02Distance.f at H
 clear h
 replace H:=bS H
 obtain ⟨t765,A4,H⟩:=H
 try dsimp only at H
 obtain rfl:=Option.some.inj H
 go_enter Try.func78,Try.ntmps78
 try go_wp2_with (first|((with_reducible refine gate_dst (N:=4) rfl ?_);refine bxE (cs:=#[.int .i64 a1_0,.int .i64 a1_1,.int .i64 a1_2]) (t:=28) ?_;intro gb763 hg w5 hbox hb;have n0_:=lB hb;have n1_:=Aside0.mk hbox;have n2_:=sA hg;have n3_:=sA hg;clear HB;have HB:=n0_;have BK763:=n1_;have GW763:=n2_;have GE763:=n3_;clear n0_ n1_ n2_ n3_;clear hb hbox hg)|((with_reducible refine gate_dst (N:=5) rfl ?_);refine bxE (cs:=#[.int .i64 a2_0,.int .i64 a2_1,.int .i64 a2_2]) (t:=28) ?_;intro gb764 hg w6 hbox hb;have n0_:=kB BK763 hb;have n1_:=lB hb;have n2_:=Aside0.mk hbox;have n3_:=sA hg;have n4_:=sA hg;have n5_:=nA hg BK763;have n6_:=nB hg BK763;clear BK763;clear HB;have BK763:=n0_;have HB:=n1_;have BK764:=n2_;have GW764:=n3_;have GE764:=n4_;have NB763_764:=n5_;have NB764_763:=n6_;clear n0_ n1_ n2_ n3_ n4_ n5_ n6_;clear hb hbox hg))
 have n0_:=Aside0.mk (blk_drew BK763.out)
 have n1_:=Aside0.mk (blk_drew BK764.out)
 have n2_:=Aside0.mk (below_drew1 HB.out)
 clear BK763
 clear BK764
 clear HB
 have BK763:=n0_
 have BK764:=n1_
 have HB:=n2_
 clear n0_ n1_ n2_
 refine start_ (n:=12) (S:=fun w'=>w'.cell? ⟨gb763,0,none⟩=some (.int .i64 a1_0)∧w'.cell? ⟨gb763,1,none⟩=some (.int .i64 a1_1)∧w'.cell? ⟨gb763,2,none⟩=some (.int .i64 a1_2)∧w'.cell? ⟨gb764,0,none⟩=some (.int .i64 a2_0)∧w'.cell? ⟨gb764,1,none⟩=some (.int .i64 a2_1)∧w'.cell? ⟨gb764,2,none⟩=some (.int .i64 a2_2)) (ds:=[]) #[Z,Z,Z,Z,Z,Z,Z,Z,Z,Z,Z,Z] (by kernel_rfl) rfl rfl ⟨cA BK763 0,cA BK763 1,cA BK763 2,cA BK764 0,cA BK764 1,cA BK764 2⟩ (fun hHeld=>?_);refine with_tabW spec_l02Distance.tab1 spec_l02Distance.bits1 (fun HT_ HW_=>?_)
 generalize w6.drew=w7 at BK763 BK764 HB hHeld ⊢
 refine puA (i:=0) (N:=some 7) #[Y,Z,Z,Z,Z,Z,Z,Z,Z,Z,Z,Z] rfl rfl HT_ ?_
 refine puA (i:=2) (N:=some 9) #[Y,Z,Y,Z,Z,Z,Z,Z,Z,Z,Z,Z] rfl rfl HT_ ?_
 refine puA (i:=5) (N:=some 12) #[Y,Z,Y,Z,Z,Y,Z,Z,Z,Z,Z,Z] rfl rfl HT_ ?_
 refine taA (i:=1) (N:=some 8) #[Y,Y,Y,Z,Z,Y,Z,Z,Z,Z,Z,Z] rfl rfl HT_ HW_ hHeld ?_
 refine taA (i:=3) (N:=some 10) #[Y,Y,Y,Y,Z,Y,Z,Z,Z,Z,Z,Z] rfl rfl HT_ HW_ hHeld ?_
 refine puA (i:=4) (N:=some 11) #[Y,Y,Y,Y,Y,Y,Z,Z,Z,Z,Z,Z] rfl rfl HT_ ?_
 refine taA (i:=6) (N:=some 13) #[Y,Y,Y,Y,Y,Y,Y,Z,Z,Z,Z,Z] rfl rfl HT_ HW_ hHeld ?_
 refine taA (i:=7) (N:=some 14) #[Y,Y,Y,Y,Y,Y,Y,Y,Z,Z,Z,Z] rfl rfl HT_ HW_ hHeld ?_
 refine one_ (i:=8) (N:=some 15) #[Y,Y,Y,Y,Y,Y,Y,Y,Y,Z,Z,Z] rfl rfl (one_of HT_.out (by kernel_rfl)) (by decide) (fun K hK=>?_)
 refine goC Try.func117 (spec_l02Join.calls (w:=_) (h:=A4.out)) ?_
 intro w8 hb
 replace BK763:=kB BK763 hb
 replace BK764:=kB BK764 hb
 replace HB:=lB hb
 (try clear hb)
 (try clear hb2)
 (try clear hk)
 (try clear hi)
 refine hK.out _ _ ⟨cA BK763 0,cA BK763 1,cA BK763 2,cA BK764 0,cA BK764 1,cA BK764 2⟩ (fun hHeld=>?_)
 clear hK K
 refine nmA ?_
 refine puA (i:=9) (N:=some 16) #[Y,Y,Y,Y,Y,Y,Y,Y,Y,Y,Z,Z] rfl rfl HT_ ?_
 refine puA (i:=10) (N:=some 17) #[Y,Y,Y,Y,Y,Y,Y,Y,Y,Y,Y,Z] rfl rfl HT_ ?_
 refine puA (i:=11) (N:=some 6) #[Y,Y,Y,Y,Y,Y,Y,Y,Y,Y,Y,Y] rfl rfl HT_ ?_
 refine done_ (done_of HT_.out (by kernel_rfl)) ?_
 try go_wp2
 go_ret
 exact finA blA
def impl_neighbour.f (k:Nat) (a0 a1_0 a1_1 a1_2 a2:Int):Option (Int × Int × Int × Bool):=if a2=0 then ((impl_parent.f k a0 a1_0 a1_1 a1_2).bind fun bt858=>(some (bt858.1,bt858.2.1,bt858.2.2.1,bt858.2.2.2))) else ((impl_child.f k a0 a1_0 a1_1 a1_2 (wrap64 (a2 - 1))).bind fun bt862=>(some (bt862.1,bt862.2.1,bt862.2.2.1,bt862.2.2.2)))
theorem impl_neighbour.mono:∀ a0 a1 a2 a3 a4 k,LeO (impl_neighbour.f k a0 a1 a2 a3 a4) (impl_neighbour.f (k+1) a0 a1 a2 a3 a4):=by
 intro a0 a1 a2 a3 a4 k
 unfold impl_neighbour.f
 repeat' first
   | with_reducible first|exact impl_child.mono ..|exact impl_parent.mono ..|exact LeO.refl _|exact LeO.none _|refine LeO.ite ?_ ?_|refine LeO.bind ?_ fun _=>?_
set_option maxHeartbeats 8000000 in
set_option maxRecDepth 100000 in
theorem impl_neighbour.calls (k:Nat) (a0 a1_0 a1_1 a1_2 a2 r1 r2 r3:Int) (r4:Bool) (w:World) (h:impl_neighbour.f k a0 a1_0 a1_1 a1_2 a2=some (r1,r2,r3,r4)) :
  Calls Try.prog 136 #[.int .i64 a0,.agg #[.int .i64 a1_0,.int .i64 a1_1,.int .i64 a1_2],.int .i64 a2] w fun e w'=>e=.returned (.tuple #[.agg #[.int .i64 r1,.int .i64 r2,.int .i64 r3],.bool r4])∧Below w.heap.size w w':=by
 have hu28:=Try.underlying28
 have HB:=Aside0.mk (Below.refl w.heap.size w)
 have H:=h
 unfold impl_neighbour.f at H
 clear h
 by_cases c4:a2=0
 ·
  rw [if_pos c4] at H
  have c4b0:(a2 == 0)=true:=beq_iff_eq.mpr c4
  have c4b1:(a2 != 0)=false:=bne_eq_false_iff_eq.mpr c4
  clear c4
  replace H:=bS H
  obtain ⟨⟨t858,t859,t860,t861⟩,A5,H⟩:=H
  try dsimp only at H
  simp only [Option.some.injEq,Prod.mk.injEq] at H
  obtain ⟨rfl,rfl,rfl,rfl⟩:=H
  go_enter Try.func136,Try.ntmps136
  go_wp2_with (first|((with_reducible refine gate_dst (N:=4) rfl ?_);refine bxE (cs:=#[.int .i64 a1_0,.int .i64 a1_1,.int .i64 a1_2]) (t:=28) ?_;intro gb856 hg w6 hbox hb;have BK856:=Aside0.mk hbox;have GW856:=sA hg;have GE856:=sA hg;replace HB:=lB hb;clear hb hbox hg)|((with_reducible refine gate_dst (N:=6) rfl ?_);refine bxE (cs:=#[.int .i64 0,.int .i64 0,.int .i64 0]) (t:=28) ?_;intro gb857 hg w7 hbox hb;have BK857:=Aside0.mk hbox;have GW857:=sA hg;have GE857:=sA hg;have NB856_857:=nA hg BK856;have NB857_856:=nB hg BK856;replace BK856:=kB BK856 hb;replace HB:=lB hb;clear hb hbox hg;have hnb8:=NB856_857.out;have hnc8:=NB857_856.out;obtain ⟨hcz9_0,hcz9_1,hcz9_2,hfz9_0,hfz9_1,hfz9_2⟩:=cz3 BK856)|((with_reducible refine gd 12 rfl ?_);refine gC (some 12) rfl Try.func60 (impl_parent.calls (w:=_) (h:=A5.out)) ?_;intro w10 hb;replace BK856:=kB BK856 hb;replace BK857:=kB BK857 hb;replace HB:=lB hb;clear hb;obtain ⟨hcz11_0,hcz11_1,hcz11_2,hfz11_0,hfz11_1,hfz11_2⟩:=cz3 BK857))
  refine bodyPost_ret (results_ct rfl _ _ gb857 28 #[.int .i64 t858,.int .i64 t859,.int .i64 t860] (0,0) _ rfl (bpA BK857) Try.underlying28 rfl (by kernel_rfl)) rfl ?_
  exact finA blA
 ·
  rw [if_neg c4] at H
  have c4b0:(a2 == 0)=false:=beq_eq_false_iff_ne.mpr c4
  have c4b1:(a2 != 0)=true:=bne_iff_ne.mpr c4
  replace H:=bS H
  obtain ⟨⟨t862,t863,t864,t865⟩,A12,H⟩:=H
  try dsimp only at H
  simp only [Option.some.injEq,Prod.mk.injEq] at H
  obtain ⟨rfl,rfl,rfl,rfl⟩:=H
  go_enter Try.func136,Try.ntmps136
  go_wp2_with (first|((with_reducible refine gate_dst (N:=4) rfl ?_);refine bxE (cs:=#[.int .i64 a1_0,.int .i64 a1_1,.int .i64 a1_2]) (t:=28) ?_;intro gb856 hg w13 hbox hb;have BK856:=Aside0.mk hbox;have GW856:=sA hg;have GE856:=sA hg;replace HB:=lB hb;clear hb hbox hg)|((with_reducible refine gate_dst (N:=6) rfl ?_);refine bxE (cs:=#[.int .i64 0,.int .i64 0,.int .i64 0]) (t:=28) ?_;intro gb857 hg w14 hbox hb;have BK857:=Aside0.mk hbox;have GW857:=sA hg;have GE857:=sA hg;have NB856_857:=nA hg BK856;have NB857_856:=nB hg BK856;replace BK856:=kB BK856 hb;replace HB:=lB hb;clear hb hbox hg;have hnb15:=NB856_857.out;have hnc15:=NB857_856.out;obtain ⟨hcz16_0,hcz16_1,hcz16_2,hfz16_0,hfz16_1,hfz16_2⟩:=cz3 BK856)|((with_reducible refine gd 19 rfl ?_);refine gC (some 19) rfl Try.func139 (impl_child.calls (w:=_) (h:=A12.out)) ?_;intro w17 hb;replace BK856:=kB BK856 hb;replace BK857:=kB BK857 hb;replace HB:=lB hb;clear hb;obtain ⟨hcz18_0,hcz18_1,hcz18_2,hfz18_0,hfz18_1,hfz18_2⟩:=cz3 BK857))
  refine bodyPost_ret (results_ct rfl _ _ gb857 28 #[.int .i64 t862,.int .i64 t863,.int .i64 t864] (0,0) _ rfl (bpA BK857) Try.underlying28 rfl (by kernel_rfl)) rfl ?_
  exact finA blA
def spec_l02Children.l0:Nat→Int→List (S28)→Int→Int→Int→Int→Option ((List (S28)) × Bool)
 | 0,_,_,_,_,_,_=>none
 | k+1,x0,x6,x7,x957000,x957001,x957002=>if x7<x0 then ((spec_l01Child.f k x0 x957000 x957001 x957002 x7).bind fun bt960=>(if bt960.2.2.2=true then (if x6.length<5864062014805 then (spec_l02Children.l0 k x0 (x6 ++ [(⟨bt960.1,bt960.2.1,bt960.2.2.1⟩:S28)]) (wrap64 (x7+1)) x957000 x957001 x957002) else (none)) else (some (([]:List (S28)),false)))) else (some (x6,true))
def spec_l02Children.f (k:Nat) (a0 a1_0 a1_1 a1_2:Int):Option ((List (S28)) × Bool):=spec_l02Children.l0 k a0 (([]:List (S28))) 0 a1_0 a1_1 a1_2
theorem spec_l02Children.mono_l:∀ k,(∀ y0 y1 y2 y3 y4 y5,LeO (spec_l02Children.l0 k y0 y1 y2 y3 y4 y5) (spec_l02Children.l0 (k+1) y0 y1 y2 y3 y4 y5))
 | 0=>fun _ _ _ _ _ _ r h=>by simp [spec_l02Children.l0] at h
 | k+1=>by
  have ih0:=spec_l02Children.mono_l k
  ·
   intro y0 y1 y2 y3 y4 y5
   unfold spec_l02Children.l0
   repeat' first
   | with_reducible first|exact ih0 ..|exact spec_l01Child.mono ..|exact LeO.refl _|exact LeO.none _|refine LeO.ite ?_ ?_|refine LeO.bind ?_ fun _=>?_
theorem spec_l02Children.mono:∀ a0 a1 a2 a3 k,LeO (spec_l02Children.f k a0 a1 a2 a3) (spec_l02Children.f (k+1) a0 a1 a2 a3):=by
 intro a0 a1 a2 a3 k
 have ih0:=spec_l02Children.mono_l k
 unfold spec_l02Children.f
 repeat' first
   | with_reducible first|exact ih0 ..|exact spec_l01Child.mono ..|exact LeO.refl _|exact LeO.none _|refine LeO.ite ?_ ?_|refine LeO.bind ?_ fun _=>?_
set_option maxHeartbeats 8000000 in
set_option maxRecDepth 100000 in
theorem spec_l02Children.calls (k:Nat) (a0 a1_0 a1_1 a1_2:Int) (r1:List (S28)) (r2:Bool) (w:World) (h:spec_l02Children.f k a0 a1_0 a1_1 a1_2=some (r1,r2)) :
  Calls Try.prog 135 #[.int .i64 a0,.agg #[.int .i64 a1_0,.int .i64 a1_1,.int .i64 a1_2]] w fun e w'=>∃ v0_:Value,e=.returned (.tuple #[v0_,.bool r2])∧Kd.R k28 28 w' w.heap.size (fun _=>True) v0_ r1∧Below w.heap.size w w':=by
 have hu28:=Try.underlying28
 have HB:=Aside0.mk (Below.refl w.heap.size w)
 have H:=h
 unfold spec_l02Children.f at H
 clear h
 obtain ⟨y957,hy957⟩:∃ y_:List (S28),y_=(([]:List (S28))):=⟨_,rfl⟩
 replace H:(spec_l02Children.l0 k a0 y957 0 a1_0 a1_1 a1_2)=some (r1,r2):=rH hy957 H
 have Ny957:=Aside0.mk hy957
 clear hy957
 have H':=Aside0.mk H
 clear H
 go_enter Try.func135,Try.ntmps135
 go_wp2_with (first|((with_reducible refine gate_dst (N:=3) rfl ?_);refine bxE (cs:=#[.int .i64 a1_0,.int .i64 a1_1,.int .i64 a1_2]) (t:=28) ?_;intro gb956 hg w3 hbox hb;have BK956:=Aside0.mk hbox;have GW956:=sA hg;have GE956:=sA hg;replace HB:=lB hb;clear hb hbox hg)|((with_reducible refine gate_dst (N:=10) rfl ?_);refine Kd.R_lit k28 _ 28 ?hg (N:=10) ?hd (xs:=([]:List (S28))) (inner:=[]) (ok:=fun _=>True) (okp:=fun _=>True) ?hr ?hp (fun _ hk=>hk) trivial (Below.refl _ _) (Nat.le_refl _) (by simp) ?_;(case hd=>rfl);(case hg=>rfl);(case hr=>first|(go_simp;done)|(go_simp;rfl));(case hp=>exact (Reps.none _ _));intro v958 w4 ho5 hb hg_ hnew_;clear hg_ hnew_;(first|rw [← Ny957.out] at ho5|(simp only [Int.reduceToNat] at ho5;rw [← Ny957.out] at ho5));have HO959:=Aside0.mk (Kd.R_lower (Kd.R_newB ho5 (bkA BK956)) (below_size blA));replace BK956:=kB BK956 hb;replace HB:=lB hb;clear hb ho5))
 go_loopg [6,7] k (fun kq v6 v7 w'=>∃ (x6_1:List (S28)) (x7_1:Int),v7=.int .i64 x7_1∧Aside0 (spec_l02Children.l0 kq a0 x6_1 x7_1 a1_0 a1_1 a1_2=some (r1,r2))∧Aside0 (kq≤k)∧Aside0 (Kd.R k28 28 w' w.heap.size (fun k_=>k_≠gb956) v6 x6_1)∧Aside0 (w'.heap[gb956]?=some (.cells #[.int .i64 a1_0,.int .i64 a1_1,.int .i64 a1_2] 28 (0,0)))∧Aside0 (Below w.heap.size w w'))
 case atStart=>exact ⟨(y957),(0),hB,H',⟨Nat.le_refl _⟩,⟨by (with_reducible repeat (first|apply Kd.R_alloc|apply Kd.R_drewN|apply Kd.R_drew));exact Kd.R_mono HO959.out (fun _ hk=>hk.2)⟩,⟨bkA BK956⟩,⟨blA⟩⟩
 case round=>
  clear H'
  obtain ⟨x6_1,x7_1,rfl,HA,HK1,HO_6,BK956,HB⟩:=hrel
  cases gk with
  | zero=>exact absurd HA.out (by simp [spec_l02Children.l0])
  | succ k1=>
   have H:=HA.out
   clear HA
   simp only [spec_l02Children.l0] at H
   by_cases c6:x7_1<a0
   ·
    rw [if_pos c6] at H
    have c6b0:=decide_eq_true c6
    clear c6
    replace H:=bS H
    obtain ⟨⟨t960,t961,t962,t963⟩,A7,H⟩:=H
    try dsimp only at H
    by_cases c8:t963=true
    focus
     subst c8
     rw [if_pos rfl] at H
     try dsimp only at H
     by_cases c9:x6_1.length<5864062014805
     rotate_left
     ·
      rw [if_neg c9] at H
      exact absurd H (by simp)
     rw [if_pos c9] at H
     have LMc9:=Aside0.mk c9
     clear c9
     obtain ⟨y965,hy965⟩:∃ y_:List (S28),y_=(x6_1 ++ [(⟨t960,t961,t962⟩:S28)]):=⟨_,rfl⟩
     replace H:(spec_l02Children.l0 k1 a0 y965 (wrap64 (x7_1+1)) a1_0 a1_1 a1_2)=some (r1,r2):=rH hy965 H
     have Ny965:=Aside0.mk hy965
     clear hy965
     have H':=Aside0.mk H
     clear H
     obtain ⟨hcz10_0,hcz10_1,hcz10_2,hfz10_0,hfz10_1,hfz10_2⟩:=cz3 BK956
    rotate_left
    focus
     replace c8:=Bool.eq_false_iff.mpr c8
     subst c8
     rw [if_neg (show ¬ (false=true) by decide)] at H
     try dsimp only at H
     simp only [Option.some.injEq,Prod.mk.injEq] at H
     obtain ⟨rfl,rfl⟩:=H
     obtain ⟨hcz16_0,hcz16_1,hcz16_2,hfz16_0,hfz16_1,hfz16_2⟩:=cz3 BK956
    rotate_left
    all_goals
     go_wp2_with (first|((with_reducible refine gd 20 rfl ?_);refine gC (some 20) rfl Try.func138 (spec_l01Child.calls (w:=_) (h:=A7.out)) ?_;intro w11 hb;replace HO_6:=Aside0.mk (Kd.R_below (rA HO_6) hb);replace BK956:=kB BK956 hb;replace HB:=lB hb;clear hb)|((with_reducible refine gate_dst (N:=8) rfl ?_);refine bxE (cs:=#[.int .i64 0,.int .i64 0,.int .i64 0]) (t:=28) ?_;intro gb964 hg w12 hbox hb;have BK964:=Aside0.mk hbox;have GW964:=sA hg;have GE964:=sA hg;have NB956_964:=nA hg BK956;have NB964_956:=nB hg BK956;replace HO_6:=Aside0.mk (Kd.R_below (Kd.R_elderB (rA HO_6) gb964 (Nat.le_of_eq hg.symm)) hb);replace BK956:=kB BK956 hb;replace HB:=lB hb;clear hb hbox hg;have hnb13:=NB964_956.out;have hnc13:=NB956_964.out;obtain ⟨hcz14_0,hcz14_1,hcz14_2,hfz14_0,hfz14_1,hfz14_2⟩:=cz3 BK964)|((with_reducible refine gate_builtin (b:=.append) (xs:=#[.tmp 25,.tmp 27]) rfl ?_);at_builtin;refine Kd.R_append k28 (w0:=w) w.heap.size rfl (.tmp 25) (.tmp 27) 64 28 (.agg #[(.int .i64 0),(.int .i64 0),(.int .i64 0)]) 24 rfl Try.underlying64 info28 rfl (by decide) (by omega) u6 x6_1 (⟨t960,t961,t962⟩:S28) [.int .i64 t960,.int .i64 t961,.int .i64 t962] (fun k_=>k_≠gb956∧k_≠gb964) (fun _=>False) rfl (by first|(go_simp;done)|(go_simp;rfl)) ?aP (fun _ hk=>hk.elim) ?aF ?aO ?aB ?aS ?aL ?_;(case aP=>exact k28_mkM _ _ _ (⟨t960,t961,t962⟩:S28));(case aB=>exact blA);(case aF=>exact (fun k_ hk=>⟨Kd.freshB (g:=gb956) (o:=.cells #[.int .i64 a1_0,.int .i64 a1_1,.int .i64 a1_2] 28 (0,0)) (bkF BK956) k_ hk,Kd.freshB (g:=gb964) (o:=.cells #[.int .i64 t960,.int .i64 t961,.int .i64 t962] 28 (0,0)) (bpA BK964) k_ hk⟩));(case aO=>exact (by (with_reducible repeat (first|apply Kd.R_alloc|apply Kd.R_drewN|apply Kd.R_drew));exact Kd.R_mono (Kd.R_far (p:=⟨gb964,2,none⟩) (Kd.R_far (p:=⟨gb964,1,none⟩) (Kd.R_far (p:=⟨gb964,0,none⟩) (Kd.R_mono HO_6.out (fun k_ hk=>(⟨hk,hk.2⟩:_∧k_≠gb964))) (fun _ hk=>hk.2) (.int .i64 t960)) (fun _ hk=>hk.2) (.int .i64 t961)) (fun _ hk=>hk.2) (.int .i64 t962)) (fun _ hk=>⟨hk.1.1,hk.1.2⟩)));(case aS=>exact (below_size blA));(case aL=>have:=LMc9.out;omega);intro v966 w15 ho hb hg hat;rw [← Ny965.out] at ho;have n0_:=Aside0.mk (blk_grown (g:=gb956) (o:=.cells #[.int .i64 a1_0,.int .i64 a1_1,.int .i64 a1_2] 28 (0,0)) (bkF BK956) hg (Kd.R_away HO_6.out (fun _ hk=>hk.1)));have n1_:=Aside0.mk (blk_grown (g:=gb964) (o:=.cells #[.int .i64 t960,.int .i64 t961,.int .i64 t962] 28 (0,0)) (bpA BK964) hg (Kd.R_away HO_6.out (fun _ hk=>hk.2)));have n2_:=Aside0.mk hb;have n3_:=Aside0.mk ho;clear BK956;clear BK964;clear HB;clear HO_6;have BK956:=n0_;have BK964:=n1_;have HB:=n2_;have HO967:=n3_;clear n0_ n1_ n2_ n3_;clear ho hb hg hat))
    ·
     go_roundg k1
     case measure=>have:=HK1.out;omega
     case rel=>exact ⟨(y965),(wrap64 (x7_1+1)),hB,H',⟨by have:=HK1.out;omega⟩,⟨by (with_reducible repeat (first|apply Kd.R_alloc|apply Kd.R_drewN|apply Kd.R_drew));exact Kd.R_mono HO967.out (fun _ hk=>hk.1)⟩,⟨bkA BK956⟩,⟨blA⟩⟩
    ·
     go_ret2
     exact ⟨_,eW,nlA,blA⟩
   ·
    rw [if_neg c6] at H
    have c6b0:=decide_eq_false c6
    clear c6
    simp only [Option.some.injEq,Prod.mk.injEq] at H
    obtain ⟨rfl,rfl⟩:=H
    go_wp2
    go_ret2
    exact ⟨_,eW,by (with_reducible repeat (first|apply Kd.R_alloc|apply Kd.R_drewN|apply Kd.R_drew));exact Kd.R_mono HO_6.out (fun _ hk=>trivial),blA⟩
end Go.Proofs.Ytlpmefmaplhfdaa.PAll
