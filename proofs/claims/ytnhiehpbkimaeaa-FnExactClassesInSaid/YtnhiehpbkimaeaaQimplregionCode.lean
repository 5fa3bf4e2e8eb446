-- turned out of the kit's print
import Derived.Test.YtnhiehpbkimaeaaQx
import Derived.Test.YtnhiehpbkimaeaaQLeqMatrixS
import Derived.Test.YtnhiehpbkimaeaaQimplBall38
import Derived.Test.YtnhiehpbkimaeaaQimplBall56
import Derived.Test.YtnhiehpbkimaeaaQimplparent
namespace Go.Proofs.Ytnhiehpbkimaeaa.PAll
open Go.RowKit Go.Proofs.YtnhiehpbkimaeaaW.PrintWords Go.Proofs.YtnhiehpbkimaeaaW.PrintLast Go.Proofs.YtnhiehpbkimaeaaW.PrintMore
attribute [local go_sem] Go.Proofs.Ytnhiehpbkimaeaa.Aux.setCell_drewN Go.Proofs.Ytnhiehpbkimaeaa.Aux.isSome_setCell max2_int min2_int max_two min_two max_three min_three max_four min_four
set_option linter.unusedVariables false
set_option linter.unusedSimpArgs false
def spec_l02Children.l0:Nat→Int→List (S53)→Int→Int→Int→Int→Option ((List (S53)) × Bool)
 | 0,_,_,_,_,_,_=>none
 | k+1,x0,x6,x7,x208000,x208001,x208002=>if x7<x0 then ((spec_l01Child.f k x0 x208000 x208001 x208002 x7).bind fun bt211=>(if bt211.2.2.2=true then (if x6.length<5864062014805 then (spec_l02Children.l0 k x0 (x6 ++ [(⟨bt211.1,bt211.2.1,bt211.2.2.1⟩:S53)]) (wrap64 (x7+1)) x208000 x208001 x208002) else (none)) else (some (([]:List (S53)),false)))) else (some (x6,true))
def spec_l02Children.f (k:Nat) (a0 a1_0 a1_1 a1_2:Int):Option ((List (S53)) × Bool):=spec_l02Children.l0 k a0 (([]:List (S53))) 0 a1_0 a1_1 a1_2
theorem spec_l02Children.mono_l:∀ k,(∀ y0 y1 y2 y3 y4 y5,LeO (spec_l02Children.l0 k y0 y1 y2 y3 y4 y5) (spec_l02Children.l0 (k+1) y0 y1 y2 y3 y4 y5))
 | 0=>fun _ _ _ _ _ _ r h=>by simp [spec_l02Children.l0] at h
 | k+1=>by
  have ih0:=spec_l02Children.mono_l k
  ·
   intro y0 y1 y2 y3 y4 y5
   unfold spec_l02Children.l0
   repeat' first
   | with_reducible first|exact ih0 ..|exact spec_l01Child.mono ..|exact LeO.refl _|exact LeO.none _|refine LeO.ite ?_ ?_|refine LeO.bind ?_ fun _=>?_
theorem spec_l02Children.mono:∀ a0 a1 a2 a3 k,LeO (spec_l02Children.f k a0 a1 a2 a3) (spec_l02Children.f (k+1) a0 a1 a2 a3):=by
 intro a0 a1 a2 a3 k
 have ih0:=spec_l02Children.mono_l k
 unfold spec_l02Children.f
 repeat' first
   | with_reducible first|exact ih0 ..|exact spec_l01Child.mono ..|exact LeO.refl _|exact LeO.none _|refine LeO.ite ?_ ?_|refine LeO.bind ?_ fun _=>?_
set_option maxHeartbeats 8000000 in
set_option maxRecDepth 100000 in
theorem spec_l02Children.calls (k:Nat) (a0 a1_0 a1_1 a1_2:Int) (r1:List (S53)) (r2:Bool) (w:World) (h:spec_l02Children.f k a0 a1_0 a1_1 a1_2=some (r1,r2)) :
  Calls Try.prog 61 #[.int .i64 a0,.agg #[.int .i64 a1_0,.int .i64 a1_1,.int .i64 a1_2]] w fun e w'=>∃ v0_:Value,e=.returned (.tuple #[v0_,.bool r2])∧Kd.R k53 53 w' w.heap.size (fun _=>True) v0_ r1∧Below w.heap.size w w':=by
 have hu53:=Try.underlying53
 have HB:=Aside0.mk (Below.refl w.heap.size w)
 have H:=h
 unfold spec_l02Children.f at H
 clear h
 obtain ⟨y208,hy208⟩:∃ y_:List (S53),y_=(([]:List (S53))):=⟨_,rfl⟩
 replace H:(spec_l02Children.l0 k a0 y208 0 a1_0 a1_1 a1_2)=some (r1,r2):=rH hy208 H
 have Ny208:=Aside0.mk hy208
 clear hy208
 have H':=Aside0.mk H
 clear H
 go_enter Try.func61,Try.ntmps61
 go_wp2_with (first|((with_reducible refine gate_dst (N:=3) rfl ?_);refine bxE (cs:=#[.int .i64 a1_0,.int .i64 a1_1,.int .i64 a1_2]) (t:=53) ?_;intro gb207 hg w3 hbox hb;have BK207:=Aside0.mk hbox;have GW207:=sA hg;have GE207:=sA hg;replace HB:=lB hb;clear hb hbox hg)|((with_reducible refine gate_dst (N:=10) rfl ?_);refine Kd.R_lit k53 _ 53 ?hg (N:=10) ?hd (xs:=([]:List (S53))) (inner:=[]) (ok:=fun _=>True) (okp:=fun _=>True) ?hr ?hp (fun _ hk=>hk) trivial (Below.refl _ _) (Nat.le_refl _) (by simp) ?_;(case hd=>rfl);(case hg=>rfl);(case hr=>first|(go_simp;done)|(go_simp;rfl));(case hp=>exact (Reps.none _ _));intro v209 w4 ho5 hb hg_ hnew_;clear hg_ hnew_;(first|rw [← Ny208.out] at ho5|(simp only [Int.reduceToNat] at ho5;rw [← Ny208.out] at ho5));have HO210:=Aside0.mk (Kd.R_lower (Kd.R_newB ho5 (bkA BK207)) (below_size blA));replace BK207:=kB BK207 hb;replace HB:=lB hb;clear hb ho5))
 go_loopg [6,7] k (fun kq v6 v7 w'=>∃ (x6_1:List (S53)) (x7_1:Int),v7=.int .i64 x7_1∧Aside0 (spec_l02Children.l0 kq a0 x6_1 x7_1 a1_0 a1_1 a1_2=some (r1,r2))∧Aside0 (kq≤k)∧Aside0 (Kd.R k53 53 w' w.heap.size (fun k_=>k_≠gb207) v6 x6_1)∧Aside0 (w'.heap[gb207]?=some (.cells #[.int .i64 a1_0,.int .i64 a1_1,.int .i64 a1_2] 53 (0,0)))∧Aside0 (Below w.heap.size w w'))
 case atStart=>exact ⟨(y208),(0),hB,H',⟨Nat.le_refl _⟩,⟨by (with_reducible repeat (first|apply Kd.R_alloc|apply Kd.R_drewN|apply Kd.R_drew));exact Kd.R_mono HO210.out (fun _ hk=>hk.2)⟩,⟨bkA BK207⟩,⟨blA⟩⟩
 case round=>
  clear H'
  obtain ⟨x6_1,x7_1,rfl,HA,HK1,HO_6,BK207,HB⟩:=hrel
  cases gk with
  | zero=>exact absurd HA.out (by simp [spec_l02Children.l0])
  | succ k1=>
   have H:=HA.out
   clear HA
   simp only [spec_l02Children.l0] at H
   by_cases c6:x7_1<a0
   ·
    rw [if_pos c6] at H
    have c6b0:=decide_eq_true c6
    clear c6
    replace H:=bS H
    obtain ⟨⟨t211,t212,t213,t214⟩,A7,H⟩:=H
    try dsimp only at H
    by_cases c8:t214=true
    focus
     subst c8
     rw [if_pos rfl] at H
     try dsimp only at H
     by_cases c9:x6_1.length<5864062014805
     rotate_left
     ·
      rw [if_neg c9] at H
      exact absurd H (by simp)
     rw [if_pos c9] at H
     have LMc9:=Aside0.mk c9
     clear c9
     obtain ⟨y216,hy216⟩:∃ y_:List (S53),y_=(x6_1 ++ [(⟨t211,t212,t213⟩:S53)]):=⟨_,rfl⟩
     replace H:(spec_l02Children.l0 k1 a0 y216 (wrap64 (x7_1+1)) a1_0 a1_1 a1_2)=some (r1,r2):=rH hy216 H
     have Ny216:=Aside0.mk hy216
     clear hy216
     have H':=Aside0.mk H
     clear H
     obtain ⟨hcz10_0,hcz10_1,hcz10_2,hfz10_0,hfz10_1,hfz10_2⟩:=cz3 BK207
    rotate_left
    focus
     replace c8:=Bool.eq_false_iff.mpr c8
     subst c8
     rw [if_neg (show ¬ (false=true) by decide)] at H
     try dsimp only at H
     simp only [Option.some.injEq,Prod.mk.injEq] at H
     obtain ⟨rfl,rfl⟩:=H
     obtain ⟨hcz16_0,hcz16_1,hcz16_2,hfz16_0,hfz16_1,hfz16_2⟩:=cz3 BK207
    rotate_left
    all_goals
     go_wp2_with (first|((with_reducible refine gd 20 rfl ?_);refine gC (some 20) rfl Try.func71 (spec_l01Child.calls (w:=_) (h:=A7.out)) ?_;intro w11 hb;replace HO_6:=Aside0.mk (Kd.R_below (rA HO_6) hb);replace BK207:=kB BK207 hb;replace HB:=lB hb;clear hb)|((with_reducible refine gate_dst (N:=8) rfl ?_);refine bxE (cs:=#[.int .i64 0,.int .i64 0,.int .i64 0]) (t:=53) ?_;intro gb215 hg w12 hbox hb;have BK215:=Aside0.mk hbox;have GW215:=sA hg;have GE215:=sA hg;have NB207_215:=nA hg BK207;have NB215_207:=nB hg BK207;replace HO_6:=Aside0.mk (Kd.R_below (Kd.R_elderB (rA HO_6) gb215 (Nat.le_of_eq hg.symm)) hb);replace BK207:=kB BK207 hb;replace HB:=lB hb;clear hb hbox hg;have hnb13:=NB215_207.out;have hnc13:=NB207_215.out;obtain ⟨hcz14_0,hcz14_1,hcz14_2,hfz14_0,hfz14_1,hfz14_2⟩:=cz3 BK215)|((with_reducible refine gate_builtin (b:=.append) (xs:=#[.tmp 25,.tmp 27]) rfl ?_);at_builtin;refine Kd.R_append k53 (w0:=w) w.heap.size rfl (.tmp 25) (.tmp 27) 38 53 (.agg #[(.int .i64 0),(.int .i64 0),(.int .i64 0)]) 24 rfl Try.underlying38 info53 rfl (by decide) (by omega) u6 x6_1 (⟨t211,t212,t213⟩:S53) [.int .i64 t211,.int .i64 t212,.int .i64 t213] (fun k_=>k_≠gb207∧k_≠gb215) (fun _=>False) rfl (by first|(go_simp;done)|(go_simp;rfl)) ?aP (fun _ hk=>hk.elim) ?aF ?aO ?aB ?aS ?aL ?_;(case aP=>exact k53_mkM _ _ _ (⟨t211,t212,t213⟩:S53));(case aB=>exact blA);(case aF=>exact (fun k_ hk=>⟨Kd.freshB (g:=gb207) (o:=.cells #[.int .i64 a1_0,.int .i64 a1_1,.int .i64 a1_2] 53 (0,0)) (bkF BK207) k_ hk,Kd.freshB (g:=gb215) (o:=.cells #[.int .i64 t211,.int .i64 t212,.int .i64 t213] 53 (0,0)) (bpA BK215) k_ hk⟩));(case aO=>exact (by (with_reducible repeat (first|apply Kd.R_alloc|apply Kd.R_drewN|apply Kd.R_drew));exact Kd.R_mono (Kd.R_far (p:=⟨gb215,2,none⟩) (Kd.R_far (p:=⟨gb215,1,none⟩) (Kd.R_far (p:=⟨gb215,0,none⟩) (Kd.R_mono HO_6.out (fun k_ hk=>(⟨hk,hk.2⟩:_∧k_≠gb215))) (fun _ hk=>hk.2) (.int .i64 t211)) (fun _ hk=>hk.2) (.int .i64 t212)) (fun _ hk=>hk.2) (.int .i64 t213)) (fun _ hk=>⟨hk.1.1,hk.1.2⟩)));(case aS=>exact (below_size blA));(case aL=>have:=LMc9.out;omega);intro v217 w15 ho hb hg hat;rw [← Ny216.out] at ho;have n0_:=Aside0.mk (blk_grown (g:=gb207) (o:=.cells #[.int .i64 a1_0,.int .i64 a1_1,.int .i64 a1_2] 53 (0,0)) (bkF BK207) hg (Kd.R_away HO_6.out (fun _ hk=>hk.1)));have n1_:=Aside0.mk (blk_grown (g:=gb215) (o:=.cells #[.int .i64 t211,.int .i64 t212,.int .i64 t213] 53 (0,0)) (bpA BK215) hg (Kd.R_away HO_6.out (fun _ hk=>hk.2)));have n2_:=Aside0.mk hb;have n3_:=Aside0.mk ho;clear BK207;clear BK215;clear HB;clear HO_6;have BK207:=n0_;have BK215:=n1_;have HB:=n2_;have HO218:=n3_;clear n0_ n1_ n2_ n3_;clear ho hb hg hat))
    ·
     go_roundg k1
     case measure=>have:=HK1.out;omega
     case rel=>exact ⟨(y216),(wrap64 (x7_1+1)),hB,H',⟨by have:=HK1.out;omega⟩,⟨by (with_reducible repeat (first|apply Kd.R_alloc|apply Kd.R_drewN|apply Kd.R_drew));exact Kd.R_mono HO218.out (fun _ hk=>hk.1)⟩,⟨bkA BK207⟩,⟨blA⟩⟩
    ·
     go_ret2
     exact ⟨_,eW,nlA,blA⟩
   ·
    rw [if_neg c6] at H
    have c6b0:=decide_eq_false c6
    clear c6
    simp only [Option.some.injEq,Prod.mk.injEq] at H
    obtain ⟨rfl,rfl⟩:=H
    go_wp2
    go_ret2
    exact ⟨_,eW,by (with_reducible repeat (first|apply Kd.R_alloc|apply Kd.R_drewN|apply Kd.R_drew));exact Kd.R_mono HO_6.out (fun _ hk=>trivial),blA⟩
def spec_l02Distance.f (k:Nat) (a0 a1_0 a1_1 a1_2 a2_0 a2_1 a2_2:Int):Option (Int):=(spec_l02Join.f k a0 a1_0 a1_1 a1_2 a2_0 a2_1 a2_2).bind fun t246=>(some (wrap64 ((wrap64 (a1_0+a2_0)) - (wrap64 (2*t246)))))
theorem spec_l02Distance.mono:∀ a0 a1 a2 a3 a4 a5 a6 k,LeO (spec_l02Distance.f k a0 a1 a2 a3 a4 a5 a6) (spec_l02Distance.f (k+1) a0 a1 a2 a3 a4 a5 a6):=by
 intro a0 a1 a2 a3 a4 a5 a6 k
 unfold spec_l02Distance.f
 repeat' first
   | with_reducible first|exact spec_l02Join.mono ..|exact LeO.refl _|exact LeO.none _|refine LeO.ite ?_ ?_|refine LeO.bind ?_ fun _=>?_
def spec_l02Distance.T1:Bool × List (List Nat × List Nat):=(true,[([],[]),([0],[0]),([],[]),([2],[2]),([1,3],[1,3]),([],[]),([],[]),([],[]),([5,6,7],[5,6,7]),([8],[8]),([4,9],[4,9]),([10,8,0,1,2,3,4,5,6,7,8,9,10],[10])])
def spec_l02Distance.B1:List Nat:=[0,1,0,4,15,0,0,0,224,480,1023,2047]
theorem spec_l02Distance.tab1:rtab .any (opsOf Try.f47 1)=spec_l02Distance.T1:=by kernel_rfl
theorem spec_l02Distance.bits1:waitsOk spec_l02Distance.T1.2 spec_l02Distance.B1=true:=by kernel_rfl
set_option maxHeartbeats 8000000 in
set_option maxRecDepth 100000 in
theorem spec_l02Distance.calls (k:Nat) (a0 a1_0 a1_1 a1_2 a2_0 a2_1 a2_2 r:Int) (w:World) (h:spec_l02Distance.f k a0 a1_0 a1_1 a1_2 a2_0 a2_1 a2_2=some r) :
  Calls Try.prog 47 #[.int .i64 a0,.agg #[.int .i64 a1_0,.int .i64 a1_1,.int .i64 a1_2],.agg #[.int .i64 a2_0,.int .i64 a2_1,.int .i64 a2_2]] w fun e w'=>e=.returned (.int .i64 r)∧Below w.heap.size w w':=by
 have hu53:=Try.underlying53
 have HB:=Aside0.mk (Below.refl w.heap.size w)
 have H:=h
 unfold spec_l02Distance.f at H
 clear h
 replace H:=bS H
 obtain ⟨t246,A4,H⟩:=H
 try dsimp only at H
 obtain rfl:=Option.some.inj H
 go_enter Try.func47,Try.ntmps47
 try go_wp2_with (first|((with_reducible refine gate_dst (N:=4) rfl ?_);refine bxE (cs:=#[.int .i64 a1_0,.int .i64 a1_1,.int .i64 a1_2]) (t:=53) ?_;intro gb244 hg w5 hbox hb;have n0_:=lB hb;have n1_:=Aside0.mk hbox;have n2_:=sA hg;have n3_:=sA hg;clear HB;have HB:=n0_;have BK244:=n1_;have GW244:=n2_;have GE244:=n3_;clear n0_ n1_ n2_ n3_;clear hb hbox hg)|((with_reducible refine gate_dst (N:=5) rfl ?_);refine bxE (cs:=#[.int .i64 a2_0,.int .i64 a2_1,.int .i64 a2_2]) (t:=53) ?_;intro gb245 hg w6 hbox hb;have n0_:=kB BK244 hb;have n1_:=lB hb;have n2_:=Aside0.mk hbox;have n3_:=sA hg;have n4_:=sA hg;have n5_:=nA hg BK244;have n6_:=nB hg BK244;clear BK244;clear HB;have BK244:=n0_;have HB:=n1_;have BK245:=n2_;have GW245:=n3_;have GE245:=n4_;have NB244_245:=n5_;have NB245_244:=n6_;clear n0_ n1_ n2_ n3_ n4_ n5_ n6_;clear hb hbox hg))
 have n0_:=Aside0.mk (blk_drew BK244.out)
 have n1_:=Aside0.mk (blk_drew BK245.out)
 have n2_:=Aside0.mk (below_drew1 HB.out)
 clear BK244
 clear BK245
 clear HB
 have BK244:=n0_
 have BK245:=n1_
 have HB:=n2_
 clear n0_ n1_ n2_
 refine start_ (n:=12) (S:=fun w'=>w'.cell? ⟨gb244,0,none⟩=some (.int .i64 a1_0)∧w'.cell? ⟨gb244,1,none⟩=some (.int .i64 a1_1)∧w'.cell? ⟨gb244,2,none⟩=some (.int .i64 a1_2)∧w'.cell? ⟨gb245,0,none⟩=some (.int .i64 a2_0)∧w'.cell? ⟨gb245,1,none⟩=some (.int .i64 a2_1)∧w'.cell? ⟨gb245,2,none⟩=some (.int .i64 a2_2)) (ds:=[]) #[Z,Z,Z,Z,Z,Z,Z,Z,Z,Z,Z,Z] (by kernel_rfl) rfl rfl ⟨cA BK244 0,cA BK244 1,cA BK244 2,cA BK245 0,cA BK245 1,cA BK245 2⟩ (fun hHeld=>?_);refine with_tabW spec_l02Distance.tab1 spec_l02Distance.bits1 (fun HT_ HW_=>?_)
 generalize w6.drew=w7 at BK244 BK245 HB hHeld ⊢
 refine puA (i:=0) (N:=some 7) #[Y,Z,Z,Z,Z,Z,Z,Z,Z,Z,Z,Z] rfl rfl HT_ ?_
 refine puA (i:=2) (N:=some 9) #[Y,Z,Y,Z,Z,Z,Z,Z,Z,Z,Z,Z] rfl rfl HT_ ?_
 refine puA (i:=5) (N:=some 12) #[Y,Z,Y,Z,Z,Y,Z,Z,Z,Z,Z,Z] rfl rfl HT_ ?_
 refine taA (i:=1) (N:=some 8) #[Y,Y,Y,Z,Z,Y,Z,Z,Z,Z,Z,Z] rfl rfl HT_ HW_ hHeld ?_
 refine taA (i:=3) (N:=some 10) #[Y,Y,Y,Y,Z,Y,Z,Z,Z,Z,Z,Z] rfl rfl HT_ HW_ hHeld ?_
 refine puA (i:=4) (N:=some 11) #[Y,Y,Y,Y,Y,Y,Z,Z,Z,Z,Z,Z] rfl rfl HT_ ?_
 refine taA (i:=6) (N:=some 13) #[Y,Y,Y,Y,Y,Y,Y,Z,Z,Z,Z,Z] rfl rfl HT_ HW_ hHeld ?_
 refine taA (i:=7) (N:=some 14) #[Y,Y,Y,Y,Y,Y,Y,Y,Z,Z,Z,Z] rfl rfl HT_ HW_ hHeld ?_
 refine one_ (i:=8) (N:=some 15) #[Y,Y,Y,Y,Y,Y,Y,Y,Y,Z,Z,Z] rfl rfl (one_of HT_.out (by kernel_rfl)) (by decide) (fun K hK=>?_)
 refine goC Try.func62 (spec_l02Join.calls (w:=_) (h:=A4.out)) ?_
 intro w8 hb
 replace BK244:=kB BK244 hb
 replace BK245:=kB BK245 hb
 replace HB:=lB hb
 (try clear hb)
 (try clear hb2)
 (try clear hk)
 (try clear hi)
 refine hK.out _ _ ⟨cA BK244 0,cA BK244 1,cA BK244 2,cA BK245 0,cA BK245 1,cA BK245 2⟩ (fun hHeld=>?_)
 clear hK K
 refine nmA ?_
 refine puA (i:=9) (N:=some 16) #[Y,Y,Y,Y,Y,Y,Y,Y,Y,Y,Z,Z] rfl rfl HT_ ?_
 refine puA (i:=10) (N:=some 17) #[Y,Y,Y,Y,Y,Y,Y,Y,Y,Y,Y,Z] rfl rfl HT_ ?_
 refine puA (i:=11) (N:=some 6) #[Y,Y,Y,Y,Y,Y,Y,Y,Y,Y,Y,Y] rfl rfl HT_ ?_
 refine done_ (done_of HT_.out (by kernel_rfl)) ?_
 try go_wp2
 go_ret
 exact finA blA
def impl_moversCode.f (k:Nat) (l0:List (S42)):Option (Int):=(impl_areMatrices.f k l0).bind fun t310=>(if t310=true then (if (l0.length:Int)<1 then (some 2) else (if (l0.length:Int)>6 then (some 2) else (some 0))) else (some 1))
theorem impl_moversCode.mono:∀ a0 k,LeO (impl_moversCode.f k a0) (impl_moversCode.f (k+1) a0):=by
 intro a0 k
 unfold impl_moversCode.f
 repeat' first
   | with_reducible first|exact impl_areMatrices.mono ..|exact LeO.refl _|exact LeO.none _|refine LeO.ite ?_ ?_|refine LeO.bind ?_ fun _=>?_
set_option maxHeartbeats 8000000 in
set_option maxRecDepth 100000 in
theorem impl_moversCode.calls (k:Nat) (A0:Option Addr) (c0:Nat) (l0:List (S42)) (r:Int) (w:World) (hr0:Kd.C k42 w A0 l0.length l0) (hc0:l0.length≤c0) (h:impl_moversCode.f k l0=some r) :
  Calls Try.prog 33 #[.slice A0 l0.length c0] w fun e w'=>e=.returned (.int .i64 r)∧Below w.heap.size w w':=by
 have HR0:=Aside0.mk hr0
 have HC0:=Aside0.mk hc0
 clear hr0 hc0
 have HB:=Aside0.mk (Below.refl w.heap.size w)
 have H:=h
 unfold impl_moversCode.f at H
 clear h
 replace H:=bS H
 obtain ⟨t310,A2,H⟩:=H
 try dsimp only at H
 by_cases c3:t310=true
 ·
  subst c3
  rw [if_pos rfl] at H
  try dsimp only at H
  by_cases c4:(l0.length:Int)<1
  ·
   rw [if_pos c4] at H
   have c4b0:=decide_eq_true c4
   have c4b1:decide (l0.length<1)=true:=decide_eq_true (by omega)
   clear c4
   obtain rfl:=Option.some.inj H
   go_enter Try.func33,Try.ntmps33
   go_wp2_with (first|((with_reducible refine gd 5 rfl ?_);refine gC (some 5) rfl Try.func48 (impl_areMatrices.calls (w:=_) (hr0:=cR HR0.out) (hc0:=HC0.out) (h:=A2.out)) ?_;intro w5 hb;replace HB:=lB hb;clear hb))
   go_ret
   exact finA blA
  ·
   rw [if_neg c4] at H
   have c4b0:=decide_eq_false c4
   have c4b1:decide (l0.length<1)=false:=decide_eq_false (by omega)
   clear c4
   by_cases c6:(l0.length:Int)>6
   focus
    rw [if_pos c6] at H
    have c6b0:decide (6<(l0.length:Int))=true:=decide_eq_true c6
    have c6b1:decide (6<l0.length)=true:=decide_eq_true (by omega)
    clear c6
    obtain rfl:=Option.some.inj H
   rotate_left
   focus
    rw [if_neg c6] at H
    have c6b0:decide (6<(l0.length:Int))=false:=decide_eq_false c6
    have c6b1:decide (6<l0.length)=false:=decide_eq_false (by omega)
    clear c6
    obtain rfl:=Option.some.inj H
   rotate_left
   all_goals
    go_enter Try.func33,Try.ntmps33
    go_wp2_with (first|((with_reducible refine gd 5 rfl ?_);refine gC (some 5) rfl Try.func48 (impl_areMatrices.calls (w:=_) (hr0:=cR HR0.out) (hc0:=HC0.out) (h:=A2.out)) ?_;intro w7 hb;replace HB:=lB hb;clear hb))
   ·
    go_ret
    exact finA blA
   ·
    go_ret
    exact finA blA
 ·
  replace c3:=Bool.eq_false_iff.mpr c3
  subst c3
  rw [if_neg (show ¬ (false=true) by decide)] at H
  try dsimp only at H
  obtain rfl:=Option.some.inj H
  go_enter Try.func33,Try.ntmps33
  go_wp2_with (first|((with_reducible refine gd 5 rfl ?_);refine gC (some 5) rfl Try.func48 (impl_areMatrices.calls (w:=_) (hr0:=cR HR0.out) (hc0:=HC0.out) (h:=A2.out)) ?_;intro w9 hb;replace HB:=lB hb;clear hb))
  go_ret
  exact finA blA
def impl_ballAt.j0:Nat→Int→Int→Int→Int→Int→Bool→Option (Int × Int × Int × Bool)
 | 0,_,_,_,_,_,_=>none
 | k+1,x0,x1,x2,x3,x10,x24=>if x24=true then (some (x3,0,0,true)) else (if x10<(-6) then (some (0,0,0,false)) else ((impl_power.f k x0 (wrap64 (x3+6))).bind fun t337=>((impl_unit.f k x0 x1).bind fun t338=>((impl_unit.f k x0 x2).bind fun t339=>((impl_inverse.f k t339 t337).bind fun t340=>((impl_times.f k t338 t340 t337).bind fun t341=>((impl_power.f k x0 (wrap64 (x10+6))).bind fun t342=>((impl_times.f k t341 t342 t337).bind fun t343=>((impl_ofMark.f k x0 x3 t343).bind fun bt344=>(some (bt344.1,bt344.2.1,bt344.2.2.1,bt344.2.2.2)))))))))))
def impl_ballAt.f (k:Nat) (a0 a1 a2 a3:Int):Option (Int × Int × Int × Bool):=(impl_isLevel.f a3).bind fun t334=>(if t334=true then ((impl_valuation.f k a0 a1).bind fun t335=>((impl_valuation.f k a0 a2).bind fun t336=>(if a1=0 then (impl_ballAt.j0 k a0 a1 a2 a3 (wrap64 (t335 - t336)) true) else (impl_ballAt.j0 k a0 a1 a2 a3 (wrap64 (t335 - t336)) (decide ((wrap64 (t335 - t336))≥a3)))))) else (some (0,0,0,false)))
theorem impl_ballAt.mono_l:∀ k,(∀ y0 y1 y2 y3 y4 y5,LeO (impl_ballAt.j0 k y0 y1 y2 y3 y4 y5) (impl_ballAt.j0 (k+1) y0 y1 y2 y3 y4 y5))
 | 0=>fun _ _ _ _ _ _ r h=>by simp [impl_ballAt.j0] at h
 | k+1=>by
  have ih0:=impl_ballAt.mono_l k
  ·
   intro y0 y1 y2 y3 y4 y5
   unfold impl_ballAt.j0
   repeat' first
   | with_reducible first|exact ih0 ..|exact impl_inverse.mono ..|exact impl_ofMark.mono ..|exact impl_power.mono ..|exact impl_times.mono ..|exact impl_unit.mono ..|exact impl_valuation.mono ..|exact LeO.refl _|exact LeO.none _|refine LeO.ite ?_ ?_|refine LeO.bind ?_ fun _=>?_
theorem impl_ballAt.mono:∀ a0 a1 a2 a3 k,LeO (impl_ballAt.f k a0 a1 a2 a3) (impl_ballAt.f (k+1) a0 a1 a2 a3):=by
 intro a0 a1 a2 a3 k
 have ih0:=impl_ballAt.mono_l k
 unfold impl_ballAt.f
 repeat' first
   | with_reducible first|exact ih0 ..|exact impl_inverse.mono ..|exact impl_ofMark.mono ..|exact impl_power.mono ..|exact impl_times.mono ..|exact impl_unit.mono ..|exact impl_valuation.mono ..|exact LeO.refl _|exact LeO.none _|refine LeO.ite ?_ ?_|refine LeO.bind ?_ fun _=>?_
set_option maxHeartbeats 8000000 in
set_option maxRecDepth 100000 in
theorem impl_ballAt.calls (k:Nat) (a0 a1 a2 a3 r1 r2 r3:Int) (r4:Bool) (w:World) (h:impl_ballAt.f k a0 a1 a2 a3=some (r1,r2,r3,r4)) :
  Calls Try.prog 53 #[.int .i64 a0,.int .i64 a1,.int .i64 a2,.int .i64 a3] w fun e w'=>e=.returned (.tuple #[.agg #[.int .i64 r1,.int .i64 r2,.int .i64 r3],.bool r4])∧Below w.heap.size w w':=by
 have hu53:=Try.underlying53
 have HB:=Aside0.mk (Below.refl w.heap.size w)
 have H:=h
 unfold impl_ballAt.f at H
 clear h
 replace H:=bS H
 obtain ⟨t334,A5,H⟩:=H
 try dsimp only at H
 by_cases c6:t334=true
 ·
  subst c6
  rw [if_pos rfl] at H
  try dsimp only at H
  replace H:=bS H
  obtain ⟨t335,A7,H⟩:=H
  try dsimp only at H
  replace H:=bS H
  obtain ⟨t336,A8,H⟩:=H
  try dsimp only at H
  have HC9:=Aside0.mk H
  clear H
  go_enter Try.func53,Try.ntmps53
  go_upto_region 4 with (first|((with_reducible refine gate_dst (N:=8) rfl ?_);refine bxE (cs:=#[.int .i64 0,.int .i64 0,.int .i64 0]) (t:=53) ?_;intro gb333 hg w10 hbox hb;have BK333:=Aside0.mk hbox;have GW333:=sA hg;have GE333:=sA hg;replace HB:=lB hb;clear hb hbox hg)|((with_reducible refine gd 14 rfl ?_);refine gC (some 14) rfl Try.func64 (impl_isLevel.calls (w:=_) (h:=A5.out)) ?_;rintro _ ⟨nd,rfl⟩)|((with_reducible refine gd 19 rfl ?_);refine gC (some 19) rfl Try.func51 (impl_valuation.calls (w:=_) (h:=A7.out)) ?_;rintro _ ⟨nd,rfl⟩)|((with_reducible refine gd 22 rfl ?_);refine gC (some 22) rfl Try.func51 (impl_valuation.calls (w:=_) (h:=A8.out)) ?_;rintro _ ⟨nd,rfl⟩))
  (try simp only [Act.put,List.setIfInBounds_toArray,List.set_cons_zero,List.set_cons_succ])
  go_cut [24] (fun v24 wc=>∃ (kq:Nat) (x24_8:Bool),v24=.bool x24_8∧Aside0 (impl_ballAt.j0 kq a0 a1 a2 a3 (wrap64 (t335 - t336)) x24_8=some (r1,r2,r3,r4))∧Aside0 (kq≤k)∧Aside0 (wc.heap[gb333]?=some (.cells #[.int .i64 0,.int .i64 0,.int .i64 0] 53 (0,0)))∧Aside0 (Below w.heap.size w wc))
  case first=>
   have H:=HC9.out
   clear HC9
   by_cases c11:a1=0
   ·
    rw [if_pos c11] at H
    have c11b0:(a1 == 0)=true:=beq_iff_eq.mpr c11
    have c11b1:(a1 != 0)=false:=bne_eq_false_iff_eq.mpr c11
    clear c11
    (first|rw [c11b0]|(simp only [i64_w,i32_w];rw [c11b0])|skip)
    have H':=Aside0.mk H
    clear H
    go_wp2
    go_meet
    case rel=>exact ⟨_,(true),hB,H',⟨by first|omega|exact Nat.le_refl _⟩,⟨bkA BK333⟩,⟨blA⟩⟩
   ·
    rw [if_neg c11] at H
    have c11b0:(a1 == 0)=false:=beq_eq_false_iff_ne.mpr c11
    have c11b1:(a1 != 0)=true:=bne_iff_ne.mpr c11
    (first|rw [c11b0]|(simp only [i64_w,i32_w];rw [c11b0])|skip)
    have H':=Aside0.mk H
    clear H
    go_wp2
    go_meet
    case rel=>exact ⟨_,(decide ((wrap64 (t335 - t336))≥a3)),hB,H',⟨by first|omega|exact Nat.le_refl _⟩,⟨bkA BK333⟩,⟨blA⟩⟩
  case rest=>
   clear HC9
   try clear c6
   try clear c11
   try clear c11b0
   try clear c11b1
   obtain ⟨kq,x24_8,rfl,HA,HJ8,BK333,HB⟩:=hcut
   cases kq with
   | zero=>exact absurd HA.out (by simp [impl_ballAt.j0])
   | succ kj8=>
    have H:=HA.out
    clear HA
    simp only [impl_ballAt.j0] at H
    by_cases c12:x24_8=true
    ·
     subst c12
     rw [if_pos rfl] at H
     try dsimp only at H
     simp only [Option.some.injEq,Prod.mk.injEq] at H
     obtain ⟨rfl,rfl,rfl,rfl⟩:=H
     obtain ⟨hcz13_0,hcz13_1,hcz13_2,hfz13_0,hfz13_1,hfz13_2⟩:=cz3 BK333
     go_wp2
     refine bodyPost_ret (results_ct rfl _ _ gb333 53 #[.int .i64 a3,.int .i64 0,.int .i64 0] (0,0) _ rfl (bpA BK333) Try.underlying53 rfl (by kernel_rfl)) rfl ?_
     exact finA blA
    ·
     replace c12:=Bool.eq_false_iff.mpr c12
     subst c12
     rw [if_neg (show ¬ (false=true) by decide)] at H
     try dsimp only at H
     by_cases c14:(wrap64 (t335 - t336))<(-6)
     ·
      rw [if_pos c14] at H
      have c14b0:=decide_eq_true c14
      clear c14
      simp only [Option.some.injEq,Prod.mk.injEq] at H
      obtain ⟨rfl,rfl,rfl,rfl⟩:=H
      obtain ⟨hcz15_0,hcz15_1,hcz15_2,hfz15_0,hfz15_1,hfz15_2⟩:=cz3 BK333
      go_wp2
      refine bodyPost_ret (results_ct rfl _ _ gb333 53 #[.int .i64 0,.int .i64 0,.int .i64 0] (0,0) _ rfl (bpA BK333) Try.underlying53 rfl (by kernel_rfl)) rfl ?_
      exact finA blA
     ·
      rw [if_neg c14] at H
      have c14b0:=decide_eq_false c14
      clear c14
      replace H:=bS H
      obtain ⟨t337,A16,H⟩:=H
      try dsimp only at H
      replace H:=bS H
      obtain ⟨t338,A17,H⟩:=H
      try dsimp only at H
      replace H:=bS H
      obtain ⟨t339,A18,H⟩:=H
      try dsimp only at H
      replace H:=bS H
      obtain ⟨t340,A19,H⟩:=H
      try dsimp only at H
      replace H:=bS H
      obtain ⟨t341,A20,H⟩:=H
      try dsimp only at H
      replace H:=bS H
      obtain ⟨t342,A21,H⟩:=H
      try dsimp only at H
      replace H:=bS H
      obtain ⟨t343,A22,H⟩:=H
      try dsimp only at H
      replace H:=bS H
      obtain ⟨⟨t344,t345,t346,t347⟩,A23,H⟩:=H
      try dsimp only at H
      simp only [Option.some.injEq,Prod.mk.injEq] at H
      obtain ⟨rfl,rfl,rfl,rfl⟩:=H
      go_wp2_with (first|((with_reducible refine gd 41 rfl ?_);refine gC (some 41) rfl Try.func50 (impl_power.calls (w:=_) (h:=A16.out)) ?_;rintro _ ⟨nd,rfl⟩;(try (rw [drewN_self wc];generalize hq_:World.drewN wc _=wc;replace BK333:=Aside0.mk (by rw [← hq_];exact (bkA BK333));replace HB:=Aside0.mk (by rw [← hq_];exact blA);clear hq_)))|((with_reducible refine gd 44 rfl ?_);refine gC (some 44) rfl Try.func66 (impl_unit.calls (w:=_) (h:=A17.out)) ?_;rintro _ ⟨nd,rfl⟩;(try (rw [drewN_self wc];generalize hq_:World.drewN wc _=wc;replace BK333:=Aside0.mk (by rw [← hq_];exact (bkA BK333));replace HB:=Aside0.mk (by rw [← hq_];exact blA);clear hq_)))|((with_reducible refine gd 47 rfl ?_);refine gC (some 47) rfl Try.func66 (impl_unit.calls (w:=_) (h:=A18.out)) ?_;rintro _ ⟨nd,rfl⟩;(try (rw [drewN_self wc];generalize hq_:World.drewN wc _=wc;replace BK333:=Aside0.mk (by rw [← hq_];exact (bkA BK333));replace HB:=Aside0.mk (by rw [← hq_];exact blA);clear hq_)))|((with_reducible refine gd 49 rfl ?_);refine gC (some 49) rfl Try.func67 (impl_inverse.calls (w:=_) (h:=A19.out)) ?_;rintro _ ⟨nd,rfl⟩;(try (rw [drewN_self wc];generalize hq_:World.drewN wc _=wc;replace BK333:=Aside0.mk (by rw [← hq_];exact (bkA BK333));replace HB:=Aside0.mk (by rw [← hq_];exact blA);clear hq_)))|((with_reducible refine gd 51 rfl ?_);refine gC (some 51) rfl Try.func65 (impl_times.calls (w:=_) (h:=A20.out)) ?_;rintro _ ⟨nd,rfl⟩;(try (rw [drewN_self wc];generalize hq_:World.drewN wc _=wc;replace BK333:=Aside0.mk (by rw [← hq_];exact (bkA BK333));replace HB:=Aside0.mk (by rw [← hq_];exact blA);clear hq_)))|((with_reducible refine gd 58 rfl ?_);refine gC (some 58) rfl Try.func50 (impl_power.calls (w:=_) (h:=A21.out)) ?_;rintro _ ⟨nd,rfl⟩;(try (rw [drewN_self wc];generalize hq_:World.drewN wc _=wc;replace BK333:=Aside0.mk (by rw [← hq_];exact (bkA BK333));replace HB:=Aside0.mk (by rw [← hq_];exact blA);clear hq_)))|((with_reducible refine gd 60 rfl ?_);refine gC (some 60) rfl Try.func65 (impl_times.calls (w:=_) (h:=A22.out)) ?_;rintro _ ⟨nd,rfl⟩;(try (rw [drewN_self wc];generalize hq_:World.drewN wc _=wc;replace BK333:=Aside0.mk (by rw [← hq_];exact (bkA BK333));replace HB:=Aside0.mk (by rw [← hq_];exact blA);clear hq_)))|((with_reducible refine gd 61 rfl ?_);refine gC (some 61) rfl Try.func68 (impl_ofMark.calls (w:=_) (h:=A23.out)) ?_;intro w24 hb;replace BK333:=kB BK333 hb;replace HB:=lB hb;clear hb;obtain ⟨hcz25_0,hcz25_1,hcz25_2,hfz25_0,hfz25_1,hfz25_2⟩:=cz3 BK333))
      refine bodyPost_ret (results_ct rfl _ _ gb333 53 #[.int .i64 t344,.int .i64 t345,.int .i64 t346] (0,0) _ rfl (bpA BK333) Try.underlying53 rfl (by kernel_rfl)) rfl ?_
      exact finA blA
 ·
  replace c6:=Bool.eq_false_iff.mpr c6
  subst c6
  rw [if_neg (show ¬ (false=true) by decide)] at H
  try dsimp only at H
  simp only [Option.some.injEq,Prod.mk.injEq] at H
  obtain ⟨rfl,rfl,rfl,rfl⟩:=H
  go_enter Try.func53,Try.ntmps53
  go_wp2_with (first|((with_reducible refine gate_dst (N:=8) rfl ?_);refine bxE (cs:=#[.int .i64 0,.int .i64 0,.int .i64 0]) (t:=53) ?_;intro gb333 hg w26 hbox hb;have BK333:=Aside0.mk hbox;have GW333:=sA hg;have GE333:=sA hg;replace HB:=lB hb;clear hb hbox hg)|((with_reducible refine gd 14 rfl ?_);refine gC (some 14) rfl Try.func64 (impl_isLevel.calls (w:=_) (h:=A5.out)) ?_;rintro _ ⟨nd,rfl⟩;(try (rw [drewN_self w26];generalize hq_:World.drewN w26 _=w26;replace BK333:=Aside0.mk (by rw [← hq_];exact (bkA BK333));replace HB:=Aside0.mk (by rw [← hq_];exact blA);clear hq_));obtain ⟨hcz27_0,hcz27_1,hcz27_2,hfz27_0,hfz27_1,hfz27_2⟩:=cz3 BK333))
  refine bodyPost_ret (results_ct rfl _ _ gb333 53 #[.int .i64 0,.int .i64 0,.int .i64 0] (0,0) _ rfl (bpA BK333) Try.underlying53 rfl (by kernel_rfl)) rfl ?_
  exact finA blA
def impl_neighbour.f (k:Nat) (a0 a1_0 a1_1 a1_2 a2:Int):Option (Int × Int × Int × Bool):=if a2=0 then ((impl_parent.f k a0 a1_0 a1_1 a1_2).bind fun bt433=>(some (bt433.1,bt433.2.1,bt433.2.2.1,bt433.2.2.2))) else ((impl_child.f k a0 a1_0 a1_1 a1_2 (wrap64 (a2 - 1))).bind fun bt437=>(some (bt437.1,bt437.2.1,bt437.2.2.1,bt437.2.2.2)))
theorem impl_neighbour.mono:∀ a0 a1 a2 a3 a4 k,LeO (impl_neighbour.f k a0 a1 a2 a3 a4) (impl_neighbour.f (k+1) a0 a1 a2 a3 a4):=by
 intro a0 a1 a2 a3 a4 k
 unfold impl_neighbour.f
 repeat' first
   | with_reducible first|exact impl_child.mono ..|exact impl_parent.mono ..|exact LeO.refl _|exact LeO.none _|refine LeO.ite ?_ ?_|refine LeO.bind ?_ fun _=>?_
set_option maxHeartbeats 8000000 in
set_option maxRecDepth 100000 in
theorem impl_neighbour.calls (k:Nat) (a0 a1_0 a1_1 a1_2 a2 r1 r2 r3:Int) (r4:Bool) (w:World) (h:impl_neighbour.f k a0 a1_0 a1_1 a1_2 a2=some (r1,r2,r3,r4)) :
  Calls Try.prog 69 #[.int .i64 a0,.agg #[.int .i64 a1_0,.int .i64 a1_1,.int .i64 a1_2],.int .i64 a2] w fun e w'=>e=.returned (.tuple #[.agg #[.int .i64 r1,.int .i64 r2,.int .i64 r3],.bool r4])∧Below w.heap.size w w':=by
 have hu53:=Try.underlying53
 have HB:=Aside0.mk (Below.refl w.heap.size w)
 have H:=h
 unfold impl_neighbour.f at H
 clear h
 by_cases c4:a2=0
 ·
  rw [if_pos c4] at H
  have c4b0:(a2 == 0)=true:=beq_iff_eq.mpr c4
  have c4b1:(a2 != 0)=false:=bne_eq_false_iff_eq.mpr c4
  clear c4
  replace H:=bS H
  obtain ⟨⟨t433,t434,t435,t436⟩,A5,H⟩:=H
  try dsimp only at H
  simp only [Option.some.injEq,Prod.mk.injEq] at H
  obtain ⟨rfl,rfl,rfl,rfl⟩:=H
  go_enter Try.func69,Try.ntmps69
  go_wp2_with (first|((with_reducible refine gate_dst (N:=4) rfl ?_);refine bxE (cs:=#[.int .i64 a1_0,.int .i64 a1_1,.int .i64 a1_2]) (t:=53) ?_;intro gb431 hg w6 hbox hb;have BK431:=Aside0.mk hbox;have GW431:=sA hg;have GE431:=sA hg;replace HB:=lB hb;clear hb hbox hg)|((with_reducible refine gate_dst (N:=6) rfl ?_);refine bxE (cs:=#[.int .i64 0,.int .i64 0,.int .i64 0]) (t:=53) ?_;intro gb432 hg w7 hbox hb;have BK432:=Aside0.mk hbox;have GW432:=sA hg;have GE432:=sA hg;have NB431_432:=nA hg BK431;have NB432_431:=nB hg BK431;replace BK431:=kB BK431 hb;replace HB:=lB hb;clear hb hbox hg;have hnb8:=NB431_432.out;have hnc8:=NB432_431.out;obtain ⟨hcz9_0,hcz9_1,hcz9_2,hfz9_0,hfz9_1,hfz9_2⟩:=cz3 BK431)|((with_reducible refine gd 12 rfl ?_);refine gC (some 12) rfl Try.func77 (impl_parent.calls (w:=_) (h:=A5.out)) ?_;intro w10 hb;replace BK431:=kB BK431 hb;replace BK432:=kB BK432 hb;replace HB:=lB hb;clear hb;obtain ⟨hcz11_0,hcz11_1,hcz11_2,hfz11_0,hfz11_1,hfz11_2⟩:=cz3 BK432))
  refine bodyPost_ret (results_ct rfl _ _ gb432 53 #[.int .i64 t433,.int .i64 t434,.int .i64 t435] (0,0) _ rfl (bpA BK432) Try.underlying53 rfl (by kernel_rfl)) rfl ?_
  exact finA blA
 ·
  rw [if_neg c4] at H
  have c4b0:(a2 == 0)=false:=beq_eq_false_iff_ne.mpr c4
  have c4b1:(a2 != 0)=true:=bne_iff_ne.mpr c4
  replace H:=bS H
  obtain ⟨⟨t437,t438,t439,t440⟩,A12,H⟩:=H
  try dsimp only at H
  simp only [Option.some.injEq,Prod.mk.injEq] at H
  obtain ⟨rfl,rfl,rfl,rfl⟩:=H
  go_enter Try.func69,Try.ntmps69
  go_wp2_with (first|((with_reducible refine gate_dst (N:=4) rfl ?_);refine bxE (cs:=#[.int .i64 a1_0,.int .i64 a1_1,.int .i64 a1_2]) (t:=53) ?_;intro gb431 hg w13 hbox hb;have BK431:=Aside0.mk hbox;have GW431:=sA hg;have GE431:=sA hg;replace HB:=lB hb;clear hb hbox hg)|((with_reducible refine gate_dst (N:=6) rfl ?_);refine bxE (cs:=#[.int .i64 0,.int .i64 0,.int .i64 0]) (t:=53) ?_;intro gb432 hg w14 hbox hb;have BK432:=Aside0.mk hbox;have GW432:=sA hg;have GE432:=sA hg;have NB431_432:=nA hg BK431;have NB432_431:=nB hg BK431;replace BK431:=kB BK431 hb;replace HB:=lB hb;clear hb hbox hg;have hnb15:=NB431_432.out;have hnc15:=NB432_431.out;obtain ⟨hcz16_0,hcz16_1,hcz16_2,hfz16_0,hfz16_1,hfz16_2⟩:=cz3 BK431)|((with_reducible refine gd 19 rfl ?_);refine gC (some 19) rfl Try.func78 (impl_child.calls (w:=_) (h:=A12.out)) ?_;intro w17 hb;replace BK431:=kB BK431 hb;replace BK432:=kB BK432 hb;replace HB:=lB hb;clear hb;obtain ⟨hcz18_0,hcz18_1,hcz18_2,hfz18_0,hfz18_1,hfz18_2⟩:=cz3 BK432))
  refine bodyPost_ret (results_ct rfl _ _ gb432 53 #[.int .i64 t437,.int .i64 t438,.int .i64 t439] (0,0) _ rfl (bpA BK432) Try.underlying53 rfl (by kernel_rfl)) rfl ?_
  exact finA blA
def impl_distance.f (k:Nat) (a0 a1_0 a1_1 a1_2 a2_0 a2_1 a2_2:Int):Option (Int):=(impl_joinLevel.f k a0 a1_0 a1_1 a1_2 a2_0 a2_1 a2_2).bind fun t460=>(some (wrap64 ((wrap64 (a1_0+a2_0)) - (wrap64 (2*t460)))))
theorem impl_distance.mono:∀ a0 a1 a2 a3 a4 a5 a6 k,LeO (impl_distance.f k a0 a1 a2 a3 a4 a5 a6) (impl_distance.f (k+1) a0 a1 a2 a3 a4 a5 a6):=by
 intro a0 a1 a2 a3 a4 a5 a6 k
 unfold impl_distance.f
 repeat' first
   | with_reducible first|exact impl_joinLevel.mono ..|exact LeO.refl _|exact LeO.none _|refine LeO.ite ?_ ?_|refine LeO.bind ?_ fun _=>?_
def impl_distance.T1:Bool × List (List Nat × List Nat):=(true,[([],[]),([0],[0]),([],[]),([2],[2]),([1,3],[1,3]),([],[]),([],[]),([],[]),([5,6,7],[5,6,7]),([8],[8]),([4,9],[4,9]),([10,8,0,1,2,3,4,5,6,7,8,9,10],[10])])
def impl_distance.B1:List Nat:=[0,1,0,4,15,0,0,0,224,480,1023,2047]
theorem impl_distance.tab1:rtab .any (opsOf Try.f55 1)=impl_distance.T1:=by kernel_rfl
theorem impl_distance.bits1:waitsOk impl_distance.T1.2 impl_distance.B1=true:=by kernel_rfl
set_option maxHeartbeats 8000000 in
set_option maxRecDepth 100000 in
theorem impl_distance.calls (k:Nat) (a0 a1_0 a1_1 a1_2 a2_0 a2_1 a2_2 r:Int) (w:World) (h:impl_distance.f k a0 a1_0 a1_1 a1_2 a2_0 a2_1 a2_2=some r) :
  Calls Try.prog 55 #[.int .i64 a0,.agg #[.int .i64 a1_0,.int .i64 a1_1,.int .i64 a1_2],.agg #[.int .i64 a2_0,.int .i64 a2_1,.int .i64 a2_2]] w fun e w'=>e=.returned (.int .i64 r)∧Below w.heap.size w w':=by
 have hu53:=Try.underlying53
 have HB:=Aside0.mk (Below.refl w.heap.size w)
 have H:=h
 unfold impl_distance.f at H
 clear h
 replace H:=bS H
 obtain ⟨t460,A4,H⟩:=H
 try dsimp only at H
 obtain rfl:=Option.some.inj H
 go_enter Try.func55,Try.ntmps55
 try go_wp2_with (first|((with_reducible refine gate_dst (N:=4) rfl ?_);refine bxE (cs:=#[.int .i64 a1_0,.int .i64 a1_1,.int .i64 a1_2]) (t:=53) ?_;intro gb458 hg w5 hbox hb;have n0_:=lB hb;have n1_:=Aside0.mk hbox;have n2_:=sA hg;have n3_:=sA hg;clear HB;have HB:=n0_;have BK458:=n1_;have GW458:=n2_;have GE458:=n3_;clear n0_ n1_ n2_ n3_;clear hb hbox hg)|((with_reducible refine gate_dst (N:=5) rfl ?_);refine bxE (cs:=#[.int .i64 a2_0,.int .i64 a2_1,.int .i64 a2_2]) (t:=53) ?_;intro gb459 hg w6 hbox hb;have n0_:=kB BK458 hb;have n1_:=lB hb;have n2_:=Aside0.mk hbox;have n3_:=sA hg;have n4_:=sA hg;have n5_:=nA hg BK458;have n6_:=nB hg BK458;clear BK458;clear HB;have BK458:=n0_;have HB:=n1_;have BK459:=n2_;have GW459:=n3_;have GE459:=n4_;have NB458_459:=n5_;have NB459_458:=n6_;clear n0_ n1_ n2_ n3_ n4_ n5_ n6_;clear hb hbox hg))
 have n0_:=Aside0.mk (blk_drew BK458.out)
 have n1_:=Aside0.mk (blk_drew BK459.out)
 have n2_:=Aside0.mk (below_drew1 HB.out)
 clear BK458
 clear BK459
 clear HB
 have BK458:=n0_
 have BK459:=n1_
 have HB:=n2_
 clear n0_ n1_ n2_
 refine start_ (n:=12) (S:=fun w'=>w'.cell? ⟨gb458,0,none⟩=some (.int .i64 a1_0)∧w'.cell? ⟨gb458,1,none⟩=some (.int .i64 a1_1)∧w'.cell? ⟨gb458,2,none⟩=some (.int .i64 a1_2)∧w'.cell? ⟨gb459,0,none⟩=some (.int .i64 a2_0)∧w'.cell? ⟨gb459,1,none⟩=some (.int .i64 a2_1)∧w'.cell? ⟨gb459,2,none⟩=some (.int .i64 a2_2)) (ds:=[]) #[Z,Z,Z,Z,Z,Z,Z,Z,Z,Z,Z,Z] (by kernel_rfl) rfl rfl ⟨cA BK458 0,cA BK458 1,cA BK458 2,cA BK459 0,cA BK459 1,cA BK459 2⟩ (fun hHeld=>?_);refine with_tabW impl_distance.tab1 impl_distance.bits1 (fun HT_ HW_=>?_)
 generalize w6.drew=w7 at BK458 BK459 HB hHeld ⊢
 refine puA (i:=0) (N:=some 7) #[Y,Z,Z,Z,Z,Z,Z,Z,Z,Z,Z,Z] rfl rfl HT_ ?_
 refine puA (i:=2) (N:=some 9) #[Y,Z,Y,Z,Z,Z,Z,Z,Z,Z,Z,Z] rfl rfl HT_ ?_
 refine puA (i:=5) (N:=some 12) #[Y,Z,Y,Z,Z,Y,Z,Z,Z,Z,Z,Z] rfl rfl HT_ ?_
 refine taA (i:=1) (N:=some 8) #[Y,Y,Y,Z,Z,Y,Z,Z,Z,Z,Z,Z] rfl rfl HT_ HW_ hHeld ?_
 refine taA (i:=3) (N:=some 10) #[Y,Y,Y,Y,Z,Y,Z,Z,Z,Z,Z,Z] rfl rfl HT_ HW_ hHeld ?_
 refine puA (i:=4) (N:=some 11) #[Y,Y,Y,Y,Y,Y,Z,Z,Z,Z,Z,Z] rfl rfl HT_ ?_
 refine taA (i:=6) (N:=some 13) #[Y,Y,Y,Y,Y,Y,Y,Z,Z,Z,Z,Z] rfl rfl HT_ HW_ hHeld ?_
 refine taA (i:=7) (N:=some 14) #[Y,Y,Y,Y,Y,Y,Y,Y,Z,Z,Z,Z] rfl rfl HT_ HW_ hHeld ?_
 refine one_ (i:=8) (N:=some 15) #[Y,Y,Y,Y,Y,Y,Y,Y,Y,Z,Z,Z] rfl rfl (one_of HT_.out (by kernel_rfl)) (by decide) (fun K hK=>?_)
 refine goC Try.func70 (impl_joinLevel.calls (w:=_) (h:=A4.out)) ?_
 intro w8 hb
 replace BK458:=kB BK458 hb
 replace BK459:=kB BK459 hb
 replace HB:=lB hb
 (try clear hb)
 (try clear hb2)
 (try clear hk)
 (try clear hi)
 refine hK.out _ _ ⟨cA BK458 0,cA BK458 1,cA BK458 2,cA BK459 0,cA BK459 1,cA BK459 2⟩ (fun hHeld=>?_)
 clear hK K
 refine nmA ?_
 refine puA (i:=9) (N:=some 16) #[Y,Y,Y,Y,Y,Y,Y,Y,Y,Y,Z,Z] rfl rfl HT_ ?_
 refine puA (i:=10) (N:=some 17) #[Y,Y,Y,Y,Y,Y,Y,Y,Y,Y,Y,Z] rfl rfl HT_ ?_
 refine puA (i:=11) (N:=some 6) #[Y,Y,Y,Y,Y,Y,Y,Y,Y,Y,Y,Y] rfl rfl HT_ ?_
 refine done_ (done_of HT_.out (by kernel_rfl)) ?_
 try go_wp2
 go_ret
 exact finA blA
def spec_l02Near.f (k:Nat) (a0 a1_0 a1_1 a1_2:Int):Option ((List (S53)) × Bool):=(spec_l01Parent.f k a0 a1_0 a1_1 a1_2).bind fun bt220=>((spec_l02Children.f k a0 a1_0 a1_1 a1_2).bind fun bt225=>((some (([(⟨bt220.1,bt220.2.1,bt220.2.2.1⟩:S53)]:List (S53)):List (S53))).bind fun y229=>(if y229.length+bt225.1.length<5864062014805 then ((some (y229 ++ bt225.1:List (S53))).bind fun y232=>(if bt220.2.2.2=true then (some (y232,bt225.2)) else (some (y232,false)))) else (none))))
theorem spec_l02Near.mono:∀ a0 a1 a2 a3 k,LeO (spec_l02Near.f k a0 a1 a2 a3) (spec_l02Near.f (k+1) a0 a1 a2 a3):=by
 intro a0 a1 a2 a3 k
 unfold spec_l02Near.f
 repeat' first
   | with_reducible first|exact spec_l01Parent.mono ..|exact spec_l02Children.mono ..|exact LeO.refl _|exact LeO.none _|refine LeO.ite ?_ ?_|refine LeO.bind ?_ fun _=>?_
set_option maxHeartbeats 8000000 in
set_option maxRecDepth 100000 in
theorem spec_l02Near.calls (k:Nat) (a0 a1_0 a1_1 a1_2:Int) (r1:List (S53)) (r2:Bool) (w:World) (h:spec_l02Near.f k a0 a1_0 a1_1 a1_2=some (r1,r2)) :
  Calls Try.prog 46 #[.int .i64 a0,.agg #[.int .i64 a1_0,.int .i64 a1_1,.int .i64 a1_2]] w fun e w'=>∃ v0_:Value,e=.returned (.tuple #[v0_,.bool r2])∧Kd.R k53 53 w' w.heap.size (fun _=>True) v0_ r1∧Below w.heap.size w w':=by
 have hu53:=Try.underlying53
 have HB:=Aside0.mk (Below.refl w.heap.size w)
 have H:=h
 unfold spec_l02Near.f at H
 clear h
 replace H:=bS H
 obtain ⟨⟨t220,t221,t222,t223⟩,A3,H⟩:=H
 try dsimp only at H
 replace H:=bS H
 obtain ⟨⟨t225,t228⟩,A4,H⟩:=H
 try dsimp only at H
 obtain ⟨y229,hy229⟩:∃ y_:List (S53),y_=(([(⟨t220,t221,t222⟩:S53)]:List (S53))):=⟨_,rfl⟩
 replace H:(if y229.length+t225.length<5864062014805 then ((some (y229 ++ t225:List (S53))).bind fun y232=>(if t223=true then (some (y232,t228)) else (some (y232,false)))) else (none))=some (r1,r2):=rH hy229 H
 have Ny229:=Aside0.mk hy229
 clear hy229
 by_cases c5:y229.length+t225.length<5864062014805
 rotate_left
 ·
  rw [if_neg c5] at H
  exact absurd H (by simp)
 rw [if_pos c5] at H
 have LMc5:=Aside0.mk c5
 clear c5
 obtain ⟨y232,hy232⟩:∃ y_:List (S53),y_=(y229 ++ t225):=⟨_,rfl⟩
 replace H:(if t223=true then (some (y232,t228)) else (some (y232,false)))=some (r1,r2):=rH hy232 H
 have Ny232:=Aside0.mk hy232
 clear hy232
 by_cases c6:t223=true
 ·
  subst c6
  rw [if_pos rfl] at H
  try dsimp only at H
  simp only [Option.some.injEq,Prod.mk.injEq] at H
  obtain ⟨rfl,rfl⟩:=H
  go_enter Try.func46,Try.ntmps46
  go_wp2_with (first|((with_reducible refine gate_dst (N:=3) rfl ?_);refine bxE (cs:=#[.int .i64 a1_0,.int .i64 a1_1,.int .i64 a1_2]) (t:=53) ?_;intro gb219 hg w7 hbox hb;have BK219:=Aside0.mk hbox;have GW219:=sA hg;have GE219:=sA hg;replace HB:=lB hb;clear hb hbox hg;obtain ⟨hcz8_0,hcz8_1,hcz8_2,hfz8_0,hfz8_1,hfz8_2⟩:=cz3 BK219)|((with_reducible refine gd 13 rfl ?_);refine gC (some 13) rfl Try.func60 (spec_l01Parent.calls (w:=_) (h:=A3.out)) ?_;intro w9 hb;replace BK219:=kB BK219 hb;replace HB:=lB hb;clear hb)|((with_reducible refine gate_dst (N:=6) rfl ?_);refine bxE (cs:=#[.int .i64 0,.int .i64 0,.int .i64 0]) (t:=53) ?_;intro gb224 hg w10 hbox hb;have BK224:=Aside0.mk hbox;have GW224:=sA hg;have GE224:=sA hg;have NB219_224:=nA hg BK219;have NB224_219:=nB hg BK219;replace BK219:=kB BK219 hb;replace HB:=lB hb;clear hb hbox hg;have hnb11:=NB224_219.out;have hnc11:=NB219_224.out;obtain ⟨hcz12_0,hcz12_1,hcz12_2,hfz12_0,hfz12_1,hfz12_2⟩:=cz3 BK224;obtain ⟨hcz13_0,hcz13_1,hcz13_2,hfz13_0,hfz13_1,hfz13_2⟩:=cz3 BK219)|((with_reducible refine gate_callee (f:=61) rfl ?_);refine gL (some 19) rfl Try.func61 #[.int .i64 a0,.agg #[.int .i64 a1_0,.int .i64 a1_1,.int .i64 a1_2]] ?_;(with_reducible refine (spec_l02Children.calls k a0 a1_0 a1_1 a1_2 t225 t228 _ A4.out).mono ?_);rintro e w14 ⟨v226,rfl,ho0,hb⟩;refine ⟨_,rfl,?_⟩;have n0_:=Aside0.mk (Kd.R_lower (Kd.R_newB (Kd.R_newB ho0 (g:=gb219) (o:=.cells #[.int .i64 a1_0,.int .i64 a1_1,.int .i64 a1_2] 53 (0,0)) (bkF BK219)) (g:=gb224) (o:=.cells #[.int .i64 t220,.int .i64 t221,.int .i64 t222] 53 (0,0)) (bpA BK224)) (below_size blA));have n1_:=Aside0.mk (blk_below (g:=gb219) (o:=.cells #[.int .i64 a1_0,.int .i64 a1_1,.int .i64 a1_2] 53 (0,0)) (bkF BK219) hb);have n2_:=Aside0.mk (blk_below (g:=gb224) (o:=.cells #[.int .i64 t220,.int .i64 t221,.int .i64 t222] 53 (0,0)) (bpA BK224) hb);have n3_:=lB hb;clear BK219;clear BK224;clear HB;have HO227:=n0_;have BK219:=n1_;have BK224:=n2_;have HB:=n3_;clear n0_ n1_ n2_ n3_;clear ho0 hb;obtain ⟨hcz15_0,hcz15_1,hcz15_2,hfz15_0,hfz15_1,hfz15_2⟩:=cz3 BK224)|((with_reducible refine gate_dst (N:=23) rfl ?_);refine Kd.R_lit k53 _ 53 ?hg (N:=23) ?hd (xs:=([(⟨t220,t221,t222⟩:S53)]:List (S53))) (inner:=[.int .i64 t220,.int .i64 t221,.int .i64 t222]) (ok:=fun _=>True) (okp:=fun _=>True) ?hr ?hp (fun _ hk=>hk) trivial (Below.refl _ _) (Nat.le_refl _) (by simp) ?_;(case hd=>rfl);(case hg=>rfl);(case hr=>first|(go_simp;done)|(go_simp;rfl));(case hp=>exact (Reps.c3 (show Kd.M k53 _ _ _ (⟨t220,t221,t222⟩:S53) [.int .i64 t220,.int .i64 t221,.int .i64 t222] from (k53_mkM _ _ _ (⟨t220,t221,t222⟩:S53) )) (Reps.none _ _)));intro v230 w16 ho17 hb hg_ hnew_;clear hg_ hnew_;(first|rw [← Ny229.out] at ho17|(simp only [Int.reduceToNat] at ho17;rw [← Ny229.out] at ho17));have HO231:=Aside0.mk (Kd.R_lower (Kd.R_newB (Kd.R_newB (Kd.R_new' ho17 (Kd.R_lt (rA HO227))) (bkA BK219)) (bkA BK224)) (below_size blA));replace HO227:=Aside0.mk (Kd.R_elder' (rA HO227) (Kd.R_base ho17) hb);replace BK219:=kB BK219 hb;replace BK224:=kB BK224 hb;replace HB:=lB hb;clear hb ho17;obtain ⟨Ao19,co19,eo19⟩:=Kd.R_slice HO227.out;subst eo19)|((with_reducible refine gate_builtin (b:=.append) (xs:=#[.tmp 23,.tmp 24]) rfl ?_);at_builtin;refine Kd.R_append_rows k53 (w0:=w) w.heap.size rfl (.tmp 23) (.tmp 24) 38 53 (.agg #[(.int .i64 0),(.int .i64 0),(.int .i64 0)]) 24 rfl Try.underlying38 info53 rfl (by decide) (by omega) v230 y229 t225 _ _ _ (fun k_=>some k_≠(.slice Ao19 t225.length co19:Value).ownBlock∧k_≠gb219∧k_≠gb224) (fun _=>False) rfl rfl ?aO ?aR (fun _ _ h=>h) (fun _ h=>h.elim) ?aF ?aB ?aS ?aL ?_;(case aR=>exact cR (Kd.R_reads' HO227.out).2.2);(case aB=>exact blA);(case aF=>exact (fun k_ hk=>⟨Kd.fresh' (Kd.R_lt (rA HO227)) k_ hk,Kd.freshB (bkA BK219) k_ hk,Kd.freshB (bkA BK224) k_ hk⟩));(case aO=>exact (by (with_reducible repeat (first|apply Kd.R_alloc|apply Kd.R_drewN|apply Kd.R_drew));exact Kd.R_mono HO231.out (fun _ hk=>⟨hk.1.1.2,⟨hk.1.2,hk.2⟩⟩)));(case aS=>exact (below_size blA));(case aL=>have:=LMc5.out;omega);intro v233 w18 ho hb hg hat;rw [← Ny232.out] at ho;have HO234:=Aside0.mk ho;replace BK219:=Aside0.mk (blk_grown (bkA BK219) hg (Kd.R_away HO231.out (fun _ hk=>hk.1.2)));replace BK224:=Aside0.mk (blk_grown (bkA BK224) hg (Kd.R_away HO231.out (fun _ hk=>hk.2)));replace HO227:=Aside0.mk (Kd.R_after (ok:=(fun k_=>k_≠gb219∧k_≠gb224)) (by (with_reducible repeat (first|apply Kd.R_alloc|apply Kd.R_drewN|apply Kd.R_drew));exact Kd.R_mono HO227.out (fun _ hk=>⟨⟨hk.1.1.2,hk.1.2⟩,hk.2⟩)) hg hat);replace HB:=Aside0.mk hb;clear HO231;clear ho hb hg hat))
  go_ret2
  exact ⟨_,eW,by (with_reducible repeat (first|apply Kd.R_alloc|apply Kd.R_drewN|apply Kd.R_drew));exact Kd.R_mono HO234.out (fun _ hk=>trivial),blA⟩
 ·
  replace c6:=Bool.eq_false_iff.mpr c6
  subst c6
  rw [if_neg (show ¬ (false=true) by decide)] at H
  try dsimp only at H
  simp only [Option.some.injEq,Prod.mk.injEq] at H
  obtain ⟨rfl,rfl⟩:=H
  go_enter Try.func46,Try.ntmps46
  go_wp2_with (first|((with_reducible refine gate_dst (N:=3) rfl ?_);refine bxE (cs:=#[.int .i64 a1_0,.int .i64 a1_1,.int .i64 a1_2]) (t:=53) ?_;intro gb219 hg w20 hbox hb;have BK219:=Aside0.mk hbox;have GW219:=sA hg;have GE219:=sA hg;replace HB:=lB hb;clear hb hbox hg;obtain ⟨hcz21_0,hcz21_1,hcz21_2,hfz21_0,hfz21_1,hfz21_2⟩:=cz3 BK219)|((with_reducible refine gd 13 rfl ?_);refine gC (some 13) rfl Try.func60 (spec_l01Parent.calls (w:=_) (h:=A3.out)) ?_;intro w22 hb;replace BK219:=kB BK219 hb;replace HB:=lB hb;clear hb)|((with_reducible refine gate_dst (N:=6) rfl ?_);refine bxE (cs:=#[.int .i64 0,.int .i64 0,.int .i64 0]) (t:=53) ?_;intro gb224 hg w23 hbox hb;have BK224:=Aside0.mk hbox;have GW224:=sA hg;have GE224:=sA hg;have NB219_224:=nA hg BK219;have NB224_219:=nB hg BK219;replace BK219:=kB BK219 hb;replace HB:=lB hb;clear hb hbox hg;have hnb24:=NB224_219.out;have hnc24:=NB219_224.out;obtain ⟨hcz25_0,hcz25_1,hcz25_2,hfz25_0,hfz25_1,hfz25_2⟩:=cz3 BK224;obtain ⟨hcz26_0,hcz26_1,hcz26_2,hfz26_0,hfz26_1,hfz26_2⟩:=cz3 BK219)|((with_reducible refine gate_callee (f:=61) rfl ?_);refine gL (some 19) rfl Try.func61 #[.int .i64 a0,.agg #[.int .i64 a1_0,.int .i64 a1_1,.int .i64 a1_2]] ?_;(with_reducible refine (spec_l02Children.calls k a0 a1_0 a1_1 a1_2 t225 t228 _ A4.out).mono ?_);rintro e w27 ⟨v226,rfl,ho0,hb⟩;refine ⟨_,rfl,?_⟩;have n0_:=Aside0.mk (Kd.R_lower (Kd.R_newB (Kd.R_newB ho0 (g:=gb219) (o:=.cells #[.int .i64 a1_0,.int .i64 a1_1,.int .i64 a1_2] 53 (0,0)) (bkF BK219)) (g:=gb224) (o:=.cells #[.int .i64 t220,.int .i64 t221,.int .i64 t222] 53 (0,0)) (bpA BK224)) (below_size blA));have n1_:=Aside0.mk (blk_below (g:=gb219) (o:=.cells #[.int .i64 a1_0,.int .i64 a1_1,.int .i64 a1_2] 53 (0,0)) (bkF BK219) hb);have n2_:=Aside0.mk (blk_below (g:=gb224) (o:=.cells #[.int .i64 t220,.int .i64 t221,.int .i64 t222] 53 (0,0)) (bpA BK224) hb);have n3_:=lB hb;clear BK219;clear BK224;clear HB;have HO227:=n0_;have BK219:=n1_;have BK224:=n2_;have HB:=n3_;clear n0_ n1_ n2_ n3_;clear ho0 hb;obtain ⟨hcz28_0,hcz28_1,hcz28_2,hfz28_0,hfz28_1,hfz28_2⟩:=cz3 BK224)|((with_reducible refine gate_dst (N:=23) rfl ?_);refine Kd.R_lit k53 _ 53 ?hg (N:=23) ?hd (xs:=([(⟨t220,t221,t222⟩:S53)]:List (S53))) (inner:=[.int .i64 t220,.int .i64 t221,.int .i64 t222]) (ok:=fun _=>True) (okp:=fun _=>True) ?hr ?hp (fun _ hk=>hk) trivial (Below.refl _ _) (Nat.le_refl _) (by simp) ?_;(case hd=>rfl);(case hg=>rfl);(case hr=>first|(go_simp;done)|(go_simp;rfl));(case hp=>exact (Reps.c3 (show Kd.M k53 _ _ _ (⟨t220,t221,t222⟩:S53) [.int .i64 t220,.int .i64 t221,.int .i64 t222] from (k53_mkM _ _ _ (⟨t220,t221,t222⟩:S53) )) (Reps.none _ _)));intro v230 w29 ho30 hb hg_ hnew_;clear hg_ hnew_;(first|rw [← Ny229.out] at ho30|(simp only [Int.reduceToNat] at ho30;rw [← Ny229.out] at ho30));have HO231:=Aside0.mk (Kd.R_lower (Kd.R_newB (Kd.R_newB (Kd.R_new' ho30 (Kd.R_lt (rA HO227))) (bkA BK219)) (bkA BK224)) (below_size blA));replace HO227:=Aside0.mk (Kd.R_elder' (rA HO227) (Kd.R_base ho30) hb);replace BK219:=kB BK219 hb;replace BK224:=kB BK224 hb;replace HB:=lB hb;clear hb ho30;obtain ⟨Ao32,co32,eo32⟩:=Kd.R_slice HO227.out;subst eo32)|((with_reducible refine gate_builtin (b:=.append) (xs:=#[.tmp 23,.tmp 24]) rfl ?_);at_builtin;refine Kd.R_append_rows k53 (w0:=w) w.heap.size rfl (.tmp 23) (.tmp 24) 38 53 (.agg #[(.int .i64 0),(.int .i64 0),(.int .i64 0)]) 24 rfl Try.underlying38 info53 rfl (by decide) (by omega) v230 y229 t225 _ _ _ (fun k_=>some k_≠(.slice Ao32 t225.length co32:Value).ownBlock∧k_≠gb219∧k_≠gb224) (fun _=>False) rfl rfl ?aO ?aR (fun _ _ h=>h) (fun _ h=>h.elim) ?aF ?aB ?aS ?aL ?_;(case aR=>exact cR (Kd.R_reads' HO227.out).2.2);(case aB=>exact blA);(case aF=>exact (fun k_ hk=>⟨Kd.fresh' (Kd.R_lt (rA HO227)) k_ hk,Kd.freshB (bkA BK219) k_ hk,Kd.freshB (bkA BK224) k_ hk⟩));(case aO=>exact (by (with_reducible repeat (first|apply Kd.R_alloc|apply Kd.R_drewN|apply Kd.R_drew));exact Kd.R_mono HO231.out (fun _ hk=>⟨hk.1.1.2,⟨hk.1.2,hk.2⟩⟩)));(case aS=>exact (below_size blA));(case aL=>have:=LMc5.out;omega);intro v233 w31 ho hb hg hat;rw [← Ny232.out] at ho;have HO234:=Aside0.mk ho;replace BK219:=Aside0.mk (blk_grown (bkA BK219) hg (Kd.R_away HO231.out (fun _ hk=>hk.1.2)));replace BK224:=Aside0.mk (blk_grown (bkA BK224) hg (Kd.R_away HO231.out (fun _ hk=>hk.2)));replace HO227:=Aside0.mk (Kd.R_after (ok:=(fun k_=>k_≠gb219∧k_≠gb224)) (by (with_reducible repeat (first|apply Kd.R_alloc|apply Kd.R_drewN|apply Kd.R_drew));exact Kd.R_mono HO227.out (fun _ hk=>⟨⟨hk.1.1.2,hk.1.2⟩,hk.2⟩)) hg hat);replace HB:=Aside0.mk hb;clear HO231;clear ho hb hg hat))
  go_ret2
  exact ⟨_,eW,by (with_reducible repeat (first|apply Kd.R_alloc|apply Kd.R_drewN|apply Kd.R_drew));exact Kd.R_mono HO234.out (fun _ hk=>trivial),blA⟩
def impl_regionCode.f (k:Nat) (a0:Int) (l1:List (S42)) (a2:Int):Option (Int):=(impl_isPrime.f a0).bind fun t311=>(if t311=true then ((impl_moversCode.f k l1).bind fun t312=>(if t312=0 then ((impl_isRadius.f a2).bind fun t313=>(if t313=true then (some 0) else (some 2))) else (some t312))) else (some 1))
theorem impl_regionCode.mono:∀ a0 a1 a2 k,LeO (impl_regionCode.f k a0 a1 a2) (impl_regionCode.f (k+1) a0 a1 a2):=by
 intro a0 a1 a2 k
 unfold impl_regionCode.f
 repeat' first
   | with_reducible first|exact impl_moversCode.mono ..|exact LeO.refl _|exact LeO.none _|refine LeO.ite ?_ ?_|refine LeO.bind ?_ fun _=>?_
set_option maxHeartbeats 8000000 in
set_option maxRecDepth 100000 in
theorem impl_regionCode.calls (k:Nat) (a0:Int) (A1:Option Addr) (c1:Nat) (l1:List (S42)) (a2 r:Int) (w:World) (hr1:Kd.C k42 w A1 l1.length l1) (hc1:l1.length≤c1) (h:impl_regionCode.f k a0 l1 a2=some r) :
  Calls Try.prog 18 #[.int .i64 a0,.slice A1 l1.length c1,.int .i64 a2] w fun e w'=>e=.returned (.int .i64 r)∧Below w.heap.size w w':=by
 have HR1:=Aside0.mk hr1
 have HC1:=Aside0.mk hc1
 clear hr1 hc1
 have HB:=Aside0.mk (Below.refl w.heap.size w)
 have H:=h
 unfold impl_regionCode.f at H
 clear h
 replace H:=bS H
 obtain ⟨t311,A4,H⟩:=H
 try dsimp only at H
 by_cases c5:t311=true
 ·
  subst c5
  rw [if_pos rfl] at H
  try dsimp only at H
  replace H:=bS H
  obtain ⟨t312,A6,H⟩:=H
  try dsimp only at H
  by_cases c7:t312=0
  ·
   rw [if_pos c7] at H
   have c7b0:(t312 == 0)=true:=beq_iff_eq.mpr c7
   have c7b1:(t312 != 0)=false:=bne_eq_false_iff_eq.mpr c7
   clear c7
   replace H:=bS H
   obtain ⟨t313,A8,H⟩:=H
   try dsimp only at H
   by_cases c9:t313=true
   focus
    subst c9
    rw [if_pos rfl] at H
    try dsimp only at H
    obtain rfl:=Option.some.inj H
   rotate_left
   focus
    replace c9:=Bool.eq_false_iff.mpr c9
    subst c9
    rw [if_neg (show ¬ (false=true) by decide)] at H
    try dsimp only at H
    obtain rfl:=Option.some.inj H
   rotate_left
   all_goals
    go_enter Try.func18,Try.ntmps18
    go_wp2_with (first|((with_reducible refine gd 9 rfl ?_);refine gC (some 9) rfl Try.func32 (impl_isPrime.calls (w:=_) (h:=A4.out)) ?_;rintro _ ⟨nd,rfl⟩)|((with_reducible refine gd 12 rfl ?_);refine gC (some 12) rfl Try.func33 (impl_moversCode.calls (w:=_) (hr0:=cR HR1.out) (hc0:=HC1.out) (h:=A6.out)) ?_;intro w10 hb;replace HB:=lB hb;clear hb)|((with_reducible refine gd 17 rfl ?_);refine gC (some 17) rfl Try.func34 (impl_isRadius.calls (w:=_) (h:=A8.out)) ?_;rintro _ ⟨nd,rfl⟩))
   ·
    go_ret
    exact finA blA
   ·
    go_ret
    exact finA blA
  ·
   rw [if_neg c7] at H
   have c7b0:(t312 == 0)=false:=beq_eq_false_iff_ne.mpr c7
   have c7b1:(t312 != 0)=true:=bne_iff_ne.mpr c7
   obtain rfl:=Option.some.inj H
   go_enter Try.func18,Try.ntmps18
   go_wp2_with (first|((with_reducible refine gd 9 rfl ?_);refine gC (some 9) rfl Try.func32 (impl_isPrime.calls (w:=_) (h:=A4.out)) ?_;rintro _ ⟨nd,rfl⟩)|((with_reducible refine gd 12 rfl ?_);refine gC (some 12) rfl Try.func33 (impl_moversCode.calls (w:=_) (hr0:=cR HR1.out) (hc0:=HC1.out) (h:=A6.out)) ?_;intro w12 hb;replace HB:=lB hb;clear hb))
   go_ret
   exact finA blA
 ·
  replace c5:=Bool.eq_false_iff.mpr c5
  subst c5
  rw [if_neg (show ¬ (false=true) by decide)] at H
  try dsimp only at H
  obtain rfl:=Option.some.inj H
  go_enter Try.func18,Try.ntmps18
  go_wp2_with (first|((with_reducible refine gd 9 rfl ?_);refine gC (some 9) rfl Try.func32 (impl_isPrime.calls (w:=_) (h:=A4.out)) ?_;rintro _ ⟨nd,rfl⟩))
  go_ret
  exact finA blA
end Go.Proofs.Ytnhiehpbkimaeaa.PAll
