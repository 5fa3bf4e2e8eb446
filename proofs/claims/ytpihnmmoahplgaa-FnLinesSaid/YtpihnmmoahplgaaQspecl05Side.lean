import Derived.Test.YtpihnmmoahplgaaQx
import Derived.Test.YtpihnmmoahplgaaQspecl01Of
namespace Go.Proofs.Ytpihnmmoahplgaa.PAll
open Go.RowKit Go.Proofs.YtpihnmmoahplgaaW.PrintWords Go.Proofs.YtpihnmmoahplgaaW.PrintLast Go.Proofs.YtpihnmmoahplgaaW.PrintMore
attribute [local go_sem] Go.Proofs.Ytpihnmmoahplgaa.Aux.setCell_drewN Go.Proofs.Ytpihnmmoahplgaa.Aux.isSome_setCell Go.Proofs.Ytpihnmmoahplgaa.Aux.max_eight bq bo cG cF ba bZ bp bm
set_option linter.unusedVariables false
set_option linter.unusedSimpArgs false
mutual
def bD.j0:Nat→Int→Int→Int→List (S25)→Int→Int→Int→Option ((List (S25)) × Bool)
 | 0,_,_,_,_,_,_,_=>none
 | k+1,x0,x2,x3,x10,x11,x304000,x304001=>bD.l0 k x0 x3 x10 x11 x2 x304000 x304001
def bD.l0:Nat→Int→Int→List (S25)→Int→Int→Int→Int→Option ((List (S25)) × Bool)
 | 0,_,_,_,_,_,_,_=>none
 | k+1,x0,x3,x10,x11,x12,x304000,x304001=>(cM.f k x0 x304000 x304001 x12).bind fun bt307=>(if bt307.2.2.2=true then (if x10.length<5864062014805 then ((some (x10 ++ [(⟨bt307.1,bt307.2.1,bt307.2.2.1⟩:S25)]:List (S25))).bind fun y312=>(if x12=x3 then (some (y312,true)) else (bD.l0 k x0 x3 y312 x11 (wrap64 (x12+x11)) x304000 x304001))) else (none)) else (some (([]:List (S25)),false)))
end
def bD.f (k:Nat) (a0 a1_0 a1_1 a2 a3:Int):Option ((List (S25)) × Bool):=(some (([]:List (S25)):List (S25))).bind fun y304=>(if a3<a2 then (bD.j0 k a0 a2 a3 y304 (-1) a1_0 a1_1) else (bD.j0 k a0 a2 a3 y304 1 a1_0 a1_1))
set_option maxHeartbeats 8000000 in
set_option maxRecDepth 100000 in
theorem bD.calls (k:Nat) (a0 a1_0 a1_1 a2 a3:Int) (r1:List (S25)) (r2:Bool) (w:World) (h:bD.f k a0 a1_0 a1_1 a2 a3=some (r1,r2)) :
  Calls Try.prog 45 #[.int .i64 a0,.agg #[.int .i64 a1_0,.int .i64 a1_1],.int .i64 a2,.int .i64 a3] w fun e w'=>∃ v0_:Value,e=.returned (.tuple #[v0_,.bool r2])∧Kd.R k25 25 w' w.heap.size (fun _=>True) v0_ r1∧Below w.heap.size w w':=by
 have hu28:=Try.underlying28
 have hu25:=Try.underlying25
 have HB:=aA.mk (Below.refl w.heap.size w)
 have H:=h
 unfold bD.f at H
 clear h
 obtain ⟨y304,hy304⟩:∃ y_:List (S25),y_=(([]:List (S25))):=⟨_,rfl⟩
 replace H:(if a3<a2 then (bD.j0 k a0 a2 a3 y304 (-1) a1_0 a1_1) else (bD.j0 k a0 a2 a3 y304 1 a1_0 a1_1))=some (r1,r2):=rH hy304 H
 have Ny304:=aA.mk hy304
 clear hy304
 have HC5:=aA.mk H
 clear H
 go_enter Try.func45,Try.ntmps45
 go_upto_if 18 with (first|((with_reducible refine aH (N:=5) rfl ?_);refine bxE (cs:=#[.int .i64 a1_0,.int .i64 a1_1]) (t:=28) ?_;intro gb303 hg w6 hbox hb;have BK303:=aA.mk hbox;have GW303:=sA hg;have GE303:=sA hg;replace HB:=lB hb;clear hb hbox hg)|((with_reducible refine aH (N:=15) rfl ?_);refine Kd.R_lit k25 _ 25 ?hg (N:=15) ?hd (xs:=([]:List (S25))) (inner:=[]) (ok:=fun _=>True) (okp:=fun _=>True) ?hr ?hp (fun _ hk=>hk) trivial (Below.refl _ _) (Nat.le_refl _) (by simp) ?_;(case hd=>rfl);(case hg=>rfl);(case hr=>first|(go_simp;done)|(go_simp;rfl));(case hp=>exact (aY.none _ _));intro v305 w7 ho8 hb hg_ hnew_;clear hg_ hnew_;(first|rw [← Ny304.out] at ho8|(simp only [Int.reduceToNat] at ho8;rw [← Ny304.out] at ho8));have HO306:=aA.mk (Kd.R_lower ho8 (ak blA));replace BK303:=kB BK303 hb;replace HB:=lB hb;clear hb ho8))
 (try simp only [Act.put,List.setIfInBounds_toArray,List.set_cons_zero,List.set_cons_succ])
 go_cut [11] (fun v11 wc=>∃ (kq:Nat) (x11_4:Int),v11=.int .i64 x11_4∧aA (bD.j0 kq a0 a2 a3 y304 x11_4 a1_0 a1_1=some (r1,r2))∧aA (kq≤k)∧aA (Kd.R k25 25 wc w.heap.size (fun _=>True) v305 y304)∧aA (wc.heap[gb303]?=some (.cells #[.int .i64 a1_0,.int .i64 a1_1] 28 (0,0)))∧aA (Below w.heap.size w wc))
 case first=>
  have H:=HC5.out
  clear HC5
  by_cases c9:a3<a2
  ·
   rw [if_pos c9] at H
   have c9b0:=decide_eq_true c9
   clear c9
   (first|rw [c9b0]|(simp only [cl,co];rw [c9b0])|skip)
   have H':=aA.mk H
   clear H
   go_wp2
   go_meet
   case rel=>exact ⟨_,((-1)),hB,H',⟨by first|omega|exact Nat.le_refl _⟩,⟨rA HO306⟩,⟨bkA BK303⟩,⟨blA⟩⟩
  ·
   rw [if_neg c9] at H
   have c9b0:=decide_eq_false c9
   clear c9
   (first|rw [c9b0]|(simp only [cl,co];rw [c9b0])|skip)
   have H':=aA.mk H
   clear H
   go_wp2
   go_meet
   case rel=>exact ⟨_,(1),hB,H',⟨by first|omega|exact Nat.le_refl _⟩,⟨rA HO306⟩,⟨bkA BK303⟩,⟨blA⟩⟩
 case rest=>
  clear HC5
  try clear c9
  try clear c9b0
  obtain ⟨kq,x11_4,rfl,HA,HJ4,HO_10,BK303,HB⟩:=hcut
  cases kq with
  | zero=>exact absurd HA.out (by simp [bD.j0])
  | succ kj4=>
   have H:=HA.out
   clear HA
   simp only [bD.j0] at H
   have H':=aA.mk H
   clear H
   go_wp2
   go_loopg [10,12] kj4 (fun kq v10 v12 w'=>∃ (x10_2:List (S25)) (x12_2:Int),v12=.int .i64 x12_2∧aA (bD.l0 kq a0 a3 x10_2 x11_4 x12_2 a1_0 a1_1=some (r1,r2))∧aA (kq≤kj4)∧aA (Kd.R k25 25 w' w.heap.size (fun _=>True) v10 x10_2)∧aA (w'.heap[gb303]?=some (.cells #[.int .i64 a1_0,.int .i64 a1_1] 28 (0,0)))∧aA (Below w.heap.size w w'))
   case atStart=>exact ⟨(y304),(a2),hB,H',⟨Nat.le_refl _⟩,⟨rA HO_10⟩,⟨bkA BK303⟩,⟨blA⟩⟩
   case round=>
    clear H'
    try clear c9
    try clear c9b0
    obtain ⟨x10_2,x12_2,rfl,HA,HK2,HO_10,BK303,HB⟩:=hrel
    cases gk with
    | zero=>exact absurd HA.out (by simp [bD.l0])
    | succ k2=>
     have H:=HA.out
     clear HA
     simp only [bD.l0] at H
     replace H:=bS H
     obtain ⟨⟨t307,t308,t309,t310⟩,A10,H⟩:=H
     try dsimp only at H
     by_cases c11:t310=true
     ·
      subst c11
      rw [if_pos rfl] at H
      try dsimp only at H
      by_cases c12:x10_2.length<5864062014805
      rotate_left
      ·
       rw [if_neg c12] at H
       exact absurd H (by simp)
      rw [if_pos c12] at H
      have LMc12:=aA.mk c12
      clear c12
      obtain ⟨y312,hy312⟩:∃ y_:List (S25),y_=(x10_2 ++ [(⟨t307,t308,t309⟩:S25)]):=⟨_,rfl⟩
      replace H:(if x12_2=a3 then (some (y312,true)) else (bD.l0 k2 a0 a3 y312 x11_4 (wrap64 (x12_2+x11_4)) a1_0 a1_1))=some (r1,r2):=rH hy312 H
      have Ny312:=aA.mk hy312
      clear hy312
      by_cases c13:x12_2=a3
      focus
       rw [if_pos c13] at H
       have c13b0:(x12_2 == a3)=true:=beq_iff_eq.mpr c13
       have c13b1:(x12_2 != a3)=false:=bne_eq_false_iff_eq.mpr c13
       clear c13
       simp only [Option.some.injEq,Prod.mk.injEq] at H
       obtain ⟨rfl,rfl⟩:=H
       obtain ⟨hcz14_0,hcz14_1,hfz14_0,hfz14_1⟩:=cz2 BK303
      rotate_left
      focus
       rw [if_neg c13] at H
       have c13b0:(x12_2 == a3)=false:=beq_eq_false_iff_ne.mpr c13
       have c13b1:(x12_2 != a3)=true:=bne_iff_ne.mpr c13
       have H':=aA.mk H
       clear H
       obtain ⟨hcz20_0,hcz20_1,hfz20_0,hfz20_1⟩:=cz2 BK303
      rotate_left
      all_goals
       go_wp2_with (first|((with_reducible refine gd 30 rfl ?_);refine gC (some 30) rfl Try.func30 (cM.calls (w:=_) (h:=A10.out)) ?_;intro w15 hb;replace HO_10:=aA.mk (Kd.R_below (rA HO_10) hb);replace BK303:=kB BK303 hb;replace HB:=lB hb;clear hb)|((with_reducible refine aH (N:=13) rfl ?_);refine bxE (cs:=#[.int .i64 0,.int .i64 0,.int .i64 0]) (t:=25) ?_;intro gb311 hg w16 hbox hb;have BK311:=aA.mk hbox;have GW311:=sA hg;have GE311:=sA hg;have NB303_311:=nA hg BK303;have NB311_303:=nB hg BK303;have LT303_311:=nL hg BK303;replace HO_10:=aA.mk (Kd.R_below (Kd.R_elderB (rA HO_10) gb311 (Nat.le_of_eq hg.symm)) hb);replace BK303:=kB BK303 hb;replace HB:=lB hb;clear hb hbox hg;have hnb17:=LT303_311.out;obtain ⟨hcz18_0,hcz18_1,hcz18_2,hfz18_0,hfz18_1,hfz18_2⟩:=cz3 BK311)|((with_reducible refine eN (b:=.append) (xs:=#[.tmp 35,.tmp 37]) rfl ?_);at_builtin;refine Kd.R_append k25 (w0:=w) w.heap.size rfl (.tmp 35) (.tmp 37) 36 25 (.agg #[(.int .i64 0),(.int .i64 0),(.int .i64 0)]) 24 rfl Try.underlying36 info25 rfl (by decide) (by omega) u10 x10_2 (⟨t307,t308,t309⟩:S25) [.int .i64 t307,.int .i64 t308,.int .i64 t309] (fun k_=>k_≠gb311) (fun _=>False) rfl (by first|(go_simp;done)|(go_simp;rfl)) ?aP (fun _ hk=>hk.elim) ?aF ?aO ?aB ?aS ?aL ?_;(case aP=>exact ex _ _ _ (⟨t307,t308,t309⟩:S25));(case aB=>exact blA);(case aF=>exact (fun k_ hk=>Kd.freshB (g:=gb311) (o:=.cells #[.int .i64 t307,.int .i64 t308,.int .i64 t309] 25 (0,0)) (bpA BK311) k_ hk));(case aO=>exact (by (with_reducible repeat (first|apply Kd.R_alloc|apply Kd.R_drewN|apply Kd.R_drew));exact Kd.R_mono (Kd.R_far (p:=⟨gb311,2,none⟩) (Kd.R_far (p:=⟨gb311,1,none⟩) (Kd.R_far (p:=⟨gb311,0,none⟩) (Kd.R_mono HO_10.out (fun k_ hk=>(⟨hk,hk.2⟩:_∧k_≠gb311))) (fun _ hk=>hk.2) (.int .i64 t307)) (fun _ hk=>hk.2) (.int .i64 t308)) (fun _ hk=>hk.2) (.int .i64 t309)) (fun _ hk=>hk.1.2)));(case aS=>exact (ak blA));(case aL=>have:=LMc12.out;omega);intro v313 w19 ho hb hg hat;rw [← Ny312.out] at ho;have HO314:=aA.mk ho;replace BK303:=aA.mk (b9 (g:=gb303) (o:=.cells #[.int .i64 a1_0,.int .i64 a1_1] 28 (0,0)) (bkF BK303) hg (Kd.R_ne HO_10.out BK303.out (by decide)));replace BK311:=aA.mk (b9 (g:=gb311) (o:=.cells #[.int .i64 t307,.int .i64 t308,.int .i64 t309] 25 (0,0)) (bpA BK311) hg (Kd.R_away HO_10.out (fun _ hk=>hk.2)));replace HB:=aA.mk hb;clear HO_10;clear ho hb hg hat))
      ·
       go_ret2
       exact ⟨_,eW,by (with_reducible repeat (first|apply Kd.R_alloc|apply Kd.R_drewN|apply Kd.R_drew));exact Kd.R_mono HO314.out (fun _ hk=>trivial),blA⟩
      ·
       go_roundg k2
       case measure=>have:=HJ4.out;have:=HK2.out;omega
       case rel=>exact ⟨(y312),(wrap64 (x12_2+x11_4)),hB,H',⟨by have:=HJ4.out;have:=HK2.out;omega⟩,⟨by (with_reducible repeat (first|apply Kd.R_alloc|apply Kd.R_drewN|apply Kd.R_drew));exact Kd.R_mono HO314.out (fun _ hk=>trivial)⟩,⟨bkA BK303⟩,⟨blA⟩⟩
     ·
      replace c11:=Bool.eq_false_iff.mpr c11
      subst c11
      rw [if_neg (show ¬ (false=true) by decide)] at H
      try dsimp only at H
      simp only [Option.some.injEq,Prod.mk.injEq] at H
      obtain ⟨rfl,rfl⟩:=H
      obtain ⟨hcz26_0,hcz26_1,hfz26_0,hfz26_1⟩:=cz2 BK303
      go_wp2_with (first|((with_reducible refine gd 30 rfl ?_);refine gC (some 30) rfl Try.func30 (cM.calls (w:=_) (h:=A10.out)) ?_;intro w27 hb;replace HO_10:=aA.mk (Kd.R_below (rA HO_10) hb);replace BK303:=kB BK303 hb;replace HB:=lB hb;clear hb)|((with_reducible refine aH (N:=13) rfl ?_);refine bxE (cs:=#[.int .i64 0,.int .i64 0,.int .i64 0]) (t:=25) ?_;intro gb311 hg w28 hbox hb;have BK311:=aA.mk hbox;have GW311:=sA hg;have GE311:=sA hg;have NB303_311:=nA hg BK303;have NB311_303:=nB hg BK303;have LT303_311:=nL hg BK303;replace HO_10:=aA.mk (Kd.R_below (Kd.R_elderB (rA HO_10) gb311 (Nat.le_of_eq hg.symm)) hb);replace BK303:=kB BK303 hb;replace HB:=lB hb;clear hb hbox hg;have hnb29:=LT303_311.out;obtain ⟨hcz30_0,hcz30_1,hcz30_2,hfz30_0,hfz30_1,hfz30_2⟩:=cz3 BK311))
      go_ret2
      exact ⟨_,eW,nlA,blA⟩
end Go.Proofs.Ytpihnmmoahplgaa.PAll
