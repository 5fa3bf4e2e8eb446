import Derived.Test.YtnhiehpbkimaeaaGreatQx
import Derived.Test.YtnhiehpbkimaeaaGreatQcmpCompareint64
import Derived.Test.YtnhiehpbkimaeaaGreatQimplspheres
import Derived.Test.YtnhiehpbkimaeaaGreatQspecSphereAround
namespace Go.Proofs.YtnhiehpbkimaeaaGreat.PAll
open Go.RowKit Go.Proofs.YtnhiehpbkimaeaaGreatW.PrintWords Go.Proofs.YtnhiehpbkimaeaaGreatW.PrintLast Go.Proofs.YtnhiehpbkimaeaaGreatW.PrintMore
attribute [local go_sem] Go.Proofs.YtnhiehpbkimaeaaGreat.Aux.setCell_drewN Go.Proofs.YtnhiehpbkimaeaaGreat.Aux.isSome_setCell cC b9 cQ cP bm bl cB b8
set_option linter.unusedVariables false
set_option linter.unusedSimpArgs false
def bI.l0:Nat→Int→Int→List (S43)→Int→Option ((List (S43)))
 | 0,_,_,_,_=>none
 | k+1,x0,x1,x5,x6=>if x6≤x1 then ((aH.f k x0 0 0 0 x6).bind fun bt218=>(if x5.length+bt218.1.length<5864062014805 then (bI.l0 k x0 x1 (x5 ++ bt218.1) (wrap64 (x6+1))) else (none))) else (some x5)
def bI.f (k:Nat) (a0 a1:Int):Option ((List (S43))):=bI.l0 k a0 a1 (([]:List (S43))) 0
set_option maxHeartbeats 8000000 in
set_option maxRecDepth 100000 in
theorem bI.calls (k:Nat) (a0 a1:Int) (r:List (S43)) (w:World) (h:bI.f k a0 a1=some r) :
  Calls Tryz.prog 27 #[.int .i64 a0,.int .i64 a1] w fun e w'=>∃ v0_:Value,e=.returned (v0_)∧Kd.R k43 43 w' w.heap.size (fun _=>True) v0_ r∧Below w.heap.size w w':=by
 have hu43:=Tryz.underlying43
 have HB:=aA.mk (Below.refl w.heap.size w)
 have H:=h
 unfold bI.f at H
 clear h
 obtain ⟨y215,hy215⟩:∃ y_:List (S43),y_=(([]:List (S43))):=⟨_,rfl⟩
 replace H:(bI.l0 k a0 a1 y215 0)=some r:=rH hy215 H
 have Ny215:=aA.mk hy215
 clear hy215
 have H':=aA.mk H
 clear H
 go_enter Tryz.func27,Tryz.ntmps27
 go_wp2_with (first|((with_reducible refine aN (N:=9) rfl ?_);refine Kd.R_lit k43 _ 43 ?hg (N:=9) ?hd (xs:=([]:List (S43))) (inner:=[]) (ok:=fun _=>True) (okp:=fun _=>True) ?hr ?hp (fun _ hk=>hk) trivial (Below.refl _ _) (Nat.le_refl _) (by simp) ?_;(case hd=>rfl);(case hg=>rfl);(case hr=>first|(go_simp;done)|(go_simp;rfl));(case hp=>exact (bD.none _ _));intro v216 w3 ho4 hb hg_ hnew_;clear hg_ hnew_;(first|rw [← Ny215.out] at ho4|(simp only [Int.reduceToNat] at ho4;rw [← Ny215.out] at ho4));have HO217:=aA.mk (Kd.R_lower ho4 (aQ blA));replace HB:=lB hb;clear hb ho4))
 go_loopg [5,6] k (fun kq v5 v6 w'=>∃ (x5_1:List (S43)) (x6_1:Int),v6=.int .i64 x6_1∧aA (bI.l0 kq a0 a1 x5_1 x6_1=some r)∧aA (kq≤k)∧aA (Kd.R k43 43 w' w.heap.size (fun _=>True) v5 x5_1)∧aA (Below w.heap.size w w'))
 case atStart=>exact ⟨(y215),(0),hB,H',⟨Nat.le_refl _⟩,⟨rA HO217⟩,⟨blA⟩⟩
 case round=>
  clear H'
  obtain ⟨x5_1,x6_1,rfl,HA,HK1,HO_5,HB⟩:=hrel
  cases gk with
  | zero=>exact absurd HA.out (by simp [bI.l0])
  | succ k1=>
   have H:=HA.out
   clear HA
   simp only [bI.l0] at H
   by_cases c5:x6_1≤a1
   ·
    rw [if_pos c5] at H
    have c5b0:=decide_eq_true c5
    clear c5
    replace H:=bS H
    obtain ⟨⟨t218,t221⟩,A6,H⟩:=H
    try dsimp only at H
    by_cases c7:x5_1.length+t218.length<5864062014805
    rotate_left
    ·
     rw [if_neg c7] at H
     exact absurd H (by simp)
    rw [if_pos c7] at H
    have LMc7:=aA.mk c7
    clear c7
    obtain ⟨y222,hy222⟩:∃ y_:List (S43),y_=(x5_1 ++ t218):=⟨_,rfl⟩
    replace H:(bI.l0 k1 a0 a1 y222 (wrap64 (x6_1+1)))=some r:=rH hy222 H
    have Ny222:=aA.mk hy222
    clear hy222
    have H':=aA.mk H
    clear H
    go_wp2_with (first|((with_reducible refine a6 (f:=67) rfl ?_);refine gL (some 19) rfl Tryz.func67 #[.int .i64 a0,.agg #[.int .i64 0,.int .i64 0,.int .i64 0],.int .i64 x6_1] ?_;(with_reducible refine (aH.calls k1 a0 0 0 0 x6_1 t218 t221 _ A6.out).mono ?_);rintro e w8 ⟨v219,rfl,ho0,hb⟩;refine ⟨_,rfl,?_⟩;have HO220:=aA.mk (Kd.R_lower (Kd.R_new' ho0 (Kd.R_lt (rA HO_5))) (aQ blA));replace HO_5:=aA.mk (Kd.R_elder' (rA HO_5) (Kd.R_base ho0) hb);replace HB:=lB hb;clear ho0 hb;obtain ⟨Ao10,co10,eo10⟩:=Kd.R_slice HO220.out;subst eo10)|((with_reducible refine bY (b:=.append) (xs:=#[.tmp 22,.tmp 23]) rfl ?_);at_builtin;refine Kd.R_append_rows k43 (w0:=w) w.heap.size rfl (.tmp 22) (.tmp 23) 38 43 (.agg #[(.int .i64 0),(.int .i64 0),(.int .i64 0)]) 24 rfl Tryz.underlying38 eE rfl (by decide) (by omega) u5 x5_1 t218 _ _ _ (fun k_=>some k_≠(.slice Ao10 t218.length co10:Value).ownBlock) (fun _=>False) rfl rfl ?aO ?aR (fun _ _ h=>h) (fun _ h=>h.elim) ?aF ?aB ?aS ?aL ?_;(case aR=>exact cR (Kd.R_reads' HO220.out).2.2);(case aB=>exact blA);(case aF=>exact (fun k_ hk=>Kd.fresh' (Kd.R_lt (rA HO220)) k_ hk));(case aO=>exact (by (with_reducible repeat (first|apply Kd.R_alloc|apply Kd.R_drewN|apply Kd.R_drew));exact Kd.R_mono HO_5.out (fun _ hk=>hk.2)));(case aS=>exact (aQ blA));(case aL=>have:=LMc7.out;omega);intro v223 w9 ho hb hg hat;rw [← Ny222.out] at ho;have HO224:=aA.mk ho;replace HO220:=aA.mk (Kd.R_after (ok:=(fun _=>True)) (rA HO220) hg hat);replace HB:=aA.mk hb;clear HO_5;clear ho hb hg hat))
    go_roundg k1
    case measure=>have:=HK1.out;omega
    case rel=>exact ⟨(y222),(wrap64 (x6_1+1)),hB,H',⟨by have:=HK1.out;omega⟩,⟨by (with_reducible repeat (first|apply Kd.R_alloc|apply Kd.R_drewN|apply Kd.R_drew));exact Kd.R_mono HO224.out (fun _ hk=>trivial)⟩,⟨blA⟩⟩
   ·
    rw [if_neg c5] at H
    have c5b0:=decide_eq_false c5
    clear c5
    obtain rfl:=Option.some.inj H
    go_wp2
    go_ret
    exact ⟨_,eW,rA HO_5,blA⟩
def dI.f (k:Nat) (a0 a1:Int):Option ((List (S43))):=(aY.f k a0 0 0 0 a1).bind fun bt441=>((az.f k bt441.1).bind fun t445=>(some t445))
set_option maxHeartbeats 8000000 in
set_option maxRecDepth 100000 in
theorem dI.calls (k:Nat) (a0 a1:Int) (r:List (S43)) (w:World) (h:dI.f k a0 a1=some r) :
  Calls Tryz.prog 33 #[.int .i64 a0,.int .i64 a1] w fun e w'=>∃ v0_:Value,e=.returned (v0_)∧Kd.R k43 43 w' w.heap.size (fun _=>True) v0_ r∧Below w.heap.size w w':=by
 have hu43:=Tryz.underlying43
 have HB:=aA.mk (Below.refl w.heap.size w)
 have H:=h
 unfold dI.f at H
 clear h
 replace H:=bS H
 obtain ⟨⟨t441,t444⟩,A3,H⟩:=H
 try dsimp only at H
 replace H:=bS H
 obtain ⟨t445,A4,H⟩:=H
 try dsimp only at H
 obtain rfl:=Option.some.inj H
 go_enter Tryz.func33,Tryz.ntmps33
 go_wp2_with (first|((with_reducible refine a6 (f:=71) rfl ?_);refine gL (some 11) rfl Tryz.func71 #[.int .i64 a0,.agg #[.int .i64 0,.int .i64 0,.int .i64 0],.int .i64 a1] ?_;(with_reducible refine (aY.calls k a0 0 0 0 a1 t441 t444 _ A3.out).mono ?_);rintro e w5 ⟨v442,rfl,ho0,hb⟩;refine ⟨_,rfl,?_⟩;have HO443:=aA.mk (Kd.N_lower (Kd.N_mono (ok':=fun k_=>True) ho0 (fun k_ hk_=>trivial)) (aQ blA));replace HB:=lB hb;clear ho0 hb;obtain ⟨Ao6,co6,eo6⟩:=Kd.N_slice HO443.out;subst eo6)|((with_reducible refine a6 (f:=72) rfl ?_);refine gL (some 15) rfl Tryz.func72 #[.slice Ao6 t441.length co6] ?_;(with_reducible refine (az.calls k _ _ t441 t445 _ ?side1 ?side2 A4.out).mono ?_);(case side1=>exact cR (Kd.N_reads' HO443.out).2.2);(case side2=>exact (Kd.N_reads' HO443.out).2.1);rintro e w7 ⟨v446,rfl,ho0,hb⟩;refine ⟨_,rfl,?_⟩;have HO447:=aA.mk (Kd.R_lower ho0 (aQ blA));replace HO443:=aA.mk (Kd.N_elder' (rN HO443) (Kd.R_base ho0) hb);replace HB:=lB hb;clear ho0 hb))
 go_ret
 exact ⟨_,eW,rA HO447,blA⟩
end Go.Proofs.YtnhiehpbkimaeaaGreat.PAll
