import Derived.Test.YtpihnmmoahplgaaQx
import Derived.Test.YtpihnmmoahplgaaQimplIsBall
import Derived.Test.YtpihnmmoahplgaaQimpltimes
import Derived.Test.YtpihnmmoahplgaaQspecDrawBallsOfLine
import Derived.Test.YtpihnmmoahplgaaQspecl01End
import Derived.Test.YtpihnmmoahplgaaQspecl01EndOf
import Derived.Test.YtpihnmmoahplgaaQspecl05Small
namespace Go.Proofs.Ytpihnmmoahplgaa.PAll
open Go.RowKit Go.Proofs.YtpihnmmoahplgaaW.PrintWords Go.Proofs.YtpihnmmoahplgaaW.PrintLast Go.Proofs.YtpihnmmoahplgaaW.PrintMore
attribute [local go_sem] Go.Proofs.Ytpihnmmoahplgaa.Aux.setCell_drewN Go.Proofs.Ytpihnmmoahplgaa.Aux.isSome_setCell Go.Proofs.Ytpihnmmoahplgaa.Aux.max_eight bq bo cG cF ba bZ bp bm
set_option linter.unusedVariables false
set_option linter.unusedSimpArgs false
attribute [local go_sem high] eqA28
def cu.f (k:Nat) (a0 a1_0 a1_1 a1_2:Int):Option (Int):=(ar.f k a0 (wrap64 (6 - a1_2))).bind fun t358=>(some (wrap64 (a1_1*t358)))
set_option maxHeartbeats 8000000 in
set_option maxRecDepth 100000 in
theorem cu.calls (k:Nat) (a0 a1_0 a1_1 a1_2 r:Int) (w:World) (h:cu.f k a0 a1_0 a1_1 a1_2=some r) :
  Calls Try.prog 83 #[.int .i64 a0,.agg #[.int .i64 a1_0,.int .i64 a1_1,.int .i64 a1_2]] w fun e w'=>e=.returned (.int .i64 r)∧Below w.heap.size w w':=by
 have hu25:=Try.underlying25
 have HB:=aA.mk (Below.refl w.heap.size w)
 have H:=h
 unfold cu.f at H
 clear h
 replace H:=bS H
 obtain ⟨t358,A3,H⟩:=H
 try dsimp only at H
 obtain rfl:=Option.some.inj H
 go_enter Try.func83,Try.ntmps83
 go_wp2_with (first|((with_reducible refine aH (N:=3) rfl ?_);refine bxE (cs:=#[.int .i64 a1_0,.int .i64 a1_1,.int .i64 a1_2]) (t:=25) ?_;intro gb357 hg w4 hbox hb;have BK357:=aA.mk hbox;have GW357:=sA hg;have GE357:=sA hg;replace HB:=lB hb;clear hb hbox hg;obtain ⟨hcz5_0,hcz5_1,hcz5_2,hfz5_0,hfz5_1,hfz5_2⟩:=cz3 BK357)|(go_at_call 76;(with_reducible refine (ar.calls k a0 (wrap64 (6 - a1_2)) t358 _ A3.out).mono ?_);rintro e w' ⟨rfl,⟨nd,rfl⟩⟩;(try exact dd)))
 repeat (go_quiet (first|((with_reducible refine aH (N:=3) rfl ?_);refine bxE (cs:=#[.int .i64 a1_0,.int .i64 a1_1,.int .i64 a1_2]) (t:=25) ?_;intro gb357 hg w4 hbox hb;have BK357:=aA.mk hbox;have GW357:=sA hg;have GE357:=sA hg;replace HB:=lB hb;clear hb hbox hg;obtain ⟨hcz5_0,hcz5_1,hcz5_2,hfz5_0,hfz5_1,hfz5_2⟩:=cz3 BK357)|(go_at_call 76;(with_reducible refine (ar.calls k a0 (wrap64 (6 - a1_2)) t358 _ A3.out).mono ?_);rintro e w' ⟨rfl,⟨nd,rfl⟩⟩;(try exact dd)));try go_wp2_with (first|((with_reducible refine aH (N:=3) rfl ?_);refine bxE (cs:=#[.int .i64 a1_0,.int .i64 a1_1,.int .i64 a1_2]) (t:=25) ?_;intro gb357 hg w4 hbox hb;have BK357:=aA.mk hbox;have GW357:=sA hg;have GE357:=sA hg;replace HB:=lB hb;clear hb hbox hg;obtain ⟨hcz5_0,hcz5_1,hcz5_2,hfz5_0,hfz5_1,hfz5_2⟩:=cz3 BK357)|(go_at_call 76;(with_reducible refine (ar.calls k a0 (wrap64 (6 - a1_2)) t358 _ A3.out).mono ?_);rintro e w' ⟨rfl,⟨nd,rfl⟩⟩;(try exact dd))))
 go_ret
 exact bU blA
def bT.j0:Nat→Int→Int→Int→Bool→Option (Int × Int)
 | 0,_,_,_,_=>none
 | k+1,x0,x1,x2,x18=>if x18=true then (some (0,5)) else ((aX.f k x0 x1).bind fun t647=>((aX.f k x0 x2).bind fun t648=>(some (wrap64 (t647 - t648),0))))
def bT.f (k:Nat) (a0 a1 a2:Int):Option (Int × Int):=(av.f a0).bind fun t642=>(if t642=true then ((bQ.f k 100000000000000000 (([a1,a2]:List Int))).bind fun t646=>(if t646=true then (if a1=0 then (bT.j0 k a0 a1 a2 true) else (bT.j0 k a0 a1 a2 (a2 == 0))) else (some (0,2)))) else (some (0,1)))
set_option maxHeartbeats 8000000 in
set_option maxRecDepth 100000 in
theorem bT.calls (k:Nat) (a0 a1 a2 r1 r2:Int) (w:World) (h:bT.f k a0 a1 a2=some (r1,r2)) :
  Calls Try.prog 22 #[.int .i64 a0,.int .i64 a1,.int .i64 a2] w fun e w'=>e=.returned (.tuple #[.int .i64 r1,.int .i64 r2])∧Below w.heap.size w w':=by
 have HB:=aA.mk (Below.refl w.heap.size w)
 have H:=h
 unfold bT.f at H
 clear h
 replace H:=bS H
 obtain ⟨t642,A4,H⟩:=H
 try dsimp only at H
 by_cases c5:t642=true
 ·
  subst c5
  rw [if_pos rfl] at H
  try dsimp only at H
  obtain ⟨y643,hy643⟩:∃ y_:List Int,y_=(([a1,a2]:List Int)):=⟨_,rfl⟩
  replace H:((bQ.f k 100000000000000000 y643).bind fun t646=>(if t646=true then (if a1=0 then (bT.j0 k a0 a1 a2 true) else (bT.j0 k a0 a1 a2 (a2 == 0))) else (some (0,2))))=some (r1,r2):=rH hy643 H
  have Ny643:=aA.mk hy643
  clear hy643
  replace H:=bS H
  obtain ⟨t646,A6,H⟩:=H
  try dsimp only at H
  by_cases c7:t646=true
  ·
   subst c7
   rw [if_pos rfl] at H
   try dsimp only at H
   have HC8:=aA.mk H
   clear H
   go_enter Try.func22,Try.ntmps22
   go_upto_region 5 with (first|((with_reducible refine gd 10 rfl ?_);refine gC (some 10) rfl Try.func31 (av.calls (w:=_) (h:=A4.out)) ?_;rintro _ ⟨nd,rfl⟩)|((with_reducible refine aH (N:=15) rfl ?_);refine Kd.R_lit (Kd.int .i64) _ 2 ?hg (N:=15) ?hd (xs:=([a1,a2]:List Int)) (inner:=[.int .i64 a1,.int .i64 a2]) (ok:=fun _=>True) (okp:=fun _=>True) ?hr ?hp (fun _ hk=>hk) trivial (Below.refl _ _) (Nat.le_refl _) (by simp) ?_;(case hd=>rfl);(case hg=>rfl);(case hr=>first|(go_simp;done)|(go_simp;rfl));(case hp=>exact (aY.one (show Kd.M (Kd.int .i64) _ _ _ a1 [.int .i64 a1] from rfl) (aY.one (show Kd.M (Kd.int .i64) _ _ _ a2 [.int .i64 a2] from rfl) (aY.none _ _))));intro v644 w9 ho10 hb hg_ hnew_;clear hg_ hnew_;(first|rw [← Ny643.out] at ho10|(simp only [Int.reduceToNat] at ho10;rw [← Ny643.out] at ho10));have HO645:=aA.mk (Kd.R_lower ho10 (ak blA));replace HB:=lB hb;clear hb ho10;obtain ⟨Ao11,co11,eo11⟩:=Kd.R_slice HO645.out;subst eo11)|((with_reducible refine gd 16 rfl ?_);refine gC (some 16) rfl Try.func59 (bQ.calls (w:=_) (hr1:=cR (Kd.R_reads' HO645.out).2.2) (hc1:=(Kd.R_reads' HO645.out).2.1) (h:=A6.out)) ?_;rintro _ ⟨nd,rfl⟩))
   (try simp only [Act.put,List.setIfInBounds_toArray,List.set_cons_zero,List.set_cons_succ])
   go_cut [18] (fun v18 wc=>∃ (kq:Nat) (x18_7:Bool),v18=.bool x18_7∧aA (bT.j0 kq a0 a1 a2 x18_7=some (r1,r2))∧aA (kq≤k)∧aA (Below w.heap.size w wc))
   case first=>
    have H:=HC8.out
    clear HC8
    by_cases c12:a1=0
    ·
     rw [if_pos c12] at H
     have c12b0:(a1 == 0)=true:=beq_iff_eq.mpr c12
     have c12b1:(a1 != 0)=false:=bne_eq_false_iff_eq.mpr c12
     clear c12
     (first|rw [c12b0]|(simp only [cl,co];rw [c12b0])|skip)
     have H':=aA.mk H
     clear H
     go_wp2
     go_meet
     case rel=>exact ⟨_,(true),hB,H',⟨by first|omega|exact Nat.le_refl _⟩,⟨blA⟩⟩
    ·
     rw [if_neg c12] at H
     have c12b0:(a1 == 0)=false:=beq_eq_false_iff_ne.mpr c12
     have c12b1:(a1 != 0)=true:=bne_iff_ne.mpr c12
     (first|rw [c12b0]|(simp only [cl,co];rw [c12b0])|skip)
     have H':=aA.mk H
     clear H
     go_wp2
     go_meet
     case rel=>exact ⟨_,((a2 == 0)),hB,H',⟨by first|omega|exact Nat.le_refl _⟩,⟨blA⟩⟩
   case rest=>
    clear HC8
    try clear c5
    try clear c7
    try clear c12
    try clear c12b0
    try clear c12b1
    obtain ⟨kq,x18_7,rfl,HA,HJ7,HB⟩:=hcut
    cases kq with
    | zero=>exact absurd HA.out (by simp [bT.j0])
    | succ kj7=>
     have H:=HA.out
     clear HA
     simp only [bT.j0] at H
     by_cases c13:x18_7=true
     ·
      subst c13
      rw [if_pos rfl] at H
      try dsimp only at H
      simp only [Option.some.injEq,Prod.mk.injEq] at H
      obtain ⟨rfl,rfl⟩:=H
      go_wp2
      go_ret2
      exact bU blA
     ·
      replace c13:=Bool.eq_false_iff.mpr c13
      subst c13
      rw [if_neg (show ¬ (false=true) by decide)] at H
      try dsimp only at H
      replace H:=bS H
      obtain ⟨t647,A14,H⟩:=H
      try dsimp only at H
      replace H:=bS H
      obtain ⟨t648,A15,H⟩:=H
      try dsimp only at H
      simp only [Option.some.injEq,Prod.mk.injEq] at H
      obtain ⟨rfl,rfl⟩:=H
      go_wp2_with (first|((with_reducible refine gd 27 rfl ?_);refine gC (some 27) rfl Try.func54 (aX.calls (w:=_) (h:=A14.out)) ?_;rintro _ ⟨nd,rfl⟩)|((with_reducible refine gd 30 rfl ?_);refine gC (some 30) rfl Try.func54 (aX.calls (w:=_) (h:=A15.out)) ?_;rintro _ ⟨nd,rfl⟩))
      go_ret2
      exact bU blA
  ·
   replace c7:=Bool.eq_false_iff.mpr c7
   subst c7
   rw [if_neg (show ¬ (false=true) by decide)] at H
   try dsimp only at H
   simp only [Option.some.injEq,Prod.mk.injEq] at H
   obtain ⟨rfl,rfl⟩:=H
   go_enter Try.func22,Try.ntmps22
   go_wp2_with (first|((with_reducible refine gd 10 rfl ?_);refine gC (some 10) rfl Try.func31 (av.calls (w:=_) (h:=A4.out)) ?_;rintro _ ⟨nd,rfl⟩)|((with_reducible refine aH (N:=15) rfl ?_);refine Kd.R_lit (Kd.int .i64) _ 2 ?hg (N:=15) ?hd (xs:=([a1,a2]:List Int)) (inner:=[.int .i64 a1,.int .i64 a2]) (ok:=fun _=>True) (okp:=fun _=>True) ?hr ?hp (fun _ hk=>hk) trivial (Below.refl _ _) (Nat.le_refl _) (by simp) ?_;(case hd=>rfl);(case hg=>rfl);(case hr=>first|(go_simp;done)|(go_simp;rfl));(case hp=>exact (aY.one (show Kd.M (Kd.int .i64) _ _ _ a1 [.int .i64 a1] from rfl) (aY.one (show Kd.M (Kd.int .i64) _ _ _ a2 [.int .i64 a2] from rfl) (aY.none _ _))));intro v644 w16 ho17 hb hg_ hnew_;clear hg_ hnew_;(first|rw [← Ny643.out] at ho17|(simp only [Int.reduceToNat] at ho17;rw [← Ny643.out] at ho17));have HO645:=aA.mk (Kd.R_lower ho17 (ak blA));replace HB:=lB hb;clear hb ho17;obtain ⟨Ao18,co18,eo18⟩:=Kd.R_slice HO645.out;subst eo18)|((with_reducible refine gd 16 rfl ?_);refine gC (some 16) rfl Try.func59 (bQ.calls (w:=_) (hr1:=cR (Kd.R_reads' HO645.out).2.2) (hc1:=(Kd.R_reads' HO645.out).2.1) (h:=A6.out)) ?_;rintro _ ⟨nd,rfl⟩))
   go_ret2
   exact bU blA
 ·
  replace c5:=Bool.eq_false_iff.mpr c5
  subst c5
  rw [if_neg (show ¬ (false=true) by decide)] at H
  try dsimp only at H
  simp only [Option.some.injEq,Prod.mk.injEq] at H
  obtain ⟨rfl,rfl⟩:=H
  go_enter Try.func22,Try.ntmps22
  go_wp2_with (first|((with_reducible refine gd 10 rfl ?_);refine gC (some 10) rfl Try.func31 (av.calls (w:=_) (h:=A4.out)) ?_;rintro _ ⟨nd,rfl⟩))
  go_ret2
  exact bU blA
def bY.j0:Nat→Bool→Int→Int→Int→Int→Option (Int)
 | 0,_,_,_,_,_=>none
 | k+1,x9,x351000,x351001,x352000,x352001=>if x9=true then (some 1) else (if (x351000 == x352000 && (x351001 == x352001))=true then (some 5) else (some 0))
def bY.f (k:Nat) (a0 a1_0 a1_1 a1_2 a2_0 a2_1 a3_0 a3_1:Int):Option (Int):=(bj.f k a0 a1_0 a1_1 a1_2).bind fun t352=>(if t352=true then ((bL.f k (([(⟨a2_0,a2_1⟩:S28),(⟨a3_0,a3_1⟩:S28)]:List (S28)))).bind fun t356=>(bY.j0 k (!t356) a2_0 a2_1 a3_0 a3_1)) else (bY.j0 k true a2_0 a2_1 a3_0 a3_1))
set_option maxHeartbeats 8000000 in
set_option maxRecDepth 100000 in
theorem bY.calls (k:Nat) (a0 a1_0 a1_1 a1_2 a2_0 a2_1 a3_0 a3_1 r:Int) (w:World) (h:bY.f k a0 a1_0 a1_1 a1_2 a2_0 a2_1 a3_0 a3_1=some r) :
  Calls Try.prog 46 #[.int .i64 a0,.agg #[.int .i64 a1_0,.int .i64 a1_1,.int .i64 a1_2],.agg #[.int .i64 a2_0,.int .i64 a2_1],.agg #[.int .i64 a3_0,.int .i64 a3_1]] w fun e w'=>e=.returned (.int .i64 r)∧Below w.heap.size w w':=by
 have hu25:=Try.underlying25
 have hu28:=Try.underlying28
 have HB:=aA.mk (Below.refl w.heap.size w)
 have H:=h
 unfold bY.f at H
 clear h
 have HC5:=aA.mk H
 clear H
 go_enter Try.func46,Try.ntmps46
 go_upto_region 1 with (first|((with_reducible refine aH (N:=5) rfl ?_);(try (refine cS (by rfl) ?_;dsimp only));refine bxE (cs:=#[.int .i64 a1_0,.int .i64 a1_1,.int .i64 a1_2]) (t:=25) ?_;intro gb349 hg w6 hbox hb;have BK349:=aA.mk hbox;have GW349:=sA hg;have GE349:=sA hg;replace HB:=lB hb;clear hb hbox hg)|((with_reducible refine aH (N:=6) rfl ?_);(try (refine cS (by rfl) ?_;dsimp only));refine bxE (cs:=#[.int .i64 a2_0,.int .i64 a2_1]) (t:=28) ?_;intro gb350 hg w7 hbox hb;have BK350:=aA.mk hbox;have GW350:=sA hg;have GE350:=sA hg;have NB349_350:=nA hg BK349;have NB350_349:=nB hg BK349;have LT349_350:=nL hg BK349;replace BK349:=kB BK349 hb;replace HB:=lB hb;clear hb hbox hg)|((with_reducible refine aH (N:=7) rfl ?_);(try (refine cS (by rfl) ?_;dsimp only));refine bxE (cs:=#[.int .i64 a3_0,.int .i64 a3_1]) (t:=28) ?_;intro gb351 hg w8 hbox hb;have BK351:=aA.mk hbox;have GW351:=sA hg;have GE351:=sA hg;have NB349_351:=nA hg BK349;have NB351_349:=nB hg BK349;have LT349_351:=nL hg BK349;have NB350_351:=nA hg BK350;have NB351_350:=nB hg BK350;have LT350_351:=nL hg BK350;replace BK349:=kB BK349 hb;replace BK350:=kB BK350 hb;replace HB:=lB hb;clear hb hbox hg))
 (try simp only [Act.put,List.setIfInBounds_toArray,List.set_cons_zero,List.set_cons_succ])
 go_cut [9] (fun v9 wc=>∃ (kq:Nat) (x9_4:Bool),v9=.bool x9_4∧aA (bY.j0 kq x9_4 a2_0 a2_1 a3_0 a3_1=some r)∧aA (kq≤k)∧aA (wc.heap[gb349]?=some (.cells #[.int .i64 a1_0,.int .i64 a1_1,.int .i64 a1_2] 25 (0,0)))∧aA (wc.heap[gb350]?=some (.cells #[.int .i64 a2_0,.int .i64 a2_1] 28 (0,0)))∧aA (wc.heap[gb351]?=some (.cells #[.int .i64 a3_0,.int .i64 a3_1] 28 (0,0)))∧aA (Below w.heap.size w wc))
 case first=>
  have H:=HC5.out
  clear HC5
  replace H:=bS H
  obtain ⟨t352,A9,H⟩:=H
  try dsimp only at H
  by_cases c10:t352=true
  ·
   subst c10
   rw [if_pos rfl] at H
   try dsimp only at H
   obtain ⟨y353,hy353⟩:∃ y_:List (S28),y_=(([(⟨a2_0,a2_1⟩:S28),(⟨a3_0,a3_1⟩:S28)]:List (S28))):=⟨_,rfl⟩
   replace H:((bL.f k y353).bind fun t356=>(bY.j0 k (!t356) a2_0 a2_1 a3_0 a3_1))=some r:=rH hy353 H
   have Ny353:=aA.mk hy353
   clear hy353
   replace H:=bS H
   obtain ⟨t356,A11,H⟩:=H
   try dsimp only at H
   have H':=aA.mk H
   clear H
   have hnb12:=LT349_350.out
   have hnb13:=LT349_351.out
   obtain ⟨hcz14_0,hcz14_1,hcz14_2,hfz14_0,hfz14_1,hfz14_2⟩:=cz3 BK349
   go_wp2_with (first|((with_reducible refine gd 12 rfl ?_);refine gC (some 12) rfl Try.func81 (bj.calls (w:=_) (h:=A9.out)) ?_;intro w15 hb;replace BK349:=kB BK349 hb;replace BK350:=kB BK350 hb;replace BK351:=kB BK351 hb;replace HB:=lB hb;clear hb;have hnb16:=LT350_351.out;obtain ⟨hcz17_0,hcz17_1,hfz17_0,hfz17_1⟩:=cz2 BK350;obtain ⟨hcz18_0,hcz18_1,hfz18_0,hfz18_1⟩:=cz2 BK351)|((with_reducible refine aH (N:=17) rfl ?_);(try (refine cS (by rfl) ?_;dsimp only));refine Kd.R_lit k28 _ 28 ?hg (N:=17) ?hd (xs:=([(⟨a2_0,a2_1⟩:S28),(⟨a3_0,a3_1⟩:S28)]:List (S28))) (inner:=[.int .i64 a2_0,.int .i64 a2_1,.int .i64 a3_0,.int .i64 a3_1]) (ok:=fun _=>True) (okp:=fun _=>True) ?hr ?hp (fun _ hk=>hk) trivial (Below.refl _ _) (Nat.le_refl _) (by simp) ?_;(case hd=>rfl);(case hg=>rfl);(case hr=>first|(go_simp;done)|(go_simp;rfl));(case hp=>exact (aY.c2 (show Kd.M k28 _ _ _ (⟨a2_0,a2_1⟩:S28) [.int .i64 a2_0,.int .i64 a2_1] from (aw _ _ _ (⟨a2_0,a2_1⟩:S28) )) (aY.c2 (show Kd.M k28 _ _ _ (⟨a3_0,a3_1⟩:S28) [.int .i64 a3_0,.int .i64 a3_1] from (aw _ _ _ (⟨a3_0,a3_1⟩:S28) )) (aY.none _ _))));intro v354 w19 ho20 hb hg_ hnew_;clear hg_ hnew_;(first|rw [← Ny353.out] at ho20|(simp only [Int.reduceToNat] at ho20;rw [← Ny353.out] at ho20));have HO355:=aA.mk (Kd.R_lower (Kd.R_newB (Kd.R_newB ho20 (bkA BK350)) (bkA BK351)) (ak blA));replace BK349:=kB BK349 hb;replace BK350:=kB BK350 hb;replace BK351:=kB BK351 hb;replace HB:=lB hb;clear hb ho20;obtain ⟨Ao21,co21,eo21⟩:=Kd.R_slice HO355.out;subst eo21)|(go_at_call 32;(with_reducible refine (bL.calls k _ _ y353 t356 _ ?side1 ?side2 A11.out).mono ?_);(case side1=>exact cR (Kd.R_reads' HO355.out).2.2);(case side2=>exact (Kd.R_reads' HO355.out).2.1);rintro e w22 ⟨rfl,hb⟩;replace HO355:=aA.mk (Kd.R_below (rA HO355) hb);replace BK349:=kB BK349 hb;replace BK350:=kB BK350 hb;replace BK351:=kB BK351 hb;replace HB:=lB hb;clear hb))
   go_meet
   case rel=>exact ⟨_,(!t356),hB,H',⟨by first|omega|exact Nat.le_refl _⟩,⟨bkA BK349⟩,⟨bkA BK350⟩,⟨bkA BK351⟩,⟨blA⟩⟩
  ·
   replace c10:=Bool.eq_false_iff.mpr c10
   subst c10
   rw [if_neg (show ¬ (false=true) by decide)] at H
   try dsimp only at H
   have H':=aA.mk H
   clear H
   have hnb23:=LT349_350.out
   have hnb24:=LT349_351.out
   obtain ⟨hcz25_0,hcz25_1,hcz25_2,hfz25_0,hfz25_1,hfz25_2⟩:=cz3 BK349
   go_wp2_with (first|((with_reducible refine gd 12 rfl ?_);refine gC (some 12) rfl Try.func81 (bj.calls (w:=_) (h:=A9.out)) ?_;intro w26 hb;replace BK349:=kB BK349 hb;replace BK350:=kB BK350 hb;replace BK351:=kB BK351 hb;replace HB:=lB hb;clear hb))
   go_meet
   case rel=>exact ⟨_,(true),hB,H',⟨by first|omega|exact Nat.le_refl _⟩,⟨bkA BK349⟩,⟨bkA BK350⟩,⟨bkA BK351⟩,⟨blA⟩⟩
 case rest=>
  clear HC5
  try clear c2
  try clear c10
  try clear hcz14_0
  try clear hcz14_1
  try clear hcz14_2
  try clear hcz17_0
  try clear hcz17_1
  try clear hcz18_0
  try clear hcz18_1
  try clear hcz25_0
  try clear hcz25_1
  try clear hcz25_2
  try clear hfz14_0
  try clear hfz14_1
  try clear hfz14_2
  try clear hfz17_0
  try clear hfz17_1
  try clear hfz18_0
  try clear hfz18_1
  try clear hfz25_0
  try clear hfz25_1
  try clear hfz25_2
  obtain ⟨kq,x9_4,rfl,HA,HJ4,BK349,BK350,BK351,HB⟩:=hcut
  cases kq with
  | zero=>exact absurd HA.out (by simp [bY.j0])
  | succ kj4=>
   have H:=HA.out
   clear HA
   simp only [bY.j0] at H
   by_cases c27:x9_4=true
   ·
    subst c27
    rw [if_pos rfl] at H
    try dsimp only at H
    obtain rfl:=Option.some.inj H
    go_wp2
    go_ret
    exact bU blA
   ·
    replace c27:=Bool.eq_false_iff.mpr c27
    subst c27
    rw [if_neg (show ¬ (false=true) by decide)] at H
    try dsimp only at H
    by_cases c28:(a2_0 == a3_0 && (a2_1 == a3_1))=true
    ·
     rw [if_pos c28] at H
     have c28b0:(a2_0 == a3_0 && (a2_1 == a3_1))=true:=c28
     (try (have c28b1:decide (a2_0=a3_0 && (a2_1 == a3_1))=true:=by simpa using c28))
     (try (have c28b2:(a2_0 == a3_0 && (a2_1 == a3_1))=true:=by simpa using c28))
     clear c28
     obtain rfl:=Option.some.inj H
     have hnb29:=LT349_350.out
     have hnb30:=LT350_351.out
     obtain ⟨hcz31_0,hcz31_1,hfz31_0,hfz31_1⟩:=cz2 BK350
     have hnb32:=LT349_351.out
     obtain ⟨hcz33_0,hcz33_1,hfz33_0,hfz33_1⟩:=cz2 BK351
     go_wp2
     go_ret
     exact bU blA
    ·
     rw [if_neg c28] at H
     have c28b0:(a2_0 == a3_0 && (a2_1 == a3_1))=false:=by simpa using c28
     (try (have c28b1:decide (a2_0=a3_0 && (a2_1 == a3_1))=false:=by simpa using c28))
     (try (have c28b2:(a2_0 == a3_0 && (a2_1 == a3_1))=false:=by simpa using c28))
     (try (have c28b3:¬ (a2_0=a3_0 && (a2_1 == a3_1)):=by simpa using c28))
     clear c28
     obtain rfl:=Option.some.inj H
     have hnb34:=LT349_350.out
     have hnb35:=LT350_351.out
     obtain ⟨hcz36_0,hcz36_1,hfz36_0,hfz36_1⟩:=cz2 BK350
     have hnb37:=LT349_351.out
     obtain ⟨hcz38_0,hcz38_1,hfz38_0,hfz38_1⟩:=cz2 BK351
     go_wp2
     go_ret
     exact bU blA
def cD.f (k:Nat) (l0:List Int):Option (Int × Int × Int × Int × Int):=(ao.f k l0).bind fun bt651=>((ag.f bt651.1 bt651.2.1 bt651.2.2 (([2,3,5,7,2,3,4]:List Int))).bind fun bt658=>((ae.f bt651.1 bt658.2.1 bt658.2.2 3).bind fun bt661=>(if bt661.1=0 then ((ac.f k bt651.1 bt661.2.1 bt661.2.2).bind fun bt664=>((ac.f k bt651.1 bt664.2.2.1 bt664.2.2.2).bind fun bt668=>(some (bt658.1,bt664.1,bt664.2.1,bt668.1,bt668.2.1)))) else ((au.f k bt651.1 bt661.2.1 bt661.2.2).bind fun bt672=>((au.f k bt651.1 bt672.2.2.1 bt672.2.2.2).bind fun bt676=>(some (bt658.1,bt672.1,bt672.2.1,bt676.1,bt676.2.1)))))))
set_option maxHeartbeats 8000000 in
set_option maxRecDepth 100000 in
theorem cD.calls (k:Nat) (A0:Option Addr) (c0:Nat) (l0:List Int) (r1 r2 r3 r4 r5:Int) (w:World) (hr0:Kd.C (Kd.int .u8) w A0 l0.length l0) (hc0:l0.length≤c0) (h:cD.f k l0=some (r1,r2,r3,r4,r5)) :
  Calls Try.prog 23 #[.slice A0 l0.length c0] w fun e w'=>e=.returned (.tuple #[.int .i64 r1,.agg #[.int .i64 r2,.int .i64 r3],.agg #[.int .i64 r4,.int .i64 r5]])∧Below w.heap.size w w':=by
 have hu28:=Try.underlying28
 have HR0:=aA.mk hr0
 have HC0:=aA.mk hc0
 clear hr0 hc0
 have HB:=aA.mk (Below.refl w.heap.size w)
 have H:=h
 unfold cD.f at H
 clear h
 replace H:=bS H
 obtain ⟨⟨t651,t652,t653⟩,A2,H⟩:=H
 try dsimp only at H
 obtain ⟨y655,hy655⟩:∃ y_:List Int,y_=(([2,3,5,7,2,3,4]:List Int)):=⟨_,rfl⟩
 replace H:((ag.f t651 t652 t653 y655).bind fun bt658=>((ae.f t651 bt658.2.1 bt658.2.2 3).bind fun bt661=>(if bt661.1=0 then ((ac.f k t651 bt661.2.1 bt661.2.2).bind fun bt664=>((ac.f k t651 bt664.2.2.1 bt664.2.2.2).bind fun bt668=>(some (bt658.1,bt664.1,bt664.2.1,bt668.1,bt668.2.1)))) else ((au.f k t651 bt661.2.1 bt661.2.2).bind fun bt672=>((au.f k t651 bt672.2.2.1 bt672.2.2.2).bind fun bt676=>(some (bt658.1,bt672.1,bt672.2.1,bt676.1,bt676.2.1)))))))=some (r1,r2,r3,r4,r5):=rH hy655 H
 have Ny655:=aA.mk hy655
 clear hy655
 replace H:=bS H
 obtain ⟨⟨t658,t659,t660⟩,A3,H⟩:=H
 try dsimp only at H
 replace H:=bS H
 obtain ⟨⟨t661,t662,t663⟩,A4,H⟩:=H
 try dsimp only at H
 by_cases c5:t661=0
 ·
  rw [if_pos c5] at H
  have c5b0:(t661 == 0)=true:=beq_iff_eq.mpr c5
  have c5b1:(t661 != 0)=false:=bne_eq_false_iff_eq.mpr c5
  clear c5
  replace H:=bS H
  obtain ⟨⟨t664,t665,t666,t667⟩,A6,H⟩:=H
  try dsimp only at H
  replace H:=bS H
  obtain ⟨⟨t668,t669,t670,t671⟩,A7,H⟩:=H
  try dsimp only at H
  simp only [Option.some.injEq,Prod.mk.injEq] at H
  obtain ⟨rfl,rfl,rfl,rfl,rfl⟩:=H
  go_enter Try.func23,Try.ntmps23
  go_wp2_with (first|((with_reducible refine aH (N:=3) rfl ?_);refine bxE (cs:=#[.int .i64 0,.int .i64 0]) (t:=28) ?_;intro gb649 hg w8 hbox hb;have BK649:=aA.mk hbox;have GW649:=sA hg;have GE649:=sA hg;replace HB:=lB hb;clear hb hbox hg)|((with_reducible refine aH (N:=4) rfl ?_);refine bxE (cs:=#[.int .i64 0,.int .i64 0]) (t:=28) ?_;intro gb650 hg w9 hbox hb;have BK650:=aA.mk hbox;have GW650:=sA hg;have GE650:=sA hg;have NB649_650:=nA hg BK649;have NB650_649:=nB hg BK649;have LT649_650:=nL hg BK649;replace BK649:=kB BK649 hb;replace HB:=lB hb;clear hb hbox hg)|((with_reducible refine bK (f:=39) rfl ?_);refine gL (some 8) rfl Try.func39 #[.slice A0 l0.length c0] ?_;(with_reducible refine (ao.calls k _ _ l0 t651 t652 t653 w _ ?side1 ?side2 ?side3 A2.out).mono ?_);(case side1=>exact blI);(case side2=>exact HR0.out);(case side3=>exact HC0.out);rintro e w10 ⟨g654,rfl,hi,hb,hb2⟩;refine ⟨_,rfl,?_⟩;have HI654:=aA.mk hi;have NB654_649:=aA.mk (aW.ne_blk hi (aE (bkA BK649) hb2) (by decide));have NB649_654:=aA.mk (Ne.symm (aW.ne_blk hi (aE (bkA BK649) hb2) (by decide)));have NB654_650:=aA.mk (aW.ne_blk hi (aE (bkA BK650) hb2) (by decide));have NB650_654:=aA.mk (Ne.symm (aW.ne_blk hi (aE (bkA BK650) hb2) (by decide)));replace BK649:=kB BK649 hb2;replace BK650:=kB BK650 hb2;replace HB:=aA.mk hb;clear hi hb hb2)|((with_reducible refine aH (N:=10) rfl ?_);refine Kd.R_lit (Kd.int .i64) _ 2 ?hg (N:=10) ?hd (xs:=([2,3,5,7,2,3,4]:List Int)) (inner:=[.int .i64 2,.int .i64 3,.int .i64 5,.int .i64 7,.int .i64 2,.int .i64 3,.int .i64 4]) (ok:=fun _=>True) (okp:=fun _=>True) ?hr ?hp (fun _ hk=>hk) trivial (Below.refl _ _) (Nat.le_refl _) (by simp) ?_;(case hd=>rfl);(case hg=>rfl);(case hr=>first|(go_simp;done)|(go_simp;rfl));(case hp=>exact (aY.one (show Kd.M (Kd.int .i64) _ _ _ 2 [.int .i64 2] from rfl) (aY.one (show Kd.M (Kd.int .i64) _ _ _ 3 [.int .i64 3] from rfl) (aY.one (show Kd.M (Kd.int .i64) _ _ _ 5 [.int .i64 5] from rfl) (aY.one (show Kd.M (Kd.int .i64) _ _ _ 7 [.int .i64 7] from rfl) (aY.one (show Kd.M (Kd.int .i64) _ _ _ 2 [.int .i64 2] from rfl) (aY.one (show Kd.M (Kd.int .i64) _ _ _ 3 [.int .i64 3] from rfl) (aY.one (show Kd.M (Kd.int .i64) _ _ _ 4 [.int .i64 4] from rfl) (aY.none _ _)))))))));intro v656 w11 ho12 hb hg_ hnew_;clear hg_ hnew_;(first|rw [← Ny655.out] at ho12|(simp only [Int.reduceToNat] at ho12;rw [← Ny655.out] at ho12));have HO657:=aA.mk (Kd.R_lower ho12 (ak blI));replace BK649:=kB BK649 hb;replace BK650:=kB BK650 hb;replace HI654:=aA.mk (aW.below (iA HI654) hb);replace HB:=lI hb;clear hb ho12;obtain ⟨Ao13,co13,eo13⟩:=Kd.R_slice HO657.out;subst eo13)|((with_reducible refine gd 11 rfl ?_);refine gC (some 11) rfl Try.func40 (ag.calls (w:=_) (g:=g654) (w0:=w) (hI:=iA HI654) (hB:=blI) (hr1:=cR (Kd.R_reads' HO657.out).2.2) (hc1:=(Kd.R_reads' HO657.out).2.1) (hf1:=cw (aW.own_ne HI654.out HO657.out (by decide))) (h:=A3.out)) ?_;rintro w14 ⟨hi,hb,hk⟩;replace BK649:=kbk hk BK649 NB649_654;replace BK650:=kbk hk BK650 NB650_654;replace HO657:=aA.mk (Kd.R_mono (Kd.R_keep (aW.apart (show aW w _ g654 t651 t652 t653 from iA HI654) (rA HO657) (by decide)) hk (fun _ h=>h.2)) (fun _ h=>h.1));replace HB:=aA.mk hb;replace HI654:=aA.mk hi;clear hi hb hk)|((with_reducible refine gd 13 rfl ?_);refine gC (some 13) rfl Try.func50 (ae.calls (w:=_) (g:=g654) (w0:=w) (hI:=iA HI654) (hB:=blI) (h:=A4.out)) ?_;rintro w15 ⟨hi,hb,hk⟩;replace BK649:=kbk hk BK649 NB649_654;replace BK650:=kbk hk BK650 NB650_654;replace HO657:=aA.mk (Kd.R_mono (Kd.R_keep (aW.apart (show aW w _ g654 t651 t659 t660 from iA HI654) (rA HO657) (by decide)) hk (fun _ h=>h.2)) (fun _ h=>h.1));replace HB:=aA.mk hb;replace HI654:=aA.mk hi;clear hi hb hk)|((with_reducible refine gd 17 rfl ?_);refine gC (some 17) rfl Try.func51 (ac.calls (w:=_) (g:=g654) (w0:=w) (hI:=iA HI654) (hB:=blI) (h:=A6.out)) ?_;rintro w16 ⟨hi,hb,hk⟩;replace BK649:=kbk hk BK649 NB649_654;replace BK650:=kbk hk BK650 NB650_654;replace HO657:=aA.mk (Kd.R_mono (Kd.R_keep (aW.apart (show aW w _ g654 t651 t662 t663 from iA HI654) (rA HO657) (by decide)) hk (fun _ h=>h.2)) (fun _ h=>h.1));replace HB:=aA.mk hb;replace HI654:=aA.mk hi;clear hi hb hk)|((with_reducible refine gd 19 rfl ?_);refine gC (some 19) rfl Try.func51 (ac.calls (w:=_) (g:=g654) (w0:=w) (hI:=iA HI654) (hB:=blI) (h:=A7.out)) ?_;rintro w17 ⟨hi,hb,hk⟩;replace BK649:=kbk hk BK649 NB649_654;replace BK650:=kbk hk BK650 NB650_654;replace HO657:=aA.mk (Kd.R_mono (Kd.R_keep (aW.apart (show aW w _ g654 t651 t666 t667 from iA HI654) (rA HO657) (by decide)) hk (fun _ h=>h.2)) (fun _ h=>h.1));replace HB:=aA.mk hb;replace HI654:=aA.mk hi;clear hi hb hk;have hnb18:=LT649_650.out;have hnb19:=NB649_654.out;obtain ⟨hcz20_0,hcz20_1,hfz20_0,hfz20_1⟩:=cz2 BK649;have hnb21:=NB650_654.out;obtain ⟨hcz22_0,hcz22_1,hfz22_0,hfz22_1⟩:=cz2 BK650))
  refine bodyPost_ret (dF (rs:=[.tmp 2,.cell 3 28,.cell 4 28]) rfl (by simp) (.tmp (.cell gb649 28 #[.int .i64 t664,.int .i64 t665] (0,0) _ rfl (bpA BK649) Try.underlying28 rfl (by kernel_rfl) (.cell gb650 28 #[.int .i64 t668,.int .i64 t669] (0,0) _ rfl (bpA BK650) Try.underlying28 rfl (by kernel_rfl) .nil)))) rfl ?_
  exact rf0 blI
 ·
  rw [if_neg c5] at H
  have c5b0:(t661 == 0)=false:=beq_eq_false_iff_ne.mpr c5
  have c5b1:(t661 != 0)=true:=bne_iff_ne.mpr c5
  replace H:=bS H
  obtain ⟨⟨t672,t673,t674,t675⟩,A23,H⟩:=H
  try dsimp only at H
  replace H:=bS H
  obtain ⟨⟨t676,t677,t678,t679⟩,A24,H⟩:=H
  try dsimp only at H
  simp only [Option.some.injEq,Prod.mk.injEq] at H
  obtain ⟨rfl,rfl,rfl,rfl,rfl⟩:=H
  go_enter Try.func23,Try.ntmps23
  go_wp2_with (first|((with_reducible refine aH (N:=3) rfl ?_);refine bxE (cs:=#[.int .i64 0,.int .i64 0]) (t:=28) ?_;intro gb649 hg w25 hbox hb;have BK649:=aA.mk hbox;have GW649:=sA hg;have GE649:=sA hg;replace HB:=lB hb;clear hb hbox hg)|((with_reducible refine aH (N:=4) rfl ?_);refine bxE (cs:=#[.int .i64 0,.int .i64 0]) (t:=28) ?_;intro gb650 hg w26 hbox hb;have BK650:=aA.mk hbox;have GW650:=sA hg;have GE650:=sA hg;have NB649_650:=nA hg BK649;have NB650_649:=nB hg BK649;have LT649_650:=nL hg BK649;replace BK649:=kB BK649 hb;replace HB:=lB hb;clear hb hbox hg)|((with_reducible refine bK (f:=39) rfl ?_);refine gL (some 8) rfl Try.func39 #[.slice A0 l0.length c0] ?_;(with_reducible refine (ao.calls k _ _ l0 t651 t652 t653 w _ ?side1 ?side2 ?side3 A2.out).mono ?_);(case side1=>exact blI);(case side2=>exact HR0.out);(case side3=>exact HC0.out);rintro e w27 ⟨g654,rfl,hi,hb,hb2⟩;refine ⟨_,rfl,?_⟩;have HI654:=aA.mk hi;have NB654_649:=aA.mk (aW.ne_blk hi (aE (bkA BK649) hb2) (by decide));have NB649_654:=aA.mk (Ne.symm (aW.ne_blk hi (aE (bkA BK649) hb2) (by decide)));have NB654_650:=aA.mk (aW.ne_blk hi (aE (bkA BK650) hb2) (by decide));have NB650_654:=aA.mk (Ne.symm (aW.ne_blk hi (aE (bkA BK650) hb2) (by decide)));replace BK649:=kB BK649 hb2;replace BK650:=kB BK650 hb2;replace HB:=aA.mk hb;clear hi hb hb2)|((with_reducible refine aH (N:=10) rfl ?_);refine Kd.R_lit (Kd.int .i64) _ 2 ?hg (N:=10) ?hd (xs:=([2,3,5,7,2,3,4]:List Int)) (inner:=[.int .i64 2,.int .i64 3,.int .i64 5,.int .i64 7,.int .i64 2,.int .i64 3,.int .i64 4]) (ok:=fun _=>True) (okp:=fun _=>True) ?hr ?hp (fun _ hk=>hk) trivial (Below.refl _ _) (Nat.le_refl _) (by simp) ?_;(case hd=>rfl);(case hg=>rfl);(case hr=>first|(go_simp;done)|(go_simp;rfl));(case hp=>exact (aY.one (show Kd.M (Kd.int .i64) _ _ _ 2 [.int .i64 2] from rfl) (aY.one (show Kd.M (Kd.int .i64) _ _ _ 3 [.int .i64 3] from rfl) (aY.one (show Kd.M (Kd.int .i64) _ _ _ 5 [.int .i64 5] from rfl) (aY.one (show Kd.M (Kd.int .i64) _ _ _ 7 [.int .i64 7] from rfl) (aY.one (show Kd.M (Kd.int .i64) _ _ _ 2 [.int .i64 2] from rfl) (aY.one (show Kd.M (Kd.int .i64) _ _ _ 3 [.int .i64 3] from rfl) (aY.one (show Kd.M (Kd.int .i64) _ _ _ 4 [.int .i64 4] from rfl) (aY.none _ _)))))))));intro v656 w28 ho29 hb hg_ hnew_;clear hg_ hnew_;(first|rw [← Ny655.out] at ho29|(simp only [Int.reduceToNat] at ho29;rw [← Ny655.out] at ho29));have HO657:=aA.mk (Kd.R_lower ho29 (ak blI));replace BK649:=kB BK649 hb;replace BK650:=kB BK650 hb;replace HI654:=aA.mk (aW.below (iA HI654) hb);replace HB:=lI hb;clear hb ho29;obtain ⟨Ao30,co30,eo30⟩:=Kd.R_slice HO657.out;subst eo30)|((with_reducible refine gd 11 rfl ?_);refine gC (some 11) rfl Try.func40 (ag.calls (w:=_) (g:=g654) (w0:=w) (hI:=iA HI654) (hB:=blI) (hr1:=cR (Kd.R_reads' HO657.out).2.2) (hc1:=(Kd.R_reads' HO657.out).2.1) (hf1:=cw (aW.own_ne HI654.out HO657.out (by decide))) (h:=A3.out)) ?_;rintro w31 ⟨hi,hb,hk⟩;replace BK649:=kbk hk BK649 NB649_654;replace BK650:=kbk hk BK650 NB650_654;replace HO657:=aA.mk (Kd.R_mono (Kd.R_keep (aW.apart (show aW w _ g654 t651 t652 t653 from iA HI654) (rA HO657) (by decide)) hk (fun _ h=>h.2)) (fun _ h=>h.1));replace HB:=aA.mk hb;replace HI654:=aA.mk hi;clear hi hb hk)|((with_reducible refine gd 13 rfl ?_);refine gC (some 13) rfl Try.func50 (ae.calls (w:=_) (g:=g654) (w0:=w) (hI:=iA HI654) (hB:=blI) (h:=A4.out)) ?_;rintro w32 ⟨hi,hb,hk⟩;replace BK649:=kbk hk BK649 NB649_654;replace BK650:=kbk hk BK650 NB650_654;replace HO657:=aA.mk (Kd.R_mono (Kd.R_keep (aW.apart (show aW w _ g654 t651 t659 t660 from iA HI654) (rA HO657) (by decide)) hk (fun _ h=>h.2)) (fun _ h=>h.1));replace HB:=aA.mk hb;replace HI654:=aA.mk hi;clear hi hb hk)|((with_reducible refine gd 22 rfl ?_);refine gC (some 22) rfl Try.func41 (au.calls (w:=_) (g:=g654) (w0:=w) (hI:=iA HI654) (hB:=blI) (h:=A23.out)) ?_;rintro w33 ⟨hi,hb,hk⟩;replace BK649:=kbk hk BK649 NB649_654;replace BK650:=kbk hk BK650 NB650_654;replace HO657:=aA.mk (Kd.R_mono (Kd.R_keep (aW.apart (show aW w _ g654 t651 t662 t663 from iA HI654) (rA HO657) (by decide)) hk (fun _ h=>h.2)) (fun _ h=>h.1));replace HB:=aA.mk hb;replace HI654:=aA.mk hi;clear hi hb hk)|((with_reducible refine gd 24 rfl ?_);refine gC (some 24) rfl Try.func41 (au.calls (w:=_) (g:=g654) (w0:=w) (hI:=iA HI654) (hB:=blI) (h:=A24.out)) ?_;rintro w34 ⟨hi,hb,hk⟩;replace BK649:=kbk hk BK649 NB649_654;replace BK650:=kbk hk BK650 NB650_654;replace HO657:=aA.mk (Kd.R_mono (Kd.R_keep (aW.apart (show aW w _ g654 t651 t674 t675 from iA HI654) (rA HO657) (by decide)) hk (fun _ h=>h.2)) (fun _ h=>h.1));replace HB:=aA.mk hb;replace HI654:=aA.mk hi;clear hi hb hk;have hnb35:=LT649_650.out;have hnb36:=NB649_654.out;obtain ⟨hcz37_0,hcz37_1,hfz37_0,hfz37_1⟩:=cz2 BK649;have hnb38:=NB650_654.out;obtain ⟨hcz39_0,hcz39_1,hfz39_0,hfz39_1⟩:=cz2 BK650))
  refine bodyPost_ret (dF (rs:=[.tmp 2,.cell 3 28,.cell 4 28]) rfl (by simp) (.tmp (.cell gb649 28 #[.int .i64 t672,.int .i64 t673] (0,0) _ rfl (bpA BK649) Try.underlying28 rfl (by kernel_rfl) (.cell gb650 28 #[.int .i64 t676,.int .i64 t677] (0,0) _ rfl (bpA BK650) Try.underlying28 rfl (by kernel_rfl) .nil)))) rfl ?_
  exact rf0 blI
def af.j0:Nat→Bool→Int→Int→Int→Int→Option (Int)
 | 0,_,_,_,_,_=>none
 | k+1,x7,x681000,x681001,x682000,x682001=>if x7=true then (some 1) else (if (x681000 == x682000 && (x681001 == x682001))=true then (some 5) else (if x681001=0 then (some 5) else (if x682001=0 then (some 5) else (some 0))))
def af.f (k:Nat) (a0 a1_0 a1_1 a2_0 a2_1:Int):Option (Int):=(av.f a0).bind fun t682=>(if t682=true then ((bL.f k (([(⟨a1_0,a1_1⟩:S28),(⟨a2_0,a2_1⟩:S28)]:List (S28)))).bind fun t686=>(af.j0 k (!t686) a1_0 a1_1 a2_0 a2_1)) else (af.j0 k true a1_0 a1_1 a2_0 a2_1))
set_option maxHeartbeats 8000000 in
set_option maxRecDepth 100000 in
theorem af.calls (k:Nat) (a0 a1_0 a1_1 a2_0 a2_1 r:Int) (w:World) (h:af.f k a0 a1_0 a1_1 a2_0 a2_1=some r) :
  Calls Try.prog 64 #[.int .i64 a0,.agg #[.int .i64 a1_0,.int .i64 a1_1],.agg #[.int .i64 a2_0,.int .i64 a2_1]] w fun e w'=>e=.returned (.int .i64 r)∧Below w.heap.size w w':=by
 have hu28:=Try.underlying28
 have HB:=aA.mk (Below.refl w.heap.size w)
 have H:=h
 unfold af.f at H
 clear h
 have HC4:=aA.mk H
 clear H
 go_enter Try.func64,Try.ntmps64
 go_upto_region 1 with (first|((with_reducible refine aH (N:=4) rfl ?_);(try (refine cS (by rfl) ?_;dsimp only));refine bxE (cs:=#[.int .i64 a1_0,.int .i64 a1_1]) (t:=28) ?_;intro gb680 hg w5 hbox hb;have BK680:=aA.mk hbox;have GW680:=sA hg;have GE680:=sA hg;replace HB:=lB hb;clear hb hbox hg)|((with_reducible refine aH (N:=5) rfl ?_);(try (refine cS (by rfl) ?_;dsimp only));refine bxE (cs:=#[.int .i64 a2_0,.int .i64 a2_1]) (t:=28) ?_;intro gb681 hg w6 hbox hb;have BK681:=aA.mk hbox;have GW681:=sA hg;have GE681:=sA hg;have NB680_681:=nA hg BK680;have NB681_680:=nB hg BK680;have LT680_681:=nL hg BK680;replace BK680:=kB BK680 hb;replace HB:=lB hb;clear hb hbox hg))
 (try simp only [Act.put,List.setIfInBounds_toArray,List.set_cons_zero,List.set_cons_succ])
 go_cut [7] (fun v7 wc=>∃ (kq:Nat) (x7_3:Bool),v7=.bool x7_3∧aA (af.j0 kq x7_3 a1_0 a1_1 a2_0 a2_1=some r)∧aA (kq≤k)∧aA (wc.heap[gb680]?=some (.cells #[.int .i64 a1_0,.int .i64 a1_1] 28 (0,0)))∧aA (wc.heap[gb681]?=some (.cells #[.int .i64 a2_0,.int .i64 a2_1] 28 (0,0)))∧aA (Below w.heap.size w wc))
 case first=>
  have H:=HC4.out
  clear HC4
  replace H:=bS H
  obtain ⟨t682,A7,H⟩:=H
  try dsimp only at H
  by_cases c8:t682=true
  ·
   subst c8
   rw [if_pos rfl] at H
   try dsimp only at H
   obtain ⟨y683,hy683⟩:∃ y_:List (S28),y_=(([(⟨a1_0,a1_1⟩:S28),(⟨a2_0,a2_1⟩:S28)]:List (S28))):=⟨_,rfl⟩
   replace H:((bL.f k y683).bind fun t686=>(af.j0 k (!t686) a1_0 a1_1 a2_0 a2_1))=some r:=rH hy683 H
   have Ny683:=aA.mk hy683
   clear hy683
   replace H:=bS H
   obtain ⟨t686,A9,H⟩:=H
   try dsimp only at H
   have H':=aA.mk H
   clear H
   go_wp2_with (first|((with_reducible refine gd 9 rfl ?_);refine gC (some 9) rfl Try.func31 (av.calls (w:=_) (h:=A7.out)) ?_;rintro _ ⟨nd,rfl⟩;have hnb10:=LT680_681.out;obtain ⟨hcz11_0,hcz11_1,hfz11_0,hfz11_1⟩:=cz2 BK680;obtain ⟨hcz12_0,hcz12_1,hfz12_0,hfz12_1⟩:=cz2 BK681)|((with_reducible refine aH (N:=14) rfl ?_);(try (refine cS (by rfl) ?_;dsimp only));refine Kd.R_lit k28 _ 28 ?hg (N:=14) ?hd (xs:=([(⟨a1_0,a1_1⟩:S28),(⟨a2_0,a2_1⟩:S28)]:List (S28))) (inner:=[.int .i64 a1_0,.int .i64 a1_1,.int .i64 a2_0,.int .i64 a2_1]) (ok:=fun _=>True) (okp:=fun _=>True) ?hr ?hp (fun _ hk=>hk) trivial (Below.refl _ _) (Nat.le_refl _) (by simp) ?_;(case hd=>rfl);(case hg=>rfl);(case hr=>first|(go_simp;done)|(go_simp;rfl));(case hp=>exact (aY.c2 (show Kd.M k28 _ _ _ (⟨a1_0,a1_1⟩:S28) [.int .i64 a1_0,.int .i64 a1_1] from (aw _ _ _ (⟨a1_0,a1_1⟩:S28) )) (aY.c2 (show Kd.M k28 _ _ _ (⟨a2_0,a2_1⟩:S28) [.int .i64 a2_0,.int .i64 a2_1] from (aw _ _ _ (⟨a2_0,a2_1⟩:S28) )) (aY.none _ _))));intro v684 w13 ho14 hb hg_ hnew_;clear hg_ hnew_;(first|rw [← Ny683.out] at ho14|(simp only [Int.reduceToNat] at ho14;rw [← Ny683.out] at ho14));have HO685:=aA.mk (Kd.R_lower (Kd.R_newB (Kd.R_newB ho14 (bkA BK680)) (bkA BK681)) (ak blA));replace BK680:=kB BK680 hb;replace BK681:=kB BK681 hb;replace HB:=lB hb;clear hb ho14;obtain ⟨Ao15,co15,eo15⟩:=Kd.R_slice HO685.out;subst eo15)|(go_at_call 32;(with_reducible refine (bL.calls k _ _ y683 t686 _ ?side1 ?side2 A9.out).mono ?_);(case side1=>exact cR (Kd.R_reads' HO685.out).2.2);(case side2=>exact (Kd.R_reads' HO685.out).2.1);rintro e w16 ⟨rfl,hb⟩;replace HO685:=aA.mk (Kd.R_below (rA HO685) hb);replace BK680:=kB BK680 hb;replace BK681:=kB BK681 hb;replace HB:=lB hb;clear hb))
   go_meet
   case rel=>exact ⟨_,(!t686),hB,H',⟨by first|omega|exact Nat.le_refl _⟩,⟨bkA BK680⟩,⟨bkA BK681⟩,⟨blA⟩⟩
  ·
   replace c8:=Bool.eq_false_iff.mpr c8
   subst c8
   rw [if_neg (show ¬ (false=true) by decide)] at H
   try dsimp only at H
   have H':=aA.mk H
   clear H
   go_wp2_with (first|((with_reducible refine gd 9 rfl ?_);refine gC (some 9) rfl Try.func31 (av.calls (w:=_) (h:=A7.out)) ?_;rintro _ ⟨nd,rfl⟩))
   go_meet
   case rel=>exact ⟨_,(true),hB,H',⟨by first|omega|exact Nat.le_refl _⟩,⟨bkA BK680⟩,⟨bkA BK681⟩,⟨blA⟩⟩
 case rest=>
  clear HC4
  try clear c2
  try clear c8
  try clear hcz11_0
  try clear hcz11_1
  try clear hcz12_0
  try clear hcz12_1
  try clear hfz11_0
  try clear hfz11_1
  try clear hfz12_0
  try clear hfz12_1
  obtain ⟨kq,x7_3,rfl,HA,HJ3,BK680,BK681,HB⟩:=hcut
  cases kq with
  | zero=>exact absurd HA.out (by simp [af.j0])
  | succ kj3=>
   have H:=HA.out
   clear HA
   simp only [af.j0] at H
   by_cases c17:x7_3=true
   ·
    subst c17
    rw [if_pos rfl] at H
    try dsimp only at H
    obtain rfl:=Option.some.inj H
    go_wp2
    go_ret
    exact bU blA
   ·
    replace c17:=Bool.eq_false_iff.mpr c17
    subst c17
    rw [if_neg (show ¬ (false=true) by decide)] at H
    try dsimp only at H
    by_cases c18:(a1_0 == a2_0 && (a1_1 == a2_1))=true
    ·
     rw [if_pos c18] at H
     have c18b0:(a1_0 == a2_0 && (a1_1 == a2_1))=true:=c18
     (try (have c18b1:decide (a1_0=a2_0 && (a1_1 == a2_1))=true:=by simpa using c18))
     (try (have c18b2:(a1_0 == a2_0 && (a1_1 == a2_1))=true:=by simpa using c18))
     clear c18
     obtain rfl:=Option.some.inj H
     have hnb19:=LT680_681.out
     obtain ⟨hcz20_0,hcz20_1,hfz20_0,hfz20_1⟩:=cz2 BK680
     obtain ⟨hcz21_0,hcz21_1,hfz21_0,hfz21_1⟩:=cz2 BK681
     go_wp2
     go_ret
     exact bU blA
    ·
     rw [if_neg c18] at H
     have c18b0:(a1_0 == a2_0 && (a1_1 == a2_1))=false:=by simpa using c18
     (try (have c18b1:decide (a1_0=a2_0 && (a1_1 == a2_1))=false:=by simpa using c18))
     (try (have c18b2:(a1_0 == a2_0 && (a1_1 == a2_1))=false:=by simpa using c18))
     (try (have c18b3:¬ (a1_0=a2_0 && (a1_1 == a2_1)):=by simpa using c18))
     clear c18
     by_cases c22:a1_1=0
     ·
      rw [if_pos c22] at H
      have c22b0:(a1_1 == 0)=true:=beq_iff_eq.mpr c22
      have c22b1:(a1_1 != 0)=false:=bne_eq_false_iff_eq.mpr c22
      clear c22
      obtain rfl:=Option.some.inj H
      have hnb23:=LT680_681.out
      obtain ⟨hcz24_0,hcz24_1,hfz24_0,hfz24_1⟩:=cz2 BK680
      obtain ⟨hcz25_0,hcz25_1,hfz25_0,hfz25_1⟩:=cz2 BK681
      go_wp2
      go_ret
      exact bU blA
     ·
      rw [if_neg c22] at H
      have c22b0:(a1_1 == 0)=false:=beq_eq_false_iff_ne.mpr c22
      have c22b1:(a1_1 != 0)=true:=bne_iff_ne.mpr c22
      by_cases c26:a2_1=0
      ·
       rw [if_pos c26] at H
       have c26b0:(a2_1 == 0)=true:=beq_iff_eq.mpr c26
       have c26b1:(a2_1 != 0)=false:=bne_eq_false_iff_eq.mpr c26
       clear c26
       obtain rfl:=Option.some.inj H
       have hnb27:=LT680_681.out
       obtain ⟨hcz28_0,hcz28_1,hfz28_0,hfz28_1⟩:=cz2 BK680
       obtain ⟨hcz29_0,hcz29_1,hfz29_0,hfz29_1⟩:=cz2 BK681
       go_wp2
       go_ret
       exact bU blA
      ·
       rw [if_neg c26] at H
       have c26b0:(a2_1 == 0)=false:=beq_eq_false_iff_ne.mpr c26
       have c26b1:(a2_1 != 0)=true:=bne_iff_ne.mpr c26
       obtain rfl:=Option.some.inj H
       have hnb30:=LT680_681.out
       obtain ⟨hcz31_0,hcz31_1,hfz31_0,hfz31_1⟩:=cz2 BK680
       obtain ⟨hcz32_0,hcz32_1,hfz32_0,hfz32_1⟩:=cz2 BK681
       go_wp2
       go_ret
       exact bU blA
end Go.Proofs.Ytpihnmmoahplgaa.PAll
