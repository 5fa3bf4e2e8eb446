import Derived.Test.YtnhiehpbkimaeaaGreatQx
import Derived.Test.YtnhiehpbkimaeaaGreatQcmpisNaNint64
namespace Go.Proofs.YtnhiehpbkimaeaaGreat.PAll
open Go.RowKit Go.Proofs.YtnhiehpbkimaeaaGreatW.PrintWords Go.Proofs.YtnhiehpbkimaeaaGreatW.PrintLast Go.Proofs.YtnhiehpbkimaeaaGreatW.PrintMore
attribute [local go_sem] Go.Proofs.YtnhiehpbkimaeaaGreat.Aux.setCell_drewN Go.Proofs.YtnhiehpbkimaeaaGreat.Aux.isSome_setCell cC b9 cQ cP bm bl cB b8
set_option linter.unusedVariables false
set_option linter.unusedSimpArgs false
def bo.j0:Nat→Int→Bool→Int→Int→Int→Option (Bool)
 | 0,_,_,_,_,_=>none
 | k+1,x0,x20,x120000,x120001,x120002=>if x20=true then (some false) else (if (wrap64 (x120000+x120002))≤0 then (if x120001=0 then (some (x120002 == 0)) else (some false)) else ((aJ.f k x0 (wrap64 (x120000+x120002))).bind fun t123=>((av.f x120001 0 (wrap64 (t123 - 1))).bind fun t124=>(if t124=true then (if x120002=0 then (some true) else (if x0=0 then (none) else (some ((Int.tmod x120001 x0) != 0)))) else (some false)))))
def bo.f (k:Nat) (a0 a1_0 a1_1 a1_2:Int):Option (Bool):=(aq.f a0).bind fun t120=>(if t120=true then ((av.f a1_0 (-6) 6).bind fun t121=>(if t121=true then ((av.f a1_2 0 6).bind fun t122=>(bo.j0 k a0 (!t122) a1_0 a1_1 a1_2)) else (bo.j0 k a0 true a1_0 a1_1 a1_2))) else (bo.j0 k a0 true a1_0 a1_1 a1_2))
set_option maxHeartbeats 8000000 in
set_option maxRecDepth 100000 in
theorem bo.calls (k:Nat) (a0 a1_0 a1_1 a1_2:Int) (r:Bool) (w:World) (h:bo.f k a0 a1_0 a1_1 a1_2=some r) :
  Calls Tryz.prog 90 #[.int .i64 a0,.agg #[.int .i64 a1_0,.int .i64 a1_1,.int .i64 a1_2]] w fun e w'=>e=.returned (.bool r)∧Below w.heap.size w w':=by
 have hu43:=Tryz.underlying43
 have HB:=aA.mk (Below.refl w.heap.size w)
 have H:=h
 unfold bo.f at H
 clear h
 have HC3:=aA.mk H
 clear H
 go_enter Tryz.func90,Tryz.ntmps90
 go_upto_region 1 with (first|((with_reducible refine aN (N:=3) rfl ?_);refine bxE (cs:=#[.int .i64 a1_0,.int .i64 a1_1,.int .i64 a1_2]) (t:=43) ?_;intro gb119 hg w4 hbox hb;have BK119:=aA.mk hbox;have GW119:=sA hg;have GE119:=sA hg;replace HB:=lB hb;clear hb hbox hg))
 repeat (go_quiet (first|((with_reducible refine aN (N:=3) rfl ?_);refine bxE (cs:=#[.int .i64 a1_0,.int .i64 a1_1,.int .i64 a1_2]) (t:=43) ?_;intro gb119 hg w4 hbox hb;have BK119:=aA.mk hbox;have GW119:=sA hg;have GE119:=sA hg;replace HB:=lB hb;clear hb hbox hg));go_upto_region 1 with (first|((with_reducible refine aN (N:=3) rfl ?_);refine bxE (cs:=#[.int .i64 a1_0,.int .i64 a1_1,.int .i64 a1_2]) (t:=43) ?_;intro gb119 hg w4 hbox hb;have BK119:=aA.mk hbox;have GW119:=sA hg;have GE119:=sA hg;replace HB:=lB hb;clear hb hbox hg)))
 (try simp only [Act.put,List.setIfInBounds_toArray,List.set_cons_zero,List.set_cons_succ])
 go_cut [20] (fun v20 wc=>∃ (kq:Nat) (x20_2:Bool),v20=.bool x20_2∧aA (bo.j0 kq a0 x20_2 a1_0 a1_1 a1_2=some r)∧aA (kq≤k)∧aA (wc.heap[gb119]?=some (.cells #[.int .i64 a1_0,.int .i64 a1_1,.int .i64 a1_2] 43 (0,0)))∧aA (Below w.heap.size w wc))
 case first=>
  have H:=HC3.out
  clear HC3
  replace H:=bS H
  obtain ⟨t120,A5,H⟩:=H
  try dsimp only at H
  by_cases c6:t120=true
  ·
   subst c6
   rw [if_pos rfl] at H
   try dsimp only at H
   replace H:=bS H
   obtain ⟨t121,A7,H⟩:=H
   try dsimp only at H
   by_cases c8:t121=true
   ·
    subst c8
    rw [if_pos rfl] at H
    try dsimp only at H
    replace H:=bS H
    obtain ⟨t122,A9,H⟩:=H
    try dsimp only at H
    have H':=aA.mk H
    clear H
    go_wp2_with (first|(go_at_call 51;(with_reducible refine (aq.calls a0 true _ A5.out).mono ?_);rintro e w' ⟨rfl,⟨nd,rfl⟩⟩;(try exact dd);obtain ⟨hcz10_0,hcz10_1,hcz10_2,hfz10_0,hfz10_1,hfz10_2⟩:=cz3 BK119)|(go_at_call 52;(with_reducible refine (av.calls a1_0 (-6) 6 true _ A7.out).mono ?_);rintro e w' ⟨rfl,⟨nd,rfl⟩⟩;(try exact dd))|(go_at_call 52;(with_reducible refine (av.calls a1_2 0 6 t122 _ A9.out).mono ?_);rintro e w' ⟨rfl,⟨nd,rfl⟩⟩;(try exact dd)))
    repeat (go_quiet (first|(go_at_call 51;(with_reducible refine (aq.calls a0 true _ A5.out).mono ?_);rintro e w' ⟨rfl,⟨nd,rfl⟩⟩;(try exact dd);obtain ⟨hcz10_0,hcz10_1,hcz10_2,hfz10_0,hfz10_1,hfz10_2⟩:=cz3 BK119)|(go_at_call 52;(with_reducible refine (av.calls a1_0 (-6) 6 true _ A7.out).mono ?_);rintro e w' ⟨rfl,⟨nd,rfl⟩⟩;(try exact dd))|(go_at_call 52;(with_reducible refine (av.calls a1_2 0 6 t122 _ A9.out).mono ?_);rintro e w' ⟨rfl,⟨nd,rfl⟩⟩;(try exact dd)));try go_wp2_with (first|(go_at_call 51;(with_reducible refine (aq.calls a0 true _ A5.out).mono ?_);rintro e w' ⟨rfl,⟨nd,rfl⟩⟩;(try exact dd);obtain ⟨hcz10_0,hcz10_1,hcz10_2,hfz10_0,hfz10_1,hfz10_2⟩:=cz3 BK119)|(go_at_call 52;(with_reducible refine (av.calls a1_0 (-6) 6 true _ A7.out).mono ?_);rintro e w' ⟨rfl,⟨nd,rfl⟩⟩;(try exact dd))|(go_at_call 52;(with_reducible refine (av.calls a1_2 0 6 t122 _ A9.out).mono ?_);rintro e w' ⟨rfl,⟨nd,rfl⟩⟩;(try exact dd))))
    go_meet
    case rel=>exact ⟨_,(!t122),hB,H',⟨by first|omega|exact Nat.le_refl _⟩,⟨bkA BK119⟩,⟨blA⟩⟩
   ·
    replace c8:=Bool.eq_false_iff.mpr c8
    subst c8
    rw [if_neg (show ¬ (false=true) by decide)] at H
    try dsimp only at H
    have H':=aA.mk H
    clear H
    go_wp2_with (first|(go_at_call 51;(with_reducible refine (aq.calls a0 true _ A5.out).mono ?_);rintro e w' ⟨rfl,⟨nd,rfl⟩⟩;(try exact dd);obtain ⟨hcz11_0,hcz11_1,hcz11_2,hfz11_0,hfz11_1,hfz11_2⟩:=cz3 BK119)|(go_at_call 52;(with_reducible refine (av.calls a1_0 (-6) 6 false _ A7.out).mono ?_);rintro e w' ⟨rfl,⟨nd,rfl⟩⟩;(try exact dd)))
    repeat (go_quiet (first|(go_at_call 51;(with_reducible refine (aq.calls a0 true _ A5.out).mono ?_);rintro e w' ⟨rfl,⟨nd,rfl⟩⟩;(try exact dd);obtain ⟨hcz11_0,hcz11_1,hcz11_2,hfz11_0,hfz11_1,hfz11_2⟩:=cz3 BK119)|(go_at_call 52;(with_reducible refine (av.calls a1_0 (-6) 6 false _ A7.out).mono ?_);rintro e w' ⟨rfl,⟨nd,rfl⟩⟩;(try exact dd)));try go_wp2_with (first|(go_at_call 51;(with_reducible refine (aq.calls a0 true _ A5.out).mono ?_);rintro e w' ⟨rfl,⟨nd,rfl⟩⟩;(try exact dd);obtain ⟨hcz11_0,hcz11_1,hcz11_2,hfz11_0,hfz11_1,hfz11_2⟩:=cz3 BK119)|(go_at_call 52;(with_reducible refine (av.calls a1_0 (-6) 6 false _ A7.out).mono ?_);rintro e w' ⟨rfl,⟨nd,rfl⟩⟩;(try exact dd))))
    go_meet
    case rel=>exact ⟨_,(true),hB,H',⟨by first|omega|exact Nat.le_refl _⟩,⟨bkA BK119⟩,⟨blA⟩⟩
  ·
   replace c6:=Bool.eq_false_iff.mpr c6
   subst c6
   rw [if_neg (show ¬ (false=true) by decide)] at H
   try dsimp only at H
   have H':=aA.mk H
   clear H
   go_wp2_with (first|(go_at_call 51;(with_reducible refine (aq.calls a0 false _ A5.out).mono ?_);rintro e w' ⟨rfl,⟨nd,rfl⟩⟩;(try exact dd)))
   repeat (go_quiet (first|(go_at_call 51;(with_reducible refine (aq.calls a0 false _ A5.out).mono ?_);rintro e w' ⟨rfl,⟨nd,rfl⟩⟩;(try exact dd)));try go_wp2_with (first|(go_at_call 51;(with_reducible refine (aq.calls a0 false _ A5.out).mono ?_);rintro e w' ⟨rfl,⟨nd,rfl⟩⟩;(try exact dd))))
   go_meet
   case rel=>exact ⟨_,(true),hB,H',⟨by first|omega|exact Nat.le_refl _⟩,⟨bkA BK119⟩,⟨blA⟩⟩
 case rest=>
  clear HC3
  try clear c6
  try clear c8
  try clear hcz10_0
  try clear hcz10_1
  try clear hcz10_2
  try clear hcz11_0
  try clear hcz11_1
  try clear hcz11_2
  try clear hfz10_0
  try clear hfz10_1
  try clear hfz10_2
  try clear hfz11_0
  try clear hfz11_1
  try clear hfz11_2
  obtain ⟨kq,x20_2,rfl,HA,HJ2,BK119,HB⟩:=hcut
  cases kq with
  | zero=>exact absurd HA.out (by simp [bo.j0])
  | succ kj2=>
   have H:=HA.out
   clear HA
   simp only [bo.j0] at H
   by_cases c12:x20_2=true
   ·
    subst c12
    rw [if_pos rfl] at H
    try dsimp only at H
    obtain rfl:=Option.some.inj H
    go_wp2
    repeat (go_quiet (fail);try go_wp2)
    go_ret
    exact cE blA
   ·
    replace c12:=Bool.eq_false_iff.mpr c12
    subst c12
    rw [if_neg (show ¬ (false=true) by decide)] at H
    try dsimp only at H
    by_cases c13:(wrap64 (a1_0+a1_2))≤0
    ·
     rw [if_pos c13] at H
     have c13b0:=decide_eq_true c13
     clear c13
     by_cases c14:a1_1=0
     ·
      rw [if_pos c14] at H
      have c14b0:(a1_1 == 0)=true:=beq_iff_eq.mpr c14
      have c14b1:(a1_1 != 0)=false:=bne_eq_false_iff_eq.mpr c14
      clear c14
      obtain rfl:=Option.some.inj H
      obtain ⟨hcz15_0,hcz15_1,hcz15_2,hfz15_0,hfz15_1,hfz15_2⟩:=cz3 BK119
      go_wp2
      repeat (go_quiet (fail);try go_wp2)
      go_ret
      exact cE blA
     ·
      rw [if_neg c14] at H
      have c14b0:(a1_1 == 0)=false:=beq_eq_false_iff_ne.mpr c14
      have c14b1:(a1_1 != 0)=true:=bne_iff_ne.mpr c14
      obtain rfl:=Option.some.inj H
      obtain ⟨hcz16_0,hcz16_1,hcz16_2,hfz16_0,hfz16_1,hfz16_2⟩:=cz3 BK119
      go_wp2
      repeat (go_quiet (fail);try go_wp2)
      go_ret
      exact cE blA
    ·
     rw [if_neg c13] at H
     have c13b0:=decide_eq_false c13
     clear c13
     replace H:=bS H
     obtain ⟨t123,A17,H⟩:=H
     try dsimp only at H
     replace H:=bS H
     obtain ⟨t124,A18,H⟩:=H
     try dsimp only at H
     by_cases c19:t124=true
     ·
      subst c19
      rw [if_pos rfl] at H
      try dsimp only at H
      by_cases c20:a1_2=0
      focus
       rw [if_pos c20] at H
       have c20b0:(a1_2 == 0)=true:=beq_iff_eq.mpr c20
       have c20b1:(a1_2 != 0)=false:=bne_eq_false_iff_eq.mpr c20
       clear c20
       obtain rfl:=Option.some.inj H
       obtain ⟨hcz21_0,hcz21_1,hcz21_2,hfz21_0,hfz21_1,hfz21_2⟩:=cz3 BK119
      rotate_left
      focus
       rw [if_neg c20] at H
       have c20b0:(a1_2 == 0)=false:=beq_eq_false_iff_ne.mpr c20
       have c20b1:(a1_2 != 0)=true:=bne_iff_ne.mpr c20
       by_cases c22:a0=0
       ·
        rw [if_pos c22] at H
        exact absurd H (by simp)
       rw [if_neg c22] at H
       have c22b0:(a0 == 0)=false:=beq_eq_false_iff_ne.mpr c22
       have c22b1:(a0 != 0)=true:=bne_iff_ne.mpr c22
       obtain rfl:=Option.some.inj H
       obtain ⟨hcz23_0,hcz23_1,hcz23_2,hfz23_0,hfz23_1,hfz23_2⟩:=cz3 BK119
      rotate_left
      all_goals
       go_wp2_with (first|(go_at_call 82;(with_reducible refine (aJ.calls kj2 a0 (wrap64 (a1_0+a1_2)) t123 _ A17.out).mono ?_);rintro e w' ⟨rfl,⟨nd,rfl⟩⟩;(try exact dd))|(go_at_call 52;(with_reducible refine (av.calls a1_1 0 (wrap64 (t123 - 1)) true _ A18.out).mono ?_);rintro e w' ⟨rfl,⟨nd,rfl⟩⟩;(try exact dd)))
       repeat (go_quiet (first|(go_at_call 82;(with_reducible refine (aJ.calls kj2 a0 (wrap64 (a1_0+a1_2)) t123 _ A17.out).mono ?_);rintro e w' ⟨rfl,⟨nd,rfl⟩⟩;(try exact dd))|(go_at_call 52;(with_reducible refine (av.calls a1_1 0 (wrap64 (t123 - 1)) true _ A18.out).mono ?_);rintro e w' ⟨rfl,⟨nd,rfl⟩⟩;(try exact dd)));try go_wp2_with (first|(go_at_call 82;(with_reducible refine (aJ.calls kj2 a0 (wrap64 (a1_0+a1_2)) t123 _ A17.out).mono ?_);rintro e w' ⟨rfl,⟨nd,rfl⟩⟩;(try exact dd))|(go_at_call 52;(with_reducible refine (av.calls a1_1 0 (wrap64 (t123 - 1)) true _ A18.out).mono ?_);rintro e w' ⟨rfl,⟨nd,rfl⟩⟩;(try exact dd))))
      ·
       go_ret
       exact cE blA
      ·
       go_ret
       exact cE blA
     ·
      replace c19:=Bool.eq_false_iff.mpr c19
      subst c19
      rw [if_neg (show ¬ (false=true) by decide)] at H
      try dsimp only at H
      obtain rfl:=Option.some.inj H
      obtain ⟨hcz24_0,hcz24_1,hcz24_2,hfz24_0,hfz24_1,hfz24_2⟩:=cz3 BK119
      go_wp2_with (first|(go_at_call 82;(with_reducible refine (aJ.calls kj2 a0 (wrap64 (a1_0+a1_2)) t123 _ A17.out).mono ?_);rintro e w' ⟨rfl,⟨nd,rfl⟩⟩;(try exact dd))|(go_at_call 52;(with_reducible refine (av.calls a1_1 0 (wrap64 (t123 - 1)) false _ A18.out).mono ?_);rintro e w' ⟨rfl,⟨nd,rfl⟩⟩;(try exact dd)))
      repeat (go_quiet (first|(go_at_call 82;(with_reducible refine (aJ.calls kj2 a0 (wrap64 (a1_0+a1_2)) t123 _ A17.out).mono ?_);rintro e w' ⟨rfl,⟨nd,rfl⟩⟩;(try exact dd))|(go_at_call 52;(with_reducible refine (av.calls a1_1 0 (wrap64 (t123 - 1)) false _ A18.out).mono ?_);rintro e w' ⟨rfl,⟨nd,rfl⟩⟩;(try exact dd)));try go_wp2_with (first|(go_at_call 82;(with_reducible refine (aJ.calls kj2 a0 (wrap64 (a1_0+a1_2)) t123 _ A17.out).mono ?_);rintro e w' ⟨rfl,⟨nd,rfl⟩⟩;(try exact dd))|(go_at_call 52;(with_reducible refine (av.calls a1_1 0 (wrap64 (t123 - 1)) false _ A18.out).mono ?_);rintro e w' ⟨rfl,⟨nd,rfl⟩⟩;(try exact dd))))
      go_ret
      exact cE blA
def bf.f (k:Nat) (a0 a1 a2 a3:Int):Option (Int × Int × Int × Bool):=(av.f a3 (-6) 6).bind fun t129=>(if t129=true then (if a1=0 then (some (a3,0,0,true)) else ((ak.f k a0 a1).bind fun t131=>((ak.f k a0 a2).bind fun t132=>(if a3≤(wrap64 (t131 - t132)) then (some (a3,0,0,true)) else (if (mx (wrap64 (t132 - t131)) 0)>6 then (some (0,0,0,false)) else ((aJ.f k a0 (wrap64 (a3+(mx (wrap64 (t132 - t131)) 0)))).bind fun t133=>((aJ.f k a0 t131).bind fun t134=>(if t134=0 then (none) else ((aJ.f k a0 t132).bind fun t135=>(if t135=0 then (none) else ((bP.f k (wrap64 (Int.tdiv a2 t135)) t133).bind fun t136=>((bi.f (wrap64 (Int.tdiv a1 t134)) t136 t133).bind fun t137=>((aJ.f k a0 (mx (wrap64 (t131 - t132)) 0)).bind fun t138=>((bi.f t137 t138 t133).bind fun t139=>(some (a3,t139,mx (wrap64 (t132 - t131)) 0,true)))))))))))))))) else (some (0,0,0,false)))
set_option maxHeartbeats 8000000 in
set_option maxRecDepth 100000 in
theorem bf.calls (k:Nat) (a0 a1 a2 a3 r1 r2 r3:Int) (r4:Bool) (w:World) (h:bf.f k a0 a1 a2 a3=some (r1,r2,r3,r4)) :
  Calls Tryz.prog 81 #[.int .i64 a0,.int .i64 a1,.int .i64 a2,.int .i64 a3] w fun e w'=>e=.returned (.tuple #[.agg #[.int .i64 r1,.int .i64 r2,.int .i64 r3],.bool r4])∧Below w.heap.size w w':=by
 have hu43:=Tryz.underlying43
 have HB:=aA.mk (Below.refl w.heap.size w)
 have H:=h
 unfold bf.f at H
 clear h
 replace H:=bS H
 obtain ⟨t129,A5,H⟩:=H
 try dsimp only at H
 by_cases c6:t129=true
 ·
  subst c6
  rw [if_pos rfl] at H
  try dsimp only at H
  by_cases c7:a1=0
  ·
   rw [if_pos c7] at H
   have c7b0:(a1 == 0)=true:=beq_iff_eq.mpr c7
   have c7b1:(a1 != 0)=false:=bne_eq_false_iff_eq.mpr c7
   clear c7
   simp only [Option.some.injEq,Prod.mk.injEq] at H
   obtain ⟨rfl,rfl,rfl,rfl⟩:=H
   go_enter Tryz.func81,Tryz.ntmps81
   go_wp2_with (first|((with_reducible refine aN (N:=8) rfl ?_);refine bxE (cs:=#[.int .i64 0,.int .i64 0,.int .i64 0]) (t:=43) ?_;intro gb128 hg w8 hbox hb;have BK128:=aA.mk hbox;have GW128:=sA hg;have GE128:=sA hg;replace HB:=lB hb;clear hb hbox hg)|((with_reducible refine gd 15 rfl ?_);refine gC (some 15) rfl Tryz.func52 (av.calls (w:=_) (h:=A5.out)) ?_;rintro _ ⟨nd,rfl⟩;(try (rw [bh w8];generalize hq_:World.drewN w8 _=w8;replace BK128:=aA.mk (by rw [← hq_];exact (bkA BK128));replace HB:=aA.mk (by rw [← hq_];exact blA);clear hq_)))|((with_reducible refine aN (N:=10) rfl ?_);refine bxE (cs:=#[.int .i64 0,.int .i64 0,.int .i64 0]) (t:=43) ?_;intro gb130 hg w9 hbox hb;have BK130:=aA.mk hbox;have GW130:=sA hg;have GE130:=sA hg;have NB128_130:=nA hg BK128;have NB130_128:=nB hg BK128;replace BK128:=kB BK128 hb;replace HB:=lB hb;clear hb hbox hg;have hnb10:=NB130_128.out;have hnc10:=NB128_130.out;obtain ⟨hcz11_0,hcz11_1,hcz11_2,hfz11_0,hfz11_1,hfz11_2⟩:=cz3 BK130;obtain ⟨hcz12_0,hcz12_1,hcz12_2,hfz12_0,hfz12_1,hfz12_2⟩:=cz3 BK128))
   refine bodyPost_ret (bZ rfl _ _ gb128 43 #[.int .i64 a3,.int .i64 0,.int .i64 0] (0,0) _ rfl (bpA BK128) Tryz.underlying43 rfl (by kernel_rfl)) rfl ?_
   exact cE blA
  ·
   rw [if_neg c7] at H
   have c7b0:(a1 == 0)=false:=beq_eq_false_iff_ne.mpr c7
   have c7b1:(a1 != 0)=true:=bne_iff_ne.mpr c7
   replace H:=bS H
   obtain ⟨t131,A13,H⟩:=H
   try dsimp only at H
   replace H:=bS H
   obtain ⟨t132,A14,H⟩:=H
   try dsimp only at H
   by_cases c15:a3≤(wrap64 (t131 - t132))
   ·
    rw [if_pos c15] at H
    have c15b0:=decide_eq_true c15
    clear c15
    simp only [Option.some.injEq,Prod.mk.injEq] at H
    obtain ⟨rfl,rfl,rfl,rfl⟩:=H
    go_enter Tryz.func81,Tryz.ntmps81
    go_wp2_with (first|((with_reducible refine aN (N:=8) rfl ?_);refine bxE (cs:=#[.int .i64 0,.int .i64 0,.int .i64 0]) (t:=43) ?_;intro gb128 hg w16 hbox hb;have BK128:=aA.mk hbox;have GW128:=sA hg;have GE128:=sA hg;replace HB:=lB hb;clear hb hbox hg)|((with_reducible refine gd 15 rfl ?_);refine gC (some 15) rfl Tryz.func52 (av.calls (w:=_) (h:=A5.out)) ?_;rintro _ ⟨nd,rfl⟩;(try (rw [bh w16];generalize hq_:World.drewN w16 _=w16;replace BK128:=aA.mk (by rw [← hq_];exact (bkA BK128));replace HB:=aA.mk (by rw [← hq_];exact blA);clear hq_)))|((with_reducible refine aN (N:=10) rfl ?_);refine bxE (cs:=#[.int .i64 0,.int .i64 0,.int .i64 0]) (t:=43) ?_;intro gb130 hg w17 hbox hb;have BK130:=aA.mk hbox;have GW130:=sA hg;have GE130:=sA hg;have NB128_130:=nA hg BK128;have NB130_128:=nB hg BK128;replace BK128:=kB BK128 hb;replace HB:=lB hb;clear hb hbox hg;have hnb18:=NB130_128.out;have hnc18:=NB128_130.out;obtain ⟨hcz19_0,hcz19_1,hcz19_2,hfz19_0,hfz19_1,hfz19_2⟩:=cz3 BK130)|((with_reducible refine gd 25 rfl ?_);refine gC (some 25) rfl Tryz.func92 (ak.calls (w:=_) (h:=A13.out)) ?_;rintro _ ⟨nd,rfl⟩)|((with_reducible refine gd 28 rfl ?_);refine gC (some 28) rfl Tryz.func92 (ak.calls (w:=_) (h:=A14.out)) ?_;rintro _ ⟨nd,rfl⟩;obtain ⟨hcz20_0,hcz20_1,hcz20_2,hfz20_0,hfz20_1,hfz20_2⟩:=cz3 BK128))
    refine bodyPost_ret (bZ rfl _ _ gb128 43 #[.int .i64 a3,.int .i64 0,.int .i64 0] (0,0) _ rfl (bpA BK128) Tryz.underlying43 rfl (by kernel_rfl)) rfl ?_
    exact cE blA
   ·
    rw [if_neg c15] at H
    have c15b0:=decide_eq_false c15
    clear c15
    obtain ⟨ji21,hji21⟩:∃ j_:Int,(mx (wrap64 (t132 - t131)) 0)=j_:=⟨_,rfl⟩
    replace H:(if (ji21)>6 then (some (0,0,0,false)) else ((aJ.f k a0 (wrap64 (a3+(ji21)))).bind fun t133=>((aJ.f k a0 t131).bind fun t134=>(if t134=0 then (none) else ((aJ.f k a0 t132).bind fun t135=>(if t135=0 then (none) else ((bP.f k (wrap64 (Int.tdiv a2 t135)) t133).bind fun t136=>((bi.f (wrap64 (Int.tdiv a1 t134)) t136 t133).bind fun t137=>((aJ.f k a0 (mx (wrap64 (t131 - t132)) 0)).bind fun t138=>((bi.f t137 t138 t133).bind fun t139=>(some (a3,t139,ji21,true))))))))))))=some (r1,r2,r3,r4):=by first|(rw [hji21] at H;exact H)|(simp only [hji21] at H ⊢;exact H)
    (try rw [hji21] at A5)
    (try rw [hji21] at A13)
    (try rw [hji21] at A14)
    (try (have hji21l:0≤ji21:=by (rw [← hji21];unfold mx;(repeat' split) <;> omega)))
    (try (have hji21m:0≤ji21:=by omega))
    have hji21_:(if (wrap64 (t132 - t131))<0 then 0 else (wrap64 (t132 - t131)))=ji21:=hji21
    by_cases c22:(ji21)>6
    focus
     rw [if_pos c22] at H
     have c22b0:decide (6<(ji21))=true:=decide_eq_true c22
     clear c22
     simp only [Option.some.injEq,Prod.mk.injEq] at H
     obtain ⟨rfl,rfl,rfl,rfl⟩:=H
    rotate_left
    focus
     rw [if_neg c22] at H
     have c22b0:decide (6<(ji21))=false:=decide_eq_false c22
     clear c22
     replace H:=bS H
     obtain ⟨t133,A28,H⟩:=H
     try dsimp only at H
     replace H:=bS H
     obtain ⟨t134,A29,H⟩:=H
     try dsimp only at H
     by_cases c30:t134=0
     ·
      rw [if_pos c30] at H
      exact absurd H (by simp)
     rw [if_neg c30] at H
     have c30b0:(t134 == 0)=false:=beq_eq_false_iff_ne.mpr c30
     have c30b1:(t134 != 0)=true:=bne_iff_ne.mpr c30
     replace H:=bS H
     obtain ⟨t135,A31,H⟩:=H
     try dsimp only at H
     by_cases c32:t135=0
     ·
      rw [if_pos c32] at H
      exact absurd H (by simp)
     rw [if_neg c32] at H
     have c32b0:(t135 == 0)=false:=beq_eq_false_iff_ne.mpr c32
     have c32b1:(t135 != 0)=true:=bne_iff_ne.mpr c32
     replace H:=bS H
     obtain ⟨t136,A33,H⟩:=H
     try dsimp only at H
     replace H:=bS H
     obtain ⟨t137,A34,H⟩:=H
     try dsimp only at H
     obtain ⟨ji35,hji35⟩:∃ j_:Int,(mx (wrap64 (t131 - t132)) 0)=j_:=⟨_,rfl⟩
     replace H:((aJ.f k a0 (ji35)).bind fun t138=>((bi.f t137 t138 t133).bind fun t139=>(some (a3,t139,ji21,true))))=some (r1,r2,r3,r4):=by first|(rw [hji35] at H;exact H)|(simp only [hji35] at H ⊢;exact H)
     (try rw [hji35] at A5)
     (try rw [hji35] at A13)
     (try rw [hji35] at A14)
     (try rw [hji35] at A28)
     (try rw [hji35] at A29)
     (try rw [hji35] at A31)
     (try rw [hji35] at A33)
     (try rw [hji35] at A34)
     (try (have hji35l:0≤ji35:=by (rw [← hji35];unfold mx;(repeat' split) <;> omega)))
     (try (have hji35m:0≤ji35:=by omega))
     have hji35_:(if (wrap64 (t131 - t132))<0 then 0 else (wrap64 (t131 - t132)))=ji35:=hji35
     replace H:=bS H
     obtain ⟨t138,A36,H⟩:=H
     try dsimp only at H
     replace H:=bS H
     obtain ⟨t139,A37,H⟩:=H
     try dsimp only at H
     simp only [Option.some.injEq,Prod.mk.injEq] at H
     obtain ⟨rfl,rfl,rfl,rfl⟩:=H
    rotate_left
    all_goals
     go_enter Tryz.func81,Tryz.ntmps81
     go_wp2_with (first|((with_reducible refine aN (N:=8) rfl ?_);refine bxE (cs:=#[.int .i64 0,.int .i64 0,.int .i64 0]) (t:=43) ?_;intro gb128 hg w23 hbox hb;have BK128:=aA.mk hbox;have GW128:=sA hg;have GE128:=sA hg;replace HB:=lB hb;clear hb hbox hg)|((with_reducible refine gd 15 rfl ?_);refine gC (some 15) rfl Tryz.func52 (av.calls (w:=_) (h:=A5.out)) ?_;rintro _ ⟨nd,rfl⟩;(try (rw [bh w23];generalize hq_:World.drewN w23 _=w23;replace BK128:=aA.mk (by rw [← hq_];exact (bkA BK128));replace HB:=aA.mk (by rw [← hq_];exact blA);clear hq_)))|((with_reducible refine aN (N:=10) rfl ?_);refine bxE (cs:=#[.int .i64 0,.int .i64 0,.int .i64 0]) (t:=43) ?_;intro gb130 hg w24 hbox hb;have BK130:=aA.mk hbox;have GW130:=sA hg;have GE130:=sA hg;have NB128_130:=nA hg BK128;have NB130_128:=nB hg BK128;replace BK128:=kB BK128 hb;replace HB:=lB hb;clear hb hbox hg;have hnb25:=NB130_128.out;have hnc25:=NB128_130.out;obtain ⟨hcz26_0,hcz26_1,hcz26_2,hfz26_0,hfz26_1,hfz26_2⟩:=cz3 BK130)|((with_reducible refine gd 25 rfl ?_);refine gC (some 25) rfl Tryz.func92 (ak.calls (w:=_) (h:=A13.out)) ?_;rintro _ ⟨nd,rfl⟩)|((with_reducible refine gd 28 rfl ?_);refine gC (some 28) rfl Tryz.func92 (ak.calls (w:=_) (h:=A14.out)) ?_;rintro _ ⟨nd,rfl⟩;obtain ⟨hcz27_0,hcz27_1,hcz27_2,hfz27_0,hfz27_1,hfz27_2⟩:=cz3 BK128)|((with_reducible refine a6 (f:=82) rfl ?_);refine eq (some 49) rfl rfl Tryz.func82 (by kernel_rfl) rfl #[.int .i64 a0,.int .i64 (wrap64 (a3+(ji21)))] rfl (by (try simp only [List.map_toArray,List.map_cons,List.map_nil]);first|done|(simp only [hji21];rfl)|rfl|(simp only [List.length_drop,List.length_take];rfl)) ?_;(with_reducible refine (aJ.calls k a0 (wrap64 (a3+(ji21))) t133 _ A28.out).mono ?_);rintro e w' ⟨rfl,⟨nd,rfl⟩⟩;refine ⟨_,rfl,?_⟩)|((with_reducible refine gd 53 rfl ?_);refine gC (some 53) rfl Tryz.func82 (aJ.calls (w:=_) (h:=A29.out)) ?_;rintro _ ⟨nd,rfl⟩)|((with_reducible refine gd 58 rfl ?_);refine gC (some 58) rfl Tryz.func82 (aJ.calls (w:=_) (h:=A31.out)) ?_;rintro _ ⟨nd,rfl⟩)|((with_reducible refine gd 63 rfl ?_);refine gC (some 63) rfl Tryz.func112 (bP.calls (w:=_) (h:=A33.out)) ?_;rintro _ ⟨nd,rfl⟩)|((with_reducible refine gd 65 rfl ?_);refine gC (some 65) rfl Tryz.func111 (bi.calls (w:=_) (h:=A34.out)) ?_;rintro _ ⟨nd,rfl⟩)|((with_reducible refine a6 (f:=82) rfl ?_);refine eq (some 71) rfl rfl Tryz.func82 (by kernel_rfl) rfl #[.int .i64 a0,.int .i64 ji35] rfl (by (try simp only [List.map_toArray,List.map_cons,List.map_nil]);first|done|(simp only [hji35];rfl)|rfl|(simp only [List.length_drop,List.length_take];rfl)) ?_;(with_reducible refine (aJ.calls k a0 ji35 t138 _ A36.out).mono ?_);rintro e w' ⟨rfl,⟨nd,rfl⟩⟩;refine ⟨_,rfl,?_⟩)|((with_reducible refine gd 73 rfl ?_);refine gC (some 73) rfl Tryz.func111 (bi.calls (w:=_) (h:=A37.out)) ?_;rintro _ ⟨nd,rfl⟩;obtain ⟨hcz42_0,hcz42_1,hcz42_2,hfz42_0,hfz42_1,hfz42_2⟩:=cz3 BK128))
    ·
     refine bodyPost_ret (bZ rfl _ _ gb128 43 #[.int .i64 0,.int .i64 0,.int .i64 0] (0,0) _ rfl (bpA BK128) Tryz.underlying43 rfl (by kernel_rfl)) rfl ?_
     exact ⟨by first|rfl|(simp [bB,bA] <;> rfl)|(simp only [← hji21];first|rfl|(simp [bB,bA] <;> rfl))|(simp [*,bB,bA] <;> rfl),blA⟩
    ·
     refine bodyPost_ret (bZ rfl _ _ gb128 43 #[.int .i64 a3,.int .i64 t139,.int .i64 ji21] (0,0) _ rfl (bpA BK128) Tryz.underlying43 rfl (by kernel_rfl)) rfl ?_
     exact ⟨by first|rfl|(simp [bB,bA] <;> rfl)|(simp only [← hji21,← hji35];first|rfl|(simp [bB,bA] <;> rfl))|(simp [*,bB,bA] <;> rfl),blA⟩
 ·
  replace c6:=Bool.eq_false_iff.mpr c6
  subst c6
  rw [if_neg (show ¬ (false=true) by decide)] at H
  try dsimp only at H
  simp only [Option.some.injEq,Prod.mk.injEq] at H
  obtain ⟨rfl,rfl,rfl,rfl⟩:=H
  go_enter Tryz.func81,Tryz.ntmps81
  go_wp2_with (first|((with_reducible refine aN (N:=8) rfl ?_);refine bxE (cs:=#[.int .i64 0,.int .i64 0,.int .i64 0]) (t:=43) ?_;intro gb128 hg w43 hbox hb;have BK128:=aA.mk hbox;have GW128:=sA hg;have GE128:=sA hg;replace HB:=lB hb;clear hb hbox hg)|((with_reducible refine gd 15 rfl ?_);refine gC (some 15) rfl Tryz.func52 (av.calls (w:=_) (h:=A5.out)) ?_;rintro _ ⟨nd,rfl⟩;(try (rw [bh w43];generalize hq_:World.drewN w43 _=w43;replace BK128:=aA.mk (by rw [← hq_];exact (bkA BK128));replace HB:=aA.mk (by rw [← hq_];exact blA);clear hq_));obtain ⟨hcz44_0,hcz44_1,hcz44_2,hfz44_0,hfz44_1,hfz44_2⟩:=cz3 BK128))
  refine bodyPost_ret (bZ rfl _ _ gb128 43 #[.int .i64 0,.int .i64 0,.int .i64 0] (0,0) _ rfl (bpA BK128) Tryz.underlying43 rfl (by kernel_rfl)) rfl ?_
  exact cE blA
def ao.l0:Nat→List (S58)→List (S59)→Int→Option ((List (S59)))
 | 0,_,_,_=>none
 | k+1,x0,x3,x4=>if x4<(x0.length:Int) then (if 0≤x4 then ((dE.f ((eD x0 x4).f0.f0) ((eD x0 x4).f0.f1) ((eD x0 x4).f1.f0) ((eD x0 x4).f1.f1)).bind fun bt334=>(if x4<(x3.length:Int) then (ao.l0 k x0 (x3.set (x4:Int).toNat (⟨(⟨bt334.1,bt334.2.1⟩:S57),(⟨bt334.2.2.1,bt334.2.2.2⟩:S57)⟩:S59)) (wrap64 (x4+1))) else (none))) else (none)) else (some x3)
def ao.f (k:Nat) (l0:List (S58)):Option ((List (S59))):=if 0≤(l0.length:Int) then (if ((l0.length:Int):Int).toNat≤8796093022208 then (ao.l0 k l0 (List.replicate ((l0.length:Int):Int).toNat z59) 0) else (none)) else (none)
set_option maxHeartbeats 8000000 in
set_option maxRecDepth 100000 in
theorem ao.calls (k:Nat) (A0:Option Addr) (c0:Nat) (l0:List (S58)) (r:List (S59)) (w:World) (hr0:Kd.C k58 w A0 l0.length l0) (hc0:l0.length≤c0) (h:ao.f k l0=some r) :
  Calls Tryz.prog 7 #[.slice A0 l0.length c0] w fun e w'=>∃ v0_:Value,e=.returned (v0_)∧Kd.R k59 59 w' w.heap.size (fun _=>True) v0_ r∧Below w.heap.size w w':=by
 have hu58:=Tryz.underlying58
 have hu59:=Tryz.underlying59
 have HR0:=aA.mk hr0
 have HC0:=aA.mk hc0
 clear hr0 hc0
 have HB:=aA.mk (Below.refl w.heap.size w)
 have H:=h
 unfold ao.f at H
 clear h
 by_cases c2:0≤(l0.length:Int)
 rotate_left
 ·
  rw [if_neg c2] at H
  exact absurd H (by simp)
 rw [if_pos c2] at H
 have c2b0:=eq_true c2
 have c2b1:=decide_eq_true c2
 clear c2
 by_cases c3:((l0.length:Int):Int).toNat≤8796093022208
 rotate_left
 ·
  rw [if_neg c3] at H
  exact absurd H (by simp)
 rw [if_pos c3] at H
 have c3b0:=eq_true c3
 have c3b1:=decide_eq_true c3
 clear c3
 obtain ⟨y330,hy330⟩:∃ y_:List (S59),y_=(List.replicate ((l0.length:Int):Int).toNat z59):=⟨_,rfl⟩
 replace H:(ao.l0 k l0 y330 0)=some r:=rH hy330 H
 have Ny330:=aA.mk hy330
 clear hy330
 have H':=aA.mk H
 clear H
 go_enter Tryz.func7,Tryz.ntmps7
 go_wp2_with (first|((with_reducible refine aN (N:=7) rfl ?_);refine Kd.R_make k59 _ 59 rfl (N:=7) rfl 27 _ _ rfl (l0.length:Int) rfl rfl Tryz.underlying27 (.agg #[(.int .i64 0),(.int .i64 0),(.int .i64 0),(.int .i64 0)]) 32 info59 rfl (by decide) (by omega) z59 (ok:=fun _=>True) (okp:=fun _=>True) (k59_mkM _ _ _ z59 ) (fun _ hk=>hk) trivial (dA) (Nat.le_trans (Nat.mul_le_mul_right _ (dA:(l0.length:Int).toNat≤8796093022208)) (by omega)) (Below.refl _ _) (Nat.le_refl _) ?_;intro v331 w4 ho5 hb hg_ hnew_;clear hg_ hnew_;(first|rw [← Ny330.out] at ho5|(simp only [Int.reduceToNat] at ho5;rw [← Ny330.out] at ho5));have HO332:=aA.mk (Kd.R_lower ho5 (aQ blA));replace HB:=lB hb;clear hb ho5))
 go_loopg [4] k (fun kq v4 w'=>∃ (x3_1:List (S59)) (x4_1:Int),v4=.int .i64 x4_1∧aA (ao.l0 kq l0 x3_1 x4_1=some r)∧aA (kq≤k)∧aA (Kd.R k59 59 w' w.heap.size (fun _=>True) v331 x3_1)∧aA (Below w.heap.size w w'))
 case atStart=>exact ⟨(y330),(0),hB,H',⟨Nat.le_refl _⟩,⟨rA HO332⟩,⟨blA⟩⟩
 case round=>
  clear H'
  try clear c2
  try clear c2b0
  try clear c2b1
  try clear c3
  try clear c3b0
  try clear c3b1
  obtain ⟨x3_1,x4_1,rfl,HA,HK1,HO_3,HB⟩:=hrel
  cases gk with
  | zero=>exact absurd HA.out (by simp [ao.l0])
  | succ k1=>
   have H:=HA.out
   clear HA
   simp only [ao.l0] at H
   by_cases c6:x4_1<(l0.length:Int)
   ·
    rw [if_pos c6] at H
    have c6b0:=decide_eq_true c6
    clear c6
    by_cases c7:0≤x4_1
    rotate_left
    ·
     rw [if_neg c7] at H
     exact absurd H (by simp)
    rw [if_pos c7] at H
    have c7b0:=decide_eq_true c7
    clear c7
    replace H:=bS H
    obtain ⟨⟨t334,t335,t336,t337⟩,A8,H⟩:=H
    try dsimp only at H
    by_cases c9:x4_1<(x3_1.length:Int)
    rotate_left
    ·
     rw [if_neg c9] at H
     exact absurd H (by simp)
    rw [if_pos c9] at H
    have c9b0:=decide_eq_true c9
    clear c9
    obtain ⟨y338,hy338⟩:∃ y_:List (S59),y_=(x3_1.set (x4_1:Int).toNat (⟨(⟨t334,t335⟩:S57),(⟨t336,t337⟩:S57)⟩:S59)):=⟨_,rfl⟩
    replace H:(ao.l0 k1 l0 y338 (wrap64 (x4_1+1)))=some r:=rH hy338 H
    have Ny338:=aA.mk hy338
    clear hy338
    have H':=aA.mk H
    clear H
    have p333:0≤(x4_1:Int):=dA
    have q333:x4_1<(l0.length:Int):=dA
    obtain ⟨ad333,e333,hx333_0,hx333_1,hx333_2,hx333_3⟩:=at_T58 HR0.out x4_1 p333 q333
    cases e333
    replace hx333_0:=(HB.out.cell (World.block_lt_of_cell? w _ hx333_0)).trans hx333_0
    replace hx333_1:=(HB.out.cell (World.block_lt_of_cell? w _ hx333_1)).trans hx333_1
    replace hx333_2:=(HB.out.cell (World.block_lt_of_cell? w _ hx333_2)).trans hx333_2
    replace hx333_3:=(HB.out.cell (World.block_lt_of_cell? w _ hx333_3)).trans hx333_3
    replace p333:=eq_true p333
    replace q333:=eq_true q333
    go_wp2_with (first|((with_reducible refine gd 20 rfl ?_);refine gC (some 20) rfl Tryz.func31 (dE.calls (w:=_) (h:=A8.out)) ?_;intro w11 hb;replace HO_3:=aA.mk (Kd.R_below (rA HO_3) hb);replace HB:=lB hb;clear hb;have p10:0≤(x4_1:Int):=dA;have q10:(x4_1:Int)<((x3_1.length:Int):Int):=dA;obtain ⟨go10,co10,eo10,gb10,gl10,cl10,HG10⟩:=Kd.R_form HO_3.out (by omega);(first|cases eo10|(injection eo10 with ea_ en_ ec_;(first|subst ea_|(injection ea_ with ea_;subst ea_));subst ec_;clear en_));have GB10:=aA.mk gb10;have GG10:=aA.mk HG10;clear gb10 gl10 HG10;obtain ⟨ce10,hcl10,hM10,hcc10,hfr10⟩:=Kd.R_elem HO_3.out z59 (x4_1:Int) p10 q10;obtain rfl:=k59_openM hM10;have hx10_0:w11.cell? ⟨go10,(x4_1:Int).toNat*4,none⟩=some (.int .i64 ((ai x3_1 x4_1).f0.f0)):=hcc10 0 _ rfl;have hx10_1:w11.cell? ⟨go10,(x4_1:Int).toNat*4+1,none⟩=some (.int .i64 ((ai x3_1 x4_1).f0.f1)):=hcc10 1 _ rfl;have hx10_2:w11.cell? ⟨go10,(x4_1:Int).toNat*4+2,none⟩=some (.int .i64 ((ai x3_1 x4_1).f1.f0)):=hcc10 2 _ rfl;have hx10_3:w11.cell? ⟨go10,(x4_1:Int).toNat*4+3,none⟩=some (.int .i64 ((ai x3_1 x4_1).f1.f1)):=hcc10 3 _ rfl;have hf10_0:w11.frozen? ⟨go10,(x4_1:Int).toNat*4,none⟩=false:=hfr10 0;have hf10_1:w11.frozen? ⟨go10,(x4_1:Int).toNat*4+1,none⟩=false:=hfr10 1;have hf10_2:w11.frozen? ⟨go10,(x4_1:Int).toNat*4+2,none⟩=false:=hfr10 2;have hf10_3:w11.frozen? ⟨go10,(x4_1:Int).toNat*4+3,none⟩=false:=hfr10 3;clear hcl10 hcc10 hfr10 hM10;replace p10:=eq_true p10;replace q10:=eq_true q10;have HX12:=aA.mk (show Kd.R k59 59 w11 w.heap.size (fun _=>True) (.slice (some ⟨go10,0,none⟩) x3_1.length co10) x3_1 from (rA HO_3));obtain ⟨ce12,hcl12,hM12,hcc12,hfr12⟩:=Kd.R_elem HX12.out z59 (x4_1:Int) (dA) (by have h_:(x4_1:Int)<((x3_1.length:Int):Int):=dA;first|exact h_|(have e_:=(Kd.R_reads' HO_3.out).1;omega)|simpa using h_);obtain rfl:=k59_openM hM12;have HP12:=Kd.R_seg HX12.out (x4_1:Int) (dA) (by have h_:(x4_1:Int)<((x3_1.length:Int):Int):=dA;first|exact h_|(have e_:=(Kd.R_reads' HO_3.out).1;omega)|simpa using h_) (seg:=[.int .i64 t334,.int .i64 t335,.int .i64 t336,.int .i64 t337]) (j:=0) hcl12 hcc12 (show 4≤4 from by decide) (x':=(⟨(⟨t334,t335⟩:S57),(⟨t336,t337⟩:S57)⟩:S59)) (k59_mkM _ _ _ (⟨(⟨t334,t335⟩:S57),(⟨t336,t337⟩:S57)⟩:S59) ) (fun _ hk=>hk);have hx12_0:=hcc12 0 _ rfl;(try simp only [show (k59).sz=4 from rfl,Nat.mul_one,Nat.add_zero] at hx12_0);have hf12_0:=hfr12 0;(try simp only [show (k59).sz=4 from rfl,Nat.mul_one,Nat.add_zero] at hf12_0);have hx12_1:=hcc12 1 _ rfl;(try simp only [show (k59).sz=4 from rfl,Nat.mul_one,Nat.add_zero] at hx12_1);have hf12_1:=hfr12 1;(try simp only [show (k59).sz=4 from rfl,Nat.mul_one,Nat.add_zero] at hf12_1);have hx12_2:=hcc12 2 _ rfl;(try simp only [show (k59).sz=4 from rfl,Nat.mul_one,Nat.add_zero] at hx12_2);have hf12_2:=hfr12 2;(try simp only [show (k59).sz=4 from rfl,Nat.mul_one,Nat.add_zero] at hf12_2);have hx12_3:=hcc12 3 _ rfl;(try simp only [show (k59).sz=4 from rfl,Nat.mul_one,Nat.add_zero] at hx12_3);have hf12_3:=hfr12 3;(try simp only [show (k59).sz=4 from rfl,Nat.mul_one,Nat.add_zero] at hf12_3);clear hcl12 hcc12 hfr12 hM12)|((with_reducible refine dJ (t:=59) (p:=21) rfl ?_);refine cy (t:=59) (p:=21) (v:=?vo_w13) (w1:=((((w11.setCell ⟨go10,(x4_1:Int).toNat*4,none⟩ (.int .i64 t334)).setCell ⟨go10,(x4_1:Int).toNat*4+1,none⟩ (.int .i64 t335)).setCell ⟨go10,(x4_1:Int).toNat*4+2,none⟩ (.int .i64 t336)).setCell ⟨go10,(x4_1:Int).toNat*4+3,none⟩ (.int .i64 t337))) ?hg ?ho ?hn ?hr ?_;(case ho=>rfl);(case hg=>rfl);(case hn=>rfl);(case hr=>first|(go_simp;done)|(go_simp;rfl));intro w13 hw;have hg:w11.grownBy w13 (some go10):=(by rw [hw];exact HP12.2);have hp_:Kd.R k59 59 w13 w.heap.size (fun _=>True) (.slice (some ⟨go10,0,none⟩) x3_1.length co10) y338:=(by rw [hw,Ny338.out];exact HP12.1);clear HP12;replace HO_3:=aA.mk (hp_);replace HB:=aA.mk ((by rw [hw];exact cK (cK (cK (cK (HB.out) GB10.out) GB10.out) GB10.out) GB10.out:Below w.heap.size w w13));clear hg hw hp_))
    go_roundg k1
    case measure=>have:=HK1.out;omega
    case rel=>exact ⟨(y338),(wrap64 (x4_1+1)),hB,H',⟨by have:=HK1.out;omega⟩,⟨rA HO_3⟩,⟨blA⟩⟩
   ·
    rw [if_neg c6] at H
    have c6b0:=decide_eq_false c6
    clear c6
    obtain rfl:=Option.some.inj H
    go_wp2
    go_ret
    exact ⟨_,eW,rA HO_3,blA⟩
def ct.f (k:Nat) (a0_0 a0_1 a0_2 a0_3:Int):Option (Bool):=(bb.f k 1000 (([a0_0,a0_1,a0_2,a0_3]:List Int))).bind fun t345=>(if t345=true then ((bj.f a0_0 a0_1 a0_2 a0_3).bind fun t346=>(some (t346 != 0))) else (some false))
set_option maxHeartbeats 8000000 in
set_option maxRecDepth 100000 in
theorem ct.calls (k:Nat) (a0_0 a0_1 a0_2 a0_3:Int) (r:Bool) (w:World) (h:ct.f k a0_0 a0_1 a0_2 a0_3=some r) :
  Calls Tryz.prog 121 #[.agg #[.int .i64 a0_0,.int .i64 a0_1,.int .i64 a0_2,.int .i64 a0_3]] w fun e w'=>e=.returned (.bool r)∧Below w.heap.size w w':=by
 have hu59:=Tryz.underlying59
 have HB:=aA.mk (Below.refl w.heap.size w)
 have H:=h
 unfold ct.f at H
 clear h
 obtain ⟨y342,hy342⟩:∃ y_:List Int,y_=(([a0_0,a0_1,a0_2,a0_3]:List Int)):=⟨_,rfl⟩
 replace H:((bb.f k 1000 y342).bind fun t345=>(if t345=true then ((bj.f a0_0 a0_1 a0_2 a0_3).bind fun t346=>(some (t346 != 0))) else (some false)))=some r:=rH hy342 H
 have Ny342:=aA.mk hy342
 clear hy342
 replace H:=bS H
 obtain ⟨t345,A2,H⟩:=H
 try dsimp only at H
 by_cases c3:t345=true
 ·
  subst c3
  rw [if_pos rfl] at H
  try dsimp only at H
  replace H:=bS H
  obtain ⟨t346,A4,H⟩:=H
  try dsimp only at H
  obtain rfl:=Option.some.inj H
  go_enter Tryz.func121,Tryz.ntmps121
  go_wp2_with (first|((with_reducible refine aN (N:=1) rfl ?_);refine bxE (cs:=#[.int .i64 a0_0,.int .i64 a0_1,.int .i64 a0_2,.int .i64 a0_3]) (t:=59) ?_;intro gb341 hg w5 hbox hb;have BK341:=aA.mk hbox;have GW341:=sA hg;have GE341:=sA hg;replace HB:=lB hb;clear hb hbox hg;obtain ⟨hcz6_0,hcz6_1,hcz6_2,hcz6_3,hfz6_0,hfz6_1,hfz6_2,hfz6_3⟩:=cz4 BK341)|((with_reducible refine aN (N:=15) rfl ?_);refine Kd.R_lit (Kd.int .i64) _ 2 ?hg (N:=15) ?hd (xs:=([a0_0,a0_1,a0_2,a0_3]:List Int)) (inner:=[.int .i64 a0_0,.int .i64 a0_1,.int .i64 a0_2,.int .i64 a0_3]) (ok:=fun _=>True) (okp:=fun _=>True) ?hr ?hp (fun _ hk=>hk) trivial (Below.refl _ _) (Nat.le_refl _) (by simp) ?_;(case hd=>rfl);(case hg=>rfl);(case hr=>first|(go_simp;done)|(go_simp;rfl));(case hp=>exact (bD.one (show Kd.M (Kd.int .i64) _ _ _ a0_0 [.int .i64 a0_0] from rfl) (bD.one (show Kd.M (Kd.int .i64) _ _ _ a0_1 [.int .i64 a0_1] from rfl) (bD.one (show Kd.M (Kd.int .i64) _ _ _ a0_2 [.int .i64 a0_2] from rfl) (bD.one (show Kd.M (Kd.int .i64) _ _ _ a0_3 [.int .i64 a0_3] from rfl) (bD.none _ _))))));intro v343 w7 ho8 hb hg_ hnew_;clear hg_ hnew_;(first|rw [← Ny342.out] at ho8|(simp only [Int.reduceToNat] at ho8;rw [← Ny342.out] at ho8));have HO344:=aA.mk (Kd.R_lower ho8 (aQ blA));replace BK341:=kB BK341 hb;replace HB:=lB hb;clear hb ho8;obtain ⟨Ao9,co9,eo9⟩:=Kd.R_slice HO344.out;subst eo9)|((with_reducible refine gd 16 rfl ?_);refine gC (some 16) rfl Tryz.func133 (bb.calls (w:=_) (hr1:=cR (Kd.R_reads' HO344.out).2.2) (hc1:=(Kd.R_reads' HO344.out).2.1) (h:=A2.out)) ?_;rintro _ ⟨nd,rfl⟩;obtain ⟨hcz10_0,hcz10_1,hcz10_2,hcz10_3,hfz10_0,hfz10_1,hfz10_2,hfz10_3⟩:=cz4 BK341)|(go_at_call 88;(with_reducible refine (bj.calls a0_0 a0_1 a0_2 a0_3 t346 _ A4.out).mono ?_);rintro e w11 ⟨rfl,hb⟩;replace HO344:=aA.mk (Kd.R_below (rA HO344) hb);replace BK341:=kB BK341 hb;replace HB:=lB hb;clear hb))
  go_ret
  exact cE blA
 ·
  replace c3:=Bool.eq_false_iff.mpr c3
  subst c3
  rw [if_neg (show ¬ (false=true) by decide)] at H
  try dsimp only at H
  obtain rfl:=Option.some.inj H
  go_enter Tryz.func121,Tryz.ntmps121
  go_wp2_with (first|((with_reducible refine aN (N:=1) rfl ?_);refine bxE (cs:=#[.int .i64 a0_0,.int .i64 a0_1,.int .i64 a0_2,.int .i64 a0_3]) (t:=59) ?_;intro gb341 hg w12 hbox hb;have BK341:=aA.mk hbox;have GW341:=sA hg;have GE341:=sA hg;replace HB:=lB hb;clear hb hbox hg;obtain ⟨hcz13_0,hcz13_1,hcz13_2,hcz13_3,hfz13_0,hfz13_1,hfz13_2,hfz13_3⟩:=cz4 BK341)|((with_reducible refine aN (N:=15) rfl ?_);refine Kd.R_lit (Kd.int .i64) _ 2 ?hg (N:=15) ?hd (xs:=([a0_0,a0_1,a0_2,a0_3]:List Int)) (inner:=[.int .i64 a0_0,.int .i64 a0_1,.int .i64 a0_2,.int .i64 a0_3]) (ok:=fun _=>True) (okp:=fun _=>True) ?hr ?hp (fun _ hk=>hk) trivial (Below.refl _ _) (Nat.le_refl _) (by simp) ?_;(case hd=>rfl);(case hg=>rfl);(case hr=>first|(go_simp;done)|(go_simp;rfl));(case hp=>exact (bD.one (show Kd.M (Kd.int .i64) _ _ _ a0_0 [.int .i64 a0_0] from rfl) (bD.one (show Kd.M (Kd.int .i64) _ _ _ a0_1 [.int .i64 a0_1] from rfl) (bD.one (show Kd.M (Kd.int .i64) _ _ _ a0_2 [.int .i64 a0_2] from rfl) (bD.one (show Kd.M (Kd.int .i64) _ _ _ a0_3 [.int .i64 a0_3] from rfl) (bD.none _ _))))));intro v343 w14 ho15 hb hg_ hnew_;clear hg_ hnew_;(first|rw [← Ny342.out] at ho15|(simp only [Int.reduceToNat] at ho15;rw [← Ny342.out] at ho15));have HO344:=aA.mk (Kd.R_lower ho15 (aQ blA));replace BK341:=kB BK341 hb;replace HB:=lB hb;clear hb ho15;obtain ⟨Ao16,co16,eo16⟩:=Kd.R_slice HO344.out;subst eo16)|((with_reducible refine gd 16 rfl ?_);refine gC (some 16) rfl Tryz.func133 (bb.calls (w:=_) (hr1:=cR (Kd.R_reads' HO344.out).2.2) (hc1:=(Kd.R_reads' HO344.out).2.1) (h:=A2.out)) ?_;rintro _ ⟨nd,rfl⟩))
  go_ret
  exact cE blA
def cJ.f (k:Nat) (a0 a1_0 a1_1 a1_2:Int):Option (Int):=(ag.f k a0 (wrap64 (6 - a1_2))).bind fun t355=>(some (wrap64 (a1_1*t355)))
set_option maxHeartbeats 8000000 in
set_option maxRecDepth 100000 in
theorem cJ.calls (k:Nat) (a0 a1_0 a1_1 a1_2 r:Int) (w:World) (h:cJ.f k a0 a1_0 a1_1 a1_2=some r) :
  Calls Tryz.prog 86 #[.int .i64 a0,.agg #[.int .i64 a1_0,.int .i64 a1_1,.int .i64 a1_2]] w fun e w'=>e=.returned (.int .i64 r)∧Below w.heap.size w w':=by
 have hu43:=Tryz.underlying43
 have HB:=aA.mk (Below.refl w.heap.size w)
 have H:=h
 unfold cJ.f at H
 clear h
 replace H:=bS H
 obtain ⟨t355,A3,H⟩:=H
 try dsimp only at H
 obtain rfl:=Option.some.inj H
 go_enter Tryz.func86,Tryz.ntmps86
 go_wp2_with (first|((with_reducible refine aN (N:=3) rfl ?_);refine bxE (cs:=#[.int .i64 a1_0,.int .i64 a1_1,.int .i64 a1_2]) (t:=43) ?_;intro gb354 hg w4 hbox hb;have BK354:=aA.mk hbox;have GW354:=sA hg;have GE354:=sA hg;replace HB:=lB hb;clear hb hbox hg;obtain ⟨hcz5_0,hcz5_1,hcz5_2,hfz5_0,hfz5_1,hfz5_2⟩:=cz3 BK354)|(go_at_call 84;(with_reducible refine (ag.calls k a0 (wrap64 (6 - a1_2)) t355 _ A3.out).mono ?_);rintro e w' ⟨rfl,⟨nd,rfl⟩⟩;(try exact dd)))
 repeat (go_quiet (first|((with_reducible refine aN (N:=3) rfl ?_);refine bxE (cs:=#[.int .i64 a1_0,.int .i64 a1_1,.int .i64 a1_2]) (t:=43) ?_;intro gb354 hg w4 hbox hb;have BK354:=aA.mk hbox;have GW354:=sA hg;have GE354:=sA hg;replace HB:=lB hb;clear hb hbox hg;obtain ⟨hcz5_0,hcz5_1,hcz5_2,hfz5_0,hfz5_1,hfz5_2⟩:=cz3 BK354)|(go_at_call 84;(with_reducible refine (ag.calls k a0 (wrap64 (6 - a1_2)) t355 _ A3.out).mono ?_);rintro e w' ⟨rfl,⟨nd,rfl⟩⟩;(try exact dd)));try go_wp2_with (first|((with_reducible refine aN (N:=3) rfl ?_);refine bxE (cs:=#[.int .i64 a1_0,.int .i64 a1_1,.int .i64 a1_2]) (t:=43) ?_;intro gb354 hg w4 hbox hb;have BK354:=aA.mk hbox;have GW354:=sA hg;have GE354:=sA hg;replace HB:=lB hb;clear hb hbox hg;obtain ⟨hcz5_0,hcz5_1,hcz5_2,hfz5_0,hfz5_1,hfz5_2⟩:=cz3 BK354)|(go_at_call 84;(with_reducible refine (ag.calls k a0 (wrap64 (6 - a1_2)) t355 _ A3.out).mono ?_);rintro e w' ⟨rfl,⟨nd,rfl⟩⟩;(try exact dd))))
 go_ret
 exact cE blA
def cN.f (k:Nat) (a0 a1 a2:Int):Option (Int × Int × Int × Bool):=(cM.f a1).bind fun t365=>(if t365=true then ((ag.f k a0 (wrap64 (a1+6))).bind fun t366=>((cf.f a2 t366).bind fun t367=>((aa.f k a0 t367).bind fun t368=>((ag.f k a0 (wrap64 (6 - (mx (wrap64 (6 - t368)) 0)))).bind fun t369=>(if t369=0 then (none) else (some (a1,wrap64 (Int.tdiv t367 t369),mx (wrap64 (6 - t368)) 0,true))))))) else (some (0,0,0,false)))
set_option maxHeartbeats 8000000 in
set_option maxRecDepth 100000 in
theorem cN.calls (k:Nat) (a0 a1 a2 r1 r2 r3:Int) (r4:Bool) (w:World) (h:cN.f k a0 a1 a2=some (r1,r2,r3,r4)) :
  Calls Tryz.prog 117 #[.int .i64 a0,.int .i64 a1,.int .i64 a2] w fun e w'=>e=.returned (.tuple #[.agg #[.int .i64 r1,.int .i64 r2,.int .i64 r3],.bool r4])∧Below w.heap.size w w':=by
 have hu43:=Tryz.underlying43
 have HB:=aA.mk (Below.refl w.heap.size w)
 have H:=h
 unfold cN.f at H
 clear h
 replace H:=bS H
 obtain ⟨t365,A4,H⟩:=H
 try dsimp only at H
 by_cases c5:t365=true
 focus
  subst c5
  rw [if_pos rfl] at H
  try dsimp only at H
  replace H:=bS H
  obtain ⟨t366,A6,H⟩:=H
  try dsimp only at H
  replace H:=bS H
  obtain ⟨t367,A7,H⟩:=H
  try dsimp only at H
  replace H:=bS H
  obtain ⟨t368,A8,H⟩:=H
  try dsimp only at H
  obtain ⟨ji9,hji9⟩:∃ j_:Int,(mx (wrap64 (6 - t368)) 0)=j_:=⟨_,rfl⟩
  replace H:((ag.f k a0 (wrap64 (6 - (ji9)))).bind fun t369=>(if t369=0 then (none) else (some (a1,wrap64 (Int.tdiv t367 t369),ji9,true))))=some (r1,r2,r3,r4):=by first|(rw [hji9] at H;exact H)|(simp only [hji9] at H ⊢;exact H)
  (try rw [hji9] at A4)
  (try rw [hji9] at A6)
  (try rw [hji9] at A7)
  (try rw [hji9] at A8)
  (try (have hji9l:0≤ji9:=by (rw [← hji9];unfold mx;(repeat' split) <;> omega)))
  (try (have hji9m:0≤ji9:=by omega))
  have hji9_:(if (wrap64 (6 - t368))<0 then 0 else (wrap64 (6 - t368)))=ji9:=hji9
  replace H:=bS H
  obtain ⟨t369,A10,H⟩:=H
  try dsimp only at H
  by_cases c11:t369=0
  ·
   rw [if_pos c11] at H
   exact absurd H (by simp)
  rw [if_neg c11] at H
  have c11b0:(t369 == 0)=false:=beq_eq_false_iff_ne.mpr c11
  have c11b1:(t369 != 0)=true:=bne_iff_ne.mpr c11
  simp only [Option.some.injEq,Prod.mk.injEq] at H
  obtain ⟨rfl,rfl,rfl,rfl⟩:=H
 rotate_left
 focus
  replace c5:=Bool.eq_false_iff.mpr c5
  subst c5
  rw [if_neg (show ¬ (false=true) by decide)] at H
  try dsimp only at H
  simp only [Option.some.injEq,Prod.mk.injEq] at H
  obtain ⟨rfl,rfl,rfl,rfl⟩:=H
 rotate_left
 all_goals
  go_enter Tryz.func117,Tryz.ntmps117
  go_wp2_with (first|((with_reducible refine aN (N:=6) rfl ?_);refine bxE (cs:=#[.int .i64 0,.int .i64 0,.int .i64 0]) (t:=43) ?_;intro gb364 hg w12 hbox hb;have BK364:=aA.mk hbox;have GW364:=sA hg;have GE364:=sA hg;replace HB:=lB hb;clear hb hbox hg)|((with_reducible refine gd 10 rfl ?_);refine gC (some 10) rfl Tryz.func83 (cM.calls (w:=_) (h:=A4.out)) ?_;rintro _ ⟨nd,rfl⟩;(try (rw [bh w12];generalize hq_:World.drewN w12 _=w12;replace BK364:=aA.mk (by rw [← hq_];exact (bkA BK364));replace HB:=aA.mk (by rw [← hq_];exact blA);clear hq_));obtain ⟨hcz15_0,hcz15_1,hcz15_2,hfz15_0,hfz15_1,hfz15_2⟩:=cz3 BK364)|((with_reducible refine gd 17 rfl ?_);refine gC (some 17) rfl Tryz.func84 (ag.calls (w:=_) (h:=A6.out)) ?_;rintro _ ⟨nd,rfl⟩;(try (rw [bh w12];generalize hq_:World.drewN w12 _=w12;replace BK364:=aA.mk (by rw [← hq_];exact (bkA BK364));replace HB:=aA.mk (by rw [← hq_];exact blA);clear hq_)))|((with_reducible refine gd 18 rfl ?_);refine gC (some 18) rfl Tryz.func130 (cf.calls (w:=_) (h:=A7.out)) ?_;rintro _ ⟨nd,rfl⟩;(try (rw [bh w12];generalize hq_:World.drewN w12 _=w12;replace BK364:=aA.mk (by rw [← hq_];exact (bkA BK364));replace HB:=aA.mk (by rw [← hq_];exact blA);clear hq_)))|((with_reducible refine gd 21 rfl ?_);refine gC (some 21) rfl Tryz.func87 (aa.calls (w:=_) (h:=A8.out)) ?_;rintro _ ⟨nd,rfl⟩;(try (rw [bh w12];generalize hq_:World.drewN w12 _=w12;replace BK364:=aA.mk (by rw [← hq_];exact (bkA BK364));replace HB:=aA.mk (by rw [← hq_];exact blA);clear hq_)))|((with_reducible refine a6 (f:=84) rfl ?_);refine eq (some 29) rfl rfl Tryz.func84 (by kernel_rfl) rfl #[.int .i64 a0,.int .i64 (wrap64 (6 - (ji9)))] rfl (by (try simp only [List.map_toArray,List.map_cons,List.map_nil]);first|done|(simp only [hji9];rfl)|rfl|(simp only [List.length_drop,List.length_take];rfl)) ?_;(with_reducible refine (ag.calls k a0 (wrap64 (6 - (ji9))) t369 _ A10.out).mono ?_);rintro e w' ⟨rfl,⟨nd,rfl⟩⟩;refine ⟨_,rfl,?_⟩;(try (rw [bh w12];generalize hq_:World.drewN w12 _=w12;replace BK364:=aA.mk (by rw [← hq_];exact (bkA BK364));replace HB:=aA.mk (by rw [← hq_];exact blA);clear hq_));obtain ⟨hcz13_0,hcz13_1,hcz13_2,hfz13_0,hfz13_1,hfz13_2⟩:=cz3 BK364))
 ·
  refine bodyPost_ret (bZ rfl _ _ gb364 43 #[.int .i64 a1,.int .i64 (wrap64 (Int.tdiv t367 t369)),.int .i64 ji9] (0,0) _ rfl (bpA BK364) Tryz.underlying43 rfl (by kernel_rfl)) rfl ?_
  exact ⟨by first|rfl|(simp [bB,bA] <;> rfl)|(simp only [← hji9];first|rfl|(simp [bB,bA] <;> rfl))|(simp [*,bB,bA] <;> rfl),blA⟩
 ·
  refine bodyPost_ret (bZ rfl _ _ gb364 43 #[.int .i64 0,.int .i64 0,.int .i64 0] (0,0) _ rfl (bpA BK364) Tryz.underlying43 rfl (by kernel_rfl)) rfl ?_
  exact cE blA
end Go.Proofs.YtnhiehpbkimaeaaGreat.PAll
