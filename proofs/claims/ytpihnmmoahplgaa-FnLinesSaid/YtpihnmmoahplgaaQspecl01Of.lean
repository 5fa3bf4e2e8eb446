import Derived.Test.YtpihnmmoahplgaaQx
import Derived.Test.YtpihnmmoahplgaaQspecl01End
import Derived.Test.YtpihnmmoahplgaaQspecl05Code
namespace Go.Proofs.Ytpihnmmoahplgaa.PAll
open Go.RowKit Go.Proofs.YtpihnmmoahplgaaW.PrintWords Go.Proofs.YtpihnmmoahplgaaW.PrintLast Go.Proofs.YtpihnmmoahplgaaW.PrintMore
attribute [local go_sem] Go.Proofs.Ytpihnmmoahplgaa.Aux.setCell_drewN Go.Proofs.Ytpihnmmoahplgaa.Aux.isSome_setCell Go.Proofs.Ytpihnmmoahplgaa.Aux.max_eight bq bo cG cF ba bZ bp bm
set_option linter.unusedVariables false
set_option linter.unusedSimpArgs false
def cM.f (k:Nat) (a0 a1 a2 a3:Int):Option (Int × Int × Int × Bool):=(bJ.f a3 (-6) 6).bind fun t129=>(if t129=true then (if a1=0 then (some (a3,0,0,true)) else ((a8.f k a0 a1).bind fun t131=>((a8.f k a0 a2).bind fun t132=>(if a3≤(wrap64 (t131 - t132)) then (some (a3,0,0,true)) else (if (mx (wrap64 (t132 - t131)) 0)>6 then (some (0,0,0,false)) else ((aa.f k a0 (wrap64 (a3+(mx (wrap64 (t132 - t131)) 0)))).bind fun t133=>((aa.f k a0 t131).bind fun t134=>(if t134=0 then (none) else ((aa.f k a0 t132).bind fun t135=>(if t135=0 then (none) else ((bc.f k (wrap64 (Int.tdiv a2 t135)) t133).bind fun t136=>((cC.f (wrap64 (Int.tdiv a1 t134)) t136 t133).bind fun t137=>((aa.f k a0 (mx (wrap64 (t131 - t132)) 0)).bind fun t138=>((cC.f t137 t138 t133).bind fun t139=>(some (a3,t139,mx (wrap64 (t132 - t131)) 0,true)))))))))))))))) else (some (0,0,0,false)))
set_option maxHeartbeats 8000000 in
set_option maxRecDepth 100000 in
theorem cM.calls (k:Nat) (a0 a1 a2 a3 r1 r2 r3:Int) (r4:Bool) (w:World) (h:cM.f k a0 a1 a2 a3=some (r1,r2,r3,r4)) :
  Calls Try.prog 30 #[.int .i64 a0,.int .i64 a1,.int .i64 a2,.int .i64 a3] w fun e w'=>e=.returned (.tuple #[.agg #[.int .i64 r1,.int .i64 r2,.int .i64 r3],.bool r4])∧Below w.heap.size w w':=by
 have hu25:=Try.underlying25
 have HB:=aA.mk (Below.refl w.heap.size w)
 have H:=h
 unfold cM.f at H
 clear h
 replace H:=bS H
 obtain ⟨t129,A5,H⟩:=H
 try dsimp only at H
 by_cases c6:t129=true
 ·
  subst c6
  rw [if_pos rfl] at H
  try dsimp only at H
  by_cases c7:a1=0
  ·
   rw [if_pos c7] at H
   have c7b0:(a1 == 0)=true:=beq_iff_eq.mpr c7
   have c7b1:(a1 != 0)=false:=bne_eq_false_iff_eq.mpr c7
   clear c7
   simp only [Option.some.injEq,Prod.mk.injEq] at H
   obtain ⟨rfl,rfl,rfl,rfl⟩:=H
   go_enter Try.func30,Try.ntmps30
   go_wp2_with (first|((with_reducible refine aH (N:=8) rfl ?_);refine bxE (cs:=#[.int .i64 0,.int .i64 0,.int .i64 0]) (t:=25) ?_;intro gb128 hg w8 hbox hb;have BK128:=aA.mk hbox;have GW128:=sA hg;have GE128:=sA hg;replace HB:=lB hb;clear hb hbox hg)|((with_reducible refine gd 15 rfl ?_);refine gC (some 15) rfl Try.func44 (bJ.calls (w:=_) (h:=A5.out)) ?_;rintro _ ⟨nd,rfl⟩;(try (rw [cB w8];generalize hq_:World.drewN w8 _=w8;replace BK128:=aA.mk (by rw [← hq_];exact (bkA BK128));replace HB:=aA.mk (by rw [← hq_];exact blA);clear hq_)))|((with_reducible refine aH (N:=10) rfl ?_);refine bxE (cs:=#[.int .i64 0,.int .i64 0,.int .i64 0]) (t:=25) ?_;intro gb130 hg w9 hbox hb;have BK130:=aA.mk hbox;have GW130:=sA hg;have GE130:=sA hg;have NB128_130:=nA hg BK128;have NB130_128:=nB hg BK128;have LT128_130:=nL hg BK128;replace BK128:=kB BK128 hb;replace HB:=lB hb;clear hb hbox hg;have hnb10:=LT128_130.out;obtain ⟨hcz11_0,hcz11_1,hcz11_2,hfz11_0,hfz11_1,hfz11_2⟩:=cz3 BK130;obtain ⟨hcz12_0,hcz12_1,hcz12_2,hfz12_0,hfz12_1,hfz12_2⟩:=cz3 BK128))
   refine bodyPost_ret (bC rfl _ _ gb128 25 #[.int .i64 a3,.int .i64 0,.int .i64 0] (0,0) _ rfl (bpA BK128) Try.underlying25 rfl (by kernel_rfl)) rfl ?_
   exact bU blA
  ·
   rw [if_neg c7] at H
   have c7b0:(a1 == 0)=false:=beq_eq_false_iff_ne.mpr c7
   have c7b1:(a1 != 0)=true:=bne_iff_ne.mpr c7
   replace H:=bS H
   obtain ⟨t131,A13,H⟩:=H
   try dsimp only at H
   replace H:=bS H
   obtain ⟨t132,A14,H⟩:=H
   try dsimp only at H
   by_cases c15:a3≤(wrap64 (t131 - t132))
   ·
    rw [if_pos c15] at H
    have c15b0:=decide_eq_true c15
    clear c15
    simp only [Option.some.injEq,Prod.mk.injEq] at H
    obtain ⟨rfl,rfl,rfl,rfl⟩:=H
    go_enter Try.func30,Try.ntmps30
    go_wp2_with (first|((with_reducible refine aH (N:=8) rfl ?_);refine bxE (cs:=#[.int .i64 0,.int .i64 0,.int .i64 0]) (t:=25) ?_;intro gb128 hg w16 hbox hb;have BK128:=aA.mk hbox;have GW128:=sA hg;have GE128:=sA hg;replace HB:=lB hb;clear hb hbox hg)|((with_reducible refine gd 15 rfl ?_);refine gC (some 15) rfl Try.func44 (bJ.calls (w:=_) (h:=A5.out)) ?_;rintro _ ⟨nd,rfl⟩;(try (rw [cB w16];generalize hq_:World.drewN w16 _=w16;replace BK128:=aA.mk (by rw [← hq_];exact (bkA BK128));replace HB:=aA.mk (by rw [← hq_];exact blA);clear hq_)))|((with_reducible refine aH (N:=10) rfl ?_);refine bxE (cs:=#[.int .i64 0,.int .i64 0,.int .i64 0]) (t:=25) ?_;intro gb130 hg w17 hbox hb;have BK130:=aA.mk hbox;have GW130:=sA hg;have GE130:=sA hg;have NB128_130:=nA hg BK128;have NB130_128:=nB hg BK128;have LT128_130:=nL hg BK128;replace BK128:=kB BK128 hb;replace HB:=lB hb;clear hb hbox hg;have hnb18:=LT128_130.out;obtain ⟨hcz19_0,hcz19_1,hcz19_2,hfz19_0,hfz19_1,hfz19_2⟩:=cz3 BK130)|((with_reducible refine gd 25 rfl ?_);refine gC (some 25) rfl Try.func56 (a8.calls (w:=_) (h:=A13.out)) ?_;rintro _ ⟨nd,rfl⟩)|((with_reducible refine gd 28 rfl ?_);refine gC (some 28) rfl Try.func56 (a8.calls (w:=_) (h:=A14.out)) ?_;rintro _ ⟨nd,rfl⟩;obtain ⟨hcz20_0,hcz20_1,hcz20_2,hfz20_0,hfz20_1,hfz20_2⟩:=cz3 BK128))
    refine bodyPost_ret (bC rfl _ _ gb128 25 #[.int .i64 a3,.int .i64 0,.int .i64 0] (0,0) _ rfl (bpA BK128) Try.underlying25 rfl (by kernel_rfl)) rfl ?_
    exact bU blA
   ·
    rw [if_neg c15] at H
    have c15b0:=decide_eq_false c15
    clear c15
    obtain ⟨ji21,hji21⟩:∃ j_:Int,(mx (wrap64 (t132 - t131)) 0)=j_:=⟨_,rfl⟩
    replace H:(if (ji21)>6 then (some (0,0,0,false)) else ((aa.f k a0 (wrap64 (a3+(ji21)))).bind fun t133=>((aa.f k a0 t131).bind fun t134=>(if t134=0 then (none) else ((aa.f k a0 t132).bind fun t135=>(if t135=0 then (none) else ((bc.f k (wrap64 (Int.tdiv a2 t135)) t133).bind fun t136=>((cC.f (wrap64 (Int.tdiv a1 t134)) t136 t133).bind fun t137=>((aa.f k a0 (mx (wrap64 (t131 - t132)) 0)).bind fun t138=>((cC.f t137 t138 t133).bind fun t139=>(some (a3,t139,ji21,true))))))))))))=some (r1,r2,r3,r4):=by first|(rw [hji21] at H;exact H)|(simp only [hji21] at H ⊢;exact H)
    (try rw [hji21] at A5)
    (try rw [hji21] at A13)
    (try rw [hji21] at A14)
    (try (have hji21l:0≤ji21:=by (rw [← hji21];unfold mx;(repeat' split) <;> omega)))
    (try (have hji21m:0≤ji21:=by omega))
    have hji21_:(if (wrap64 (t132 - t131))<0 then 0 else (wrap64 (t132 - t131)))=ji21:=hji21
    by_cases c22:(ji21)>6
    focus
     rw [if_pos c22] at H
     have c22b0:decide (6<(ji21))=true:=decide_eq_true c22
     clear c22
     simp only [Option.some.injEq,Prod.mk.injEq] at H
     obtain ⟨rfl,rfl,rfl,rfl⟩:=H
    rotate_left
    focus
     rw [if_neg c22] at H
     have c22b0:decide (6<(ji21))=false:=decide_eq_false c22
     clear c22
     replace H:=bS H
     obtain ⟨t133,A28,H⟩:=H
     try dsimp only at H
     replace H:=bS H
     obtain ⟨t134,A29,H⟩:=H
     try dsimp only at H
     by_cases c30:t134=0
     ·
      rw [if_pos c30] at H
      exact absurd H (by simp)
     rw [if_neg c30] at H
     have c30b0:(t134 == 0)=false:=beq_eq_false_iff_ne.mpr c30
     have c30b1:(t134 != 0)=true:=bne_iff_ne.mpr c30
     replace H:=bS H
     obtain ⟨t135,A31,H⟩:=H
     try dsimp only at H
     by_cases c32:t135=0
     ·
      rw [if_pos c32] at H
      exact absurd H (by simp)
     rw [if_neg c32] at H
     have c32b0:(t135 == 0)=false:=beq_eq_false_iff_ne.mpr c32
     have c32b1:(t135 != 0)=true:=bne_iff_ne.mpr c32
     replace H:=bS H
     obtain ⟨t136,A33,H⟩:=H
     try dsimp only at H
     replace H:=bS H
     obtain ⟨t137,A34,H⟩:=H
     try dsimp only at H
     obtain ⟨ji35,hji35⟩:∃ j_:Int,(mx (wrap64 (t131 - t132)) 0)=j_:=⟨_,rfl⟩
     replace H:((aa.f k a0 (ji35)).bind fun t138=>((cC.f t137 t138 t133).bind fun t139=>(some (a3,t139,ji21,true))))=some (r1,r2,r3,r4):=by first|(rw [hji35] at H;exact H)|(simp only [hji35] at H ⊢;exact H)
     (try rw [hji35] at A5)
     (try rw [hji35] at A13)
     (try rw [hji35] at A14)
     (try rw [hji35] at A28)
     (try rw [hji35] at A29)
     (try rw [hji35] at A31)
     (try rw [hji35] at A33)
     (try rw [hji35] at A34)
     (try (have hji35l:0≤ji35:=by (rw [← hji35];unfold mx;(repeat' split) <;> omega)))
     (try (have hji35m:0≤ji35:=by omega))
     have hji35_:(if (wrap64 (t131 - t132))<0 then 0 else (wrap64 (t131 - t132)))=ji35:=hji35
     replace H:=bS H
     obtain ⟨t138,A36,H⟩:=H
     try dsimp only at H
     replace H:=bS H
     obtain ⟨t139,A37,H⟩:=H
     try dsimp only at H
     simp only [Option.some.injEq,Prod.mk.injEq] at H
     obtain ⟨rfl,rfl,rfl,rfl⟩:=H
    rotate_left
    all_goals
     go_enter Try.func30,Try.ntmps30
     go_wp2_with (first|((with_reducible refine aH (N:=8) rfl ?_);refine bxE (cs:=#[.int .i64 0,.int .i64 0,.int .i64 0]) (t:=25) ?_;intro gb128 hg w23 hbox hb;have BK128:=aA.mk hbox;have GW128:=sA hg;have GE128:=sA hg;replace HB:=lB hb;clear hb hbox hg)|((with_reducible refine gd 15 rfl ?_);refine gC (some 15) rfl Try.func44 (bJ.calls (w:=_) (h:=A5.out)) ?_;rintro _ ⟨nd,rfl⟩;(try (rw [cB w23];generalize hq_:World.drewN w23 _=w23;replace BK128:=aA.mk (by rw [← hq_];exact (bkA BK128));replace HB:=aA.mk (by rw [← hq_];exact blA);clear hq_)))|((with_reducible refine aH (N:=10) rfl ?_);refine bxE (cs:=#[.int .i64 0,.int .i64 0,.int .i64 0]) (t:=25) ?_;intro gb130 hg w24 hbox hb;have BK130:=aA.mk hbox;have GW130:=sA hg;have GE130:=sA hg;have NB128_130:=nA hg BK128;have NB130_128:=nB hg BK128;have LT128_130:=nL hg BK128;replace BK128:=kB BK128 hb;replace HB:=lB hb;clear hb hbox hg;have hnb25:=LT128_130.out;obtain ⟨hcz26_0,hcz26_1,hcz26_2,hfz26_0,hfz26_1,hfz26_2⟩:=cz3 BK130)|((with_reducible refine gd 25 rfl ?_);refine gC (some 25) rfl Try.func56 (a8.calls (w:=_) (h:=A13.out)) ?_;rintro _ ⟨nd,rfl⟩)|((with_reducible refine gd 28 rfl ?_);refine gC (some 28) rfl Try.func56 (a8.calls (w:=_) (h:=A14.out)) ?_;rintro _ ⟨nd,rfl⟩;obtain ⟨hcz27_0,hcz27_1,hcz27_2,hfz27_0,hfz27_1,hfz27_2⟩:=cz3 BK128)|((with_reducible refine bK (f:=69) rfl ?_);refine goesL_ (some 49) rfl rfl Try.func69 (by kernel_rfl) rfl #[.int .i64 a0,.int .i64 (wrap64 (a3+(ji21)))] rfl (by (try simp only [List.map_toArray,List.map_cons,List.map_nil]);first|done|(simp only [hji21];rfl)|rfl|(simp only [List.length_drop,List.length_take];rfl)) ?_;(with_reducible refine (aa.calls k a0 (wrap64 (a3+(ji21))) t133 _ A28.out).mono ?_);rintro e w' ⟨rfl,⟨nd,rfl⟩⟩;refine ⟨_,rfl,?_⟩)|((with_reducible refine gd 53 rfl ?_);refine gC (some 53) rfl Try.func69 (aa.calls (w:=_) (h:=A29.out)) ?_;rintro _ ⟨nd,rfl⟩)|((with_reducible refine gd 58 rfl ?_);refine gC (some 58) rfl Try.func69 (aa.calls (w:=_) (h:=A31.out)) ?_;rintro _ ⟨nd,rfl⟩)|((with_reducible refine gd 63 rfl ?_);refine gC (some 63) rfl Try.func71 (bc.calls (w:=_) (h:=A33.out)) ?_;rintro _ ⟨nd,rfl⟩)|((with_reducible refine gd 65 rfl ?_);refine gC (some 65) rfl Try.func70 (cC.calls (w:=_) (h:=A34.out)) ?_;rintro _ ⟨nd,rfl⟩)|((with_reducible refine bK (f:=69) rfl ?_);refine goesL_ (some 71) rfl rfl Try.func69 (by kernel_rfl) rfl #[.int .i64 a0,.int .i64 ji35] rfl (by (try simp only [List.map_toArray,List.map_cons,List.map_nil]);first|done|(simp only [hji35];rfl)|rfl|(simp only [List.length_drop,List.length_take];rfl)) ?_;(with_reducible refine (aa.calls k a0 ji35 t138 _ A36.out).mono ?_);rintro e w' ⟨rfl,⟨nd,rfl⟩⟩;refine ⟨_,rfl,?_⟩)|((with_reducible refine gd 73 rfl ?_);refine gC (some 73) rfl Try.func70 (cC.calls (w:=_) (h:=A37.out)) ?_;rintro _ ⟨nd,rfl⟩;obtain ⟨hcz42_0,hcz42_1,hcz42_2,hfz42_0,hfz42_1,hfz42_2⟩:=cz3 BK128))
    ·
     refine bodyPost_ret (bC rfl _ _ gb128 25 #[.int .i64 0,.int .i64 0,.int .i64 0] (0,0) _ rfl (bpA BK128) Try.underlying25 rfl (by kernel_rfl)) rfl ?_
     exact ⟨by first|rfl|(simp [bB,bA] <;> rfl)|(simp only [← hji21];first|rfl|(simp [bB,bA] <;> rfl))|(simp [*,bB,bA] <;> rfl),blA⟩
    ·
     refine bodyPost_ret (bC rfl _ _ gb128 25 #[.int .i64 a3,.int .i64 t139,.int .i64 ji21] (0,0) _ rfl (bpA BK128) Try.underlying25 rfl (by kernel_rfl)) rfl ?_
     exact ⟨by first|rfl|(simp [bB,bA] <;> rfl)|(simp only [← hji21,← hji35];first|rfl|(simp [bB,bA] <;> rfl))|(simp [*,bB,bA] <;> rfl),blA⟩
 ·
  replace c6:=Bool.eq_false_iff.mpr c6
  subst c6
  rw [if_neg (show ¬ (false=true) by decide)] at H
  try dsimp only at H
  simp only [Option.some.injEq,Prod.mk.injEq] at H
  obtain ⟨rfl,rfl,rfl,rfl⟩:=H
  go_enter Try.func30,Try.ntmps30
  go_wp2_with (first|((with_reducible refine aH (N:=8) rfl ?_);refine bxE (cs:=#[.int .i64 0,.int .i64 0,.int .i64 0]) (t:=25) ?_;intro gb128 hg w43 hbox hb;have BK128:=aA.mk hbox;have GW128:=sA hg;have GE128:=sA hg;replace HB:=lB hb;clear hb hbox hg)|((with_reducible refine gd 15 rfl ?_);refine gC (some 15) rfl Try.func44 (bJ.calls (w:=_) (h:=A5.out)) ?_;rintro _ ⟨nd,rfl⟩;(try (rw [cB w43];generalize hq_:World.drewN w43 _=w43;replace BK128:=aA.mk (by rw [← hq_];exact (bkA BK128));replace HB:=aA.mk (by rw [← hq_];exact blA);clear hq_));obtain ⟨hcz44_0,hcz44_1,hcz44_2,hfz44_0,hfz44_1,hfz44_2⟩:=cz3 BK128))
  refine bodyPost_ret (bC rfl _ _ gb128 25 #[.int .i64 0,.int .i64 0,.int .i64 0] (0,0) _ rfl (bpA BK128) Try.underlying25 rfl (by kernel_rfl)) rfl ?_
  exact bU blA
end Go.Proofs.Ytpihnmmoahplgaa.PAll
