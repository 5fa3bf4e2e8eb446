-- turned out of the kit's print
import Derived.Test.YtnhiehpbkimaeaaQx
import Derived.Test.YtnhiehpbkimaeaaQimplBall56
namespace Go.Proofs.Ytnhiehpbkimaeaa.PAll
open Go.RowKit Go.Proofs.YtnhiehpbkimaeaaW.PrintWords Go.Proofs.YtnhiehpbkimaeaaW.PrintLast Go.Proofs.YtnhiehpbkimaeaaW.PrintMore
attribute [local go_sem] Go.Proofs.Ytnhiehpbkimaeaa.Aux.setCell_drewN Go.Proofs.Ytnhiehpbkimaeaa.Aux.isSome_setCell max2_int min2_int max_two min_two max_three min_three max_four min_four
set_option linter.unusedVariables false
set_option linter.unusedSimpArgs false
def spec_l02Valuation.f (k:Nat) (a0 a1_0 a1_1 a1_2 a2_0 a2_1 a2_2:Int):Option (Int × Bool):=(spec_l01Power.f k a0 (wrap64 ((mx a1_2 a2_2) - a1_2))).bind fun t237=>((spec_l01Power.f k a0 (wrap64 ((mx a1_2 a2_2) - a2_2))).bind fun t238=>(if (wrap64 ((wrap64 (a1_1*t237)) - (wrap64 (a2_1*t238))))=0 then (some (0,false)) else ((spec_l01Val.f k a0 (wrap64 ((wrap64 (a1_1*t237)) - (wrap64 (a2_1*t238))))).bind fun t239=>(some (wrap64 (t239 - (mx a1_2 a2_2)),true)))))
theorem spec_l02Valuation.mono:∀ a0 a1 a2 a3 a4 a5 a6 k,LeO (spec_l02Valuation.f k a0 a1 a2 a3 a4 a5 a6) (spec_l02Valuation.f (k+1) a0 a1 a2 a3 a4 a5 a6):=by
 intro a0 a1 a2 a3 a4 a5 a6 k
 unfold spec_l02Valuation.f
 repeat' first
   | with_reducible first|exact spec_l01Power.mono ..|exact spec_l01Val.mono ..|exact LeO.refl _|exact LeO.none _|refine LeO.ite ?_ ?_|refine LeO.bind ?_ fun _=>?_
set_option maxHeartbeats 8000000 in
set_option maxRecDepth 100000 in
theorem spec_l02Valuation.calls (k:Nat) (a0 a1_0 a1_1 a1_2 a2_0 a2_1 a2_2 r1:Int) (r2:Bool) (w:World) (h:spec_l02Valuation.f k a0 a1_0 a1_1 a1_2 a2_0 a2_1 a2_2=some (r1,r2)) :
  Calls Try.prog 72 #[.int .i64 a0,.agg #[.int .i64 a1_0,.int .i64 a1_1,.int .i64 a1_2],.agg #[.int .i64 a2_0,.int .i64 a2_1,.int .i64 a2_2]] w fun e w'=>e=.returned (.tuple #[.int .i64 r1,.bool r2])∧Below w.heap.size w w':=by
 have hu53:=Try.underlying53
 have HB:=Aside0.mk (Below.refl w.heap.size w)
 have H:=h
 unfold spec_l02Valuation.f at H
 clear h
 obtain ⟨ji4,hji4⟩:∃ j_:Int,(mx a1_2 a2_2)=j_:=⟨_,rfl⟩
 replace H:((spec_l01Power.f k a0 (wrap64 ((ji4) - a1_2))).bind fun t237=>((spec_l01Power.f k a0 (wrap64 ((ji4) - a2_2))).bind fun t238=>(if (wrap64 ((wrap64 (a1_1*t237)) - (wrap64 (a2_1*t238))))=0 then (some (0,false)) else ((spec_l01Val.f k a0 (wrap64 ((wrap64 (a1_1*t237)) - (wrap64 (a2_1*t238))))).bind fun t239=>(some (wrap64 (t239 - (ji4)),true))))))=some (r1,r2):=by first|(rw [hji4] at H;exact H)|(simp only [hji4] at H ⊢;exact H)
 have hji4_:(if a1_2<a2_2 then a2_2 else a1_2)=ji4:=hji4
 replace H:=bS H
 obtain ⟨t237,A5,H⟩:=H
 try dsimp only at H
 replace H:=bS H
 obtain ⟨t238,A6,H⟩:=H
 try dsimp only at H
 by_cases c7:(wrap64 ((wrap64 (a1_1*t237)) - (wrap64 (a2_1*t238))))=0
 ·
  rw [if_pos c7] at H
  have c7b0:((wrap64 ((wrap64 (a1_1*t237)) - (wrap64 (a2_1*t238)))) == 0)=true:=beq_iff_eq.mpr c7
  have c7b1:((wrap64 ((wrap64 (a1_1*t237)) - (wrap64 (a2_1*t238)))) != 0)=false:=bne_eq_false_iff_eq.mpr c7
  clear c7
  simp only [Option.some.injEq,Prod.mk.injEq] at H
  obtain ⟨rfl,rfl⟩:=H
  go_enter Try.func72,Try.ntmps72
  go_wp2_with (first|((with_reducible refine gate_dst (N:=4) rfl ?_);refine bxE (cs:=#[.int .i64 a1_0,.int .i64 a1_1,.int .i64 a1_2]) (t:=53) ?_;intro gb235 hg w8 hbox hb;have BK235:=Aside0.mk hbox;have GW235:=sA hg;have GE235:=sA hg;replace HB:=lB hb;clear hb hbox hg)|((with_reducible refine gate_dst (N:=5) rfl ?_);refine bxE (cs:=#[.int .i64 a2_0,.int .i64 a2_1,.int .i64 a2_2]) (t:=53) ?_;intro gb236 hg w9 hbox hb;have BK236:=Aside0.mk hbox;have GW236:=sA hg;have GE236:=sA hg;have NB235_236:=nA hg BK235;have NB236_235:=nB hg BK235;replace BK235:=kB BK235 hb;replace HB:=lB hb;clear hb hbox hg;have hnb10:=NB235_236.out;have hnc10:=NB236_235.out;obtain ⟨hcz11_0,hcz11_1,hcz11_2,hfz11_0,hfz11_1,hfz11_2⟩:=cz3 BK235;obtain ⟨hcz12_0,hcz12_1,hcz12_2,hfz12_0,hfz12_1,hfz12_2⟩:=cz3 BK236)|(go_at_call 41;(with_reducible refine (spec_l01Power.calls k a0 (wrap64 ((ji4) - a1_2)) t237 _ A5.out).mono ?_);rintro e w' ⟨rfl,⟨nd,rfl⟩⟩;(try exact dd))|(go_at_call 41;(with_reducible refine (spec_l01Power.calls k a0 (wrap64 ((ji4) - a2_2)) t238 _ A6.out).mono ?_);rintro e w' ⟨rfl,⟨nd,rfl⟩⟩;(try exact dd)))
  repeat (go_quiet (first|((with_reducible refine gate_dst (N:=4) rfl ?_);refine bxE (cs:=#[.int .i64 a1_0,.int .i64 a1_1,.int .i64 a1_2]) (t:=53) ?_;intro gb235 hg w8 hbox hb;have BK235:=Aside0.mk hbox;have GW235:=sA hg;have GE235:=sA hg;replace HB:=lB hb;clear hb hbox hg)|((with_reducible refine gate_dst (N:=5) rfl ?_);refine bxE (cs:=#[.int .i64 a2_0,.int .i64 a2_1,.int .i64 a2_2]) (t:=53) ?_;intro gb236 hg w9 hbox hb;have BK236:=Aside0.mk hbox;have GW236:=sA hg;have GE236:=sA hg;have NB235_236:=nA hg BK235;have NB236_235:=nB hg BK235;replace BK235:=kB BK235 hb;replace HB:=lB hb;clear hb hbox hg;have hnb10:=NB235_236.out;have hnc10:=NB236_235.out;obtain ⟨hcz11_0,hcz11_1,hcz11_2,hfz11_0,hfz11_1,hfz11_2⟩:=cz3 BK235;obtain ⟨hcz12_0,hcz12_1,hcz12_2,hfz12_0,hfz12_1,hfz12_2⟩:=cz3 BK236)|(go_at_call 41;(with_reducible refine (spec_l01Power.calls k a0 (wrap64 ((ji4) - a1_2)) t237 _ A5.out).mono ?_);rintro e w' ⟨rfl,⟨nd,rfl⟩⟩;(try exact dd))|(go_at_call 41;(with_reducible refine (spec_l01Power.calls k a0 (wrap64 ((ji4) - a2_2)) t238 _ A6.out).mono ?_);rintro e w' ⟨rfl,⟨nd,rfl⟩⟩;(try exact dd)));try go_wp2_with (first|((with_reducible refine gate_dst (N:=4) rfl ?_);refine bxE (cs:=#[.int .i64 a1_0,.int .i64 a1_1,.int .i64 a1_2]) (t:=53) ?_;intro gb235 hg w8 hbox hb;have BK235:=Aside0.mk hbox;have GW235:=sA hg;have GE235:=sA hg;replace HB:=lB hb;clear hb hbox hg)|((with_reducible refine gate_dst (N:=5) rfl ?_);refine bxE (cs:=#[.int .i64 a2_0,.int .i64 a2_1,.int .i64 a2_2]) (t:=53) ?_;intro gb236 hg w9 hbox hb;have BK236:=Aside0.mk hbox;have GW236:=sA hg;have GE236:=sA hg;have NB235_236:=nA hg BK235;have NB236_235:=nB hg BK235;replace BK235:=kB BK235 hb;replace HB:=lB hb;clear hb hbox hg;have hnb10:=NB235_236.out;have hnc10:=NB236_235.out;obtain ⟨hcz11_0,hcz11_1,hcz11_2,hfz11_0,hfz11_1,hfz11_2⟩:=cz3 BK235;obtain ⟨hcz12_0,hcz12_1,hcz12_2,hfz12_0,hfz12_1,hfz12_2⟩:=cz3 BK236)|(go_at_call 41;(with_reducible refine (spec_l01Power.calls k a0 (wrap64 ((ji4) - a1_2)) t237 _ A5.out).mono ?_);rintro e w' ⟨rfl,⟨nd,rfl⟩⟩;(try exact dd))|(go_at_call 41;(with_reducible refine (spec_l01Power.calls k a0 (wrap64 ((ji4) - a2_2)) t238 _ A6.out).mono ?_);rintro e w' ⟨rfl,⟨nd,rfl⟩⟩;(try exact dd))))
  go_ret2
  exact ⟨by first|rfl|(simp [errW_none,errW_some] <;> rfl)|(simp only [← hji4];first|rfl|(simp [errW_none,errW_some] <;> rfl))|(simp [*,errW_none,errW_some] <;> rfl),blA⟩
 ·
  rw [if_neg c7] at H
  have c7b0:((wrap64 ((wrap64 (a1_1*t237)) - (wrap64 (a2_1*t238)))) == 0)=false:=beq_eq_false_iff_ne.mpr c7
  have c7b1:((wrap64 ((wrap64 (a1_1*t237)) - (wrap64 (a2_1*t238)))) != 0)=true:=bne_iff_ne.mpr c7
  replace H:=bS H
  obtain ⟨t239,A13,H⟩:=H
  try dsimp only at H
  simp only [Option.some.injEq,Prod.mk.injEq] at H
  obtain ⟨rfl,rfl⟩:=H
  go_enter Try.func72,Try.ntmps72
  go_wp2_with (first|((with_reducible refine gate_dst (N:=4) rfl ?_);refine bxE (cs:=#[.int .i64 a1_0,.int .i64 a1_1,.int .i64 a1_2]) (t:=53) ?_;intro gb235 hg w14 hbox hb;have BK235:=Aside0.mk hbox;have GW235:=sA hg;have GE235:=sA hg;replace HB:=lB hb;clear hb hbox hg)|((with_reducible refine gate_dst (N:=5) rfl ?_);refine bxE (cs:=#[.int .i64 a2_0,.int .i64 a2_1,.int .i64 a2_2]) (t:=53) ?_;intro gb236 hg w15 hbox hb;have BK236:=Aside0.mk hbox;have GW236:=sA hg;have GE236:=sA hg;have NB235_236:=nA hg BK235;have NB236_235:=nB hg BK235;replace BK235:=kB BK235 hb;replace HB:=lB hb;clear hb hbox hg;have hnb16:=NB235_236.out;have hnc16:=NB236_235.out;obtain ⟨hcz17_0,hcz17_1,hcz17_2,hfz17_0,hfz17_1,hfz17_2⟩:=cz3 BK235;obtain ⟨hcz18_0,hcz18_1,hcz18_2,hfz18_0,hfz18_1,hfz18_2⟩:=cz3 BK236)|(go_at_call 41;(with_reducible refine (spec_l01Power.calls k a0 (wrap64 ((ji4) - a1_2)) t237 _ A5.out).mono ?_);rintro e w' ⟨rfl,⟨nd,rfl⟩⟩;(try exact dd))|(go_at_call 41;(with_reducible refine (spec_l01Power.calls k a0 (wrap64 ((ji4) - a2_2)) t238 _ A6.out).mono ?_);rintro e w' ⟨rfl,⟨nd,rfl⟩⟩;(try exact dd))|(go_at_call 42;(with_reducible refine (spec_l01Val.calls k a0 (wrap64 ((wrap64 (a1_1*t237)) - (wrap64 (a2_1*t238)))) t239 _ A13.out).mono ?_);rintro e w' ⟨rfl,⟨nd,rfl⟩⟩;(try exact dd)))
  repeat (go_quiet (first|((with_reducible refine gate_dst (N:=4) rfl ?_);refine bxE (cs:=#[.int .i64 a1_0,.int .i64 a1_1,.int .i64 a1_2]) (t:=53) ?_;intro gb235 hg w14 hbox hb;have BK235:=Aside0.mk hbox;have GW235:=sA hg;have GE235:=sA hg;replace HB:=lB hb;clear hb hbox hg)|((with_reducible refine gate_dst (N:=5) rfl ?_);refine bxE (cs:=#[.int .i64 a2_0,.int .i64 a2_1,.int .i64 a2_2]) (t:=53) ?_;intro gb236 hg w15 hbox hb;have BK236:=Aside0.mk hbox;have GW236:=sA hg;have GE236:=sA hg;have NB235_236:=nA hg BK235;have NB236_235:=nB hg BK235;replace BK235:=kB BK235 hb;replace HB:=lB hb;clear hb hbox hg;have hnb16:=NB235_236.out;have hnc16:=NB236_235.out;obtain ⟨hcz17_0,hcz17_1,hcz17_2,hfz17_0,hfz17_1,hfz17_2⟩:=cz3 BK235;obtain ⟨hcz18_0,hcz18_1,hcz18_2,hfz18_0,hfz18_1,hfz18_2⟩:=cz3 BK236)|(go_at_call 41;(with_reducible refine (spec_l01Power.calls k a0 (wrap64 ((ji4) - a1_2)) t237 _ A5.out).mono ?_);rintro e w' ⟨rfl,⟨nd,rfl⟩⟩;(try exact dd))|(go_at_call 41;(with_reducible refine (spec_l01Power.calls k a0 (wrap64 ((ji4) - a2_2)) t238 _ A6.out).mono ?_);rintro e w' ⟨rfl,⟨nd,rfl⟩⟩;(try exact dd))|(go_at_call 42;(with_reducible refine (spec_l01Val.calls k a0 (wrap64 ((wrap64 (a1_1*t237)) - (wrap64 (a2_1*t238)))) t239 _ A13.out).mono ?_);rintro e w' ⟨rfl,⟨nd,rfl⟩⟩;(try exact dd)));try go_wp2_with (first|((with_reducible refine gate_dst (N:=4) rfl ?_);refine bxE (cs:=#[.int .i64 a1_0,.int .i64 a1_1,.int .i64 a1_2]) (t:=53) ?_;intro gb235 hg w14 hbox hb;have BK235:=Aside0.mk hbox;have GW235:=sA hg;have GE235:=sA hg;replace HB:=lB hb;clear hb hbox hg)|((with_reducible refine gate_dst (N:=5) rfl ?_);refine bxE (cs:=#[.int .i64 a2_0,.int .i64 a2_1,.int .i64 a2_2]) (t:=53) ?_;intro gb236 hg w15 hbox hb;have BK236:=Aside0.mk hbox;have GW236:=sA hg;have GE236:=sA hg;have NB235_236:=nA hg BK235;have NB236_235:=nB hg BK235;replace BK235:=kB BK235 hb;replace HB:=lB hb;clear hb hbox hg;have hnb16:=NB235_236.out;have hnc16:=NB236_235.out;obtain ⟨hcz17_0,hcz17_1,hcz17_2,hfz17_0,hfz17_1,hfz17_2⟩:=cz3 BK235;obtain ⟨hcz18_0,hcz18_1,hcz18_2,hfz18_0,hfz18_1,hfz18_2⟩:=cz3 BK236)|(go_at_call 41;(with_reducible refine (spec_l01Power.calls k a0 (wrap64 ((ji4) - a1_2)) t237 _ A5.out).mono ?_);rintro e w' ⟨rfl,⟨nd,rfl⟩⟩;(try exact dd))|(go_at_call 41;(with_reducible refine (spec_l01Power.calls k a0 (wrap64 ((ji4) - a2_2)) t238 _ A6.out).mono ?_);rintro e w' ⟨rfl,⟨nd,rfl⟩⟩;(try exact dd))|(go_at_call 42;(with_reducible refine (spec_l01Val.calls k a0 (wrap64 ((wrap64 (a1_1*t237)) - (wrap64 (a2_1*t238)))) t239 _ A13.out).mono ?_);rintro e w' ⟨rfl,⟨nd,rfl⟩⟩;(try exact dd))))
  go_ret2
  exact ⟨by first|rfl|(simp [errW_none,errW_some] <;> rfl)|(simp only [← hji4];first|rfl|(simp [errW_none,errW_some] <;> rfl))|(simp [*,errW_none,errW_some] <;> rfl),blA⟩
def laws_toMatrixS.l0:Nat→List (S41)→List (S42)→Int→Option ((List (S42)))
 | 0,_,_,_=>none
 | k+1,x0,x3,x4=>if x4<(x0.length:Int) then (if 0≤x4 then ((laws_toMatrix.f ((rd_T41 x0 x4).f0.f0) ((rd_T41 x0 x4).f0.f1) ((rd_T41 x0 x4).f1.f0) ((rd_T41 x0 x4).f1.f1)).bind fun bt294=>(if x4<(x3.length:Int) then (laws_toMatrixS.l0 k x0 (x3.set (x4:Int).toNat (⟨(⟨bt294.1,bt294.2.1⟩:S40),(⟨bt294.2.2.1,bt294.2.2.2⟩:S40)⟩:S42)) (wrap64 (x4+1))) else (none))) else (none)) else (some x3)
def laws_toMatrixS.f (k:Nat) (l0:List (S41)):Option ((List (S42))):=if 0≤(l0.length:Int) then (if ((l0.length:Int):Int).toNat≤8796093022208 then (laws_toMatrixS.l0 k l0 (List.replicate ((l0.length:Int):Int).toNat z42) 0) else (none)) else (none)
theorem laws_toMatrixS.mono_l:∀ k,(∀ y0 y1 y2,LeO (laws_toMatrixS.l0 k y0 y1 y2) (laws_toMatrixS.l0 (k+1) y0 y1 y2))
 | 0=>fun _ _ _ r h=>by simp [laws_toMatrixS.l0] at h
 | k+1=>by
  have ih0:=laws_toMatrixS.mono_l k
  ·
   intro y0 y1 y2
   unfold laws_toMatrixS.l0
   repeat' first
   | with_reducible first|exact ih0 ..|exact LeO.refl _|exact LeO.none _|refine LeO.ite ?_ ?_|refine LeO.bind ?_ fun _=>?_
theorem laws_toMatrixS.mono:∀ a0 k,LeO (laws_toMatrixS.f k a0) (laws_toMatrixS.f (k+1) a0):=by
 intro a0 k
 have ih0:=laws_toMatrixS.mono_l k
 unfold laws_toMatrixS.f
 repeat' first
   | with_reducible first|exact ih0 ..|exact LeO.refl _|exact LeO.none _|refine LeO.ite ?_ ?_|refine LeO.bind ?_ fun _=>?_
set_option maxHeartbeats 8000000 in
set_option maxRecDepth 100000 in
theorem laws_toMatrixS.calls (k:Nat) (A0:Option Addr) (c0:Nat) (l0:List (S41)) (r:List (S42)) (w:World) (hr0:Kd.C k41 w A0 l0.length l0) (hc0:l0.length≤c0) (h:laws_toMatrixS.f k l0=some r) :
  Calls Try.prog 6 #[.slice A0 l0.length c0] w fun e w'=>∃ v0_:Value,e=.returned (v0_)∧Kd.R k42 42 w' w.heap.size (fun _=>True) v0_ r∧Below w.heap.size w w':=by
 have hu41:=Try.underlying41
 have hu42:=Try.underlying42
 have HR0:=Aside0.mk hr0
 have HC0:=Aside0.mk hc0
 clear hr0 hc0
 have HB:=Aside0.mk (Below.refl w.heap.size w)
 have H:=h
 unfold laws_toMatrixS.f at H
 clear h
 by_cases c2:0≤(l0.length:Int)
 rotate_left
 ·
  rw [if_neg c2] at H
  exact absurd H (by simp)
 rw [if_pos c2] at H
 have c2b0:=eq_true c2
 have c2b1:=decide_eq_true c2
 clear c2
 by_cases c3:((l0.length:Int):Int).toNat≤8796093022208
 rotate_left
 ·
  rw [if_neg c3] at H
  exact absurd H (by simp)
 rw [if_pos c3] at H
 have c3b0:=eq_true c3
 have c3b1:=decide_eq_true c3
 clear c3
 obtain ⟨y290,hy290⟩:∃ y_:List (S42),y_=(List.replicate ((l0.length:Int):Int).toNat z42):=⟨_,rfl⟩
 replace H:(laws_toMatrixS.l0 k l0 y290 0)=some r:=rH hy290 H
 have Ny290:=Aside0.mk hy290
 clear hy290
 have H':=Aside0.mk H
 clear H
 go_enter Try.func6,Try.ntmps6
 go_wp2_with (first|((with_reducible refine gate_dst (N:=7) rfl ?_);refine Kd.R_make k42 _ 42 rfl (N:=7) rfl 27 _ _ rfl (l0.length:Int) rfl rfl Try.underlying27 (.agg #[(.int .i64 0),(.int .i64 0),(.int .i64 0),(.int .i64 0)]) 32 info42 rfl (by decide) (by omega) z42 (ok:=fun _=>True) (okp:=fun _=>True) (k42_mkM _ _ _ z42 ) (fun _ hk=>hk) trivial (dA) (Nat.le_trans (Nat.mul_le_mul_right _ (dA:(l0.length:Int).toNat≤8796093022208)) (by omega)) (Below.refl _ _) (Nat.le_refl _) ?_;intro v291 w4 ho5 hb hg_ hnew_;clear hg_ hnew_;(first|rw [← Ny290.out] at ho5|(simp only [Int.reduceToNat] at ho5;rw [← Ny290.out] at ho5));have HO292:=Aside0.mk (Kd.R_lower ho5 (below_size blA));replace HB:=lB hb;clear hb ho5))
 go_loopg [4] k (fun kq v4 w'=>∃ (x3_1:List (S42)) (x4_1:Int),v4=.int .i64 x4_1∧Aside0 (laws_toMatrixS.l0 kq l0 x3_1 x4_1=some r)∧Aside0 (kq≤k)∧Aside0 (Kd.R k42 42 w' w.heap.size (fun _=>True) v291 x3_1)∧Aside0 (Below w.heap.size w w'))
 case atStart=>exact ⟨(y290),(0),hB,H',⟨Nat.le_refl _⟩,⟨rA HO292⟩,⟨blA⟩⟩
 case round=>
  clear H'
  try clear c2
  try clear c2b0
  try clear c2b1
  try clear c3
  try clear c3b0
  try clear c3b1
  obtain ⟨x3_1,x4_1,rfl,HA,HK1,HO_3,HB⟩:=hrel
  cases gk with
  | zero=>exact absurd HA.out (by simp [laws_toMatrixS.l0])
  | succ k1=>
   have H:=HA.out
   clear HA
   simp only [laws_toMatrixS.l0] at H
   by_cases c6:x4_1<(l0.length:Int)
   ·
    rw [if_pos c6] at H
    have c6b0:=decide_eq_true c6
    clear c6
    by_cases c7:0≤x4_1
    rotate_left
    ·
     rw [if_neg c7] at H
     exact absurd H (by simp)
    rw [if_pos c7] at H
    have c7b0:=decide_eq_true c7
    clear c7
    replace H:=bS H
    obtain ⟨⟨t294,t295,t296,t297⟩,A8,H⟩:=H
    try dsimp only at H
    by_cases c9:x4_1<(x3_1.length:Int)
    rotate_left
    ·
     rw [if_neg c9] at H
     exact absurd H (by simp)
    rw [if_pos c9] at H
    have c9b0:=decide_eq_true c9
    clear c9
    obtain ⟨y298,hy298⟩:∃ y_:List (S42),y_=(x3_1.set (x4_1:Int).toNat (⟨(⟨t294,t295⟩:S40),(⟨t296,t297⟩:S40)⟩:S42)):=⟨_,rfl⟩
    replace H:(laws_toMatrixS.l0 k1 l0 y298 (wrap64 (x4_1+1)))=some r:=rH hy298 H
    have Ny298:=Aside0.mk hy298
    clear hy298
    have H':=Aside0.mk H
    clear H
    have p293:0≤(x4_1:Int):=dA
    have q293:x4_1<(l0.length:Int):=dA
    obtain ⟨ad293,e293,hx293_0,hx293_1,hx293_2,hx293_3⟩:=at_T41 HR0.out x4_1 p293 q293
    cases e293
    replace hx293_0:=(HB.out.cell (World.block_lt_of_cell? w _ hx293_0)).trans hx293_0
    replace hx293_1:=(HB.out.cell (World.block_lt_of_cell? w _ hx293_1)).trans hx293_1
    replace hx293_2:=(HB.out.cell (World.block_lt_of_cell? w _ hx293_2)).trans hx293_2
    replace hx293_3:=(HB.out.cell (World.block_lt_of_cell? w _ hx293_3)).trans hx293_3
    replace p293:=eq_true p293
    replace q293:=eq_true q293
    go_wp2_with (first|((with_reducible refine gd 20 rfl ?_);refine gC (some 20) rfl Try.func17 (laws_toMatrix.calls (w:=_) (h:=A8.out)) ?_;intro w11 hb;replace HO_3:=Aside0.mk (Kd.R_below (rA HO_3) hb);replace HB:=lB hb;clear hb;have p10:0≤(x4_1:Int):=dA;have q10:(x4_1:Int)<((x3_1.length:Int):Int):=dA;obtain ⟨go10,co10,eo10,gb10,gl10,cl10,HG10⟩:=Kd.R_form HO_3.out (by omega);(first|cases eo10|(injection eo10 with ea_ en_ ec_;(first|subst ea_|(injection ea_ with ea_;subst ea_));subst ec_;clear en_));have GB10:=Aside0.mk gb10;have GG10:=Aside0.mk HG10;clear gb10 gl10 HG10;obtain ⟨ce10,hcl10,hM10,hcc10,hfr10⟩:=Kd.R_elem HO_3.out z42 (x4_1:Int) p10 q10;obtain rfl:=k42_openM hM10;have hx10_0:w11.cell? ⟨go10,(x4_1:Int).toNat*4,none⟩=some (.int .i64 ((rd_T42 x3_1 x4_1).f0.f0)):=hcc10 0 _ rfl;have hx10_1:w11.cell? ⟨go10,(x4_1:Int).toNat*4+1,none⟩=some (.int .i64 ((rd_T42 x3_1 x4_1).f0.f1)):=hcc10 1 _ rfl;have hx10_2:w11.cell? ⟨go10,(x4_1:Int).toNat*4+2,none⟩=some (.int .i64 ((rd_T42 x3_1 x4_1).f1.f0)):=hcc10 2 _ rfl;have hx10_3:w11.cell? ⟨go10,(x4_1:Int).toNat*4+3,none⟩=some (.int .i64 ((rd_T42 x3_1 x4_1).f1.f1)):=hcc10 3 _ rfl;have hf10_0:w11.frozen? ⟨go10,(x4_1:Int).toNat*4,none⟩=false:=hfr10 0;have hf10_1:w11.frozen? ⟨go10,(x4_1:Int).toNat*4+1,none⟩=false:=hfr10 1;have hf10_2:w11.frozen? ⟨go10,(x4_1:Int).toNat*4+2,none⟩=false:=hfr10 2;have hf10_3:w11.frozen? ⟨go10,(x4_1:Int).toNat*4+3,none⟩=false:=hfr10 3;clear hcl10 hcc10 hfr10 hM10;replace p10:=eq_true p10;replace q10:=eq_true q10;have HX12:=Aside0.mk (show Kd.R k42 42 w11 w.heap.size (fun _=>True) (.slice (some ⟨go10,0,none⟩) x3_1.length co10) x3_1 from (rA HO_3));obtain ⟨ce12,hcl12,hM12,hcc12,hfr12⟩:=Kd.R_elem HX12.out z42 (x4_1:Int) (dA) (by have h_:(x4_1:Int)<((x3_1.length:Int):Int):=dA;first|exact h_|(have e_:=(Kd.R_reads' HO_3.out).1;omega)|simpa using h_);obtain rfl:=k42_openM hM12;have HP12:=Kd.R_seg HX12.out (x4_1:Int) (dA) (by have h_:(x4_1:Int)<((x3_1.length:Int):Int):=dA;first|exact h_|(have e_:=(Kd.R_reads' HO_3.out).1;omega)|simpa using h_) (seg:=[.int .i64 t294,.int .i64 t295,.int .i64 t296,.int .i64 t297]) (j:=0) hcl12 hcc12 (show 4≤4 from by decide) (x':=(⟨(⟨t294,t295⟩:S40),(⟨t296,t297⟩:S40)⟩:S42)) (k42_mkM _ _ _ (⟨(⟨t294,t295⟩:S40),(⟨t296,t297⟩:S40)⟩:S42) ) (fun _ hk=>hk);have hx12_0:=hcc12 0 _ rfl;(try simp only [show (k42).sz=4 from rfl,Nat.mul_one,Nat.add_zero] at hx12_0);have hf12_0:=hfr12 0;(try simp only [show (k42).sz=4 from rfl,Nat.mul_one,Nat.add_zero] at hf12_0);have hx12_1:=hcc12 1 _ rfl;(try simp only [show (k42).sz=4 from rfl,Nat.mul_one,Nat.add_zero] at hx12_1);have hf12_1:=hfr12 1;(try simp only [show (k42).sz=4 from rfl,Nat.mul_one,Nat.add_zero] at hf12_1);have hx12_2:=hcc12 2 _ rfl;(try simp only [show (k42).sz=4 from rfl,Nat.mul_one,Nat.add_zero] at hx12_2);have hf12_2:=hfr12 2;(try simp only [show (k42).sz=4 from rfl,Nat.mul_one,Nat.add_zero] at hf12_2);have hx12_3:=hcc12 3 _ rfl;(try simp only [show (k42).sz=4 from rfl,Nat.mul_one,Nat.add_zero] at hx12_3);have hf12_3:=hfr12 3;(try simp only [show (k42).sz=4 from rfl,Nat.mul_one,Nat.add_zero] at hf12_3);clear hcl12 hcc12 hfr12 hM12)|((with_reducible refine gate_store (t:=42) (p:=21) rfl ?_);refine store_event (t:=42) (p:=21) (v:=?vo_w13) (w1:=((((w11.setCell ⟨go10,(x4_1:Int).toNat*4,none⟩ (.int .i64 t294)).setCell ⟨go10,(x4_1:Int).toNat*4+1,none⟩ (.int .i64 t295)).setCell ⟨go10,(x4_1:Int).toNat*4+2,none⟩ (.int .i64 t296)).setCell ⟨go10,(x4_1:Int).toNat*4+3,none⟩ (.int .i64 t297))) ?hg ?ho ?hn ?hr ?_;(case ho=>rfl);(case hg=>rfl);(case hn=>rfl);(case hr=>first|(go_simp;done)|(go_simp;rfl));intro w13 hw;have hg:w11.grownBy w13 (some go10):=(by rw [hw];exact HP12.2);have hp_:Kd.R k42 42 w13 w.heap.size (fun _=>True) (.slice (some ⟨go10,0,none⟩) x3_1.length co10) y298:=(by rw [hw,Ny298.out];exact HP12.1);clear HP12;replace HO_3:=Aside0.mk (hp_);replace HB:=Aside0.mk ((by rw [hw];exact below_set (below_set (below_set (below_set (HB.out) GB10.out) GB10.out) GB10.out) GB10.out:Below w.heap.size w w13));clear hg hw hp_))
    go_roundg k1
    case measure=>have:=HK1.out;omega
    case rel=>exact ⟨(y298),(wrap64 (x4_1+1)),hB,H',⟨by have:=HK1.out;omega⟩,⟨rA HO_3⟩,⟨blA⟩⟩
   ·
    rw [if_neg c6] at H
    have c6b0:=decide_eq_false c6
    clear c6
    obtain rfl:=Option.some.inj H
    go_wp2
    go_ret
    exact ⟨_,eW,rA HO_3,blA⟩
def impl_IsMatrix.f (k:Nat) (a0_0 a0_1 a0_2 a0_3:Int):Option (Bool):=(impl_within.f k 1000 (([a0_0,a0_1,a0_2,a0_3]:List Int))).bind fun t305=>(if t305=true then ((impl_determinant.f a0_0 a0_1 a0_2 a0_3).bind fun t306=>(some (t306 != 0))) else (some false))
theorem impl_IsMatrix.mono:∀ a0 a1 a2 a3 k,LeO (impl_IsMatrix.f k a0 a1 a2 a3) (impl_IsMatrix.f (k+1) a0 a1 a2 a3):=by
 intro a0 a1 a2 a3 k
 unfold impl_IsMatrix.f
 repeat' first
   | with_reducible first|exact impl_within.mono ..|exact LeO.refl _|exact LeO.none _|refine LeO.ite ?_ ?_|refine LeO.bind ?_ fun _=>?_
set_option maxHeartbeats 8000000 in
set_option maxRecDepth 100000 in
theorem impl_IsMatrix.calls (k:Nat) (a0_0 a0_1 a0_2 a0_3:Int) (r:Bool) (w:World) (h:impl_IsMatrix.f k a0_0 a0_1 a0_2 a0_3=some r) :
  Calls Try.prog 63 #[.agg #[.int .i64 a0_0,.int .i64 a0_1,.int .i64 a0_2,.int .i64 a0_3]] w fun e w'=>e=.returned (.bool r)∧Below w.heap.size w w':=by
 have hu42:=Try.underlying42
 have HB:=Aside0.mk (Below.refl w.heap.size w)
 have H:=h
 unfold impl_IsMatrix.f at H
 clear h
 obtain ⟨y302,hy302⟩:∃ y_:List Int,y_=(([a0_0,a0_1,a0_2,a0_3]:List Int)):=⟨_,rfl⟩
 replace H:((impl_within.f k 1000 y302).bind fun t305=>(if t305=true then ((impl_determinant.f a0_0 a0_1 a0_2 a0_3).bind fun t306=>(some (t306 != 0))) else (some false)))=some r:=rH hy302 H
 have Ny302:=Aside0.mk hy302
 clear hy302
 replace H:=bS H
 obtain ⟨t305,A2,H⟩:=H
 try dsimp only at H
 by_cases c3:t305=true
 ·
  subst c3
  rw [if_pos rfl] at H
  try dsimp only at H
  replace H:=bS H
  obtain ⟨t306,A4,H⟩:=H
  try dsimp only at H
  obtain rfl:=Option.some.inj H
  go_enter Try.func63,Try.ntmps63
  go_wp2_with (first|((with_reducible refine gate_dst (N:=1) rfl ?_);refine bxE (cs:=#[.int .i64 a0_0,.int .i64 a0_1,.int .i64 a0_2,.int .i64 a0_3]) (t:=42) ?_;intro gb301 hg w5 hbox hb;have BK301:=Aside0.mk hbox;have GW301:=sA hg;have GE301:=sA hg;replace HB:=lB hb;clear hb hbox hg;obtain ⟨hcz6_0,hcz6_1,hcz6_2,hcz6_3,hfz6_0,hfz6_1,hfz6_2,hfz6_3⟩:=cz4 BK301)|((with_reducible refine gate_dst (N:=15) rfl ?_);refine Kd.R_lit (Kd.int .i64) _ 2 ?hg (N:=15) ?hd (xs:=([a0_0,a0_1,a0_2,a0_3]:List Int)) (inner:=[.int .i64 a0_0,.int .i64 a0_1,.int .i64 a0_2,.int .i64 a0_3]) (ok:=fun _=>True) (okp:=fun _=>True) ?hr ?hp (fun _ hk=>hk) trivial (Below.refl _ _) (Nat.le_refl _) (by simp) ?_;(case hd=>rfl);(case hg=>rfl);(case hr=>first|(go_simp;done)|(go_simp;rfl));(case hp=>exact (Reps.one (show Kd.M (Kd.int .i64) _ _ _ a0_0 [.int .i64 a0_0] from rfl) (Reps.one (show Kd.M (Kd.int .i64) _ _ _ a0_1 [.int .i64 a0_1] from rfl) (Reps.one (show Kd.M (Kd.int .i64) _ _ _ a0_2 [.int .i64 a0_2] from rfl) (Reps.one (show Kd.M (Kd.int .i64) _ _ _ a0_3 [.int .i64 a0_3] from rfl) (Reps.none _ _))))));intro v303 w7 ho8 hb hg_ hnew_;clear hg_ hnew_;(first|rw [← Ny302.out] at ho8|(simp only [Int.reduceToNat] at ho8;rw [← Ny302.out] at ho8));have HO304:=Aside0.mk (Kd.R_lower ho8 (below_size blA));replace BK301:=kB BK301 hb;replace HB:=lB hb;clear hb ho8;obtain ⟨Ao9,co9,eo9⟩:=Kd.R_slice HO304.out;subst eo9)|((with_reducible refine gd 16 rfl ?_);refine gC (some 16) rfl Try.func73 (impl_within.calls (w:=_) (hr1:=cR (Kd.R_reads' HO304.out).2.2) (hc1:=(Kd.R_reads' HO304.out).2.1) (h:=A2.out)) ?_;rintro _ ⟨nd,rfl⟩;obtain ⟨hcz10_0,hcz10_1,hcz10_2,hcz10_3,hfz10_0,hfz10_1,hfz10_2,hfz10_3⟩:=cz4 BK301)|(go_at_call 52;(with_reducible refine (impl_determinant.calls a0_0 a0_1 a0_2 a0_3 t306 _ A4.out).mono ?_);rintro e w11 ⟨rfl,hb⟩;replace HO304:=Aside0.mk (Kd.R_below (rA HO304) hb);replace BK301:=kB BK301 hb;replace HB:=lB hb;clear hb))
  go_ret
  exact finA blA
 ·
  replace c3:=Bool.eq_false_iff.mpr c3
  subst c3
  rw [if_neg (show ¬ (false=true) by decide)] at H
  try dsimp only at H
  obtain rfl:=Option.some.inj H
  go_enter Try.func63,Try.ntmps63
  go_wp2_with (first|((with_reducible refine gate_dst (N:=1) rfl ?_);refine bxE (cs:=#[.int .i64 a0_0,.int .i64 a0_1,.int .i64 a0_2,.int .i64 a0_3]) (t:=42) ?_;intro gb301 hg w12 hbox hb;have BK301:=Aside0.mk hbox;have GW301:=sA hg;have GE301:=sA hg;replace HB:=lB hb;clear hb hbox hg;obtain ⟨hcz13_0,hcz13_1,hcz13_2,hcz13_3,hfz13_0,hfz13_1,hfz13_2,hfz13_3⟩:=cz4 BK301)|((with_reducible refine gate_dst (N:=15) rfl ?_);refine Kd.R_lit (Kd.int .i64) _ 2 ?hg (N:=15) ?hd (xs:=([a0_0,a0_1,a0_2,a0_3]:List Int)) (inner:=[.int .i64 a0_0,.int .i64 a0_1,.int .i64 a0_2,.int .i64 a0_3]) (ok:=fun _=>True) (okp:=fun _=>True) ?hr ?hp (fun _ hk=>hk) trivial (Below.refl _ _) (Nat.le_refl _) (by simp) ?_;(case hd=>rfl);(case hg=>rfl);(case hr=>first|(go_simp;done)|(go_simp;rfl));(case hp=>exact (Reps.one (show Kd.M (Kd.int .i64) _ _ _ a0_0 [.int .i64 a0_0] from rfl) (Reps.one (show Kd.M (Kd.int .i64) _ _ _ a0_1 [.int .i64 a0_1] from rfl) (Reps.one (show Kd.M (Kd.int .i64) _ _ _ a0_2 [.int .i64 a0_2] from rfl) (Reps.one (show Kd.M (Kd.int .i64) _ _ _ a0_3 [.int .i64 a0_3] from rfl) (Reps.none _ _))))));intro v303 w14 ho15 hb hg_ hnew_;clear hg_ hnew_;(first|rw [← Ny302.out] at ho15|(simp only [Int.reduceToNat] at ho15;rw [← Ny302.out] at ho15));have HO304:=Aside0.mk (Kd.R_lower ho15 (below_size blA));replace BK301:=kB BK301 hb;replace HB:=lB hb;clear hb ho15;obtain ⟨Ao16,co16,eo16⟩:=Kd.R_slice HO304.out;subst eo16)|((with_reducible refine gd 16 rfl ?_);refine gC (some 16) rfl Try.func73 (impl_within.calls (w:=_) (hr1:=cR (Kd.R_reads' HO304.out).2.2) (hc1:=(Kd.R_reads' HO304.out).2.1) (h:=A2.out)) ?_;rintro _ ⟨nd,rfl⟩))
  go_ret
  exact finA blA
def impl_mark.f (k:Nat) (a0 a1_0 a1_1 a1_2:Int):Option (Int):=(impl_power.f k a0 (wrap64 (6 - a1_2))).bind fun t315=>(some (wrap64 (a1_1*t315)))
theorem impl_mark.mono:∀ a0 a1 a2 a3 k,LeO (impl_mark.f k a0 a1 a2 a3) (impl_mark.f (k+1) a0 a1 a2 a3):=by
 intro a0 a1 a2 a3 k
 unfold impl_mark.f
 repeat' first
   | with_reducible first|exact impl_power.mono ..|exact LeO.refl _|exact LeO.none _|refine LeO.ite ?_ ?_|refine LeO.bind ?_ fun _=>?_
set_option maxHeartbeats 8000000 in
set_option maxRecDepth 100000 in
theorem impl_mark.calls (k:Nat) (a0 a1_0 a1_1 a1_2 r:Int) (w:World) (h:impl_mark.f k a0 a1_0 a1_1 a1_2=some r) :
  Calls Try.prog 49 #[.int .i64 a0,.agg #[.int .i64 a1_0,.int .i64 a1_1,.int .i64 a1_2]] w fun e w'=>e=.returned (.int .i64 r)∧Below w.heap.size w w':=by
 have hu53:=Try.underlying53
 have HB:=Aside0.mk (Below.refl w.heap.size w)
 have H:=h
 unfold impl_mark.f at H
 clear h
 replace H:=bS H
 obtain ⟨t315,A3,H⟩:=H
 try dsimp only at H
 obtain rfl:=Option.some.inj H
 go_enter Try.func49,Try.ntmps49
 go_wp2_with (first|((with_reducible refine gate_dst (N:=3) rfl ?_);refine bxE (cs:=#[.int .i64 a1_0,.int .i64 a1_1,.int .i64 a1_2]) (t:=53) ?_;intro gb314 hg w4 hbox hb;have BK314:=Aside0.mk hbox;have GW314:=sA hg;have GE314:=sA hg;replace HB:=lB hb;clear hb hbox hg;obtain ⟨hcz5_0,hcz5_1,hcz5_2,hfz5_0,hfz5_1,hfz5_2⟩:=cz3 BK314)|(go_at_call 50;(with_reducible refine (impl_power.calls k a0 (wrap64 (6 - a1_2)) t315 _ A3.out).mono ?_);rintro e w' ⟨rfl,⟨nd,rfl⟩⟩;(try exact dd)))
 repeat (go_quiet (first|((with_reducible refine gate_dst (N:=3) rfl ?_);refine bxE (cs:=#[.int .i64 a1_0,.int .i64 a1_1,.int .i64 a1_2]) (t:=53) ?_;intro gb314 hg w4 hbox hb;have BK314:=Aside0.mk hbox;have GW314:=sA hg;have GE314:=sA hg;replace HB:=lB hb;clear hb hbox hg;obtain ⟨hcz5_0,hcz5_1,hcz5_2,hfz5_0,hfz5_1,hfz5_2⟩:=cz3 BK314)|(go_at_call 50;(with_reducible refine (impl_power.calls k a0 (wrap64 (6 - a1_2)) t315 _ A3.out).mono ?_);rintro e w' ⟨rfl,⟨nd,rfl⟩⟩;(try exact dd)));try go_wp2_with (first|((with_reducible refine gate_dst (N:=3) rfl ?_);refine bxE (cs:=#[.int .i64 a1_0,.int .i64 a1_1,.int .i64 a1_2]) (t:=53) ?_;intro gb314 hg w4 hbox hb;have BK314:=Aside0.mk hbox;have GW314:=sA hg;have GE314:=sA hg;replace HB:=lB hb;clear hb hbox hg;obtain ⟨hcz5_0,hcz5_1,hcz5_2,hfz5_0,hfz5_1,hfz5_2⟩:=cz3 BK314)|(go_at_call 50;(with_reducible refine (impl_power.calls k a0 (wrap64 (6 - a1_2)) t315 _ A3.out).mono ?_);rintro e w' ⟨rfl,⟨nd,rfl⟩⟩;(try exact dd))))
 go_ret
 exact finA blA
end Go.Proofs.Ytnhiehpbkimaeaa.PAll
