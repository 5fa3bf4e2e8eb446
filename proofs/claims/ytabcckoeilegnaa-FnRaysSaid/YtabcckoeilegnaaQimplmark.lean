-- turned out of the kit's print
import Derived.Test.YtabcckoeilegnaaQx
import Derived.Test.YtabcckoeilegnaaQimplmod
namespace Go.Proofs.Ytabcckoeilegnaa.PAll
open Go.RowKit Go.Proofs.YtabcckoeilegnaaW.PrintWords Go.Proofs.YtabcckoeilegnaaW.PrintLast Go.Proofs.YtabcckoeilegnaaW.PrintMore
attribute [local go_sem] Go.Proofs.Ytabcckoeilegnaa.Aux.setCell_drewN Go.Proofs.Ytabcckoeilegnaa.Aux.isSome_setCell max2_int min2_int max_two min_two max_three min_three max_four min_four
set_option linter.unusedVariables false
set_option linter.unusedSimpArgs false
def spec_l01EndOf.f (k:Nat) (a0 a1:Int):Option (Int × Int × Bool):=if a1=0 then (some (1,0,true)) else ((spec_l01Gcd.f k a0 a1).bind fun t220=>(if a1<0 then (if (wrap64 (-t220))=0 then (none) else (if (wrap64 (Int.tdiv a1 (wrap64 (-t220))))≤1000000 then (some (wrap64 (Int.tdiv a0 (wrap64 (-t220))),wrap64 (Int.tdiv a1 (wrap64 (-t220))),decide ((mx (wrap64 (Int.tdiv a0 (wrap64 (-t220)))) (wrap64 (-(wrap64 (Int.tdiv a0 (wrap64 (-t220)))))))≤1000000))) else (some (wrap64 (Int.tdiv a0 (wrap64 (-t220))),wrap64 (Int.tdiv a1 (wrap64 (-t220))),false)))) else (if t220=0 then (none) else (if (wrap64 (Int.tdiv a1 t220))≤1000000 then (some (wrap64 (Int.tdiv a0 t220),wrap64 (Int.tdiv a1 t220),decide ((mx (wrap64 (Int.tdiv a0 t220)) (wrap64 (-(wrap64 (Int.tdiv a0 t220)))))≤1000000))) else (some (wrap64 (Int.tdiv a0 t220),wrap64 (Int.tdiv a1 t220),false))))))
theorem spec_l01EndOf.mono:∀ a0 a1 k,LeO (spec_l01EndOf.f k a0 a1) (spec_l01EndOf.f (k+1) a0 a1):=by
 intro a0 a1 k
 unfold spec_l01EndOf.f
 repeat' first
   | with_reducible first|exact spec_l01Gcd.mono ..|exact LeO.refl _|exact LeO.none _|refine LeO.ite ?_ ?_|refine LeO.bind ?_ fun _=>?_
def spec_l01EndOf.T6:Bool × List (List Nat × List Nat):=(true,[([],[]),([],[]),([0,1],[0,1]),([],[]),([],[]),([3,4],[3,4]),([2,5],[2,5]),([],[]),([7,6,0,1,2,3,4,5,6,7],[6,7])])
def spec_l01EndOf.B6:List Nat:=[0,0,3,0,0,24,63,0,255]
theorem spec_l01EndOf.tab6:rtab .any (opsOf Try.f54 6)=spec_l01EndOf.T6:=by kernel_rfl
theorem spec_l01EndOf.bits6:waitsOk spec_l01EndOf.T6.2 spec_l01EndOf.B6=true:=by kernel_rfl
def spec_l01EndOf.T7:Bool × List (List Nat × List Nat):=(true,[([],[]),([],[]),([1],[1]),([2],[2]),([3],[3]),([4],[4]),([5,4],[4,5]),([4],[4]),([7,4],[4,7]),([8,4],[4,8]),([6,9,4],[4,6,9]),([10,4],[4,10]),([4,11],[4,11]),([0,4,0],[0]),([12,13,0,1,2,3,4,5,6,7,8,9,10,11,12,13],[12])])
def spec_l01EndOf.B7:List Nat:=[0,0,2,6,14,30,62,30,158,414,1022,2046,4094,31,16383]
theorem spec_l01EndOf.tab7:rtab .any (opsOf Try.f54 7)=spec_l01EndOf.T7:=by kernel_rfl
theorem spec_l01EndOf.bits7:waitsOk spec_l01EndOf.T7.2 spec_l01EndOf.B7=true:=by kernel_rfl
set_option maxHeartbeats 8000000 in
set_option maxRecDepth 100000 in
theorem spec_l01EndOf.calls (k:Nat) (a0 a1 r1 r2:Int) (r3:Bool) (w:World) (h:spec_l01EndOf.f k a0 a1=some (r1,r2,r3)) :
  Calls Try.prog 54 #[.int .i64 a0,.int .i64 a1] w fun e w'=>e=.returned (.tuple #[.agg #[.int .i64 r1,.int .i64 r2],.bool r3])∧Below w.heap.size w w':=by
 have hu27:=Try.underlying27
 have HB:=Aside0.mk (Below.refl w.heap.size w)
 have H:=h
 unfold spec_l01EndOf.f at H
 clear h
 by_cases c3:a1=0
 focus
  rw [if_pos c3] at H
  have c3b0:(a1 == 0)=true:=beq_iff_eq.mpr c3
  have c3b1:(a1 != 0)=false:=bne_eq_false_iff_eq.mpr c3
  clear c3
  simp only [Option.some.injEq,Prod.mk.injEq] at H
  obtain ⟨rfl,rfl,rfl⟩:=H
 rotate_left
 focus
  rw [if_neg c3] at H
  have c3b0:(a1 == 0)=false:=beq_eq_false_iff_ne.mpr c3
  have c3b1:(a1 != 0)=true:=bne_iff_ne.mpr c3
  replace H:=bS H
  obtain ⟨t220,A6,H⟩:=H
  try dsimp only at H
  by_cases c7:a1<0
  focus
   rw [if_pos c7] at H
   have c7b0:=decide_eq_true c7
   clear c7
   by_cases c8:(wrap64 (-t220))=0
   ·
    rw [if_pos c8] at H
    exact absurd H (by simp)
   rw [if_neg c8] at H
   have c8b0:((wrap64 (-t220)) == 0)=false:=beq_eq_false_iff_ne.mpr c8
   have c8b1:((wrap64 (-t220)) != 0)=true:=bne_iff_ne.mpr c8
   by_cases c9:(wrap64 (Int.tdiv a1 (wrap64 (-t220))))≤1000000
   focus
    rw [if_pos c9] at H
    have c9b0:=decide_eq_true c9
    clear c9
    obtain ⟨ji10,hji10⟩:∃ j_:Int,(mx (wrap64 (Int.tdiv a0 (wrap64 (-t220)))) (wrap64 (-(wrap64 (Int.tdiv a0 (wrap64 (-t220)))))))=j_:=⟨_,rfl⟩
    replace H:(some (wrap64 (Int.tdiv a0 (wrap64 (-t220))),wrap64 (Int.tdiv a1 (wrap64 (-t220))),decide ((ji10)≤1000000)))=some (r1,r2,r3):=by first|(rw [hji10] at H;exact H)|(simp only [hji10] at H ⊢;exact H)
    (try rw [hji10] at A6)
    have hji10_:(if (wrap64 (Int.tdiv a0 (wrap64 (-t220))))<(wrap64 (-(wrap64 (Int.tdiv a0 (wrap64 (-t220)))))) then (wrap64 (-(wrap64 (Int.tdiv a0 (wrap64 (-t220)))))) else (wrap64 (Int.tdiv a0 (wrap64 (-t220)))))=ji10:=hji10
    simp only [Option.some.injEq,Prod.mk.injEq] at H
    obtain ⟨rfl,rfl,rfl⟩:=H
   rotate_left
   focus
    rw [if_neg c9] at H
    have c9b0:=decide_eq_false c9
    clear c9
    simp only [Option.some.injEq,Prod.mk.injEq] at H
    obtain ⟨rfl,rfl,rfl⟩:=H
   rotate_left
  rotate_left 2
  focus
   rw [if_neg c7] at H
   have c7b0:=decide_eq_false c7
   clear c7
   by_cases c31:t220=0
   ·
    rw [if_pos c31] at H
    exact absurd H (by simp)
   rw [if_neg c31] at H
   have c31b0:(t220 == 0)=false:=beq_eq_false_iff_ne.mpr c31
   have c31b1:(t220 != 0)=true:=bne_iff_ne.mpr c31
   by_cases c32:(wrap64 (Int.tdiv a1 t220))≤1000000
   focus
    rw [if_pos c32] at H
    have c32b0:=decide_eq_true c32
    clear c32
    obtain ⟨ji33,hji33⟩:∃ j_:Int,(mx (wrap64 (Int.tdiv a0 t220)) (wrap64 (-(wrap64 (Int.tdiv a0 t220)))))=j_:=⟨_,rfl⟩
    replace H:(some (wrap64 (Int.tdiv a0 t220),wrap64 (Int.tdiv a1 t220),decide ((ji33)≤1000000)))=some (r1,r2,r3):=by first|(rw [hji33] at H;exact H)|(simp only [hji33] at H ⊢;exact H)
    (try rw [hji33] at A6)
    have hji33_:(if (wrap64 (Int.tdiv a0 t220))<(wrap64 (-(wrap64 (Int.tdiv a0 t220)))) then (wrap64 (-(wrap64 (Int.tdiv a0 t220)))) else (wrap64 (Int.tdiv a0 t220)))=ji33:=hji33
    simp only [Option.some.injEq,Prod.mk.injEq] at H
    obtain ⟨rfl,rfl,rfl⟩:=H
   rotate_left
   focus
    rw [if_neg c32] at H
    have c32b0:=decide_eq_false c32
    clear c32
    simp only [Option.some.injEq,Prod.mk.injEq] at H
    obtain ⟨rfl,rfl,rfl⟩:=H
   rotate_left
  rotate_left 2
 rotate_left 4
 all_goals
  go_enter Try.func54,Try.ntmps54
 ·
  go_wp2_with (first|((with_reducible refine gate_dst (N:=4) rfl ?_);(try (refine gate_guard (by rfl) ?_;dsimp only));refine bxE (cs:=#[.int .i64 0,.int .i64 0]) (t:=27) ?_;intro gb219 hg w4 hbox hb;have n0_:=lB hb;have n1_:=Aside0.mk hbox;have n2_:=sA hg;have n3_:=sA hg;clear HB;have HB:=n0_;have BK219:=n1_;have GW219:=n2_;have GE219:=n3_;clear n0_ n1_ n2_ n3_;clear hb hbox hg;obtain ⟨hcz5_0,hcz5_1,hfz5_0,hfz5_1⟩:=cz2 BK219))
  refine bodyPost_ret (results_ct rfl _ _ gb219 27 #[.int .i64 1,.int .i64 0] (0,0) _ rfl (bpA BK219) Try.underlying27 rfl (by kernel_rfl)) rfl ?_
  exact finA blA
 rotate_left 4
 all_goals
  try go_wp2_with (first|((with_reducible refine gate_dst (N:=4) rfl ?_);(try (refine gate_guard (by rfl) ?_;dsimp only));refine bxE (cs:=#[.int .i64 0,.int .i64 0]) (t:=27) ?_;intro gb219 hg w11 hbox hb;have n0_:=lB hb;have n1_:=Aside0.mk hbox;have n2_:=sA hg;have n3_:=sA hg;clear HB;have HB:=n0_;have BK219:=n1_;have GW219:=n2_;have GE219:=n3_;clear n0_ n1_ n2_ n3_;clear hb hbox hg)|((with_reducible refine gd 13 rfl ?_);refine gC (some 13) rfl Try.func83 (spec_l01Gcd.calls (w:=_) (h:=A6.out)) ?_;intro w12 hb;have n0_:=kB BK219 hb;have n1_:=lB hb;clear BK219;clear HB;have BK219:=n0_;have HB:=n1_;clear n0_ n1_;clear hb))
  have n0_:=Aside0.mk (blk_drew BK219.out)
  have n1_:=Aside0.mk (below_drew1 HB.out)
  clear BK219
  clear HB
  have BK219:=n0_
  have HB:=n1_
  clear n0_ n1_
  refine start_ (n:=9) (S:=fun w'=>True) (ds:=[]) #[Z,Z,Z,Z,Z,Z,Z,Z,Z] (by kernel_rfl) rfl rfl trivial (fun hHeld=>?_);refine with_tabW spec_l01EndOf.tab6 spec_l01EndOf.bits6 (fun HT_ HW_=>?_)
  generalize w12.drew=w13 at BK219 HB hHeld ⊢
  refine puA (i:=0) (N:=some 18) #[Y,Z,Z,Z,Z,Z,Z,Z,Z] rfl rfl HT_ ?_
  refine puA (i:=1) (N:=some 19) #[Y,Y,Z,Z,Z,Z,Z,Z,Z] rfl rfl HT_ ?_
  refine puA (i:=2) (N:=some 20) #[Y,Y,Y,Z,Z,Z,Z,Z,Z] rfl rfl HT_ ?_
  refine puA (i:=3) (N:=some 21) #[Y,Y,Y,Y,Z,Z,Z,Z,Z] rfl rfl HT_ ?_
  refine puA (i:=4) (N:=some 22) #[Y,Y,Y,Y,Y,Z,Z,Z,Z] rfl rfl HT_ ?_
  refine puA (i:=5) (N:=some 23) #[Y,Y,Y,Y,Y,Y,Z,Z,Z] rfl rfl HT_ ?_
  refine puA (i:=6) (N:=some 24) #[Y,Y,Y,Y,Y,Y,Y,Z,Z] rfl rfl HT_ ?_
  refine one_ (i:=7) (N:=some 7) #[Y,Y,Y,Y,Y,Y,Y,Y,Z] rfl rfl (one_of HT_.out (by kernel_rfl)) (by decide) (fun K hK=>?_)
  refine box_step ?hg (N:=7) ?hd (cs:=#[.int .i64 0,.int .i64 0]) (t:=27) ?hr ?_;(case hd=>rfl);(case hg=>rfl);(case hr=>first|(go_simp;done)|(go_simp;rfl))
  intro gb221 hg w14 hbox hb
  have BK221:=Aside0.mk hbox
  have GW221:=sA hg
  have GE221:=sA hg
  have NB219_221:=nA hg BK219
  have NB221_219:=nB hg BK219
  replace BK219:=kB BK219 hb
  replace HB:=lB hb
  clear hb hbox hg
  refine hK.out _ _ trivial (fun hHeld=>?_)
  clear hK K
  refine nmA ?_
  refine one_ (i:=8) (N:=none) #[Y,Y,Y,Y,Y,Y,Y,Y,Y] rfl rfl (one_of HT_.out (by kernel_rfl)) (by decide) (fun K hK=>?_)
  have hs15:w14.cell? ⟨gb221,0,none⟩=some (.int .i64 0):=cA BK221 0
  have hfs15:=blk_frozen BK221.out 0
  have hns15_0:=NB219_221.out
  have hms15_0:=NB221_219.out
  have hs16:w14.cell? ⟨gb221,1,none⟩=some (.int .i64 0):=cA BK221 1
  have hfs16:=blk_frozen BK221.out 1
  have hns16_0:=NB219_221.out
  have hms16_0:=NB221_219.out
  refine skip_ (w1:=?_) (by rfl) rfl ?_ ?_
  rotate_left
  ·
   go_simp
   rfl
  refine hK.out _ _ trivial (fun hHeld=>?_)
  clear hK K
  refine done_ (done_of HT_.out (by kernel_rfl)) ?_
 rotate_left 2
 ·
  try go_wp2
  have n0_:Aside0 (((w14.setCell ⟨gb221,0,none⟩ (.int .i64 (wrap64 (Int.tdiv a0 t220)))).setCell ⟨gb221,1,none⟩ (.int .i64 (wrap64 (Int.tdiv a1 t220)))).heap[gb219]?=some (.cells #[.int .i64 0,.int .i64 0] 27 (0,0))):=⟨bkF BK219⟩
  have n1_:Aside0 (((w14.setCell ⟨gb221,0,none⟩ (.int .i64 (wrap64 (Int.tdiv a0 t220)))).setCell ⟨gb221,1,none⟩ (.int .i64 (wrap64 (Int.tdiv a1 t220)))).heap[gb221]?=some (.cells #[.int .i64 (wrap64 (Int.tdiv a0 t220)),.int .i64 (wrap64 (Int.tdiv a1 t220))] 27 (0,0))):=⟨bpA BK221⟩
  have n2_:Aside0 (Below w.heap.size w ((w14.setCell ⟨gb221,0,none⟩ (.int .i64 (wrap64 (Int.tdiv a0 t220)))).setCell ⟨gb221,1,none⟩ (.int .i64 (wrap64 (Int.tdiv a1 t220))))):=⟨blA⟩
  (try clear BK219)
  (try clear BK221)
  (try clear HB)
  generalize ((w14.setCell ⟨gb221,0,none⟩ (.int .i64 (wrap64 (Int.tdiv a0 t220)))).setCell ⟨gb221,1,none⟩ (.int .i64 (wrap64 (Int.tdiv a1 t220))))=w40 at n0_ n1_ n2_ ⊢
  have BK219:=n0_
  have BK221:=n1_
  have HB:=n2_
  clear n0_ n1_ n2_
  have n0_:=Aside0.mk (blk_drew BK219.out)
  have n1_:=Aside0.mk (blk_drew BK221.out)
  have n2_:=Aside0.mk (below_drew1 HB.out)
  clear BK219
  clear BK221
  clear HB
  have BK219:=n0_
  have BK221:=n1_
  have HB:=n2_
  clear n0_ n1_ n2_
  refine start_ (n:=15) (S:=fun w'=>w'.cell? ⟨gb221,0,none⟩=some (.int .i64 (wrap64 (Int.tdiv a0 t220)))∧w'.cell? ⟨gb221,1,none⟩=some (.int .i64 (wrap64 (Int.tdiv a1 t220)))) (ds:=[]) #[Z,Z,Z,Z,Z,Z,Z,Z,Z,Z,Z,Z,Z,Z,Z] (by kernel_rfl) rfl rfl ⟨cA BK221 0,cA BK221 1⟩ (fun hHeld=>?_);refine with_tabW spec_l01EndOf.tab7 spec_l01EndOf.bits7 (fun HT_ HW_=>?_)
  generalize w40.drew=w41 at BK219 BK221 HB hHeld ⊢
  refine puA (i:=1) (N:=some 26) #[Z,Y,Z,Z,Z,Z,Z,Z,Z,Z,Z,Z,Z,Z,Z] rfl rfl HT_ ?_
  refine taA (i:=0) (N:=some 25) #[Y,Y,Z,Z,Z,Z,Z,Z,Z,Z,Z,Z,Z,Z,Z] rfl rfl HT_ HW_ hHeld ?_
  refine taA (i:=2) (N:=some 27) #[Y,Y,Y,Z,Z,Z,Z,Z,Z,Z,Z,Z,Z,Z,Z] rfl rfl HT_ HW_ hHeld ?_
  refine puA (i:=3) (N:=some 28) #[Y,Y,Y,Y,Z,Z,Z,Z,Z,Z,Z,Z,Z,Z,Z] rfl rfl HT_ ?_
  refine puA (i:=4) (N:=some 29) #[Y,Y,Y,Y,Y,Z,Z,Z,Z,Z,Z,Z,Z,Z,Z] rfl rfl HT_ ?_
  refine puA (i:=5) (N:=some 30) #[Y,Y,Y,Y,Y,Y,Z,Z,Z,Z,Z,Z,Z,Z,Z] rfl rfl HT_ ?_
  refine puA (i:=7) (N:=some 32) #[Y,Y,Y,Y,Y,Y,Z,Y,Z,Z,Z,Z,Z,Z,Z] rfl rfl HT_ ?_
  refine taA (i:=6) (N:=some 31) #[Y,Y,Y,Y,Y,Y,Y,Y,Z,Z,Z,Z,Z,Z,Z] rfl rfl HT_ HW_ hHeld ?_
  refine taA (i:=8) (N:=some 33) #[Y,Y,Y,Y,Y,Y,Y,Y,Y,Z,Z,Z,Z,Z,Z] rfl rfl HT_ HW_ hHeld ?_
  refine puA (i:=9) (N:=some 34) #[Y,Y,Y,Y,Y,Y,Y,Y,Y,Y,Z,Z,Z,Z,Z] rfl rfl HT_ ?_
  refine puA (i:=10) (N:=some 35) #[Y,Y,Y,Y,Y,Y,Y,Y,Y,Y,Y,Z,Z,Z,Z] rfl rfl HT_ ?_
  refine puA (i:=11) (N:=some 36) #[Y,Y,Y,Y,Y,Y,Y,Y,Y,Y,Y,Y,Z,Z,Z] rfl rfl HT_ ?_
  refine puA (i:=12) (N:=some 37) #[Y,Y,Y,Y,Y,Y,Y,Y,Y,Y,Y,Y,Y,Z,Z] rfl rfl HT_ ?_
  refine one_ (i:=13) (N:=none) #[Y,Y,Y,Y,Y,Y,Y,Y,Y,Y,Y,Y,Y,Y,Z] rfl rfl (one_of HT_.out (by kernel_rfl)) (by decide) (fun K hK=>?_)
  have hs42:w41.cell? ⟨gb219,0,none⟩=some (.int .i64 0):=cA BK219 0
  have hfs42:=blk_frozen BK219.out 0
  have hns42_1:=NB221_219.out
  have hms42_1:=NB219_221.out
  have hs43:w41.cell? ⟨gb219,1,none⟩=some (.int .i64 0):=cA BK219 1
  have hfs43:=blk_frozen BK219.out 1
  have hns43_1:=NB221_219.out
  have hms43_1:=NB219_221.out
  refine skip_ (w1:=?_) (by rfl) rfl ?_ ?_
  rotate_left
  ·
   go_simp
   rfl
  refine hK.out _ _ ⟨cfA hHeld.1,cfA hHeld.2⟩ (fun hHeld=>?_)
  clear hK K
  refine puA (i:=14) (N:=some 5) #[Y,Y,Y,Y,Y,Y,Y,Y,Y,Y,Y,Y,Y,Y,Y] rfl rfl HT_ ?_
  refine done_ (done_of HT_.out (by kernel_rfl)) ?_
  try go_wp2
  refine bodyPost_ret (results_ct rfl _ _ gb219 27 #[.int .i64 (wrap64 (Int.tdiv a0 t220)),.int .i64 (wrap64 (Int.tdiv a1 t220))] (0,0) _ rfl (bpA BK219) Try.underlying27 rfl (by kernel_rfl)) rfl ?_
  exact ⟨by first|rfl|(simp [errW_none,errW_some] <;> rfl)|(simp only [← hji33];first|rfl|(simp [errW_none,errW_some] <;> rfl))|(simp [*,errW_none,errW_some] <;> rfl),blA⟩
 ·
  try go_wp2
  have n0_:Aside0 (((w14.setCell ⟨gb221,0,none⟩ (.int .i64 (wrap64 (Int.tdiv a0 t220)))).setCell ⟨gb221,1,none⟩ (.int .i64 (wrap64 (Int.tdiv a1 t220)))).heap[gb219]?=some (.cells #[.int .i64 0,.int .i64 0] 27 (0,0))):=⟨bkF BK219⟩
  have n1_:Aside0 (((w14.setCell ⟨gb221,0,none⟩ (.int .i64 (wrap64 (Int.tdiv a0 t220)))).setCell ⟨gb221,1,none⟩ (.int .i64 (wrap64 (Int.tdiv a1 t220)))).heap[gb221]?=some (.cells #[.int .i64 (wrap64 (Int.tdiv a0 t220)),.int .i64 (wrap64 (Int.tdiv a1 t220))] 27 (0,0))):=⟨bpA BK221⟩
  have n2_:Aside0 (Below w.heap.size w ((w14.setCell ⟨gb221,0,none⟩ (.int .i64 (wrap64 (Int.tdiv a0 t220)))).setCell ⟨gb221,1,none⟩ (.int .i64 (wrap64 (Int.tdiv a1 t220))))):=⟨blA⟩
  (try clear BK219)
  (try clear BK221)
  (try clear HB)
  generalize ((w14.setCell ⟨gb221,0,none⟩ (.int .i64 (wrap64 (Int.tdiv a0 t220)))).setCell ⟨gb221,1,none⟩ (.int .i64 (wrap64 (Int.tdiv a1 t220))))=w40 at n0_ n1_ n2_ ⊢
  have BK219:=n0_
  have BK221:=n1_
  have HB:=n2_
  clear n0_ n1_ n2_
  have n0_:=Aside0.mk (blk_drew BK219.out)
  have n1_:=Aside0.mk (blk_drew BK221.out)
  have n2_:=Aside0.mk (below_drew1 HB.out)
  clear BK219
  clear BK221
  clear HB
  have BK219:=n0_
  have BK221:=n1_
  have HB:=n2_
  clear n0_ n1_ n2_
  refine start_ (n:=15) (S:=fun w'=>w'.cell? ⟨gb221,0,none⟩=some (.int .i64 (wrap64 (Int.tdiv a0 t220)))∧w'.cell? ⟨gb221,1,none⟩=some (.int .i64 (wrap64 (Int.tdiv a1 t220)))) (ds:=[]) #[Z,Z,Z,Z,Z,Z,Z,Z,Z,Z,Z,Z,Z,Z,Z] (by kernel_rfl) rfl rfl ⟨cA BK221 0,cA BK221 1⟩ (fun hHeld=>?_);refine with_tabW spec_l01EndOf.tab7 spec_l01EndOf.bits7 (fun HT_ HW_=>?_)
  generalize w40.drew=w51 at BK219 BK221 HB hHeld ⊢
  refine puA (i:=1) (N:=some 26) #[Z,Y,Z,Z,Z,Z,Z,Z,Z,Z,Z,Z,Z,Z,Z] rfl rfl HT_ ?_
  refine taA (i:=0) (N:=some 25) #[Y,Y,Z,Z,Z,Z,Z,Z,Z,Z,Z,Z,Z,Z,Z] rfl rfl HT_ HW_ hHeld ?_
  refine taA (i:=2) (N:=some 27) #[Y,Y,Y,Z,Z,Z,Z,Z,Z,Z,Z,Z,Z,Z,Z] rfl rfl HT_ HW_ hHeld ?_
  refine puA (i:=3) (N:=some 28) #[Y,Y,Y,Y,Z,Z,Z,Z,Z,Z,Z,Z,Z,Z,Z] rfl rfl HT_ ?_
  refine puA (i:=4) (N:=some 29) #[Y,Y,Y,Y,Y,Z,Z,Z,Z,Z,Z,Z,Z,Z,Z] rfl rfl HT_ ?_
  refine puU (i:=5) (N:=some 30) #[Y,Y,Y,Y,Y,Y,Z,Z,Z,Z,Z,Z,Z,Z,Z] rfl rfl HT_ ?_
  refine puU (i:=6) (N:=some 31) #[Y,Y,Y,Y,Y,Y,Y,Z,Z,Z,Z,Z,Z,Z,Z] rfl rfl HT_ ?_
  refine puU (i:=7) (N:=some 32) #[Y,Y,Y,Y,Y,Y,Y,Y,Z,Z,Z,Z,Z,Z,Z] rfl rfl HT_ ?_
  refine puU (i:=8) (N:=some 33) #[Y,Y,Y,Y,Y,Y,Y,Y,Y,Z,Z,Z,Z,Z,Z] rfl rfl HT_ ?_
  refine puU (i:=9) (N:=some 34) #[Y,Y,Y,Y,Y,Y,Y,Y,Y,Y,Z,Z,Z,Z,Z] rfl rfl HT_ ?_
  refine puU (i:=10) (N:=some 35) #[Y,Y,Y,Y,Y,Y,Y,Y,Y,Y,Y,Z,Z,Z,Z] rfl rfl HT_ ?_
  refine puU (i:=11) (N:=some 36) #[Y,Y,Y,Y,Y,Y,Y,Y,Y,Y,Y,Y,Z,Z,Z] rfl rfl HT_ ?_
  refine puA (i:=12) (N:=some 37) #[Y,Y,Y,Y,Y,Y,Y,Y,Y,Y,Y,Y,Y,Z,Z] rfl rfl HT_ ?_
  refine one_ (i:=13) (N:=none) #[Y,Y,Y,Y,Y,Y,Y,Y,Y,Y,Y,Y,Y,Y,Z] rfl rfl (one_of HT_.out (by kernel_rfl)) (by decide) (fun K hK=>?_)
  have hs52:w51.cell? ⟨gb219,0,none⟩=some (.int .i64 0):=cA BK219 0
  have hfs52:=blk_frozen BK219.out 0
  have hns52_1:=NB221_219.out
  have hms52_1:=NB219_221.out
  have hs53:w51.cell? ⟨gb219,1,none⟩=some (.int .i64 0):=cA BK219 1
  have hfs53:=blk_frozen BK219.out 1
  have hns53_1:=NB221_219.out
  have hms53_1:=NB219_221.out
  refine skip_ (w1:=?_) (by rfl) rfl ?_ ?_
  rotate_left
  ·
   go_simp
   rfl
  refine hK.out _ _ ⟨cfA hHeld.1,cfA hHeld.2⟩ (fun hHeld=>?_)
  clear hK K
  refine puA (i:=14) (N:=some 5) #[Y,Y,Y,Y,Y,Y,Y,Y,Y,Y,Y,Y,Y,Y,Y] rfl rfl HT_ ?_
  refine done_ (done_of HT_.out (by kernel_rfl)) ?_
  try go_wp2
  refine bodyPost_ret (results_ct rfl _ _ gb219 27 #[.int .i64 (wrap64 (Int.tdiv a0 t220)),.int .i64 (wrap64 (Int.tdiv a1 t220))] (0,0) _ rfl (bpA BK219) Try.underlying27 rfl (by kernel_rfl)) rfl ?_
  exact finA blA
 all_goals
  try go_wp2
  have n0_:Aside0 (((w14.setCell ⟨gb221,0,none⟩ (.int .i64 (wrap64 (Int.tdiv a0 (wrap64 (-t220)))))).setCell ⟨gb221,1,none⟩ (.int .i64 (wrap64 (Int.tdiv a1 (wrap64 (-t220)))))).heap[gb219]?=some (.cells #[.int .i64 0,.int .i64 0] 27 (0,0))):=⟨bkF BK219⟩
  have n1_:Aside0 (((w14.setCell ⟨gb221,0,none⟩ (.int .i64 (wrap64 (Int.tdiv a0 (wrap64 (-t220)))))).setCell ⟨gb221,1,none⟩ (.int .i64 (wrap64 (Int.tdiv a1 (wrap64 (-t220)))))).heap[gb221]?=some (.cells #[.int .i64 (wrap64 (Int.tdiv a0 (wrap64 (-t220)))),.int .i64 (wrap64 (Int.tdiv a1 (wrap64 (-t220))))] 27 (0,0))):=⟨bpA BK221⟩
  have n2_:Aside0 (Below w.heap.size w ((w14.setCell ⟨gb221,0,none⟩ (.int .i64 (wrap64 (Int.tdiv a0 (wrap64 (-t220)))))).setCell ⟨gb221,1,none⟩ (.int .i64 (wrap64 (Int.tdiv a1 (wrap64 (-t220))))))):=⟨blA⟩
  (try clear BK219)
  (try clear BK221)
  (try clear HB)
  generalize ((w14.setCell ⟨gb221,0,none⟩ (.int .i64 (wrap64 (Int.tdiv a0 (wrap64 (-t220)))))).setCell ⟨gb221,1,none⟩ (.int .i64 (wrap64 (Int.tdiv a1 (wrap64 (-t220))))))=w17 at n0_ n1_ n2_ ⊢
  have BK219:=n0_
  have BK221:=n1_
  have HB:=n2_
  clear n0_ n1_ n2_
  have n0_:=Aside0.mk (blk_drew BK219.out)
  have n1_:=Aside0.mk (blk_drew BK221.out)
  have n2_:=Aside0.mk (below_drew1 HB.out)
  clear BK219
  clear BK221
  clear HB
  have BK219:=n0_
  have BK221:=n1_
  have HB:=n2_
  clear n0_ n1_ n2_
 ·
  refine start_ (n:=15) (S:=fun w'=>w'.cell? ⟨gb221,0,none⟩=some (.int .i64 (wrap64 (Int.tdiv a0 (wrap64 (-t220)))))∧w'.cell? ⟨gb221,1,none⟩=some (.int .i64 (wrap64 (Int.tdiv a1 (wrap64 (-t220)))))) (ds:=[]) #[Z,Z,Z,Z,Z,Z,Z,Z,Z,Z,Z,Z,Z,Z,Z] (by kernel_rfl) rfl rfl ⟨cA BK221 0,cA BK221 1⟩ (fun hHeld=>?_);refine with_tabW spec_l01EndOf.tab7 spec_l01EndOf.bits7 (fun HT_ HW_=>?_)
  generalize w17.drew=w18 at BK219 BK221 HB hHeld ⊢
  refine puA (i:=1) (N:=some 26) #[Z,Y,Z,Z,Z,Z,Z,Z,Z,Z,Z,Z,Z,Z,Z] rfl rfl HT_ ?_
  refine taA (i:=0) (N:=some 25) #[Y,Y,Z,Z,Z,Z,Z,Z,Z,Z,Z,Z,Z,Z,Z] rfl rfl HT_ HW_ hHeld ?_
  refine taA (i:=2) (N:=some 27) #[Y,Y,Y,Z,Z,Z,Z,Z,Z,Z,Z,Z,Z,Z,Z] rfl rfl HT_ HW_ hHeld ?_
  refine puA (i:=3) (N:=some 28) #[Y,Y,Y,Y,Z,Z,Z,Z,Z,Z,Z,Z,Z,Z,Z] rfl rfl HT_ ?_
  refine puA (i:=4) (N:=some 29) #[Y,Y,Y,Y,Y,Z,Z,Z,Z,Z,Z,Z,Z,Z,Z] rfl rfl HT_ ?_
  refine puA (i:=5) (N:=some 30) #[Y,Y,Y,Y,Y,Y,Z,Z,Z,Z,Z,Z,Z,Z,Z] rfl rfl HT_ ?_
  refine puA (i:=7) (N:=some 32) #[Y,Y,Y,Y,Y,Y,Z,Y,Z,Z,Z,Z,Z,Z,Z] rfl rfl HT_ ?_
  refine taA (i:=6) (N:=some 31) #[Y,Y,Y,Y,Y,Y,Y,Y,Z,Z,Z,Z,Z,Z,Z] rfl rfl HT_ HW_ hHeld ?_
  refine taA (i:=8) (N:=some 33) #[Y,Y,Y,Y,Y,Y,Y,Y,Y,Z,Z,Z,Z,Z,Z] rfl rfl HT_ HW_ hHeld ?_
  refine puA (i:=9) (N:=some 34) #[Y,Y,Y,Y,Y,Y,Y,Y,Y,Y,Z,Z,Z,Z,Z] rfl rfl HT_ ?_
  refine puA (i:=10) (N:=some 35) #[Y,Y,Y,Y,Y,Y,Y,Y,Y,Y,Y,Z,Z,Z,Z] rfl rfl HT_ ?_
  refine puA (i:=11) (N:=some 36) #[Y,Y,Y,Y,Y,Y,Y,Y,Y,Y,Y,Y,Z,Z,Z] rfl rfl HT_ ?_
  refine puA (i:=12) (N:=some 37) #[Y,Y,Y,Y,Y,Y,Y,Y,Y,Y,Y,Y,Y,Z,Z] rfl rfl HT_ ?_
  refine one_ (i:=13) (N:=none) #[Y,Y,Y,Y,Y,Y,Y,Y,Y,Y,Y,Y,Y,Y,Z] rfl rfl (one_of HT_.out (by kernel_rfl)) (by decide) (fun K hK=>?_)
  have hs19:w18.cell? ⟨gb219,0,none⟩=some (.int .i64 0):=cA BK219 0
  have hfs19:=blk_frozen BK219.out 0
  have hns19_1:=NB221_219.out
  have hms19_1:=NB219_221.out
  have hs20:w18.cell? ⟨gb219,1,none⟩=some (.int .i64 0):=cA BK219 1
  have hfs20:=blk_frozen BK219.out 1
  have hns20_1:=NB221_219.out
  have hms20_1:=NB219_221.out
  refine skip_ (w1:=?_) (by rfl) rfl ?_ ?_
  rotate_left
  ·
   go_simp
   rfl
  refine hK.out _ _ ⟨cfA hHeld.1,cfA hHeld.2⟩ (fun hHeld=>?_)
  clear hK K
  refine puA (i:=14) (N:=some 5) #[Y,Y,Y,Y,Y,Y,Y,Y,Y,Y,Y,Y,Y,Y,Y] rfl rfl HT_ ?_
  refine done_ (done_of HT_.out (by kernel_rfl)) ?_
  try go_wp2
  refine bodyPost_ret (results_ct rfl _ _ gb219 27 #[.int .i64 (wrap64 (Int.tdiv a0 (wrap64 (-t220)))),.int .i64 (wrap64 (Int.tdiv a1 (wrap64 (-t220))))] (0,0) _ rfl (bpA BK219) Try.underlying27 rfl (by kernel_rfl)) rfl ?_
  exact ⟨by first|rfl|(simp [errW_none,errW_some] <;> rfl)|(simp only [← hji10];first|rfl|(simp [errW_none,errW_some] <;> rfl))|(simp [*,errW_none,errW_some] <;> rfl),blA⟩
 ·
  refine start_ (n:=15) (S:=fun w'=>w'.cell? ⟨gb221,0,none⟩=some (.int .i64 (wrap64 (Int.tdiv a0 (wrap64 (-t220)))))∧w'.cell? ⟨gb221,1,none⟩=some (.int .i64 (wrap64 (Int.tdiv a1 (wrap64 (-t220)))))) (ds:=[]) #[Z,Z,Z,Z,Z,Z,Z,Z,Z,Z,Z,Z,Z,Z,Z] (by kernel_rfl) rfl rfl ⟨cA BK221 0,cA BK221 1⟩ (fun hHeld=>?_);refine with_tabW spec_l01EndOf.tab7 spec_l01EndOf.bits7 (fun HT_ HW_=>?_)
  generalize w17.drew=w28 at BK219 BK221 HB hHeld ⊢
  refine puA (i:=1) (N:=some 26) #[Z,Y,Z,Z,Z,Z,Z,Z,Z,Z,Z,Z,Z,Z,Z] rfl rfl HT_ ?_
  refine taA (i:=0) (N:=some 25) #[Y,Y,Z,Z,Z,Z,Z,Z,Z,Z,Z,Z,Z,Z,Z] rfl rfl HT_ HW_ hHeld ?_
  refine taA (i:=2) (N:=some 27) #[Y,Y,Y,Z,Z,Z,Z,Z,Z,Z,Z,Z,Z,Z,Z] rfl rfl HT_ HW_ hHeld ?_
  refine puA (i:=3) (N:=some 28) #[Y,Y,Y,Y,Z,Z,Z,Z,Z,Z,Z,Z,Z,Z,Z] rfl rfl HT_ ?_
  refine puA (i:=4) (N:=some 29) #[Y,Y,Y,Y,Y,Z,Z,Z,Z,Z,Z,Z,Z,Z,Z] rfl rfl HT_ ?_
  refine puU (i:=5) (N:=some 30) #[Y,Y,Y,Y,Y,Y,Z,Z,Z,Z,Z,Z,Z,Z,Z] rfl rfl HT_ ?_
  refine puU (i:=6) (N:=some 31) #[Y,Y,Y,Y,Y,Y,Y,Z,Z,Z,Z,Z,Z,Z,Z] rfl rfl HT_ ?_
  refine puU (i:=7) (N:=some 32) #[Y,Y,Y,Y,Y,Y,Y,Y,Z,Z,Z,Z,Z,Z,Z] rfl rfl HT_ ?_
  refine puU (i:=8) (N:=some 33) #[Y,Y,Y,Y,Y,Y,Y,Y,Y,Z,Z,Z,Z,Z,Z] rfl rfl HT_ ?_
  refine puU (i:=9) (N:=some 34) #[Y,Y,Y,Y,Y,Y,Y,Y,Y,Y,Z,Z,Z,Z,Z] rfl rfl HT_ ?_
  refine puU (i:=10) (N:=some 35) #[Y,Y,Y,Y,Y,Y,Y,Y,Y,Y,Y,Z,Z,Z,Z] rfl rfl HT_ ?_
  refine puU (i:=11) (N:=some 36) #[Y,Y,Y,Y,Y,Y,Y,Y,Y,Y,Y,Y,Z,Z,Z] rfl rfl HT_ ?_
  refine puA (i:=12) (N:=some 37) #[Y,Y,Y,Y,Y,Y,Y,Y,Y,Y,Y,Y,Y,Z,Z] rfl rfl HT_ ?_
  refine one_ (i:=13) (N:=none) #[Y,Y,Y,Y,Y,Y,Y,Y,Y,Y,Y,Y,Y,Y,Z] rfl rfl (one_of HT_.out (by kernel_rfl)) (by decide) (fun K hK=>?_)
  have hs29:w28.cell? ⟨gb219,0,none⟩=some (.int .i64 0):=cA BK219 0
  have hfs29:=blk_frozen BK219.out 0
  have hns29_1:=NB221_219.out
  have hms29_1:=NB219_221.out
  have hs30:w28.cell? ⟨gb219,1,none⟩=some (.int .i64 0):=cA BK219 1
  have hfs30:=blk_frozen BK219.out 1
  have hns30_1:=NB221_219.out
  have hms30_1:=NB219_221.out
  refine skip_ (w1:=?_) (by rfl) rfl ?_ ?_
  rotate_left
  ·
   go_simp
   rfl
  refine hK.out _ _ ⟨cfA hHeld.1,cfA hHeld.2⟩ (fun hHeld=>?_)
  clear hK K
  refine puA (i:=14) (N:=some 5) #[Y,Y,Y,Y,Y,Y,Y,Y,Y,Y,Y,Y,Y,Y,Y] rfl rfl HT_ ?_
  refine done_ (done_of HT_.out (by kernel_rfl)) ?_
  try go_wp2
  refine bodyPost_ret (results_ct rfl _ _ gb219 27 #[.int .i64 (wrap64 (Int.tdiv a0 (wrap64 (-t220)))),.int .i64 (wrap64 (Int.tdiv a1 (wrap64 (-t220))))] (0,0) _ rfl (bpA BK219) Try.underlying27 rfl (by kernel_rfl)) rfl ?_
  exact finA blA
def impl_IsBall.j0:Nat→Int→Bool→Int→Int→Int→Option (Bool)
 | 0,_,_,_,_,_=>none
 | k+1,x0,x24,x343000,x343001,x343002=>if x24=true then (some false) else (if (wrap64 (x343000+x343002))≤0 then (if x343001=0 then (some (x343002 == 0)) else (some false)) else (if x343001≥0 then ((impl_power.f k x0 (wrap64 (x343000+x343002))).bind fun t345=>(if x343001<t345 then (if x343002=0 then (some true) else (if x0=0 then (none) else (some ((Int.tmod x343001 x0) != 0)))) else (some false))) else (some false)))
def impl_IsBall.f (k:Nat) (a0 a1_0 a1_1 a1_2:Int):Option (Bool):=(impl_isPrime.f a0).bind fun t343=>(if t343=true then ((impl_isLevel.f a1_0).bind fun t344=>(if t344=true then (if a1_2<0 then (impl_IsBall.j0 k a0 true a1_0 a1_1 a1_2) else (impl_IsBall.j0 k a0 (decide (a1_2>6)) a1_0 a1_1 a1_2)) else (impl_IsBall.j0 k a0 true a1_0 a1_1 a1_2))) else (impl_IsBall.j0 k a0 true a1_0 a1_1 a1_2))
theorem impl_IsBall.mono_l:∀ k,(∀ y0 y1 y2 y3 y4,LeO (impl_IsBall.j0 k y0 y1 y2 y3 y4) (impl_IsBall.j0 (k+1) y0 y1 y2 y3 y4))
 | 0=>fun _ _ _ _ _ r h=>by simp [impl_IsBall.j0] at h
 | k+1=>by
  have ih0:=impl_IsBall.mono_l k
  ·
   intro y0 y1 y2 y3 y4
   unfold impl_IsBall.j0
   repeat' first
   | with_reducible first|exact ih0 ..|exact impl_power.mono ..|exact LeO.refl _|exact LeO.none _|refine LeO.ite ?_ ?_|refine LeO.bind ?_ fun _=>?_
theorem impl_IsBall.mono:∀ a0 a1 a2 a3 k,LeO (impl_IsBall.f k a0 a1 a2 a3) (impl_IsBall.f (k+1) a0 a1 a2 a3):=by
 intro a0 a1 a2 a3 k
 have ih0:=impl_IsBall.mono_l k
 unfold impl_IsBall.f
 repeat' first
   | with_reducible first|exact ih0 ..|exact impl_power.mono ..|exact LeO.refl _|exact LeO.none _|refine LeO.ite ?_ ?_|refine LeO.bind ?_ fun _=>?_
set_option maxHeartbeats 8000000 in
set_option maxRecDepth 100000 in
theorem impl_IsBall.calls (k:Nat) (a0 a1_0 a1_1 a1_2:Int) (r:Bool) (w:World) (h:impl_IsBall.f k a0 a1_0 a1_1 a1_2=some r) :
  Calls Try.prog 27 #[.int .i64 a0,.agg #[.int .i64 a1_0,.int .i64 a1_1,.int .i64 a1_2]] w fun e w'=>e=.returned (.bool r)∧Below w.heap.size w w':=by
 have hu25:=Try.underlying25
 have HB:=Aside0.mk (Below.refl w.heap.size w)
 have H:=h
 unfold impl_IsBall.f at H
 clear h
 have HC3:=Aside0.mk H
 clear H
 go_enter Try.func27,Try.ntmps27
 go_upto_region 1 with (first|((with_reducible refine gate_dst (N:=3) rfl ?_);refine bxE (cs:=#[.int .i64 a1_0,.int .i64 a1_1,.int .i64 a1_2]) (t:=25) ?_;intro gb342 hg w4 hbox hb;have BK342:=Aside0.mk hbox;have GW342:=sA hg;have GE342:=sA hg;replace HB:=lB hb;clear hb hbox hg))
 repeat (go_quiet (first|((with_reducible refine gate_dst (N:=3) rfl ?_);refine bxE (cs:=#[.int .i64 a1_0,.int .i64 a1_1,.int .i64 a1_2]) (t:=25) ?_;intro gb342 hg w4 hbox hb;have BK342:=Aside0.mk hbox;have GW342:=sA hg;have GE342:=sA hg;replace HB:=lB hb;clear hb hbox hg));go_upto_region 1 with (first|((with_reducible refine gate_dst (N:=3) rfl ?_);refine bxE (cs:=#[.int .i64 a1_0,.int .i64 a1_1,.int .i64 a1_2]) (t:=25) ?_;intro gb342 hg w4 hbox hb;have BK342:=Aside0.mk hbox;have GW342:=sA hg;have GE342:=sA hg;replace HB:=lB hb;clear hb hbox hg)))
 (try simp only [Act.put,List.setIfInBounds_toArray,List.set_cons_zero,List.set_cons_succ])
 go_cut [24] (fun v24 wc=>∃ (kq:Nat) (x24_2:Bool),v24=.bool x24_2∧Aside0 (impl_IsBall.j0 kq a0 x24_2 a1_0 a1_1 a1_2=some r)∧Aside0 (kq≤k)∧Aside0 (wc.heap[gb342]?=some (.cells #[.int .i64 a1_0,.int .i64 a1_1,.int .i64 a1_2] 25 (0,0)))∧Aside0 (Below w.heap.size w wc))
 case first=>
  have H:=HC3.out
  clear HC3
  replace H:=bS H
  obtain ⟨t343,A5,H⟩:=H
  try dsimp only at H
  by_cases c6:t343=true
  ·
   subst c6
   rw [if_pos rfl] at H
   try dsimp only at H
   replace H:=bS H
   obtain ⟨t344,A7,H⟩:=H
   try dsimp only at H
   by_cases c8:t344=true
   ·
    subst c8
    rw [if_pos rfl] at H
    try dsimp only at H
    by_cases c9:a1_2<0
    ·
     rw [if_pos c9] at H
     have c9b0:=decide_eq_true c9
     clear c9
     (first|rw [c9b0]|(simp only [i64_w,i32_w];rw [c9b0])|skip)
     have H':=Aside0.mk H
     clear H
     go_wp2_with (first|(go_at_call 55;(with_reducible refine (impl_isPrime.calls a0 true _ A5.out).mono ?_);rintro e w' ⟨rfl,⟨nd,rfl⟩⟩;(try exact dd);obtain ⟨hcz10_0,hcz10_1,hcz10_2,hfz10_0,hfz10_1,hfz10_2⟩:=cz3 BK342)|(go_at_call 56;(with_reducible refine (impl_isLevel.calls a1_0 true _ A7.out).mono ?_);rintro e w' ⟨rfl,⟨nd,rfl⟩⟩;(try exact dd)))
     repeat (go_quiet (first|(go_at_call 55;(with_reducible refine (impl_isPrime.calls a0 true _ A5.out).mono ?_);rintro e w' ⟨rfl,⟨nd,rfl⟩⟩;(try exact dd);obtain ⟨hcz10_0,hcz10_1,hcz10_2,hfz10_0,hfz10_1,hfz10_2⟩:=cz3 BK342)|(go_at_call 56;(with_reducible refine (impl_isLevel.calls a1_0 true _ A7.out).mono ?_);rintro e w' ⟨rfl,⟨nd,rfl⟩⟩;(try exact dd)));try go_wp2_with (first|(go_at_call 55;(with_reducible refine (impl_isPrime.calls a0 true _ A5.out).mono ?_);rintro e w' ⟨rfl,⟨nd,rfl⟩⟩;(try exact dd);obtain ⟨hcz10_0,hcz10_1,hcz10_2,hfz10_0,hfz10_1,hfz10_2⟩:=cz3 BK342)|(go_at_call 56;(with_reducible refine (impl_isLevel.calls a1_0 true _ A7.out).mono ?_);rintro e w' ⟨rfl,⟨nd,rfl⟩⟩;(try exact dd))))
     go_meet
     case rel=>exact ⟨_,(true),hB,H',⟨by first|omega|exact Nat.le_refl _⟩,⟨bkA BK342⟩,⟨blA⟩⟩
    ·
     rw [if_neg c9] at H
     have c9b0:=decide_eq_false c9
     clear c9
     (first|rw [c9b0]|(simp only [i64_w,i32_w];rw [c9b0])|skip)
     have H':=Aside0.mk H
     clear H
     go_wp2_with (first|(go_at_call 55;(with_reducible refine (impl_isPrime.calls a0 true _ A5.out).mono ?_);rintro e w' ⟨rfl,⟨nd,rfl⟩⟩;(try exact dd);obtain ⟨hcz11_0,hcz11_1,hcz11_2,hfz11_0,hfz11_1,hfz11_2⟩:=cz3 BK342)|(go_at_call 56;(with_reducible refine (impl_isLevel.calls a1_0 true _ A7.out).mono ?_);rintro e w' ⟨rfl,⟨nd,rfl⟩⟩;(try exact dd)))
     repeat (go_quiet (first|(go_at_call 55;(with_reducible refine (impl_isPrime.calls a0 true _ A5.out).mono ?_);rintro e w' ⟨rfl,⟨nd,rfl⟩⟩;(try exact dd);obtain ⟨hcz11_0,hcz11_1,hcz11_2,hfz11_0,hfz11_1,hfz11_2⟩:=cz3 BK342)|(go_at_call 56;(with_reducible refine (impl_isLevel.calls a1_0 true _ A7.out).mono ?_);rintro e w' ⟨rfl,⟨nd,rfl⟩⟩;(try exact dd)));try go_wp2_with (first|(go_at_call 55;(with_reducible refine (impl_isPrime.calls a0 true _ A5.out).mono ?_);rintro e w' ⟨rfl,⟨nd,rfl⟩⟩;(try exact dd);obtain ⟨hcz11_0,hcz11_1,hcz11_2,hfz11_0,hfz11_1,hfz11_2⟩:=cz3 BK342)|(go_at_call 56;(with_reducible refine (impl_isLevel.calls a1_0 true _ A7.out).mono ?_);rintro e w' ⟨rfl,⟨nd,rfl⟩⟩;(try exact dd))))
     go_meet
     case rel=>exact ⟨_,(decide (a1_2>6)),hB,H',⟨by first|omega|exact Nat.le_refl _⟩,⟨bkA BK342⟩,⟨blA⟩⟩
   ·
    replace c8:=Bool.eq_false_iff.mpr c8
    subst c8
    rw [if_neg (show ¬ (false=true) by decide)] at H
    try dsimp only at H
    have H':=Aside0.mk H
    clear H
    go_wp2_with (first|(go_at_call 55;(with_reducible refine (impl_isPrime.calls a0 true _ A5.out).mono ?_);rintro e w' ⟨rfl,⟨nd,rfl⟩⟩;(try exact dd);obtain ⟨hcz12_0,hcz12_1,hcz12_2,hfz12_0,hfz12_1,hfz12_2⟩:=cz3 BK342)|(go_at_call 56;(with_reducible refine (impl_isLevel.calls a1_0 false _ A7.out).mono ?_);rintro e w' ⟨rfl,⟨nd,rfl⟩⟩;(try exact dd)))
    repeat (go_quiet (first|(go_at_call 55;(with_reducible refine (impl_isPrime.calls a0 true _ A5.out).mono ?_);rintro e w' ⟨rfl,⟨nd,rfl⟩⟩;(try exact dd);obtain ⟨hcz12_0,hcz12_1,hcz12_2,hfz12_0,hfz12_1,hfz12_2⟩:=cz3 BK342)|(go_at_call 56;(with_reducible refine (impl_isLevel.calls a1_0 false _ A7.out).mono ?_);rintro e w' ⟨rfl,⟨nd,rfl⟩⟩;(try exact dd)));try go_wp2_with (first|(go_at_call 55;(with_reducible refine (impl_isPrime.calls a0 true _ A5.out).mono ?_);rintro e w' ⟨rfl,⟨nd,rfl⟩⟩;(try exact dd);obtain ⟨hcz12_0,hcz12_1,hcz12_2,hfz12_0,hfz12_1,hfz12_2⟩:=cz3 BK342)|(go_at_call 56;(with_reducible refine (impl_isLevel.calls a1_0 false _ A7.out).mono ?_);rintro e w' ⟨rfl,⟨nd,rfl⟩⟩;(try exact dd))))
    go_meet
    case rel=>exact ⟨_,(true),hB,H',⟨by first|omega|exact Nat.le_refl _⟩,⟨bkA BK342⟩,⟨blA⟩⟩
  ·
   replace c6:=Bool.eq_false_iff.mpr c6
   subst c6
   rw [if_neg (show ¬ (false=true) by decide)] at H
   try dsimp only at H
   have H':=Aside0.mk H
   clear H
   go_wp2_with (first|(go_at_call 55;(with_reducible refine (impl_isPrime.calls a0 false _ A5.out).mono ?_);rintro e w' ⟨rfl,⟨nd,rfl⟩⟩;(try exact dd)))
   repeat (go_quiet (first|(go_at_call 55;(with_reducible refine (impl_isPrime.calls a0 false _ A5.out).mono ?_);rintro e w' ⟨rfl,⟨nd,rfl⟩⟩;(try exact dd)));try go_wp2_with (first|(go_at_call 55;(with_reducible refine (impl_isPrime.calls a0 false _ A5.out).mono ?_);rintro e w' ⟨rfl,⟨nd,rfl⟩⟩;(try exact dd))))
   go_meet
   case rel=>exact ⟨_,(true),hB,H',⟨by first|omega|exact Nat.le_refl _⟩,⟨bkA BK342⟩,⟨blA⟩⟩
 case rest=>
  clear HC3
  try clear c6
  try clear c8
  try clear c9
  try clear c9b0
  try clear hcz10_0
  try clear hcz10_1
  try clear hcz10_2
  try clear hcz11_0
  try clear hcz11_1
  try clear hcz11_2
  try clear hcz12_0
  try clear hcz12_1
  try clear hcz12_2
  try clear hfz10_0
  try clear hfz10_1
  try clear hfz10_2
  try clear hfz11_0
  try clear hfz11_1
  try clear hfz11_2
  try clear hfz12_0
  try clear hfz12_1
  try clear hfz12_2
  obtain ⟨kq,x24_2,rfl,HA,HJ2,BK342,HB⟩:=hcut
  cases kq with
  | zero=>exact absurd HA.out (by simp [impl_IsBall.j0])
  | succ kj2=>
   have H:=HA.out
   clear HA
   simp only [impl_IsBall.j0] at H
   by_cases c13:x24_2=true
   ·
    subst c13
    rw [if_pos rfl] at H
    try dsimp only at H
    obtain rfl:=Option.some.inj H
    go_wp2
    repeat (go_quiet (fail);try go_wp2)
    go_ret
    exact finA blA
   ·
    replace c13:=Bool.eq_false_iff.mpr c13
    subst c13
    rw [if_neg (show ¬ (false=true) by decide)] at H
    try dsimp only at H
    by_cases c14:(wrap64 (a1_0+a1_2))≤0
    ·
     rw [if_pos c14] at H
     have c14b0:=decide_eq_true c14
     clear c14
     by_cases c15:a1_1=0
     ·
      rw [if_pos c15] at H
      have c15b0:(a1_1 == 0)=true:=beq_iff_eq.mpr c15
      have c15b1:(a1_1 != 0)=false:=bne_eq_false_iff_eq.mpr c15
      clear c15
      obtain rfl:=Option.some.inj H
      obtain ⟨hcz16_0,hcz16_1,hcz16_2,hfz16_0,hfz16_1,hfz16_2⟩:=cz3 BK342
      go_wp2
      repeat (go_quiet (fail);try go_wp2)
      go_ret
      exact finA blA
     ·
      rw [if_neg c15] at H
      have c15b0:(a1_1 == 0)=false:=beq_eq_false_iff_ne.mpr c15
      have c15b1:(a1_1 != 0)=true:=bne_iff_ne.mpr c15
      obtain rfl:=Option.some.inj H
      obtain ⟨hcz17_0,hcz17_1,hcz17_2,hfz17_0,hfz17_1,hfz17_2⟩:=cz3 BK342
      go_wp2
      repeat (go_quiet (fail);try go_wp2)
      go_ret
      exact finA blA
    ·
     rw [if_neg c14] at H
     have c14b0:=decide_eq_false c14
     clear c14
     by_cases c18:a1_1≥0
     ·
      rw [if_pos c18] at H
      have c18b0:decide (0≤a1_1)=true:=decide_eq_true c18
      clear c18
      replace H:=bS H
      obtain ⟨t345,A19,H⟩:=H
      try dsimp only at H
      by_cases c20:a1_1<t345
      ·
       rw [if_pos c20] at H
       have c20b0:=decide_eq_true c20
       clear c20
       by_cases c21:a1_2=0
       focus
        rw [if_pos c21] at H
        have c21b0:(a1_2 == 0)=true:=beq_iff_eq.mpr c21
        have c21b1:(a1_2 != 0)=false:=bne_eq_false_iff_eq.mpr c21
        clear c21
        obtain rfl:=Option.some.inj H
        obtain ⟨hcz22_0,hcz22_1,hcz22_2,hfz22_0,hfz22_1,hfz22_2⟩:=cz3 BK342
       rotate_left
       focus
        rw [if_neg c21] at H
        have c21b0:(a1_2 == 0)=false:=beq_eq_false_iff_ne.mpr c21
        have c21b1:(a1_2 != 0)=true:=bne_iff_ne.mpr c21
        by_cases c23:a0=0
        ·
         rw [if_pos c23] at H
         exact absurd H (by simp)
        rw [if_neg c23] at H
        have c23b0:(a0 == 0)=false:=beq_eq_false_iff_ne.mpr c23
        have c23b1:(a0 != 0)=true:=bne_iff_ne.mpr c23
        obtain rfl:=Option.some.inj H
        obtain ⟨hcz24_0,hcz24_1,hcz24_2,hfz24_0,hfz24_1,hfz24_2⟩:=cz3 BK342
       rotate_left
       all_goals
        go_wp2_with (first|(go_at_call 57;(with_reducible refine (impl_power.calls kj2 a0 (wrap64 (a1_0+a1_2)) t345 _ A19.out).mono ?_);rintro e w' ⟨rfl,⟨nd,rfl⟩⟩;(try exact dd)))
        repeat (go_quiet (first|(go_at_call 57;(with_reducible refine (impl_power.calls kj2 a0 (wrap64 (a1_0+a1_2)) t345 _ A19.out).mono ?_);rintro e w' ⟨rfl,⟨nd,rfl⟩⟩;(try exact dd)));try go_wp2_with (first|(go_at_call 57;(with_reducible refine (impl_power.calls kj2 a0 (wrap64 (a1_0+a1_2)) t345 _ A19.out).mono ?_);rintro e w' ⟨rfl,⟨nd,rfl⟩⟩;(try exact dd))))
       ·
        go_ret
        exact finA blA
       ·
        go_ret
        exact finA blA
      ·
       rw [if_neg c20] at H
       have c20b0:=decide_eq_false c20
       clear c20
       obtain rfl:=Option.some.inj H
       obtain ⟨hcz25_0,hcz25_1,hcz25_2,hfz25_0,hfz25_1,hfz25_2⟩:=cz3 BK342
       go_wp2_with (first|(go_at_call 57;(with_reducible refine (impl_power.calls kj2 a0 (wrap64 (a1_0+a1_2)) t345 _ A19.out).mono ?_);rintro e w' ⟨rfl,⟨nd,rfl⟩⟩;(try exact dd)))
       repeat (go_quiet (first|(go_at_call 57;(with_reducible refine (impl_power.calls kj2 a0 (wrap64 (a1_0+a1_2)) t345 _ A19.out).mono ?_);rintro e w' ⟨rfl,⟨nd,rfl⟩⟩;(try exact dd)));try go_wp2_with (first|(go_at_call 57;(with_reducible refine (impl_power.calls kj2 a0 (wrap64 (a1_0+a1_2)) t345 _ A19.out).mono ?_);rintro e w' ⟨rfl,⟨nd,rfl⟩⟩;(try exact dd))))
       go_ret
       exact finA blA
     ·
      rw [if_neg c18] at H
      have c18b0:decide (0≤a1_1)=false:=decide_eq_false c18
      clear c18
      obtain rfl:=Option.some.inj H
      obtain ⟨hcz26_0,hcz26_1,hcz26_2,hfz26_0,hfz26_1,hfz26_2⟩:=cz3 BK342
      go_wp2
      repeat (go_quiet (fail);try go_wp2)
      go_ret
      exact finA blA
def impl_IsEnd.f (k:Nat) (a0_0 a0_1:Int):Option (Bool):=if a0_1=0 then (some (a0_0 == 1)) else ((impl_within.f k 1000000 (([a0_0,a0_1]:List Int))).bind fun t351=>(if t351=true then (if a0_1>0 then ((impl_gcd.f k a0_0 a0_1).bind fun t352=>(some (t352 == 1))) else (some false)) else (some false)))
theorem impl_IsEnd.mono:∀ a0 a1 k,LeO (impl_IsEnd.f k a0 a1) (impl_IsEnd.f (k+1) a0 a1):=by
 intro a0 a1 k
 unfold impl_IsEnd.f
 repeat' first
   | with_reducible first|exact impl_gcd.mono ..|exact impl_within.mono ..|exact LeO.refl _|exact LeO.none _|refine LeO.ite ?_ ?_|refine LeO.bind ?_ fun _=>?_
set_option maxHeartbeats 8000000 in
set_option maxRecDepth 100000 in
theorem impl_IsEnd.calls (k:Nat) (a0_0 a0_1:Int) (r:Bool) (w:World) (h:impl_IsEnd.f k a0_0 a0_1=some r) :
  Calls Try.prog 28 #[.agg #[.int .i64 a0_0,.int .i64 a0_1]] w fun e w'=>e=.returned (.bool r)∧Below w.heap.size w w':=by
 have hu27:=Try.underlying27
 have HB:=Aside0.mk (Below.refl w.heap.size w)
 have H:=h
 unfold impl_IsEnd.f at H
 clear h
 by_cases c2:a0_1=0
 ·
  rw [if_pos c2] at H
  have c2b0:(a0_1 == 0)=true:=beq_iff_eq.mpr c2
  have c2b1:(a0_1 != 0)=false:=bne_eq_false_iff_eq.mpr c2
  clear c2
  obtain rfl:=Option.some.inj H
  go_enter Try.func28,Try.ntmps28
  go_wp2_with (first|((with_reducible refine gate_dst (N:=1) rfl ?_);refine bxE (cs:=#[.int .i64 a0_0,.int .i64 a0_1]) (t:=27) ?_;intro gb347 hg w3 hbox hb;have BK347:=Aside0.mk hbox;have GW347:=sA hg;have GE347:=sA hg;replace HB:=lB hb;clear hb hbox hg;obtain ⟨hcz4_0,hcz4_1,hfz4_0,hfz4_1⟩:=cz2 BK347))
  go_ret
  exact finA blA
 ·
  rw [if_neg c2] at H
  have c2b0:(a0_1 == 0)=false:=beq_eq_false_iff_ne.mpr c2
  have c2b1:(a0_1 != 0)=true:=bne_iff_ne.mpr c2
  obtain ⟨y348,hy348⟩:∃ y_:List Int,y_=(([a0_0,a0_1]:List Int)):=⟨_,rfl⟩
  replace H:((impl_within.f k 1000000 y348).bind fun t351=>(if t351=true then (if a0_1>0 then ((impl_gcd.f k a0_0 a0_1).bind fun t352=>(some (t352 == 1))) else (some false)) else (some false)))=some r:=rH hy348 H
  have Ny348:=Aside0.mk hy348
  clear hy348
  replace H:=bS H
  obtain ⟨t351,A5,H⟩:=H
  try dsimp only at H
  by_cases c6:t351=true
  ·
   subst c6
   rw [if_pos rfl] at H
   try dsimp only at H
   by_cases c7:a0_1>0
   ·
    rw [if_pos c7] at H
    have c7b0:decide (0<a0_1)=true:=decide_eq_true c7
    clear c7
    replace H:=bS H
    obtain ⟨t352,A8,H⟩:=H
    try dsimp only at H
    obtain rfl:=Option.some.inj H
    go_enter Try.func28,Try.ntmps28
    go_wp2_with (first|((with_reducible refine gate_dst (N:=1) rfl ?_);refine bxE (cs:=#[.int .i64 a0_0,.int .i64 a0_1]) (t:=27) ?_;intro gb347 hg w9 hbox hb;have BK347:=Aside0.mk hbox;have GW347:=sA hg;have GE347:=sA hg;replace HB:=lB hb;clear hb hbox hg;obtain ⟨hcz10_0,hcz10_1,hfz10_0,hfz10_1⟩:=cz2 BK347)|((with_reducible refine gate_dst (N:=13) rfl ?_);refine Kd.R_lit (Kd.int .i64) _ 2 ?hg (N:=13) ?hd (xs:=([a0_0,a0_1]:List Int)) (inner:=[.int .i64 a0_0,.int .i64 a0_1]) (ok:=fun _=>True) (okp:=fun _=>True) ?hr ?hp (fun _ hk=>hk) trivial (Below.refl _ _) (Nat.le_refl _) (by simp) ?_;(case hd=>rfl);(case hg=>rfl);(case hr=>first|(go_simp;done)|(go_simp;rfl));(case hp=>exact (Reps.one (show Kd.M (Kd.int .i64) _ _ _ a0_0 [.int .i64 a0_0] from rfl) (Reps.one (show Kd.M (Kd.int .i64) _ _ _ a0_1 [.int .i64 a0_1] from rfl) (Reps.none _ _))));intro v349 w11 ho12 hb hg_ hnew_;clear hg_ hnew_;(first|rw [← Ny348.out] at ho12|(simp only [Int.reduceToNat] at ho12;rw [← Ny348.out] at ho12));have HO350:=Aside0.mk (Kd.R_lower ho12 (below_size blA));replace BK347:=kB BK347 hb;replace HB:=lB hb;clear hb ho12;obtain ⟨Ao13,co13,eo13⟩:=Kd.R_slice HO350.out;subst eo13)|((with_reducible refine gd 14 rfl ?_);refine gC (some 14) rfl Try.func58 (impl_within.calls (w:=_) (hr1:=cR (Kd.R_reads' HO350.out).2.2) (hc1:=(Kd.R_reads' HO350.out).2.1) (h:=A5.out)) ?_;rintro _ ⟨nd,rfl⟩;obtain ⟨hcz14_0,hcz14_1,hfz14_0,hfz14_1⟩:=cz2 BK347)|(go_at_call 59;(with_reducible refine (impl_gcd.calls k a0_0 a0_1 t352 _ A8.out).mono ?_);rintro e w15 ⟨rfl,hb⟩;replace HO350:=Aside0.mk (Kd.R_below (rA HO350) hb);replace BK347:=kB BK347 hb;replace HB:=lB hb;clear hb))
    go_ret
    exact finA blA
   ·
    rw [if_neg c7] at H
    have c7b0:decide (0<a0_1)=false:=decide_eq_false c7
    clear c7
    obtain rfl:=Option.some.inj H
    go_enter Try.func28,Try.ntmps28
    go_wp2_with (first|((with_reducible refine gate_dst (N:=1) rfl ?_);refine bxE (cs:=#[.int .i64 a0_0,.int .i64 a0_1]) (t:=27) ?_;intro gb347 hg w16 hbox hb;have BK347:=Aside0.mk hbox;have GW347:=sA hg;have GE347:=sA hg;replace HB:=lB hb;clear hb hbox hg;obtain ⟨hcz17_0,hcz17_1,hfz17_0,hfz17_1⟩:=cz2 BK347)|((with_reducible refine gate_dst (N:=13) rfl ?_);refine Kd.R_lit (Kd.int .i64) _ 2 ?hg (N:=13) ?hd (xs:=([a0_0,a0_1]:List Int)) (inner:=[.int .i64 a0_0,.int .i64 a0_1]) (ok:=fun _=>True) (okp:=fun _=>True) ?hr ?hp (fun _ hk=>hk) trivial (Below.refl _ _) (Nat.le_refl _) (by simp) ?_;(case hd=>rfl);(case hg=>rfl);(case hr=>first|(go_simp;done)|(go_simp;rfl));(case hp=>exact (Reps.one (show Kd.M (Kd.int .i64) _ _ _ a0_0 [.int .i64 a0_0] from rfl) (Reps.one (show Kd.M (Kd.int .i64) _ _ _ a0_1 [.int .i64 a0_1] from rfl) (Reps.none _ _))));intro v349 w18 ho19 hb hg_ hnew_;clear hg_ hnew_;(first|rw [← Ny348.out] at ho19|(simp only [Int.reduceToNat] at ho19;rw [← Ny348.out] at ho19));have HO350:=Aside0.mk (Kd.R_lower ho19 (below_size blA));replace BK347:=kB BK347 hb;replace HB:=lB hb;clear hb ho19;obtain ⟨Ao20,co20,eo20⟩:=Kd.R_slice HO350.out;subst eo20)|((with_reducible refine gd 14 rfl ?_);refine gC (some 14) rfl Try.func58 (impl_within.calls (w:=_) (hr1:=cR (Kd.R_reads' HO350.out).2.2) (hc1:=(Kd.R_reads' HO350.out).2.1) (h:=A5.out)) ?_;rintro _ ⟨nd,rfl⟩;obtain ⟨hcz21_0,hcz21_1,hfz21_0,hfz21_1⟩:=cz2 BK347))
    go_ret
    exact finA blA
  ·
   replace c6:=Bool.eq_false_iff.mpr c6
   subst c6
   rw [if_neg (show ¬ (false=true) by decide)] at H
   try dsimp only at H
   obtain rfl:=Option.some.inj H
   go_enter Try.func28,Try.ntmps28
   go_wp2_with (first|((with_reducible refine gate_dst (N:=1) rfl ?_);refine bxE (cs:=#[.int .i64 a0_0,.int .i64 a0_1]) (t:=27) ?_;intro gb347 hg w22 hbox hb;have BK347:=Aside0.mk hbox;have GW347:=sA hg;have GE347:=sA hg;replace HB:=lB hb;clear hb hbox hg;obtain ⟨hcz23_0,hcz23_1,hfz23_0,hfz23_1⟩:=cz2 BK347)|((with_reducible refine gate_dst (N:=13) rfl ?_);refine Kd.R_lit (Kd.int .i64) _ 2 ?hg (N:=13) ?hd (xs:=([a0_0,a0_1]:List Int)) (inner:=[.int .i64 a0_0,.int .i64 a0_1]) (ok:=fun _=>True) (okp:=fun _=>True) ?hr ?hp (fun _ hk=>hk) trivial (Below.refl _ _) (Nat.le_refl _) (by simp) ?_;(case hd=>rfl);(case hg=>rfl);(case hr=>first|(go_simp;done)|(go_simp;rfl));(case hp=>exact (Reps.one (show Kd.M (Kd.int .i64) _ _ _ a0_0 [.int .i64 a0_0] from rfl) (Reps.one (show Kd.M (Kd.int .i64) _ _ _ a0_1 [.int .i64 a0_1] from rfl) (Reps.none _ _))));intro v349 w24 ho25 hb hg_ hnew_;clear hg_ hnew_;(first|rw [← Ny348.out] at ho25|(simp only [Int.reduceToNat] at ho25;rw [← Ny348.out] at ho25));have HO350:=Aside0.mk (Kd.R_lower ho25 (below_size blA));replace BK347:=kB BK347 hb;replace HB:=lB hb;clear hb ho25;obtain ⟨Ao26,co26,eo26⟩:=Kd.R_slice HO350.out;subst eo26)|((with_reducible refine gd 14 rfl ?_);refine gC (some 14) rfl Try.func58 (impl_within.calls (w:=_) (hr1:=cR (Kd.R_reads' HO350.out).2.2) (hc1:=(Kd.R_reads' HO350.out).2.1) (h:=A5.out)) ?_;rintro _ ⟨nd,rfl⟩))
   go_ret
   exact finA blA
def impl_ofMark.f (k:Nat) (a0 a1 a2:Int):Option (Int × Int × Int × Bool):=(impl_isLevel.f a1).bind fun t354=>(if t354=true then ((impl_power.f k a0 (wrap64 (a1+6))).bind fun t355=>((impl_mod.f a2 t355).bind fun t356=>((impl_valuation.f k a0 t356).bind fun t357=>((impl_power.f k a0 (wrap64 (6 - (mx (wrap64 (6 - t357)) 0)))).bind fun t358=>(if t358=0 then (none) else (some (a1,wrap64 (Int.tdiv t356 t358),mx (wrap64 (6 - t357)) 0,true))))))) else (some (0,0,0,false)))
theorem impl_ofMark.mono:∀ a0 a1 a2 k,LeO (impl_ofMark.f k a0 a1 a2) (impl_ofMark.f (k+1) a0 a1 a2):=by
 intro a0 a1 a2 k
 unfold impl_ofMark.f
 repeat' first
   | with_reducible first|exact impl_power.mono ..|exact impl_valuation.mono ..|exact LeO.refl _|exact LeO.none _|refine LeO.ite ?_ ?_|refine LeO.bind ?_ fun _=>?_
set_option maxHeartbeats 8000000 in
set_option maxRecDepth 100000 in
theorem impl_ofMark.calls (k:Nat) (a0 a1 a2 r1 r2 r3:Int) (r4:Bool) (w:World) (h:impl_ofMark.f k a0 a1 a2=some (r1,r2,r3,r4)) :
  Calls Try.prog 42 #[.int .i64 a0,.int .i64 a1,.int .i64 a2] w fun e w'=>e=.returned (.tuple #[.agg #[.int .i64 r1,.int .i64 r2,.int .i64 r3],.bool r4])∧Below w.heap.size w w':=by
 have hu25:=Try.underlying25
 have HB:=Aside0.mk (Below.refl w.heap.size w)
 have H:=h
 unfold impl_ofMark.f at H
 clear h
 replace H:=bS H
 obtain ⟨t354,A4,H⟩:=H
 try dsimp only at H
 by_cases c5:t354=true
 focus
  subst c5
  rw [if_pos rfl] at H
  try dsimp only at H
  replace H:=bS H
  obtain ⟨t355,A6,H⟩:=H
  try dsimp only at H
  replace H:=bS H
  obtain ⟨t356,A7,H⟩:=H
  try dsimp only at H
  replace H:=bS H
  obtain ⟨t357,A8,H⟩:=H
  try dsimp only at H
  obtain ⟨ji9,hji9⟩:∃ j_:Int,(mx (wrap64 (6 - t357)) 0)=j_:=⟨_,rfl⟩
  replace H:((impl_power.f k a0 (wrap64 (6 - (ji9)))).bind fun t358=>(if t358=0 then (none) else (some (a1,wrap64 (Int.tdiv t356 t358),ji9,true))))=some (r1,r2,r3,r4):=by first|(rw [hji9] at H;exact H)|(simp only [hji9] at H ⊢;exact H)
  (try rw [hji9] at A4)
  (try rw [hji9] at A6)
  (try rw [hji9] at A7)
  (try rw [hji9] at A8)
  (try (have hji9l:0≤ji9:=by (rw [← hji9];unfold mx;(repeat' split) <;> omega)))
  (try (have hji9m:0≤ji9:=by omega))
  have hji9_:(if (wrap64 (6 - t357))<0 then 0 else (wrap64 (6 - t357)))=ji9:=hji9
  replace H:=bS H
  obtain ⟨t358,A10,H⟩:=H
  try dsimp only at H
  by_cases c11:t358=0
  ·
   rw [if_pos c11] at H
   exact absurd H (by simp)
  rw [if_neg c11] at H
  have c11b0:(t358 == 0)=false:=beq_eq_false_iff_ne.mpr c11
  have c11b1:(t358 != 0)=true:=bne_iff_ne.mpr c11
  simp only [Option.some.injEq,Prod.mk.injEq] at H
  obtain ⟨rfl,rfl,rfl,rfl⟩:=H
 rotate_left
 focus
  replace c5:=Bool.eq_false_iff.mpr c5
  subst c5
  rw [if_neg (show ¬ (false=true) by decide)] at H
  try dsimp only at H
  simp only [Option.some.injEq,Prod.mk.injEq] at H
  obtain ⟨rfl,rfl,rfl,rfl⟩:=H
 rotate_left
 all_goals
  go_enter Try.func42,Try.ntmps42
  go_wp2_with (first|((with_reducible refine gate_dst (N:=6) rfl ?_);refine bxE (cs:=#[.int .i64 0,.int .i64 0,.int .i64 0]) (t:=25) ?_;intro gb353 hg w12 hbox hb;have BK353:=Aside0.mk hbox;have GW353:=sA hg;have GE353:=sA hg;replace HB:=lB hb;clear hb hbox hg)|((with_reducible refine gd 10 rfl ?_);refine gC (some 10) rfl Try.func56 (impl_isLevel.calls (w:=_) (h:=A4.out)) ?_;rintro _ ⟨nd,rfl⟩;(try (rw [drewN_self w12];generalize hq_:World.drewN w12 _=w12;replace BK353:=Aside0.mk (by rw [← hq_];exact (bkA BK353));replace HB:=Aside0.mk (by rw [← hq_];exact blA);clear hq_));obtain ⟨hcz15_0,hcz15_1,hcz15_2,hfz15_0,hfz15_1,hfz15_2⟩:=cz3 BK353)|((with_reducible refine gd 17 rfl ?_);refine gC (some 17) rfl Try.func57 (impl_power.calls (w:=_) (h:=A6.out)) ?_;rintro _ ⟨nd,rfl⟩;(try (rw [drewN_self w12];generalize hq_:World.drewN w12 _=w12;replace BK353:=Aside0.mk (by rw [← hq_];exact (bkA BK353));replace HB:=Aside0.mk (by rw [← hq_];exact blA);clear hq_)))|((with_reducible refine gd 18 rfl ?_);refine gC (some 18) rfl Try.func77 (impl_mod.calls (w:=_) (h:=A7.out)) ?_;rintro _ ⟨nd,rfl⟩;(try (rw [drewN_self w12];generalize hq_:World.drewN w12 _=w12;replace BK353:=Aside0.mk (by rw [← hq_];exact (bkA BK353));replace HB:=Aside0.mk (by rw [← hq_];exact blA);clear hq_)))|((with_reducible refine gd 21 rfl ?_);refine gC (some 21) rfl Try.func63 (impl_valuation.calls (w:=_) (h:=A8.out)) ?_;rintro _ ⟨nd,rfl⟩;(try (rw [drewN_self w12];generalize hq_:World.drewN w12 _=w12;replace BK353:=Aside0.mk (by rw [← hq_];exact (bkA BK353));replace HB:=Aside0.mk (by rw [← hq_];exact blA);clear hq_)))|((with_reducible refine gate_callee (f:=57) rfl ?_);refine goesL_ (some 29) rfl rfl Try.func57 (by kernel_rfl) rfl #[.int .i64 a0,.int .i64 (wrap64 (6 - (ji9)))] rfl (by (try simp only [List.map_toArray,List.map_cons,List.map_nil]);first|done|(simp only [hji9];rfl)|rfl|(simp only [List.length_drop,List.length_take];rfl)) ?_;(with_reducible refine (impl_power.calls k a0 (wrap64 (6 - (ji9))) t358 _ A10.out).mono ?_);rintro e w' ⟨rfl,⟨nd,rfl⟩⟩;refine ⟨_,rfl,?_⟩;(try (rw [drewN_self w12];generalize hq_:World.drewN w12 _=w12;replace BK353:=Aside0.mk (by rw [← hq_];exact (bkA BK353));replace HB:=Aside0.mk (by rw [← hq_];exact blA);clear hq_));obtain ⟨hcz13_0,hcz13_1,hcz13_2,hfz13_0,hfz13_1,hfz13_2⟩:=cz3 BK353))
 ·
  refine bodyPost_ret (results_ct rfl _ _ gb353 25 #[.int .i64 a1,.int .i64 (wrap64 (Int.tdiv t356 t358)),.int .i64 ji9] (0,0) _ rfl (bpA BK353) Try.underlying25 rfl (by kernel_rfl)) rfl ?_
  exact ⟨by first|rfl|(simp [errW_none,errW_some] <;> rfl)|(simp only [← hji9];first|rfl|(simp [errW_none,errW_some] <;> rfl))|(simp [*,errW_none,errW_some] <;> rfl),blA⟩
 ·
  refine bodyPost_ret (results_ct rfl _ _ gb353 25 #[.int .i64 0,.int .i64 0,.int .i64 0] (0,0) _ rfl (bpA BK353) Try.underlying25 rfl (by kernel_rfl)) rfl ?_
  exact finA blA
def impl_mark.f (k:Nat) (a0 a1_0 a1_1 a1_2:Int):Option (Int):=(impl_power.f k a0 (wrap64 (6 - a1_2))).bind fun t360=>(some (wrap64 (a1_1*t360)))
theorem impl_mark.mono:∀ a0 a1 a2 a3 k,LeO (impl_mark.f k a0 a1 a2 a3) (impl_mark.f (k+1) a0 a1 a2 a3):=by
 intro a0 a1 a2 a3 k
 unfold impl_mark.f
 repeat' first
   | with_reducible first|exact impl_power.mono ..|exact LeO.refl _|exact LeO.none _|refine LeO.ite ?_ ?_|refine LeO.bind ?_ fun _=>?_
set_option maxHeartbeats 8000000 in
set_option maxRecDepth 100000 in
theorem impl_mark.calls (k:Nat) (a0 a1_0 a1_1 a1_2 r:Int) (w:World) (h:impl_mark.f k a0 a1_0 a1_1 a1_2=some r) :
  Calls Try.prog 43 #[.int .i64 a0,.agg #[.int .i64 a1_0,.int .i64 a1_1,.int .i64 a1_2]] w fun e w'=>e=.returned (.int .i64 r)∧Below w.heap.size w w':=by
 have hu25:=Try.underlying25
 have HB:=Aside0.mk (Below.refl w.heap.size w)
 have H:=h
 unfold impl_mark.f at H
 clear h
 replace H:=bS H
 obtain ⟨t360,A3,H⟩:=H
 try dsimp only at H
 obtain rfl:=Option.some.inj H
 go_enter Try.func43,Try.ntmps43
 go_wp2_with (first|((with_reducible refine gate_dst (N:=3) rfl ?_);refine bxE (cs:=#[.int .i64 a1_0,.int .i64 a1_1,.int .i64 a1_2]) (t:=25) ?_;intro gb359 hg w4 hbox hb;have BK359:=Aside0.mk hbox;have GW359:=sA hg;have GE359:=sA hg;replace HB:=lB hb;clear hb hbox hg;obtain ⟨hcz5_0,hcz5_1,hcz5_2,hfz5_0,hfz5_1,hfz5_2⟩:=cz3 BK359)|(go_at_call 57;(with_reducible refine (impl_power.calls k a0 (wrap64 (6 - a1_2)) t360 _ A3.out).mono ?_);rintro e w' ⟨rfl,⟨nd,rfl⟩⟩;(try exact dd)))
 repeat (go_quiet (first|((with_reducible refine gate_dst (N:=3) rfl ?_);refine bxE (cs:=#[.int .i64 a1_0,.int .i64 a1_1,.int .i64 a1_2]) (t:=25) ?_;intro gb359 hg w4 hbox hb;have BK359:=Aside0.mk hbox;have GW359:=sA hg;have GE359:=sA hg;replace HB:=lB hb;clear hb hbox hg;obtain ⟨hcz5_0,hcz5_1,hcz5_2,hfz5_0,hfz5_1,hfz5_2⟩:=cz3 BK359)|(go_at_call 57;(with_reducible refine (impl_power.calls k a0 (wrap64 (6 - a1_2)) t360 _ A3.out).mono ?_);rintro e w' ⟨rfl,⟨nd,rfl⟩⟩;(try exact dd)));try go_wp2_with (first|((with_reducible refine gate_dst (N:=3) rfl ?_);refine bxE (cs:=#[.int .i64 a1_0,.int .i64 a1_1,.int .i64 a1_2]) (t:=25) ?_;intro gb359 hg w4 hbox hb;have BK359:=Aside0.mk hbox;have GW359:=sA hg;have GE359:=sA hg;replace HB:=lB hb;clear hb hbox hg;obtain ⟨hcz5_0,hcz5_1,hcz5_2,hfz5_0,hfz5_1,hfz5_2⟩:=cz3 BK359)|(go_at_call 57;(with_reducible refine (impl_power.calls k a0 (wrap64 (6 - a1_2)) t360 _ A3.out).mono ?_);rintro e w' ⟨rfl,⟨nd,rfl⟩⟩;(try exact dd))))
 go_ret
 exact finA blA
end Go.Proofs.Ytabcckoeilegnaa.PAll
