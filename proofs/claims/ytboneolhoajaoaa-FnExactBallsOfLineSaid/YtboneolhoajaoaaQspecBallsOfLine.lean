-- turned out of the kit's print
import Derived.Test.YtboneolhoajaoaaQx
import Derived.Test.YtboneolhoajaoaaQLeqBall
import Derived.Test.YtboneolhoajaoaaQimplIsEnd
import Derived.Test.YtboneolhoajaoaaQimplballAt
import Derived.Test.YtboneolhoajaoaaQspecl05Code
namespace Go.Proofs.Ytboneolhoajaoaa.PAll
open Go.RowKit Go.Proofs.YtboneolhoajaoaaW.PrintWords Go.Proofs.YtboneolhoajaoaaW.PrintLast Go.Proofs.YtboneolhoajaoaaW.PrintMore
attribute [local go_sem] Go.Proofs.Ytboneolhoajaoaa.Aux.setCell_drewN Go.Proofs.Ytboneolhoajaoaa.Aux.isSome_setCell max2_int min2_int max_two min_two max_three min_three max_four min_four
set_option linter.unusedVariables false
set_option linter.unusedSimpArgs false
mutual
def spec_BallsOfLine.j0:Nat→Int→Int→Int→Bool→Int→Int→Int→Int→Option ((List (S38)) × Int)
 | 0,_,_,_,_,_,_,_,_=>none
 | k+1,x0,x3,x10,x28,x185000,x185001,x186000,x186001=>if x28=true then (spec_BallsOfLine.j1 k x0 x3 2 x185000 x185001 x186000 x186001) else (spec_BallsOfLine.j1 k x0 x3 x10 x185000 x185001 x186000 x186001)
def spec_BallsOfLine.j1:Nat→Int→Int→Int→Int→Int→Int→Int→Option ((List (S38)) × Int)
 | 0,_,_,_,_,_,_,_=>none
 | k+1,x0,x3,x10,x185000,x185001,x186000,x186001=>if x10=0 then (if x186001=0 then ((spec_l05Side.f k x0 x185000 x185001 x3 (wrap64 (-x3))).bind fun bt191=>(spec_BallsOfLine.j2 k bt191.1 ([]:List (S38)) bt191.2 true)) else (if x185001=0 then ((spec_l05Side.f k x0 x186000 x186001 (wrap64 (-x3)) x3).bind fun bt195=>(spec_BallsOfLine.j2 k bt195.1 ([]:List (S38)) bt195.2 true)) else ((spec_l05Gap.f k x0 x185000 x185001 x186000 x186001).bind fun t199=>((spec_l05Side.f k x0 x185000 x185001 (wrap64 (t199+x3)) t199).bind fun bt200=>((spec_l05Side.f k x0 x186000 x186001 t199 (wrap64 (t199+x3))).bind fun bt204=>(spec_BallsOfLine.j2 k bt200.1 bt204.1 bt200.2 bt204.2)))))) else (some (([]:List (S38)),x10))
def spec_BallsOfLine.j2:Nat→List (S38)→List (S38)→Bool→Bool→Option ((List (S38)) × Int)
 | 0,_,_,_,_=>none
 | k+1,x11,x12,x13,x14=>if x13=true then (spec_BallsOfLine.j3 k x11 x12 (!x14)) else (spec_BallsOfLine.j3 k x11 x12 true)
def spec_BallsOfLine.j3:Nat→List (S38)→List (S38)→Bool→Option ((List (S38)) × Int)
 | 0,_,_,_=>none
 | k+1,x11,x12,x87=>if x87=true then (some (([]:List (S38)),3)) else (spec_BallsOfLine.l0 k x11 x12 1)
def spec_BallsOfLine.l0:Nat→List (S38)→List (S38)→Int→Option ((List (S38)) × Int)
 | 0,_,_,_=>none
 | k+1,x11,x12,x16=>if x16<(x12.length:Int) then (if 0≤x16 then (if x11.length<5864062014805 then (spec_BallsOfLine.l0 k (x11 ++ [(⟨(rd_T38 x12 x16).f0,(rd_T38 x12 x16).f1,(rd_T38 x12 x16).f2⟩:S38)]) x12 (wrap64 (x16+1))) else (none)) else (none)) else (some (x11,0))
end
def spec_BallsOfLine.f (k:Nat) (a0 a1_0 a1_1 a2_0 a2_1 a3:Int):Option ((List (S38)) × Int):=(spec_l05Code.f k a0 ([]:List (S38)) (([(⟨a1_0,a1_1⟩:S27),(⟨a2_0,a2_1⟩:S27)]:List (S27)))).bind fun t189=>(if t189=1 then (spec_BallsOfLine.j0 k a0 a3 t189 false a1_0 a1_1 a2_0 a2_1) else ((spec_l01In.f a3 0 6).bind fun t190=>(spec_BallsOfLine.j0 k a0 a3 t189 (!t190) a1_0 a1_1 a2_0 a2_1)))
theorem spec_BallsOfLine.mono_l:∀ k,(∀ y0 y1 y2 y3 y4 y5 y6 y7,LeO (spec_BallsOfLine.j0 k y0 y1 y2 y3 y4 y5 y6 y7) (spec_BallsOfLine.j0 (k+1) y0 y1 y2 y3 y4 y5 y6 y7))∧(∀ y0 y1 y2 y3 y4 y5 y6,LeO (spec_BallsOfLine.j1 k y0 y1 y2 y3 y4 y5 y6) (spec_BallsOfLine.j1 (k+1) y0 y1 y2 y3 y4 y5 y6))∧(∀ y0 y1 y2 y3,LeO (spec_BallsOfLine.j2 k y0 y1 y2 y3) (spec_BallsOfLine.j2 (k+1) y0 y1 y2 y3))∧(∀ y0 y1 y2,LeO (spec_BallsOfLine.j3 k y0 y1 y2) (spec_BallsOfLine.j3 (k+1) y0 y1 y2))∧(∀ y0 y1 y2,LeO (spec_BallsOfLine.l0 k y0 y1 y2) (spec_BallsOfLine.l0 (k+1) y0 y1 y2))
 | 0=>by refine ⟨?_,?_,?_,?_,?_⟩ <;> (intros;intro r h;simp [spec_BallsOfLine.j0,spec_BallsOfLine.j1,spec_BallsOfLine.j2,spec_BallsOfLine.j3,spec_BallsOfLine.l0] at h)
 | k+1=>by
  obtain ⟨ih0,ih1,ih2,ih3,ih4⟩:=spec_BallsOfLine.mono_l k
  refine ⟨?_,?_,?_,?_,?_⟩ <;> (intros;first|unfold spec_BallsOfLine.j0|unfold spec_BallsOfLine.j1|unfold spec_BallsOfLine.j2|unfold spec_BallsOfLine.j3|unfold spec_BallsOfLine.l0)
  all_goals repeat' first
  | with_reducible first|exact ih0 ..|exact ih1 ..|exact ih2 ..|exact ih3 ..|exact ih4 ..|exact spec_l05Code.mono ..|exact spec_l05Gap.mono ..|exact spec_l05Side.mono ..|exact LeO.refl _|exact LeO.none _|refine LeO.ite ?_ ?_|refine LeO.bind ?_ fun _=>?_
theorem spec_BallsOfLine.mono:∀ a0 a1 a2 a3 a4 a5 k,LeO (spec_BallsOfLine.f k a0 a1 a2 a3 a4 a5) (spec_BallsOfLine.f (k+1) a0 a1 a2 a3 a4 a5):=by
 intro a0 a1 a2 a3 a4 a5 k
 obtain ⟨ih0,ih1,ih2,ih3,ih4⟩:=spec_BallsOfLine.mono_l k
 unfold spec_BallsOfLine.f
 repeat' first
   | with_reducible first|exact ih0 ..|exact ih1 ..|exact ih2 ..|exact ih3 ..|exact ih4 ..|exact spec_l05Code.mono ..|exact spec_l05Gap.mono ..|exact spec_l05Side.mono ..|exact LeO.refl _|exact LeO.none _|refine LeO.ite ?_ ?_|refine LeO.bind ?_ fun _=>?_
set_option maxHeartbeats 8000000 in
set_option maxRecDepth 100000 in
theorem spec_BallsOfLine.calls (k:Nat) (a0 a1_0 a1_1 a2_0 a2_1 a3:Int) (r1:List (S38)) (r2:Int) (w:World) (h:spec_BallsOfLine.f k a0 a1_0 a1_1 a2_0 a2_1 a3=some (r1,r2)) :
  Calls Try.prog 4 #[.int .i64 a0,.agg #[.int .i64 a1_0,.int .i64 a1_1],.agg #[.int .i64 a2_0,.int .i64 a2_1],.int .i64 a3] w fun e w'=>∃ v0_:Value,e=.returned (.tuple #[v0_,.int .i64 r2])∧Kd.R k38 38 w' w.heap.size (fun _=>True) v0_ r1∧Below w.heap.size w w':=by
 have hu27:=Try.underlying27
 have hu38:=Try.underlying38
 have HB:=Aside0.mk (Below.refl w.heap.size w)
 have H:=h
 unfold spec_BallsOfLine.f at H
 clear h
 obtain ⟨y186,hy186⟩:∃ y_:List (S27),y_=(([(⟨a1_0,a1_1⟩:S27),(⟨a2_0,a2_1⟩:S27)]:List (S27))):=⟨_,rfl⟩
 replace H:((spec_l05Code.f k a0 ([]:List (S38)) y186).bind fun t189=>(if t189=1 then (spec_BallsOfLine.j0 k a0 a3 t189 false a1_0 a1_1 a2_0 a2_1) else ((spec_l01In.f a3 0 6).bind fun t190=>(spec_BallsOfLine.j0 k a0 a3 t189 (!t190) a1_0 a1_1 a2_0 a2_1))))=some (r1,r2):=rH hy186 H
 have Ny186:=Aside0.mk hy186
 clear hy186
 replace H:=bS H
 obtain ⟨t189,A5,H⟩:=H
 try dsimp only at H
 have HC6:=Aside0.mk H
 clear H
 go_enter Try.func4,Try.ntmps4
 go_upto_region 2 with (first|((with_reducible refine gate_dst (N:=5) rfl ?_);refine bxE (cs:=#[.int .i64 a1_0,.int .i64 a1_1]) (t:=27) ?_;intro gb184 hg w7 hbox hb;have BK184:=Aside0.mk hbox;have GW184:=sA hg;have GE184:=sA hg;replace HB:=lB hb;clear hb hbox hg)|((with_reducible refine gate_dst (N:=6) rfl ?_);refine bxE (cs:=#[.int .i64 a2_0,.int .i64 a2_1]) (t:=27) ?_;intro gb185 hg w8 hbox hb;have BK185:=Aside0.mk hbox;have GW185:=sA hg;have GE185:=sA hg;have NB184_185:=nA hg BK184;have NB185_184:=nB hg BK184;replace BK184:=kB BK184 hb;replace HB:=lB hb;clear hb hbox hg;have hnb9:=NB184_185.out;have hnc9:=NB185_184.out;obtain ⟨hcz10_0,hcz10_1,hfz10_0,hfz10_1⟩:=cz2 BK184;obtain ⟨hcz11_0,hcz11_1,hfz11_0,hfz11_1⟩:=cz2 BK185)|((with_reducible refine gate_dst (N:=20) rfl ?_);refine Kd.R_lit k27 _ 27 ?hg (N:=20) ?hd (xs:=([(⟨a1_0,a1_1⟩:S27),(⟨a2_0,a2_1⟩:S27)]:List (S27))) (inner:=[.int .i64 a1_0,.int .i64 a1_1,.int .i64 a2_0,.int .i64 a2_1]) (ok:=fun _=>True) (okp:=fun _=>True) ?hr ?hp (fun _ hk=>hk) trivial (Below.refl _ _) (Nat.le_refl _) (by simp) ?_;(case hd=>rfl);(case hg=>rfl);(case hr=>first|(go_simp;done)|(go_simp;rfl));(case hp=>exact (Reps.c2 (show Kd.M k27 _ _ _ (⟨a1_0,a1_1⟩:S27) [.int .i64 a1_0,.int .i64 a1_1] from (k27_mkM _ _ _ (⟨a1_0,a1_1⟩:S27) )) (Reps.c2 (show Kd.M k27 _ _ _ (⟨a2_0,a2_1⟩:S27) [.int .i64 a2_0,.int .i64 a2_1] from (k27_mkM _ _ _ (⟨a2_0,a2_1⟩:S27) )) (Reps.none _ _))));intro v187 w12 ho13 hb hg_ hnew_;clear hg_ hnew_;(first|rw [← Ny186.out] at ho13|(simp only [Int.reduceToNat] at ho13;rw [← Ny186.out] at ho13));have HO188:=Aside0.mk (Kd.R_lower (Kd.R_newB (Kd.R_newB ho13 (bkA BK184)) (bkA BK185)) (below_size blA));replace BK184:=kB BK184 hb;replace BK185:=kB BK185 hb;replace HB:=lB hb;clear hb ho13;obtain ⟨Ao14,co14,eo14⟩:=Kd.R_slice HO188.out;subst eo14)|((with_reducible refine gate_callee (f:=10) rfl ?_);refine gL (some 21) rfl Try.func10 #[.int .i64 a0,.slice none 0 0,.slice Ao14 y186.length co14] ?_;(refine (spec_l05Code.calls k a0 _ _ ([]:List (S38)) _ _ y186 t189 _ ?side1 ?side2 ?side3 ?side4 A5.out).mono ?_);(case side1=>exact Kd.C_nil _ _);(case side2=>exact Nat.le_refl _);(case side3=>exact cR (Kd.R_reads' HO188.out).2.2);(case side4=>exact (Kd.R_reads' HO188.out).2.1);rintro e w15 ⟨rfl,hb⟩;refine ⟨_,rfl,?_⟩;replace HO188:=Aside0.mk (Kd.R_below (rA HO188) hb);replace BK184:=kB BK184 hb;replace BK185:=kB BK185 hb;replace HB:=lB hb;clear hb))
 (try simp only [Act.put,List.setIfInBounds_toArray,List.set_cons_zero,List.set_cons_succ])
 go_cut [28] (fun v28 wc=>∃ (kq:Nat) (x28_5:Bool),v28=.bool x28_5∧Aside0 (spec_BallsOfLine.j0 kq a0 a3 t189 x28_5 a1_0 a1_1 a2_0 a2_1=some (r1,r2))∧Aside0 (kq≤k)∧Aside0 (wc.heap[gb184]?=some (.cells #[.int .i64 a1_0,.int .i64 a1_1] 27 (0,0)))∧Aside0 (wc.heap[gb185]?=some (.cells #[.int .i64 a2_0,.int .i64 a2_1] 27 (0,0)))∧Aside0 (Below w.heap.size w wc))
 case first=>
  have H:=HC6.out
  clear HC6
  by_cases c16:t189=1
  ·
   rw [if_pos c16] at H
   have c16b0:(t189 == 1)=true:=beq_iff_eq.mpr c16
   have c16b1:(t189 != 1)=false:=bne_eq_false_iff_eq.mpr c16
   clear c16
   (first|rw [c16b0]|(simp only [i64_w,i32_w];rw [c16b0])|skip)
   have H':=Aside0.mk H
   clear H
   go_wp2
   go_meet
   case rel=>exact ⟨_,(false),hB,H',⟨by first|omega|exact Nat.le_refl _⟩,⟨bkA BK184⟩,⟨bkA BK185⟩,⟨blA⟩⟩
  ·
   rw [if_neg c16] at H
   have c16b0:(t189 == 1)=false:=beq_eq_false_iff_ne.mpr c16
   have c16b1:(t189 != 1)=true:=bne_iff_ne.mpr c16
   (first|rw [c16b0]|(simp only [i64_w,i32_w];rw [c16b0])|skip)
   replace H:=bS H
   obtain ⟨t190,A17,H⟩:=H
   try dsimp only at H
   have H':=Aside0.mk H
   clear H
   go_wp2_with (first|(go_at_call 11;(with_reducible refine (spec_l01In.calls a3 0 6 t190 _ A17.out).mono ?_);rintro e w' ⟨rfl,⟨nd,rfl⟩⟩))
   go_meet
   case rel=>exact ⟨_,(!t190),hB,H',⟨by first|omega|exact Nat.le_refl _⟩,⟨bkA BK184⟩,⟨bkA BK185⟩,⟨blA⟩⟩
 case rest=>
  clear HC6
  try clear c2
  try clear c16
  try clear c16b0
  try clear c16b1
  try clear hcz10_0
  try clear hcz10_1
  try clear hcz11_0
  try clear hcz11_1
  try clear hfz10_0
  try clear hfz10_1
  try clear hfz11_0
  try clear hfz11_1
  obtain ⟨kq,x28_5,rfl,HA,HJ5,BK184,BK185,HB⟩:=hcut
  cases kq with
  | zero=>exact absurd HA.out (by simp [spec_BallsOfLine.j0])
  | succ kj5=>
   have H:=HA.out
   clear HA
   simp only [spec_BallsOfLine.j0] at H
   have HC18:=Aside0.mk H
   clear H
   go_upto_if 28 with (fail)
   go_cut [10] (fun v10 wc=>∃ (kq:Nat) (x10_17:Int),v10=.int .i64 x10_17∧Aside0 (spec_BallsOfLine.j1 kq a0 a3 x10_17 a1_0 a1_1 a2_0 a2_1=some (r1,r2))∧Aside0 (kq≤kj5)∧Aside0 (wc.heap[gb184]?=some (.cells #[.int .i64 a1_0,.int .i64 a1_1] 27 (0,0)))∧Aside0 (wc.heap[gb185]?=some (.cells #[.int .i64 a2_0,.int .i64 a2_1] 27 (0,0)))∧Aside0 (Below w.heap.size w wc))
   case first=>
    have H:=HC18.out
    clear HC18
    by_cases c19:x28_5=true
    ·
     subst c19
     rw [if_pos rfl] at H
     try dsimp only at H
     have H':=Aside0.mk H
     clear H
     go_wp2
     go_meet
     case rel=>exact ⟨_,(2),hB,H',⟨by have:=HJ5.out;first|omega|exact Nat.le_refl _⟩,⟨bkA BK184⟩,⟨bkA BK185⟩,⟨blA⟩⟩
    ·
     replace c19:=Bool.eq_false_iff.mpr c19
     subst c19
     rw [if_neg (show ¬ (false=true) by decide)] at H
     try dsimp only at H
     have H':=Aside0.mk H
     clear H
     go_wp2
     go_meet
     case rel=>exact ⟨_,(t189),hB,H',⟨by have:=HJ5.out;first|omega|exact Nat.le_refl _⟩,⟨bkA BK184⟩,⟨bkA BK185⟩,⟨blA⟩⟩
   case rest=>
    clear HC18
    try clear c2
    try clear c16
    try clear c16b0
    try clear c16b1
    try clear c19
    try clear hcz10_0
    try clear hcz10_1
    try clear hcz11_0
    try clear hcz11_1
    try clear hfz10_0
    try clear hfz10_1
    try clear hfz11_0
    try clear hfz11_1
    obtain ⟨kq,x10_17,rfl,HA,HJ17,BK184,BK185,HB⟩:=hcut
    cases kq with
    | zero=>exact absurd HA.out (by simp [spec_BallsOfLine.j1])
    | succ kj17=>
     have H:=HA.out
     clear HA
     simp only [spec_BallsOfLine.j1] at H
     by_cases c20:x10_17=0
     ·
      rw [if_pos c20] at H
      have c20b0:(x10_17 == 0)=true:=beq_iff_eq.mpr c20
      have c20b1:(x10_17 != 0)=false:=bne_eq_false_iff_eq.mpr c20
      clear c20
      have HC21:=Aside0.mk H
      clear H
      go_upto_block 0 with (fail)
      go_cut [11,12,13,14] (fun v11 v12 v13 v14 wc=>∃ (kq:Nat) (x11_20:List (S38)) (x12_20:List (S38)) (x13_20:Bool) (x14_20:Bool),v13=.bool x13_20∧v14=.bool x14_20∧Aside0 (spec_BallsOfLine.j2 kq x11_20 x12_20 x13_20 x14_20=some (r1,r2))∧Aside0 (kq≤kj17)∧Aside0 (Kd.R k38 38 wc w.heap.size (fun k_=>some k_≠(v12:Value).ownBlock) v11 x11_20)∧Aside0 (Kd.R k38 38 wc w.heap.size (fun k_=>some k_≠(v11:Value).ownBlock) v12 x12_20)∧Aside0 (wc.heap[gb184]?=some (.cells #[.int .i64 a1_0,.int .i64 a1_1] 27 (0,0)))∧Aside0 (wc.heap[gb185]?=some (.cells #[.int .i64 a2_0,.int .i64 a2_1] 27 (0,0)))∧Aside0 (Below w.heap.size w wc))
      case first=>
       have H:=HC21.out
       clear HC21
       by_cases c22:a2_1=0
       ·
        rw [if_pos c22] at H
        have c22b0:(a2_1 == 0)=true:=beq_iff_eq.mpr c22
        have c22b1:(a2_1 != 0)=false:=bne_eq_false_iff_eq.mpr c22
        clear c22
        (first|rw [c22b0]|(simp only [i64_w,i32_w];rw [c22b0])|skip)
        replace H:=bS H
        obtain ⟨⟨t191,t194⟩,A23,H⟩:=H
        try dsimp only at H
        have H':=Aside0.mk H
        clear H
        have hnb24:=NB185_184.out
        have hnc24:=NB184_185.out
        obtain ⟨hcz25_0,hcz25_1,hfz25_0,hfz25_1⟩:=cz2 BK185
        obtain ⟨hcz26_0,hcz26_1,hfz26_0,hfz26_1⟩:=cz2 BK184
        go_wp2_with (first|((with_reducible refine gate_callee (f:=12) rfl ?_);refine gL (some 66) rfl Try.func12 #[.int .i64 a0,.agg #[.int .i64 a1_0,.int .i64 a1_1],.int .i64 a3,.int .i64 (wrap64 (-a3))] ?_;(with_reducible refine (spec_l05Side.calls kj17 a0 a1_0 a1_1 a3 (wrap64 (-a3)) t191 t194 _ A23.out).mono ?_);rintro e w27 ⟨v192,rfl,ho0,hb⟩;refine ⟨_,rfl,?_⟩;have HO193:=Aside0.mk (Kd.R_lower ho0 (below_size blA));replace BK184:=kB BK184 hb;replace BK185:=kB BK185 hb;replace HB:=lB hb;clear ho0 hb))
        go_meet
        case rel=>exact ⟨_,(t191),(([]:List (S38))),(t194),(true),hB,hB,H',⟨by have:=HJ5.out;have:=HJ17.out;first|omega|exact Nat.le_refl _⟩,⟨by (with_reducible repeat (first|apply Kd.R_alloc|apply Kd.R_drewN|apply Kd.R_drew));exact Kd.R_mono HO193.out (fun _ hk=>(by simp [Value.ownBlock]))⟩,⟨nlA⟩,⟨bkA BK184⟩,⟨bkA BK185⟩,⟨blA⟩⟩
       ·
        rw [if_neg c22] at H
        have c22b0:(a2_1 == 0)=false:=beq_eq_false_iff_ne.mpr c22
        have c22b1:(a2_1 != 0)=true:=bne_iff_ne.mpr c22
        (first|rw [c22b0]|(simp only [i64_w,i32_w];rw [c22b0])|skip)
        by_cases c28:a1_1=0
        ·
         rw [if_pos c28] at H
         have c28b0:(a1_1 == 0)=true:=beq_iff_eq.mpr c28
         have c28b1:(a1_1 != 0)=false:=bne_eq_false_iff_eq.mpr c28
         clear c28
         replace H:=bS H
         obtain ⟨⟨t195,t198⟩,A29,H⟩:=H
         try dsimp only at H
         have H':=Aside0.mk H
         clear H
         have hnb30:=NB185_184.out
         have hnc30:=NB184_185.out
         obtain ⟨hcz31_0,hcz31_1,hfz31_0,hfz31_1⟩:=cz2 BK185
         obtain ⟨hcz32_0,hcz32_1,hfz32_0,hfz32_1⟩:=cz2 BK184
         go_wp2_with (first|((with_reducible refine gate_callee (f:=12) rfl ?_);refine gL (some 79) rfl Try.func12 #[.int .i64 a0,.agg #[.int .i64 a2_0,.int .i64 a2_1],.int .i64 (wrap64 (-a3)),.int .i64 a3] ?_;(with_reducible refine (spec_l05Side.calls kj17 a0 a2_0 a2_1 (wrap64 (-a3)) a3 t195 t198 _ A29.out).mono ?_);rintro e w33 ⟨v196,rfl,ho0,hb⟩;refine ⟨_,rfl,?_⟩;have HO197:=Aside0.mk (Kd.R_lower ho0 (below_size blA));replace BK184:=kB BK184 hb;replace BK185:=kB BK185 hb;replace HB:=lB hb;clear ho0 hb))
         go_meet
         case rel=>exact ⟨_,(t195),(([]:List (S38))),(t198),(true),hB,hB,H',⟨by have:=HJ5.out;have:=HJ17.out;first|omega|exact Nat.le_refl _⟩,⟨by (with_reducible repeat (first|apply Kd.R_alloc|apply Kd.R_drewN|apply Kd.R_drew));exact Kd.R_mono HO197.out (fun _ hk=>(by simp [Value.ownBlock]))⟩,⟨nlA⟩,⟨bkA BK184⟩,⟨bkA BK185⟩,⟨blA⟩⟩
        ·
         rw [if_neg c28] at H
         have c28b0:(a1_1 == 0)=false:=beq_eq_false_iff_ne.mpr c28
         have c28b1:(a1_1 != 0)=true:=bne_iff_ne.mpr c28
         replace H:=bS H
         obtain ⟨t199,A34,H⟩:=H
         try dsimp only at H
         replace H:=bS H
         obtain ⟨⟨t200,t203⟩,A35,H⟩:=H
         try dsimp only at H
         replace H:=bS H
         obtain ⟨⟨t204,t207⟩,A36,H⟩:=H
         try dsimp only at H
         have H':=Aside0.mk H
         clear H
         have hnb37:=NB185_184.out
         have hnc37:=NB184_185.out
         obtain ⟨hcz38_0,hcz38_1,hfz38_0,hfz38_1⟩:=cz2 BK185
         obtain ⟨hcz39_0,hcz39_1,hfz39_0,hfz39_1⟩:=cz2 BK184
         go_wp2_with (first|((with_reducible refine gd 35 rfl ?_);refine gC (some 35) rfl Try.func13 (spec_l05Gap.calls (w:=_) (h:=A34.out)) ?_;intro w40 hb;replace BK184:=kB BK184 hb;replace BK185:=kB BK185 hb;replace HB:=lB hb;clear hb;obtain ⟨hcz41_0,hcz41_1,hfz41_0,hfz41_1⟩:=cz2 BK184)|((with_reducible refine gate_callee (f:=12) rfl ?_);refine gL (some 43) rfl Try.func12 #[.int .i64 a0,.agg #[.int .i64 a1_0,.int .i64 a1_1],.int .i64 (wrap64 (t199+a3)),.int .i64 t199] ?_;(with_reducible refine (spec_l05Side.calls kj17 a0 a1_0 a1_1 (wrap64 (t199+a3)) t199 t200 t203 _ A35.out).mono ?_);rintro e w42 ⟨v201,rfl,ho0,hb⟩;refine ⟨_,rfl,?_⟩;have HO202:=Aside0.mk (Kd.R_lower ho0 (below_size blA));replace BK184:=kB BK184 hb;replace BK185:=kB BK185 hb;replace HB:=lB hb;clear ho0 hb;obtain ⟨hcz43_0,hcz43_1,hfz43_0,hfz43_1⟩:=cz2 BK185)|((with_reducible refine gate_callee (f:=12) rfl ?_);refine gL (some 53) rfl Try.func12 #[.int .i64 a0,.agg #[.int .i64 a2_0,.int .i64 a2_1],.int .i64 t199,.int .i64 (wrap64 (t199+a3))] ?_;(with_reducible refine (spec_l05Side.calls kj17 a0 a2_0 a2_1 t199 (wrap64 (t199+a3)) t204 t207 _ A36.out).mono ?_);rintro e w44 ⟨v205,rfl,ho0,hb⟩;refine ⟨_,rfl,?_⟩;have HO206:=Aside0.mk (Kd.R_lower (Kd.R_new' ho0 (Kd.R_lt (rA HO202))) (below_size blA));replace HO202:=Aside0.mk (Kd.R_elder' (rA HO202) (Kd.R_base ho0) hb);replace BK184:=kB BK184 hb;replace BK185:=kB BK185 hb;replace HB:=lB hb;clear ho0 hb))
         go_meet
         case rel=>exact ⟨_,(t200),(t204),(t203),(t207),hB,hB,H',⟨by have:=HJ5.out;have:=HJ17.out;first|omega|exact Nat.le_refl _⟩,⟨by (with_reducible repeat (first|apply Kd.R_alloc|apply Kd.R_drewN|apply Kd.R_drew));exact Kd.R_mono HO202.out (fun _ hk=>hk.2)⟩,⟨by (with_reducible repeat (first|apply Kd.R_alloc|apply Kd.R_drewN|apply Kd.R_drew));exact Kd.R_mono HO206.out (fun _ hk=>hk.2)⟩,⟨bkA BK184⟩,⟨bkA BK185⟩,⟨blA⟩⟩
      case rest=>
       clear HC21
       try clear c2
       try clear c16
       try clear c16b0
       try clear c16b1
       try clear c19
       try clear c20
       try clear c20b0
       try clear c20b1
       try clear c22
       try clear c22b0
       try clear c22b1
       try clear c28
       try clear c28b0
       try clear c28b1
       try clear hcz10_0
       try clear hcz10_1
       try clear hcz11_0
       try clear hcz11_1
       try clear hcz25_0
       try clear hcz25_1
       try clear hcz26_0
       try clear hcz26_1
       try clear hcz31_0
       try clear hcz31_1
       try clear hcz32_0
       try clear hcz32_1
       try clear hcz38_0
       try clear hcz38_1
       try clear hcz39_0
       try clear hcz39_1
       try clear hcz41_0
       try clear hcz41_1
       try clear hcz43_0
       try clear hcz43_1
       try clear hfz10_0
       try clear hfz10_1
       try clear hfz11_0
       try clear hfz11_1
       try clear hfz25_0
       try clear hfz25_1
       try clear hfz26_0
       try clear hfz26_1
       try clear hfz31_0
       try clear hfz31_1
       try clear hfz32_0
       try clear hfz32_1
       try clear hfz38_0
       try clear hfz38_1
       try clear hfz39_0
       try clear hfz39_1
       try clear hfz41_0
       try clear hfz41_1
       try clear hfz43_0
       try clear hfz43_1
       obtain ⟨kq,x11_20,x12_20,x13_20,x14_20,rfl,rfl,HA,HJ20,HO_11,HO_12,BK184,BK185,HB⟩:=hcut
       cases kq with
       | zero=>exact absurd HA.out (by simp [spec_BallsOfLine.j2])
       | succ kj20=>
        have H:=HA.out
        clear HA
        simp only [spec_BallsOfLine.j2] at H
        have HC45:=Aside0.mk H
        clear H
        go_upto_region 15 with (fail)
        go_cut [87] (fun v87 wc=>∃ (kq:Nat) (x87_44:Bool),v87=.bool x87_44∧Aside0 (spec_BallsOfLine.j3 kq x11_20 x12_20 x87_44=some (r1,r2))∧Aside0 (kq≤kj20)∧Aside0 (Kd.R k38 38 wc w.heap.size (fun k_=>some k_≠(u12:Value).ownBlock) u11 x11_20)∧Aside0 (Kd.R k38 38 wc w.heap.size (fun k_=>some k_≠(u11:Value).ownBlock) u12 x12_20)∧Aside0 (wc.heap[gb184]?=some (.cells #[.int .i64 a1_0,.int .i64 a1_1] 27 (0,0)))∧Aside0 (wc.heap[gb185]?=some (.cells #[.int .i64 a2_0,.int .i64 a2_1] 27 (0,0)))∧Aside0 (Below w.heap.size w wc))
        case first=>
         have H:=HC45.out
         clear HC45
         by_cases c46:x13_20=true
         ·
          subst c46
          rw [if_pos rfl] at H
          try dsimp only at H
          have H':=Aside0.mk H
          clear H
          go_wp2
          go_meet
          case rel=>exact ⟨_,(!x14_20),hB,H',⟨by have:=HJ5.out;have:=HJ17.out;have:=HJ20.out;first|omega|exact Nat.le_refl _⟩,⟨rA HO_11⟩,⟨rA HO_12⟩,⟨bkA BK184⟩,⟨bkA BK185⟩,⟨blA⟩⟩
         ·
          replace c46:=Bool.eq_false_iff.mpr c46
          subst c46
          rw [if_neg (show ¬ (false=true) by decide)] at H
          try dsimp only at H
          have H':=Aside0.mk H
          clear H
          go_wp2
          go_meet
          case rel=>exact ⟨_,(true),hB,H',⟨by have:=HJ5.out;have:=HJ17.out;have:=HJ20.out;first|omega|exact Nat.le_refl _⟩,⟨rA HO_11⟩,⟨rA HO_12⟩,⟨bkA BK184⟩,⟨bkA BK185⟩,⟨blA⟩⟩
        case rest=>
         clear HC45
         try clear c2
         try clear c16
         try clear c16b0
         try clear c16b1
         try clear c19
         try clear c20
         try clear c20b0
         try clear c20b1
         try clear c22
         try clear c22b0
         try clear c22b1
         try clear c28
         try clear c28b0
         try clear c28b1
         try clear c46
         try clear hcz10_0
         try clear hcz10_1
         try clear hcz11_0
         try clear hcz11_1
         try clear hcz25_0
         try clear hcz25_1
         try clear hcz26_0
         try clear hcz26_1
         try clear hcz31_0
         try clear hcz31_1
         try clear hcz32_0
         try clear hcz32_1
         try clear hcz38_0
         try clear hcz38_1
         try clear hcz39_0
         try clear hcz39_1
         try clear hcz41_0
         try clear hcz41_1
         try clear hcz43_0
         try clear hcz43_1
         try clear hfz10_0
         try clear hfz10_1
         try clear hfz11_0
         try clear hfz11_1
         try clear hfz25_0
         try clear hfz25_1
         try clear hfz26_0
         try clear hfz26_1
         try clear hfz31_0
         try clear hfz31_1
         try clear hfz32_0
         try clear hfz32_1
         try clear hfz38_0
         try clear hfz38_1
         try clear hfz39_0
         try clear hfz39_1
         try clear hfz41_0
         try clear hfz41_1
         try clear hfz43_0
         try clear hfz43_1
         obtain ⟨kq,x87_44,rfl,HA,HJ44,HO_11,HO_12,BK184,BK185,HB⟩:=hcut
         cases kq with
         | zero=>exact absurd HA.out (by simp [spec_BallsOfLine.j3])
         | succ kj44=>
          have H:=HA.out
          clear HA
          simp only [spec_BallsOfLine.j3] at H
          by_cases c47:x87_44=true
          ·
           subst c47
           rw [if_pos rfl] at H
           try dsimp only at H
           simp only [Option.some.injEq,Prod.mk.injEq] at H
           obtain ⟨rfl,rfl⟩:=H
           go_wp2
           go_ret2
           exact ⟨_,eW,nlA,blA⟩
          ·
           replace c47:=Bool.eq_false_iff.mpr c47
           subst c47
           rw [if_neg (show ¬ (false=true) by decide)] at H
           try dsimp only at H
           have H':=Aside0.mk H
           clear H
           go_wp2
           go_loopg [11,16] kj44 (fun kq v11 v16 w'=>∃ (x11_5:List (S38)) (x16_5:Int),v16=.int .i64 x16_5∧Aside0 (spec_BallsOfLine.l0 kq x11_5 x12_20 x16_5=some (r1,r2))∧Aside0 (kq≤kj44)∧Aside0 (Kd.R k38 38 w' w.heap.size (fun k_=>some k_≠(u12:Value).ownBlock) v11 x11_5)∧Aside0 (Kd.R k38 38 w' w.heap.size (fun k_=>some k_≠(v11:Value).ownBlock) u12 x12_20)∧Aside0 (w'.heap[gb184]?=some (.cells #[.int .i64 a1_0,.int .i64 a1_1] 27 (0,0)))∧Aside0 (w'.heap[gb185]?=some (.cells #[.int .i64 a2_0,.int .i64 a2_1] 27 (0,0)))∧Aside0 (Below w.heap.size w w'))
           case atStart=>exact ⟨(x11_20),(1),hB,H',⟨Nat.le_refl _⟩,⟨rA HO_11⟩,⟨rA HO_12⟩,⟨bkA BK184⟩,⟨bkA BK185⟩,⟨blA⟩⟩
           case round=>
            clear H'
            try clear c2
            try clear c16
            try clear c16b0
            try clear c16b1
            try clear c19
            try clear c20
            try clear c20b0
            try clear c20b1
            try clear c22
            try clear c22b0
            try clear c22b1
            try clear c28
            try clear c28b0
            try clear c28b1
            try clear c46
            try clear c47
            try clear hcz10_0
            try clear hcz10_1
            try clear hcz11_0
            try clear hcz11_1
            try clear hcz25_0
            try clear hcz25_1
            try clear hcz26_0
            try clear hcz26_1
            try clear hcz31_0
            try clear hcz31_1
            try clear hcz32_0
            try clear hcz32_1
            try clear hcz38_0
            try clear hcz38_1
            try clear hcz39_0
            try clear hcz39_1
            try clear hcz41_0
            try clear hcz41_1
            try clear hcz43_0
            try clear hcz43_1
            try clear hfz10_0
            try clear hfz10_1
            try clear hfz11_0
            try clear hfz11_1
            try clear hfz25_0
            try clear hfz25_1
            try clear hfz26_0
            try clear hfz26_1
            try clear hfz31_0
            try clear hfz31_1
            try clear hfz32_0
            try clear hfz32_1
            try clear hfz38_0
            try clear hfz38_1
            try clear hfz39_0
            try clear hfz39_1
            try clear hfz41_0
            try clear hfz41_1
            try clear hfz43_0
            try clear hfz43_1
            obtain ⟨x11_5,x16_5,rfl,HA,HK5,HO_11,HO_12,BK184,BK185,HB⟩:=hrel
            cases gk with
            | zero=>exact absurd HA.out (by simp [spec_BallsOfLine.l0])
            | succ k5=>
             have H:=HA.out
             clear HA
             simp only [spec_BallsOfLine.l0] at H
             by_cases c48:x16_5<(x12_20.length:Int)
             ·
              rw [if_pos c48] at H
              have c48b0:=decide_eq_true c48
              clear c48
              by_cases c49:0≤x16_5
              rotate_left
              ·
               rw [if_neg c49] at H
               exact absurd H (by simp)
              rw [if_pos c49] at H
              have c49b0:=decide_eq_true c49
              clear c49
              by_cases c50:x11_5.length<5864062014805
              rotate_left
              ·
               rw [if_neg c50] at H
               exact absurd H (by simp)
              rw [if_pos c50] at H
              have LMc50:=Aside0.mk c50
              clear c50
              obtain ⟨y209,hy209⟩:∃ y_:List (S38),y_=(x11_5 ++ [(⟨(rd_T38 x12_20 x16_5).f0,(rd_T38 x12_20 x16_5).f1,(rd_T38 x12_20 x16_5).f2⟩:S38)]):=⟨_,rfl⟩
              replace H:(spec_BallsOfLine.l0 k5 y209 x12_20 (wrap64 (x16_5+1)))=some (r1,r2):=rH hy209 H
              have Ny209:=Aside0.mk hy209
              clear hy209
              have H':=Aside0.mk H
              clear H
              obtain ⟨Ao51,co51,eo51⟩:=Kd.R_slice HO_12.out
              subst eo51
              have p208:0≤(x16_5:Int):=dA
              have q208:x16_5<(x12_20.length:Int):=dA
              obtain ⟨ad208,e208,hx208_0,hx208_1,hx208_2⟩:=at_T38 (Kd.R_reads' HO_12.out).2.2 x16_5 p208 q208
              cases e208
              replace p208:=eq_true p208
              replace q208:=eq_true q208
              go_wp2_with (first|((with_reducible refine gate_builtin (b:=.append) (xs:=#[.tmp 94,.tmp 99]) rfl ?_);at_builtin;refine Kd.R_append k38 (w0:=w) w.heap.size rfl (.tmp 94) (.tmp 99) 24 38 (.agg #[(.int .i64 0),(.int .i64 0),(.int .i64 0)]) 24 rfl Try.underlying24 info38 rfl (by decide) (by omega) u11 x11_5 (⟨(rd_T38 x12_20 x16_5).f0,(rd_T38 x12_20 x16_5).f1,(rd_T38 x12_20 x16_5).f2⟩:S38) [.int .i64 ((rd_T38 x12_20 x16_5).f0),.int .i64 ((rd_T38 x12_20 x16_5).f1),.int .i64 ((rd_T38 x12_20 x16_5).f2)] (fun k_=>some k_≠(.slice (some ad208) x12_20.length co51:Value).ownBlock) (fun _=>False) rfl rfl ?aP (fun _ hk=>hk.elim) ?aF ?aO ?aB ?aS ?aL ?_;(case aP=>exact k38_mkM _ _ _ (⟨(rd_T38 x12_20 x16_5).f0,(rd_T38 x12_20 x16_5).f1,(rd_T38 x12_20 x16_5).f2⟩:S38));(case aB=>exact blA);(case aF=>exact (fun k_ hk=>Kd.fresh' (Kd.R_lt (rA HO_12)) k_ hk));(case aO=>exact (rA HO_11));(case aS=>exact (below_size blA));(case aL=>have:=LMc50.out;omega);intro v210 w52 ho hb hg hat;rw [← Ny209.out] at ho;have HO211:=Aside0.mk ho;replace HO_12:=Aside0.mk (Kd.R_after (ok:=(fun _=>True)) (by (with_reducible repeat (first|apply Kd.R_alloc|apply Kd.R_drewN|apply Kd.R_drew));exact Kd.R_mono HO_12.out (fun _ hk=>⟨trivial,hk⟩)) hg hat);replace BK184:=Aside0.mk (blk_grown (bkA BK184) hg (Kd.R_ne HO_11.out BK184.out (by decide)));replace BK185:=Aside0.mk (blk_grown (bkA BK185) hg (Kd.R_ne HO_11.out BK185.out (by decide)));replace HB:=Aside0.mk hb;clear HO_11;clear ho hb hg hat))
              go_roundg k5
              case measure=>have:=HJ5.out;have:=HJ17.out;have:=HJ20.out;have:=HJ44.out;have:=HK5.out;omega
              case rel=>exact ⟨(y209),(wrap64 (x16_5+1)),hB,H',⟨by have:=HJ5.out;have:=HJ17.out;have:=HJ20.out;have:=HJ44.out;have:=HK5.out;omega⟩,⟨rA HO211⟩,⟨by (with_reducible repeat (first|apply Kd.R_alloc|apply Kd.R_drewN|apply Kd.R_drew));exact Kd.R_mono HO_12.out (fun _ hk=>hk.2)⟩,⟨bkA BK184⟩,⟨bkA BK185⟩,⟨blA⟩⟩
             ·
              rw [if_neg c48] at H
              have c48b0:=decide_eq_false c48
              clear c48
              simp only [Option.some.injEq,Prod.mk.injEq] at H
              obtain ⟨rfl,rfl⟩:=H
              obtain ⟨Ao53,co53,eo53⟩:=Kd.R_slice HO_12.out
              subst eo53
              go_wp2
              go_ret2
              exact ⟨_,eW,by (with_reducible repeat (first|apply Kd.R_alloc|apply Kd.R_drewN|apply Kd.R_drew));exact Kd.R_mono HO_11.out (fun _ hk=>trivial),blA⟩
     ·
      rw [if_neg c20] at H
      have c20b0:(x10_17 == 0)=false:=beq_eq_false_iff_ne.mpr c20
      have c20b1:(x10_17 != 0)=true:=bne_iff_ne.mpr c20
      simp only [Option.some.injEq,Prod.mk.injEq] at H
      obtain ⟨rfl,rfl⟩:=H
      go_wp2
      go_ret2
      exact ⟨_,eW,nlA,blA⟩
end Go.Proofs.Ytboneolhoajaoaa.PAll
