-- turned out of the kit's print
import Derived.Test.YtnhiehpbkimaeaaQx
import Derived.Test.YtnhiehpbkimaeaaQimplBall56
import Derived.Test.YtnhiehpbkimaeaaQspecl01Is
namespace Go.Proofs.Ytnhiehpbkimaeaa.PAll
open Go.RowKit Go.Proofs.YtnhiehpbkimaeaaW.PrintWords Go.Proofs.YtnhiehpbkimaeaaW.PrintLast Go.Proofs.YtnhiehpbkimaeaaW.PrintMore
attribute [local go_sem] Go.Proofs.Ytnhiehpbkimaeaa.Aux.setCell_drewN Go.Proofs.Ytnhiehpbkimaeaa.Aux.isSome_setCell max2_int min2_int max_two min_two max_three min_three max_four min_four
set_option linter.unusedVariables false
set_option linter.unusedSimpArgs false
def laws_eqInt64SS.l0:Nat→List (List Int)→List (List Int)→Int→Option (Bool)
 | 0,_,_,_=>none
 | k+1,x0,x1,x5=>if x5<(x0.length:Int) then (if 0≤x5 then (if x5<(x1.length:Int) then ((laws_eqInt64S.f k (rd_L4 x0 x5) (rd_L4 x1 x5)).bind fun t516=>(if t516=true then (laws_eqInt64SS.l0 k x0 x1 (wrap64 (x5+1))) else (some false))) else (none)) else (none)) else (some true)
def laws_eqInt64SS.f (k:Nat) (l0:List (List Int)) (l1:List (List Int)):Option (Bool):=if (l0.length:Int)=(l1.length:Int) then (laws_eqInt64SS.l0 k l0 l1 0) else (some false)
theorem laws_eqInt64SS.mono_l:∀ k,(∀ y0 y1 y2,LeO (laws_eqInt64SS.l0 k y0 y1 y2) (laws_eqInt64SS.l0 (k+1) y0 y1 y2))
 | 0=>fun _ _ _ r h=>by simp [laws_eqInt64SS.l0] at h
 | k+1=>by
  have ih0:=laws_eqInt64SS.mono_l k
  ·
   intro y0 y1 y2
   unfold laws_eqInt64SS.l0
   repeat' first
   | with_reducible first|exact ih0 ..|exact laws_eqInt64S.mono ..|exact LeO.refl _|exact LeO.none _|refine LeO.ite ?_ ?_|refine LeO.bind ?_ fun _=>?_
theorem laws_eqInt64SS.mono:∀ a0 a1 k,LeO (laws_eqInt64SS.f k a0 a1) (laws_eqInt64SS.f (k+1) a0 a1):=by
 intro a0 a1 k
 have ih0:=laws_eqInt64SS.mono_l k
 unfold laws_eqInt64SS.f
 repeat' first
   | with_reducible first|exact ih0 ..|exact laws_eqInt64S.mono ..|exact LeO.refl _|exact LeO.none _|refine LeO.ite ?_ ?_|refine LeO.bind ?_ fun _=>?_
set_option maxHeartbeats 8000000 in
set_option maxRecDepth 100000 in
theorem laws_eqInt64SS.calls (k:Nat) (A0:Option Addr) (c0:Nat) (l0:List (List Int)) (A1:Option Addr) (c1:Nat) (l1:List (List Int)) (r:Bool) (w:World) (hr0:Kd.C (Kd.slice 2 (Kd.int .i64)) w A0 l0.length l0) (hc0:l0.length≤c0) (hr1:Kd.C (Kd.slice 2 (Kd.int .i64)) w A1 l1.length l1) (hc1:l1.length≤c1) (h:laws_eqInt64SS.f k l0 l1=some r) :
  Calls Try.prog 8 #[.slice A0 l0.length c0,.slice A1 l1.length c1] w fun e w'=>e=.returned (.bool r)∧Drawn0 w w':=by
 have HR0:=Aside0.mk hr0
 have HC0:=Aside0.mk hc0
 clear hr0 hc0
 have HR1:=Aside0.mk hr1
 have HC1:=Aside0.mk hc1
 clear hr1 hc1
 have H:=h
 unfold laws_eqInt64SS.f at H
 clear h
 by_cases c3:(l0.length:Int)=(l1.length:Int)
 focus
  rw [if_pos c3] at H
  have c3b0:((l0.length:Int) == (l1.length:Int))=true:=beq_iff_eq.mpr c3
  have c3b1:((l0.length:Int) != (l1.length:Int))=false:=bne_eq_false_iff_eq.mpr c3
  have c3b2:(l0.length == l1.length)=true:=by first|simpa using c3|(simp at c3 ⊢;omega)
  clear c3
  have H':=Aside0.mk H
  clear H
 rotate_left
 focus
  rw [if_neg c3] at H
  have c3b0:((l0.length:Int) == (l1.length:Int))=false:=beq_eq_false_iff_ne.mpr c3
  have c3b1:((l0.length:Int) != (l1.length:Int))=true:=bne_iff_ne.mpr c3
  have c3b2:(l0.length == l1.length)=false:=by first|simpa using c3|(simp at c3 ⊢;omega)
  obtain rfl:=Option.some.inj H
 rotate_left
 all_goals
  go_enter Try.func8,Try.ntmps8
  go_wp2
  repeat (go_quiet (fail);try go_wp2)
 ·
  go_loopg [5] k (fun kq v5 w'=>∃ (x5_1:Int),v5=.int .i64 x5_1∧Aside0 (laws_eqInt64SS.l0 kq l0 l1 x5_1=some r)∧Aside0 (kq≤k)∧Drawn0 w w')
  case atStart=>exact ⟨(0),hB,H',⟨Nat.le_refl _⟩,by repeat (first|exact Drawn0.refl _|apply Drawn0.step)⟩
  case round=>
   clear H'
   try clear c1
   try clear c3
   try clear c3b0
   try clear c3b1
   try clear c3b2
   obtain ⟨x5_1,rfl,HA,HK1,⟨m1,rfl⟩⟩:=hrel
   cases gk with
   | zero=>exact absurd HA.out (by simp [laws_eqInt64SS.l0])
   | succ k1=>
    have H:=HA.out
    clear HA
    simp only [laws_eqInt64SS.l0] at H
    by_cases c4:x5_1<(l0.length:Int)
    ·
     rw [if_pos c4] at H
     have c4b0:=decide_eq_true c4
     clear c4
     by_cases c5:0≤x5_1
     rotate_left
     ·
      rw [if_neg c5] at H
      exact absurd H (by simp)
     rw [if_pos c5] at H
     have c5b0:=decide_eq_true c5
     clear c5
     by_cases c6:x5_1<(l1.length:Int)
     rotate_left
     ·
      rw [if_neg c6] at H
      exact absurd H (by simp)
     rw [if_pos c6] at H
     have c6b0:=decide_eq_true c6
     clear c6
     replace H:=bS H
     obtain ⟨t516,A7,H⟩:=H
     try dsimp only at H
     by_cases c8:t516=true
     ·
      subst c8
      rw [if_pos rfl] at H
      try dsimp only at H
      have H':=Aside0.mk H
      clear H
      have p514:0≤(x5_1:Int):=dA
      have q514:x5_1<(l0.length:Int):=dA
      obtain ⟨ad514,A514_0,c514_0,e514,hx514_0,hl514_0,hi514_0⟩:=at_L4 HR0.out x5_1 p514 q514
      cases e514
      have HR514_0:=Aside0.mk hi514_0
      have HC514_0:=Aside0.mk hl514_0
      clear hi514_0 hl514_0
      replace p514:=eq_true p514
      replace q514:=eq_true q514
      have p515:0≤(x5_1:Int):=dA
      have q515:x5_1<(l1.length:Int):=dA
      obtain ⟨ad515,A515_0,c515_0,e515,hx515_0,hl515_0,hi515_0⟩:=at_L4 HR1.out x5_1 p515 q515
      cases e515
      have HR515_0:=Aside0.mk hi515_0
      have HC515_0:=Aside0.mk hl515_0
      clear hi515_0 hl515_0
      replace p515:=eq_true p515
      replace q515:=eq_true q515
      go_wp2_with (first|(go_at_call 21;(with_reducible refine (laws_eqInt64S.calls k1 _ _ (rd_L4 l0 x5_1) _ _ (rd_L4 l1 x5_1) true _ ?side1 ?side2 ?side3 ?side4 A7.out).mono ?_);(case side1=>exact cR HR514_0.out);(case side2=>exact HC514_0.out);(case side3=>exact cR HR515_0.out);(case side4=>exact HC515_0.out);rintro e w' ⟨rfl,⟨nd,rfl⟩⟩;(try exact dd)))
      repeat (go_quiet (first|(go_at_call 21;(with_reducible refine (laws_eqInt64S.calls k1 _ _ (rd_L4 l0 x5_1) _ _ (rd_L4 l1 x5_1) true _ ?side1 ?side2 ?side3 ?side4 A7.out).mono ?_);(case side1=>exact cR HR514_0.out);(case side2=>exact HC514_0.out);(case side3=>exact cR HR515_0.out);(case side4=>exact HC515_0.out);rintro e w' ⟨rfl,⟨nd,rfl⟩⟩;(try exact dd)));try go_wp2_with (first|(go_at_call 21;(with_reducible refine (laws_eqInt64S.calls k1 _ _ (rd_L4 l0 x5_1) _ _ (rd_L4 l1 x5_1) true _ ?side1 ?side2 ?side3 ?side4 A7.out).mono ?_);(case side1=>exact cR HR514_0.out);(case side2=>exact HC514_0.out);(case side3=>exact cR HR515_0.out);(case side4=>exact HC515_0.out);rintro e w' ⟨rfl,⟨nd,rfl⟩⟩;(try exact dd))))
      go_roundg k1
      case measure=>have:=HK1.out;omega
      case rel=>exact ⟨(wrap64 (x5_1+1)),hB,H',⟨by have:=HK1.out;omega⟩,by repeat (first|exact Drawn0.refl _|apply Drawn0.step)⟩
     ·
      replace c8:=Bool.eq_false_iff.mpr c8
      subst c8
      rw [if_neg (show ¬ (false=true) by decide)] at H
      try dsimp only at H
      obtain rfl:=Option.some.inj H
      have p514:0≤(x5_1:Int):=dA
      have q514:x5_1<(l0.length:Int):=dA
      obtain ⟨ad514,A514_0,c514_0,e514,hx514_0,hl514_0,hi514_0⟩:=at_L4 HR0.out x5_1 p514 q514
      cases e514
      have HR514_0:=Aside0.mk hi514_0
      have HC514_0:=Aside0.mk hl514_0
      clear hi514_0 hl514_0
      replace p514:=eq_true p514
      replace q514:=eq_true q514
      have p515:0≤(x5_1:Int):=dA
      have q515:x5_1<(l1.length:Int):=dA
      obtain ⟨ad515,A515_0,c515_0,e515,hx515_0,hl515_0,hi515_0⟩:=at_L4 HR1.out x5_1 p515 q515
      cases e515
      have HR515_0:=Aside0.mk hi515_0
      have HC515_0:=Aside0.mk hl515_0
      clear hi515_0 hl515_0
      replace p515:=eq_true p515
      replace q515:=eq_true q515
      go_wp2_with (first|(go_at_call 21;(with_reducible refine (laws_eqInt64S.calls k1 _ _ (rd_L4 l0 x5_1) _ _ (rd_L4 l1 x5_1) false _ ?side1 ?side2 ?side3 ?side4 A7.out).mono ?_);(case side1=>exact cR HR514_0.out);(case side2=>exact HC514_0.out);(case side3=>exact cR HR515_0.out);(case side4=>exact HC515_0.out);rintro e w' ⟨rfl,⟨nd,rfl⟩⟩;(try exact dd)))
      repeat (go_quiet (first|(go_at_call 21;(with_reducible refine (laws_eqInt64S.calls k1 _ _ (rd_L4 l0 x5_1) _ _ (rd_L4 l1 x5_1) false _ ?side1 ?side2 ?side3 ?side4 A7.out).mono ?_);(case side1=>exact cR HR514_0.out);(case side2=>exact HC514_0.out);(case side3=>exact cR HR515_0.out);(case side4=>exact HC515_0.out);rintro e w' ⟨rfl,⟨nd,rfl⟩⟩;(try exact dd)));try go_wp2_with (first|(go_at_call 21;(with_reducible refine (laws_eqInt64S.calls k1 _ _ (rd_L4 l0 x5_1) _ _ (rd_L4 l1 x5_1) false _ ?side1 ?side2 ?side3 ?side4 A7.out).mono ?_);(case side1=>exact cR HR514_0.out);(case side2=>exact HC514_0.out);(case side3=>exact cR HR515_0.out);(case side4=>exact HC515_0.out);rintro e w' ⟨rfl,⟨nd,rfl⟩⟩;(try exact dd))))
      go_ret
      exact ⟨by first|rfl|(simp;done)|(simp [*];done),by repeat (first|exact Drawn0.refl _|apply Drawn0.step)⟩
    ·
     rw [if_neg c4] at H
     have c4b0:=decide_eq_false c4
     clear c4
     obtain rfl:=Option.some.inj H
     go_wp2
     repeat (go_quiet (fail);try go_wp2)
     go_ret
     exact ⟨by first|rfl|(simp;done)|(simp [*];done),by repeat (first|exact Drawn0.refl _|apply Drawn0.step)⟩
 ·
  go_ret
  exact ⟨by first|rfl|(simp;done)|(simp [*];done),by repeat (first|exact Drawn0.refl _|apply Drawn0.step)⟩
def laws_eqMatrix.f (a0_0 a0_1 a0_2 a0_3 a1_0 a1_1 a1_2 a1_3:Int):Option (Bool):=some (decide (a0_0=a1_0∧a0_1=a1_1∧a0_2=a1_2∧a0_3=a1_3))
set_option maxHeartbeats 8000000 in
set_option maxRecDepth 100000 in
theorem laws_eqMatrix.calls (a0_0 a0_1 a0_2 a0_3 a1_0 a1_1 a1_2 a1_3:Int) (r:Bool) (w:World) (h:laws_eqMatrix.f a0_0 a0_1 a0_2 a0_3 a1_0 a1_1 a1_2 a1_3=some r) :
  Calls Try.prog 22 #[.agg #[.int .i64 a0_0,.int .i64 a0_1,.int .i64 a0_2,.int .i64 a0_3],.agg #[.int .i64 a1_0,.int .i64 a1_1,.int .i64 a1_2,.int .i64 a1_3]] w fun e w'=>e=.returned (.bool r)∧Below w.heap.size w w':=by
 have HR:=Aside0.mk (Option.some.inj h)
 clear h
 have HB:=Aside0.mk (Below.refl w.heap.size w)
 go_enter Try.func22,Try.ntmps22
 go_wp2
 refine wp_loop_rounds 3 ?_
 repeat any_goals (first
  | (rw [rounds_succ];go_wp2)
  | ((go_region_with (go_at_call 39;refine (laws_eqInt64A2.calls _ _ _ _ _ _ rfl).mono ?_;rintro e w' ⟨rfl,hb⟩)) <;> (
   have n0_:=Aside0.mk (below_step (by repeat (first|(with_reducible exact HB.out)|apply pw_below_drewN|apply below_alloc|apply below_drew1)) hb)
   obtain ⟨hc,hf⟩:=bcell hb
   clear HB hb
   have HB:=n0_
   clear n0_
   go_wp2)))
 all_goals go_returns
 all_goals refine ⟨bret ?_,by repeat (first|(with_reducible exact HB.out)|apply pw_below_drewN|apply below_alloc|apply below_drew1)⟩
 all_goals rw [← HR.out]
 all_goals clear HR
 all_goals try simp only [Bool.not_eq_true',Bool.not_eq_false',decide_eq_false_iff_not,decide_eq_true_eq] at *
 all_goals first
  | (symm;refine decide_eq_false ?_;omega)
  | (symm;refine decide_eq_true ?_;omega)
open Go.Proofs.YtnhiehpbkimaeaaW.PrintWords.Kd in
theorem markss_back {W W2:World} {base g n cap:Nat} {ok oki:Nat→Prop} {xs:List (List Int)} {i:Int} {vr:Value} {row t2:List Int} (hH:H (Kd.slice 2 (Kd.int .i64)) 36 W base ok (.slice (some ⟨g,0,none⟩) n cap) xs i oki [vr]) (hR:R (Kd.int .i64) 2 W base oki vr row) (hr:R (Kd.int .i64) 2 W2 base (fun k=>some k=vr.ownBlock∨W.heap.size≤k) vr t2) (hk:Kept W W2 (fun k=>some k=vr.ownBlock)):S (Kd.slice 2 (Kd.int .i64)) 36 W2 base ok (.slice (some ⟨g,0,none⟩) n cap) (xs.set i.toNat t2):=
 H_back (H_kept hH hk (fun k _ hn e=>hn (hR.1 k e.symm))) ⟨vr,rfl,R_mono (R_tight rfl hr) (fun k e=>hR.1 k e.symm)⟩ (fun _ h=>h)
def laws_markInt64SS.l0:Nat→List (List Int)→Int→Int→Option (Int × List (List Int))
 | 0,_,_,_=>none
 | k+1,x0,x1,x5=>if x5<(x0.length:Int) then (if 0≤x5 then ((laws_markInt64S.f k (rd_L4 x0 x5) x1).bind fun bt=>(laws_markInt64SS.l0 k (x0.set (x5:Int).toNat bt.2) bt.1 (wrap64 (x5+1)))) else (none)) else (some (x1,x0))
def laws_markInt64SS.f (k:Nat) (l0:List (List Int)) (a1:Int):Option (Int × List (List Int)):=laws_markInt64SS.l0 k l0 a1 0
set_option maxHeartbeats 8000000 in
set_option maxRecDepth 100000 in
theorem laws_markInt64SS.calls (k:Nat) (P0_:Nat→Prop) (u9000_:Value) (l0:List (List Int)) (a1 r1:Int) (r2:List (List Int)) (w0 w:World) (hB:Below w0.heap.size w0 w) (ho0:Kd.S (Kd.slice 2 (Kd.int .i64)) 36 w w0.heap.size P0_ u9000_ l0) (h:laws_markInt64SS.f k l0 a1=some (r1,r2)) :
  Calls Try.prog 11 #[u9000_,.int .i64 a1] w fun e w'=>e=.returned (.int .i64 r1)∧Kd.S (Kd.slice 2 (Kd.int .i64)) 36 w' w0.heap.size P0_ u9000_ r2∧Below w0.heap.size w0 w'∧Kept w w' (fun k_=>P0_ k_):=by
 have HO0:=Aside0.mk ho0
 have HK:=Aside0.mk (Kept.refl w (fun k_=>P0_ k_))
 have HB:=Aside0.mk hB
 clear hB ho0
 have H:=h
 unfold laws_markInt64SS.f at H
 clear h
 have H':=Aside0.mk H
 clear H
 go_enter Try.func11,Try.ntmps11
 go_wp2
 go_loopg [1,5] k (fun kq v1 v5 w'=>∃ (x0_1:List (List Int)) (x1_1:Int) (x5_1:Int),v1=.int .i64 x1_1∧v5=.int .i64 x5_1∧Aside0 (laws_markInt64SS.l0 kq x0_1 x1_1 x5_1=some (r1,r2))∧Aside0 (kq≤k)∧Aside0 (Kd.S (Kd.slice 2 (Kd.int .i64)) 36 w' w0.heap.size P0_ u9000_ x0_1)∧Aside0 (Kept w w' (fun k_=>P0_ k_))∧Aside0 (Below w0.heap.size w0 w'))
 case atStart=>exact ⟨l0,a1,0,rfl,rfl,H',⟨Nat.le_refl _⟩,⟨by (with_reducible repeat (first|apply Kd.S_alloc|apply Kd.S_drewN|apply Kd.S_drew));exact HO0.out⟩,⟨by repeat (first|(with_reducible first|exact HK.out|apply Kept.alloc|apply Kept.drewN|apply Kept.drew)|exact HK.out)⟩,⟨blA⟩⟩
 case round=>
  clear H'
  obtain ⟨x0_1,x1_1,x5_1,rfl,rfl,HA,HK1,HO_0,HK,HB⟩:=hrel
  cases gk with
  | zero=>exact absurd HA.out (by simp [laws_markInt64SS.l0])
  | succ k1=>
   have H:=HA.out
   clear HA
   simp only [laws_markInt64SS.l0] at H
   by_cases c3:x5_1<(x0_1.length:Int)
   ·
    rw [if_pos c3] at H
    by_cases c4:0≤x5_1
    rotate_left
    ·
     rw [if_neg c4] at H
     exact absurd H (by simp)
    rw [if_pos c4] at H
    replace H:=Option.bind_eq_some_iff.mp H
    obtain ⟨⟨t1,t2⟩,A5,H⟩:=H
    try dsimp only at H
    have H':=Aside0.mk H
    clear H
    obtain ⟨gq,cq,eq_,gbq,glq,clsq,clq⟩:=Kd.S_form HO_0.out (by omega)
    subst eq_
    obtain ⟨oki,cc_,hcl_,hM_,hcc_,hoki,hH⟩:=Kd.S_lend HO_0.out [] x5_1 c4 c3
    obtain ⟨vr,rfl,hR⟩:=hM_
    have hxo:=hcc_ 0 _ rfl
    rw [Nat.add_zero,show ((Kd.slice 2 (Kd.int .i64))).sz=1 from rfl,Nat.mul_one] at hxo
    replace hR:Kd.R (Kd.int .i64) 2 _ _ _ vr (rd_L4 x0_1 x5_1):=hR
    obtain ⟨Ar,cr,rfl⟩:=Kd.R_slice hR
    have HR900:=Aside0.mk hR
    have HKI:=Aside0.mk hoki
    have HH:=Aside0.mk hH
    have A5_:=Aside0.mk A5
    clear hR hoki hH hcc_ hcl_ gbq glq clq A5
    have c3b0:=decide_eq_true c3
    have p5:=eq_true c4
    have q5:=eq_true c3
    clear c3 c4
    go_wp2_with (first|((with_reducible refine gate_callee (f:=23) rfl ?_);refine gL (some 17) rfl Try.func23 #[.slice Ar (rd_L4 x0_1 x5_1).length cr,.int .i64 x1_1] ?_;(refine (laws_markInt64S.calls k1 (fun k_=>some k_=(Value.slice Ar (rd_L4 x0_1 x5_1).length cr).ownBlock) _ (rd_L4 x0_1 x5_1) x1_1 t1 t2 w0 _ blA (by (with_reducible repeat (first|apply Kd.R_alloc|apply Kd.R_drewN|apply Kd.R_drew));exact Kd.R_tight rfl HR900.out) A5_.out).mono ?_);rintro e w9 ⟨rfl,hr9,hb9,hk9⟩;refine ⟨_,rfl,?_⟩;replace HO_0:=Aside0.mk (markss_back HH.out HR900.out hr9 hk9);replace HK:=Aside0.mk (HK.out.then_ hk9 (fun k_ e_=>.inl (HKI.out k_ (HR900.out.1 k_ e_.symm)).1));replace HB:=Aside0.mk hb9;clear HR900 HKI HH;clear hr9 hb9 hk9))
    go_roundg k1
    case measure=>have:=HK1.out;omega
    case rel=>exact ⟨(x0_1.set (x5_1:Int).toNat t2),t1,(wrap64 (x5_1+1)),rfl,rfl,H',⟨by have:=HK1.out;omega⟩,⟨by (with_reducible repeat (first|apply Kd.S_alloc|apply Kd.S_drewN|apply Kd.S_drew));exact HO_0.out⟩,⟨by repeat (first|(with_reducible first|exact HK.out|apply Kept.alloc|apply Kept.drewN|apply Kept.drew)|exact HK.out)⟩,⟨blA⟩⟩
   ·
    rw [if_neg c3] at H
    have c3b0:=decide_eq_false c3
    clear c3
    simp only [Option.some.injEq,Prod.mk.injEq] at H
    obtain ⟨rfl,rfl⟩:=H
    obtain ⟨Ao9,co9,eo9⟩:=Kd.S_slice HO_0.out
    subst eo9
    go_wp2
    go_ret
    exact ⟨eW,by (with_reducible repeat (first|apply Kd.S_alloc|apply Kd.S_drewN|apply Kd.S_drew));exact HO_0.out,blA,by repeat (first|(with_reducible first|exact HK.out|apply Kept.alloc|apply Kept.drewN|apply Kept.drew)|exact HK.out)⟩
def laws_heldInt64SS.l0:Nat→List (List Int)→Int→Int→Option (Int)
 | 0,_,_,_=>none
 | k+1,x0,x1,x5=>if x5<(x0.length:Int) then (if 0≤x5 then ((laws_heldInt64S.f k (rd_L4 x0 x5) x1).bind fun t523=>(if t523<0 then (some (-1)) else (laws_heldInt64SS.l0 k x0 t523 (wrap64 (x5+1))))) else (none)) else (some x1)
def laws_heldInt64SS.f (k:Nat) (l0:List (List Int)) (a1:Int):Option (Int):=laws_heldInt64SS.l0 k l0 a1 0
theorem laws_heldInt64SS.mono_l:∀ k,(∀ y0 y1 y2,LeO (laws_heldInt64SS.l0 k y0 y1 y2) (laws_heldInt64SS.l0 (k+1) y0 y1 y2))
 | 0=>fun _ _ _ r h=>by simp [laws_heldInt64SS.l0] at h
 | k+1=>by
  have ih0:=laws_heldInt64SS.mono_l k
  ·
   intro y0 y1 y2
   unfold laws_heldInt64SS.l0
   repeat' first
   | with_reducible first|exact ih0 ..|exact laws_heldInt64S.mono ..|exact LeO.refl _|exact LeO.none _|refine LeO.ite ?_ ?_|refine LeO.bind ?_ fun _=>?_
theorem laws_heldInt64SS.mono:∀ a0 a1 k,LeO (laws_heldInt64SS.f k a0 a1) (laws_heldInt64SS.f (k+1) a0 a1):=by
 intro a0 a1 k
 have ih0:=laws_heldInt64SS.mono_l k
 unfold laws_heldInt64SS.f
 repeat' first
   | with_reducible first|exact ih0 ..|exact laws_heldInt64S.mono ..|exact LeO.refl _|exact LeO.none _|refine LeO.ite ?_ ?_|refine LeO.bind ?_ fun _=>?_
set_option maxHeartbeats 8000000 in
set_option maxRecDepth 100000 in
theorem laws_heldInt64SS.calls (k:Nat) (A0:Option Addr) (c0:Nat) (l0:List (List Int)) (a1 r:Int) (w:World) (hr0:Kd.C (Kd.slice 2 (Kd.int .i64)) w A0 l0.length l0) (hc0:l0.length≤c0) (h:laws_heldInt64SS.f k l0 a1=some r) :
  Calls Try.prog 12 #[.slice A0 l0.length c0,.int .i64 a1] w fun e w'=>e=.returned (.int .i64 r)∧Drawn0 w w':=by
 have HR0:=Aside0.mk hr0
 have HC0:=Aside0.mk hc0
 clear hr0 hc0
 have H:=h
 unfold laws_heldInt64SS.f at H
 clear h
 have H':=Aside0.mk H
 clear H
 go_enter Try.func12,Try.ntmps12
 go_wp2
 go_loopg [1,5] k (fun kq v1 v5 w'=>∃ (x1_1:Int) (x5_1:Int),v1=.int .i64 x1_1∧v5=.int .i64 x5_1∧Aside0 (laws_heldInt64SS.l0 kq l0 x1_1 x5_1=some r)∧Aside0 (kq≤k)∧Drawn0 w w')
 case atStart=>exact ⟨(a1),(0),hB,hB,H',⟨Nat.le_refl _⟩,by repeat (first|exact Drawn0.refl _|apply Drawn0.step)⟩
 case round=>
  clear H'
  obtain ⟨x1_1,x5_1,rfl,rfl,HA,HK1,⟨m1,rfl⟩⟩:=hrel
  cases gk with
  | zero=>exact absurd HA.out (by simp [laws_heldInt64SS.l0])
  | succ k1=>
   have H:=HA.out
   clear HA
   simp only [laws_heldInt64SS.l0] at H
   by_cases c3:x5_1<(l0.length:Int)
   ·
    rw [if_pos c3] at H
    have c3b0:=decide_eq_true c3
    clear c3
    by_cases c4:0≤x5_1
    rotate_left
    ·
     rw [if_neg c4] at H
     exact absurd H (by simp)
    rw [if_pos c4] at H
    have c4b0:=decide_eq_true c4
    clear c4
    replace H:=bS H
    obtain ⟨t523,A5,H⟩:=H
    try dsimp only at H
    by_cases c6:t523<0
    focus
     rw [if_pos c6] at H
     have c6b0:=decide_eq_true c6
     clear c6
     obtain rfl:=Option.some.inj H
     have p522:0≤(x5_1:Int):=dA
     have q522:x5_1<(l0.length:Int):=dA
     obtain ⟨ad522,A522_0,c522_0,e522,hx522_0,hl522_0,hi522_0⟩:=at_L4 HR0.out x5_1 p522 q522
     cases e522
     have HR522_0:=Aside0.mk hi522_0
     have HC522_0:=Aside0.mk hl522_0
     clear hi522_0 hl522_0
     replace p522:=eq_true p522
     replace q522:=eq_true q522
    rotate_left
    focus
     rw [if_neg c6] at H
     have c6b0:=decide_eq_false c6
     clear c6
     have H':=Aside0.mk H
     clear H
     have p522:0≤(x5_1:Int):=dA
     have q522:x5_1<(l0.length:Int):=dA
     obtain ⟨ad522,A522_0,c522_0,e522,hx522_0,hl522_0,hi522_0⟩:=at_L4 HR0.out x5_1 p522 q522
     cases e522
     have HR522_0:=Aside0.mk hi522_0
     have HC522_0:=Aside0.mk hl522_0
     clear hi522_0 hl522_0
     replace p522:=eq_true p522
     replace q522:=eq_true q522
    rotate_left
    all_goals
     go_wp2_with (first|((with_reducible refine gd 17 rfl ?_);refine gC (some 17) rfl Try.func24 (laws_heldInt64S.calls (w:=_) (hr0:=cR HR522_0.out) (hc0:=HC522_0.out) (h:=A5.out)) ?_;rintro _ ⟨nd,rfl⟩))
    ·
     go_ret
     exact ⟨by first|rfl|(simp;done)|(simp [*];done),by repeat (first|exact Drawn0.refl _|apply Drawn0.step)⟩
    ·
     go_roundg k1
     case measure=>have:=HK1.out;omega
     case rel=>exact ⟨(t523),(wrap64 (x5_1+1)),hB,hB,H',⟨by have:=HK1.out;omega⟩,by repeat (first|exact Drawn0.refl _|apply Drawn0.step)⟩
   ·
    rw [if_neg c3] at H
    have c3b0:=decide_eq_false c3
    clear c3
    obtain rfl:=Option.some.inj H
    go_wp2
    go_ret
    exact ⟨by first|rfl|(simp;done)|(simp [*];done),by repeat (first|exact Drawn0.refl _|apply Drawn0.step)⟩
def spec_l06Code.f (k:Nat) (a0:Int) (l1:List (S42)) (a2:Int):Option (Int):=(spec_l01Prime.f a0).bind fun t104=>(if t104=true then ((spec_l06Movers.f k l1 6).bind fun t105=>(if t105=0 then ((spec_l01In.f a2 0 3).bind fun t106=>(if t106=true then (some t105) else (some 2))) else (some t105))) else (some 1))
theorem spec_l06Code.mono:∀ a0 a1 a2 k,LeO (spec_l06Code.f k a0 a1 a2) (spec_l06Code.f (k+1) a0 a1 a2):=by
 intro a0 a1 a2 k
 unfold spec_l06Code.f
 repeat' first
   | with_reducible first|exact spec_l06Movers.mono ..|exact LeO.refl _|exact LeO.none _|refine LeO.ite ?_ ?_|refine LeO.bind ?_ fun _=>?_
set_option maxHeartbeats 8000000 in
set_option maxRecDepth 100000 in
theorem spec_l06Code.calls (k:Nat) (a0:Int) (A1:Option Addr) (c1:Nat) (l1:List (S42)) (a2 r:Int) (w:World) (hr1:Kd.C k42 w A1 l1.length l1) (hc1:l1.length≤c1) (h:spec_l06Code.f k a0 l1 a2=some r) :
  Calls Try.prog 13 #[.int .i64 a0,.slice A1 l1.length c1,.int .i64 a2] w fun e w'=>e=.returned (.int .i64 r)∧Below w.heap.size w w':=by
 have HR1:=Aside0.mk hr1
 have HC1:=Aside0.mk hc1
 clear hr1 hc1
 have HB:=Aside0.mk (Below.refl w.heap.size w)
 have H:=h
 unfold spec_l06Code.f at H
 clear h
 replace H:=bS H
 obtain ⟨t104,A4,H⟩:=H
 try dsimp only at H
 by_cases c5:t104=true
 ·
  subst c5
  rw [if_pos rfl] at H
  try dsimp only at H
  replace H:=bS H
  obtain ⟨t105,A6,H⟩:=H
  try dsimp only at H
  by_cases c7:t105=0
  ·
   rw [if_pos c7] at H
   have c7b0:(t105 == 0)=true:=beq_iff_eq.mpr c7
   have c7b1:(t105 != 0)=false:=bne_eq_false_iff_eq.mpr c7
   clear c7
   replace H:=bS H
   obtain ⟨t106,A8,H⟩:=H
   try dsimp only at H
   by_cases c9:t106=true
   ·
    subst c9
    rw [if_pos rfl] at H
    try dsimp only at H
    obtain rfl:=Option.some.inj H
    go_enter Try.func13,Try.ntmps13
    go_wp2_with (first|((with_reducible refine gd 9 rfl ?_);refine gC (some 9) rfl Try.func25 (spec_l01Prime.calls (w:=_) (h:=A4.out)) ?_;rintro _ ⟨nd,rfl⟩)|((with_reducible refine gd 12 rfl ?_);refine gC (some 12) rfl Try.func26 (spec_l06Movers.calls (w:=_) (hr0:=cR HR1.out) (hc0:=HC1.out) (h:=A6.out)) ?_;intro w10 hb;replace HB:=lB hb;clear hb)|(go_at_call 27;(with_reducible refine (spec_l01In.calls a2 0 3 true _ A8.out).mono ?_);rintro e w' ⟨rfl,⟨nd,rfl⟩⟩))
    go_ret
    exact finA blA
   ·
    replace c9:=Bool.eq_false_iff.mpr c9
    subst c9
    rw [if_neg (show ¬ (false=true) by decide)] at H
    try dsimp only at H
    obtain rfl:=Option.some.inj H
    go_enter Try.func13,Try.ntmps13
    go_wp2_with (first|((with_reducible refine gd 9 rfl ?_);refine gC (some 9) rfl Try.func25 (spec_l01Prime.calls (w:=_) (h:=A4.out)) ?_;rintro _ ⟨nd,rfl⟩)|((with_reducible refine gd 12 rfl ?_);refine gC (some 12) rfl Try.func26 (spec_l06Movers.calls (w:=_) (hr0:=cR HR1.out) (hc0:=HC1.out) (h:=A6.out)) ?_;intro w11 hb;replace HB:=lB hb;clear hb)|(go_at_call 27;(with_reducible refine (spec_l01In.calls a2 0 3 false _ A8.out).mono ?_);rintro e w' ⟨rfl,⟨nd,rfl⟩⟩))
    go_ret
    exact finA blA
  ·
   rw [if_neg c7] at H
   have c7b0:(t105 == 0)=false:=beq_eq_false_iff_ne.mpr c7
   have c7b1:(t105 != 0)=true:=bne_iff_ne.mpr c7
   obtain rfl:=Option.some.inj H
   go_enter Try.func13,Try.ntmps13
   go_wp2_with (first|((with_reducible refine gd 9 rfl ?_);refine gC (some 9) rfl Try.func25 (spec_l01Prime.calls (w:=_) (h:=A4.out)) ?_;rintro _ ⟨nd,rfl⟩)|((with_reducible refine gd 12 rfl ?_);refine gC (some 12) rfl Try.func26 (spec_l06Movers.calls (w:=_) (hr0:=cR HR1.out) (hc0:=HC1.out) (h:=A6.out)) ?_;intro w12 hb;replace HB:=lB hb;clear hb))
   go_ret
   exact finA blA
 ·
  replace c5:=Bool.eq_false_iff.mpr c5
  subst c5
  rw [if_neg (show ¬ (false=true) by decide)] at H
  try dsimp only at H
  obtain rfl:=Option.some.inj H
  go_enter Try.func13,Try.ntmps13
  go_wp2_with (first|((with_reducible refine gd 9 rfl ?_);refine gC (some 9) rfl Try.func25 (spec_l01Prime.calls (w:=_) (h:=A4.out)) ?_;rintro _ ⟨nd,rfl⟩))
  go_ret
  exact finA blA
end Go.Proofs.Ytnhiehpbkimaeaa.PAll
