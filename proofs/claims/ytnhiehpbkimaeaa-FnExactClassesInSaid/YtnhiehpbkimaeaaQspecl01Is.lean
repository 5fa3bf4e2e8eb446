-- turned out of the kit's print
import Derived.Test.YtnhiehpbkimaeaaQx
import Derived.Test.YtnhiehpbkimaeaaQimplBall56
namespace Go.Proofs.Ytnhiehpbkimaeaa.PAll
open Go.RowKit Go.Proofs.YtnhiehpbkimaeaaW.PrintWords Go.Proofs.YtnhiehpbkimaeaaW.PrintLast Go.Proofs.YtnhiehpbkimaeaaW.PrintMore
attribute [local go_sem] Go.Proofs.Ytnhiehpbkimaeaa.Aux.setCell_drewN Go.Proofs.Ytnhiehpbkimaeaa.Aux.isSome_setCell max2_int min2_int max_two min_two max_three min_three max_four min_four
set_option linter.unusedVariables false
set_option linter.unusedSimpArgs false
def laws_eqInt64S.l0:Nat→List Int→List Int→Int→Option (Bool)
 | 0,_,_,_=>none
 | k+1,x0,x1,x5=>if x5<(x0.length:Int) then (if 0≤x5 then (if x5<(x1.length:Int) then (if (rd x0 x5)=(rd x1 x5) then (laws_eqInt64S.l0 k x0 x1 (wrap64 (x5+1))) else (some false)) else (none)) else (none)) else (some true)
def laws_eqInt64S.f (k:Nat) (l0 l1:List Int):Option (Bool):=if (l0.length:Int)=(l1.length:Int) then (laws_eqInt64S.l0 k l0 l1 0) else (some false)
theorem laws_eqInt64S.mono_l:∀ k,(∀ y0 y1 y2,LeO (laws_eqInt64S.l0 k y0 y1 y2) (laws_eqInt64S.l0 (k+1) y0 y1 y2))
 | 0=>fun _ _ _ r h=>by simp [laws_eqInt64S.l0] at h
 | k+1=>by
  have ih0:=laws_eqInt64S.mono_l k
  ·
   intro y0 y1 y2
   unfold laws_eqInt64S.l0
   repeat' first
   | with_reducible first|exact ih0 ..|exact LeO.refl _|exact LeO.none _|refine LeO.ite ?_ ?_|refine LeO.bind ?_ fun _=>?_
theorem laws_eqInt64S.mono:∀ a0 a1 k,LeO (laws_eqInt64S.f k a0 a1) (laws_eqInt64S.f (k+1) a0 a1):=by
 intro a0 a1 k
 have ih0:=laws_eqInt64S.mono_l k
 unfold laws_eqInt64S.f
 repeat' first
   | with_reducible first|exact ih0 ..|exact LeO.refl _|exact LeO.none _|refine LeO.ite ?_ ?_|refine LeO.bind ?_ fun _=>?_
set_option maxHeartbeats 8000000 in
set_option maxRecDepth 100000 in
theorem laws_eqInt64S.calls (k:Nat) (A0:Option Addr) (c0:Nat) (l0:List Int) (A1:Option Addr) (c1:Nat) (l1:List Int) (r:Bool) (w:World) (hr0:Kd.C (Kd.int .i64) w A0 l0.length l0) (hc0:l0.length≤c0) (hr1:Kd.C (Kd.int .i64) w A1 l1.length l1) (hc1:l1.length≤c1) (h:laws_eqInt64S.f k l0 l1=some r) :
  Calls Try.prog 21 #[.slice A0 l0.length c0,.slice A1 l1.length c1] w fun e w'=>e=.returned (.bool r)∧Drawn0 w w':=by
 have HR0:=Aside0.mk hr0
 have HC0:=Aside0.mk hc0
 clear hr0 hc0
 have HR1:=Aside0.mk hr1
 have HC1:=Aside0.mk hc1
 clear hr1 hc1
 have H:=h
 unfold laws_eqInt64S.f at H
 clear h
 by_cases c3:(l0.length:Int)=(l1.length:Int)
 focus
  rw [if_pos c3] at H
  have c3b0:((l0.length:Int) == (l1.length:Int))=true:=beq_iff_eq.mpr c3
  have c3b1:((l0.length:Int) != (l1.length:Int))=false:=bne_eq_false_iff_eq.mpr c3
  have c3b2:(l0.length == l1.length)=true:=by first|simpa using c3|(simp at c3 ⊢;omega)
  clear c3
  have H':=Aside0.mk H
  clear H
 rotate_left
 focus
  rw [if_neg c3] at H
  have c3b0:((l0.length:Int) == (l1.length:Int))=false:=beq_eq_false_iff_ne.mpr c3
  have c3b1:((l0.length:Int) != (l1.length:Int))=true:=bne_iff_ne.mpr c3
  have c3b2:(l0.length == l1.length)=false:=by first|simpa using c3|(simp at c3 ⊢;omega)
  obtain rfl:=Option.some.inj H
 rotate_left
 all_goals
  go_enter Try.func21,Try.ntmps21
  go_wp2
  repeat (go_quiet (fail);try go_wp2)
 ·
  go_loopg [5] k (fun kq v5 w'=>∃ (x5_1:Int),v5=.int .i64 x5_1∧Aside0 (laws_eqInt64S.l0 kq l0 l1 x5_1=some r)∧Aside0 (kq≤k)∧Drawn0 w w')
  case atStart=>exact ⟨(0),hB,H',⟨Nat.le_refl _⟩,by repeat (first|exact Drawn0.refl _|apply Drawn0.step)⟩
  case round=>
   clear H'
   try clear c1
   try clear c3
   try clear c3b0
   try clear c3b1
   try clear c3b2
   obtain ⟨x5_1,rfl,HA,HK1,⟨m1,rfl⟩⟩:=hrel
   cases gk with
   | zero=>exact absurd HA.out (by simp [laws_eqInt64S.l0])
   | succ k1=>
    have H:=HA.out
    clear HA
    simp only [laws_eqInt64S.l0] at H
    by_cases c4:x5_1<(l0.length:Int)
    ·
     rw [if_pos c4] at H
     have c4b0:=decide_eq_true c4
     clear c4
     by_cases c5:0≤x5_1
     rotate_left
     ·
      rw [if_neg c5] at H
      exact absurd H (by simp)
     rw [if_pos c5] at H
     have c5b0:=decide_eq_true c5
     clear c5
     by_cases c6:x5_1<(l1.length:Int)
     rotate_left
     ·
      rw [if_neg c6] at H
      exact absurd H (by simp)
     rw [if_pos c6] at H
     have c6b0:=decide_eq_true c6
     clear c6
     by_cases c7:(rd l0 x5_1)=(rd l1 x5_1)
     ·
      rw [if_pos c7] at H
      have c7b0:((rd l0 x5_1) == (rd l1 x5_1))=true:=beq_iff_eq.mpr c7
      have c7b1:((rd l0 x5_1) != (rd l1 x5_1))=false:=bne_eq_false_iff_eq.mpr c7
      clear c7
      have H':=Aside0.mk H
      clear H
      have p512:0≤(x5_1:Int):=dA
      have q512:x5_1<(l0.length:Int):=dA
      obtain ⟨ad512,e512,hx512_0⟩:=Kd.at_int HR0.out x5_1 p512 q512
      cases e512
      replace p512:=eq_true p512
      replace q512:=eq_true q512
      have p513:0≤(x5_1:Int):=dA
      have q513:x5_1<(l1.length:Int):=dA
      obtain ⟨ad513,e513,hx513_0⟩:=Kd.at_int HR1.out x5_1 p513 q513
      cases e513
      replace p513:=eq_true p513
      replace q513:=eq_true q513
      go_wp2
      repeat (go_quiet (fail);try go_wp2)
      go_roundg k1
      case measure=>have:=HK1.out;omega
      case rel=>exact ⟨(wrap64 (x5_1+1)),hB,H',⟨by have:=HK1.out;omega⟩,by repeat (first|exact Drawn0.refl _|apply Drawn0.step)⟩
     ·
      rw [if_neg c7] at H
      have c7b0:((rd l0 x5_1) == (rd l1 x5_1))=false:=beq_eq_false_iff_ne.mpr c7
      have c7b1:((rd l0 x5_1) != (rd l1 x5_1))=true:=bne_iff_ne.mpr c7
      obtain rfl:=Option.some.inj H
      have p512:0≤(x5_1:Int):=dA
      have q512:x5_1<(l0.length:Int):=dA
      obtain ⟨ad512,e512,hx512_0⟩:=Kd.at_int HR0.out x5_1 p512 q512
      cases e512
      replace p512:=eq_true p512
      replace q512:=eq_true q512
      have p513:0≤(x5_1:Int):=dA
      have q513:x5_1<(l1.length:Int):=dA
      obtain ⟨ad513,e513,hx513_0⟩:=Kd.at_int HR1.out x5_1 p513 q513
      cases e513
      replace p513:=eq_true p513
      replace q513:=eq_true q513
      go_wp2
      repeat (go_quiet (fail);try go_wp2)
      go_ret
      exact ⟨by first|rfl|(simp;done)|(simp [*];done),by repeat (first|exact Drawn0.refl _|apply Drawn0.step)⟩
    ·
     rw [if_neg c4] at H
     have c4b0:=decide_eq_false c4
     clear c4
     obtain rfl:=Option.some.inj H
     go_wp2
     repeat (go_quiet (fail);try go_wp2)
     go_ret
     exact ⟨by first|rfl|(simp;done)|(simp [*];done),by repeat (first|exact Drawn0.refl _|apply Drawn0.step)⟩
 ·
  go_ret
  exact ⟨by first|rfl|(simp;done)|(simp [*];done),by repeat (first|exact Drawn0.refl _|apply Drawn0.step)⟩
def laws_eqInt64A2.f (a0_0 a0_1 a1_0 a1_1:Int):Option (Bool):=some (decide (a0_0=a1_0∧a0_1=a1_1))
set_option maxHeartbeats 8000000 in
set_option maxRecDepth 100000 in
theorem laws_eqInt64A2.calls (a0_0 a0_1 a1_0 a1_1:Int) (r:Bool) (w:World) (h:laws_eqInt64A2.f a0_0 a0_1 a1_0 a1_1=some r) :
  Calls Try.prog 39 #[.agg #[.int .i64 a0_0,.int .i64 a0_1],.agg #[.int .i64 a1_0,.int .i64 a1_1]] w fun e w'=>e=.returned (.bool r)∧Below w.heap.size w w':=by
 have HR:=Aside0.mk (Option.some.inj h)
 clear h
 go_enter Try.func39,Try.ntmps39
 go_wp2
 refine wp_loop_rounds 3 ?_
 repeat any_goals (first|(rw [rounds_succ];go_wp2)|(go_quiet (fail);go_wp2))
 all_goals go_returns
 all_goals refine ⟨bret ?_,by repeat (first|(with_reducible exact Below.refl _ _)|apply pw_below_drewN|apply below_alloc|apply below_drew1)⟩
 all_goals rw [← HR.out]
 all_goals clear HR
 all_goals try simp only [bne_iff_ne,bne_eq_false_iff_eq,ne_eq] at *
 all_goals first
  | (symm;refine decide_eq_false ?_;omega)
  | (symm;refine decide_eq_true ?_;omega)
def laws_markMatrixS.l0:Nat→List (S42)→Int→Int→Option (Int)
 | 0,_,_,_=>none
 | k+1,x0,x1,x5=>if x5<(x0.length:Int) then (laws_markMatrixS.l0 k x0 x1 (wrap64 (x5+1))) else (some x1)
def laws_markMatrixS.f (k:Nat) (l0:List (S42)) (a1:Int):Option (Int):=laws_markMatrixS.l0 k l0 a1 0
theorem laws_markMatrixS.mono_l:∀ k,(∀ y0 y1 y2,LeO (laws_markMatrixS.l0 k y0 y1 y2) (laws_markMatrixS.l0 (k+1) y0 y1 y2))
 | 0=>fun _ _ _ r h=>by simp [laws_markMatrixS.l0] at h
 | k+1=>by
  have ih0:=laws_markMatrixS.mono_l k
  ·
   intro y0 y1 y2
   unfold laws_markMatrixS.l0
   repeat' first
   | with_reducible first|exact ih0 ..|exact LeO.refl _|exact LeO.none _|refine LeO.ite ?_ ?_|refine LeO.bind ?_ fun _=>?_
theorem laws_markMatrixS.mono:∀ a0 a1 k,LeO (laws_markMatrixS.f k a0 a1) (laws_markMatrixS.f (k+1) a0 a1):=by
 intro a0 a1 k
 have ih0:=laws_markMatrixS.mono_l k
 unfold laws_markMatrixS.f
 repeat' first
   | with_reducible first|exact ih0 ..|exact LeO.refl _|exact LeO.none _|refine LeO.ite ?_ ?_|refine LeO.bind ?_ fun _=>?_
set_option maxHeartbeats 8000000 in
set_option maxRecDepth 100000 in
theorem laws_markMatrixS.calls (k:Nat) (A0:Option Addr) (c0:Nat) (l0:List (S42)) (a1 r:Int) (w:World) (hr0:Kd.C k42 w A0 l0.length l0) (hc0:l0.length≤c0) (h:laws_markMatrixS.f k l0 a1=some r) :
  Calls Try.prog 10 #[.slice A0 l0.length c0,.int .i64 a1] w fun e w'=>e=.returned (.int .i64 r)∧Drawn0 w w':=by
 have HR0:=Aside0.mk hr0
 have HC0:=Aside0.mk hc0
 clear hr0 hc0
 have H:=h
 unfold laws_markMatrixS.f at H
 clear h
 have H':=Aside0.mk H
 clear H
 go_enter Try.func10,Try.ntmps10
 go_wp2
 go_loopg [5] k (fun kq v5 w'=>∃ (x5_1:Int),v5=.int .i64 x5_1∧Aside0 (laws_markMatrixS.l0 kq l0 a1 x5_1=some r)∧Aside0 (kq≤k)∧Drawn0 w w')
 case atStart=>exact ⟨(0),hB,H',⟨Nat.le_refl _⟩,by repeat (first|exact Drawn0.refl _|apply Drawn0.step)⟩
 case round=>
  clear H'
  obtain ⟨x5_1,rfl,HA,HK1,⟨m1,rfl⟩⟩:=hrel
  cases gk with
  | zero=>exact absurd HA.out (by simp [laws_markMatrixS.l0])
  | succ k1=>
   have H:=HA.out
   clear HA
   simp only [laws_markMatrixS.l0] at H
   by_cases c3:x5_1<(l0.length:Int)
   ·
    rw [if_pos c3] at H
    have c3b0:=decide_eq_true c3
    clear c3
    have H':=Aside0.mk H
    clear H
    go_wp2
    go_roundg k1
    case measure=>have:=HK1.out;omega
    case rel=>exact ⟨(wrap64 (x5_1+1)),hB,H',⟨by have:=HK1.out;omega⟩,by repeat (first|exact Drawn0.refl _|apply Drawn0.step)⟩
   ·
    rw [if_neg c3] at H
    have c3b0:=decide_eq_false c3
    clear c3
    obtain rfl:=Option.some.inj H
    go_wp2
    go_ret
    exact ⟨by first|rfl|(simp;done)|(simp [*];done),by repeat (first|exact Drawn0.refl _|apply Drawn0.step)⟩
def laws_markInt64S.l0:Nat→List Int→Int→Int→Option (Int × List Int)
 | 0,_,_,_=>none
 | k+1,x0,x1,x5=>if x5<(x0.length:Int) then (if 0≤x5 then (laws_markInt64S.l0 k (x0.set (x5:Int).toNat x1) (wrap64 (x1+1)) (wrap64 (x5+1))) else (none)) else (some (x1,x0))
def laws_markInt64S.f (k:Nat) (l0:List Int) (a1:Int):Option (Int × List Int):=laws_markInt64S.l0 k l0 a1 0
theorem laws_markInt64S.mono_l:∀ k,(∀ y0 y1 y2,LeO (laws_markInt64S.l0 k y0 y1 y2) (laws_markInt64S.l0 (k+1) y0 y1 y2))
 | 0=>fun _ _ _ r h=>by simp [laws_markInt64S.l0] at h
 | k+1=>by
  have ih0:=laws_markInt64S.mono_l k
  ·
   intro y0 y1 y2
   unfold laws_markInt64S.l0
   repeat' first
   | with_reducible first|exact ih0 ..|exact LeO.refl _|exact LeO.none _|refine LeO.ite ?_ ?_|refine LeO.bind ?_ fun _=>?_
theorem laws_markInt64S.mono:∀ a0 a1 k,LeO (laws_markInt64S.f k a0 a1) (laws_markInt64S.f (k+1) a0 a1):=by
 intro a0 a1 k
 have ih0:=laws_markInt64S.mono_l k
 unfold laws_markInt64S.f
 repeat' first
   | with_reducible first|exact ih0 ..|exact LeO.refl _|exact LeO.none _|refine LeO.ite ?_ ?_|refine LeO.bind ?_ fun _=>?_
set_option maxHeartbeats 8000000 in
set_option maxRecDepth 100000 in
theorem laws_markInt64S.calls (k:Nat) (P0_:Nat→Prop) (u9000_:Value) (l0:List Int) (a1 r1:Int) (r2:List Int) (w0 w:World) (hB:Below w0.heap.size w0 w) (ho0:Kd.R (Kd.int .i64) 2 w w0.heap.size P0_ u9000_ l0) (h:laws_markInt64S.f k l0 a1=some (r1,r2)) :
  Calls Try.prog 23 #[u9000_,.int .i64 a1] w fun e w'=>e=.returned (.int .i64 r1)∧Kd.R (Kd.int .i64) 2 w' w0.heap.size (fun k_=>(P0_ k_∨w.heap.size≤k_)) u9000_ r2∧Below w0.heap.size w0 w'∧Kept w w' (fun k_=>P0_ k_):=by
 have HO0:=Aside0.mk (show Kd.R (Kd.int .i64) 2 w w0.heap.size (fun k_=>(P0_ k_∨w.heap.size≤k_)) u9000_ l0 from Kd.R_mono ho0 (fun k_ hk=>(.inl hk)))
 have HK:=Aside0.mk (Kept.refl w (fun k_=>P0_ k_))
 have HW0:=Aside0.mk hB.size
 have HB:=Aside0.mk hB
 clear hB
 have H:=h
 unfold laws_markInt64S.f at H
 clear h
 have H':=Aside0.mk H
 clear H
 go_enter Try.func23,Try.ntmps23
 go_wp2
 go_loopg [1,5] k (fun kq v1 v5 w'=>∃ (x0_1:List Int) (x1_1:Int) (x5_1:Int),v1=.int .i64 x1_1∧v5=.int .i64 x5_1∧Aside0 (laws_markInt64S.l0 kq x0_1 x1_1 x5_1=some (r1,r2))∧Aside0 (kq≤k)∧Aside0 (Kd.R (Kd.int .i64) 2 w' w0.heap.size (fun k_=>(P0_ k_∨w.heap.size≤k_)) u9000_ x0_1)∧Aside0 (Kept w w' (fun k_=>P0_ k_))∧Aside0 (Below w0.heap.size w0 w'))
 case atStart=>exact ⟨(l0),(a1),(0),hB,hB,H',⟨Nat.le_refl _⟩,⟨rA HO0⟩,⟨by repeat (first|(with_reducible first|exact HK.out|apply Kept.alloc|apply Kept.drewN|apply Kept.drew)|exact HK.out)⟩,⟨blA⟩⟩
 case round=>
  clear H'
  obtain ⟨x0_1,x1_1,x5_1,rfl,rfl,HA,HK1,HO_0,HK,HB⟩:=hrel
  cases gk with
  | zero=>exact absurd HA.out (by simp [laws_markInt64S.l0])
  | succ k1=>
   have H:=HA.out
   clear HA
   simp only [laws_markInt64S.l0] at H
   by_cases c3:x5_1<(x0_1.length:Int)
   ·
    rw [if_pos c3] at H
    have c3b0:=decide_eq_true c3
    clear c3
    by_cases c4:0≤x5_1
    rotate_left
    ·
     rw [if_neg c4] at H
     exact absurd H (by simp)
    rw [if_pos c4] at H
    have c4b0:=decide_eq_true c4
    clear c4
    obtain ⟨y520,hy520⟩:∃ y_:List Int,y_=(x0_1.set (x5_1:Int).toNat x1_1):=⟨_,rfl⟩
    replace H:(laws_markInt64S.l0 k1 y520 (wrap64 (x1_1+1)) (wrap64 (x5_1+1)))=some (r1,r2):=rH hy520 H
    have Ny520:=Aside0.mk hy520
    clear hy520
    have H':=Aside0.mk H
    clear H
    obtain ⟨Ao6,co6,eo6⟩:=Kd.R_slice HO_0.out
    subst eo6
    have p5:0≤(x5_1:Int):=dA
    have q5:(x5_1:Int)<((x0_1.length:Int):Int):=dA
    obtain ⟨go5,co5,eo5,gb5,gl5,cl5,HG5⟩:=Kd.R_form HO_0.out (by omega)
    (first|cases eo5|(injection eo5 with ea_ en_ ec_;(first|subst ea_|(injection ea_ with ea_;subst ea_));subst ec_;clear en_))
    have GB5:=Aside0.mk gb5
    have GG5:=Aside0.mk HG5
    clear gb5 gl5 HG5
    have HMgo5:=Aside0.mk (show (P0_ go5∨w.heap.size≤go5) from (HO_0.out.1 _ rfl))
    obtain ⟨hx5_0,hf5_0⟩:=Kd.R_celln 0 HO_0.out (x5_1:Int) p5 q5
    replace p5:=eq_true p5
    replace q5:=eq_true q5
    have HP7:=Kd.R_putg HO_0.out (x5_1:Int) x1_1
    go_wp2_with (first|((with_reducible refine gate_store (t:=2) (p:=15) rfl ?_);refine store_event (t:=2) (p:=15) (v:=?vo_w8) (w1:=(wr.setCell ⟨go5,(x5_1:Int).toNat,none⟩ (.int .i64 x1_1))) ?hg ?ho ?hn ?hr ?_;(case ho=>rfl);(case hg=>rfl);(case hn=>rfl);(case hr=>first|(go_simp;done)|(go_simp;rfl));intro w8 hw;have hg:wr.grownBy w8 (some go5):=(by rw [hw];exact HP7.2);have hp_:Kd.R (Kd.int .i64) 2 w8 w0.heap.size (fun k_=>(P0_ k_∨w.heap.size≤k_)) (.slice (some ⟨go5,0,none⟩) x0_1.length co6) y520:=(by rw [hw,Ny520.out];exact HP7.1);clear HP7;replace HB:=Aside0.mk ((by rw [hw];exact below_set (HB.out) GB5.out:Below w0.heap.size w0 w8));replace HK:=Aside0.mk (Kept.of_grown (S:=(fun k_=>P0_ k_)) hg (by repeat (first|(with_reducible first|exact HK.out|apply Kept.alloc|apply Kept.drewN|apply Kept.drew)|exact HK.out)) (fun k_ e_=>(HO_0.out.1 k_ e_)));replace HO_0:=Aside0.mk (hp_);clear hg hw hp_))
    go_roundg k1
    case measure=>have:=HK1.out;omega
    case rel=>exact ⟨(y520),(wrap64 (x1_1+1)),(wrap64 (x5_1+1)),hB,hB,H',⟨by have:=HK1.out;omega⟩,⟨rA HO_0⟩,⟨by repeat (first|(with_reducible first|exact HK.out|apply Kept.alloc|apply Kept.drewN|apply Kept.drew)|exact HK.out)⟩,⟨blA⟩⟩
   ·
    rw [if_neg c3] at H
    have c3b0:=decide_eq_false c3
    clear c3
    simp only [Option.some.injEq,Prod.mk.injEq] at H
    obtain ⟨rfl,rfl⟩:=H
    obtain ⟨Ao9,co9,eo9⟩:=Kd.R_slice HO_0.out
    subst eo9
    go_wp2
    go_ret
    exact ⟨eW,rA HO_0,blA,by repeat (first|(with_reducible first|exact HK.out|apply Kept.alloc|apply Kept.drewN|apply Kept.drew)|exact HK.out)⟩
def laws_heldInt64S.l0:Nat→List Int→Int→Int→Option (Int)
 | 0,_,_,_=>none
 | k+1,x0,x1,x5=>if x5<(x0.length:Int) then (if 0≤x5 then (if (rd x0 x5)=x1 then (laws_heldInt64S.l0 k x0 (wrap64 (x1+1)) (wrap64 (x5+1))) else (some (-1))) else (none)) else (some x1)
def laws_heldInt64S.f (k:Nat) (l0:List Int) (a1:Int):Option (Int):=laws_heldInt64S.l0 k l0 a1 0
theorem laws_heldInt64S.mono_l:∀ k,(∀ y0 y1 y2,LeO (laws_heldInt64S.l0 k y0 y1 y2) (laws_heldInt64S.l0 (k+1) y0 y1 y2))
 | 0=>fun _ _ _ r h=>by simp [laws_heldInt64S.l0] at h
 | k+1=>by
  have ih0:=laws_heldInt64S.mono_l k
  ·
   intro y0 y1 y2
   unfold laws_heldInt64S.l0
   repeat' first
   | with_reducible first|exact ih0 ..|exact LeO.refl _|exact LeO.none _|refine LeO.ite ?_ ?_|refine LeO.bind ?_ fun _=>?_
theorem laws_heldInt64S.mono:∀ a0 a1 k,LeO (laws_heldInt64S.f k a0 a1) (laws_heldInt64S.f (k+1) a0 a1):=by
 intro a0 a1 k
 have ih0:=laws_heldInt64S.mono_l k
 unfold laws_heldInt64S.f
 repeat' first
   | with_reducible first|exact ih0 ..|exact LeO.refl _|exact LeO.none _|refine LeO.ite ?_ ?_|refine LeO.bind ?_ fun _=>?_
set_option maxHeartbeats 8000000 in
set_option maxRecDepth 100000 in
theorem laws_heldInt64S.calls (k:Nat) (A0:Option Addr) (c0:Nat) (l0:List Int) (a1 r:Int) (w:World) (hr0:Kd.C (Kd.int .i64) w A0 l0.length l0) (hc0:l0.length≤c0) (h:laws_heldInt64S.f k l0 a1=some r) :
  Calls Try.prog 24 #[.slice A0 l0.length c0,.int .i64 a1] w fun e w'=>e=.returned (.int .i64 r)∧Drawn0 w w':=by
 have HR0:=Aside0.mk hr0
 have HC0:=Aside0.mk hc0
 clear hr0 hc0
 have H:=h
 unfold laws_heldInt64S.f at H
 clear h
 have H':=Aside0.mk H
 clear H
 go_enter Try.func24,Try.ntmps24
 go_wp2
 go_loopg [1,5] k (fun kq v1 v5 w'=>∃ (x1_1:Int) (x5_1:Int),v1=.int .i64 x1_1∧v5=.int .i64 x5_1∧Aside0 (laws_heldInt64S.l0 kq l0 x1_1 x5_1=some r)∧Aside0 (kq≤k)∧Drawn0 w w')
 case atStart=>exact ⟨(a1),(0),hB,hB,H',⟨Nat.le_refl _⟩,by repeat (first|exact Drawn0.refl _|apply Drawn0.step)⟩
 case round=>
  clear H'
  obtain ⟨x1_1,x5_1,rfl,rfl,HA,HK1,⟨m1,rfl⟩⟩:=hrel
  cases gk with
  | zero=>exact absurd HA.out (by simp [laws_heldInt64S.l0])
  | succ k1=>
   have H:=HA.out
   clear HA
   simp only [laws_heldInt64S.l0] at H
   by_cases c3:x5_1<(l0.length:Int)
   ·
    rw [if_pos c3] at H
    have c3b0:=decide_eq_true c3
    clear c3
    by_cases c4:0≤x5_1
    rotate_left
    ·
     rw [if_neg c4] at H
     exact absurd H (by simp)
    rw [if_pos c4] at H
    have c4b0:=decide_eq_true c4
    clear c4
    by_cases c5:(rd l0 x5_1)=x1_1
    ·
     rw [if_pos c5] at H
     have c5b0:((rd l0 x5_1) == x1_1)=true:=beq_iff_eq.mpr c5
     have c5b1:((rd l0 x5_1) != x1_1)=false:=bne_eq_false_iff_eq.mpr c5
     clear c5
     have H':=Aside0.mk H
     clear H
     have p521:0≤(x5_1:Int):=dA
     have q521:x5_1<(l0.length:Int):=dA
     obtain ⟨ad521,e521,hx521_0⟩:=Kd.at_int HR0.out x5_1 p521 q521
     cases e521
     replace p521:=eq_true p521
     replace q521:=eq_true q521
     go_wp2
     go_roundg k1
     case measure=>have:=HK1.out;omega
     case rel=>exact ⟨(wrap64 (x1_1+1)),(wrap64 (x5_1+1)),hB,hB,H',⟨by have:=HK1.out;omega⟩,by repeat (first|exact Drawn0.refl _|apply Drawn0.step)⟩
    ·
     rw [if_neg c5] at H
     have c5b0:((rd l0 x5_1) == x1_1)=false:=beq_eq_false_iff_ne.mpr c5
     have c5b1:((rd l0 x5_1) != x1_1)=true:=bne_iff_ne.mpr c5
     obtain rfl:=Option.some.inj H
     have p521:0≤(x5_1:Int):=dA
     have q521:x5_1<(l0.length:Int):=dA
     obtain ⟨ad521,e521,hx521_0⟩:=Kd.at_int HR0.out x5_1 p521 q521
     cases e521
     replace p521:=eq_true p521
     replace q521:=eq_true q521
     go_wp2
     go_ret
     exact ⟨by first|rfl|(simp;done)|(simp [*];done),by repeat (first|exact Drawn0.refl _|apply Drawn0.step)⟩
   ·
    rw [if_neg c3] at H
    have c3b0:=decide_eq_false c3
    clear c3
    obtain rfl:=Option.some.inj H
    go_wp2
    go_ret
    exact ⟨by first|rfl|(simp;done)|(simp [*];done),by repeat (first|exact Drawn0.refl _|apply Drawn0.step)⟩
def spec_l06Movers.l0:Nat→List (S42)→Int→Int→Option (Int)
 | 0,_,_,_=>none
 | k+1,x0,x1,x5=>if x5<(x0.length:Int) then (if 0≤x5 then ((spec_l04Is.f ((rd_T42 x0 x5).f0.f0) ((rd_T42 x0 x5).f0.f1) ((rd_T42 x0 x5).f1.f0) ((rd_T42 x0 x5).f1.f1)).bind fun t103=>(if t103=true then (spec_l06Movers.l0 k x0 x1 (wrap64 (x5+1))) else (some 1))) else (none)) else (if (x0.length:Int)<1 then (some 2) else (if (x0.length:Int)>x1 then (some 2) else (some 0)))
def spec_l06Movers.f (k:Nat) (l0:List (S42)) (a1:Int):Option (Int):=spec_l06Movers.l0 k l0 a1 0
theorem spec_l06Movers.mono_l:∀ k,(∀ y0 y1 y2,LeO (spec_l06Movers.l0 k y0 y1 y2) (spec_l06Movers.l0 (k+1) y0 y1 y2))
 | 0=>fun _ _ _ r h=>by simp [spec_l06Movers.l0] at h
 | k+1=>by
  have ih0:=spec_l06Movers.mono_l k
  ·
   intro y0 y1 y2
   unfold spec_l06Movers.l0
   repeat' first
   | with_reducible first|exact ih0 ..|exact LeO.refl _|exact LeO.none _|refine LeO.ite ?_ ?_|refine LeO.bind ?_ fun _=>?_
theorem spec_l06Movers.mono:∀ a0 a1 k,LeO (spec_l06Movers.f k a0 a1) (spec_l06Movers.f (k+1) a0 a1):=by
 intro a0 a1 k
 have ih0:=spec_l06Movers.mono_l k
 unfold spec_l06Movers.f
 repeat' first
   | with_reducible first|exact ih0 ..|exact LeO.refl _|exact LeO.none _|refine LeO.ite ?_ ?_|refine LeO.bind ?_ fun _=>?_
set_option maxHeartbeats 8000000 in
set_option maxRecDepth 100000 in
theorem spec_l06Movers.calls (k:Nat) (A0:Option Addr) (c0:Nat) (l0:List (S42)) (a1 r:Int) (w:World) (hr0:Kd.C k42 w A0 l0.length l0) (hc0:l0.length≤c0) (h:spec_l06Movers.f k l0 a1=some r) :
  Calls Try.prog 26 #[.slice A0 l0.length c0,.int .i64 a1] w fun e w'=>e=.returned (.int .i64 r)∧Below w.heap.size w w':=by
 have hu42:=Try.underlying42
 have HR0:=Aside0.mk hr0
 have HC0:=Aside0.mk hc0
 clear hr0 hc0
 have HB:=Aside0.mk (Below.refl w.heap.size w)
 have H:=h
 unfold spec_l06Movers.f at H
 clear h
 have H':=Aside0.mk H
 clear H
 go_enter Try.func26,Try.ntmps26
 go_wp2
 go_loopg [5] k (fun kq v5 w'=>∃ (x5_1:Int),v5=.int .i64 x5_1∧Aside0 (spec_l06Movers.l0 kq l0 a1 x5_1=some r)∧Aside0 (kq≤k)∧Aside0 (Below w.heap.size w w'))
 case atStart=>exact ⟨(0),hB,H',⟨Nat.le_refl _⟩,⟨blA⟩⟩
 case round=>
  clear H'
  obtain ⟨x5_1,rfl,HA,HK1,HB⟩:=hrel
  cases gk with
  | zero=>exact absurd HA.out (by simp [spec_l06Movers.l0])
  | succ k1=>
   have H:=HA.out
   clear HA
   simp only [spec_l06Movers.l0] at H
   by_cases c3:x5_1<(l0.length:Int)
   ·
    rw [if_pos c3] at H
    have c3b0:=decide_eq_true c3
    clear c3
    by_cases c4:0≤x5_1
    rotate_left
    ·
     rw [if_neg c4] at H
     exact absurd H (by simp)
    rw [if_pos c4] at H
    have c4b0:=decide_eq_true c4
    clear c4
    replace H:=bS H
    obtain ⟨t103,A5,H⟩:=H
    try dsimp only at H
    by_cases c6:t103=true
    focus
     subst c6
     rw [if_pos rfl] at H
     try dsimp only at H
     have H':=Aside0.mk H
     clear H
     have p102:0≤(x5_1:Int):=dA
     have q102:x5_1<(l0.length:Int):=dA
     obtain ⟨ad102,e102,hx102_0,hx102_1,hx102_2,hx102_3⟩:=at_T42 HR0.out x5_1 p102 q102
     cases e102
     replace hx102_0:=(HB.out.cell (World.block_lt_of_cell? w _ hx102_0)).trans hx102_0
     replace hx102_1:=(HB.out.cell (World.block_lt_of_cell? w _ hx102_1)).trans hx102_1
     replace hx102_2:=(HB.out.cell (World.block_lt_of_cell? w _ hx102_2)).trans hx102_2
     replace hx102_3:=(HB.out.cell (World.block_lt_of_cell? w _ hx102_3)).trans hx102_3
     replace p102:=eq_true p102
     replace q102:=eq_true q102
    rotate_left
    focus
     replace c6:=Bool.eq_false_iff.mpr c6
     subst c6
     rw [if_neg (show ¬ (false=true) by decide)] at H
     try dsimp only at H
     obtain rfl:=Option.some.inj H
     have p102:0≤(x5_1:Int):=dA
     have q102:x5_1<(l0.length:Int):=dA
     obtain ⟨ad102,e102,hx102_0,hx102_1,hx102_2,hx102_3⟩:=at_T42 HR0.out x5_1 p102 q102
     cases e102
     replace hx102_0:=(HB.out.cell (World.block_lt_of_cell? w _ hx102_0)).trans hx102_0
     replace hx102_1:=(HB.out.cell (World.block_lt_of_cell? w _ hx102_1)).trans hx102_1
     replace hx102_2:=(HB.out.cell (World.block_lt_of_cell? w _ hx102_2)).trans hx102_2
     replace hx102_3:=(HB.out.cell (World.block_lt_of_cell? w _ hx102_3)).trans hx102_3
     replace p102:=eq_true p102
     replace q102:=eq_true q102
    rotate_left
    all_goals
     go_wp2_with (first|((with_reducible refine gd 16 rfl ?_);refine gC (some 16) rfl Try.func40 (spec_l04Is.calls (w:=_) (h:=A5.out)) ?_;intro w7 hb;replace HB:=lB hb;clear hb))
    ·
     go_roundg k1
     case measure=>have:=HK1.out;omega
     case rel=>exact ⟨(wrap64 (x5_1+1)),hB,H',⟨by have:=HK1.out;omega⟩,⟨blA⟩⟩
    ·
     go_ret
     exact finA blA
   ·
    rw [if_neg c3] at H
    have c3b0:=decide_eq_false c3
    clear c3
    by_cases c9:(l0.length:Int)<1
    ·
     rw [if_pos c9] at H
     have c9b0:=decide_eq_true c9
     have c9b1:decide (l0.length<1)=true:=decide_eq_true (by omega)
     clear c9
     obtain rfl:=Option.some.inj H
     go_wp2
     go_ret
     exact finA blA
    ·
     rw [if_neg c9] at H
     have c9b0:=decide_eq_false c9
     have c9b1:decide (l0.length<1)=false:=decide_eq_false (by omega)
     clear c9
     by_cases c10:(l0.length:Int)>a1
     ·
      rw [if_pos c10] at H
      have c10b0:decide (a1<(l0.length:Int))=true:=decide_eq_true c10
      clear c10
      obtain rfl:=Option.some.inj H
      go_wp2
      go_ret
      exact finA blA
     ·
      rw [if_neg c10] at H
      have c10b0:decide (a1<(l0.length:Int))=false:=decide_eq_false c10
      clear c10
      obtain rfl:=Option.some.inj H
      go_wp2
      go_ret
      exact finA blA
def spec_l01Of.f (k:Nat) (a0 a1 a2 a3:Int):Option (Int × Int × Int × Bool):=(spec_l01In.f a3 (-6) 6).bind fun t122=>(if t122=true then (if a1=0 then (some (a3,0,0,true)) else ((spec_l01Val.f k a0 a1).bind fun t124=>((spec_l01Val.f k a0 a2).bind fun t125=>(if a3≤(wrap64 (t124 - t125)) then (some (a3,0,0,true)) else (if (mx (wrap64 (t125 - t124)) 0)>6 then (some (0,0,0,false)) else ((spec_l01Power.f k a0 (wrap64 (a3+(mx (wrap64 (t125 - t124)) 0)))).bind fun t126=>((spec_l01Power.f k a0 t124).bind fun t127=>(if t127=0 then (none) else ((spec_l01Power.f k a0 t125).bind fun t128=>(if t128=0 then (none) else ((spec_l01InvMod.f k (wrap64 (Int.tdiv a2 t128)) t126).bind fun t129=>((spec_l01MulMod.f (wrap64 (Int.tdiv a1 t127)) t129 t126).bind fun t130=>((spec_l01Power.f k a0 (mx (wrap64 (t124 - t125)) 0)).bind fun t131=>((spec_l01MulMod.f t130 t131 t126).bind fun t132=>(some (a3,t132,mx (wrap64 (t125 - t124)) 0,true)))))))))))))))) else (some (0,0,0,false)))
theorem spec_l01Of.mono:∀ a0 a1 a2 a3 k,LeO (spec_l01Of.f k a0 a1 a2 a3) (spec_l01Of.f (k+1) a0 a1 a2 a3):=by
 intro a0 a1 a2 a3 k
 unfold spec_l01Of.f
 repeat' first
   | with_reducible first|exact spec_l01InvMod.mono ..|exact spec_l01Power.mono ..|exact spec_l01Val.mono ..|exact LeO.refl _|exact LeO.none _|refine LeO.ite ?_ ?_|refine LeO.bind ?_ fun _=>?_
set_option maxHeartbeats 8000000 in
set_option maxRecDepth 100000 in
theorem spec_l01Of.calls (k:Nat) (a0 a1 a2 a3 r1 r2 r3:Int) (r4:Bool) (w:World) (h:spec_l01Of.f k a0 a1 a2 a3=some (r1,r2,r3,r4)) :
  Calls Try.prog 44 #[.int .i64 a0,.int .i64 a1,.int .i64 a2,.int .i64 a3] w fun e w'=>e=.returned (.tuple #[.agg #[.int .i64 r1,.int .i64 r2,.int .i64 r3],.bool r4])∧Below w.heap.size w w':=by
 have hu53:=Try.underlying53
 have HB:=Aside0.mk (Below.refl w.heap.size w)
 have H:=h
 unfold spec_l01Of.f at H
 clear h
 replace H:=bS H
 obtain ⟨t122,A5,H⟩:=H
 try dsimp only at H
 by_cases c6:t122=true
 ·
  subst c6
  rw [if_pos rfl] at H
  try dsimp only at H
  by_cases c7:a1=0
  ·
   rw [if_pos c7] at H
   have c7b0:(a1 == 0)=true:=beq_iff_eq.mpr c7
   have c7b1:(a1 != 0)=false:=bne_eq_false_iff_eq.mpr c7
   clear c7
   simp only [Option.some.injEq,Prod.mk.injEq] at H
   obtain ⟨rfl,rfl,rfl,rfl⟩:=H
   go_enter Try.func44,Try.ntmps44
   go_wp2_with (first|((with_reducible refine gate_dst (N:=8) rfl ?_);refine bxE (cs:=#[.int .i64 0,.int .i64 0,.int .i64 0]) (t:=53) ?_;intro gb121 hg w8 hbox hb;have BK121:=Aside0.mk hbox;have GW121:=sA hg;have GE121:=sA hg;replace HB:=lB hb;clear hb hbox hg)|((with_reducible refine gd 15 rfl ?_);refine gC (some 15) rfl Try.func27 (spec_l01In.calls (w:=_) (h:=A5.out)) ?_;rintro _ ⟨nd,rfl⟩;(try (rw [drewN_self w8];generalize hq_:World.drewN w8 _=w8;replace BK121:=Aside0.mk (by rw [← hq_];exact (bkA BK121));replace HB:=Aside0.mk (by rw [← hq_];exact blA);clear hq_)))|((with_reducible refine gate_dst (N:=10) rfl ?_);refine bxE (cs:=#[.int .i64 0,.int .i64 0,.int .i64 0]) (t:=53) ?_;intro gb123 hg w9 hbox hb;have BK123:=Aside0.mk hbox;have GW123:=sA hg;have GE123:=sA hg;have NB121_123:=nA hg BK121;have NB123_121:=nB hg BK121;replace BK121:=kB BK121 hb;replace HB:=lB hb;clear hb hbox hg;have hnb10:=NB123_121.out;have hnc10:=NB121_123.out;obtain ⟨hcz11_0,hcz11_1,hcz11_2,hfz11_0,hfz11_1,hfz11_2⟩:=cz3 BK123;obtain ⟨hcz12_0,hcz12_1,hcz12_2,hfz12_0,hfz12_1,hfz12_2⟩:=cz3 BK121))
   refine bodyPost_ret (results_ct rfl _ _ gb121 53 #[.int .i64 a3,.int .i64 0,.int .i64 0] (0,0) _ rfl (bpA BK121) Try.underlying53 rfl (by kernel_rfl)) rfl ?_
   exact finA blA
  ·
   rw [if_neg c7] at H
   have c7b0:(a1 == 0)=false:=beq_eq_false_iff_ne.mpr c7
   have c7b1:(a1 != 0)=true:=bne_iff_ne.mpr c7
   replace H:=bS H
   obtain ⟨t124,A13,H⟩:=H
   try dsimp only at H
   replace H:=bS H
   obtain ⟨t125,A14,H⟩:=H
   try dsimp only at H
   by_cases c15:a3≤(wrap64 (t124 - t125))
   ·
    rw [if_pos c15] at H
    have c15b0:=decide_eq_true c15
    clear c15
    simp only [Option.some.injEq,Prod.mk.injEq] at H
    obtain ⟨rfl,rfl,rfl,rfl⟩:=H
    go_enter Try.func44,Try.ntmps44
    go_wp2_with (first|((with_reducible refine gate_dst (N:=8) rfl ?_);refine bxE (cs:=#[.int .i64 0,.int .i64 0,.int .i64 0]) (t:=53) ?_;intro gb121 hg w16 hbox hb;have BK121:=Aside0.mk hbox;have GW121:=sA hg;have GE121:=sA hg;replace HB:=lB hb;clear hb hbox hg)|((with_reducible refine gd 15 rfl ?_);refine gC (some 15) rfl Try.func27 (spec_l01In.calls (w:=_) (h:=A5.out)) ?_;rintro _ ⟨nd,rfl⟩;(try (rw [drewN_self w16];generalize hq_:World.drewN w16 _=w16;replace BK121:=Aside0.mk (by rw [← hq_];exact (bkA BK121));replace HB:=Aside0.mk (by rw [← hq_];exact blA);clear hq_)))|((with_reducible refine gate_dst (N:=10) rfl ?_);refine bxE (cs:=#[.int .i64 0,.int .i64 0,.int .i64 0]) (t:=53) ?_;intro gb123 hg w17 hbox hb;have BK123:=Aside0.mk hbox;have GW123:=sA hg;have GE123:=sA hg;have NB121_123:=nA hg BK121;have NB123_121:=nB hg BK121;replace BK121:=kB BK121 hb;replace HB:=lB hb;clear hb hbox hg;have hnb18:=NB123_121.out;have hnc18:=NB121_123.out;obtain ⟨hcz19_0,hcz19_1,hcz19_2,hfz19_0,hfz19_1,hfz19_2⟩:=cz3 BK123)|((with_reducible refine gd 25 rfl ?_);refine gC (some 25) rfl Try.func42 (spec_l01Val.calls (w:=_) (h:=A13.out)) ?_;rintro _ ⟨nd,rfl⟩)|((with_reducible refine gd 28 rfl ?_);refine gC (some 28) rfl Try.func42 (spec_l01Val.calls (w:=_) (h:=A14.out)) ?_;rintro _ ⟨nd,rfl⟩;obtain ⟨hcz20_0,hcz20_1,hcz20_2,hfz20_0,hfz20_1,hfz20_2⟩:=cz3 BK121))
    refine bodyPost_ret (results_ct rfl _ _ gb121 53 #[.int .i64 a3,.int .i64 0,.int .i64 0] (0,0) _ rfl (bpA BK121) Try.underlying53 rfl (by kernel_rfl)) rfl ?_
    exact finA blA
   ·
    rw [if_neg c15] at H
    have c15b0:=decide_eq_false c15
    clear c15
    obtain ⟨ji21,hji21⟩:∃ j_:Int,(mx (wrap64 (t125 - t124)) 0)=j_:=⟨_,rfl⟩
    replace H:(if (ji21)>6 then (some (0,0,0,false)) else ((spec_l01Power.f k a0 (wrap64 (a3+(ji21)))).bind fun t126=>((spec_l01Power.f k a0 t124).bind fun t127=>(if t127=0 then (none) else ((spec_l01Power.f k a0 t125).bind fun t128=>(if t128=0 then (none) else ((spec_l01InvMod.f k (wrap64 (Int.tdiv a2 t128)) t126).bind fun t129=>((spec_l01MulMod.f (wrap64 (Int.tdiv a1 t127)) t129 t126).bind fun t130=>((spec_l01Power.f k a0 (mx (wrap64 (t124 - t125)) 0)).bind fun t131=>((spec_l01MulMod.f t130 t131 t126).bind fun t132=>(some (a3,t132,ji21,true))))))))))))=some (r1,r2,r3,r4):=by first|(rw [hji21] at H;exact H)|(simp only [hji21] at H ⊢;exact H)
    (try rw [hji21] at A5)
    (try rw [hji21] at A13)
    (try rw [hji21] at A14)
    (try (have hji21l:0≤ji21:=by (rw [← hji21];unfold mx;(repeat' split) <;> omega)))
    (try (have hji21m:0≤ji21:=by omega))
    have hji21_:(if (wrap64 (t125 - t124))<0 then 0 else (wrap64 (t125 - t124)))=ji21:=hji21
    by_cases c22:(ji21)>6
    focus
     rw [if_pos c22] at H
     have c22b0:decide (6<(ji21))=true:=decide_eq_true c22
     clear c22
     simp only [Option.some.injEq,Prod.mk.injEq] at H
     obtain ⟨rfl,rfl,rfl,rfl⟩:=H
    rotate_left
    focus
     rw [if_neg c22] at H
     have c22b0:decide (6<(ji21))=false:=decide_eq_false c22
     clear c22
     replace H:=bS H
     obtain ⟨t126,A28,H⟩:=H
     try dsimp only at H
     replace H:=bS H
     obtain ⟨t127,A29,H⟩:=H
     try dsimp only at H
     by_cases c30:t127=0
     ·
      rw [if_pos c30] at H
      exact absurd H (by simp)
     rw [if_neg c30] at H
     have c30b0:(t127 == 0)=false:=beq_eq_false_iff_ne.mpr c30
     have c30b1:(t127 != 0)=true:=bne_iff_ne.mpr c30
     replace H:=bS H
     obtain ⟨t128,A31,H⟩:=H
     try dsimp only at H
     by_cases c32:t128=0
     ·
      rw [if_pos c32] at H
      exact absurd H (by simp)
     rw [if_neg c32] at H
     have c32b0:(t128 == 0)=false:=beq_eq_false_iff_ne.mpr c32
     have c32b1:(t128 != 0)=true:=bne_iff_ne.mpr c32
     replace H:=bS H
     obtain ⟨t129,A33,H⟩:=H
     try dsimp only at H
     replace H:=bS H
     obtain ⟨t130,A34,H⟩:=H
     try dsimp only at H
     obtain ⟨ji35,hji35⟩:∃ j_:Int,(mx (wrap64 (t124 - t125)) 0)=j_:=⟨_,rfl⟩
     replace H:((spec_l01Power.f k a0 (ji35)).bind fun t131=>((spec_l01MulMod.f t130 t131 t126).bind fun t132=>(some (a3,t132,ji21,true))))=some (r1,r2,r3,r4):=by first|(rw [hji35] at H;exact H)|(simp only [hji35] at H ⊢;exact H)
     (try rw [hji35] at A5)
     (try rw [hji35] at A13)
     (try rw [hji35] at A14)
     (try rw [hji35] at A28)
     (try rw [hji35] at A29)
     (try rw [hji35] at A31)
     (try rw [hji35] at A33)
     (try rw [hji35] at A34)
     (try (have hji35l:0≤ji35:=by (rw [← hji35];unfold mx;(repeat' split) <;> omega)))
     (try (have hji35m:0≤ji35:=by omega))
     have hji35_:(if (wrap64 (t124 - t125))<0 then 0 else (wrap64 (t124 - t125)))=ji35:=hji35
     replace H:=bS H
     obtain ⟨t131,A36,H⟩:=H
     try dsimp only at H
     replace H:=bS H
     obtain ⟨t132,A37,H⟩:=H
     try dsimp only at H
     simp only [Option.some.injEq,Prod.mk.injEq] at H
     obtain ⟨rfl,rfl,rfl,rfl⟩:=H
    rotate_left
    all_goals
     go_enter Try.func44,Try.ntmps44
     go_wp2_with (first|((with_reducible refine gate_dst (N:=8) rfl ?_);refine bxE (cs:=#[.int .i64 0,.int .i64 0,.int .i64 0]) (t:=53) ?_;intro gb121 hg w23 hbox hb;have BK121:=Aside0.mk hbox;have GW121:=sA hg;have GE121:=sA hg;replace HB:=lB hb;clear hb hbox hg)|((with_reducible refine gd 15 rfl ?_);refine gC (some 15) rfl Try.func27 (spec_l01In.calls (w:=_) (h:=A5.out)) ?_;rintro _ ⟨nd,rfl⟩;(try (rw [drewN_self w23];generalize hq_:World.drewN w23 _=w23;replace BK121:=Aside0.mk (by rw [← hq_];exact (bkA BK121));replace HB:=Aside0.mk (by rw [← hq_];exact blA);clear hq_)))|((with_reducible refine gate_dst (N:=10) rfl ?_);refine bxE (cs:=#[.int .i64 0,.int .i64 0,.int .i64 0]) (t:=53) ?_;intro gb123 hg w24 hbox hb;have BK123:=Aside0.mk hbox;have GW123:=sA hg;have GE123:=sA hg;have NB121_123:=nA hg BK121;have NB123_121:=nB hg BK121;replace BK121:=kB BK121 hb;replace HB:=lB hb;clear hb hbox hg;have hnb25:=NB123_121.out;have hnc25:=NB121_123.out;obtain ⟨hcz26_0,hcz26_1,hcz26_2,hfz26_0,hfz26_1,hfz26_2⟩:=cz3 BK123)|((with_reducible refine gd 25 rfl ?_);refine gC (some 25) rfl Try.func42 (spec_l01Val.calls (w:=_) (h:=A13.out)) ?_;rintro _ ⟨nd,rfl⟩)|((with_reducible refine gd 28 rfl ?_);refine gC (some 28) rfl Try.func42 (spec_l01Val.calls (w:=_) (h:=A14.out)) ?_;rintro _ ⟨nd,rfl⟩;obtain ⟨hcz27_0,hcz27_1,hcz27_2,hfz27_0,hfz27_1,hfz27_2⟩:=cz3 BK121)|((with_reducible refine gate_callee (f:=41) rfl ?_);refine goesL_ (some 49) rfl rfl Try.func41 (by kernel_rfl) rfl #[.int .i64 a0,.int .i64 (wrap64 (a3+(ji21)))] rfl (by (try simp only [List.map_toArray,List.map_cons,List.map_nil]);first|done|(simp only [hji21];rfl)|rfl|(simp only [List.length_drop,List.length_take];rfl)) ?_;(with_reducible refine (spec_l01Power.calls k a0 (wrap64 (a3+(ji21))) t126 _ A28.out).mono ?_);rintro e w' ⟨rfl,⟨nd,rfl⟩⟩;refine ⟨_,rfl,?_⟩)|((with_reducible refine gd 53 rfl ?_);refine gC (some 53) rfl Try.func41 (spec_l01Power.calls (w:=_) (h:=A29.out)) ?_;rintro _ ⟨nd,rfl⟩)|((with_reducible refine gd 58 rfl ?_);refine gC (some 58) rfl Try.func41 (spec_l01Power.calls (w:=_) (h:=A31.out)) ?_;rintro _ ⟨nd,rfl⟩)|((with_reducible refine gd 63 rfl ?_);refine gC (some 63) rfl Try.func58 (spec_l01InvMod.calls (w:=_) (h:=A33.out)) ?_;rintro _ ⟨nd,rfl⟩)|((with_reducible refine gd 65 rfl ?_);refine gC (some 65) rfl Try.func57 (spec_l01MulMod.calls (w:=_) (h:=A34.out)) ?_;rintro _ ⟨nd,rfl⟩)|((with_reducible refine gate_callee (f:=41) rfl ?_);refine goesL_ (some 71) rfl rfl Try.func41 (by kernel_rfl) rfl #[.int .i64 a0,.int .i64 ji35] rfl (by (try simp only [List.map_toArray,List.map_cons,List.map_nil]);first|done|(simp only [hji35];rfl)|rfl|(simp only [List.length_drop,List.length_take];rfl)) ?_;(with_reducible refine (spec_l01Power.calls k a0 ji35 t131 _ A36.out).mono ?_);rintro e w' ⟨rfl,⟨nd,rfl⟩⟩;refine ⟨_,rfl,?_⟩)|((with_reducible refine gd 73 rfl ?_);refine gC (some 73) rfl Try.func57 (spec_l01MulMod.calls (w:=_) (h:=A37.out)) ?_;rintro _ ⟨nd,rfl⟩;obtain ⟨hcz42_0,hcz42_1,hcz42_2,hfz42_0,hfz42_1,hfz42_2⟩:=cz3 BK121))
    ·
     refine bodyPost_ret (results_ct rfl _ _ gb121 53 #[.int .i64 0,.int .i64 0,.int .i64 0] (0,0) _ rfl (bpA BK121) Try.underlying53 rfl (by kernel_rfl)) rfl ?_
     exact ⟨by first|rfl|(simp [errW_none,errW_some] <;> rfl)|(simp only [← hji21];first|rfl|(simp [errW_none,errW_some] <;> rfl))|(simp [*,errW_none,errW_some] <;> rfl),blA⟩
    ·
     refine bodyPost_ret (results_ct rfl _ _ gb121 53 #[.int .i64 a3,.int .i64 t132,.int .i64 ji21] (0,0) _ rfl (bpA BK121) Try.underlying53 rfl (by kernel_rfl)) rfl ?_
     exact ⟨by first|rfl|(simp [errW_none,errW_some] <;> rfl)|(simp only [← hji21,← hji35];first|rfl|(simp [errW_none,errW_some] <;> rfl))|(simp [*,errW_none,errW_some] <;> rfl),blA⟩
 ·
  replace c6:=Bool.eq_false_iff.mpr c6
  subst c6
  rw [if_neg (show ¬ (false=true) by decide)] at H
  try dsimp only at H
  simp only [Option.some.injEq,Prod.mk.injEq] at H
  obtain ⟨rfl,rfl,rfl,rfl⟩:=H
  go_enter Try.func44,Try.ntmps44
  go_wp2_with (first|((with_reducible refine gate_dst (N:=8) rfl ?_);refine bxE (cs:=#[.int .i64 0,.int .i64 0,.int .i64 0]) (t:=53) ?_;intro gb121 hg w43 hbox hb;have BK121:=Aside0.mk hbox;have GW121:=sA hg;have GE121:=sA hg;replace HB:=lB hb;clear hb hbox hg)|((with_reducible refine gd 15 rfl ?_);refine gC (some 15) rfl Try.func27 (spec_l01In.calls (w:=_) (h:=A5.out)) ?_;rintro _ ⟨nd,rfl⟩;(try (rw [drewN_self w43];generalize hq_:World.drewN w43 _=w43;replace BK121:=Aside0.mk (by rw [← hq_];exact (bkA BK121));replace HB:=Aside0.mk (by rw [← hq_];exact blA);clear hq_));obtain ⟨hcz44_0,hcz44_1,hcz44_2,hfz44_0,hfz44_1,hfz44_2⟩:=cz3 BK121))
  refine bodyPost_ret (results_ct rfl _ _ gb121 53 #[.int .i64 0,.int .i64 0,.int .i64 0] (0,0) _ rfl (bpA BK121) Try.underlying53 rfl (by kernel_rfl)) rfl ?_
  exact finA blA
def spec_l01Is.j0:Nat→Int→Bool→Int→Int→Int→Option (Bool)
 | 0,_,_,_,_,_=>none
 | k+1,x0,x20,x175000,x175001,x175002=>if x20=true then (some false) else (if (wrap64 (x175000+x175002))≤0 then (if x175001=0 then (some (x175002 == 0)) else (some false)) else ((spec_l01Power.f k x0 (wrap64 (x175000+x175002))).bind fun t178=>((spec_l01In.f x175001 0 (wrap64 (t178 - 1))).bind fun t179=>(if t179=true then (if x175002=0 then (some true) else (if x0=0 then (none) else (some ((Int.tmod x175001 x0) != 0)))) else (some false)))))
def spec_l01Is.f (k:Nat) (a0 a1_0 a1_1 a1_2:Int):Option (Bool):=(spec_l01Prime.f a0).bind fun t175=>(if t175=true then ((spec_l01In.f a1_0 (-6) 6).bind fun t176=>(if t176=true then ((spec_l01In.f a1_2 0 6).bind fun t177=>(spec_l01Is.j0 k a0 (!t177) a1_0 a1_1 a1_2)) else (spec_l01Is.j0 k a0 true a1_0 a1_1 a1_2))) else (spec_l01Is.j0 k a0 true a1_0 a1_1 a1_2))
theorem spec_l01Is.mono_l:∀ k,(∀ y0 y1 y2 y3 y4,LeO (spec_l01Is.j0 k y0 y1 y2 y3 y4) (spec_l01Is.j0 (k+1) y0 y1 y2 y3 y4))
 | 0=>fun _ _ _ _ _ r h=>by simp [spec_l01Is.j0] at h
 | k+1=>by
  have ih0:=spec_l01Is.mono_l k
  ·
   intro y0 y1 y2 y3 y4
   unfold spec_l01Is.j0
   repeat' first
   | with_reducible first|exact ih0 ..|exact spec_l01Power.mono ..|exact LeO.refl _|exact LeO.none _|refine LeO.ite ?_ ?_|refine LeO.bind ?_ fun _=>?_
theorem spec_l01Is.mono:∀ a0 a1 a2 a3 k,LeO (spec_l01Is.f k a0 a1 a2 a3) (spec_l01Is.f (k+1) a0 a1 a2 a3):=by
 intro a0 a1 a2 a3 k
 have ih0:=spec_l01Is.mono_l k
 unfold spec_l01Is.f
 repeat' first
   | with_reducible first|exact ih0 ..|exact spec_l01Power.mono ..|exact LeO.refl _|exact LeO.none _|refine LeO.ite ?_ ?_|refine LeO.bind ?_ fun _=>?_
set_option maxHeartbeats 8000000 in
set_option maxRecDepth 100000 in
theorem spec_l01Is.calls (k:Nat) (a0 a1_0 a1_1 a1_2:Int) (r:Bool) (w:World) (h:spec_l01Is.f k a0 a1_0 a1_1 a1_2=some r) :
  Calls Try.prog 59 #[.int .i64 a0,.agg #[.int .i64 a1_0,.int .i64 a1_1,.int .i64 a1_2]] w fun e w'=>e=.returned (.bool r)∧Below w.heap.size w w':=by
 have hu53:=Try.underlying53
 have HB:=Aside0.mk (Below.refl w.heap.size w)
 have H:=h
 unfold spec_l01Is.f at H
 clear h
 have HC3:=Aside0.mk H
 clear H
 go_enter Try.func59,Try.ntmps59
 go_upto_region 1 with (first|((with_reducible refine gate_dst (N:=3) rfl ?_);refine bxE (cs:=#[.int .i64 a1_0,.int .i64 a1_1,.int .i64 a1_2]) (t:=53) ?_;intro gb174 hg w4 hbox hb;have BK174:=Aside0.mk hbox;have GW174:=sA hg;have GE174:=sA hg;replace HB:=lB hb;clear hb hbox hg))
 repeat (go_quiet (first|((with_reducible refine gate_dst (N:=3) rfl ?_);refine bxE (cs:=#[.int .i64 a1_0,.int .i64 a1_1,.int .i64 a1_2]) (t:=53) ?_;intro gb174 hg w4 hbox hb;have BK174:=Aside0.mk hbox;have GW174:=sA hg;have GE174:=sA hg;replace HB:=lB hb;clear hb hbox hg));go_upto_region 1 with (first|((with_reducible refine gate_dst (N:=3) rfl ?_);refine bxE (cs:=#[.int .i64 a1_0,.int .i64 a1_1,.int .i64 a1_2]) (t:=53) ?_;intro gb174 hg w4 hbox hb;have BK174:=Aside0.mk hbox;have GW174:=sA hg;have GE174:=sA hg;replace HB:=lB hb;clear hb hbox hg)))
 (try simp only [Act.put,List.setIfInBounds_toArray,List.set_cons_zero,List.set_cons_succ])
 go_cut [20] (fun v20 wc=>∃ (kq:Nat) (x20_2:Bool),v20=.bool x20_2∧Aside0 (spec_l01Is.j0 kq a0 x20_2 a1_0 a1_1 a1_2=some r)∧Aside0 (kq≤k)∧Aside0 (wc.heap[gb174]?=some (.cells #[.int .i64 a1_0,.int .i64 a1_1,.int .i64 a1_2] 53 (0,0)))∧Aside0 (Below w.heap.size w wc))
 case first=>
  have H:=HC3.out
  clear HC3
  replace H:=bS H
  obtain ⟨t175,A5,H⟩:=H
  try dsimp only at H
  by_cases c6:t175=true
  ·
   subst c6
   rw [if_pos rfl] at H
   try dsimp only at H
   replace H:=bS H
   obtain ⟨t176,A7,H⟩:=H
   try dsimp only at H
   by_cases c8:t176=true
   ·
    subst c8
    rw [if_pos rfl] at H
    try dsimp only at H
    replace H:=bS H
    obtain ⟨t177,A9,H⟩:=H
    try dsimp only at H
    have H':=Aside0.mk H
    clear H
    go_wp2_with (first|(go_at_call 25;(with_reducible refine (spec_l01Prime.calls a0 true _ A5.out).mono ?_);rintro e w' ⟨rfl,⟨nd,rfl⟩⟩;(try exact dd);obtain ⟨hcz10_0,hcz10_1,hcz10_2,hfz10_0,hfz10_1,hfz10_2⟩:=cz3 BK174)|(go_at_call 27;(with_reducible refine (spec_l01In.calls a1_0 (-6) 6 true _ A7.out).mono ?_);rintro e w' ⟨rfl,⟨nd,rfl⟩⟩;(try exact dd))|(go_at_call 27;(with_reducible refine (spec_l01In.calls a1_2 0 6 t177 _ A9.out).mono ?_);rintro e w' ⟨rfl,⟨nd,rfl⟩⟩;(try exact dd)))
    repeat (go_quiet (first|(go_at_call 25;(with_reducible refine (spec_l01Prime.calls a0 true _ A5.out).mono ?_);rintro e w' ⟨rfl,⟨nd,rfl⟩⟩;(try exact dd);obtain ⟨hcz10_0,hcz10_1,hcz10_2,hfz10_0,hfz10_1,hfz10_2⟩:=cz3 BK174)|(go_at_call 27;(with_reducible refine (spec_l01In.calls a1_0 (-6) 6 true _ A7.out).mono ?_);rintro e w' ⟨rfl,⟨nd,rfl⟩⟩;(try exact dd))|(go_at_call 27;(with_reducible refine (spec_l01In.calls a1_2 0 6 t177 _ A9.out).mono ?_);rintro e w' ⟨rfl,⟨nd,rfl⟩⟩;(try exact dd)));try go_wp2_with (first|(go_at_call 25;(with_reducible refine (spec_l01Prime.calls a0 true _ A5.out).mono ?_);rintro e w' ⟨rfl,⟨nd,rfl⟩⟩;(try exact dd);obtain ⟨hcz10_0,hcz10_1,hcz10_2,hfz10_0,hfz10_1,hfz10_2⟩:=cz3 BK174)|(go_at_call 27;(with_reducible refine (spec_l01In.calls a1_0 (-6) 6 true _ A7.out).mono ?_);rintro e w' ⟨rfl,⟨nd,rfl⟩⟩;(try exact dd))|(go_at_call 27;(with_reducible refine (spec_l01In.calls a1_2 0 6 t177 _ A9.out).mono ?_);rintro e w' ⟨rfl,⟨nd,rfl⟩⟩;(try exact dd))))
    go_meet
    case rel=>exact ⟨_,(!t177),hB,H',⟨by first|omega|exact Nat.le_refl _⟩,⟨bkA BK174⟩,⟨blA⟩⟩
   ·
    replace c8:=Bool.eq_false_iff.mpr c8
    subst c8
    rw [if_neg (show ¬ (false=true) by decide)] at H
    try dsimp only at H
    have H':=Aside0.mk H
    clear H
    go_wp2_with (first|(go_at_call 25;(with_reducible refine (spec_l01Prime.calls a0 true _ A5.out).mono ?_);rintro e w' ⟨rfl,⟨nd,rfl⟩⟩;(try exact dd);obtain ⟨hcz11_0,hcz11_1,hcz11_2,hfz11_0,hfz11_1,hfz11_2⟩:=cz3 BK174)|(go_at_call 27;(with_reducible refine (spec_l01In.calls a1_0 (-6) 6 false _ A7.out).mono ?_);rintro e w' ⟨rfl,⟨nd,rfl⟩⟩;(try exact dd)))
    repeat (go_quiet (first|(go_at_call 25;(with_reducible refine (spec_l01Prime.calls a0 true _ A5.out).mono ?_);rintro e w' ⟨rfl,⟨nd,rfl⟩⟩;(try exact dd);obtain ⟨hcz11_0,hcz11_1,hcz11_2,hfz11_0,hfz11_1,hfz11_2⟩:=cz3 BK174)|(go_at_call 27;(with_reducible refine (spec_l01In.calls a1_0 (-6) 6 false _ A7.out).mono ?_);rintro e w' ⟨rfl,⟨nd,rfl⟩⟩;(try exact dd)));try go_wp2_with (first|(go_at_call 25;(with_reducible refine (spec_l01Prime.calls a0 true _ A5.out).mono ?_);rintro e w' ⟨rfl,⟨nd,rfl⟩⟩;(try exact dd);obtain ⟨hcz11_0,hcz11_1,hcz11_2,hfz11_0,hfz11_1,hfz11_2⟩:=cz3 BK174)|(go_at_call 27;(with_reducible refine (spec_l01In.calls a1_0 (-6) 6 false _ A7.out).mono ?_);rintro e w' ⟨rfl,⟨nd,rfl⟩⟩;(try exact dd))))
    go_meet
    case rel=>exact ⟨_,(true),hB,H',⟨by first|omega|exact Nat.le_refl _⟩,⟨bkA BK174⟩,⟨blA⟩⟩
  ·
   replace c6:=Bool.eq_false_iff.mpr c6
   subst c6
   rw [if_neg (show ¬ (false=true) by decide)] at H
   try dsimp only at H
   have H':=Aside0.mk H
   clear H
   go_wp2_with (first|(go_at_call 25;(with_reducible refine (spec_l01Prime.calls a0 false _ A5.out).mono ?_);rintro e w' ⟨rfl,⟨nd,rfl⟩⟩;(try exact dd)))
   repeat (go_quiet (first|(go_at_call 25;(with_reducible refine (spec_l01Prime.calls a0 false _ A5.out).mono ?_);rintro e w' ⟨rfl,⟨nd,rfl⟩⟩;(try exact dd)));try go_wp2_with (first|(go_at_call 25;(with_reducible refine (spec_l01Prime.calls a0 false _ A5.out).mono ?_);rintro e w' ⟨rfl,⟨nd,rfl⟩⟩;(try exact dd))))
   go_meet
   case rel=>exact ⟨_,(true),hB,H',⟨by first|omega|exact Nat.le_refl _⟩,⟨bkA BK174⟩,⟨blA⟩⟩
 case rest=>
  clear HC3
  try clear c6
  try clear c8
  try clear hcz10_0
  try clear hcz10_1
  try clear hcz10_2
  try clear hcz11_0
  try clear hcz11_1
  try clear hcz11_2
  try clear hfz10_0
  try clear hfz10_1
  try clear hfz10_2
  try clear hfz11_0
  try clear hfz11_1
  try clear hfz11_2
  obtain ⟨kq,x20_2,rfl,HA,HJ2,BK174,HB⟩:=hcut
  cases kq with
  | zero=>exact absurd HA.out (by simp [spec_l01Is.j0])
  | succ kj2=>
   have H:=HA.out
   clear HA
   simp only [spec_l01Is.j0] at H
   by_cases c12:x20_2=true
   ·
    subst c12
    rw [if_pos rfl] at H
    try dsimp only at H
    obtain rfl:=Option.some.inj H
    go_wp2
    repeat (go_quiet (fail);try go_wp2)
    go_ret
    exact finA blA
   ·
    replace c12:=Bool.eq_false_iff.mpr c12
    subst c12
    rw [if_neg (show ¬ (false=true) by decide)] at H
    try dsimp only at H
    by_cases c13:(wrap64 (a1_0+a1_2))≤0
    ·
     rw [if_pos c13] at H
     have c13b0:=decide_eq_true c13
     clear c13
     by_cases c14:a1_1=0
     ·
      rw [if_pos c14] at H
      have c14b0:(a1_1 == 0)=true:=beq_iff_eq.mpr c14
      have c14b1:(a1_1 != 0)=false:=bne_eq_false_iff_eq.mpr c14
      clear c14
      obtain rfl:=Option.some.inj H
      obtain ⟨hcz15_0,hcz15_1,hcz15_2,hfz15_0,hfz15_1,hfz15_2⟩:=cz3 BK174
      go_wp2
      repeat (go_quiet (fail);try go_wp2)
      go_ret
      exact finA blA
     ·
      rw [if_neg c14] at H
      have c14b0:(a1_1 == 0)=false:=beq_eq_false_iff_ne.mpr c14
      have c14b1:(a1_1 != 0)=true:=bne_iff_ne.mpr c14
      obtain rfl:=Option.some.inj H
      obtain ⟨hcz16_0,hcz16_1,hcz16_2,hfz16_0,hfz16_1,hfz16_2⟩:=cz3 BK174
      go_wp2
      repeat (go_quiet (fail);try go_wp2)
      go_ret
      exact finA blA
    ·
     rw [if_neg c13] at H
     have c13b0:=decide_eq_false c13
     clear c13
     replace H:=bS H
     obtain ⟨t178,A17,H⟩:=H
     try dsimp only at H
     replace H:=bS H
     obtain ⟨t179,A18,H⟩:=H
     try dsimp only at H
     by_cases c19:t179=true
     ·
      subst c19
      rw [if_pos rfl] at H
      try dsimp only at H
      by_cases c20:a1_2=0
      focus
       rw [if_pos c20] at H
       have c20b0:(a1_2 == 0)=true:=beq_iff_eq.mpr c20
       have c20b1:(a1_2 != 0)=false:=bne_eq_false_iff_eq.mpr c20
       clear c20
       obtain rfl:=Option.some.inj H
       obtain ⟨hcz21_0,hcz21_1,hcz21_2,hfz21_0,hfz21_1,hfz21_2⟩:=cz3 BK174
      rotate_left
      focus
       rw [if_neg c20] at H
       have c20b0:(a1_2 == 0)=false:=beq_eq_false_iff_ne.mpr c20
       have c20b1:(a1_2 != 0)=true:=bne_iff_ne.mpr c20
       by_cases c22:a0=0
       ·
        rw [if_pos c22] at H
        exact absurd H (by simp)
       rw [if_neg c22] at H
       have c22b0:(a0 == 0)=false:=beq_eq_false_iff_ne.mpr c22
       have c22b1:(a0 != 0)=true:=bne_iff_ne.mpr c22
       obtain rfl:=Option.some.inj H
       obtain ⟨hcz23_0,hcz23_1,hcz23_2,hfz23_0,hfz23_1,hfz23_2⟩:=cz3 BK174
      rotate_left
      all_goals
       go_wp2_with (first|(go_at_call 41;(with_reducible refine (spec_l01Power.calls kj2 a0 (wrap64 (a1_0+a1_2)) t178 _ A17.out).mono ?_);rintro e w' ⟨rfl,⟨nd,rfl⟩⟩;(try exact dd))|(go_at_call 27;(with_reducible refine (spec_l01In.calls a1_1 0 (wrap64 (t178 - 1)) true _ A18.out).mono ?_);rintro e w' ⟨rfl,⟨nd,rfl⟩⟩;(try exact dd)))
       repeat (go_quiet (first|(go_at_call 41;(with_reducible refine (spec_l01Power.calls kj2 a0 (wrap64 (a1_0+a1_2)) t178 _ A17.out).mono ?_);rintro e w' ⟨rfl,⟨nd,rfl⟩⟩;(try exact dd))|(go_at_call 27;(with_reducible refine (spec_l01In.calls a1_1 0 (wrap64 (t178 - 1)) true _ A18.out).mono ?_);rintro e w' ⟨rfl,⟨nd,rfl⟩⟩;(try exact dd)));try go_wp2_with (first|(go_at_call 41;(with_reducible refine (spec_l01Power.calls kj2 a0 (wrap64 (a1_0+a1_2)) t178 _ A17.out).mono ?_);rintro e w' ⟨rfl,⟨nd,rfl⟩⟩;(try exact dd))|(go_at_call 27;(with_reducible refine (spec_l01In.calls a1_1 0 (wrap64 (t178 - 1)) true _ A18.out).mono ?_);rintro e w' ⟨rfl,⟨nd,rfl⟩⟩;(try exact dd))))
      ·
       go_ret
       exact finA blA
      ·
       go_ret
       exact finA blA
     ·
      replace c19:=Bool.eq_false_iff.mpr c19
      subst c19
      rw [if_neg (show ¬ (false=true) by decide)] at H
      try dsimp only at H
      obtain rfl:=Option.some.inj H
      obtain ⟨hcz24_0,hcz24_1,hcz24_2,hfz24_0,hfz24_1,hfz24_2⟩:=cz3 BK174
      go_wp2_with (first|(go_at_call 41;(with_reducible refine (spec_l01Power.calls kj2 a0 (wrap64 (a1_0+a1_2)) t178 _ A17.out).mono ?_);rintro e w' ⟨rfl,⟨nd,rfl⟩⟩;(try exact dd))|(go_at_call 27;(with_reducible refine (spec_l01In.calls a1_1 0 (wrap64 (t178 - 1)) false _ A18.out).mono ?_);rintro e w' ⟨rfl,⟨nd,rfl⟩⟩;(try exact dd)))
      repeat (go_quiet (first|(go_at_call 41;(with_reducible refine (spec_l01Power.calls kj2 a0 (wrap64 (a1_0+a1_2)) t178 _ A17.out).mono ?_);rintro e w' ⟨rfl,⟨nd,rfl⟩⟩;(try exact dd))|(go_at_call 27;(with_reducible refine (spec_l01In.calls a1_1 0 (wrap64 (t178 - 1)) false _ A18.out).mono ?_);rintro e w' ⟨rfl,⟨nd,rfl⟩⟩;(try exact dd)));try go_wp2_with (first|(go_at_call 41;(with_reducible refine (spec_l01Power.calls kj2 a0 (wrap64 (a1_0+a1_2)) t178 _ A17.out).mono ?_);rintro e w' ⟨rfl,⟨nd,rfl⟩⟩;(try exact dd))|(go_at_call 27;(with_reducible refine (spec_l01In.calls a1_1 0 (wrap64 (t178 - 1)) false _ A18.out).mono ?_);rintro e w' ⟨rfl,⟨nd,rfl⟩⟩;(try exact dd))))
      go_ret
      exact finA blA
end Go.Proofs.Ytnhiehpbkimaeaa.PAll
