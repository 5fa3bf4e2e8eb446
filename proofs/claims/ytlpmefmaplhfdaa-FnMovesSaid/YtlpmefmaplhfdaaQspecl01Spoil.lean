-- turned out of the kit's print
import Derived.Test.YtlpmefmaplhfdaaQx
import Derived.Test.YtlpmefmaplhfdaaQbitsLeadingZeros64
import Derived.Test.YtlpmefmaplhfdaaQimplofMark
import Derived.Test.YtlpmefmaplhfdaaQspecl01Draw
import Derived.Test.YtlpmefmaplhfdaaQspecl01DrawPrime
namespace Go.Proofs.Ytlpmefmaplhfdaa.PAll
open Go.RowKit Go.Proofs.YtlpmefmaplhfdaaW.PrintWords Go.Proofs.YtlpmefmaplhfdaaW.PrintLast Go.Proofs.YtlpmefmaplhfdaaW.PrintMore
attribute [local go_sem] Go.Proofs.Ytlpmefmaplhfdaa.Aux.setCell_drewN Go.Proofs.Ytlpmefmaplhfdaa.Aux.isSome_setCell max2_int min2_int max_two min_two max_three min_three max_four min_four
set_option linter.unusedVariables false
set_option linter.unusedSimpArgs false
set_option maxHeartbeats 8000000 in
set_option maxRecDepth 100000 in
theorem impl_gcd.quiet (k:Nat) (a0 a1 r:Int) (w:World) (h:impl_gcd.f k a0 a1=some r) :
  Calls Try.prog 99 #[.int .i64 a0,.int .i64 a1] w fun e w'=>e=.returned (.int .i64 r)∧Drawn0 w w':=by
 have HB:=Aside0.mk (Drawn0.refl w)
 have H:=h
 unfold impl_gcd.f at H
 clear h
 have H':=Aside0.mk H
 clear H
 go_enter Try.func99,Try.ntmps99
 go_wp2
 repeat (go_quiet (fail);try go_wp2)
 go_loopg [0,1] k (fun kq v0 v1 w'=>∃ (x0_1:Int) (x1_1:Int),v0=.int .i64 x0_1∧v1=.int .i64 x1_1∧Aside0 (impl_gcd.l0 kq x0_1 x1_1=some r)∧Aside0 (kq≤k)∧Aside0 (Drawn0 w w'))
 case atStart=>exact ⟨(a0),(a1),rfl,rfl,H',⟨Nat.le_refl _⟩,⟨by repeat (first|exact HB.out|apply Drawn0.step|exact Drawn0.step HB.out 1)⟩⟩
 case round=>
  clear H'
  obtain ⟨x0_1,x1_1,rfl,rfl,HA,HK1,HB⟩:=hrel
  cases gk with
  | zero=>exact absurd HA.out (by simp [impl_gcd.l0])
  | succ k1=>
   have H:=HA.out
   clear HA
   simp only [impl_gcd.l0] at H
   by_cases c3:x1_1=0
   ·
    rw [if_pos c3] at H
    have c3b0:(x1_1 == 0)=true:=beq_iff_eq.mpr c3
    have c3b1:(x1_1 != 0)=false:=bne_eq_false_iff_eq.mpr c3
    clear c3
    obtain ⟨ji4,hji4⟩:∃ j_:Int,(mx x0_1 (wrap64 (-x0_1)))=j_:=⟨_,rfl⟩
    replace H:(some ji4)=some r:=by first|(rw [hji4] at H;exact H)|(simp only [hji4] at H ⊢;exact H)
    have hji4_:(if x0_1<(wrap64 (-x0_1)) then (wrap64 (-x0_1)) else x0_1)=ji4:=hji4
    obtain rfl:=Option.some.inj H
    go_wp2
    repeat (go_quiet (fail);try go_wp2)
    go_ret
    exact ⟨by first|rfl|(simp only [← hji4];first|rfl|(simp <;> rfl))|(simp [*] <;> rfl),by repeat (first|exact HB.out|apply Drawn0.step|exact Drawn0.step HB.out 1)⟩
   ·
    rw [if_neg c3] at H
    have c3b0:(x1_1 == 0)=false:=beq_eq_false_iff_ne.mpr c3
    have c3b1:(x1_1 != 0)=true:=bne_iff_ne.mpr c3
    have H':=Aside0.mk H
    clear H
    go_wp2
    repeat (go_quiet (fail);try go_wp2)
    go_roundg k1
    case measure=>have:=HK1.out;omega
    case rel=>exact ⟨(x1_1),(Int.tmod x0_1 x1_1),rfl,rfl,H',⟨by have:=HK1.out;omega⟩,⟨by repeat (first|exact HB.out|apply Drawn0.step|exact Drawn0.step HB.out 1)⟩⟩
def impl_reduced.g (k:Nat) (a0_0 a0_1 a0_2 a0_3 b_:Int):Option (Int × Int × Int × Int × Bool):=if b_=0 then none else (impl_IsMatrix.f k (wrap64 (Int.tdiv a0_0 b_)) (wrap64 (Int.tdiv a0_1 b_)) (wrap64 (Int.tdiv a0_2 b_)) (wrap64 (Int.tdiv a0_3 b_))).bind fun t4=>some (wrap64 (Int.tdiv a0_0 b_),wrap64 (Int.tdiv a0_1 b_),wrap64 (Int.tdiv a0_2 b_),wrap64 (Int.tdiv a0_3 b_),t4)
def impl_reduced.nb (a b:Int):Bool:=decide (a<0∨(a=0∧b<0))
def impl_reduced.by_ (a b t:Int):Int:=if impl_reduced.nb a b=true then wrap64 (-t) else t
def impl_reduced.f (k:Nat) (a0_0 a0_1 a0_2 a0_3:Int):Option (Int × Int × Int × Int × Bool):=(impl_gcd.f k a0_0 a0_1).bind fun t1=>(impl_gcd.f k a0_2 a0_3).bind fun t2=>(impl_gcd.f k t1 t2).bind fun t3=>impl_reduced.g k a0_0 a0_1 a0_2 a0_3 (impl_reduced.by_ a0_0 a0_1 t3)
theorem impl_reduced.mono:∀ a0_0 a0_1 a0_2 a0_3 k,LeO (impl_reduced.f k a0_0 a0_1 a0_2 a0_3) (impl_reduced.f (k+1) a0_0 a0_1 a0_2 a0_3):=by
 intro a b c d k
 unfold impl_reduced.f impl_reduced.g
 repeat' first
   | with_reducible first|exact impl_gcd.mono ..|exact impl_IsMatrix.mono ..|exact LeO.refl _|exact LeO.none _|refine LeO.ite ?_ ?_|refine LeO.bind ?_ fun _=>?_
set_option maxHeartbeats 8000000 in
set_option maxRecDepth 100000 in
theorem impl_reduced.calls (k:Nat) (a0_0 a0_1 a0_2 a0_3 r1 r2 r3 r4:Int) (r5:Bool) (w:World) (h:impl_reduced.f k a0_0 a0_1 a0_2 a0_3=some (r1,r2,r3,r4,r5)) :
  Calls Try.prog 105 #[.agg #[.int .i64 a0_0,.int .i64 a0_1,.int .i64 a0_2,.int .i64 a0_3]] w fun e w'=>e=.returned (.tuple #[.agg #[.int .i64 r1,.int .i64 r2,.int .i64 r3,.int .i64 r4],.bool r5])∧Below w.heap.size w w':=by
 unfold impl_reduced.f at h
 replace h:=Option.bind_eq_some_iff.mp h
 obtain ⟨t1,A10,h⟩:=h
 have A1:=Aside0.mk A10
 clear A10
 replace h:=Option.bind_eq_some_iff.mp h
 obtain ⟨t2,A20,h⟩:=h
 have A2:=Aside0.mk A20
 clear A20
 replace h:=Option.bind_eq_some_iff.mp h
 obtain ⟨t3,A30,h⟩:=h
 have A3:=Aside0.mk A30
 clear A30
 have HB:=Aside0.mk (Below.refl w.heap.size w)
 unfold impl_reduced.g at h
 by_cases c0:(impl_reduced.by_ a0_0 a0_1 t3)=0
 ·
  rw [if_pos c0] at h;cases h
 rw [if_neg c0] at h
 replace h:=Option.bind_eq_some_iff.mp h
 obtain ⟨t4,A40,h⟩:=h
 have A4:=Aside0.mk A40
 clear A40
 simp only [Option.some.injEq,Prod.mk.injEq] at h
 obtain ⟨rfl,rfl,rfl,rfl,rfl⟩:=h
 have c0b:((impl_reduced.by_ a0_0 a0_1 t3) == 0)=false:=beq_eq_false_iff_ne.mpr c0
 have c0c:((impl_reduced.by_ a0_0 a0_1 t3) != 0)=true:=bne_iff_ne.mpr c0
 go_enter Try.func105,Try.ntmps105
 go_wp2_with (first|((with_reducible refine gate_dst (N:=1) rfl ?_);refine bxE (cs:=#[.int .i64 a0_0,.int .i64 a0_1,.int .i64 a0_2,.int .i64 a0_3]) (t:=26) ?_;intro ga hg wa hbox hb;have BKa:=Aside0.mk hbox;have GEa:=sA hg;replace HB:=lB hb;clear hb hbox hg)|((with_reducible refine gate_dst (N:=2) rfl ?_);refine bxE (cs:=#[.int .i64 0,.int .i64 0,.int .i64 0,.int .i64 0]) (t:=26) ?_;intro gr hg wr hbox hb;have BKr:=Aside0.mk hbox;have GEr:=sA hg;have NEa_r:=Aside0.mk (neA hg (bkA BKa));replace BKa:=Aside0.mk (blk_below (bkA BKa) hb);replace HB:=lB hb;clear hb hbox hg))
 have NEr_a:=Aside0.mk (Ne.symm NEa_r.out)
 have hca_0:wr.cell? ⟨ga,0,none⟩=some (.int .i64 a0_0):=(blk_cell BKa.out 0).trans rfl
 have hca_1:wr.cell? ⟨ga,1,none⟩=some (.int .i64 a0_1):=(blk_cell BKa.out 1).trans rfl
 have hca_2:wr.cell? ⟨ga,2,none⟩=some (.int .i64 a0_2):=(blk_cell BKa.out 2).trans rfl
 have hca_3:wr.cell? ⟨ga,3,none⟩=some (.int .i64 a0_3):=(blk_cell BKa.out 3).trans rfl
 go_quiet ((go_at_call 99;(first|(with_reducible refine Calls.quiet_of ((impl_gcd.quiet k a0_0 a0_1 t1 _ A1.out).mono fun _ _ h_=>⟨h_.1,h_.2.out⟩))|(with_reducible refine Calls.quiet_of ((impl_gcd.quiet k a0_2 a0_3 t2 _ A2.out).mono fun _ _ h_=>⟨h_.1,h_.2.out⟩))|(with_reducible refine Calls.quiet_of ((impl_gcd.quiet k t1 t2 t3 _ A3.out).mono fun _ _ h_=>⟨h_.1,h_.2.out⟩)))))
 go_upto_region 2 with fail
 go_cut [37] from 22 to 37 (fun v wx=>v=.bool (impl_reduced.nb a0_0 a0_1)∧wx=wr.drewN nq)
 case first=>
  by_cases e0:a0_0=0
  ·
   subst e0
   go_wp2_with fail
   all_goals go_meet
   all_goals refine ⟨congrArg Value.bool ?_,rfl⟩
   all_goals clear hca_0 hca_1 hca_2 hca_3
   all_goals unfold impl_reduced.nb
   all_goals (rw [Bool.eq_iff_iff];simp)
  ·
   have e0b:(a0_0 == 0)=false:=beq_eq_false_iff_ne.mpr e0
   go_wp2_with fail
   all_goals go_meet
   all_goals refine ⟨congrArg Value.bool ?_,rfl⟩
   all_goals clear hca_0 hca_1 hca_2 hca_3
   all_goals unfold impl_reduced.nb
   all_goals (rw [Bool.eq_iff_iff];simp [e0] at *;try omega)
 case rest=>
  obtain ⟨rfl,rfl⟩:=hcut
  obtain ⟨nb_,hnb_⟩:∃ x,x=impl_reduced.nb a0_0 a0_1:=⟨_,rfl⟩
  rw [← hnb_]
  have HN:=Aside0.mk hnb_
  clear hnb_
  go_upto_if 37 with fail
  go_cut [4] from 38 to 39 (fun v wx=>v=.int .i64 (impl_reduced.by_ a0_0 a0_1 t3)∧wx=wr.drewN nq)
  case first=>
   go_wp2_with fail
   all_goals go_meet
   all_goals refine ⟨congrArg (Value.int .i64) ?_,rfl⟩
   all_goals (unfold impl_reduced.by_;rw [← HN.out])
   all_goals (try simp only [*])
   all_goals first|rfl|(simp;done)
  case rest=>
   obtain ⟨rfl,rfl⟩:=hcut
   go_wp2
   refine name_world (fun w'=>w'.heap[gr]?=some (.cells #[.int .i64 0,.int .i64 0,.int .i64 0,.int .i64 0] 26 (0,0))∧w'.heap[ga]?=some (.cells #[.int .i64 a0_0,.int .i64 a0_1,.int .i64 a0_2,.int .i64 a0_3] 26 (0,0))∧Below w.heap.size w w') ⟨by repeat (first|(with_reducible exact BKr.out)|(with_reducible first|refine blk_drewN ?_ _|refine blk_drew ?_|refine blk_alloc ?_ _)|refine blk_far ?_ NEr_a.out _),by (with_reducible repeat (first|refine blk_drewN ?_ _|refine blk_drew ?_|refine blk_alloc ?_ _));exact BKa.out,by repeat (first|(with_reducible exact HB.out)|(with_reducible first|apply pw_below_drewN|apply below_alloc|apply below_drew1)|refine below_set ?_ GEa.out)⟩ ?_
   clear BKr BKa HB
   clear hca_0 hca_1 hca_2 hca_3
   rintro wA ⟨hr,ha,hbel⟩
   have BKr:=Aside0.mk hr
   have BKa:=Aside0.mk ha
   have HB:=Aside0.mk hbel
   clear hbel hr ha
   have hcr_0:wA.cell? ⟨gr,0,none⟩=some (.int .i64 0):=(blk_cell BKr.out 0).trans rfl
   have hcr_1:wA.cell? ⟨gr,1,none⟩=some (.int .i64 0):=(blk_cell BKr.out 1).trans rfl
   have hcr_2:wA.cell? ⟨gr,2,none⟩=some (.int .i64 0):=(blk_cell BKr.out 2).trans rfl
   have hcr_3:wA.cell? ⟨gr,3,none⟩=some (.int .i64 0):=(blk_cell BKr.out 3).trans rfl
   have hca_0:wA.cell? ⟨ga,0,none⟩=some (.int .i64 a0_0):=(blk_cell BKa.out 0).trans rfl
   have hca_1:wA.cell? ⟨ga,1,none⟩=some (.int .i64 a0_1):=(blk_cell BKa.out 1).trans rfl
   have hca_2:wA.cell? ⟨ga,2,none⟩=some (.int .i64 a0_2):=(blk_cell BKa.out 2).trans rfl
   have hca_3:wA.cell? ⟨ga,3,none⟩=some (.int .i64 a0_3):=(blk_cell BKa.out 3).trans rfl
   have hf_:∀ i,wA.frozen? ⟨ga,i,none⟩=false:=fun i=>blk_frozen BKa.out i
   refine wp_loop_rounds 3 ?_
   rw [rounds_succ];go_wp2
   refine wp_loop_rounds 3 ?_
   rw [rounds_succ];go_wp2
   refine wp_region_still_tail 9 (by kernel_rfl) (by kernel_rfl) ?_
   change wpStill _ _ wA.drew (fun a'=>wpList _ _ _ _ a' wA.drew) _ _
   simp only [List.take_succ_cons,List.take_zero,List.drop_succ_cons,List.drop_zero]
   repeat still_step
   refine wpStill_nil ?_
   go_wp2
   rw [rounds_succ];go_wp2
   refine name_world (fun w'=>w'.heap[gr]?=some (.cells #[.int .i64 0,.int .i64 0,.int .i64 0,.int .i64 0] 26 (0,0))∧w'.heap[ga]?=some (.cells #[.int .i64 (wrap64 (Int.tdiv a0_0 (impl_reduced.by_ a0_0 a0_1 t3))),.int .i64 a0_1,.int .i64 a0_2,.int .i64 a0_3] 26 (0,0))∧Below w.heap.size w w') ⟨by repeat (first|(with_reducible exact BKr.out)|(with_reducible first|refine blk_drewN ?_ _|refine blk_drew ?_|refine blk_alloc ?_ _)|refine blk_far ?_ NEr_a.out _),by refine dr ?_;refine blk_put (cs:=#[.int .i64 a0_0,.int .i64 a0_1,.int .i64 a0_2,.int .i64 a0_3]) ?_ 0 _ rfl;(with_reducible repeat (first|refine blk_drewN ?_ _|refine blk_drew ?_|refine blk_alloc ?_ _));exact BKa.out,by repeat (first|(with_reducible exact HB.out)|(with_reducible first|apply pw_below_drewN|apply below_alloc|apply below_drew1)|refine below_set ?_ GEa.out)⟩ ?_
   clear BKr BKa HB
   clear hcr_0 hcr_1 hcr_2 hcr_3 hca_0 hca_1 hca_2 hca_3 hf_
   rintro wB ⟨hr,ha,hbel⟩
   have BKr:=Aside0.mk hr
   have BKa:=Aside0.mk ha
   have HB:=Aside0.mk hbel
   clear hbel hr ha
   have hcr_0:wB.cell? ⟨gr,0,none⟩=some (.int .i64 0):=(blk_cell BKr.out 0).trans rfl
   have hcr_1:wB.cell? ⟨gr,1,none⟩=some (.int .i64 0):=(blk_cell BKr.out 1).trans rfl
   have hcr_2:wB.cell? ⟨gr,2,none⟩=some (.int .i64 0):=(blk_cell BKr.out 2).trans rfl
   have hcr_3:wB.cell? ⟨gr,3,none⟩=some (.int .i64 0):=(blk_cell BKr.out 3).trans rfl
   have hca_0:wB.cell? ⟨ga,0,none⟩=some (.int .i64 (wrap64 (Int.tdiv a0_0 (impl_reduced.by_ a0_0 a0_1 t3)))):=(blk_cell BKa.out 0).trans rfl
   have hca_1:wB.cell? ⟨ga,1,none⟩=some (.int .i64 a0_1):=(blk_cell BKa.out 1).trans rfl
   have hca_2:wB.cell? ⟨ga,2,none⟩=some (.int .i64 a0_2):=(blk_cell BKa.out 2).trans rfl
   have hca_3:wB.cell? ⟨ga,3,none⟩=some (.int .i64 a0_3):=(blk_cell BKa.out 3).trans rfl
   have hf_:∀ i,wB.frozen? ⟨ga,i,none⟩=false:=fun i=>blk_frozen BKa.out i
   refine wp_region_still_tail 9 (by kernel_rfl) (by kernel_rfl) ?_
   change wpStill _ _ wB.drew (fun a'=>wpList _ _ _ _ a' wB.drew) _ _
   simp only [List.take_succ_cons,List.take_zero,List.drop_succ_cons,List.drop_zero]
   repeat still_step
   refine wpStill_nil ?_
   go_wp2
   rw [rounds_succ];go_wp2
   rw [rounds_succ];go_wp2
   refine wp_loop_rounds 3 ?_
   rw [rounds_succ];go_wp2
   refine name_world (fun w'=>w'.heap[gr]?=some (.cells #[.int .i64 0,.int .i64 0,.int .i64 0,.int .i64 0] 26 (0,0))∧w'.heap[ga]?=some (.cells #[.int .i64 (wrap64 (Int.tdiv a0_0 (impl_reduced.by_ a0_0 a0_1 t3))),.int .i64 (wrap64 (Int.tdiv a0_1 (impl_reduced.by_ a0_0 a0_1 t3))),.int .i64 a0_2,.int .i64 a0_3] 26 (0,0))∧Below w.heap.size w w') ⟨by repeat (first|(with_reducible exact BKr.out)|(with_reducible first|refine blk_drewN ?_ _|refine blk_drew ?_|refine blk_alloc ?_ _)|refine blk_far ?_ NEr_a.out _),by refine dr ?_;refine blk_put (cs:=#[.int .i64 (wrap64 (Int.tdiv a0_0 (impl_reduced.by_ a0_0 a0_1 t3))),.int .i64 a0_1,.int .i64 a0_2,.int .i64 a0_3]) ?_ 1 _ rfl;(with_reducible repeat (first|refine blk_drewN ?_ _|refine blk_drew ?_|refine blk_alloc ?_ _));exact BKa.out,by repeat (first|(with_reducible exact HB.out)|(with_reducible first|apply pw_below_drewN|apply below_alloc|apply below_drew1)|refine below_set ?_ GEa.out)⟩ ?_
   clear BKr BKa HB
   clear hcr_0 hcr_1 hcr_2 hcr_3 hca_0 hca_1 hca_2 hca_3 hf_
   rintro wC ⟨hr,ha,hbel⟩
   have BKr:=Aside0.mk hr
   have BKa:=Aside0.mk ha
   have HB:=Aside0.mk hbel
   clear hbel hr ha
   have hcr_0:wC.cell? ⟨gr,0,none⟩=some (.int .i64 0):=(blk_cell BKr.out 0).trans rfl
   have hcr_1:wC.cell? ⟨gr,1,none⟩=some (.int .i64 0):=(blk_cell BKr.out 1).trans rfl
   have hcr_2:wC.cell? ⟨gr,2,none⟩=some (.int .i64 0):=(blk_cell BKr.out 2).trans rfl
   have hcr_3:wC.cell? ⟨gr,3,none⟩=some (.int .i64 0):=(blk_cell BKr.out 3).trans rfl
   have hca_0:wC.cell? ⟨ga,0,none⟩=some (.int .i64 (wrap64 (Int.tdiv a0_0 (impl_reduced.by_ a0_0 a0_1 t3)))):=(blk_cell BKa.out 0).trans rfl
   have hca_1:wC.cell? ⟨ga,1,none⟩=some (.int .i64 (wrap64 (Int.tdiv a0_1 (impl_reduced.by_ a0_0 a0_1 t3)))):=(blk_cell BKa.out 1).trans rfl
   have hca_2:wC.cell? ⟨ga,2,none⟩=some (.int .i64 a0_2):=(blk_cell BKa.out 2).trans rfl
   have hca_3:wC.cell? ⟨ga,3,none⟩=some (.int .i64 a0_3):=(blk_cell BKa.out 3).trans rfl
   have hf_:∀ i,wC.frozen? ⟨ga,i,none⟩=false:=fun i=>blk_frozen BKa.out i
   refine wp_region_still_tail 9 (by kernel_rfl) (by kernel_rfl) ?_
   change wpStill _ _ wC.drew (fun a'=>wpList _ _ _ _ a' wC.drew) _ _
   simp only [List.take_succ_cons,List.take_zero,List.drop_succ_cons,List.drop_zero]
   repeat still_step
   refine wpStill_nil ?_
   go_wp2
   rw [rounds_succ];go_wp2
   refine name_world (fun w'=>w'.heap[gr]?=some (.cells #[.int .i64 0,.int .i64 0,.int .i64 0,.int .i64 0] 26 (0,0))∧w'.heap[ga]?=some (.cells #[.int .i64 (wrap64 (Int.tdiv a0_0 (impl_reduced.by_ a0_0 a0_1 t3))),.int .i64 (wrap64 (Int.tdiv a0_1 (impl_reduced.by_ a0_0 a0_1 t3))),.int .i64 (wrap64 (Int.tdiv a0_2 (impl_reduced.by_ a0_0 a0_1 t3))),.int .i64 a0_3] 26 (0,0))∧Below w.heap.size w w') ⟨by repeat (first|(with_reducible exact BKr.out)|(with_reducible first|refine blk_drewN ?_ _|refine blk_drew ?_|refine blk_alloc ?_ _)|refine blk_far ?_ NEr_a.out _),by refine dr ?_;refine blk_put (cs:=#[.int .i64 (wrap64 (Int.tdiv a0_0 (impl_reduced.by_ a0_0 a0_1 t3))),.int .i64 (wrap64 (Int.tdiv a0_1 (impl_reduced.by_ a0_0 a0_1 t3))),.int .i64 a0_2,.int .i64 a0_3]) ?_ 2 _ rfl;(with_reducible repeat (first|refine blk_drewN ?_ _|refine blk_drew ?_|refine blk_alloc ?_ _));exact BKa.out,by repeat (first|(with_reducible exact HB.out)|(with_reducible first|apply pw_below_drewN|apply below_alloc|apply below_drew1)|refine below_set ?_ GEa.out)⟩ ?_
   clear BKr BKa HB
   clear hcr_0 hcr_1 hcr_2 hcr_3 hca_0 hca_1 hca_2 hca_3 hf_
   rintro wD ⟨hr,ha,hbel⟩
   have BKr:=Aside0.mk hr
   have BKa:=Aside0.mk ha
   have HB:=Aside0.mk hbel
   clear hbel hr ha
   have hcr_0:wD.cell? ⟨gr,0,none⟩=some (.int .i64 0):=(blk_cell BKr.out 0).trans rfl
   have hcr_1:wD.cell? ⟨gr,1,none⟩=some (.int .i64 0):=(blk_cell BKr.out 1).trans rfl
   have hcr_2:wD.cell? ⟨gr,2,none⟩=some (.int .i64 0):=(blk_cell BKr.out 2).trans rfl
   have hcr_3:wD.cell? ⟨gr,3,none⟩=some (.int .i64 0):=(blk_cell BKr.out 3).trans rfl
   have hca_0:wD.cell? ⟨ga,0,none⟩=some (.int .i64 (wrap64 (Int.tdiv a0_0 (impl_reduced.by_ a0_0 a0_1 t3)))):=(blk_cell BKa.out 0).trans rfl
   have hca_1:wD.cell? ⟨ga,1,none⟩=some (.int .i64 (wrap64 (Int.tdiv a0_1 (impl_reduced.by_ a0_0 a0_1 t3)))):=(blk_cell BKa.out 1).trans rfl
   have hca_2:wD.cell? ⟨ga,2,none⟩=some (.int .i64 (wrap64 (Int.tdiv a0_2 (impl_reduced.by_ a0_0 a0_1 t3)))):=(blk_cell BKa.out 2).trans rfl
   have hca_3:wD.cell? ⟨ga,3,none⟩=some (.int .i64 a0_3):=(blk_cell BKa.out 3).trans rfl
   have hf_:∀ i,wD.frozen? ⟨ga,i,none⟩=false:=fun i=>blk_frozen BKa.out i
   refine wp_region_still_tail 9 (by kernel_rfl) (by kernel_rfl) ?_
   change wpStill _ _ wD.drew (fun a'=>wpList _ _ _ _ a' wD.drew) _ _
   simp only [List.take_succ_cons,List.take_zero,List.drop_succ_cons,List.drop_zero]
   repeat still_step
   refine wpStill_nil ?_
   go_wp2
   rw [rounds_succ];go_wp2
   rw [rounds_succ]
   refine name_world (fun w'=>w'.heap[gr]?=some (.cells #[.int .i64 0,.int .i64 0,.int .i64 0,.int .i64 0] 26 (0,0))∧w'.heap[ga]?=some (.cells #[.int .i64 (wrap64 (Int.tdiv a0_0 (impl_reduced.by_ a0_0 a0_1 t3))),.int .i64 (wrap64 (Int.tdiv a0_1 (impl_reduced.by_ a0_0 a0_1 t3))),.int .i64 (wrap64 (Int.tdiv a0_2 (impl_reduced.by_ a0_0 a0_1 t3))),.int .i64 (wrap64 (Int.tdiv a0_3 (impl_reduced.by_ a0_0 a0_1 t3)))] 26 (0,0))∧Below w.heap.size w w') ⟨by repeat (first|(with_reducible exact BKr.out)|(with_reducible first|refine blk_drewN ?_ _|refine blk_drew ?_|refine blk_alloc ?_ _)|refine blk_far ?_ NEr_a.out _),by refine dr ?_;refine blk_put (cs:=#[.int .i64 (wrap64 (Int.tdiv a0_0 (impl_reduced.by_ a0_0 a0_1 t3))),.int .i64 (wrap64 (Int.tdiv a0_1 (impl_reduced.by_ a0_0 a0_1 t3))),.int .i64 (wrap64 (Int.tdiv a0_2 (impl_reduced.by_ a0_0 a0_1 t3))),.int .i64 a0_3]) ?_ 3 _ rfl;(with_reducible repeat (first|refine blk_drewN ?_ _|refine blk_drew ?_|refine blk_alloc ?_ _));exact BKa.out,by repeat (first|(with_reducible exact HB.out)|(with_reducible first|apply pw_below_drewN|apply below_alloc|apply below_drew1)|refine below_set ?_ GEa.out)⟩ ?_
   clear BKr BKa HB
   clear hcr_0 hcr_1 hcr_2 hcr_3 hca_0 hca_1 hca_2 hca_3 hf_
   rintro wE ⟨hr,ha,hbel⟩
   have BKr:=Aside0.mk hr
   have BKa:=Aside0.mk ha
   have HB:=Aside0.mk hbel
   clear hbel hr ha
   have hcr_0:wE.cell? ⟨gr,0,none⟩=some (.int .i64 0):=(blk_cell BKr.out 0).trans rfl
   have hcr_1:wE.cell? ⟨gr,1,none⟩=some (.int .i64 0):=(blk_cell BKr.out 1).trans rfl
   have hcr_2:wE.cell? ⟨gr,2,none⟩=some (.int .i64 0):=(blk_cell BKr.out 2).trans rfl
   have hcr_3:wE.cell? ⟨gr,3,none⟩=some (.int .i64 0):=(blk_cell BKr.out 3).trans rfl
   have hca_0:wE.cell? ⟨ga,0,none⟩=some (.int .i64 (wrap64 (Int.tdiv a0_0 (impl_reduced.by_ a0_0 a0_1 t3)))):=(blk_cell BKa.out 0).trans rfl
   have hca_1:wE.cell? ⟨ga,1,none⟩=some (.int .i64 (wrap64 (Int.tdiv a0_1 (impl_reduced.by_ a0_0 a0_1 t3)))):=(blk_cell BKa.out 1).trans rfl
   have hca_2:wE.cell? ⟨ga,2,none⟩=some (.int .i64 (wrap64 (Int.tdiv a0_2 (impl_reduced.by_ a0_0 a0_1 t3)))):=(blk_cell BKa.out 2).trans rfl
   have hca_3:wE.cell? ⟨ga,3,none⟩=some (.int .i64 (wrap64 (Int.tdiv a0_3 (impl_reduced.by_ a0_0 a0_1 t3)))):=(blk_cell BKa.out 3).trans rfl
   have hf_:∀ i,wE.frozen? ⟨ga,i,none⟩=false:=fun i=>blk_frozen BKa.out i
   go_wp2
   go_region_with (go_at_call 42;with_reducible refine (impl_IsMatrix.calls k _ _ _ _ t4 _ A4.out).mono ?_;intro e w5 ⟨he,hb⟩;subst he;clear hca_0 hca_1 hca_2 hca_3 hcr_0 hcr_1 hcr_2 hcr_3 hf_;replace BKr:=Aside0.mk (blk_below (bkA BKr) hb);replace HB:=lB hb;replace BKa:=Aside0.mk (blk_below (bkA BKa) hb);clear hb;have hcr5_0:w5.cell? ⟨gr,0,none⟩=some (.int .i64 0):=(blk_cell BKr.out 0).trans rfl;have hfr5_0:=blk_frozen BKr.out 0;have hca5_0:w5.cell? ⟨ga,0,none⟩=some (.int .i64 (wrap64 (Int.tdiv a0_0 (impl_reduced.by_ a0_0 a0_1 t3)))):=(blk_cell BKa.out 0).trans rfl;have hcr5_1:w5.cell? ⟨gr,1,none⟩=some (.int .i64 0):=(blk_cell BKr.out 1).trans rfl;have hfr5_1:=blk_frozen BKr.out 1;have hca5_1:w5.cell? ⟨ga,1,none⟩=some (.int .i64 (wrap64 (Int.tdiv a0_1 (impl_reduced.by_ a0_0 a0_1 t3)))):=(blk_cell BKa.out 1).trans rfl;have hcr5_2:w5.cell? ⟨gr,2,none⟩=some (.int .i64 0):=(blk_cell BKr.out 2).trans rfl;have hfr5_2:=blk_frozen BKr.out 2;have hca5_2:w5.cell? ⟨ga,2,none⟩=some (.int .i64 (wrap64 (Int.tdiv a0_2 (impl_reduced.by_ a0_0 a0_1 t3)))):=(blk_cell BKa.out 2).trans rfl;have hcr5_3:w5.cell? ⟨gr,3,none⟩=some (.int .i64 0):=(blk_cell BKr.out 3).trans rfl;have hfr5_3:=blk_frozen BKr.out 3;have hca5_3:w5.cell? ⟨ga,3,none⟩=some (.int .i64 (wrap64 (Int.tdiv a0_3 (impl_reduced.by_ a0_0 a0_1 t3)))):=(blk_cell BKa.out 3).trans rfl)
   all_goals go_wp2
   all_goals refine bodyPost_ret (results_ct rfl _ _ gr 26 #[.int .i64 (wrap64 (Int.tdiv a0_0 (impl_reduced.by_ a0_0 a0_1 t3))),.int .i64 (wrap64 (Int.tdiv a0_1 (impl_reduced.by_ a0_0 a0_1 t3))),.int .i64 (wrap64 (Int.tdiv a0_2 (impl_reduced.by_ a0_0 a0_1 t3))),.int .i64 (wrap64 (Int.tdiv a0_3 (impl_reduced.by_ a0_0 a0_1 t3)))] (0,0) _ rfl (by refine dr ?_;refine blk_put (cs:=#[.int .i64 (wrap64 (Int.tdiv a0_0 (impl_reduced.by_ a0_0 a0_1 t3))),.int .i64 (wrap64 (Int.tdiv a0_1 (impl_reduced.by_ a0_0 a0_1 t3))),.int .i64 (wrap64 (Int.tdiv a0_2 (impl_reduced.by_ a0_0 a0_1 t3))),.int .i64 0]) ?_ 3 _ rfl;refine dr ?_;refine blk_put (cs:=#[.int .i64 (wrap64 (Int.tdiv a0_0 (impl_reduced.by_ a0_0 a0_1 t3))),.int .i64 (wrap64 (Int.tdiv a0_1 (impl_reduced.by_ a0_0 a0_1 t3))),.int .i64 0,.int .i64 0]) ?_ 2 _ rfl;refine dr ?_;refine blk_put (cs:=#[.int .i64 (wrap64 (Int.tdiv a0_0 (impl_reduced.by_ a0_0 a0_1 t3))),.int .i64 0,.int .i64 0,.int .i64 0]) ?_ 1 _ rfl;refine dr ?_;refine blk_put (cs:=#[.int .i64 0,.int .i64 0,.int .i64 0,.int .i64 0]) ?_ 0 _ rfl;(with_reducible repeat (first|refine blk_drewN ?_ _|refine blk_drew ?_|refine blk_alloc ?_ _));exact BKr.out) Try.underlying26 rfl (by kernel_rfl)) rfl ?_
   all_goals exact ⟨by first|rfl|(simp <;> rfl),by repeat (first|(with_reducible exact HB.out)|(with_reducible first|apply pw_below_drewN|apply below_alloc|apply below_drew1)|refine below_set ?_ (Aside0.out (by assumption)))⟩
def impl_parent.f (k:Nat) (a0 a1_0 a1_1 a1_2:Int):Option (Int × Int × Int × Bool):=(impl_mark.f k a0 a1_0 a1_1 a1_2).bind fun t576=>((impl_ofMark.f k a0 (wrap64 (a1_0 - 1)) t576).bind fun bt577=>(some (bt577.1,bt577.2.1,bt577.2.2.1,bt577.2.2.2)))
theorem impl_parent.mono:∀ a0 a1 a2 a3 k,LeO (impl_parent.f k a0 a1 a2 a3) (impl_parent.f (k+1) a0 a1 a2 a3):=by
 intro a0 a1 a2 a3 k
 unfold impl_parent.f
 repeat' first
   | with_reducible first|exact impl_mark.mono ..|exact impl_ofMark.mono ..|exact LeO.refl _|exact LeO.none _|refine LeO.ite ?_ ?_|refine LeO.bind ?_ fun _=>?_
def impl_parent.T1:Bool × List (List Nat × List Nat):=(true,[([],[]),([],[]),([1],[1]),([2],[2]),([],[]),([],[]),([4,5],[4,5]),([0,3,6,6],[0,3,6]),([7],[7]),([7],[7]),([8,7,0,1,2,3,4,5,6,7,8,9],[8]),([9,10,0,1,2,3,4,5,6,7,8,9,10],[9])])
def impl_parent.B1:List Nat:=[0,0,2,6,0,0,48,127,255,255,1023,2047]
theorem impl_parent.tab1:rtab .any (opsOf Try.f60 1)=impl_parent.T1:=by kernel_rfl
theorem impl_parent.bits1:waitsOk impl_parent.T1.2 impl_parent.B1=true:=by kernel_rfl
set_option maxHeartbeats 8000000 in
set_option maxRecDepth 100000 in
theorem impl_parent.calls (k:Nat) (a0 a1_0 a1_1 a1_2 r1 r2 r3:Int) (r4:Bool) (w:World) (h:impl_parent.f k a0 a1_0 a1_1 a1_2=some (r1,r2,r3,r4)) :
  Calls Try.prog 60 #[.int .i64 a0,.agg #[.int .i64 a1_0,.int .i64 a1_1,.int .i64 a1_2]] w fun e w'=>e=.returned (.tuple #[.agg #[.int .i64 r1,.int .i64 r2,.int .i64 r3],.bool r4])∧Below w.heap.size w w':=by
 have hu28:=Try.underlying28
 have HB:=Aside0.mk (Below.refl w.heap.size w)
 have H:=h
 unfold impl_parent.f at H
 clear h
 replace H:=bS H
 obtain ⟨t576,A3,H⟩:=H
 try dsimp only at H
 replace H:=bS H
 obtain ⟨⟨t577,t578,t579,t580⟩,A4,H⟩:=H
 try dsimp only at H
 simp only [Option.some.injEq,Prod.mk.injEq] at H
 obtain ⟨rfl,rfl,rfl,rfl⟩:=H
 go_enter Try.func60,Try.ntmps60
 try go_wp2_with (first|((with_reducible refine gate_dst (N:=3) rfl ?_);refine bxE (cs:=#[.int .i64 a1_0,.int .i64 a1_1,.int .i64 a1_2]) (t:=28) ?_;intro gb574 hg w5 hbox hb;have n0_:=lB hb;have n1_:=Aside0.mk hbox;have n2_:=sA hg;have n3_:=sA hg;clear HB;have HB:=n0_;have BK574:=n1_;have GW574:=n2_;have GE574:=n3_;clear n0_ n1_ n2_ n3_;clear hb hbox hg)|((with_reducible refine gate_dst (N:=4) rfl ?_);refine bxE (cs:=#[.int .i64 0,.int .i64 0,.int .i64 0]) (t:=28) ?_;intro gb575 hg w6 hbox hb;have n0_:=kB BK574 hb;have n1_:=lB hb;have n2_:=Aside0.mk hbox;have n3_:=sA hg;have n4_:=sA hg;have n5_:=nA hg BK574;have n6_:=nB hg BK574;clear BK574;clear HB;have BK574:=n0_;have HB:=n1_;have BK575:=n2_;have GW575:=n3_;have GE575:=n4_;have NB574_575:=n5_;have NB575_574:=n6_;clear n0_ n1_ n2_ n3_ n4_ n5_ n6_;clear hb hbox hg))
 have n0_:=Aside0.mk (blk_drew BK574.out)
 have n1_:=Aside0.mk (blk_drew BK575.out)
 have n2_:=Aside0.mk (below_drew1 HB.out)
 clear BK574
 clear BK575
 clear HB
 have BK574:=n0_
 have BK575:=n1_
 have HB:=n2_
 clear n0_ n1_ n2_
 refine start_ (n:=12) (S:=fun w'=>w'.cell? ⟨gb574,0,none⟩=some (.int .i64 a1_0)∧w'.cell? ⟨gb574,1,none⟩=some (.int .i64 a1_1)∧w'.cell? ⟨gb574,2,none⟩=some (.int .i64 a1_2)) (ds:=[]) #[Z,Z,Z,Z,Z,Z,Z,Z,Z,Z,Z,Z] (by kernel_rfl) rfl rfl ⟨cA BK574 0,cA BK574 1,cA BK574 2⟩ (fun hHeld=>?_);refine with_tabW impl_parent.tab1 impl_parent.bits1 (fun HT_ HW_=>?_)
 generalize w6.drew=w7 at BK574 BK575 HB hHeld ⊢
 refine puA (i:=0) (N:=some 6) #[Y,Z,Z,Z,Z,Z,Z,Z,Z,Z,Z,Z] rfl rfl HT_ ?_
 refine puA (i:=1) (N:=some 7) #[Y,Y,Z,Z,Z,Z,Z,Z,Z,Z,Z,Z] rfl rfl HT_ ?_
 refine puA (i:=4) (N:=some 10) #[Y,Y,Z,Z,Y,Z,Z,Z,Z,Z,Z,Z] rfl rfl HT_ ?_
 refine taA (i:=2) (N:=some 8) #[Y,Y,Y,Z,Y,Z,Z,Z,Z,Z,Z,Z] rfl rfl HT_ HW_ hHeld ?_
 refine puA (i:=3) (N:=some 9) #[Y,Y,Y,Y,Y,Z,Z,Z,Z,Z,Z,Z] rfl rfl HT_ ?_
 refine taA (i:=5) (N:=some 11) #[Y,Y,Y,Y,Y,Y,Z,Z,Z,Z,Z,Z] rfl rfl HT_ HW_ hHeld ?_
 refine one_ (i:=6) (N:=some 12) #[Y,Y,Y,Y,Y,Y,Y,Z,Z,Z,Z,Z] rfl rfl (one_of HT_.out (by kernel_rfl)) (by decide) (fun K hK=>?_)
 refine goC Try.func90 (impl_mark.calls (w:=_) (h:=A3.out)) ?_
 intro w8 hb
 replace BK574:=kB BK574 hb
 replace BK575:=kB BK575 hb
 replace HB:=lB hb
 (try clear hb)
 (try clear hb2)
 (try clear hk)
 (try clear hi)
 refine hK.out _ _ ⟨cA BK574 0,cA BK574 1,cA BK574 2⟩ (fun hHeld=>?_)
 clear hK K
 refine nmA ?_
 refine one_ (i:=7) (N:=some 13) #[Y,Y,Y,Y,Y,Y,Y,Y,Z,Z,Z,Z] rfl rfl (one_of HT_.out (by kernel_rfl)) (by decide) (fun K hK=>?_)
 refine goC Try.func103 (impl_ofMark.calls (w:=_) (h:=A4.out)) ?_
 intro w9 hb
 replace BK574:=kB BK574 hb
 replace BK575:=kB BK575 hb
 replace HB:=lB hb
 (try clear hb)
 (try clear hb2)
 (try clear hk)
 (try clear hi)
 refine hK.out _ _ ⟨cA BK574 0,cA BK574 1,cA BK574 2⟩ (fun hHeld=>?_)
 clear hK K
 refine nmA ?_
 refine puA (i:=8) (N:=some 14) #[Y,Y,Y,Y,Y,Y,Y,Y,Y,Z,Z,Z] rfl rfl HT_ ?_
 refine puA (i:=9) (N:=some 15) #[Y,Y,Y,Y,Y,Y,Y,Y,Y,Y,Z,Z] rfl rfl HT_ ?_
 refine one_ (i:=10) (N:=none) #[Y,Y,Y,Y,Y,Y,Y,Y,Y,Y,Y,Z] rfl rfl (one_of HT_.out (by kernel_rfl)) (by decide) (fun K hK=>?_)
 have hs10:w9.cell? ⟨gb575,0,none⟩=some (.int .i64 0):=cA BK575 0
 have hfs10:=blk_frozen BK575.out 0
 have hns10_0:=NB574_575.out
 have hms10_0:=NB575_574.out
 have hs11:w9.cell? ⟨gb575,1,none⟩=some (.int .i64 0):=cA BK575 1
 have hfs11:=blk_frozen BK575.out 1
 have hns11_0:=NB574_575.out
 have hms11_0:=NB575_574.out
 have hs12:w9.cell? ⟨gb575,2,none⟩=some (.int .i64 0):=cA BK575 2
 have hfs12:=blk_frozen BK575.out 2
 have hns12_0:=NB574_575.out
 have hms12_0:=NB575_574.out
 refine skip_ (w1:=?_) (by rfl) rfl ?_ ?_
 rotate_left
 ·
  go_simp
  rfl
 refine hK.out _ _ ⟨cfA hHeld.1,cfA hHeld.2.1,cfA hHeld.2.2⟩ (fun hHeld=>?_)
 clear hK K
 refine puA (i:=11) (N:=some 5) #[Y,Y,Y,Y,Y,Y,Y,Y,Y,Y,Y,Y] rfl rfl HT_ ?_
 refine done_ (done_of HT_.out (by kernel_rfl)) ?_
 try go_wp2
 refine bodyPost_ret (results_ct rfl _ _ gb575 28 #[.int .i64 t577,.int .i64 t578,.int .i64 t579] (0,0) _ rfl (bpA BK575) Try.underlying28 rfl (by kernel_rfl)) rfl ?_
 exact finA blA
def impl_joinLevel.f (k:Nat) (a0 a1_0 a1_1 a1_2 a2_0 a2_1 a2_2:Int):Option (Int):=(impl_mark.f k a0 a1_0 a1_1 a1_2).bind fun t598=>((impl_mark.f k a0 a2_0 a2_1 a2_2).bind fun t599=>((impl_valuation.f k a0 (wrap64 (t598 - t599))).bind fun t600=>(some (mn (mn a1_0 a2_0) (wrap64 (t600 - 6))))))
theorem impl_joinLevel.mono:∀ a0 a1 a2 a3 a4 a5 a6 k,LeO (impl_joinLevel.f k a0 a1 a2 a3 a4 a5 a6) (impl_joinLevel.f (k+1) a0 a1 a2 a3 a4 a5 a6):=by
 intro a0 a1 a2 a3 a4 a5 a6 k
 unfold impl_joinLevel.f
 repeat' first
   | with_reducible first|exact impl_mark.mono ..|exact impl_valuation.mono ..|exact LeO.refl _|exact LeO.none _|refine LeO.ite ?_ ?_|refine LeO.bind ?_ fun _=>?_
def impl_joinLevel.T1:Bool × List (List Nat × List Nat):=(true,[([],[]),([0],[0]),([],[]),([2],[2]),([],[]),([],[]),([],[]),([5,6],[5,6]),([],[]),([],[]),([8,9,7],[8,9]),([7,10],[7,10]),([4,11,10],[4,11]),([12],[12]),([1,3,13],[1,3,13]),([14,12,0,1,2,3,4,5,6,7,8,9,10,11,12,13,14],[14])])
def impl_joinLevel.B1:List Nat:=[0,1,0,4,0,0,0,96,0,0,992,2016,4080,8176,16383,32767]
theorem impl_joinLevel.tab1:rtab .any (opsOf Try.f104 1)=impl_joinLevel.T1:=by kernel_rfl
theorem impl_joinLevel.bits1:waitsOk impl_joinLevel.T1.2 impl_joinLevel.B1=true:=by kernel_rfl
set_option maxHeartbeats 8000000 in
set_option maxRecDepth 100000 in
theorem impl_joinLevel.calls (k:Nat) (a0 a1_0 a1_1 a1_2 a2_0 a2_1 a2_2 r:Int) (w:World) (h:impl_joinLevel.f k a0 a1_0 a1_1 a1_2 a2_0 a2_1 a2_2=some r) :
  Calls Try.prog 104 #[.int .i64 a0,.agg #[.int .i64 a1_0,.int .i64 a1_1,.int .i64 a1_2],.agg #[.int .i64 a2_0,.int .i64 a2_1,.int .i64 a2_2]] w fun e w'=>e=.returned (.int .i64 r)∧Below w.heap.size w w':=by
 have hu28:=Try.underlying28
 have HB:=Aside0.mk (Below.refl w.heap.size w)
 have H:=h
 unfold impl_joinLevel.f at H
 clear h
 replace H:=bS H
 obtain ⟨t598,A4,H⟩:=H
 try dsimp only at H
 replace H:=bS H
 obtain ⟨t599,A5,H⟩:=H
 try dsimp only at H
 replace H:=bS H
 obtain ⟨t600,A6,H⟩:=H
 try dsimp only at H
 obtain ⟨ji7,hji7⟩:∃ j_:Int,(mn a1_0 a2_0)=j_:=⟨_,rfl⟩
 replace H:(some (mn (ji7) (wrap64 (t600 - 6))))=some r:=by first|(rw [hji7] at H;exact H)|(simp only [hji7] at H ⊢;exact H)
 (try rw [hji7] at A4)
 (try rw [hji7] at A5)
 (try rw [hji7] at A6)
 have hji7_:(if a2_0<a1_0 then a2_0 else a1_0)=ji7:=hji7
 obtain ⟨ji8,hji8⟩:∃ j_:Int,(mn (ji7) (wrap64 (t600 - 6)))=j_:=⟨_,rfl⟩
 replace H:(some ji8)=some r:=by first|(rw [hji8] at H;exact H)|(simp only [hji8] at H ⊢;exact H)
 (try rw [hji8] at A4)
 (try rw [hji8] at A5)
 (try rw [hji8] at A6)
 have hji8_:(if (wrap64 (t600 - 6))<(ji7) then (wrap64 (t600 - 6)) else (ji7))=ji8:=hji8
 obtain rfl:=Option.some.inj H
 go_enter Try.func104,Try.ntmps104
 try go_wp2_with (first|((with_reducible refine gate_dst (N:=4) rfl ?_);refine bxE (cs:=#[.int .i64 a1_0,.int .i64 a1_1,.int .i64 a1_2]) (t:=28) ?_;intro gb596 hg w9 hbox hb;have n0_:=lB hb;have n1_:=Aside0.mk hbox;have n2_:=sA hg;have n3_:=sA hg;clear HB;have HB:=n0_;have BK596:=n1_;have GW596:=n2_;have GE596:=n3_;clear n0_ n1_ n2_ n3_;clear hb hbox hg)|((with_reducible refine gate_dst (N:=5) rfl ?_);refine bxE (cs:=#[.int .i64 a2_0,.int .i64 a2_1,.int .i64 a2_2]) (t:=28) ?_;intro gb597 hg w10 hbox hb;have n0_:=kB BK596 hb;have n1_:=lB hb;have n2_:=Aside0.mk hbox;have n3_:=sA hg;have n4_:=sA hg;have n5_:=nA hg BK596;have n6_:=nB hg BK596;clear BK596;clear HB;have BK596:=n0_;have HB:=n1_;have BK597:=n2_;have GW597:=n3_;have GE597:=n4_;have NB596_597:=n5_;have NB597_596:=n6_;clear n0_ n1_ n2_ n3_ n4_ n5_ n6_;clear hb hbox hg))
 have n0_:=Aside0.mk (blk_drew BK596.out)
 have n1_:=Aside0.mk (blk_drew BK597.out)
 have n2_:=Aside0.mk (below_drew1 HB.out)
 clear BK596
 clear BK597
 clear HB
 have BK596:=n0_
 have BK597:=n1_
 have HB:=n2_
 clear n0_ n1_ n2_
 refine start_ (n:=16) (S:=fun w'=>w'.cell? ⟨gb596,0,none⟩=some (.int .i64 a1_0)∧w'.cell? ⟨gb596,1,none⟩=some (.int .i64 a1_1)∧w'.cell? ⟨gb596,2,none⟩=some (.int .i64 a1_2)∧w'.cell? ⟨gb597,0,none⟩=some (.int .i64 a2_0)∧w'.cell? ⟨gb597,1,none⟩=some (.int .i64 a2_1)∧w'.cell? ⟨gb597,2,none⟩=some (.int .i64 a2_2)) (ds:=[]) #[Z,Z,Z,Z,Z,Z,Z,Z,Z,Z,Z,Z,Z,Z,Z,Z] (by kernel_rfl) rfl rfl ⟨cA BK596 0,cA BK596 1,cA BK596 2,cA BK597 0,cA BK597 1,cA BK597 2⟩ (fun hHeld=>?_);refine with_tabW impl_joinLevel.tab1 impl_joinLevel.bits1 (fun HT_ HW_=>?_)
 generalize w10.drew=w11 at BK596 BK597 HB hHeld ⊢
 refine puA (i:=0) (N:=some 7) #[Y,Z,Z,Z,Z,Z,Z,Z,Z,Z,Z,Z,Z,Z,Z,Z] rfl rfl HT_ ?_
 refine puA (i:=2) (N:=some 9) #[Y,Z,Y,Z,Z,Z,Z,Z,Z,Z,Z,Z,Z,Z,Z,Z] rfl rfl HT_ ?_
 refine puA (i:=4) (N:=some 11) #[Y,Z,Y,Z,Y,Z,Z,Z,Z,Z,Z,Z,Z,Z,Z,Z] rfl rfl HT_ ?_
 refine puA (i:=5) (N:=some 12) #[Y,Z,Y,Z,Y,Y,Z,Z,Z,Z,Z,Z,Z,Z,Z,Z] rfl rfl HT_ ?_
 refine puA (i:=8) (N:=some 15) #[Y,Z,Y,Z,Y,Y,Z,Z,Y,Z,Z,Z,Z,Z,Z,Z] rfl rfl HT_ ?_
 refine taA (i:=1) (N:=some 8) #[Y,Y,Y,Z,Y,Y,Z,Z,Y,Z,Z,Z,Z,Z,Z,Z] rfl rfl HT_ HW_ hHeld ?_
 refine taA (i:=3) (N:=some 10) #[Y,Y,Y,Y,Y,Y,Z,Z,Y,Z,Z,Z,Z,Z,Z,Z] rfl rfl HT_ HW_ hHeld ?_
 refine taA (i:=6) (N:=some 13) #[Y,Y,Y,Y,Y,Y,Y,Z,Y,Z,Z,Z,Z,Z,Z,Z] rfl rfl HT_ HW_ hHeld ?_
 refine taA (i:=9) (N:=some 16) #[Y,Y,Y,Y,Y,Y,Y,Z,Y,Y,Z,Z,Z,Z,Z,Z] rfl rfl HT_ HW_ hHeld ?_
 refine one_ (i:=7) (N:=some 14) #[Y,Y,Y,Y,Y,Y,Y,Y,Y,Y,Z,Z,Z,Z,Z,Z] rfl rfl (one_of HT_.out (by kernel_rfl)) (by decide) (fun K hK=>?_)
 refine goC Try.func90 (impl_mark.calls (w:=_) (h:=A4.out)) ?_
 intro w12 hb
 replace BK596:=kB BK596 hb
 replace BK597:=kB BK597 hb
 replace HB:=lB hb
 (try clear hb)
 (try clear hb2)
 (try clear hk)
 (try clear hi)
 refine hK.out _ _ ⟨cA BK596 0,cA BK596 1,cA BK596 2,cA BK597 0,cA BK597 1,cA BK597 2⟩ (fun hHeld=>?_)
 clear hK K
 refine nmA ?_
 refine one_ (i:=10) (N:=some 17) #[Y,Y,Y,Y,Y,Y,Y,Y,Y,Y,Y,Z,Z,Z,Z,Z] rfl rfl (one_of HT_.out (by kernel_rfl)) (by decide) (fun K hK=>?_)
 refine goC Try.func90 (impl_mark.calls (w:=_) (h:=A5.out)) ?_
 intro w13 hb
 replace BK596:=kB BK596 hb
 replace BK597:=kB BK597 hb
 replace HB:=lB hb
 (try clear hb)
 (try clear hb2)
 (try clear hk)
 (try clear hi)
 refine hK.out _ _ ⟨cA BK596 0,cA BK596 1,cA BK596 2,cA BK597 0,cA BK597 1,cA BK597 2⟩ (fun hHeld=>?_)
 clear hK K
 refine nmA ?_
 refine puA (i:=11) (N:=some 18) #[Y,Y,Y,Y,Y,Y,Y,Y,Y,Y,Y,Y,Z,Z,Z,Z] rfl rfl HT_ ?_
 refine one_ (i:=12) (N:=some 19) #[Y,Y,Y,Y,Y,Y,Y,Y,Y,Y,Y,Y,Y,Z,Z,Z] rfl rfl (one_of HT_.out (by kernel_rfl)) (by decide) (fun K hK=>?_)
 refine goC Try.func91 (impl_valuation.calls (w:=_) (h:=A6.out)) ?_
 rintro _ ⟨nd,rfl⟩
 refine hK.out _ _ ⟨cA BK596 0,cA BK596 1,cA BK596 2,cA BK597 0,cA BK597 1,cA BK597 2⟩ (fun hHeld=>?_)
 clear hK K
 refine nmA ?_
 refine puA (i:=13) (N:=some 20) #[Y,Y,Y,Y,Y,Y,Y,Y,Y,Y,Y,Y,Y,Y,Z,Z] rfl rfl HT_ ?_
 refine puA (i:=14) (N:=some 21) #[Y,Y,Y,Y,Y,Y,Y,Y,Y,Y,Y,Y,Y,Y,Y,Z] rfl rfl HT_ ?_
 refine puA (i:=15) (N:=some 6) #[Y,Y,Y,Y,Y,Y,Y,Y,Y,Y,Y,Y,Y,Y,Y,Y] rfl rfl HT_ ?_
 refine done_ (done_of HT_.out (by kernel_rfl)) ?_
 try go_wp2
 go_ret
 exact ⟨by first|rfl|(simp [errW_none,errW_some] <;> rfl)|(simp only [← hji7,← hji8];first|rfl|(simp [errW_none,errW_some] <;> rfl))|(simp [*,errW_none,errW_some] <;> rfl),blA⟩
def spec_l01Spoil.f (k:Nat) (s0_0:List Int) (s0_1 s0_2:Int):Option (Int × Int × Int × Int × Int × Int):=(spec_l01DrawPrime.f s0_0 s0_1 s0_2).bind fun bt248=>((spec_l01Draw.f k s0_0 bt248.2.1 bt248.2.2 bt248.1).bind fun bt251=>((spec_l01Bad.f s0_0 bt251.2.2.2.1 bt251.2.2.2.2 bt251.1 bt251.2.1 bt251.2.2.1).bind fun bt256=>((spec_l01Next.f s0_0 bt256.2.2.2.1 bt256.2.2.2.2 40).bind fun bt262=>(if bt262.1=0 then ((spec_l01Pick.f s0_0 bt262.2.1 bt262.2.2 (([0,1,4,11,(-3)]:List Int))).bind fun bt268=>(some (bt268.1,bt256.1,bt256.2.1,bt256.2.2.1,bt268.2.1,bt268.2.2))) else (some (bt248.1,bt256.1,bt256.2.1,bt256.2.2.1,bt262.2.1,bt262.2.2))))))
theorem spec_l01Spoil.mono:∀ a0 a1 a2 k,LeO (spec_l01Spoil.f k a0 a1 a2) (spec_l01Spoil.f (k+1) a0 a1 a2):=by
 intro a0 a1 a2 k
 unfold spec_l01Spoil.f
 repeat' first
   | with_reducible first|exact spec_l01Draw.mono ..|exact LeO.refl _|exact LeO.none _|refine LeO.ite ?_ ?_|refine LeO.bind ?_ fun _=>?_
set_option maxHeartbeats 8000000 in
set_option maxRecDepth 100000 in
theorem spec_l01Spoil.calls (k g:Nat) (s0_0:List Int) (s0_1 s0_2 r1 r2 r3 r4 r5 r6:Int) (w0 w:World) (hI:IsS116 w0 w g s0_0 s0_1 s0_2) (hB:Below w0.heap.size w0 w) (h:spec_l01Spoil.f k s0_0 s0_1 s0_2=some (r1,r2,r3,r4,r5,r6)) :
  Calls Try.prog 87 #[.pointer (some ⟨g,0,none⟩)] w fun e w'=>e=.returned (.tuple #[.int .i64 r1,.agg #[.int .i64 r2,.int .i64 r3,.int .i64 r4]])∧IsS116 w0 w' g s0_0 r5 r6∧Below w0.heap.size w0 w'∧KeepBut w w' g none:=by
 have hu28:=Try.underlying28
 have HI0:=Aside0.mk hI
 have HK:=Aside0.mk (KeepBut.refl w g none)
 have HL:=Aside0.mk hB.size
 clear hI
 have HW0:=Aside0.mk hB.size
 have HB:=Aside0.mk hB
 clear hB
 have H:=h
 unfold spec_l01Spoil.f at H
 clear h
 replace H:=bS H
 obtain ⟨⟨t248,t249,t250⟩,A2,H⟩:=H
 try dsimp only at H
 replace H:=bS H
 obtain ⟨⟨t251,t252,t253,t254,t255⟩,A3,H⟩:=H
 try dsimp only at H
 replace H:=bS H
 obtain ⟨⟨t256,t257,t258,t259,t260⟩,A4,H⟩:=H
 try dsimp only at H
 replace H:=bS H
 obtain ⟨⟨t262,t263,t264⟩,A5,H⟩:=H
 try dsimp only at H
 by_cases c6:t262=0
 ·
  rw [if_pos c6] at H
  have c6b0:(t262 == 0)=true:=beq_iff_eq.mpr c6
  have c6b1:(t262 != 0)=false:=bne_eq_false_iff_eq.mpr c6
  clear c6
  obtain ⟨y265,hy265⟩:∃ y_:List Int,y_=(([0,1,4,11,(-3)]:List Int)):=⟨_,rfl⟩
  replace H:((spec_l01Pick.f s0_0 t263 t264 y265).bind fun bt268=>(some (bt268.1,t256,t257,t258,bt268.2.1,bt268.2.2)))=some (r1,r2,r3,r4,r5,r6):=rH hy265 H
  have Ny265:=Aside0.mk hy265
  clear hy265
  replace H:=bS H
  obtain ⟨⟨t268,t269,t270⟩,A7,H⟩:=H
  try dsimp only at H
  simp only [Option.some.injEq,Prod.mk.injEq] at H
  obtain ⟨rfl,rfl,rfl,rfl,rfl,rfl⟩:=H
  go_enter Try.func87,Try.ntmps87
  try go_wp2_with (first|((with_reducible refine gate_dst (N:=3) rfl ?_);refine bxE (cs:=#[.int .i64 0,.int .i64 0,.int .i64 0]) (t:=28) ?_;intro gb247 hg w8 hbox hb;have n0_:=Aside0.mk (IsS116.below (iA HI0) hb);have n1_:=kbA HK hb;have n2_:=lI hb;have n3_:=Aside0.mk hbox;have n4_:=kzA HK hg;have n5_:=Aside0.mk (Nat.le_trans HW0.out (kzA HK hg).out);have n6_:=inA hg (IsS116.lt (iA HI0));have n7_:=inB hg (IsS116.lt (iA HI0));clear HI0;clear HK;clear HB;have HI0:=n0_;have HK:=n1_;have HB:=n2_;have BK247:=n3_;have GW247:=n4_;have GE247:=n5_;have NB0_247:=n6_;have NB247_0:=n7_;clear n0_ n1_ n2_ n3_ n4_ n5_ n6_ n7_;clear hb hbox hg)|((with_reducible refine gd 7 rfl ?_);refine gC (some 7) rfl Try.func118 (spec_l01DrawPrime.calls (w:=_) (g:=g) (w0:=w0) (hI:=iA HI0) (hB:=blI) (h:=A2.out)) ?_;rintro w9 ⟨hi,hb,hk⟩;have n0_:=kbk hk BK247 NB247_0;have n1_:=kkA HK hk;have n2_:=Aside0.mk hb;have n3_:=Aside0.mk hi;clear BK247;clear HK;clear HB;clear HI0;have BK247:=n0_;have HK:=n1_;have HB:=n2_;have HI0:=n3_;clear n0_ n1_ n2_ n3_;clear hi hb hk)|((with_reducible refine gd 11 rfl ?_);refine gC (some 11) rfl Try.func120 (spec_l01Draw.calls (w:=_) (g:=g) (w0:=w0) (hI:=iA HI0) (hB:=blI) (h:=A3.out)) ?_;rintro w10 ⟨hi,hb,hk⟩;have n0_:=kbk hk BK247 NB247_0;have n1_:=kkA HK hk;have n2_:=Aside0.mk hb;have n3_:=Aside0.mk hi;clear BK247;clear HK;clear HB;clear HI0;have BK247:=n0_;have HK:=n1_;have HB:=n2_;have HI0:=n3_;clear n0_ n1_ n2_ n3_;clear hi hb hk)|((with_reducible refine gd 12 rfl ?_);refine gC (some 12) rfl Try.func119 (spec_l01Bad.calls (w:=_) (g:=g) (w0:=w0) (hI:=iA HI0) (hB:=blI) (h:=A4.out)) ?_;rintro w11 ⟨hi,hb,hk⟩;have n0_:=kbk hk BK247 NB247_0;have n1_:=kkA HK hk;have n2_:=Aside0.mk hb;have n3_:=Aside0.mk hi;clear BK247;clear HK;clear HB;clear HI0;have BK247:=n0_;have HK:=n1_;have HB:=n2_;have HI0:=n3_;clear n0_ n1_ n2_ n3_;clear hi hb hk)|((with_reducible refine gate_dst (N:=5) rfl ?_);refine bxE (cs:=#[.int .i64 0,.int .i64 0,.int .i64 0]) (t:=28) ?_;intro gb261 hg w12 hbox hb;have n0_:=Aside0.mk (IsS116.below (iA HI0) hb);have n1_:=kB BK247 hb;have n2_:=kbA HK hb;have n3_:=lI hb;have n4_:=Aside0.mk hbox;have n5_:=kzA HK hg;have n6_:=Aside0.mk (Nat.le_trans HW0.out (kzA HK hg).out);have n7_:=nA hg BK247;have n8_:=nB hg BK247;have n9_:=inA hg (IsS116.lt (iA HI0));have n10_:=inB hg (IsS116.lt (iA HI0));clear HI0;clear BK247;clear HK;clear HB;have HI0:=n0_;have BK247:=n1_;have HK:=n2_;have HB:=n3_;have BK261:=n4_;have GW261:=n5_;have GE261:=n6_;have NB247_261:=n7_;have NB261_247:=n8_;have NB0_261:=n9_;have NB261_0:=n10_;clear n0_ n1_ n2_ n3_ n4_ n5_ n6_ n7_ n8_ n9_ n10_;clear hb hbox hg;have hnb13:=NB261_247.out;have hnc13:=NB247_261.out;have hnb14:=NB261_0.out;have hnc14:=NB0_261.out;obtain ⟨hcz15_0,hcz15_1,hcz15_2,hfz15_0,hfz15_1,hfz15_2⟩:=cz3 BK261)|((with_reducible refine gd 14 rfl ?_);refine gC (some 14) rfl Try.func82 (spec_l01Next.calls (w:=_) (g:=g) (w0:=w0) (hI:=iA HI0) (hB:=blI) (h:=A5.out)) ?_;rintro w16 ⟨hi,hb,hk⟩;have n0_:=Aside0.mk (KeepBut.blk hk (g':=gb247) (o:=.cells #[.int .i64 0,.int .i64 0,.int .i64 0] 28 (0,0)) (bkF BK247) NB247_0.out (by simp));have n1_:=Aside0.mk (KeepBut.blk hk (g':=gb261) (o:=.cells #[.int .i64 t256,.int .i64 t257,.int .i64 t258] 28 (0,0)) (bpA BK261) NB261_0.out (by simp));have n2_:=kkA HK hk;have n3_:=Aside0.mk hb;have n4_:=Aside0.mk hi;clear BK247;clear BK261;clear HK;clear HB;clear HI0;have BK247:=n0_;have BK261:=n1_;have HK:=n2_;have HB:=n3_;have HI0:=n4_;clear n0_ n1_ n2_ n3_ n4_;clear hi hb hk)|((with_reducible refine gate_dst (N:=17) rfl ?_);refine Kd.R_lit (Kd.int .i64) _ 2 ?hg (N:=17) ?hd (xs:=([0,1,4,11,(-3)]:List Int)) (inner:=[.int .i64 0,.int .i64 1,.int .i64 4,.int .i64 11,.int .i64 (-3)]) (ok:=fun _=>True) (okp:=fun _=>True) ?hr ?hp (fun _ hk=>hk) trivial (Below.refl _ _) (Nat.le_refl _) (by simp) ?_;(case hd=>rfl);(case hg=>rfl);(case hr=>first|(go_simp;done)|(go_simp;rfl));(case hp=>exact (Reps.one (show Kd.M (Kd.int .i64) _ _ _ 0 [.int .i64 0] from rfl) (Reps.one (show Kd.M (Kd.int .i64) _ _ _ 1 [.int .i64 1] from rfl) (Reps.one (show Kd.M (Kd.int .i64) _ _ _ 4 [.int .i64 4] from rfl) (Reps.one (show Kd.M (Kd.int .i64) _ _ _ 11 [.int .i64 11] from rfl) (Reps.one (show Kd.M (Kd.int .i64) _ _ _ (-3) [.int .i64 (-3)] from rfl) (Reps.none _ _)))))));intro v266 w17 ho18 hb hg_ hnew_;clear hg_ hnew_;(first|rw [← Ny265.out] at ho18|(simp only [Int.reduceToNat] at ho18;rw [← Ny265.out] at ho18));have n0_:=Aside0.mk (Kd.R_lower ho18 (keep_size (w:=w) (g:=g) (row:=none) kpA));have n1_:=Aside0.mk (IsS116.below (iA HI0) hb);have n2_:=kB BK247 hb;have n3_:=kB BK261 hb;have n4_:=kbA HK hb;have n5_:=lI hb;clear HI0;clear BK247;clear BK261;clear HK;clear HB;have HO267:=n0_;have HI0:=n1_;have BK247:=n2_;have BK261:=n3_;have HK:=n4_;have HB:=n5_;clear n0_ n1_ n2_ n3_ n4_ n5_;clear hb ho18;obtain ⟨Ao19,co19,eo19⟩:=Kd.R_slice HO267.out;subst eo19)|((with_reducible refine gd 18 rfl ?_);refine gC (some 18) rfl Try.func81 (spec_l01Pick.calls (w:=_) (g:=g) (w0:=w0) (hI:=iA HI0) (hB:=blI) (hr1:=cR (Kd.R_reads' HO267.out).2.2) (hc1:=(Kd.R_reads' HO267.out).2.1) (hf1:=far_slice (IsS116.own_ne HI0.out HO267.out (by decide))) (h:=A7.out)) ?_;rintro w20 ⟨hi,hb,hk⟩;have n0_:=kbk hk BK247 NB247_0;have n1_:=kbk hk BK261 NB261_0;have n2_:=Aside0.mk (Kd.R_mono (Kd.R_keep (IsS116.apart (show IsS116 w0 _ g s0_0 t263 t264 from iA HI0) (rA HO267) (by decide)) hk (fun _ h=>h.2)) (fun _ h=>h.1));have n3_:=kkA HK hk;have n4_:=Aside0.mk hb;have n5_:=Aside0.mk hi;clear BK247;clear BK261;clear HO267;clear HK;clear HB;clear HI0;have BK247:=n0_;have BK261:=n1_;have HO267:=n2_;have HK:=n3_;have HB:=n4_;have HI0:=n5_;clear n0_ n1_ n2_ n3_ n4_ n5_;clear hi hb hk))
  have n0_:=Aside0.mk (Kd.R_drew HO267.out)
  have n1_:=Aside0.mk (blk_drew BK247.out)
  have n2_:=Aside0.mk (blk_drew BK261.out)
  have n3_:=Aside0.mk (IsS116.drew HI0.out)
  have n4_:=Aside0.mk (keep_drew HK.out)
  have n5_:=Aside0.mk (below_drew1 HB.out)
  clear HO267
  clear BK247
  clear BK261
  clear HI0
  clear HK
  clear HB
  have HO267:=n0_
  have BK247:=n1_
  have BK261:=n2_
  have HI0:=n3_
  have HK:=n4_
  have HB:=n5_
  clear n0_ n1_ n2_ n3_ n4_ n5_
  refine start_ (n:=4) (S:=fun w'=>w'.cell? ⟨gb261,0,none⟩=some (.int .i64 t256)∧w'.cell? ⟨gb261,1,none⟩=some (.int .i64 t257)∧w'.cell? ⟨gb261,2,none⟩=some (.int .i64 t258)) (ds:=[]) #[Z,Z,Z,Z] (by kernel_rfl) rfl rfl ⟨cA BK261 0,cA BK261 1,cA BK261 2⟩ (fun hHeld=>?_)
  generalize w20.drew=w21 at HO267 BK247 BK261 HI0 HK HB hHeld ⊢
  refine pure_ (i:=0) (N:=some 19) (v:=?_) (a':=?_) #[Y,Z,Z,Z] rfl rfl (by kernel_rfl) (fun _ _ _ h=>h) (Or.inl ⟨by rfl,?_⟩) ?_ ?_
  rotate_left
  ·
   intro w'
   go_simp
   with_reducible rfl
  rotate_left
  ·
   simp only [pA]
   rfl
  refine pure_ (i:=2) (N:=some 2) (v:=?_) (a':=?_) #[Y,Z,Y,Z] rfl rfl (by kernel_rfl) (fun _ _ _ h=>h) (Or.inl ⟨by rfl,?_⟩) ?_ ?_
  rotate_left
  ·
   intro w'
   go_simp
   with_reducible rfl
  rotate_left
  ·
   simp only [pA]
   rfl
  refine take_ (i:=1) (N:=some 20) (v:=?_) (a':=?_) #[Y,Y,Y,Z] rfl rfl (by kernel_rfl) (fun _ _ _ h=>h) (Or.inl ⟨by rfl,?_⟩) hHeld ?_ ?_
  rotate_left
  ·
   rintro w' ⟨s0,s1,s2⟩
   go_simp
   with_reducible rfl
  rotate_left
  ·
   simp only [pA]
   rfl
  refine one_ (i:=3) (N:=none) #[Y,Y,Y,Y] rfl rfl (by kernel_rfl) (by decide) (fun K hK=>?_)
  have hs22:w21.cell? ⟨gb247,0,none⟩=some (.int .i64 0):=cA BK247 0
  have hfs22:=blk_frozen BK247.out 0
  have hns22_1:=NB261_247.out
  have hms22_1:=NB247_261.out
  have hs23:w21.cell? ⟨gb247,1,none⟩=some (.int .i64 0):=cA BK247 1
  have hfs23:=blk_frozen BK247.out 1
  have hns23_1:=NB261_247.out
  have hms23_1:=NB247_261.out
  have hs24:w21.cell? ⟨gb247,2,none⟩=some (.int .i64 0):=cA BK247 2
  have hfs24:=blk_frozen BK247.out 2
  have hns24_1:=NB261_247.out
  have hms24_1:=NB247_261.out
  refine skip_ (w1:=?_) (by rfl) rfl ?_ ?_
  rotate_left
  ·
   go_simp
   rfl
  refine hK.out _ _ ⟨cfA hHeld.1,cfA hHeld.2.1,cfA hHeld.2.2⟩ (fun hHeld=>?_)
  clear hK K
  refine done_ (by kernel_rfl) ?_
  try go_wp2
  refine bodyPost_ret (results_tc rfl _ _ gb247 28 #[.int .i64 t256,.int .i64 t257,.int .i64 t258] (0,0) _ rfl (bpA BK247) Try.underlying28 rfl (by kernel_rfl)) rfl ?_
  exact ⟨eW,iA HI0,blI,kpA⟩
 ·
  rw [if_neg c6] at H
  have c6b0:(t262 == 0)=false:=beq_eq_false_iff_ne.mpr c6
  have c6b1:(t262 != 0)=true:=bne_iff_ne.mpr c6
  simp only [Option.some.injEq,Prod.mk.injEq] at H
  obtain ⟨rfl,rfl,rfl,rfl,rfl,rfl⟩:=H
  go_enter Try.func87,Try.ntmps87
  try go_wp2_with (first|((with_reducible refine gate_dst (N:=3) rfl ?_);refine bxE (cs:=#[.int .i64 0,.int .i64 0,.int .i64 0]) (t:=28) ?_;intro gb247 hg w25 hbox hb;have n0_:=Aside0.mk (IsS116.below (iA HI0) hb);have n1_:=kbA HK hb;have n2_:=lI hb;have n3_:=Aside0.mk hbox;have n4_:=kzA HK hg;have n5_:=Aside0.mk (Nat.le_trans HW0.out (kzA HK hg).out);have n6_:=inA hg (IsS116.lt (iA HI0));have n7_:=inB hg (IsS116.lt (iA HI0));clear HI0;clear HK;clear HB;have HI0:=n0_;have HK:=n1_;have HB:=n2_;have BK247:=n3_;have GW247:=n4_;have GE247:=n5_;have NB0_247:=n6_;have NB247_0:=n7_;clear n0_ n1_ n2_ n3_ n4_ n5_ n6_ n7_;clear hb hbox hg)|((with_reducible refine gd 7 rfl ?_);refine gC (some 7) rfl Try.func118 (spec_l01DrawPrime.calls (w:=_) (g:=g) (w0:=w0) (hI:=iA HI0) (hB:=blI) (h:=A2.out)) ?_;rintro w26 ⟨hi,hb,hk⟩;have n0_:=kbk hk BK247 NB247_0;have n1_:=kkA HK hk;have n2_:=Aside0.mk hb;have n3_:=Aside0.mk hi;clear BK247;clear HK;clear HB;clear HI0;have BK247:=n0_;have HK:=n1_;have HB:=n2_;have HI0:=n3_;clear n0_ n1_ n2_ n3_;clear hi hb hk)|((with_reducible refine gd 11 rfl ?_);refine gC (some 11) rfl Try.func120 (spec_l01Draw.calls (w:=_) (g:=g) (w0:=w0) (hI:=iA HI0) (hB:=blI) (h:=A3.out)) ?_;rintro w27 ⟨hi,hb,hk⟩;have n0_:=kbk hk BK247 NB247_0;have n1_:=kkA HK hk;have n2_:=Aside0.mk hb;have n3_:=Aside0.mk hi;clear BK247;clear HK;clear HB;clear HI0;have BK247:=n0_;have HK:=n1_;have HB:=n2_;have HI0:=n3_;clear n0_ n1_ n2_ n3_;clear hi hb hk)|((with_reducible refine gd 12 rfl ?_);refine gC (some 12) rfl Try.func119 (spec_l01Bad.calls (w:=_) (g:=g) (w0:=w0) (hI:=iA HI0) (hB:=blI) (h:=A4.out)) ?_;rintro w28 ⟨hi,hb,hk⟩;have n0_:=kbk hk BK247 NB247_0;have n1_:=kkA HK hk;have n2_:=Aside0.mk hb;have n3_:=Aside0.mk hi;clear BK247;clear HK;clear HB;clear HI0;have BK247:=n0_;have HK:=n1_;have HB:=n2_;have HI0:=n3_;clear n0_ n1_ n2_ n3_;clear hi hb hk)|((with_reducible refine gate_dst (N:=5) rfl ?_);refine bxE (cs:=#[.int .i64 0,.int .i64 0,.int .i64 0]) (t:=28) ?_;intro gb261 hg w29 hbox hb;have n0_:=Aside0.mk (IsS116.below (iA HI0) hb);have n1_:=kB BK247 hb;have n2_:=kbA HK hb;have n3_:=lI hb;have n4_:=Aside0.mk hbox;have n5_:=kzA HK hg;have n6_:=Aside0.mk (Nat.le_trans HW0.out (kzA HK hg).out);have n7_:=nA hg BK247;have n8_:=nB hg BK247;have n9_:=inA hg (IsS116.lt (iA HI0));have n10_:=inB hg (IsS116.lt (iA HI0));clear HI0;clear BK247;clear HK;clear HB;have HI0:=n0_;have BK247:=n1_;have HK:=n2_;have HB:=n3_;have BK261:=n4_;have GW261:=n5_;have GE261:=n6_;have NB247_261:=n7_;have NB261_247:=n8_;have NB0_261:=n9_;have NB261_0:=n10_;clear n0_ n1_ n2_ n3_ n4_ n5_ n6_ n7_ n8_ n9_ n10_;clear hb hbox hg;have hnb30:=NB261_247.out;have hnc30:=NB247_261.out;have hnb31:=NB261_0.out;have hnc31:=NB0_261.out;obtain ⟨hcz32_0,hcz32_1,hcz32_2,hfz32_0,hfz32_1,hfz32_2⟩:=cz3 BK261)|((with_reducible refine gd 14 rfl ?_);refine gC (some 14) rfl Try.func82 (spec_l01Next.calls (w:=_) (g:=g) (w0:=w0) (hI:=iA HI0) (hB:=blI) (h:=A5.out)) ?_;rintro w33 ⟨hi,hb,hk⟩;have n0_:=Aside0.mk (KeepBut.blk hk (g':=gb247) (o:=.cells #[.int .i64 0,.int .i64 0,.int .i64 0] 28 (0,0)) (bkF BK247) NB247_0.out (by simp));have n1_:=Aside0.mk (KeepBut.blk hk (g':=gb261) (o:=.cells #[.int .i64 t256,.int .i64 t257,.int .i64 t258] 28 (0,0)) (bpA BK261) NB261_0.out (by simp));have n2_:=kkA HK hk;have n3_:=Aside0.mk hb;have n4_:=Aside0.mk hi;clear BK247;clear BK261;clear HK;clear HB;clear HI0;have BK247:=n0_;have BK261:=n1_;have HK:=n2_;have HB:=n3_;have HI0:=n4_;clear n0_ n1_ n2_ n3_ n4_;clear hi hb hk))
  have n0_:=Aside0.mk (blk_drew BK247.out)
  have n1_:=Aside0.mk (blk_drew BK261.out)
  have n2_:=Aside0.mk (IsS116.drew HI0.out)
  have n3_:=Aside0.mk (keep_drew HK.out)
  have n4_:=Aside0.mk (below_drew1 HB.out)
  clear BK247
  clear BK261
  clear HI0
  clear HK
  clear HB
  have BK247:=n0_
  have BK261:=n1_
  have HI0:=n2_
  have HK:=n3_
  have HB:=n4_
  clear n0_ n1_ n2_ n3_ n4_
  refine start_ (n:=4) (S:=fun w'=>w'.cell? ⟨gb261,0,none⟩=some (.int .i64 t256)∧w'.cell? ⟨gb261,1,none⟩=some (.int .i64 t257)∧w'.cell? ⟨gb261,2,none⟩=some (.int .i64 t258)) (ds:=[]) #[Z,Z,Z,Z] (by kernel_rfl) rfl rfl ⟨cA BK261 0,cA BK261 1,cA BK261 2⟩ (fun hHeld=>?_)
  generalize w33.drew=w34 at BK247 BK261 HI0 HK HB hHeld ⊢
  refine pure_ (i:=0) (N:=some 19) (v:=?_) (a':=?_) #[Y,Z,Z,Z] rfl rfl (by kernel_rfl) (fun _ _ _ h=>h) (Or.inl ⟨by rfl,?_⟩) ?_ ?_
  rotate_left
  ·
   intro w'
   go_simp
   with_reducible rfl
  rotate_left
  ·
   simp only [pA]
   rfl
  refine pure_ (i:=2) (N:=some 2) (v:=?_) (a':=?_) #[Y,Z,Y,Z] rfl rfl (by kernel_rfl) (fun _ _ _ h=>h) (Or.inl ⟨by rfl,?_⟩) ?_ ?_
  rotate_left
  ·
   intro w'
   go_simp
   with_reducible rfl
  rotate_left
  ·
   simp only [pA]
   rfl
  refine take_ (i:=1) (N:=some 20) (v:=?_) (a':=?_) #[Y,Y,Y,Z] rfl rfl (by kernel_rfl) (fun _ _ _ h=>h) (Or.inl ⟨by rfl,?_⟩) hHeld ?_ ?_
  rotate_left
  ·
   rintro w' ⟨s0,s1,s2⟩
   go_simp
   with_reducible rfl
  rotate_left
  ·
   simp only [pA]
   rfl
  refine one_ (i:=3) (N:=none) #[Y,Y,Y,Y] rfl rfl (by kernel_rfl) (by decide) (fun K hK=>?_)
  have hs35:w34.cell? ⟨gb247,0,none⟩=some (.int .i64 0):=cA BK247 0
  have hfs35:=blk_frozen BK247.out 0
  have hns35_1:=NB261_247.out
  have hms35_1:=NB247_261.out
  have hs36:w34.cell? ⟨gb247,1,none⟩=some (.int .i64 0):=cA BK247 1
  have hfs36:=blk_frozen BK247.out 1
  have hns36_1:=NB261_247.out
  have hms36_1:=NB247_261.out
  have hs37:w34.cell? ⟨gb247,2,none⟩=some (.int .i64 0):=cA BK247 2
  have hfs37:=blk_frozen BK247.out 2
  have hns37_1:=NB261_247.out
  have hms37_1:=NB247_261.out
  refine skip_ (w1:=?_) (by rfl) rfl ?_ ?_
  rotate_left
  ·
   go_simp
   rfl
  refine hK.out _ _ ⟨cfA hHeld.1,cfA hHeld.2.1,cfA hHeld.2.2⟩ (fun hHeld=>?_)
  clear hK K
  refine done_ (by kernel_rfl) ?_
  try go_wp2
  refine bodyPost_ret (results_tc rfl _ _ gb247 28 #[.int .i64 t256,.int .i64 t257,.int .i64 t258] (0,0) _ rfl (bpA BK247) Try.underlying28 rfl (by kernel_rfl)) rfl ?_
  exact ⟨eW,iA HI0,blI,kpA⟩
end Go.Proofs.Ytlpmefmaplhfdaa.PAll
