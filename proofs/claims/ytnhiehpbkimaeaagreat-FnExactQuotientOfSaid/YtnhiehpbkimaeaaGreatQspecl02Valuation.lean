import Derived.Test.YtnhiehpbkimaeaaGreatQx
import Derived.Sort.LotA
import Derived.Sort.Row
import Derived.Test.YtnhiehpbkimaeaaGreatQcmpisNaNint64
namespace Go.Proofs.YtnhiehpbkimaeaaGreat.PAll
open Go.RowKit Go.Proofs.YtnhiehpbkimaeaaGreatW.PrintWords Go.Proofs.YtnhiehpbkimaeaaGreatW.PrintLast Go.Proofs.YtnhiehpbkimaeaaGreatW.PrintMore
attribute [local go_sem] Go.Proofs.YtnhiehpbkimaeaaGreat.Aux.setCell_drewN Go.Proofs.YtnhiehpbkimaeaaGreat.Aux.isSome_setCell cC b9 cQ cP bm bl cB b8
set_option linter.unusedVariables false
set_option linter.unusedSimpArgs false
def aj.l0:Nat→List Int→List Int→Int→Int→Option (Bool)
 | 0,_,_,_,_=>none
 | k+1,x0,x1,x12,x13=>if x13<x12 then (if 0≤x13 then (if x13<(x0.length:Int) then (if x13<(x1.length:Int) then (if (rd x0 x13)=(rd x1 x13) then (aj.l0 k x0 x1 x12 (wrap64 (x13+1))) else (some false)) else (none)) else (none)) else (none)) else (some true)
def aj.f (k:Nat) (l0 l1:List Int):Option (Bool):=if (l0.length:Int)=(l1.length:Int) then (aj.l0 k l0 l1 (l0.length:Int) 0) else (some false)
set_option maxHeartbeats 8000000 in
set_option maxRecDepth 100000 in
theorem aj.calls (k:Nat) (A0:Option Addr) (c0:Nat) (l0:List Int) (A1:Option Addr) (c1:Nat) (l1:List Int) (r:Bool) (w:World) (hr0:Kd.C (Kd.int .i64) w A0 l0.length l0) (hc0:l0.length≤c0) (hr1:Kd.C (Kd.int .i64) w A1 l1.length l1) (hc1:l1.length≤c1) (h:aj.f k l0 l1=some r) :
  Calls Tryz.prog 39 #[.slice A0 l0.length c0,.slice A1 l1.length c1] w fun e w'=>e=.returned (.bool r)∧aI w w':=by
 have HR0:=aA.mk hr0
 have HC0:=aA.mk hc0
 clear hr0 hc0
 have HR1:=aA.mk hr1
 have HC1:=aA.mk hc1
 clear hr1 hc1
 have H:=h
 unfold aj.f at H
 clear h
 by_cases c3:(l0.length:Int)=(l1.length:Int)
 focus
  rw [if_pos c3] at H
  have c3b0:((l0.length:Int) == (l1.length:Int))=true:=beq_iff_eq.mpr c3
  have c3b1:((l0.length:Int) != (l1.length:Int))=false:=bne_eq_false_iff_eq.mpr c3
  have c3b2:(l0.length == l1.length)=true:=by first|simpa using c3|(simp at c3 ⊢;omega)
  clear c3
  have H':=aA.mk H
  clear H
 rotate_left
 focus
  rw [if_neg c3] at H
  have c3b0:((l0.length:Int) == (l1.length:Int))=false:=beq_eq_false_iff_ne.mpr c3
  have c3b1:((l0.length:Int) != (l1.length:Int))=true:=bne_iff_ne.mpr c3
  have c3b2:(l0.length == l1.length)=false:=by first|simpa using c3|(simp at c3 ⊢;omega)
  obtain rfl:=Option.some.inj H
 rotate_left
 all_goals
  go_enter Tryz.func39,Tryz.ntmps39
  go_wp2
  repeat (go_quiet (fail);try go_wp2)
 ·
  go_loopg [13] k (fun kq v13 w'=>∃ (x13_1:Int),v13=.int .i64 x13_1∧aA (aj.l0 kq l0 l1 (l0.length:Int) x13_1=some r)∧aA (kq≤k)∧aI w w')
  case atStart=>exact ⟨(0),hB,H',⟨Nat.le_refl _⟩,by repeat (first|exact aI.refl _|apply aI.step)⟩
  case round=>
   clear H'
   try clear c1
   try clear c3
   try clear c3b0
   try clear c3b1
   try clear c3b2
   obtain ⟨x13_1,rfl,HA,HK1,⟨m1,rfl⟩⟩:=hrel
   cases gk with
   | zero=>exact absurd HA.out (by simp [aj.l0])
   | succ k1=>
    have H:=HA.out
    clear HA
    simp only [aj.l0] at H
    by_cases c4:x13_1<(l0.length:Int)
    ·
     rw [if_pos c4] at H
     have c4b0:=decide_eq_true c4
     clear c4
     by_cases c5:0≤x13_1
     rotate_left
     ·
      rw [if_neg c5] at H
      exact absurd H (by simp)
     rw [if_pos c5] at H
     have c5b0:=decide_eq_true c5
     clear c5
     by_cases c6:x13_1<(l0.length:Int)
     rotate_left
     ·
      rw [if_neg c6] at H
      exact absurd H (by simp)
     rw [if_pos c6] at H
     have c6b0:=decide_eq_true c6
     clear c6
     by_cases c7:x13_1<(l1.length:Int)
     rotate_left
     ·
      rw [if_neg c7] at H
      exact absurd H (by simp)
     rw [if_pos c7] at H
     have c7b0:=decide_eq_true c7
     clear c7
     by_cases c8:(rd l0 x13_1)=(rd l1 x13_1)
     ·
      rw [if_pos c8] at H
      have c8b0:((rd l0 x13_1) == (rd l1 x13_1))=true:=beq_iff_eq.mpr c8
      have c8b1:((rd l0 x13_1) != (rd l1 x13_1))=false:=bne_eq_false_iff_eq.mpr c8
      clear c8
      have H':=aA.mk H
      clear H
      have p549:0≤(x13_1:Int):=dA
      have q549:x13_1<(l0.length:Int):=dA
      obtain ⟨ad549,e549,hx549_0⟩:=Kd.at_int HR0.out x13_1 p549 q549
      cases e549
      replace p549:=eq_true p549
      replace q549:=eq_true q549
      have p550:0≤(x13_1:Int):=dA
      have q550:x13_1<(l1.length:Int):=dA
      obtain ⟨ad550,e550,hx550_0⟩:=Kd.at_int HR1.out x13_1 p550 q550
      cases e550
      replace p550:=eq_true p550
      replace q550:=eq_true q550
      go_wp2
      repeat (go_quiet (fail);try go_wp2)
      go_roundg k1
      case measure=>have:=HK1.out;omega
      case rel=>exact ⟨(wrap64 (x13_1+1)),hB,H',⟨by have:=HK1.out;omega⟩,by repeat (first|exact aI.refl _|apply aI.step)⟩
     ·
      rw [if_neg c8] at H
      have c8b0:((rd l0 x13_1) == (rd l1 x13_1))=false:=beq_eq_false_iff_ne.mpr c8
      have c8b1:((rd l0 x13_1) != (rd l1 x13_1))=true:=bne_iff_ne.mpr c8
      obtain rfl:=Option.some.inj H
      have p549:0≤(x13_1:Int):=dA
      have q549:x13_1<(l0.length:Int):=dA
      obtain ⟨ad549,e549,hx549_0⟩:=Kd.at_int HR0.out x13_1 p549 q549
      cases e549
      replace p549:=eq_true p549
      replace q549:=eq_true q549
      have p550:0≤(x13_1:Int):=dA
      have q550:x13_1<(l1.length:Int):=dA
      obtain ⟨ad550,e550,hx550_0⟩:=Kd.at_int HR1.out x13_1 p550 q550
      cases e550
      replace p550:=eq_true p550
      replace q550:=eq_true q550
      go_wp2
      repeat (go_quiet (fail);try go_wp2)
      go_ret
      exact ⟨by first|rfl|(simp;done)|(simp [*];done),by repeat (first|exact aI.refl _|apply aI.step)⟩
    ·
     rw [if_neg c4] at H
     have c4b0:=decide_eq_false c4
     clear c4
     obtain rfl:=Option.some.inj H
     go_wp2
     repeat (go_quiet (fail);try go_wp2)
     go_ret
     exact ⟨by first|rfl|(simp;done)|(simp [*];done),by repeat (first|exact aI.refl _|apply aI.step)⟩
 ·
  go_ret
  exact ⟨by first|rfl|(simp;done)|(simp [*];done),by repeat (first|exact aI.refl _|apply aI.step)⟩
theorem au.opened {W:World} {base:Nat} {ok:Nat→Prop} {v:Value} {xs:List (List Int)} (h:Kd.S (Kd.slice 2 (Kd.int .i64)) 50 W base ok v xs) (hp:0<xs.length) :
  ∃ (g cap:Nat) (f:Nat→Nat) (cs:List Value) (cur:Array Value),v=.slice (some ⟨g,0,none⟩) xs.length cap∧ok g∧base≤g∧W.heap[g]?=some (.cells cur 50 (0,0))∧xs.length≤cap∧cap≤maxLen∧cur.size=cap∧cur.toList.take xs.length=cs∧cs.length=xs.length∧∀ (j:Nat) (x:List Int) (c:Value),xs[j]?=some x→cs[j]?=some c→(Kd.int .i64).R 2 W base (fun k=>(ok k∧some k≠some g)∧f k=j) c x:=by
 obtain ⟨f,h0,inner,ho,hr⟩:=h
 rw [List.length_zipIdx] at ho
 obtain ⟨hl,ho⟩:=ho
 rcases ho with ⟨_,h2⟩|⟨g,cap,cur,rfl,hb,hh,hc,hm,hs,ht⟩
 ·
  omega
 ·
  refine ⟨g,cap,f,inner,cur,rfl,h0 g rfl,hb,hh,hc,hm,by rw [hs];exact Nat.mul_one _,by rw [← ht];congr 1;exact (Nat.mul_one _).symm,by rw [hl];exact Nat.mul_one _,fun j x c hx hcj=>?_⟩
  have h1:=hr.2 j (x,j) (Kd.zip_at hx)
  obtain ⟨u,hu,hR⟩:=h1
  have hin:(inner.drop (j*1)).take 1=[c]:=by
   rw [Nat.mul_one]
   obtain ⟨hj,rfl⟩:=List.getElem?_eq_some_iff.1 hcj
   rw [List.drop_eq_getElem_cons hj]
   rfl
  have hu':[c]=[u]:=hin.symm.trans hu
  injection hu' with hu' _
  subst hu'
  exact hR
theorem au.picked {W W':World} {base:Nat} {ok:Nat→Prop} {g cap:Nat} {f:Nat→Nat} {cs:List Value} {xs:List (List Int)} (hok:ok g) (hb:base≤g) (hcl:cs.length=xs.length)
  (hR:∀ (j:Nat) (x:List Int) (c:Value),xs[j]?=some x→cs[j]?=some c→(Kd.int .i64).R 2 W base (fun k=>(ok k∧some k≠some g)∧f k=j) c x) (hg:∀ k,k<W.heap.size→k≠g→W'.heap[k]?=W.heap[k]?)
  (L:List Nat) (hL:L.Nodup) (hLb:∀ i∈L,i<xs.length) {cur:Array Value} (hh:W'.heap[g]?=some (.cells cur 50 (0,0))) (hs:cur.size=cap) (hn:L.length≤cap) (hm:cap≤maxLen) (ht:cur.toList.take L.length=L.map (fun i=>cs.getD i (.slice none 0 0))) :
  Kd.S (Kd.slice 2 (Kd.int .i64)) 50 W' base ok (.slice (some ⟨g,0,none⟩) L.length cap) (L.map fun i=>xs.getD i []):=by
 refine ⟨fun k=>L.idxOf (f k),fun k hk=>?_,L.map (fun i=>cs.getD i (.slice none 0 0)),⟨?_,Or.inr ⟨g,cap,cur,?_,hb,hh,?_,hm,?_,?_⟩⟩,?_,fun j p hj=>?_⟩
 ·
  injection hk with hk;subst hk;exact hok
 ·
  simp [Kd.tag,Kd.slice]
 ·
  simp
 ·
  simpa using hn
 ·
  rw [hs];exact (Nat.mul_one _).symm
 ·
  rw [← ht];congr 1;simp [Kd.tag,Kd.slice]
 ·
  simp [Kd.tag,Kd.slice]
 ·
  obtain ⟨x,j'⟩:=p
  rw [List.getElem?_zipIdx] at hj
  obtain ⟨y,hy,e⟩:=Option.map_eq_some_iff.1 hj
  injection e with e1 e2
  rw [List.getElem?_map] at hy
  obtain ⟨i,hi,e3⟩:=Option.map_eq_some_iff.1 hy
  obtain ⟨hjl,hji⟩:=List.getElem?_eq_some_iff.1 hi
  have hix:i<xs.length:=hLb i (by rw [← hji];exact List.getElem_mem hjl)
  have hxi:xs[i]?=some x:=by rw [← e1,← e3,List.getD_eq_getElem?_getD,List.getElem?_eq_getElem hix];rfl
  have hci:cs[i]?=some (cs.getD i (.slice none 0 0)):=by rw [List.getD_eq_getElem?_getD,List.getElem?_eq_getElem (by omega)];rfl
  have h1:=hR i x _ hxi hci
  refine ⟨cs.getD i (.slice none 0 0),?_,?_⟩
  ·
   rw [show (Kd.tag (fun k=>L.idxOf (f k)) (Kd.slice 2 (Kd.int .i64))).sz=1 from rfl,Nat.mul_one,List.drop_eq_getElem_cons (by simpa using hjl)]
   simp [hji]
  ·
   have h2:=Kd.R_step h1 (w1:=W') (fun k hk hlt=>hg k hlt (fun e=>hk.1.2 (by rw [e])))
   refine Kd.R_mono h2 (fun k hk=>⟨⟨hk.1.1,hk.1.2⟩,?_⟩)
   show L.idxOf (f k)=j'
   rw [hk.2,← e2,← hji]
   simpa using hL.idxOf_getElem j hjl
theorem au.rows {W:World} {base:Nat} {ok:Nat→Prop} {g:Nat} {f:Nat→Nat} {cs:List Value} {xs:List (List Int)} (hcl:cs.length=xs.length)
  (hR:∀ (j:Nat) (x:List Int) (c:Value),xs[j]?=some x→cs[j]?=some c→(Kd.int .i64).R 2 W base (fun k=>(ok k∧some k≠some g)∧f k=j) c x) (W1:World) (hk:∀ k,k<W.heap.size→k≠g→W1.heap[k]?=W.heap[k]?) (i:Nat) :
  ∃ A c,cs.getD i (.slice none 0 0)=.slice A (xs.getD i []).length c∧(xs.getD i []).length≤c∧Kd.C (Kd.int .i64) W1 A (xs.getD i []).length (xs.getD i []):=by
 by_cases hi:i<xs.length
 ·
  have hx:xs[i]?=some (xs.getD i []):=by rw [List.getD_eq_getElem?_getD,List.getElem?_eq_getElem hi];rfl
  have hc:cs[i]?=some (cs.getD i (.slice none 0 0)):=by rw [List.getD_eq_getElem?_getD,List.getElem?_eq_getElem (by omega)];rfl
  exact Kd.R_reads (Kd.R_step (hR i _ _ hx hc) (w1:=W1) (fun k h1 h2=>hk k h2 (fun e=>h1.1.2 (by rw [e]))))
 ·
  rw [show xs.getD i []=[] by simp [Nat.le_of_not_lt hi],show cs.getD i (.slice none 0 0)=.slice none 0 0 by rw [List.getD_eq_getElem?_getD,List.getElem?_eq_none (by omega)];rfl]
  exact Kd.R_reads (Kd.R_nil (Kd.int .i64) 2 W1 0 (fun _=>True))
open Go.Sort in
theorem au.put {W:World} {g:Nat} {cur:Array Value} (hh:W.heap[g]?=some (.cells cur 50 (0,0))) (enc:Nat→Value) (n:Nat) (d':Array Nat) :
  (∀ k,k≠g→(putRow enc (Go.Sort.ahead W n) g 0 d').heap[k]?=W.heap[k]?)∧(putRow enc (Go.Sort.ahead W n) g 0 d').heap[g]?=some (.cells (putCells enc 0 d' cur) 50 (0,0)):=by
 refine ⟨fun k hne=>?_,?_⟩
 ·
  simp only [putRow,mapBlock,Array.getElem?_modify]
  rw [if_neg (Ne.symm hne)];rfl
 ·
  simp only [putRow,mapBlock,Array.getElem?_modify]
  show (if True then Option.map _ W.heap[g]? else _)=_
  rw [if_pos trivial,hh];rfl
open Go.Sort in
theorem au.holds {W:World} {g n:Nat} {cur:Array Value} {cs:List Value} (hh:W.heap[g]?=some (.cells cur 50 (0,0))) (ht:cur.toList.take n=cs) (hcl:cs.length=n):Holds (fun i=>cs.getD i (.slice none 0 0)) W g 0 (Array.range n):=by
 intro j hj
 have hj:j<n:=by simpa using hj
 refine ⟨?_,bH hh _⟩
 rw [blk_cell hh,getElem!_pos _ j (by simpa using hj),Array.getElem_range,Nat.zero_add]
 show cur[j]?=some (cs.getD j (.slice none 0 0))
 rw [List.getD_eq_getElem?_getD,List.getElem?_eq_getElem (by omega),← Array.getElem?_toList]
 subst ht
 simp [hj,List.getElem?_take]
open Go.Sort in
theorem au.head {enc:Nat→Value} {d':Array Nat} {cur:Array Value} {n:Nat} (hn:n≤cur.size) {L:List Nat} (hL:L.length=n) (hd:n≤d'.size) (h:∀ j,j<n→L[j]?=some d'[j]!):(putCells enc 0 d' cur).toList.take L.length=L.map enc:=by
 apply List.ext_getElem?
 intro j
 by_cases hj:j<n
 ·
  rw [List.getElem?_take,if_pos (by omega),Array.getElem?_toList]
  simp only [putCells,Array.getElem?_mapIdx]
  rw [Array.getElem?_eq_getElem (by omega),Option.map_some,if_pos ⟨Nat.zero_le _,by omega⟩,List.getElem?_map,h j hj,Option.map_some,Nat.sub_zero]
 ·
  rw [List.getElem?_eq_none (by simp;omega),List.getElem?_eq_none (by simp;omega)]
def au.lexc:List Int→List Int→Int
 | [],[]=>0
 | [],_ :: _=>-1
 | _ :: _,[]=>1
 | a :: x,b :: y=>if a<b then -1 else if b<a then 1 else au.lexc x y
def au.ltr (x y:List Int):Bool:=decide (au.lexc x y<0)
theorem au.lexc_self:∀ x,au.lexc x x=0
 | []=>rfl
 | a :: x=>by simp [au.lexc,au.lexc_self x]
theorem au.lexc_eq:∀ x y,¬ au.lexc x y<0→¬ au.lexc y x<0→x=y
 | [],[],_,_=>rfl
 | [],_ :: _,h,_=>by simp [au.lexc] at h
 | _ :: _,[],_,h=>by simp [au.lexc] at h
 | a :: x,b :: y,h,k=>by
  simp only [au.lexc] at h k
  by_cases h1:a<b
  ·
   rw [if_pos h1] at h;omega
  ·
   by_cases h2:b<a
   ·
    rw [if_pos h2] at k;omega
   ·
    rw [if_neg h1,if_neg h2] at h
    rw [if_neg h2,if_neg h1] at k
    rw [au.lexc_eq x y h k,show a=b by omega]
theorem au.lexc_trans:∀ x y z,au.lexc x y<0→au.lexc y z<0→au.lexc x z<0
 | [],[],_,h,_=>by simp [au.lexc] at h
 | _ :: _,[],_,h,_=>by simp [au.lexc] at h
 | [],_ :: _,[],_,k=>by simp [au.lexc] at k
 | [],_ :: _,_ :: _,_,_=>by simp [au.lexc]
 | _ :: _,_ :: _,[],_,k=>by simp [au.lexc] at k
 | a :: x,b :: y,c :: z,h,k=>by
  simp only [au.lexc] at h k ⊢
  by_cases h1:a<b
  ·
   by_cases h3:b<c
   ·
    rw [if_pos (by omega)];omega
   ·
    rw [if_neg h3] at k
    by_cases h4:c<b
    ·
     rw [if_pos h4] at k;omega
    ·
     rw [if_pos (by omega)];omega
  ·
   rw [if_neg h1] at h
   by_cases h2:b<a
   ·
    rw [if_pos h2] at h;omega
   ·
    rw [if_neg h2] at h
    by_cases h3:b<c
    ·
     rw [if_pos (by omega)];omega
    ·
     rw [if_neg h3] at k
     by_cases h4:c<b
     ·
      rw [if_pos h4] at k;omega
     ·
      rw [if_neg h4] at k
      rw [if_neg (by omega),if_neg (by omega)]
      exact au.lexc_trans x y z h k
theorem au.swo:Go.Sort.SWO au.ltr:=by
 refine ⟨fun x=>by simp [au.ltr,au.lexc_self],fun x y z h k=>?_,fun x y z h k=>?_⟩
 ·
  simp only [au.ltr,decide_eq_true_eq] at *
  exact au.lexc_trans x y z h k
 ·
  simp only [au.ltr,decide_eq_false_iff_not] at *
  intro hz
  by_cases e:au.lexc y x<0
  ·
   exact k (au.lexc_trans y x z e hz)
  ·
   rw [au.lexc_eq x y h e] at hz
   exact k hz
def au.srt (xs:List (List Int)):List (List Int):=xs.mergeSort fun x y=>!au.ltr y x
def au.cd (p:List Int):List (List Int)→List (List Int)
 | []=>[]
 | y :: l=>if y=p then au.cd y l else y :: au.cd y l
def au.cdup:List (List Int)→List (List Int)
 | []=>[]
 | x :: l=>x :: au.cd x l
def bF.l0:Nat→List Int→List Int→Int→Option (Bool)
 | 0,_,_,_=>none
 | k+1,x0,x1,x5=>if x5<(x0.length:Int) then (if 0≤x5 then (if x5<(x1.length:Int) then (if (rd x0 x5)=(rd x1 x5) then (bF.l0 k x0 x1 (wrap64 (x5+1))) else (some false)) else (none)) else (none)) else (some true)
def bF.f (k:Nat) (l0 l1:List Int):Option (Bool):=if (l0.length:Int)=(l1.length:Int) then (bF.l0 k l0 l1 0) else (some false)
set_option maxHeartbeats 8000000 in
set_option maxRecDepth 100000 in
theorem bF.calls (k:Nat) (A0:Option Addr) (c0:Nat) (l0:List Int) (A1:Option Addr) (c1:Nat) (l1:List Int) (r:Bool) (w:World) (hr0:Kd.C (Kd.int .i64) w A0 l0.length l0) (hc0:l0.length≤c0) (hr1:Kd.C (Kd.int .i64) w A1 l1.length l1) (hc1:l1.length≤c1) (h:bF.f k l0 l1=some r) :
  Calls Tryz.prog 40 #[.slice A0 l0.length c0,.slice A1 l1.length c1] w fun e w'=>e=.returned (.bool r)∧aI w w':=by
 have HR0:=aA.mk hr0
 have HC0:=aA.mk hc0
 clear hr0 hc0
 have HR1:=aA.mk hr1
 have HC1:=aA.mk hc1
 clear hr1 hc1
 have H:=h
 unfold bF.f at H
 clear h
 by_cases c3:(l0.length:Int)=(l1.length:Int)
 focus
  rw [if_pos c3] at H
  have c3b0:((l0.length:Int) == (l1.length:Int))=true:=beq_iff_eq.mpr c3
  have c3b1:((l0.length:Int) != (l1.length:Int))=false:=bne_eq_false_iff_eq.mpr c3
  have c3b2:(l0.length == l1.length)=true:=by first|simpa using c3|(simp at c3 ⊢;omega)
  clear c3
  have H':=aA.mk H
  clear H
 rotate_left
 focus
  rw [if_neg c3] at H
  have c3b0:((l0.length:Int) == (l1.length:Int))=false:=beq_eq_false_iff_ne.mpr c3
  have c3b1:((l0.length:Int) != (l1.length:Int))=true:=bne_iff_ne.mpr c3
  have c3b2:(l0.length == l1.length)=false:=by first|simpa using c3|(simp at c3 ⊢;omega)
  obtain rfl:=Option.some.inj H
 rotate_left
 all_goals
  go_enter Tryz.func40,Tryz.ntmps40
  go_wp2
  repeat (go_quiet (fail);try go_wp2)
 ·
  go_loopg [5] k (fun kq v5 w'=>∃ (x5_1:Int),v5=.int .i64 x5_1∧aA (bF.l0 kq l0 l1 x5_1=some r)∧aA (kq≤k)∧aI w w')
  case atStart=>exact ⟨(0),hB,H',⟨Nat.le_refl _⟩,by repeat (first|exact aI.refl _|apply aI.step)⟩
  case round=>
   clear H'
   try clear c1
   try clear c3
   try clear c3b0
   try clear c3b1
   try clear c3b2
   obtain ⟨x5_1,rfl,HA,HK1,⟨m1,rfl⟩⟩:=hrel
   cases gk with
   | zero=>exact absurd HA.out (by simp [bF.l0])
   | succ k1=>
    have H:=HA.out
    clear HA
    simp only [bF.l0] at H
    by_cases c4:x5_1<(l0.length:Int)
    ·
     rw [if_pos c4] at H
     have c4b0:=decide_eq_true c4
     clear c4
     by_cases c5:0≤x5_1
     rotate_left
     ·
      rw [if_neg c5] at H
      exact absurd H (by simp)
     rw [if_pos c5] at H
     have c5b0:=decide_eq_true c5
     clear c5
     by_cases c6:x5_1<(l1.length:Int)
     rotate_left
     ·
      rw [if_neg c6] at H
      exact absurd H (by simp)
     rw [if_pos c6] at H
     have c6b0:=decide_eq_true c6
     clear c6
     by_cases c7:(rd l0 x5_1)=(rd l1 x5_1)
     ·
      rw [if_pos c7] at H
      have c7b0:((rd l0 x5_1) == (rd l1 x5_1))=true:=beq_iff_eq.mpr c7
      have c7b1:((rd l0 x5_1) != (rd l1 x5_1))=false:=bne_eq_false_iff_eq.mpr c7
      clear c7
      have H':=aA.mk H
      clear H
      have p579:0≤(x5_1:Int):=dA
      have q579:x5_1<(l0.length:Int):=dA
      obtain ⟨ad579,e579,hx579_0⟩:=Kd.at_int HR0.out x5_1 p579 q579
      cases e579
      replace p579:=eq_true p579
      replace q579:=eq_true q579
      have p580:0≤(x5_1:Int):=dA
      have q580:x5_1<(l1.length:Int):=dA
      obtain ⟨ad580,e580,hx580_0⟩:=Kd.at_int HR1.out x5_1 p580 q580
      cases e580
      replace p580:=eq_true p580
      replace q580:=eq_true q580
      go_wp2
      repeat (go_quiet (fail);try go_wp2)
      go_roundg k1
      case measure=>have:=HK1.out;omega
      case rel=>exact ⟨(wrap64 (x5_1+1)),hB,H',⟨by have:=HK1.out;omega⟩,by repeat (first|exact aI.refl _|apply aI.step)⟩
     ·
      rw [if_neg c7] at H
      have c7b0:((rd l0 x5_1) == (rd l1 x5_1))=false:=beq_eq_false_iff_ne.mpr c7
      have c7b1:((rd l0 x5_1) != (rd l1 x5_1))=true:=bne_iff_ne.mpr c7
      obtain rfl:=Option.some.inj H
      have p579:0≤(x5_1:Int):=dA
      have q579:x5_1<(l0.length:Int):=dA
      obtain ⟨ad579,e579,hx579_0⟩:=Kd.at_int HR0.out x5_1 p579 q579
      cases e579
      replace p579:=eq_true p579
      replace q579:=eq_true q579
      have p580:0≤(x5_1:Int):=dA
      have q580:x5_1<(l1.length:Int):=dA
      obtain ⟨ad580,e580,hx580_0⟩:=Kd.at_int HR1.out x5_1 p580 q580
      cases e580
      replace p580:=eq_true p580
      replace q580:=eq_true q580
      go_wp2
      repeat (go_quiet (fail);try go_wp2)
      go_ret
      exact ⟨by first|rfl|(simp;done)|(simp [*];done),by repeat (first|exact aI.refl _|apply aI.step)⟩
    ·
     rw [if_neg c4] at H
     have c4b0:=decide_eq_false c4
     clear c4
     obtain rfl:=Option.some.inj H
     go_wp2
     repeat (go_quiet (fail);try go_wp2)
     go_ret
     exact ⟨by first|rfl|(simp;done)|(simp [*];done),by repeat (first|exact aI.refl _|apply aI.step)⟩
 ·
  go_ret
  exact ⟨by first|rfl|(simp;done)|(simp [*];done),by repeat (first|exact aI.refl _|apply aI.step)⟩
def dy.f (a0_0 a0_1 a1_0 a1_1:Int):Option (Bool):=some (decide (a0_0=a1_0∧a0_1=a1_1))
set_option maxHeartbeats 8000000 in
set_option maxRecDepth 100000 in
theorem dy.calls (a0_0 a0_1 a1_0 a1_1:Int) (r:Bool) (w:World) (h:dy.f a0_0 a0_1 a1_0 a1_1=some r) :
  Calls Tryz.prog 78 #[.agg #[.int .i64 a0_0,.int .i64 a0_1],.agg #[.int .i64 a1_0,.int .i64 a1_1]] w fun e w'=>e=.returned (.bool r)∧Below w.heap.size w w':=by
 have HR:=aA.mk (Option.some.inj h)
 clear h
 go_enter Tryz.func78,Tryz.ntmps78
 go_wp2
 refine wp_loop_rounds 3 ?_
 repeat any_goals (first|(rw [rounds_succ];go_wp2)|(go_quiet (fail);go_wp2))
 all_goals go_returns
 all_goals refine ⟨bret ?_,by repeat (first|(with_reducible exact Below.refl _ _)|apply bp|apply bV|apply al)⟩
 all_goals rw [← HR.out]
 all_goals clear HR
 all_goals try simp only [bne_iff_ne,bne_eq_false_iff_eq,ne_eq] at *
 all_goals first
  | (symm;refine decide_eq_false ?_;omega)
  | (symm;refine decide_eq_true ?_;omega)
def bJ.l0:Nat→List (S59)→Int→Int→Option (Int)
 | 0,_,_,_=>none
 | k+1,x0,x1,x5=>if x5<(x0.length:Int) then (bJ.l0 k x0 x1 (wrap64 (x5+1))) else (some x1)
def bJ.f (k:Nat) (l0:List (S59)) (a1:Int):Option (Int):=bJ.l0 k l0 a1 0
set_option maxHeartbeats 8000000 in
set_option maxRecDepth 100000 in
theorem bJ.calls (k:Nat) (A0:Option Addr) (c0:Nat) (l0:List (S59)) (a1 r:Int) (w:World) (hr0:Kd.C k59 w A0 l0.length l0) (hc0:l0.length≤c0) (h:bJ.f k l0 a1=some r) :
  Calls Tryz.prog 11 #[.slice A0 l0.length c0,.int .i64 a1] w fun e w'=>e=.returned (.int .i64 r)∧aI w w':=by
 have HR0:=aA.mk hr0
 have HC0:=aA.mk hc0
 clear hr0 hc0
 have H:=h
 unfold bJ.f at H
 clear h
 have H':=aA.mk H
 clear H
 go_enter Tryz.func11,Tryz.ntmps11
 go_wp2
 go_loopg [5] k (fun kq v5 w'=>∃ (x5_1:Int),v5=.int .i64 x5_1∧aA (bJ.l0 kq l0 a1 x5_1=some r)∧aA (kq≤k)∧aI w w')
 case atStart=>exact ⟨(0),hB,H',⟨Nat.le_refl _⟩,by repeat (first|exact aI.refl _|apply aI.step)⟩
 case round=>
  clear H'
  obtain ⟨x5_1,rfl,HA,HK1,⟨m1,rfl⟩⟩:=hrel
  cases gk with
  | zero=>exact absurd HA.out (by simp [bJ.l0])
  | succ k1=>
   have H:=HA.out
   clear HA
   simp only [bJ.l0] at H
   by_cases c3:x5_1<(l0.length:Int)
   ·
    rw [if_pos c3] at H
    have c3b0:=decide_eq_true c3
    clear c3
    have H':=aA.mk H
    clear H
    go_wp2
    go_roundg k1
    case measure=>have:=HK1.out;omega
    case rel=>exact ⟨(wrap64 (x5_1+1)),hB,H',⟨by have:=HK1.out;omega⟩,by repeat (first|exact aI.refl _|apply aI.step)⟩
   ·
    rw [if_neg c3] at H
    have c3b0:=decide_eq_false c3
    clear c3
    obtain rfl:=Option.some.inj H
    go_wp2
    go_ret
    exact ⟨by first|rfl|(simp;done)|(simp [*];done),by repeat (first|exact aI.refl _|apply aI.step)⟩
def ar.l0:Nat→List Int→Int→Int→Option (Int × List Int)
 | 0,_,_,_=>none
 | k+1,x0,x1,x5=>if x5<(x0.length:Int) then (if 0≤x5 then (ar.l0 k (x0.set (x5:Int).toNat x1) (wrap64 (x1+1)) (wrap64 (x5+1))) else (none)) else (some (x1,x0))
def ar.f (k:Nat) (l0:List Int) (a1:Int):Option (Int × List Int):=ar.l0 k l0 a1 0
set_option maxHeartbeats 8000000 in
set_option maxRecDepth 100000 in
theorem ar.calls (k:Nat) (P0_:Nat→Prop) (u9000_:Value) (l0:List Int) (a1 r1:Int) (r2:List Int) (w0 w:World) (hB:Below w0.heap.size w0 w) (ho0:Kd.R (Kd.int .i64) 2 w w0.heap.size P0_ u9000_ l0) (h:ar.f k l0 a1=some (r1,r2)) :
  Calls Tryz.prog 42 #[u9000_,.int .i64 a1] w fun e w'=>e=.returned (.int .i64 r1)∧Kd.R (Kd.int .i64) 2 w' w0.heap.size (fun k_=>(P0_ k_∨w.heap.size≤k_)) u9000_ r2∧Below w0.heap.size w0 w'∧cG w w' (fun k_=>P0_ k_):=by
 have HO0:=aA.mk (show Kd.R (Kd.int .i64) 2 w w0.heap.size (fun k_=>(P0_ k_∨w.heap.size≤k_)) u9000_ l0 from Kd.R_mono ho0 (fun k_ hk=>(.inl hk)))
 have HK:=aA.mk (cG.refl w (fun k_=>P0_ k_))
 have HW0:=aA.mk hB.size
 have HB:=aA.mk hB
 clear hB
 have H:=h
 unfold ar.f at H
 clear h
 have H':=aA.mk H
 clear H
 go_enter Tryz.func42,Tryz.ntmps42
 go_wp2
 go_loopg [1,5] k (fun kq v1 v5 w'=>∃ (x0_1:List Int) (x1_1:Int) (x5_1:Int),v1=.int .i64 x1_1∧v5=.int .i64 x5_1∧aA (ar.l0 kq x0_1 x1_1 x5_1=some (r1,r2))∧aA (kq≤k)∧aA (Kd.R (Kd.int .i64) 2 w' w0.heap.size (fun k_=>(P0_ k_∨w.heap.size≤k_)) u9000_ x0_1)∧aA (cG w w' (fun k_=>P0_ k_))∧aA (Below w0.heap.size w0 w'))
 case atStart=>exact ⟨(l0),(a1),(0),hB,hB,H',⟨Nat.le_refl _⟩,⟨rA HO0⟩,⟨by repeat (first|(with_reducible first|exact HK.out|apply cG.alloc|apply cG.drewN|apply cG.drew)|exact HK.out)⟩,⟨blA⟩⟩
 case round=>
  clear H'
  obtain ⟨x0_1,x1_1,x5_1,rfl,rfl,HA,HK1,HO_0,HK,HB⟩:=hrel
  cases gk with
  | zero=>exact absurd HA.out (by simp [ar.l0])
  | succ k1=>
   have H:=HA.out
   clear HA
   simp only [ar.l0] at H
   by_cases c3:x5_1<(x0_1.length:Int)
   ·
    rw [if_pos c3] at H
    have c3b0:=decide_eq_true c3
    clear c3
    by_cases c4:0≤x5_1
    rotate_left
    ·
     rw [if_neg c4] at H
     exact absurd H (by simp)
    rw [if_pos c4] at H
    have c4b0:=decide_eq_true c4
    clear c4
    obtain ⟨y587,hy587⟩:∃ y_:List Int,y_=(x0_1.set (x5_1:Int).toNat x1_1):=⟨_,rfl⟩
    replace H:(ar.l0 k1 y587 (wrap64 (x1_1+1)) (wrap64 (x5_1+1)))=some (r1,r2):=rH hy587 H
    have Ny587:=aA.mk hy587
    clear hy587
    have H':=aA.mk H
    clear H
    obtain ⟨Ao6,co6,eo6⟩:=Kd.R_slice HO_0.out
    subst eo6
    have p5:0≤(x5_1:Int):=dA
    have q5:(x5_1:Int)<((x0_1.length:Int):Int):=dA
    obtain ⟨go5,co5,eo5,gb5,gl5,cl5,HG5⟩:=Kd.R_form HO_0.out (by omega)
    (first|cases eo5|(injection eo5 with ea_ en_ ec_;(first|subst ea_|(injection ea_ with ea_;subst ea_));subst ec_;clear en_))
    have GB5:=aA.mk gb5
    have GG5:=aA.mk HG5
    clear gb5 gl5 HG5
    have HMgo5:=aA.mk (show (P0_ go5∨w.heap.size≤go5) from (HO_0.out.1 _ rfl))
    obtain ⟨hx5_0,hf5_0⟩:=Kd.R_celln 0 HO_0.out (x5_1:Int) p5 q5
    replace p5:=eq_true p5
    replace q5:=eq_true q5
    have HP7:=Kd.R_putg HO_0.out (x5_1:Int) x1_1
    go_wp2_with (first|((with_reducible refine dJ (t:=2) (p:=15) rfl ?_);refine cy (t:=2) (p:=15) (v:=?vo_w8) (w1:=(wr.setCell ⟨go5,(x5_1:Int).toNat,none⟩ (.int .i64 x1_1))) ?hg ?ho ?hn ?hr ?_;(case ho=>rfl);(case hg=>rfl);(case hn=>rfl);(case hr=>first|(go_simp;done)|(go_simp;rfl));intro w8 hw;have hg:wr.grownBy w8 (some go5):=(by rw [hw];exact HP7.2);have hp_:Kd.R (Kd.int .i64) 2 w8 w0.heap.size (fun k_=>(P0_ k_∨w.heap.size≤k_)) (.slice (some ⟨go5,0,none⟩) x0_1.length co6) y587:=(by rw [hw,Ny587.out];exact HP7.1);clear HP7;replace HB:=aA.mk ((by rw [hw];exact cK (HB.out) GB5.out:Below w0.heap.size w0 w8));replace HK:=aA.mk (cG.of_grown (S:=(fun k_=>P0_ k_)) hg (by repeat (first|(with_reducible first|exact HK.out|apply cG.alloc|apply cG.drewN|apply cG.drew)|exact HK.out)) (fun k_ e_=>(HO_0.out.1 k_ e_)));replace HO_0:=aA.mk (hp_);clear hg hw hp_))
    go_roundg k1
    case measure=>have:=HK1.out;omega
    case rel=>exact ⟨(y587),(wrap64 (x1_1+1)),(wrap64 (x5_1+1)),hB,hB,H',⟨by have:=HK1.out;omega⟩,⟨rA HO_0⟩,⟨by repeat (first|(with_reducible first|exact HK.out|apply cG.alloc|apply cG.drewN|apply cG.drew)|exact HK.out)⟩,⟨blA⟩⟩
   ·
    rw [if_neg c3] at H
    have c3b0:=decide_eq_false c3
    clear c3
    simp only [Option.some.injEq,Prod.mk.injEq] at H
    obtain ⟨rfl,rfl⟩:=H
    obtain ⟨Ao9,co9,eo9⟩:=Kd.R_slice HO_0.out
    subst eo9
    go_wp2
    go_ret
    exact ⟨eW,rA HO_0,blA,by repeat (first|(with_reducible first|exact HK.out|apply cG.alloc|apply cG.drewN|apply cG.drew)|exact HK.out)⟩
def ay.l0:Nat→List Int→Int→Int→Option (Int)
 | 0,_,_,_=>none
 | k+1,x0,x1,x5=>if x5<(x0.length:Int) then (if 0≤x5 then (if (rd x0 x5)=x1 then (ay.l0 k x0 (wrap64 (x1+1)) (wrap64 (x5+1))) else (some (-1))) else (none)) else (some x1)
def ay.f (k:Nat) (l0:List Int) (a1:Int):Option (Int):=ay.l0 k l0 a1 0
set_option maxHeartbeats 8000000 in
set_option maxRecDepth 100000 in
theorem ay.calls (k:Nat) (A0:Option Addr) (c0:Nat) (l0:List Int) (a1 r:Int) (w:World) (hr0:Kd.C (Kd.int .i64) w A0 l0.length l0) (hc0:l0.length≤c0) (h:ay.f k l0 a1=some r) :
  Calls Tryz.prog 43 #[.slice A0 l0.length c0,.int .i64 a1] w fun e w'=>e=.returned (.int .i64 r)∧aI w w':=by
 have HR0:=aA.mk hr0
 have HC0:=aA.mk hc0
 clear hr0 hc0
 have H:=h
 unfold ay.f at H
 clear h
 have H':=aA.mk H
 clear H
 go_enter Tryz.func43,Tryz.ntmps43
 go_wp2
 go_loopg [1,5] k (fun kq v1 v5 w'=>∃ (x1_1:Int) (x5_1:Int),v1=.int .i64 x1_1∧v5=.int .i64 x5_1∧aA (ay.l0 kq l0 x1_1 x5_1=some r)∧aA (kq≤k)∧aI w w')
 case atStart=>exact ⟨(a1),(0),hB,hB,H',⟨Nat.le_refl _⟩,by repeat (first|exact aI.refl _|apply aI.step)⟩
 case round=>
  clear H'
  obtain ⟨x1_1,x5_1,rfl,rfl,HA,HK1,⟨m1,rfl⟩⟩:=hrel
  cases gk with
  | zero=>exact absurd HA.out (by simp [ay.l0])
  | succ k1=>
   have H:=HA.out
   clear HA
   simp only [ay.l0] at H
   by_cases c3:x5_1<(l0.length:Int)
   ·
    rw [if_pos c3] at H
    have c3b0:=decide_eq_true c3
    clear c3
    by_cases c4:0≤x5_1
    rotate_left
    ·
     rw [if_neg c4] at H
     exact absurd H (by simp)
    rw [if_pos c4] at H
    have c4b0:=decide_eq_true c4
    clear c4
    by_cases c5:(rd l0 x5_1)=x1_1
    ·
     rw [if_pos c5] at H
     have c5b0:((rd l0 x5_1) == x1_1)=true:=beq_iff_eq.mpr c5
     have c5b1:((rd l0 x5_1) != x1_1)=false:=bne_eq_false_iff_eq.mpr c5
     clear c5
     have H':=aA.mk H
     clear H
     have p588:0≤(x5_1:Int):=dA
     have q588:x5_1<(l0.length:Int):=dA
     obtain ⟨ad588,e588,hx588_0⟩:=Kd.at_int HR0.out x5_1 p588 q588
     cases e588
     replace p588:=eq_true p588
     replace q588:=eq_true q588
     go_wp2
     go_roundg k1
     case measure=>have:=HK1.out;omega
     case rel=>exact ⟨(wrap64 (x1_1+1)),(wrap64 (x5_1+1)),hB,hB,H',⟨by have:=HK1.out;omega⟩,by repeat (first|exact aI.refl _|apply aI.step)⟩
    ·
     rw [if_neg c5] at H
     have c5b0:((rd l0 x5_1) == x1_1)=false:=beq_eq_false_iff_ne.mpr c5
     have c5b1:((rd l0 x5_1) != x1_1)=true:=bne_iff_ne.mpr c5
     obtain rfl:=Option.some.inj H
     have p588:0≤(x5_1:Int):=dA
     have q588:x5_1<(l0.length:Int):=dA
     obtain ⟨ad588,e588,hx588_0⟩:=Kd.at_int HR0.out x5_1 p588 q588
     cases e588
     replace p588:=eq_true p588
     replace q588:=eq_true q588
     go_wp2
     go_ret
     exact ⟨by first|rfl|(simp;done)|(simp [*];done),by repeat (first|exact aI.refl _|apply aI.step)⟩
   ·
    rw [if_neg c3] at H
    have c3b0:=decide_eq_false c3
    clear c3
    obtain rfl:=Option.some.inj H
    go_wp2
    go_ret
    exact ⟨by first|rfl|(simp;done)|(simp [*];done),by repeat (first|exact aI.refl _|apply aI.step)⟩
def bN.l0:Nat→List (S59)→Int→Int→Option (Int)
 | 0,_,_,_=>none
 | k+1,x0,x1,x5=>if x5<(x0.length:Int) then (if 0≤x5 then ((dW.f ((ai x0 x5).f0.f0) ((ai x0 x5).f0.f1) ((ai x0 x5).f1.f0) ((ai x0 x5).f1.f1)).bind fun t103=>(if t103=true then (bN.l0 k x0 x1 (wrap64 (x5+1))) else (some 1))) else (none)) else (if (x0.length:Int)<1 then (some 2) else (if (x0.length:Int)>x1 then (some 2) else (some 0)))
def bN.f (k:Nat) (l0:List (S59)) (a1:Int):Option (Int):=bN.l0 k l0 a1 0
set_option maxHeartbeats 8000000 in
set_option maxRecDepth 100000 in
theorem bN.calls (k:Nat) (A0:Option Addr) (c0:Nat) (l0:List (S59)) (a1 r:Int) (w:World) (hr0:Kd.C k59 w A0 l0.length l0) (hc0:l0.length≤c0) (h:bN.f k l0 a1=some r) :
  Calls Tryz.prog 66 #[.slice A0 l0.length c0,.int .i64 a1] w fun e w'=>e=.returned (.int .i64 r)∧Below w.heap.size w w':=by
 have hu59:=Tryz.underlying59
 have HR0:=aA.mk hr0
 have HC0:=aA.mk hc0
 clear hr0 hc0
 have HB:=aA.mk (Below.refl w.heap.size w)
 have H:=h
 unfold bN.f at H
 clear h
 have H':=aA.mk H
 clear H
 go_enter Tryz.func66,Tryz.ntmps66
 go_wp2
 go_loopg [5] k (fun kq v5 w'=>∃ (x5_1:Int),v5=.int .i64 x5_1∧aA (bN.l0 kq l0 a1 x5_1=some r)∧aA (kq≤k)∧aA (Below w.heap.size w w'))
 case atStart=>exact ⟨(0),hB,H',⟨Nat.le_refl _⟩,⟨blA⟩⟩
 case round=>
  clear H'
  obtain ⟨x5_1,rfl,HA,HK1,HB⟩:=hrel
  cases gk with
  | zero=>exact absurd HA.out (by simp [bN.l0])
  | succ k1=>
   have H:=HA.out
   clear HA
   simp only [bN.l0] at H
   by_cases c3:x5_1<(l0.length:Int)
   ·
    rw [if_pos c3] at H
    have c3b0:=decide_eq_true c3
    clear c3
    by_cases c4:0≤x5_1
    rotate_left
    ·
     rw [if_neg c4] at H
     exact absurd H (by simp)
    rw [if_pos c4] at H
    have c4b0:=decide_eq_true c4
    clear c4
    replace H:=bS H
    obtain ⟨t103,A5,H⟩:=H
    try dsimp only at H
    by_cases c6:t103=true
    focus
     subst c6
     rw [if_pos rfl] at H
     try dsimp only at H
     have H':=aA.mk H
     clear H
     have p102:0≤(x5_1:Int):=dA
     have q102:x5_1<(l0.length:Int):=dA
     obtain ⟨ad102,e102,hx102_0,hx102_1,hx102_2,hx102_3⟩:=fA HR0.out x5_1 p102 q102
     cases e102
     replace hx102_0:=(HB.out.cell (World.block_lt_of_cell? w _ hx102_0)).trans hx102_0
     replace hx102_1:=(HB.out.cell (World.block_lt_of_cell? w _ hx102_1)).trans hx102_1
     replace hx102_2:=(HB.out.cell (World.block_lt_of_cell? w _ hx102_2)).trans hx102_2
     replace hx102_3:=(HB.out.cell (World.block_lt_of_cell? w _ hx102_3)).trans hx102_3
     replace p102:=eq_true p102
     replace q102:=eq_true q102
    rotate_left
    focus
     replace c6:=Bool.eq_false_iff.mpr c6
     subst c6
     rw [if_neg (show ¬ (false=true) by decide)] at H
     try dsimp only at H
     obtain rfl:=Option.some.inj H
     have p102:0≤(x5_1:Int):=dA
     have q102:x5_1<(l0.length:Int):=dA
     obtain ⟨ad102,e102,hx102_0,hx102_1,hx102_2,hx102_3⟩:=fA HR0.out x5_1 p102 q102
     cases e102
     replace hx102_0:=(HB.out.cell (World.block_lt_of_cell? w _ hx102_0)).trans hx102_0
     replace hx102_1:=(HB.out.cell (World.block_lt_of_cell? w _ hx102_1)).trans hx102_1
     replace hx102_2:=(HB.out.cell (World.block_lt_of_cell? w _ hx102_2)).trans hx102_2
     replace hx102_3:=(HB.out.cell (World.block_lt_of_cell? w _ hx102_3)).trans hx102_3
     replace p102:=eq_true p102
     replace q102:=eq_true q102
    rotate_left
    all_goals
     go_wp2_with (first|((with_reducible refine gd 16 rfl ?_);refine gC (some 16) rfl Tryz.func94 (dW.calls (w:=_) (h:=A5.out)) ?_;intro w7 hb;replace HB:=lB hb;clear hb))
    ·
     go_roundg k1
     case measure=>have:=HK1.out;omega
     case rel=>exact ⟨(wrap64 (x5_1+1)),hB,H',⟨by have:=HK1.out;omega⟩,⟨blA⟩⟩
    ·
     go_ret
     exact cE blA
   ·
    rw [if_neg c3] at H
    have c3b0:=decide_eq_false c3
    clear c3
    by_cases c9:(l0.length:Int)<1
    ·
     rw [if_pos c9] at H
     have c9b0:=decide_eq_true c9
     have c9b1:decide (l0.length<1)=true:=decide_eq_true (by omega)
     clear c9
     obtain rfl:=Option.some.inj H
     go_wp2
     go_ret
     exact cE blA
    ·
     rw [if_neg c9] at H
     have c9b0:=decide_eq_false c9
     have c9b1:decide (l0.length<1)=false:=decide_eq_false (by omega)
     clear c9
     by_cases c10:(l0.length:Int)>a1
     ·
      rw [if_pos c10] at H
      have c10b0:decide (a1<(l0.length:Int))=true:=decide_eq_true c10
      clear c10
      obtain rfl:=Option.some.inj H
      go_wp2
      go_ret
      exact cE blA
     ·
      rw [if_neg c10] at H
      have c10b0:decide (a1<(l0.length:Int))=false:=decide_eq_false c10
      clear c10
      obtain rfl:=Option.some.inj H
      go_wp2
      go_ret
      exact cE blA
def cD.f (k:Nat) (a0 a1_0 a1_1 a1_2 a2_0 a2_1 a2_2:Int):Option (Int × Bool):=(aJ.f k a0 (wrap64 ((mx a1_2 a2_2) - a1_2))).bind fun t109=>((aJ.f k a0 (wrap64 ((mx a1_2 a2_2) - a2_2))).bind fun t110=>(if (wrap64 ((wrap64 (a1_1*t109)) - (wrap64 (a2_1*t110))))=0 then (some (0,false)) else ((ak.f k a0 (wrap64 ((wrap64 (a1_1*t109)) - (wrap64 (a2_1*t110))))).bind fun t111=>(some (wrap64 (t111 - (mx a1_2 a2_2)),true)))))
set_option maxHeartbeats 8000000 in
set_option maxRecDepth 100000 in
theorem cD.calls (k:Nat) (a0 a1_0 a1_1 a1_2 a2_0 a2_1 a2_2 r1:Int) (r2:Bool) (w:World) (h:cD.f k a0 a1_0 a1_1 a1_2 a2_0 a2_1 a2_2=some (r1,r2)) :
  Calls Tryz.prog 96 #[.int .i64 a0,.agg #[.int .i64 a1_0,.int .i64 a1_1,.int .i64 a1_2],.agg #[.int .i64 a2_0,.int .i64 a2_1,.int .i64 a2_2]] w fun e w'=>e=.returned (.tuple #[.int .i64 r1,.bool r2])∧Below w.heap.size w w':=by
 have hu43:=Tryz.underlying43
 have HB:=aA.mk (Below.refl w.heap.size w)
 have H:=h
 unfold cD.f at H
 clear h
 obtain ⟨ji4,hji4⟩:∃ j_:Int,(mx a1_2 a2_2)=j_:=⟨_,rfl⟩
 replace H:((aJ.f k a0 (wrap64 ((ji4) - a1_2))).bind fun t109=>((aJ.f k a0 (wrap64 ((ji4) - a2_2))).bind fun t110=>(if (wrap64 ((wrap64 (a1_1*t109)) - (wrap64 (a2_1*t110))))=0 then (some (0,false)) else ((ak.f k a0 (wrap64 ((wrap64 (a1_1*t109)) - (wrap64 (a2_1*t110))))).bind fun t111=>(some (wrap64 (t111 - (ji4)),true))))))=some (r1,r2):=by first|(rw [hji4] at H;exact H)|(simp only [hji4] at H ⊢;exact H)
 have hji4_:(if a1_2<a2_2 then a2_2 else a1_2)=ji4:=hji4
 replace H:=bS H
 obtain ⟨t109,A5,H⟩:=H
 try dsimp only at H
 replace H:=bS H
 obtain ⟨t110,A6,H⟩:=H
 try dsimp only at H
 by_cases c7:(wrap64 ((wrap64 (a1_1*t109)) - (wrap64 (a2_1*t110))))=0
 ·
  rw [if_pos c7] at H
  have c7b0:((wrap64 ((wrap64 (a1_1*t109)) - (wrap64 (a2_1*t110)))) == 0)=true:=beq_iff_eq.mpr c7
  have c7b1:((wrap64 ((wrap64 (a1_1*t109)) - (wrap64 (a2_1*t110)))) != 0)=false:=bne_eq_false_iff_eq.mpr c7
  clear c7
  simp only [Option.some.injEq,Prod.mk.injEq] at H
  obtain ⟨rfl,rfl⟩:=H
  go_enter Tryz.func96,Tryz.ntmps96
  go_wp2_with (first|((with_reducible refine aN (N:=4) rfl ?_);refine bxE (cs:=#[.int .i64 a1_0,.int .i64 a1_1,.int .i64 a1_2]) (t:=43) ?_;intro gb107 hg w8 hbox hb;have BK107:=aA.mk hbox;have GW107:=sA hg;have GE107:=sA hg;replace HB:=lB hb;clear hb hbox hg)|((with_reducible refine aN (N:=5) rfl ?_);refine bxE (cs:=#[.int .i64 a2_0,.int .i64 a2_1,.int .i64 a2_2]) (t:=43) ?_;intro gb108 hg w9 hbox hb;have BK108:=aA.mk hbox;have GW108:=sA hg;have GE108:=sA hg;have NB107_108:=nA hg BK107;have NB108_107:=nB hg BK107;replace BK107:=kB BK107 hb;replace HB:=lB hb;clear hb hbox hg;have hnb10:=NB107_108.out;have hnc10:=NB108_107.out;obtain ⟨hcz11_0,hcz11_1,hcz11_2,hfz11_0,hfz11_1,hfz11_2⟩:=cz3 BK107;obtain ⟨hcz12_0,hcz12_1,hcz12_2,hfz12_0,hfz12_1,hfz12_2⟩:=cz3 BK108)|(go_at_call 82;(with_reducible refine (aJ.calls k a0 (wrap64 ((ji4) - a1_2)) t109 _ A5.out).mono ?_);rintro e w' ⟨rfl,⟨nd,rfl⟩⟩;(try exact dd))|(go_at_call 82;(with_reducible refine (aJ.calls k a0 (wrap64 ((ji4) - a2_2)) t110 _ A6.out).mono ?_);rintro e w' ⟨rfl,⟨nd,rfl⟩⟩;(try exact dd)))
  repeat (go_quiet (first|((with_reducible refine aN (N:=4) rfl ?_);refine bxE (cs:=#[.int .i64 a1_0,.int .i64 a1_1,.int .i64 a1_2]) (t:=43) ?_;intro gb107 hg w8 hbox hb;have BK107:=aA.mk hbox;have GW107:=sA hg;have GE107:=sA hg;replace HB:=lB hb;clear hb hbox hg)|((with_reducible refine aN (N:=5) rfl ?_);refine bxE (cs:=#[.int .i64 a2_0,.int .i64 a2_1,.int .i64 a2_2]) (t:=43) ?_;intro gb108 hg w9 hbox hb;have BK108:=aA.mk hbox;have GW108:=sA hg;have GE108:=sA hg;have NB107_108:=nA hg BK107;have NB108_107:=nB hg BK107;replace BK107:=kB BK107 hb;replace HB:=lB hb;clear hb hbox hg;have hnb10:=NB107_108.out;have hnc10:=NB108_107.out;obtain ⟨hcz11_0,hcz11_1,hcz11_2,hfz11_0,hfz11_1,hfz11_2⟩:=cz3 BK107;obtain ⟨hcz12_0,hcz12_1,hcz12_2,hfz12_0,hfz12_1,hfz12_2⟩:=cz3 BK108)|(go_at_call 82;(with_reducible refine (aJ.calls k a0 (wrap64 ((ji4) - a1_2)) t109 _ A5.out).mono ?_);rintro e w' ⟨rfl,⟨nd,rfl⟩⟩;(try exact dd))|(go_at_call 82;(with_reducible refine (aJ.calls k a0 (wrap64 ((ji4) - a2_2)) t110 _ A6.out).mono ?_);rintro e w' ⟨rfl,⟨nd,rfl⟩⟩;(try exact dd)));try go_wp2_with (first|((with_reducible refine aN (N:=4) rfl ?_);refine bxE (cs:=#[.int .i64 a1_0,.int .i64 a1_1,.int .i64 a1_2]) (t:=43) ?_;intro gb107 hg w8 hbox hb;have BK107:=aA.mk hbox;have GW107:=sA hg;have GE107:=sA hg;replace HB:=lB hb;clear hb hbox hg)|((with_reducible refine aN (N:=5) rfl ?_);refine bxE (cs:=#[.int .i64 a2_0,.int .i64 a2_1,.int .i64 a2_2]) (t:=43) ?_;intro gb108 hg w9 hbox hb;have BK108:=aA.mk hbox;have GW108:=sA hg;have GE108:=sA hg;have NB107_108:=nA hg BK107;have NB108_107:=nB hg BK107;replace BK107:=kB BK107 hb;replace HB:=lB hb;clear hb hbox hg;have hnb10:=NB107_108.out;have hnc10:=NB108_107.out;obtain ⟨hcz11_0,hcz11_1,hcz11_2,hfz11_0,hfz11_1,hfz11_2⟩:=cz3 BK107;obtain ⟨hcz12_0,hcz12_1,hcz12_2,hfz12_0,hfz12_1,hfz12_2⟩:=cz3 BK108)|(go_at_call 82;(with_reducible refine (aJ.calls k a0 (wrap64 ((ji4) - a1_2)) t109 _ A5.out).mono ?_);rintro e w' ⟨rfl,⟨nd,rfl⟩⟩;(try exact dd))|(go_at_call 82;(with_reducible refine (aJ.calls k a0 (wrap64 ((ji4) - a2_2)) t110 _ A6.out).mono ?_);rintro e w' ⟨rfl,⟨nd,rfl⟩⟩;(try exact dd))))
  go_ret2
  exact ⟨by first|rfl|(simp [bB,bA] <;> rfl)|(simp only [← hji4];first|rfl|(simp [bB,bA] <;> rfl))|(simp [*,bB,bA] <;> rfl),blA⟩
 ·
  rw [if_neg c7] at H
  have c7b0:((wrap64 ((wrap64 (a1_1*t109)) - (wrap64 (a2_1*t110)))) == 0)=false:=beq_eq_false_iff_ne.mpr c7
  have c7b1:((wrap64 ((wrap64 (a1_1*t109)) - (wrap64 (a2_1*t110)))) != 0)=true:=bne_iff_ne.mpr c7
  replace H:=bS H
  obtain ⟨t111,A13,H⟩:=H
  try dsimp only at H
  simp only [Option.some.injEq,Prod.mk.injEq] at H
  obtain ⟨rfl,rfl⟩:=H
  go_enter Tryz.func96,Tryz.ntmps96
  go_wp2_with (first|((with_reducible refine aN (N:=4) rfl ?_);refine bxE (cs:=#[.int .i64 a1_0,.int .i64 a1_1,.int .i64 a1_2]) (t:=43) ?_;intro gb107 hg w14 hbox hb;have BK107:=aA.mk hbox;have GW107:=sA hg;have GE107:=sA hg;replace HB:=lB hb;clear hb hbox hg)|((with_reducible refine aN (N:=5) rfl ?_);refine bxE (cs:=#[.int .i64 a2_0,.int .i64 a2_1,.int .i64 a2_2]) (t:=43) ?_;intro gb108 hg w15 hbox hb;have BK108:=aA.mk hbox;have GW108:=sA hg;have GE108:=sA hg;have NB107_108:=nA hg BK107;have NB108_107:=nB hg BK107;replace BK107:=kB BK107 hb;replace HB:=lB hb;clear hb hbox hg;have hnb16:=NB107_108.out;have hnc16:=NB108_107.out;obtain ⟨hcz17_0,hcz17_1,hcz17_2,hfz17_0,hfz17_1,hfz17_2⟩:=cz3 BK107;obtain ⟨hcz18_0,hcz18_1,hcz18_2,hfz18_0,hfz18_1,hfz18_2⟩:=cz3 BK108)|(go_at_call 82;(with_reducible refine (aJ.calls k a0 (wrap64 ((ji4) - a1_2)) t109 _ A5.out).mono ?_);rintro e w' ⟨rfl,⟨nd,rfl⟩⟩;(try exact dd))|(go_at_call 82;(with_reducible refine (aJ.calls k a0 (wrap64 ((ji4) - a2_2)) t110 _ A6.out).mono ?_);rintro e w' ⟨rfl,⟨nd,rfl⟩⟩;(try exact dd))|(go_at_call 92;(with_reducible refine (ak.calls k a0 (wrap64 ((wrap64 (a1_1*t109)) - (wrap64 (a2_1*t110)))) t111 _ A13.out).mono ?_);rintro e w' ⟨rfl,⟨nd,rfl⟩⟩;(try exact dd)))
  repeat (go_quiet (first|((with_reducible refine aN (N:=4) rfl ?_);refine bxE (cs:=#[.int .i64 a1_0,.int .i64 a1_1,.int .i64 a1_2]) (t:=43) ?_;intro gb107 hg w14 hbox hb;have BK107:=aA.mk hbox;have GW107:=sA hg;have GE107:=sA hg;replace HB:=lB hb;clear hb hbox hg)|((with_reducible refine aN (N:=5) rfl ?_);refine bxE (cs:=#[.int .i64 a2_0,.int .i64 a2_1,.int .i64 a2_2]) (t:=43) ?_;intro gb108 hg w15 hbox hb;have BK108:=aA.mk hbox;have GW108:=sA hg;have GE108:=sA hg;have NB107_108:=nA hg BK107;have NB108_107:=nB hg BK107;replace BK107:=kB BK107 hb;replace HB:=lB hb;clear hb hbox hg;have hnb16:=NB107_108.out;have hnc16:=NB108_107.out;obtain ⟨hcz17_0,hcz17_1,hcz17_2,hfz17_0,hfz17_1,hfz17_2⟩:=cz3 BK107;obtain ⟨hcz18_0,hcz18_1,hcz18_2,hfz18_0,hfz18_1,hfz18_2⟩:=cz3 BK108)|(go_at_call 82;(with_reducible refine (aJ.calls k a0 (wrap64 ((ji4) - a1_2)) t109 _ A5.out).mono ?_);rintro e w' ⟨rfl,⟨nd,rfl⟩⟩;(try exact dd))|(go_at_call 82;(with_reducible refine (aJ.calls k a0 (wrap64 ((ji4) - a2_2)) t110 _ A6.out).mono ?_);rintro e w' ⟨rfl,⟨nd,rfl⟩⟩;(try exact dd))|(go_at_call 92;(with_reducible refine (ak.calls k a0 (wrap64 ((wrap64 (a1_1*t109)) - (wrap64 (a2_1*t110)))) t111 _ A13.out).mono ?_);rintro e w' ⟨rfl,⟨nd,rfl⟩⟩;(try exact dd)));try go_wp2_with (first|((with_reducible refine aN (N:=4) rfl ?_);refine bxE (cs:=#[.int .i64 a1_0,.int .i64 a1_1,.int .i64 a1_2]) (t:=43) ?_;intro gb107 hg w14 hbox hb;have BK107:=aA.mk hbox;have GW107:=sA hg;have GE107:=sA hg;replace HB:=lB hb;clear hb hbox hg)|((with_reducible refine aN (N:=5) rfl ?_);refine bxE (cs:=#[.int .i64 a2_0,.int .i64 a2_1,.int .i64 a2_2]) (t:=43) ?_;intro gb108 hg w15 hbox hb;have BK108:=aA.mk hbox;have GW108:=sA hg;have GE108:=sA hg;have NB107_108:=nA hg BK107;have NB108_107:=nB hg BK107;replace BK107:=kB BK107 hb;replace HB:=lB hb;clear hb hbox hg;have hnb16:=NB107_108.out;have hnc16:=NB108_107.out;obtain ⟨hcz17_0,hcz17_1,hcz17_2,hfz17_0,hfz17_1,hfz17_2⟩:=cz3 BK107;obtain ⟨hcz18_0,hcz18_1,hcz18_2,hfz18_0,hfz18_1,hfz18_2⟩:=cz3 BK108)|(go_at_call 82;(with_reducible refine (aJ.calls k a0 (wrap64 ((ji4) - a1_2)) t109 _ A5.out).mono ?_);rintro e w' ⟨rfl,⟨nd,rfl⟩⟩;(try exact dd))|(go_at_call 82;(with_reducible refine (aJ.calls k a0 (wrap64 ((ji4) - a2_2)) t110 _ A6.out).mono ?_);rintro e w' ⟨rfl,⟨nd,rfl⟩⟩;(try exact dd))|(go_at_call 92;(with_reducible refine (ak.calls k a0 (wrap64 ((wrap64 (a1_1*t109)) - (wrap64 (a2_1*t110)))) t111 _ A13.out).mono ?_);rintro e w' ⟨rfl,⟨nd,rfl⟩⟩;(try exact dd))))
  go_ret2
  exact ⟨by first|rfl|(simp [bB,bA] <;> rfl)|(simp only [← hji4];first|rfl|(simp [bB,bA] <;> rfl))|(simp [*,bB,bA] <;> rfl),blA⟩
end Go.Proofs.YtnhiehpbkimaeaaGreat.PAll
