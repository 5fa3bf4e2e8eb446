import Derived.Test.YtnhiehpbkimaeaaGreatQx
import Derived.BigQuiet
import Derived.Lib.SliceRun
import Derived.Lib.SlicesCompact
import Derived.Test.YtnhiehpbkimaeaaGreatLay
import Derived.Test.YtnhiehpbkimaeaaGreatQcmpisNaNint64
import Derived.Test.YtnhiehpbkimaeaaGreatQimplofMark
import Derived.Test.YtnhiehpbkimaeaaGreatQspecl02Valuation
namespace Go.Proofs.YtnhiehpbkimaeaaGreat.PAll
open Go.RowKit Go.Proofs.YtnhiehpbkimaeaaGreatW.PrintWords Go.Proofs.YtnhiehpbkimaeaaGreatW.PrintLast Go.Proofs.YtnhiehpbkimaeaaGreatW.PrintMore
attribute [local go_sem] Go.Proofs.YtnhiehpbkimaeaaGreat.Aux.setCell_drewN Go.Proofs.YtnhiehpbkimaeaaGreat.Aux.isSome_setCell cC b9 cQ cP bm bl cB b8
set_option linter.unusedVariables false
set_option linter.unusedSimpArgs false
theorem aG.l0 (x y:List Int) (hx:x.length≤9223372036854775807) (hl:x.length=y.length):∀ d i,x.length - i≤d→i≤x.length→aj.l0 (d+1) x y (x.length:Int) (i:Int)=some (decide (x.drop i=y.drop i)):=by
 intro d
 induction d with
 | zero=>
  intro i h1 h2
  simp only [aj.l0]
  rw [if_neg (by omega),List.drop_eq_nil_of_le (by omega),List.drop_eq_nil_of_le (by omega)]
  simp
 | succ d ih=>
  intro i h1 h2
  rw [aj.l0]
  by_cases hi:i<x.length
  ·
   rw [if_pos (by omega),if_pos (by omega),if_pos (by omega),if_pos (by omega),List.drop_eq_getElem_cons hi,List.drop_eq_getElem_cons (show i<y.length by omega),show rd x (i:Int)=x[i] by simp [rd,hi],show rd y (i:Int)=y[i]'(by omega) by simp [rd,show i<y.length by omega]]
   by_cases h4:x[i]=y[i]'(by omega)
   ·
    rw [if_pos h4,show wrap64 ((i:Int)+1)=((i+1:Nat):Int) by unfold wrap64;omega,ih (i+1) (by omega) (by omega)]
    have e:(x[i] :: x.drop (i+1)=y[i]'(by omega) :: y.drop (i+1))↔x.drop (i+1)=y.drop (i+1):=⟨fun h=>(List.cons.inj h).2,fun h=>by rw [h4,h]⟩
    rw [decide_eq_decide.2 e]
   ·
    rw [if_neg h4]
    have e:¬ (x[i] :: x.drop (i+1)=y[i]'(by omega) :: y.drop (i+1)):=fun h=>h4 (List.cons.inj h).1
    rw [decide_eq_false e]
  ·
   rw [if_neg (by omega),List.drop_eq_nil_of_le (by omega),List.drop_eq_nil_of_le (by omega)]
   simp
theorem aG.eqs {A0 A1:Option Addr} {c0 c1:Nat} {x y:List Int} {w:World} (h0:Kd.C (Kd.int .i64) w A0 x.length x) (hc0:x.length≤c0) (h1:Kd.C (Kd.int .i64) w A1 y.length y) (hc1:y.length≤c1) {b:Bool} (hb:decide (x=y)=b) :
  Calls Tryz.prog 39 #[.slice A0 x.length c0,.slice A1 y.length c1] w fun e w'=>e=.returned (.bool b)∧∃ m,w'=w.drewN m:=by
 refine (aj.calls (x.length+1) A0 c0 x A1 c1 y b w h0 hc0 h1 hc1 ?_).mono fun _ _ ⟨he,hd⟩=>⟨he,hd.out⟩
 unfold aj.f
 by_cases hl:x.length=y.length
 ·
  rw [if_pos (by omega),← hb]
  exact aG.l0 x y h0.2.1 hl x.length 0 (by omega) (by omega)
 ·
  rw [if_neg (by omega),← hb]
  congr 1
  symm
  rw [decide_eq_false_iff_not]
  rintro rfl
  exact hl rfl
theorem aG.add {P:Program} {f:FuncId} {args:Array Value} {w:World} {a n:Nat} {v:Value}
  (h:Calls P f args (w.drewN (a+n)) fun e w'=>e=.returned v∧∃ m,w'=(w.drewN (a+n)).drewN m) :
  Calls P f args (w.drewN (a+n)) fun e w''=>e=.returned v∧∃ m,w''=w.drewN (a+m):=
 h.mono fun _ _ ⟨he,m,hm⟩=>⟨he,n+m,by rw [hm,World.drewN_drewN,Nat.add_assoc]⟩
def aG.kp (xs:List (List Int)) (j:Nat):Bool:=decide (j=0∨xs.getD j []≠xs.getD (j - 1) [])
def aG.K (xs:List (List Int)) (m:Nat):List Nat:=(List.range m).filter (aG.kp xs)
theorem aG.kp_one (xs:List (List Int)) (j:Nat) (h:j<1):aG.kp xs j=true:=by simp [aG.kp,show j=0 by omega]
theorem aG.K_succ (xs:List (List Int)) (m:Nat):aG.K xs (m+1)=aG.K xs m ++ (if aG.kp xs m=true then [m] else []):=by
 unfold aG.K
 rw [List.range_succ,List.filter_append]
 congr 1
 by_cases h:aG.kp xs m=true <;> simp [h]
theorem aG.K_all (xs:List (List Int)) (m:Nat) (h:∀ j,j<m→aG.kp xs j=true):aG.K xs m=List.range m:=by
 unfold aG.K
 rw [List.filter_eq_self.2 (fun j hj=>h j (List.mem_range.1 hj))]
theorem aG.cd_eq:∀ (l:List (List Int)) (p:List Int),((List.range l.length).filter (fun j=>decide (l.getD j []≠(p :: l).getD j []))).map (fun j=>l.getD j [])=au.cd p l
 | [],_=>rfl
 | y :: t,p=>by
  have ih:=aG.cd_eq t y
  rw [List.length_cons,List.range_succ_eq_map,List.filter_cons,au.cd]
  have e:((List.map Nat.succ (List.range t.length)).filter (fun j=>decide ((y :: t).getD j []≠(p :: y :: t).getD j []))).map (fun j=>(y :: t).getD j [])=au.cd y t:=by
   rw [List.filter_map,List.map_map,← ih]
   rfl
  by_cases h:y=p
  ·
   rw [if_neg (by simp [h]),if_pos h,e]
  ·
   rw [if_pos (by simp [h]),if_neg h,List.map_cons,e]
   rfl
theorem aG.cdup_eq (xs:List (List Int)):(aG.K xs xs.length).map (fun j=>xs.getD j [])=au.cdup xs:=by
 cases xs with
 | nil=>rfl
 | cons x l=>
  rw [au.cdup,← aG.cd_eq l x]
  unfold aG.K
  rw [List.length_cons,List.range_succ_eq_map,List.filter_cons,if_pos (by simp [aG.kp]),List.map_cons,List.filter_map,List.map_map]
  congr 1
  congr 1
  apply List.filter_congr
  intro j _
  simp [aG.kp]
theorem aG.cdup_all (xs:List (List Int)) (h:∀ j,j<xs.length→aG.kp xs j=true):au.cdup xs=xs:=by
 rw [← aG.cdup_eq,aG.K_all xs _ h]
 apply List.ext_getElem
 ·
  simp
 ·
  intro i k1 k2
  simp [k2]
structure aG.CI (xs:List (List Int)) (m k:Nat) (dk:Array Nat):Prop where
 size:dk.size=xs.length
 len:(aG.K xs m).length=k
 lt:k<m
 low:∀ j,j<k→(aG.K xs m)[j]?=some dk[j]!
 high:∀ j,k≤j→j<xs.length→(dk[j]!)=j
theorem aG.CI_start {xs:List (List Int)} {k:Nat} (hk:k<xs.length) (h:∀ j,j<k→aG.kp xs j=true) (hd:aG.kp xs k=false):aG.CI xs (k+1) k (Array.range xs.length):=by
 have e:aG.K xs (k+1)=List.range k:=by rw [aG.K_succ,hd,aG.K_all xs k h];simp
 refine ⟨by simp,by rw [e];simp,Nat.lt_succ_self _,fun j hj=>?_,fun j _ hj=>?_⟩
 ·
  rw [e,getElem!_pos _ j (by simp;omega)]
  simp [hj]
 ·
  rw [getElem!_pos _ j (by simpa using hj)]
  simp
theorem aG.lay_size:∀ (xs:List Nat) (d:Array Nat) (k:Nat),(Go.Lib.lay d k xs).size=d.size
 | [],_,_=>rfl
 | x :: r,d,k=>by rw [Go.Lib.lay,aG.lay_size r,Array.size_setIfInBounds]
open Go.Sort in
theorem aG.CI_keep {xs:List (List Int)} {m k:Nat} {dk:Array Nat} (h:aG.CI xs m k dk) (hm:m<xs.length) (hk:aG.kp xs m=true):aG.CI xs (m+1) (k+1) (dk.setIfInBounds k m):=by
 have hs:=h.size
 have hl:=h.lt
 refine ⟨by simp [h.size],by rw [aG.K_succ,hk];simp [h.len],by omega,fun j hj=>?_,fun j h1 h2=>?_⟩
 ·
  rw [aG.K_succ,hk,if_pos rfl]
  by_cases e:j=k
  ·
   subst e
   rw [List.getElem?_append_right (by rw [h.len];exact Nat.le_refl _),h.len,Nat.sub_self,getElem!_set_same dk j _ (by omega)]
   rfl
  ·
   rw [List.getElem?_append_left (by rw [h.len];omega),h.low j (by omega),getElem!_set_other dk k j _ e]
 ·
  rw [getElem!_set_other dk k j _ (by omega),h.high j (by omega) h2]
theorem aG.CI_skip {xs:List (List Int)} {m k:Nat} {dk:Array Nat} (h:aG.CI xs m k dk) (hk:aG.kp xs m=false):aG.CI xs (m+1) k dk:=by
 have hl:=h.lt
 refine ⟨h.size,by rw [aG.K_succ,hk];simpa using h.len,by omega,fun j hj=>?_,h.high⟩
 rw [aG.K_succ,hk]
 simpa using h.low j hj
set_option maxHeartbeats 8000000 in
set_option maxRecDepth 1000000 in
open Go.Sort Go.Lib in
theorem aG.calls (W:World) (base:Nat) (ok:Nat→Prop) (v:Value) (xs:List (List Int)) (h:Kd.S (Kd.slice 2 (Kd.int .i64)) 50 W base ok v xs) :
  Calls Tryz.prog 38 #[v,.func (.func 39) #[] #[]] W fun e w'=>∃ v',e=.returned v'∧Kd.S (Kd.slice 2 (Kd.int .i64)) 50 w' base ok v' (au.cdup xs)∧W.grownBy w' v.ownBlock:=by
 by_cases h2:xs.length<2
 ·
  have e:au.cdup xs=xs:=aG.cdup_all xs (fun j hj=>aG.kp_one xs j (by omega))
  obtain ⟨A,c,rfl⟩:=Kd.R_slice (Kd.S_R h)
  have HS:=aA.mk h
  have HE:=aA.mk e
  clear h e
  go_enter Tryz.func38,Tryz.ntmps38
  go_wp2
  go_ret
  exact ⟨_,rfl,by rw [HE.out];exact HS.out,⟨rfl,rfl,rfl,Nat.le_refl _,fun _ _ _=>rfl⟩⟩
 ·
  obtain ⟨g,cap,f,cs,cur,rfl,hok,hb,hh,hn,hm,hs,ht,hcl,hR⟩:=au.opened h (by omega)
  have hgl:=cO hh
  have hrow:=au.rows hcl hR
  have hH:=au.holds hh ht hcl
  have HR:=aA.mk hrow
  have HH:=aA.mk hH
  have HS:=aA.mk h
  have HP:=aA.mk (@au.picked W)
  have HRR:=aA.mk hR
  have HT:=aA.mk ht
  have HCL:=aA.mk hcl
  have HBK:=aA.mk hh
  have HCS:=aA.mk hs
  unfold maxLen at hm
  clear hrow hH h hR ht hcl hh hs
  go_enter Tryz.func38,Tryz.ntmps38
  go_wp2
  go_loopg [5] xs.length (fun gq s5 wr=>∃ k q:Nat,1≤k∧k≤xs.length∧xs.length - k≤gq∧s5=.int .i64 k∧aA (wr=W.drewN q)∧aA (∀ j,j<k→aG.kp xs j=true))
  case atStart=>exact ⟨1,0,Nat.le_refl _,by omega,by omega,rfl,⟨rfl⟩,⟨fun j hj=>aG.kp_one xs j hj⟩⟩
  case round=>
   obtain ⟨k,q,hk1,hk,hgq,rfl,HW,HA⟩:=hrel
   by_cases hlt:k<xs.length
   ·
    have hwh:wr.heap=W.heap:=by rw [HW.out];rfl
    have c1:wr.cell? ⟨g,k,none⟩=some (cs.getD k (.slice none 0 0)):=by
     have:=(HH.out k (by simpa using hlt)).1
     rw [getElem!_pos _ k (by simpa using hlt),Array.getElem_range,Nat.zero_add] at this
     rw [HW.out];exact this
    have c0:wr.cell? ⟨g,k - 1,none⟩=some (cs.getD (k - 1) (.slice none 0 0)):=by
     have:=(HH.out (k - 1) (by simp;omega)).1
     rw [getElem!_pos _ (k - 1) (by simp;omega),Array.getElem_range,Nat.zero_add] at this
     rw [HW.out];exact this
    obtain ⟨A1,n1,e1,l1,r1⟩:=HR.out wr (fun j _ _=>by rw [hwh]) k
    obtain ⟨A0,n0,e0,l0,r0⟩:=HR.out wr (fun j _ _=>by rw [hwh]) (k - 1)
    rw [e1] at c1
    rw [e0] at c0
    clear hwh e1 e0
    generalize hx:xs.getD k []=x at c1 l1 r1
    generalize hy:xs.getD (k - 1) []=y at c0 l0 r0
    have B:=aA.mk (show xs.getD k []=x∧xs.getD (k - 1) []=y from ⟨hx,hy⟩)
    clear hx hy
    obtain ⟨b,hb⟩:∃ b:Bool,decide (x=y)=b:=⟨_,rfl⟩
    have HE:aA (∀ m,Calls Tryz.prog 39 #[.slice A1 x.length n1,.slice A0 y.length n0] (wr.drewN m) fun e w'=>e=.returned (.bool b)∧∃ j,w'=(wr.drewN m).drewN j):=⟨fun m=>aG.eqs (Kd.C_drewN r1 m) l1 (Kd.C_drewN r0 m) l0 hb⟩
    have HBQ:=aA.mk hb
    clear hb l1 l0 r1 r0
    cases b with
    | true=>
     have HD:=aA.mk (show aG.kp xs k=false by
      have:=of_decide_eq_true HBQ.out
      simp only [aG.kp,B.out.1,B.out.2,decide_eq_false_iff_not,not_or]
      exact ⟨by omega,fun h=>h this⟩)
     have hck:¬ cap=k:=by omega
     go_wp2_with fail
     go_quiet ((go_at_call 39;exact Calls.quiet_of (HE.out _)))
     go_wp2
     clear c0 c1 hck
     go_loopg [5,7] xs.length (fun gq s5 s7 wr=>∃ (kk k2 q2:Nat) (dk:Array Nat),s5=.int .i64 kk∧s7=.int .i64 k2∧1≤k2∧k+k2≤xs.length∧xs.length - (k+k2)≤gq∧kk<k+k2∧aA (wr=putRow (fun i=>cs.getD i (.slice none 0 0)) (Go.Sort.ahead W q2) g 0 dk)∧aA (aG.CI xs (k+k2) kk dk))
     case atStart=>exact ⟨k,1,q+nq,Array.range xs.length,rfl,rfl,Nat.le_refl _,by omega,by omega,by omega,⟨by rw [HW.out,World.drewN_drewN];exact (putRow_self _ (Go.Sort.ahead W (q+nq)) g 0 _ (holds_ahead _ W _ g 0 _ HH.out)).symm⟩,⟨aG.CI_start hlt HA.out HD.out⟩⟩
     case round=>
      clear HE HBQ B HW HA HD
      obtain ⟨kk,k2,q2,dk,rfl,rfl,h1,hle,hg2,hkk,HW,HI⟩:=hrel
      have hHk:Holds (fun i=>cs.getD i (.slice none 0 0)) wr g 0 dk:=by rw [HW.out];exact holds_putRow _ _ g 0 _ dk (holds_ahead _ W q2 g 0 _ HH.out) (by rw [HI.out.size];simp)
      have hds:=HI.out.size
      have hwh:∀ j,j<W.heap.size→j≠g→wr.heap[j]?=W.heap[j]?:=fun j _ hj=>by rw [HW.out];exact (au.put HBK.out _ q2 dk).1 j hj
      by_cases hlt2:k+k2<xs.length
      ·
       have c1:=(hHk (k+k2) (by omega)).1
       have c0:=(hHk (k+k2 - 1) (by omega)).1
       obtain ⟨ck,fk⟩:=hHk kk (by omega)
       rw [HI.out.high (k+k2) (by omega) hlt2,Nat.zero_add] at c1
       rw [HI.out.high (k+k2 - 1) (by omega) (by omega),Nat.zero_add,show k+k2 - 1=k+(k2 - 1) by omega] at c0
       rw [Nat.zero_add] at ck fk
       obtain ⟨A1,n1,e1,l1,r1⟩:=HR.out wr hwh (k+k2)
       obtain ⟨A0,n0,e0,l0,r0⟩:=HR.out wr hwh (k+(k2 - 1))
       have E1:=aA.mk e1
       simp only [e1] at c1
       simp only [e0] at c0
       clear hwh e1 e0 hHk
       generalize hx:xs.getD (k+k2) []=x at c1 l1 r1 E1
       generalize hy:xs.getD (k+(k2 - 1)) []=y at c0 l0 r0
       have B:=aA.mk (show xs.getD (k+k2) []=x∧xs.getD (k+k2 - 1) []=y from ⟨hx,by rw [← hy,show k+k2 - 1=k+(k2 - 1) by omega]⟩)
       clear hx hy
       obtain ⟨b,hb⟩:∃ b:Bool,decide (x=y)=b:=⟨_,rfl⟩
       have HE:aA (∀ m,Calls Tryz.prog 39 #[.slice A1 x.length n1,.slice A0 y.length n0] (wr.drewN m) fun e w'=>e=.returned (.bool b)∧∃ j,w'=(wr.drewN m).drewN j):=⟨fun m=>aG.eqs (Kd.C_drewN r1 m) l1 (Kd.C_drewN r0 m) l0 hb⟩
       have HBQ:=aA.mk hb
       have HKB:=aA.mk (show aG.kp xs (k+k2)=!b by rw [← hb];simp only [aG.kp,B.out.1,B.out.2];rw [show decide (k+k2=0∨x≠y)=decide (x≠y) from decide_eq_decide.2 ⟨fun h=>h.resolve_left (by omega),Or.inr⟩];simp)
       generalize (cs.getD dk[kk]! (.slice none 0 0))=old at ck
       clear hb l1 l0 r1 r0 hds
       cases b with
       | true=>
        go_wp2_with fail
        go_quiet ((go_at_call 39;exact Calls.quiet_of (HE.out _)))
        go_wp2
        go_roundg (xs.length - (k+(k2+1)))
        case measure=>omega
        case rel=>exact ⟨kk,k2+1,q2+nq,dk,rfl,by go_num,by omega,by omega,Nat.le_refl _,by omega,⟨by rw [HW.out];simp only [World.drewN,putRow,mapBlock,Go.Sort.ahead,Nat.add_assoc]⟩,⟨aG.CI_skip HI.out HKB.out⟩⟩
       | false=>
        go_wp2_with fail
        go_quiet ((go_at_call 39;exact Calls.quiet_of (HE.out _)))
        go_wp2
        go_roundg (xs.length - (k+(k2+1)))
        case measure=>omega
        case rel=>
         refine ⟨kk+1,k2+1,q2+nq,dk.setIfInBounds kk (k+k2),by go_num,by go_num,by omega,by omega,Nat.le_refl _,by omega,⟨?_⟩,⟨aG.CI_keep HI.out hlt2 HKB.out⟩⟩
         have h1_:=putRow_set (fun i=>cs.getD i (.slice none 0 0)) (Go.Sort.ahead W q2) g 0 dk kk (k+k2) (by have:=HI.out.size;omega)
         simp only [E1.out,Nat.zero_add] at h1_
         rw [HW.out,h1_]
         simp only [World.drewN,putRow,mapBlock,Go.Sort.ahead,Nat.add_assoc]
      have hend:k+k2=xs.length:=by omega
      have hcl:∀ ty,(Builtin.clear_ #[24] ty #[.slice (some ⟨g,kk,none⟩) (xs.length - kk) (cap - kk)]).run Tryz.prog wr=.ok (.tuple #[]) (wr.setCells g kk (List.replicate (xs.length - kk) (.slice none 0 0))):=
       fun ty=>Lib.run_clear_slice wr _ _ ty _ Tryz.underlying24 Tryz.zeroValue50 rfl rfl g kk _ _ (by omega) (fun j hj=>by have:=(hHk (kk+j) (by omega)).1;rw [Nat.zero_add] at this;rw [this];rfl) (fun j hj=>by have:=(hHk (kk+j) (by omega)).2;rwa [Nat.zero_add] at this)
      have hck:¬ cap=kk:=by omega
      clear hHk hwh
      go_wp2
      go_ret
      have hI:aG.CI xs xs.length kk dk:=by have:=HI.out;rwa [hend] at this
      have hs_:=hI.size
      have hl_:=hI.lt
      have hcz:=HCS.out
      have hW:wr.setCells g kk (List.replicate (xs.length - kk) (.slice none 0 0))=putRow (fun i=>cs.getD i (.slice none 0 0)) (Go.Sort.ahead W q2) g 0 (Go.Lib.lay dk kk (List.replicate (xs.length - kk) xs.length)):=by
       have h1_:=Go.Lib.putRow_setCells (fun i=>cs.getD i (.slice none 0 0)) (Go.Sort.ahead W q2) g 0 (List.replicate (xs.length - kk) xs.length) dk kk (by rw [List.length_replicate];omega)
       rw [List.map_replicate,Nat.zero_add,show (cs.getD xs.length (.slice none 0 0):Value)=.slice none 0 0 by rw [List.getD_eq_getElem?_getD,List.getElem?_eq_none (by have:=HCL.out;omega)];rfl] at h1_
       rw [HW.out]
       exact h1_
      obtain ⟨p1,p2⟩:=au.put HBK.out (fun i=>cs.getD i (.slice none 0 0)) q2 (Go.Lib.lay dk kk (List.replicate (xs.length - kk) xs.length))
      refine ⟨_,rfl,?_,?_⟩
      ·
       rw [← aG.cdup_eq,hW]
       have:=HP.out hok hb HCL.out HRR.out (fun j _ hj=>p1 j hj) (aG.K xs xs.length) (List.nodup_range.filter _) (fun i hi=>List.mem_range.1 (List.mem_filter.1 hi).1) p2 (by simp only [putCells,Array.size_mapIdx];exact hcz) (by rw [hI.len];omega) (by unfold maxLen;omega) (au.head (n:=kk) (by omega) hI.len (by rw [aG.lay_size];omega) (fun j hj=>by
        have h2_:=Go.Lib.lay_get? (List.replicate (xs.length - kk) xs.length) dk kk j (by rw [List.length_replicate];omega)
        rw [if_neg (by omega)] at h2_
        rw [hI.low j hj,getElem!_pos dk j (by omega),getElem!_pos _ j (by rw [aG.lay_size];omega),← Array.getElem?_eq_getElem,← Array.getElem?_eq_getElem,h2_]))
       rw [hI.len] at this
       exact this
      ·
       rw [hW]
       exact ⟨rfl,rfl,rfl,by rw [size_putRow];exact Nat.le_refl _,fun j _ hne=>p1 j (fun e=>hne (by rw [e];rfl))⟩
    | false=>
     go_wp2_with fail
     go_quiet ((go_at_call 39;exact Calls.quiet_of (HE.out _)))
     go_wp2
     go_roundg (xs.length - (k+1))
     case measure=>omega
     case rel=>exact ⟨k+1,q+nq,by omega,by omega,Nat.le_refl _,by go_num,⟨by rw [HW.out,World.drewN_drewN]⟩,⟨fun j hj=>by
      by_cases e:j=k
      ·
       have:=of_decide_eq_false HBQ.out
       subst e
       simp only [aG.kp,B.out.1,B.out.2,decide_eq_true_eq]
       exact Or.inr this
      ·
       exact HA.out j (by omega)⟩⟩
   have hkn:k=xs.length:=by omega
   subst hkn
   go_wp2
   go_ret
   refine ⟨_,rfl,?_,?_⟩
   ·
    rw [aG.cdup_all xs HA.out,HW.out]
    exact Kd.S_drewN HS.out q
   ·
    rw [HW.out]
    exact ⟨rfl,rfl,rfl,Nat.le_refl _,fun _ _ _=>rfl⟩
def ap.l0:Nat→List (List Int)→List (List Int)→Int→Option (Bool)
 | 0,_,_,_=>none
 | k+1,x0,x1,x5=>if x5<(x0.length:Int) then (if 0≤x5 then (if x5<(x1.length:Int) then ((bF.f k (bE x0 x5) (bE x1 x5)).bind fun t583=>(if t583=true then (ap.l0 k x0 x1 (wrap64 (x5+1))) else (some false))) else (none)) else (none)) else (some true)
def ap.f (k:Nat) (l0:List (List Int)) (l1:List (List Int)):Option (Bool):=if (l0.length:Int)=(l1.length:Int) then (ap.l0 k l0 l1 0) else (some false)
set_option maxHeartbeats 8000000 in
set_option maxRecDepth 100000 in
theorem ap.calls (k:Nat) (A0:Option Addr) (c0:Nat) (l0:List (List Int)) (A1:Option Addr) (c1:Nat) (l1:List (List Int)) (r:Bool) (w:World) (hr0:Kd.C (Kd.slice 2 (Kd.int .i64)) w A0 l0.length l0) (hc0:l0.length≤c0) (hr1:Kd.C (Kd.slice 2 (Kd.int .i64)) w A1 l1.length l1) (hc1:l1.length≤c1) (h:ap.f k l0 l1=some r) :
  Calls Tryz.prog 9 #[.slice A0 l0.length c0,.slice A1 l1.length c1] w fun e w'=>e=.returned (.bool r)∧aI w w':=by
 have HR0:=aA.mk hr0
 have HC0:=aA.mk hc0
 clear hr0 hc0
 have HR1:=aA.mk hr1
 have HC1:=aA.mk hc1
 clear hr1 hc1
 have H:=h
 unfold ap.f at H
 clear h
 by_cases c3:(l0.length:Int)=(l1.length:Int)
 focus
  rw [if_pos c3] at H
  have c3b0:((l0.length:Int) == (l1.length:Int))=true:=beq_iff_eq.mpr c3
  have c3b1:((l0.length:Int) != (l1.length:Int))=false:=bne_eq_false_iff_eq.mpr c3
  have c3b2:(l0.length == l1.length)=true:=by first|simpa using c3|(simp at c3 ⊢;omega)
  clear c3
  have H':=aA.mk H
  clear H
 rotate_left
 focus
  rw [if_neg c3] at H
  have c3b0:((l0.length:Int) == (l1.length:Int))=false:=beq_eq_false_iff_ne.mpr c3
  have c3b1:((l0.length:Int) != (l1.length:Int))=true:=bne_iff_ne.mpr c3
  have c3b2:(l0.length == l1.length)=false:=by first|simpa using c3|(simp at c3 ⊢;omega)
  obtain rfl:=Option.some.inj H
 rotate_left
 all_goals
  go_enter Tryz.func9,Tryz.ntmps9
  go_wp2
  repeat (go_quiet (fail);try go_wp2)
 ·
  go_loopg [5] k (fun kq v5 w'=>∃ (x5_1:Int),v5=.int .i64 x5_1∧aA (ap.l0 kq l0 l1 x5_1=some r)∧aA (kq≤k)∧aI w w')
  case atStart=>exact ⟨(0),hB,H',⟨Nat.le_refl _⟩,by repeat (first|exact aI.refl _|apply aI.step)⟩
  case round=>
   clear H'
   try clear c1
   try clear c3
   try clear c3b0
   try clear c3b1
   try clear c3b2
   obtain ⟨x5_1,rfl,HA,HK1,⟨m1,rfl⟩⟩:=hrel
   cases gk with
   | zero=>exact absurd HA.out (by simp [ap.l0])
   | succ k1=>
    have H:=HA.out
    clear HA
    simp only [ap.l0] at H
    by_cases c4:x5_1<(l0.length:Int)
    ·
     rw [if_pos c4] at H
     have c4b0:=decide_eq_true c4
     clear c4
     by_cases c5:0≤x5_1
     rotate_left
     ·
      rw [if_neg c5] at H
      exact absurd H (by simp)
     rw [if_pos c5] at H
     have c5b0:=decide_eq_true c5
     clear c5
     by_cases c6:x5_1<(l1.length:Int)
     rotate_left
     ·
      rw [if_neg c6] at H
      exact absurd H (by simp)
     rw [if_pos c6] at H
     have c6b0:=decide_eq_true c6
     clear c6
     replace H:=bS H
     obtain ⟨t583,A7,H⟩:=H
     try dsimp only at H
     by_cases c8:t583=true
     ·
      subst c8
      rw [if_pos rfl] at H
      try dsimp only at H
      have H':=aA.mk H
      clear H
      have p581:0≤(x5_1:Int):=dA
      have q581:x5_1<(l0.length:Int):=dA
      obtain ⟨ad581,A581_0,c581_0,e581,hx581_0,hl581_0,hi581_0⟩:=fp HR0.out x5_1 p581 q581
      cases e581
      have HR581_0:=aA.mk hi581_0
      have HC581_0:=aA.mk hl581_0
      clear hi581_0 hl581_0
      replace p581:=eq_true p581
      replace q581:=eq_true q581
      have p582:0≤(x5_1:Int):=dA
      have q582:x5_1<(l1.length:Int):=dA
      obtain ⟨ad582,A582_0,c582_0,e582,hx582_0,hl582_0,hi582_0⟩:=fp HR1.out x5_1 p582 q582
      cases e582
      have HR582_0:=aA.mk hi582_0
      have HC582_0:=aA.mk hl582_0
      clear hi582_0 hl582_0
      replace p582:=eq_true p582
      replace q582:=eq_true q582
      go_wp2_with (first|(go_at_call 40;(with_reducible refine (bF.calls k1 _ _ (bE l0 x5_1) _ _ (bE l1 x5_1) true _ ?side1 ?side2 ?side3 ?side4 A7.out).mono ?_);(case side1=>exact cR HR581_0.out);(case side2=>exact HC581_0.out);(case side3=>exact cR HR582_0.out);(case side4=>exact HC582_0.out);rintro e w' ⟨rfl,⟨nd,rfl⟩⟩;(try exact dd)))
      repeat (go_quiet (first|(go_at_call 40;(with_reducible refine (bF.calls k1 _ _ (bE l0 x5_1) _ _ (bE l1 x5_1) true _ ?side1 ?side2 ?side3 ?side4 A7.out).mono ?_);(case side1=>exact cR HR581_0.out);(case side2=>exact HC581_0.out);(case side3=>exact cR HR582_0.out);(case side4=>exact HC582_0.out);rintro e w' ⟨rfl,⟨nd,rfl⟩⟩;(try exact dd)));try go_wp2_with (first|(go_at_call 40;(with_reducible refine (bF.calls k1 _ _ (bE l0 x5_1) _ _ (bE l1 x5_1) true _ ?side1 ?side2 ?side3 ?side4 A7.out).mono ?_);(case side1=>exact cR HR581_0.out);(case side2=>exact HC581_0.out);(case side3=>exact cR HR582_0.out);(case side4=>exact HC582_0.out);rintro e w' ⟨rfl,⟨nd,rfl⟩⟩;(try exact dd))))
      go_roundg k1
      case measure=>have:=HK1.out;omega
      case rel=>exact ⟨(wrap64 (x5_1+1)),hB,H',⟨by have:=HK1.out;omega⟩,by repeat (first|exact aI.refl _|apply aI.step)⟩
     ·
      replace c8:=Bool.eq_false_iff.mpr c8
      subst c8
      rw [if_neg (show ¬ (false=true) by decide)] at H
      try dsimp only at H
      obtain rfl:=Option.some.inj H
      have p581:0≤(x5_1:Int):=dA
      have q581:x5_1<(l0.length:Int):=dA
      obtain ⟨ad581,A581_0,c581_0,e581,hx581_0,hl581_0,hi581_0⟩:=fp HR0.out x5_1 p581 q581
      cases e581
      have HR581_0:=aA.mk hi581_0
      have HC581_0:=aA.mk hl581_0
      clear hi581_0 hl581_0
      replace p581:=eq_true p581
      replace q581:=eq_true q581
      have p582:0≤(x5_1:Int):=dA
      have q582:x5_1<(l1.length:Int):=dA
      obtain ⟨ad582,A582_0,c582_0,e582,hx582_0,hl582_0,hi582_0⟩:=fp HR1.out x5_1 p582 q582
      cases e582
      have HR582_0:=aA.mk hi582_0
      have HC582_0:=aA.mk hl582_0
      clear hi582_0 hl582_0
      replace p582:=eq_true p582
      replace q582:=eq_true q582
      go_wp2_with (first|(go_at_call 40;(with_reducible refine (bF.calls k1 _ _ (bE l0 x5_1) _ _ (bE l1 x5_1) false _ ?side1 ?side2 ?side3 ?side4 A7.out).mono ?_);(case side1=>exact cR HR581_0.out);(case side2=>exact HC581_0.out);(case side3=>exact cR HR582_0.out);(case side4=>exact HC582_0.out);rintro e w' ⟨rfl,⟨nd,rfl⟩⟩;(try exact dd)))
      repeat (go_quiet (first|(go_at_call 40;(with_reducible refine (bF.calls k1 _ _ (bE l0 x5_1) _ _ (bE l1 x5_1) false _ ?side1 ?side2 ?side3 ?side4 A7.out).mono ?_);(case side1=>exact cR HR581_0.out);(case side2=>exact HC581_0.out);(case side3=>exact cR HR582_0.out);(case side4=>exact HC582_0.out);rintro e w' ⟨rfl,⟨nd,rfl⟩⟩;(try exact dd)));try go_wp2_with (first|(go_at_call 40;(with_reducible refine (bF.calls k1 _ _ (bE l0 x5_1) _ _ (bE l1 x5_1) false _ ?side1 ?side2 ?side3 ?side4 A7.out).mono ?_);(case side1=>exact cR HR581_0.out);(case side2=>exact HC581_0.out);(case side3=>exact cR HR582_0.out);(case side4=>exact HC582_0.out);rintro e w' ⟨rfl,⟨nd,rfl⟩⟩;(try exact dd))))
      go_ret
      exact ⟨by first|rfl|(simp;done)|(simp [*];done),by repeat (first|exact aI.refl _|apply aI.step)⟩
    ·
     rw [if_neg c4] at H
     have c4b0:=decide_eq_false c4
     clear c4
     obtain rfl:=Option.some.inj H
     go_wp2
     repeat (go_quiet (fail);try go_wp2)
     go_ret
     exact ⟨by first|rfl|(simp;done)|(simp [*];done),by repeat (first|exact aI.refl _|apply aI.step)⟩
 ·
  go_ret
  exact ⟨by first|rfl|(simp;done)|(simp [*];done),by repeat (first|exact aI.refl _|apply aI.step)⟩
def dN.f (a0_0 a0_1 a0_2 a0_3 a1_0 a1_1 a1_2 a1_3:Int):Option (Bool):=some (decide (a0_0=a1_0∧a0_1=a1_1∧a0_2=a1_2∧a0_3=a1_3))
set_option maxHeartbeats 8000000 in
set_option maxRecDepth 100000 in
theorem dN.calls (a0_0 a0_1 a0_2 a0_3 a1_0 a1_1 a1_2 a1_3:Int) (r:Bool) (w:World) (h:dN.f a0_0 a0_1 a0_2 a0_3 a1_0 a1_1 a1_2 a1_3=some r) :
  Calls Tryz.prog 41 #[.agg #[.int .i64 a0_0,.int .i64 a0_1,.int .i64 a0_2,.int .i64 a0_3],.agg #[.int .i64 a1_0,.int .i64 a1_1,.int .i64 a1_2,.int .i64 a1_3]] w fun e w'=>e=.returned (.bool r)∧Below w.heap.size w w':=by
 have HR:=aA.mk (Option.some.inj h)
 clear h
 have HB:=aA.mk (Below.refl w.heap.size w)
 go_enter Tryz.func41,Tryz.ntmps41
 go_wp2
 refine wp_loop_rounds 3 ?_
 repeat any_goals (first
  | (rw [rounds_succ];go_wp2)
  | ((go_region_with (go_at_call 78;refine (dy.calls _ _ _ _ _ _ rfl).mono ?_;rintro e w' ⟨rfl,hb⟩)) <;> (
   have n0_:=aA.mk (below_step (by repeat (first|(with_reducible exact HB.out)|apply bp|apply bV|apply al)) hb)
   obtain ⟨hc,hf⟩:=bcell hb
   clear HB hb
   have HB:=n0_
   clear n0_
   go_wp2)))
 all_goals go_returns
 all_goals refine ⟨bret ?_,by repeat (first|(with_reducible exact HB.out)|apply bp|apply bV|apply al)⟩
 all_goals rw [← HR.out]
 all_goals clear HR
 all_goals try simp only [Bool.not_eq_true',Bool.not_eq_false',decide_eq_false_iff_not,decide_eq_true_eq] at *
 all_goals first
  | (symm;refine decide_eq_false ?_;omega)
  | (symm;refine decide_eq_true ?_;omega)
open Go.Proofs.YtnhiehpbkimaeaaGreatW.PrintWords.Kd in
theorem markss_back {W W2:World} {base g n cap:Nat} {ok oki:Nat→Prop} {xs:List (List Int)} {i:Int} {vr:Value} {row t2:List Int} (hH:H (Kd.slice 2 (Kd.int .i64)) 50 W base ok (.slice (some ⟨g,0,none⟩) n cap) xs i oki [vr]) (hR:R (Kd.int .i64) 2 W base oki vr row) (hr:R (Kd.int .i64) 2 W2 base (fun k=>some k=vr.ownBlock∨W.heap.size≤k) vr t2) (hk:cG W W2 (fun k=>some k=vr.ownBlock)):S (Kd.slice 2 (Kd.int .i64)) 50 W2 base ok (.slice (some ⟨g,0,none⟩) n cap) (xs.set i.toNat t2):=
 H_back (H_kept hH hk (fun k _ hn e=>hn (hR.1 k e.symm))) ⟨vr,rfl,R_mono (R_tight rfl hr) (fun k e=>hR.1 k e.symm)⟩ (fun _ h=>h)
def bK.l0:Nat→List (List Int)→Int→Int→Option (Int × List (List Int))
 | 0,_,_,_=>none
 | k+1,x0,x1,x5=>if x5<(x0.length:Int) then (if 0≤x5 then ((ar.f k (bE x0 x5) x1).bind fun bt=>(bK.l0 k (x0.set (x5:Int).toNat bt.2) bt.1 (wrap64 (x5+1)))) else (none)) else (some (x1,x0))
def bK.f (k:Nat) (l0:List (List Int)) (a1:Int):Option (Int × List (List Int)):=bK.l0 k l0 a1 0
set_option maxHeartbeats 8000000 in
set_option maxRecDepth 100000 in
theorem bK.calls (k:Nat) (P0_:Nat→Prop) (u9000_:Value) (l0:List (List Int)) (a1 r1:Int) (r2:List (List Int)) (w0 w:World) (hB:Below w0.heap.size w0 w) (ho0:Kd.S (Kd.slice 2 (Kd.int .i64)) 50 w w0.heap.size P0_ u9000_ l0) (h:bK.f k l0 a1=some (r1,r2)) :
  Calls Tryz.prog 12 #[u9000_,.int .i64 a1] w fun e w'=>e=.returned (.int .i64 r1)∧Kd.S (Kd.slice 2 (Kd.int .i64)) 50 w' w0.heap.size P0_ u9000_ r2∧Below w0.heap.size w0 w'∧cG w w' (fun k_=>P0_ k_):=by
 have HO0:=aA.mk ho0
 have HK:=aA.mk (cG.refl w (fun k_=>P0_ k_))
 have HB:=aA.mk hB
 clear hB ho0
 have H:=h
 unfold bK.f at H
 clear h
 have H':=aA.mk H
 clear H
 go_enter Tryz.func12,Tryz.ntmps12
 go_wp2
 go_loopg [1,5] k (fun kq v1 v5 w'=>∃ (x0_1:List (List Int)) (x1_1:Int) (x5_1:Int),v1=.int .i64 x1_1∧v5=.int .i64 x5_1∧aA (bK.l0 kq x0_1 x1_1 x5_1=some (r1,r2))∧aA (kq≤k)∧aA (Kd.S (Kd.slice 2 (Kd.int .i64)) 50 w' w0.heap.size P0_ u9000_ x0_1)∧aA (cG w w' (fun k_=>P0_ k_))∧aA (Below w0.heap.size w0 w'))
 case atStart=>exact ⟨l0,a1,0,rfl,rfl,H',⟨Nat.le_refl _⟩,⟨by (with_reducible repeat (first|apply Kd.S_alloc|apply Kd.S_drewN|apply Kd.S_drew));exact HO0.out⟩,⟨by repeat (first|(with_reducible first|exact HK.out|apply cG.alloc|apply cG.drewN|apply cG.drew)|exact HK.out)⟩,⟨blA⟩⟩
 case round=>
  clear H'
  obtain ⟨x0_1,x1_1,x5_1,rfl,rfl,HA,HK1,HO_0,HK,HB⟩:=hrel
  cases gk with
  | zero=>exact absurd HA.out (by simp [bK.l0])
  | succ k1=>
   have H:=HA.out
   clear HA
   simp only [bK.l0] at H
   by_cases c3:x5_1<(x0_1.length:Int)
   ·
    rw [if_pos c3] at H
    by_cases c4:0≤x5_1
    rotate_left
    ·
     rw [if_neg c4] at H
     exact absurd H (by simp)
    rw [if_pos c4] at H
    replace H:=Option.bind_eq_some_iff.mp H
    obtain ⟨⟨t1,t2⟩,A5,H⟩:=H
    try dsimp only at H
    have H':=aA.mk H
    clear H
    obtain ⟨gq,cq,eq_,gbq,glq,clsq,clq⟩:=Kd.S_form HO_0.out (by omega)
    subst eq_
    obtain ⟨oki,cc_,hcl_,hM_,hcc_,hoki,hH⟩:=Kd.S_lend HO_0.out [] x5_1 c4 c3
    obtain ⟨vr,rfl,hR⟩:=hM_
    have hxo:=hcc_ 0 _ rfl
    rw [Nat.add_zero,show ((Kd.slice 2 (Kd.int .i64))).sz=1 from rfl,Nat.mul_one] at hxo
    replace hR:Kd.R (Kd.int .i64) 2 _ _ _ vr (bE x0_1 x5_1):=hR
    obtain ⟨Ar,cr,rfl⟩:=Kd.R_slice hR
    have HR900:=aA.mk hR
    have HKI:=aA.mk hoki
    have HH:=aA.mk hH
    have A5_:=aA.mk A5
    clear hR hoki hH hcc_ hcl_ gbq glq clq A5
    have c3b0:=decide_eq_true c3
    have p5:=eq_true c4
    have q5:=eq_true c3
    clear c3 c4
    go_wp2_with (first|((with_reducible refine a6 (f:=42) rfl ?_);refine gL (some 17) rfl Tryz.func42 #[.slice Ar (bE x0_1 x5_1).length cr,.int .i64 x1_1] ?_;(refine (ar.calls k1 (fun k_=>some k_=(Value.slice Ar (bE x0_1 x5_1).length cr).ownBlock) _ (bE x0_1 x5_1) x1_1 t1 t2 w0 _ blA (by (with_reducible repeat (first|apply Kd.R_alloc|apply Kd.R_drewN|apply Kd.R_drew));exact Kd.R_tight rfl HR900.out) A5_.out).mono ?_);rintro e w9 ⟨rfl,hr9,hb9,hk9⟩;refine ⟨_,rfl,?_⟩;replace HO_0:=aA.mk (markss_back HH.out HR900.out hr9 hk9);replace HK:=aA.mk (HK.out.then_ hk9 (fun k_ e_=>.inl (HKI.out k_ (HR900.out.1 k_ e_.symm)).1));replace HB:=aA.mk hb9;clear HR900 HKI HH;clear hr9 hb9 hk9))
    go_roundg k1
    case measure=>have:=HK1.out;omega
    case rel=>exact ⟨(x0_1.set (x5_1:Int).toNat t2),t1,(wrap64 (x5_1+1)),rfl,rfl,H',⟨by have:=HK1.out;omega⟩,⟨by (with_reducible repeat (first|apply Kd.S_alloc|apply Kd.S_drewN|apply Kd.S_drew));exact HO_0.out⟩,⟨by repeat (first|(with_reducible first|exact HK.out|apply cG.alloc|apply cG.drewN|apply cG.drew)|exact HK.out)⟩,⟨blA⟩⟩
   ·
    rw [if_neg c3] at H
    have c3b0:=decide_eq_false c3
    clear c3
    simp only [Option.some.injEq,Prod.mk.injEq] at H
    obtain ⟨rfl,rfl⟩:=H
    obtain ⟨Ao9,co9,eo9⟩:=Kd.S_slice HO_0.out
    subst eo9
    go_wp2
    go_ret
    exact ⟨eW,by (with_reducible repeat (first|apply Kd.S_alloc|apply Kd.S_drewN|apply Kd.S_drew));exact HO_0.out,blA,by repeat (first|(with_reducible first|exact HK.out|apply cG.alloc|apply cG.drewN|apply cG.drew)|exact HK.out)⟩
def bC.l0:Nat→List (List Int)→Int→Int→Option (Int)
 | 0,_,_,_=>none
 | k+1,x0,x1,x5=>if x5<(x0.length:Int) then (if 0≤x5 then ((ay.f k (bE x0 x5) x1).bind fun t590=>(if t590<0 then (some (-1)) else (bC.l0 k x0 t590 (wrap64 (x5+1))))) else (none)) else (some x1)
def bC.f (k:Nat) (l0:List (List Int)) (a1:Int):Option (Int):=bC.l0 k l0 a1 0
set_option maxHeartbeats 8000000 in
set_option maxRecDepth 100000 in
theorem bC.calls (k:Nat) (A0:Option Addr) (c0:Nat) (l0:List (List Int)) (a1 r:Int) (w:World) (hr0:Kd.C (Kd.slice 2 (Kd.int .i64)) w A0 l0.length l0) (hc0:l0.length≤c0) (h:bC.f k l0 a1=some r) :
  Calls Tryz.prog 13 #[.slice A0 l0.length c0,.int .i64 a1] w fun e w'=>e=.returned (.int .i64 r)∧aI w w':=by
 have HR0:=aA.mk hr0
 have HC0:=aA.mk hc0
 clear hr0 hc0
 have H:=h
 unfold bC.f at H
 clear h
 have H':=aA.mk H
 clear H
 go_enter Tryz.func13,Tryz.ntmps13
 go_wp2
 go_loopg [1,5] k (fun kq v1 v5 w'=>∃ (x1_1:Int) (x5_1:Int),v1=.int .i64 x1_1∧v5=.int .i64 x5_1∧aA (bC.l0 kq l0 x1_1 x5_1=some r)∧aA (kq≤k)∧aI w w')
 case atStart=>exact ⟨(a1),(0),hB,hB,H',⟨Nat.le_refl _⟩,by repeat (first|exact aI.refl _|apply aI.step)⟩
 case round=>
  clear H'
  obtain ⟨x1_1,x5_1,rfl,rfl,HA,HK1,⟨m1,rfl⟩⟩:=hrel
  cases gk with
  | zero=>exact absurd HA.out (by simp [bC.l0])
  | succ k1=>
   have H:=HA.out
   clear HA
   simp only [bC.l0] at H
   by_cases c3:x5_1<(l0.length:Int)
   ·
    rw [if_pos c3] at H
    have c3b0:=decide_eq_true c3
    clear c3
    by_cases c4:0≤x5_1
    rotate_left
    ·
     rw [if_neg c4] at H
     exact absurd H (by simp)
    rw [if_pos c4] at H
    have c4b0:=decide_eq_true c4
    clear c4
    replace H:=bS H
    obtain ⟨t590,A5,H⟩:=H
    try dsimp only at H
    by_cases c6:t590<0
    focus
     rw [if_pos c6] at H
     have c6b0:=decide_eq_true c6
     clear c6
     obtain rfl:=Option.some.inj H
     have p589:0≤(x5_1:Int):=dA
     have q589:x5_1<(l0.length:Int):=dA
     obtain ⟨ad589,A589_0,c589_0,e589,hx589_0,hl589_0,hi589_0⟩:=fp HR0.out x5_1 p589 q589
     cases e589
     have HR589_0:=aA.mk hi589_0
     have HC589_0:=aA.mk hl589_0
     clear hi589_0 hl589_0
     replace p589:=eq_true p589
     replace q589:=eq_true q589
    rotate_left
    focus
     rw [if_neg c6] at H
     have c6b0:=decide_eq_false c6
     clear c6
     have H':=aA.mk H
     clear H
     have p589:0≤(x5_1:Int):=dA
     have q589:x5_1<(l0.length:Int):=dA
     obtain ⟨ad589,A589_0,c589_0,e589,hx589_0,hl589_0,hi589_0⟩:=fp HR0.out x5_1 p589 q589
     cases e589
     have HR589_0:=aA.mk hi589_0
     have HC589_0:=aA.mk hl589_0
     clear hi589_0 hl589_0
     replace p589:=eq_true p589
     replace q589:=eq_true q589
    rotate_left
    all_goals
     go_wp2_with (first|((with_reducible refine gd 17 rfl ?_);refine gC (some 17) rfl Tryz.func43 (ay.calls (w:=_) (hr0:=cR HR589_0.out) (hc0:=HC589_0.out) (h:=A5.out)) ?_;rintro _ ⟨nd,rfl⟩))
    ·
     go_ret
     exact ⟨by first|rfl|(simp;done)|(simp [*];done),by repeat (first|exact aI.refl _|apply aI.step)⟩
    ·
     go_roundg k1
     case measure=>have:=HK1.out;omega
     case rel=>exact ⟨(t590),(wrap64 (x5_1+1)),hB,hB,H',⟨by have:=HK1.out;omega⟩,by repeat (first|exact aI.refl _|apply aI.step)⟩
   ·
    rw [if_neg c3] at H
    have c3b0:=decide_eq_false c3
    clear c3
    obtain rfl:=Option.some.inj H
    go_wp2
    go_ret
    exact ⟨by first|rfl|(simp;done)|(simp [*];done),by repeat (first|exact aI.refl _|apply aI.step)⟩
def ci.f (k:Nat) (a0:Int) (l1:List (S59)) (a2:Int):Option (Int):=(aq.f a0).bind fun t104=>(if t104=true then ((bN.f k l1 6).bind fun t105=>(if t105=0 then ((av.f a2 0 3).bind fun t106=>(if t106=true then (some t105) else (some 2))) else (some t105))) else (some 1))
set_option maxHeartbeats 8000000 in
set_option maxRecDepth 100000 in
theorem ci.calls (k:Nat) (a0:Int) (A1:Option Addr) (c1:Nat) (l1:List (S59)) (a2 r:Int) (w:World) (hr1:Kd.C k59 w A1 l1.length l1) (hc1:l1.length≤c1) (h:ci.f k a0 l1 a2=some r) :
  Calls Tryz.prog 26 #[.int .i64 a0,.slice A1 l1.length c1,.int .i64 a2] w fun e w'=>e=.returned (.int .i64 r)∧Below w.heap.size w w':=by
 have HR1:=aA.mk hr1
 have HC1:=aA.mk hc1
 clear hr1 hc1
 have HB:=aA.mk (Below.refl w.heap.size w)
 have H:=h
 unfold ci.f at H
 clear h
 replace H:=bS H
 obtain ⟨t104,A4,H⟩:=H
 try dsimp only at H
 by_cases c5:t104=true
 ·
  subst c5
  rw [if_pos rfl] at H
  try dsimp only at H
  replace H:=bS H
  obtain ⟨t105,A6,H⟩:=H
  try dsimp only at H
  by_cases c7:t105=0
  ·
   rw [if_pos c7] at H
   have c7b0:(t105 == 0)=true:=beq_iff_eq.mpr c7
   have c7b1:(t105 != 0)=false:=bne_eq_false_iff_eq.mpr c7
   clear c7
   replace H:=bS H
   obtain ⟨t106,A8,H⟩:=H
   try dsimp only at H
   by_cases c9:t106=true
   ·
    subst c9
    rw [if_pos rfl] at H
    try dsimp only at H
    obtain rfl:=Option.some.inj H
    go_enter Tryz.func26,Tryz.ntmps26
    go_wp2_with (first|((with_reducible refine gd 9 rfl ?_);refine gC (some 9) rfl Tryz.func51 (aq.calls (w:=_) (h:=A4.out)) ?_;rintro _ ⟨nd,rfl⟩)|((with_reducible refine gd 12 rfl ?_);refine gC (some 12) rfl Tryz.func66 (bN.calls (w:=_) (hr0:=cR HR1.out) (hc0:=HC1.out) (h:=A6.out)) ?_;intro w10 hb;replace HB:=lB hb;clear hb)|(go_at_call 52;(with_reducible refine (av.calls a2 0 3 true _ A8.out).mono ?_);rintro e w' ⟨rfl,⟨nd,rfl⟩⟩))
    go_ret
    exact cE blA
   ·
    replace c9:=Bool.eq_false_iff.mpr c9
    subst c9
    rw [if_neg (show ¬ (false=true) by decide)] at H
    try dsimp only at H
    obtain rfl:=Option.some.inj H
    go_enter Tryz.func26,Tryz.ntmps26
    go_wp2_with (first|((with_reducible refine gd 9 rfl ?_);refine gC (some 9) rfl Tryz.func51 (aq.calls (w:=_) (h:=A4.out)) ?_;rintro _ ⟨nd,rfl⟩)|((with_reducible refine gd 12 rfl ?_);refine gC (some 12) rfl Tryz.func66 (bN.calls (w:=_) (hr0:=cR HR1.out) (hc0:=HC1.out) (h:=A6.out)) ?_;intro w11 hb;replace HB:=lB hb;clear hb)|(go_at_call 52;(with_reducible refine (av.calls a2 0 3 false _ A8.out).mono ?_);rintro e w' ⟨rfl,⟨nd,rfl⟩⟩))
    go_ret
    exact cE blA
  ·
   rw [if_neg c7] at H
   have c7b0:(t105 == 0)=false:=beq_eq_false_iff_ne.mpr c7
   have c7b1:(t105 != 0)=true:=bne_iff_ne.mpr c7
   obtain rfl:=Option.some.inj H
   go_enter Tryz.func26,Tryz.ntmps26
   go_wp2_with (first|((with_reducible refine gd 9 rfl ?_);refine gC (some 9) rfl Tryz.func51 (aq.calls (w:=_) (h:=A4.out)) ?_;rintro _ ⟨nd,rfl⟩)|((with_reducible refine gd 12 rfl ?_);refine gC (some 12) rfl Tryz.func66 (bN.calls (w:=_) (hr0:=cR HR1.out) (hc0:=HC1.out) (h:=A6.out)) ?_;intro w12 hb;replace HB:=lB hb;clear hb))
   go_ret
   exact cE blA
 ·
  replace c5:=Bool.eq_false_iff.mpr c5
  subst c5
  rw [if_neg (show ¬ (false=true) by decide)] at H
  try dsimp only at H
  obtain rfl:=Option.some.inj H
  go_enter Tryz.func26,Tryz.ntmps26
  go_wp2_with (first|((with_reducible refine gd 9 rfl ?_);refine gC (some 9) rfl Tryz.func51 (aq.calls (w:=_) (h:=A4.out)) ?_;rintro _ ⟨nd,rfl⟩))
  go_ret
  exact cE blA
def dB.f (k:Nat) (a0 a1_0 a1_1 a1_2 a2_0 a2_1 a2_2:Int):Option (Int):=(cD.f k a0 a1_0 a1_1 a1_2 a2_0 a2_1 a2_2).bind fun bt114=>(if bt114.2=true then (some (mn (mn a1_0 a2_0) bt114.1)) else (some (mn a1_0 a2_0)))
set_option maxHeartbeats 8000000 in
set_option maxRecDepth 100000 in
theorem dB.calls (k:Nat) (a0 a1_0 a1_1 a1_2 a2_0 a2_1 a2_2 r:Int) (w:World) (h:dB.f k a0 a1_0 a1_1 a1_2 a2_0 a2_1 a2_2=some r) :
  Calls Tryz.prog 68 #[.int .i64 a0,.agg #[.int .i64 a1_0,.int .i64 a1_1,.int .i64 a1_2],.agg #[.int .i64 a2_0,.int .i64 a2_1,.int .i64 a2_2]] w fun e w'=>e=.returned (.int .i64 r)∧Below w.heap.size w w':=by
 have hu43:=Tryz.underlying43
 have HB:=aA.mk (Below.refl w.heap.size w)
 have H:=h
 unfold dB.f at H
 clear h
 obtain ⟨ji4,hji4⟩:∃ j_:Int,(mn a1_0 a2_0)=j_:=⟨_,rfl⟩
 replace H:((cD.f k a0 a1_0 a1_1 a1_2 a2_0 a2_1 a2_2).bind fun bt114=>(if bt114.2=true then (some (mn (ji4) bt114.1)) else (some ji4)))=some r:=by first|(rw [hji4] at H;exact H)|(simp only [hji4] at H ⊢;exact H)
 have hji4_:(if a2_0<a1_0 then a2_0 else a1_0)=ji4:=hji4
 replace H:=bS H
 obtain ⟨⟨t114,t115⟩,A5,H⟩:=H
 try dsimp only at H
 by_cases c6:t115=true
 focus
  subst c6
  rw [if_pos rfl] at H
  try dsimp only at H
  obtain ⟨ji7,hji7⟩:∃ j_:Int,(mn (ji4) t114)=j_:=⟨_,rfl⟩
  replace H:(some ji7)=some r:=by first|(rw [hji7] at H;exact H)|(simp only [hji7] at H ⊢;exact H)
  (try rw [hji7] at A5)
  have hji7_:(if t114<(ji4) then t114 else (ji4))=ji7:=hji7
  obtain rfl:=Option.some.inj H
 rotate_left
 focus
  replace c6:=Bool.eq_false_iff.mpr c6
  subst c6
  rw [if_neg (show ¬ (false=true) by decide)] at H
  try dsimp only at H
  obtain rfl:=Option.some.inj H
 rotate_left
 all_goals
  go_enter Tryz.func68,Tryz.ntmps68
  go_wp2_with (first|((with_reducible refine aN (N:=4) rfl ?_);refine bxE (cs:=#[.int .i64 a1_0,.int .i64 a1_1,.int .i64 a1_2]) (t:=43) ?_;intro gb112 hg w8 hbox hb;have BK112:=aA.mk hbox;have GW112:=sA hg;have GE112:=sA hg;replace HB:=lB hb;clear hb hbox hg)|((with_reducible refine aN (N:=5) rfl ?_);refine bxE (cs:=#[.int .i64 a2_0,.int .i64 a2_1,.int .i64 a2_2]) (t:=43) ?_;intro gb113 hg w9 hbox hb;have BK113:=aA.mk hbox;have GW113:=sA hg;have GE113:=sA hg;have NB112_113:=nA hg BK112;have NB113_112:=nB hg BK112;replace BK112:=kB BK112 hb;replace HB:=lB hb;clear hb hbox hg;have hnb10:=NB112_113.out;have hnc10:=NB113_112.out;obtain ⟨hcz11_0,hcz11_1,hcz11_2,hfz11_0,hfz11_1,hfz11_2⟩:=cz3 BK112;obtain ⟨hcz12_0,hcz12_1,hcz12_2,hfz12_0,hfz12_1,hfz12_2⟩:=cz3 BK113)|((with_reducible refine gd 19 rfl ?_);refine gC (some 19) rfl Tryz.func96 (cD.calls (w:=_) (h:=A5.out)) ?_;intro w13 hb;replace BK112:=kB BK112 hb;replace BK113:=kB BK113 hb;replace HB:=lB hb;clear hb))
 ·
  go_ret
  exact ⟨by first|rfl|(simp [bB,bA] <;> rfl)|(simp only [← hji4,← hji7];first|rfl|(simp [bB,bA] <;> rfl))|(simp [*,bB,bA] <;> rfl),blA⟩
 ·
  go_ret
  exact ⟨by first|rfl|(simp [bB,bA] <;> rfl)|(simp only [← hji4];first|rfl|(simp [bB,bA] <;> rfl))|(simp [*,bB,bA] <;> rfl),blA⟩
def bR.l0:Nat→Int→List (S43)→Int→Option (Int)
 | 0,_,_,_=>none
 | k+1,x0,x1,x5=>if x5<(x1.length:Int) then (if 0≤x5 then ((bo.f k x0 ((aD x1 x5).f0) ((aD x1 x5).f1) ((aD x1 x5).f2)).bind fun t127=>(if t127=true then (bR.l0 k x0 x1 (wrap64 (x5+1))) else (some 1))) else (none)) else (some 0)
def bR.f (k:Nat) (a0:Int) (l1:List (S43)):Option (Int):=(aq.f a0).bind fun t125=>(if t125=true then (bR.l0 k a0 l1 0) else (some 1))
set_option maxHeartbeats 8000000 in
set_option maxRecDepth 100000 in
theorem bR.calls (k:Nat) (a0:Int) (A1:Option Addr) (c1:Nat) (l1:List (S43)) (r:Int) (w:World) (hr1:Kd.C k43 w A1 l1.length l1) (hc1:l1.length≤c1) (h:bR.f k a0 l1=some r) :
  Calls Tryz.prog 61 #[.int .i64 a0,.slice A1 l1.length c1] w fun e w'=>e=.returned (.int .i64 r)∧Below w.heap.size w w':=by
 have hu43:=Tryz.underlying43
 have HR1:=aA.mk hr1
 have HC1:=aA.mk hc1
 clear hr1 hc1
 have HB:=aA.mk (Below.refl w.heap.size w)
 have H:=h
 unfold bR.f at H
 clear h
 replace H:=bS H
 obtain ⟨t125,A3,H⟩:=H
 try dsimp only at H
 by_cases c4:t125=true
 focus
  subst c4
  rw [if_pos rfl] at H
  try dsimp only at H
  have H':=aA.mk H
  clear H
 rotate_left
 focus
  replace c4:=Bool.eq_false_iff.mpr c4
  subst c4
  rw [if_neg (show ¬ (false=true) by decide)] at H
  try dsimp only at H
  obtain rfl:=Option.some.inj H
 rotate_left
 all_goals
  go_enter Tryz.func61,Tryz.ntmps61
  go_wp2_with (first|((with_reducible refine gd 7 rfl ?_);refine gC (some 7) rfl Tryz.func51 (aq.calls (w:=_) (h:=A3.out)) ?_;rintro _ ⟨nd,rfl⟩))
 ·
  go_loopg [5] k (fun kq v5 w'=>∃ (x5_1:Int),v5=.int .i64 x5_1∧aA (bR.l0 kq a0 l1 x5_1=some r)∧aA (kq≤k)∧aA (Below w.heap.size w w'))
  case atStart=>exact ⟨(0),hB,H',⟨Nat.le_refl _⟩,⟨blA⟩⟩
  case round=>
   clear H'
   try clear c1
   try clear c4
   obtain ⟨x5_1,rfl,HA,HK1,HB⟩:=hrel
   cases gk with
   | zero=>exact absurd HA.out (by simp [bR.l0])
   | succ k1=>
    have H:=HA.out
    clear HA
    simp only [bR.l0] at H
    by_cases c5:x5_1<(l1.length:Int)
    ·
     rw [if_pos c5] at H
     have c5b0:=decide_eq_true c5
     clear c5
     by_cases c6:0≤x5_1
     rotate_left
     ·
      rw [if_neg c6] at H
      exact absurd H (by simp)
     rw [if_pos c6] at H
     have c6b0:=decide_eq_true c6
     clear c6
     replace H:=bS H
     obtain ⟨t127,A7,H⟩:=H
     try dsimp only at H
     by_cases c8:t127=true
     focus
      subst c8
      rw [if_pos rfl] at H
      try dsimp only at H
      have H':=aA.mk H
      clear H
      have p126:0≤(x5_1:Int):=dA
      have q126:x5_1<(l1.length:Int):=dA
      obtain ⟨ad126,e126,hx126_0,hx126_1,hx126_2⟩:=cu HR1.out x5_1 p126 q126
      cases e126
      replace hx126_0:=(HB.out.cell (World.block_lt_of_cell? w _ hx126_0)).trans hx126_0
      replace hx126_1:=(HB.out.cell (World.block_lt_of_cell? w _ hx126_1)).trans hx126_1
      replace hx126_2:=(HB.out.cell (World.block_lt_of_cell? w _ hx126_2)).trans hx126_2
      replace p126:=eq_true p126
      replace q126:=eq_true q126
     rotate_left
     focus
      replace c8:=Bool.eq_false_iff.mpr c8
      subst c8
      rw [if_neg (show ¬ (false=true) by decide)] at H
      try dsimp only at H
      obtain rfl:=Option.some.inj H
      have p126:0≤(x5_1:Int):=dA
      have q126:x5_1<(l1.length:Int):=dA
      obtain ⟨ad126,e126,hx126_0,hx126_1,hx126_2⟩:=cu HR1.out x5_1 p126 q126
      cases e126
      replace hx126_0:=(HB.out.cell (World.block_lt_of_cell? w _ hx126_0)).trans hx126_0
      replace hx126_1:=(HB.out.cell (World.block_lt_of_cell? w _ hx126_1)).trans hx126_1
      replace hx126_2:=(HB.out.cell (World.block_lt_of_cell? w _ hx126_2)).trans hx126_2
      replace p126:=eq_true p126
      replace q126:=eq_true q126
     rotate_left
     all_goals
      go_wp2_with (first|((with_reducible refine gd 20 rfl ?_);refine gC (some 20) rfl Tryz.func90 (bo.calls (w:=_) (h:=A7.out)) ?_;intro w9 hb;replace HB:=lB hb;clear hb))
     ·
      go_roundg k1
      case measure=>have:=HK1.out;omega
      case rel=>exact ⟨(wrap64 (x5_1+1)),hB,H',⟨by have:=HK1.out;omega⟩,⟨blA⟩⟩
     ·
      go_ret
      exact cE blA
    ·
     rw [if_neg c5] at H
     have c5b0:=decide_eq_false c5
     clear c5
     obtain rfl:=Option.some.inj H
     go_wp2
     go_ret
     exact cE blA
 ·
  go_ret
  exact cE blA
end Go.Proofs.YtnhiehpbkimaeaaGreat.PAll
