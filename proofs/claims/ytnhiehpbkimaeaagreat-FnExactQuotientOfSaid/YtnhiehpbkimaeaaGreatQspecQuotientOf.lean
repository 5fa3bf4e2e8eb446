import Derived.Test.YtnhiehpbkimaeaaGreatQx
import Derived.Test.YtnhiehpbkimaeaaGreatQcmpisNaNint64
import Derived.Test.YtnhiehpbkimaeaaGreatQimplregion
import Derived.Test.YtnhiehpbkimaeaaGreatQspecl01Code
import Derived.Test.YtnhiehpbkimaeaaGreatQspecl02Children
import Derived.Test.YtnhiehpbkimaeaaGreatQspecl06Leaders
namespace Go.Proofs.YtnhiehpbkimaeaaGreat.PAll
open Go.RowKit Go.Proofs.YtnhiehpbkimaeaaGreatW.PrintWords Go.Proofs.YtnhiehpbkimaeaaGreatW.PrintLast Go.Proofs.YtnhiehpbkimaeaaGreatW.PrintMore
attribute [local go_sem] Go.Proofs.YtnhiehpbkimaeaaGreat.Aux.setCell_drewN Go.Proofs.YtnhiehpbkimaeaaGreat.Aux.isSome_setCell cC b9 cQ cP bm bl cB b8
set_option linter.unusedVariables false
set_option linter.unusedSimpArgs false
theorem at_world {W:World} {M:World→Prop} (h:∀ w',w'=W→M w'):M W:=h W rfl
mutual
def aC.l0:Nat→Int→List (S43)→List (List Int)→List Int→List (List Int)→List (List Bool)→Int→Option ((List (List Int)) × Int)
 | 0,_,_,_,_,_,_,_=>none
 | k+1,x0,x9,x10,x11,x12,x13,x14=>if x14<(x10.length:Int) then (if 0≤(x10.length:Int) then (if ((x10.length:Int):Int).toNat≤281474976710656 then (if x13.length<5864062014805 then (aC.l1 k x0 x9 x10 x11 x12 (x13 ++ [(List.replicate ((x10.length:Int):Int).toNat false)]) x14 0) else (none)) else (none)) else (none)) else (aC.l2 k x0 x9 x10 x11 x12 x13 0)
def aC.l1:Nat→Int→List (S43)→List (List Int)→List Int→List (List Int)→List (List Bool)→Int→Int→Option ((List (List Int)) × Int)
 | 0,_,_,_,_,_,_,_,_=>none
 | k+1,x0,x9,x10,x11,x12,x13,x14,x15=>if 0≤x14 then (if x14<(x10.length:Int) then (if x15<((bE x10 x14).length:Int) then (if 0≤x15 then (if 0≤(rd (bE x10 x14) x15) then (if (rd (bE x10 x14) x15)<(x11.length:Int) then (aC.l1 k x0 x9 x10 (x11.set ((rd (bE x10 x14) x15):Int).toNat x14) x12 x13 x14 (wrap64 (x15+1))) else (none)) else (none)) else (none)) else (aC.l0 k x0 x9 x10 x11 x12 x13 (wrap64 (x14+1)))) else (none)) else (none)
def aC.l2:Nat→Int→List (S43)→List (List Int)→List Int→List (List Int)→List (List Bool)→Int→Option ((List (List Int)) × Int)
 | 0,_,_,_,_,_,_,_=>none
 | k+1,x0,x9,x10,x11,x12,x13,x16=>if x16<(x9.length:Int) then (aC.l3 k x0 x9 x10 x11 x12 x13 x16 0) else (aC.l4 k x10 x12 x13 0)
def aC.l3:Nat→Int→List (S43)→List (List Int)→List Int→List (List Int)→List (List Bool)→Int→Int→Option ((List (List Int)) × Int)
 | 0,_,_,_,_,_,_,_,_=>none
 | k+1,x0,x9,x10,x11,x12,x13,x16,x17=>if x17<x16 then (if 0≤x16 then (if x16<(x9.length:Int) then (if 0≤x17 then (if x17<(x9.length:Int) then ((an.f k x0 ((aD x9 x16).f0) ((aD x9 x16).f1) ((aD x9 x16).f2) ((aD x9 x17).f0) ((aD x9 x17).f1) ((aD x9 x17).f2)).bind fun t311=>(if t311=1 then (if x16<(x11.length:Int) then (if x17<(x11.length:Int) then (if 0≤(mn (rd x11 x16) (rd x11 x17)) then (if (mn (rd x11 x16) (rd x11 x17))<(x13.length:Int) then (if 0≤(mx (rd x11 x16) (rd x11 x17)) then (if (mx (rd x11 x16) (rd x11 x17))<((cX x13 (mn (rd x11 x16) (rd x11 x17))).length:Int) then (aC.l3 k x0 x9 x10 x11 x12 (x13.set ((mn (rd x11 x16) (rd x11 x17)):Int).toNat ((cX x13 (mn (rd x11 x16) (rd x11 x17))).set ((mx (rd x11 x16) (rd x11 x17)):Int).toNat true)) x16 (wrap64 (x17+1))) else (none)) else (none)) else (none)) else (none)) else (none)) else (none)) else (aC.l3 k x0 x9 x10 x11 x12 x13 x16 (wrap64 (x17+1))))) else (none)) else (none)) else (none)) else (none)) else (aC.l2 k x0 x9 x10 x11 x12 x13 (wrap64 (x16+1)))
def aC.l4:Nat→List (List Int)→List (List Int)→List (List Bool)→Int→Option ((List (List Int)) × Int)
 | 0,_,_,_,_=>none
 | k+1,x10,x12,x13,x19=>if x19<(x10.length:Int) then (aC.l5 k x10 x12 x13 x19 x19) else (some (x12,0))
def aC.l5:Nat→List (List Int)→List (List Int)→List (List Bool)→Int→Int→Option ((List (List Int)) × Int)
 | 0,_,_,_,_,_=>none
 | k+1,x10,x12,x13,x19,x20=>if x20<(x10.length:Int) then (if 0≤x19 then (if x19<(x13.length:Int) then (if 0≤x20 then (if x20<((cX x13 x19).length:Int) then (if rdOf false (cX x13 x19) x20=true then (if x12.length<5864062014805 then (aC.l5 k x10 (x12 ++ [(([x19,x20]:List Int))]) x13 x19 (wrap64 (x20+1))) else (none)) else (aC.l5 k x10 x12 x13 x19 (wrap64 (x20+1)))) else (none)) else (none)) else (none)) else (none)) else (aC.l4 k x10 x12 x13 (wrap64 (x19+1)))
end
def aC.f (k:Nat) (a0:Int) (l1:List (S59)) (a2:Int):Option ((List (List Int)) × Int):=(ci.f k a0 l1 a2).bind fun t280=>(if t280=0 then ((bI.f k a0 a2).bind fun t281=>((aE.f k a0 l1 t281).bind fun t284=>((aW.f k t284).bind fun t287=>(if 0≤(t281.length:Int) then (if ((t281.length:Int):Int).toNat≤35184372088832 then (aC.l0 k a0 t281 t287 (List.replicate ((t281.length:Int):Int).toNat 0) (([]:List (List Int))) (([]:List (List Bool))) 0) else (none)) else (none))))) else (some (([]:List (List Int)),t280)))
def aC.T5:Bool × List (List Nat × List Nat):=(true,[([],[]),([],[]),([],[]),([0,1,2],[0,1,2]),([3,3],[3]),([],[]),([5],[5]),([6,6],[6]),([],[]),([4,4,0,1,2,3,4],[4]),([7,9,0,1,2,3,4,5,6,7,9],[7]),([8,10,0,1,2,3,4,5,6,7,8,9,10],[8])])
def aC.B5:List Nat:=[0,0,0,7,15,0,32,96,0,31,767,2047]
theorem aC.tab5:cZ .any (dL Tryz.f6 5)=aC.T5:=by kernel_rfl
theorem aC.bits5:bq aC.T5.2 aC.B5=true:=by kernel_rfl
def aC.T21:Bool × List (List Nat × List Nat):=(true,[([],[]),([],[]),([],[]),([1,2],[1,2]),([3],[3]),([],[]),([],[]),([5,6],[5,6]),([7],[7]),([0,4,8],[0,4,8]),([9],[9])])
def aC.B21:List Nat:=[0,0,0,6,14,0,0,96,224,511,1023]
theorem aC.tab21:cZ .any (dL Tryz.f6 21)=aC.T21:=by kernel_rfl
theorem aC.bits21:bq aC.T21.2 aC.B21=true:=by kernel_rfl
def aC.T22:Bool × List (List Nat × List Nat):=(true,[([],[]),([],[]),([],[]),([1,2],[1,2]),([3],[3]),([],[]),([],[]),([5,6],[5,6]),([7],[7]),([4,8],[4,8]),([0,9],[0,9]),([10],[10]),([11,0,1,2,3,4,5,6,7,8,9,10,11],[11])])
def aC.B22:List Nat:=[0,0,0,6,14,0,0,96,224,510,1023,2047,4095]
theorem aC.tab22:cZ .any (dL Tryz.f6 22)=aC.T22:=by kernel_rfl
theorem aC.bits22:bq aC.T22.2 aC.B22=true:=by kernel_rfl
set_option maxHeartbeats 8000000 in
set_option maxRecDepth 100000 in
theorem aC.calls (k:Nat) (a0:Int) (A1:Option Addr) (c1:Nat) (l1:List (S59)) (a2:Int) (r1:List (List Int)) (r2:Int) (w:World) (hr1:Kd.C k59 w A1 l1.length l1) (hc1:l1.length≤c1) (h:aC.f k a0 l1 a2=some (r1,r2)) :
  Calls Tryz.prog 6 #[.int .i64 a0,.slice A1 l1.length c1,.int .i64 a2] w fun e w'=>∃ v0_:Value,e=.returned (.tuple #[v0_,.int .i64 r2])∧Kd.S (Kd.slice 2 (Kd.int .i64)) 50 w' w.heap.size (fun _=>True) v0_ r1∧Below w.heap.size w w':=by
 have hu43:=Tryz.underlying43
 have HR1:=aA.mk hr1
 have HC1:=aA.mk hc1
 clear hr1 hc1
 have HB:=aA.mk (Below.refl w.heap.size w)
 have H:=h
 unfold aC.f at H
 clear h
 replace H:=bS H
 obtain ⟨t280,A4,H⟩:=H
 try dsimp only at H
 by_cases c5:t280=0
 ·
  rw [if_pos c5] at H
  have c5b0:(t280 == 0)=true:=beq_iff_eq.mpr c5
  have c5b1:(t280 != 0)=false:=bne_eq_false_iff_eq.mpr c5
  clear c5
  replace H:=bS H
  obtain ⟨t281,A6,H⟩:=H
  try dsimp only at H
  replace H:=bS H
  obtain ⟨t284,A7,H⟩:=H
  try dsimp only at H
  replace H:=bS H
  obtain ⟨t287,A8,H⟩:=H
  try dsimp only at H
  by_cases c9:0≤(t281.length:Int)
  rotate_left
  ·
   rw [if_neg c9] at H
   exact absurd H (by simp)
  rw [if_pos c9] at H
  have c9b0:=eq_true c9
  have c9b1:=decide_eq_true c9
  clear c9
  by_cases c10:((t281.length:Int):Int).toNat≤35184372088832
  rotate_left
  ·
   rw [if_neg c10] at H
   exact absurd H (by simp)
  rw [if_pos c10] at H
  have c10b0:=eq_true c10
  have c10b1:=decide_eq_true c10
  clear c10
  obtain ⟨y290,hy290⟩:∃ y_:List Int,y_=(List.replicate ((t281.length:Int):Int).toNat 0):=⟨_,rfl⟩
  replace H:(aC.l0 k a0 t281 t287 y290 (([]:List (List Int))) (([]:List (List Bool))) 0)=some (r1,r2):=rH hy290 H
  have Ny290:=aA.mk hy290
  clear hy290
  obtain ⟨y293,hy293⟩:∃ y_:List (List Int),y_=(([]:List (List Int))):=⟨_,rfl⟩
  replace H:(aC.l0 k a0 t281 t287 y290 y293 (([]:List (List Bool))) 0)=some (r1,r2):=rH hy293 H
  have Ny293:=aA.mk hy293
  clear hy293
  obtain ⟨y296,hy296⟩:∃ y_:List (List Bool),y_=(([]:List (List Bool))):=⟨_,rfl⟩
  replace H:(aC.l0 k a0 t281 t287 y290 y293 y296 0)=some (r1,r2):=rH hy296 H
  have Ny296:=aA.mk hy296
  clear hy296
  have H':=aA.mk H
  clear H
  go_enter Tryz.func6,Tryz.ntmps6
  try go_wp2_with (first|((with_reducible refine gd 24 rfl ?_);refine gC (some 24) rfl Tryz.func26 (ci.calls (w:=_) (hr1:=cR HR1.out) (hc1:=HC1.out) (h:=A4.out)) ?_;intro w11 hb;have n0_:=lB hb;clear HB;have HB:=n0_;clear n0_;clear hb)|((with_reducible refine a6 (f:=27) rfl ?_);refine gL (some 30) rfl Tryz.func27 #[.int .i64 a0,.int .i64 a2] ?_;(with_reducible refine (bI.calls k a0 a2 t281 _ A6.out).mono ?_);rintro e w12 ⟨v282,rfl,ho0,hb⟩;refine ⟨_,rfl,?_⟩;have n0_:=aA.mk (Kd.R_lower ho0 (aQ blA));have n1_:=lB hb;clear HB;have HO283:=n0_;have HB:=n1_;clear n0_ n1_;clear ho0 hb;obtain ⟨Ao13,co13,eo13⟩:=Kd.R_slice HO283.out;subst eo13))
  have n0_:=aA.mk (Kd.R_drew HO283.out)
  have n1_:=aA.mk (al HB.out)
  clear HO283
  clear HB
  have HO283:=n0_
  have HB:=n1_
  clear n0_ n1_
  refine b7 (n:=12) (S:=fun w'=>True) (ds:=[]) #[Z,Z,Z,Z,Z,Z,Z,Z,Z,Z,Z,Z] (by kernel_rfl) rfl rfl trivial (fun hHeld=>?_);refine bT aC.tab5 aC.bits5 (fun HT_ HW_=>?_)
  generalize w12.drew=w14 at HO283 HB hHeld ⊢
  refine puA (i:=0) (N:=some 31) #[Y,Z,Z,Z,Z,Z,Z,Z,Z,Z,Z,Z] rfl rfl HT_ ?_
  refine puA (i:=1) (N:=some 32) #[Y,Y,Z,Z,Z,Z,Z,Z,Z,Z,Z,Z] rfl rfl HT_ ?_
  refine puA (i:=2) (N:=some 33) #[Y,Y,Y,Z,Z,Z,Z,Z,Z,Z,Z,Z] rfl rfl HT_ ?_
  refine puA (i:=5) (N:=some 36) #[Y,Y,Y,Z,Z,Y,Z,Z,Z,Z,Z,Z] rfl rfl HT_ ?_
  refine puA (i:=6) (N:=some 37) #[Y,Y,Y,Z,Z,Y,Y,Z,Z,Z,Z,Z] rfl rfl HT_ ?_
  refine d8 (σ:=Value × Value × Value × Value) 1 #[Y,Y,Y,Y,Y,Y,Y,Y,Y,Y,Y,Z] (fun s_=>[(34,s_.1),(35,s_.2.1),(38,s_.2.2.1),(39,s_.2.2.2),(10,s_.2.1),(11,s_.2.2.1)]) (fun s_ w'=>(Kd.R k43 43 w' w.heap.size (fun _=>True) (.slice Ao13 t281.length co13) t281)∧(Kd.R (Kd.int .i64) 2 w' w.heap.size (fun k_=>some k_≠(s_.2.2.1:Value).ownBlock) s_.1 t284)∧(Kd.S (Kd.slice 2 (Kd.int .i64)) 50 w' w.heap.size (fun k_=>some k_≠(s_.1:Value).ownBlock∧some k_≠(s_.2.2.1:Value).ownBlock∧some k_≠(s_.2.2.2:Value).ownBlock) s_.2.1 t287)∧(Kd.R (Kd.int .i64) 2 w' w.heap.size (fun k_=>some k_≠(s_.1:Value).ownBlock) s_.2.2.1 y290)∧(Kd.S (Kd.slice 2 (Kd.int .i64)) 50 w' w.heap.size (fun k_=>some k_≠(s_.1:Value).ownBlock∧some k_≠(s_.2.1:Value).ownBlock∧some k_≠(s_.2.2.1:Value).ownBlock) s_.2.2.2 y293)∧(Below w.heap.size w w')) ?_ ?_
  rotate_left
  ·
   intro hJ3_4_7_8
   refine d8 (σ:=Value × Value × Value) 2 #[Y,Y,Y,Y,Y,Y,Y,Y,Z,Y,Y,Z] (fun s_=>[(34,s_.1),(35,s_.2.1),(38,s_.2.2),(10,s_.2.1),(11,s_.2.2)]) (fun s_ w'=>(Kd.R k43 43 w' w.heap.size (fun _=>True) (.slice Ao13 t281.length co13) t281)∧(Kd.R (Kd.int .i64) 2 w' w.heap.size (fun k_=>some k_≠(s_.2.2:Value).ownBlock) s_.1 t284)∧(Kd.S (Kd.slice 2 (Kd.int .i64)) 50 w' w.heap.size (fun k_=>some k_≠(s_.1:Value).ownBlock∧some k_≠(s_.2.2:Value).ownBlock) s_.2.1 t287)∧(Kd.R (Kd.int .i64) 2 w' w.heap.size (fun k_=>some k_≠(s_.1:Value).ownBlock) s_.2.2 y290)∧(Below w.heap.size w w')) ?_ ?_
   rotate_left
   ·
    intro hJ3_4_7
    refine d8 (σ:=Value × Value × Value) 3 #[Y,Y,Y,Y,Y,Y,Y,Z,Y,Y,Z,Z] (fun s_=>[(34,s_.1),(35,s_.2.1),(39,s_.2.2),(10,s_.2.1)]) (fun s_ w'=>(Kd.R k43 43 w' w.heap.size (fun _=>True) (.slice Ao13 t281.length co13) t281)∧(Kd.R (Kd.int .i64) 2 w' w.heap.size (fun _=>True) s_.1 t284)∧(Kd.S (Kd.slice 2 (Kd.int .i64)) 50 w' w.heap.size (fun k_=>some k_≠(s_.1:Value).ownBlock∧some k_≠(s_.2.2:Value).ownBlock) s_.2.1 t287)∧(Kd.S (Kd.slice 2 (Kd.int .i64)) 50 w' w.heap.size (fun k_=>some k_≠(s_.1:Value).ownBlock∧some k_≠(s_.2.1:Value).ownBlock) s_.2.2 y293)∧(Below w.heap.size w w')) ?_ ?_
    rotate_left
    ·
     intro hJ3_4_8
     refine d8 (σ:=Value × Value × Value) 4 #[Y,Y,Y,Y,Z,Y,Y,Y,Y,Z,Z,Z] (fun s_=>[(34,s_.1),(38,s_.2.1),(39,s_.2.2)]) (fun s_ w'=>(Kd.R k43 43 w' w.heap.size (fun _=>True) (.slice Ao13 t281.length co13) t281)∧(Kd.R (Kd.int .i64) 2 w' w.heap.size (fun k_=>some k_≠(s_.2.1:Value).ownBlock) s_.1 t284)∧(Kd.R (Kd.int .i64) 2 w' w.heap.size (fun k_=>some k_≠(s_.1:Value).ownBlock) s_.2.1 y290)∧(Kd.S (Kd.slice 2 (Kd.int .i64)) 50 w' w.heap.size (fun k_=>some k_≠(s_.1:Value).ownBlock∧some k_≠(s_.2.1:Value).ownBlock) s_.2.2 y293)∧(Below w.heap.size w w')) ?_ ?_
     rotate_left
     ·
      intro hJ3_7_8
      refine d8 (σ:=Value × Value) 4 #[Y,Y,Y,Y,Y,Y,Y,Z,Z,Y,Z,Z] (fun s_=>[(34,s_.1),(35,s_.2),(10,s_.2)]) (fun s_ w'=>(Kd.R k43 43 w' w.heap.size (fun _=>True) (.slice Ao13 t281.length co13) t281)∧(Kd.R (Kd.int .i64) 2 w' w.heap.size (fun _=>True) s_.1 t284)∧(Kd.S (Kd.slice 2 (Kd.int .i64)) 50 w' w.heap.size (fun k_=>some k_≠(s_.1:Value).ownBlock) s_.2 t287)∧(Below w.heap.size w w')) ?_ ?_
      rotate_left
      ·
       intro hJ3_4
       refine d8 (σ:=Value × Value) 5 #[Y,Y,Y,Y,Z,Y,Y,Y,Z,Z,Z,Z] (fun s_=>[(34,s_.1),(38,s_.2)]) (fun s_ w'=>(Kd.R k43 43 w' w.heap.size (fun _=>True) (.slice Ao13 t281.length co13) t281)∧(Kd.R (Kd.int .i64) 2 w' w.heap.size (fun k_=>some k_≠(s_.2:Value).ownBlock) s_.1 t284)∧(Kd.R (Kd.int .i64) 2 w' w.heap.size (fun k_=>some k_≠(s_.1:Value).ownBlock) s_.2 y290)∧(Below w.heap.size w w')) ?_ ?_
       rotate_left
       ·
        intro hJ3_7
        refine d8 (σ:=Value × Value) 5 #[Y,Y,Y,Y,Z,Y,Y,Z,Y,Z,Z,Z] (fun s_=>[(34,s_.1),(39,s_.2)]) (fun s_ w'=>(Kd.R k43 43 w' w.heap.size (fun _=>True) (.slice Ao13 t281.length co13) t281)∧(Kd.R (Kd.int .i64) 2 w' w.heap.size (fun _=>True) s_.1 t284)∧(Kd.S (Kd.slice 2 (Kd.int .i64)) 50 w' w.heap.size (fun k_=>some k_≠(s_.1:Value).ownBlock) s_.2 y293)∧(Below w.heap.size w w')) ?_ ?_
        rotate_left
        ·
         intro hJ3_8
         refine d8 (σ:=Value × Value) 5 #[Y,Y,Y,Z,Z,Y,Y,Y,Y,Z,Z,Z] (fun s_=>[(38,s_.1),(39,s_.2)]) (fun s_ w'=>(Kd.R k43 43 w' w.heap.size (fun _=>True) (.slice Ao13 t281.length co13) t281)∧(Kd.R (Kd.int .i64) 2 w' w.heap.size (fun _=>True) s_.1 y290)∧(Kd.S (Kd.slice 2 (Kd.int .i64)) 50 w' w.heap.size (fun k_=>some k_≠(s_.1:Value).ownBlock) s_.2 y293)∧(Below w.heap.size w w')) ?_ ?_
         rotate_left
         ·
          intro hJ7_8
          refine d8 (σ:=Value) 6 #[Y,Y,Y,Y,Z,Y,Y,Z,Z,Z,Z,Z] (fun s_=>[(34,s_)]) (fun s_ w'=>(Kd.R k43 43 w' w.heap.size (fun _=>True) (.slice Ao13 t281.length co13) t281)∧(Kd.R (Kd.int .i64) 2 w' w.heap.size (fun _=>True) s_ t284)∧(Below w.heap.size w w')) ?_ ?_
          rotate_left
          ·
           intro hJ3
           refine d8 (σ:=Value) 6 #[Y,Y,Y,Z,Z,Y,Y,Y,Z,Z,Z,Z] (fun s_=>[(38,s_)]) (fun s_ w'=>(Kd.R k43 43 w' w.heap.size (fun _=>True) (.slice Ao13 t281.length co13) t281)∧(Kd.R (Kd.int .i64) 2 w' w.heap.size (fun _=>True) s_ y290)∧(Below w.heap.size w w')) ?_ ?_
           rotate_left
           ·
            intro hJ7
            refine d8 (σ:=Value) 6 #[Y,Y,Y,Z,Z,Y,Y,Z,Y,Z,Z,Z] (fun s_=>[(39,s_)]) (fun s_ w'=>(Kd.R k43 43 w' w.heap.size (fun _=>True) (.slice Ao13 t281.length co13) t281)∧(Kd.S (Kd.slice 2 (Kd.int .i64)) 50 w' w.heap.size (fun _=>True) s_ y293)∧(Below w.heap.size w w')) ?_ ?_
            rotate_left
            ·
             intro hJ8
             refine three_ (i:=3) (j:=7) (k:=8) (Ni:=some 34) (Nj:=some 38) (Nk:=some 39) #[Y,Y,Y,Y,Z,Y,Y,Z,Z,Z,Z,Z] #[Y,Y,Y,Z,Z,Y,Y,Y,Z,Z,Z,Z] #[Y,Y,Y,Z,Z,Y,Y,Z,Y,Z,Z,Z] rfl rfl rfl rfl rfl rfl (three_of HT_.out (by kernel_rfl)) (by decide) (by decide) (by decide) (fun K hK=>?_) (fun K hK=>?_) (fun K hK=>?_)
             ·
              skip
              refine d9 Tryz.func29 (by kernel_rfl) rfl #[.int .i64 a0,.slice A1 l1.length c1,.slice Ao13 t281.length co13] (by rfl) rfl rfl hA ?_
              with_reducible refine (aE.calls k a0 _ _ l1 _ _ t281 t284 _ ?side1 ?side2 ?side3 ?side4 A7.out).mono ?_
              (case side1=>exact cR (Kd.C_below HR1.out HB.out))
              (case side2=>exact HC1.out)
              (case side3=>exact cR (Kd.R_reads' HO283.out).2.2)
              (case side4=>exact (Kd.R_reads' HO283.out).2.1)
              rintro e w15 ⟨v285,rfl,ho0,hb⟩
              refine ⟨_,rfl,?_⟩
              have HO286:=aA.mk (Kd.R_lower ho0 (aQ blA))
              replace HO283:=aA.mk (Kd.R_below (rA HO283) hb)
              replace HB:=lB hb
              (try clear hb)
              (try clear hb2)
              (try clear hk)
              (try clear hi)
              (try clear ho0)
              refine hK.out _ _ trivial (fun hHeld=>?_)
              clear hK K
              refine nmA ?_
              exact b6 (by first|(simp only [a8,Act.put,List.setIfInBounds_toArray,List.set_cons_zero,List.set_cons_succ];done)|(simp only [a8,Act.put,List.setIfInBounds_toArray,List.set_cons_zero,List.set_cons_succ];rfl)) (hJ3 (v285) _ ⟨(rA HO283),(rA HO286),blA⟩)
             ·
              skip
              refine Kd.R_make_step (Kd.int .i64) _ 2 (by rfl) (N:=38) rfl 50 _ _ rfl (t281.length:Int) rfl rfl Tryz.underlying50 (.int .i64 0) 8 eH rfl (by decide) (by omega) 0 (ok:=fun _=>True) (okp:=fun _=>True) rfl (fun _ hk=>hk) trivial (dA) (Nat.le_trans (Nat.mul_le_mul_right _ (dA:(t281.length:Int).toNat≤35184372088832)) (by omega)) (Below.refl _ _) (Nat.le_refl _) ?_
              intro v291 w15 ho16 hb hg_ hnew_
              clear hg_ hnew_
              (first|rw [← Ny290.out] at ho16|(simp only [Int.reduceToNat] at ho16;rw [← Ny290.out] at ho16))
              have HO292:=aA.mk (Kd.R_lower ho16 (aQ blA))
              replace HO283:=aA.mk (Kd.R_below (rA HO283) hb)
              replace HB:=lB hb
              clear hb ho16
              refine hK.out _ _ trivial (fun hHeld=>?_)
              clear hK K
              refine nmA ?_
              exact b6 (by first|(simp only [a8,Act.put,List.setIfInBounds_toArray,List.set_cons_zero,List.set_cons_succ];done)|(simp only [a8,Act.put,List.setIfInBounds_toArray,List.set_cons_zero,List.set_cons_succ];rfl)) (hJ7 (v291) _ ⟨(rA HO283),(rA HO292),blA⟩)
             ·
              skip
              refine Kd.S_lit_step (Kd.slice 2 (Kd.int .i64)) _ 50 ?hg (N:=39) ?hd (xs:=([]:List (List Int))) (inner:=[]) (ok:=fun _=>True) (okp:=fun _=>True) ?hr ?hp (fun _ hk=>hk) trivial (Below.refl _ _) (Nat.le_refl _) (by simp) ?_;(case hd=>rfl);(case hg=>rfl);(case hr=>first|(go_simp;done)|(go_simp;rfl));(case hp=>exact (bD.none _ _))
              intro v294 w15 ho16 hb hg_ hnew_
              clear hg_ hnew_
              (first|rw [← Ny293.out] at ho16|(simp only [Int.reduceToNat] at ho16;rw [← Ny293.out] at ho16))
              have HO295:=aA.mk (Kd.S_lower ho16 (aQ blA))
              replace HO283:=aA.mk (Kd.R_below (rA HO283) hb)
              replace HB:=lB hb
              clear hb ho16
              refine hK.out _ _ trivial (fun hHeld=>?_)
              clear hK K
              refine nmA ?_
              exact b6 (by first|(simp only [a8,Act.put,List.setIfInBounds_toArray,List.set_cons_zero,List.set_cons_succ];done)|(simp only [a8,Act.put,List.setIfInBounds_toArray,List.set_cons_zero,List.set_cons_succ];rfl)) (hJ8 (v294) _ ⟨(rA HO283),(by (with_reducible repeat (first|apply Kd.S_alloc|apply Kd.S_drewN|apply Kd.S_drew));exact HO295.out),blA⟩)
            ·
             skip
             rintro v294 w17 ⟨h0_,h1_,h2_⟩
             have HO295:=aA.mk h1_
             replace HO283:=aA.mk h0_
             replace HB:=aA.mk h2_
             clear h0_ h1_ h2_
             have hHeld:=trivial
             refine b6 (a':=?_) ?_ ?_
             rotate_left
             ·
              simp only [a8,Act.put,List.setIfInBounds_toArray,List.set_cons_zero,List.set_cons_succ]
              rfl
             refine two_ (i:=3) (j:=7) (Ni:=some 34) (Nj:=some 38) #[Y,Y,Y,Y,Z,Y,Y,Z,Y,Z,Z,Z] #[Y,Y,Y,Z,Z,Y,Y,Y,Y,Z,Z,Z] rfl rfl rfl rfl (eY HT_.out (by kernel_rfl)) (by decide) (by decide) (fun K hK=>?_) (fun K hK=>?_)
             ·
              skip
              refine d9 Tryz.func29 (by kernel_rfl) rfl #[.int .i64 a0,.slice A1 l1.length c1,.slice Ao13 t281.length co13] (by rfl) rfl rfl hA ?_
              with_reducible refine (aE.calls k a0 _ _ l1 _ _ t281 t284 _ ?side1 ?side2 ?side3 ?side4 A7.out).mono ?_
              (case side1=>exact cR (Kd.C_below HR1.out HB.out))
              (case side2=>exact HC1.out)
              (case side3=>exact cR (Kd.R_reads' HO283.out).2.2)
              (case side4=>exact (Kd.R_reads' HO283.out).2.1)
              rintro e w18 ⟨v285,rfl,ho0,hb⟩
              refine ⟨_,rfl,?_⟩
              have HO286:=aA.mk (Kd.R_lower ho0 (aQ blA))
              replace HO283:=aA.mk (Kd.R_below (rA HO283) hb)
              replace HO295:=aA.mk (Kd.S_elder' (by (with_reducible repeat (first|apply Kd.S_alloc|apply Kd.S_drewN|apply Kd.S_drew));exact HO295.out) (Kd.R_base ho0) hb)
              replace HB:=lB hb
              (try clear hb)
              (try clear hb2)
              (try clear hk)
              (try clear hi)
              (try clear ho0)
              refine hK.out _ _ trivial (fun hHeld=>?_)
              clear hK K
              refine nmA ?_
              exact b6 (by first|(simp only [a8,Act.put,List.setIfInBounds_toArray,List.set_cons_zero,List.set_cons_succ];done)|(simp only [a8,Act.put,List.setIfInBounds_toArray,List.set_cons_zero,List.set_cons_succ];rfl)) (hJ3_8 (v285,v294) _ ⟨(rA HO283),(rA HO286),(by (with_reducible repeat (first|apply Kd.S_alloc|apply Kd.S_drewN|apply Kd.S_drew));exact Kd.S_mono HO295.out (fun _ hk=>hk.2)),blA⟩)
             ·
              skip
              refine Kd.R_make_step (Kd.int .i64) _ 2 (by rfl) (N:=38) rfl 50 _ _ rfl (t281.length:Int) rfl rfl Tryz.underlying50 (.int .i64 0) 8 eH rfl (by decide) (by omega) 0 (ok:=fun _=>True) (okp:=fun _=>True) rfl (fun _ hk=>hk) trivial (dA) (Nat.le_trans (Nat.mul_le_mul_right _ (dA:(t281.length:Int).toNat≤35184372088832)) (by omega)) (Below.refl _ _) (Nat.le_refl _) ?_
              intro v291 w18 ho19 hb hg_ hnew_
              clear hg_ hnew_
              (first|rw [← Ny290.out] at ho19|(simp only [Int.reduceToNat] at ho19;rw [← Ny290.out] at ho19))
              have HO292:=aA.mk (Kd.R_lower ho19 (aQ blA))
              replace HO283:=aA.mk (Kd.R_below (rA HO283) hb)
              replace HO295:=aA.mk (Kd.S_elder' (by (with_reducible repeat (first|apply Kd.S_alloc|apply Kd.S_drewN|apply Kd.S_drew));exact HO295.out) (Kd.R_base ho19) hb)
              replace HB:=lB hb
              clear hb ho19
              refine hK.out _ _ trivial (fun hHeld=>?_)
              clear hK K
              refine nmA ?_
              exact b6 (by first|(simp only [a8,Act.put,List.setIfInBounds_toArray,List.set_cons_zero,List.set_cons_succ];done)|(simp only [a8,Act.put,List.setIfInBounds_toArray,List.set_cons_zero,List.set_cons_succ];rfl)) (hJ7_8 (v291,v294) _ ⟨(rA HO283),(rA HO292),(by (with_reducible repeat (first|apply Kd.S_alloc|apply Kd.S_drewN|apply Kd.S_drew));exact Kd.S_mono HO295.out (fun _ hk=>hk.2)),blA⟩)
           ·
            skip
            rintro v291 w17 ⟨h0_,h1_,h2_⟩
            have HO292:=aA.mk h1_
            replace HO283:=aA.mk h0_
            replace HB:=aA.mk h2_
            clear h0_ h1_ h2_
            have hHeld:=trivial
            refine b6 (a':=?_) ?_ ?_
            rotate_left
            ·
             simp only [a8,Act.put,List.setIfInBounds_toArray,List.set_cons_zero,List.set_cons_succ]
             rfl
            refine two_ (i:=3) (j:=8) (Ni:=some 34) (Nj:=some 39) #[Y,Y,Y,Y,Z,Y,Y,Y,Z,Z,Z,Z] #[Y,Y,Y,Z,Z,Y,Y,Y,Y,Z,Z,Z] rfl rfl rfl rfl (eY HT_.out (by kernel_rfl)) (by decide) (by decide) (fun K hK=>?_) (fun K hK=>?_)
            ·
             skip
             refine d9 Tryz.func29 (by kernel_rfl) rfl #[.int .i64 a0,.slice A1 l1.length c1,.slice Ao13 t281.length co13] (by rfl) rfl rfl hA ?_
             with_reducible refine (aE.calls k a0 _ _ l1 _ _ t281 t284 _ ?side1 ?side2 ?side3 ?side4 A7.out).mono ?_
             (case side1=>exact cR (Kd.C_below HR1.out HB.out))
             (case side2=>exact HC1.out)
             (case side3=>exact cR (Kd.R_reads' HO283.out).2.2)
             (case side4=>exact (Kd.R_reads' HO283.out).2.1)
             rintro e w18 ⟨v285,rfl,ho0,hb⟩
             refine ⟨_,rfl,?_⟩
             have HO286:=aA.mk (Kd.R_lower (Kd.R_new' ho0 (Kd.R_lt (rA HO292))) (aQ blA))
             replace HO283:=aA.mk (Kd.R_below (rA HO283) hb)
             replace HO292:=aA.mk (Kd.R_elder' (rA HO292) (Kd.R_base ho0) hb)
             replace HB:=lB hb
             (try clear hb)
             (try clear hb2)
             (try clear hk)
             (try clear hi)
             (try clear ho0)
             refine hK.out _ _ trivial (fun hHeld=>?_)
             clear hK K
             refine nmA ?_
             exact b6 (by first|(simp only [a8,Act.put,List.setIfInBounds_toArray,List.set_cons_zero,List.set_cons_succ];done)|(simp only [a8,Act.put,List.setIfInBounds_toArray,List.set_cons_zero,List.set_cons_succ];rfl)) (hJ3_7 (v285,v291) _ ⟨(rA HO283),(by (with_reducible repeat (first|apply Kd.R_alloc|apply Kd.R_drewN|apply Kd.R_drew));exact Kd.R_mono HO286.out (fun _ hk=>hk.2)),(by (with_reducible repeat (first|apply Kd.R_alloc|apply Kd.R_drewN|apply Kd.R_drew));exact Kd.R_mono HO292.out (fun _ hk=>hk.2)),blA⟩)
            ·
             skip
             refine Kd.S_lit_step (Kd.slice 2 (Kd.int .i64)) _ 50 ?hg (N:=39) ?hd (xs:=([]:List (List Int))) (inner:=[]) (ok:=fun _=>True) (okp:=fun _=>True) ?hr ?hp (fun _ hk=>hk) trivial (Below.refl _ _) (Nat.le_refl _) (by simp) ?_;(case hd=>rfl);(case hg=>rfl);(case hr=>first|(go_simp;done)|(go_simp;rfl));(case hp=>exact (bD.none _ _))
             intro v294 w18 ho19 hb hg_ hnew_
             clear hg_ hnew_
             (first|rw [← Ny293.out] at ho19|(simp only [Int.reduceToNat] at ho19;rw [← Ny293.out] at ho19))
             have HO295:=aA.mk (Kd.S_lower (Kd.S_new' ho19 (Kd.R_lt (rA HO292))) (aQ blA))
             replace HO283:=aA.mk (Kd.R_below (rA HO283) hb)
             replace HO292:=aA.mk (Kd.R_below (rA HO292) hb)
             replace HB:=lB hb
             clear hb ho19
             refine hK.out _ _ trivial (fun hHeld=>?_)
             clear hK K
             refine nmA ?_
             exact b6 (by first|(simp only [a8,Act.put,List.setIfInBounds_toArray,List.set_cons_zero,List.set_cons_succ];done)|(simp only [a8,Act.put,List.setIfInBounds_toArray,List.set_cons_zero,List.set_cons_succ];rfl)) (hJ7_8 (v291,v294) _ ⟨(rA HO283),(rA HO292),(by (with_reducible repeat (first|apply Kd.S_alloc|apply Kd.S_drewN|apply Kd.S_drew));exact Kd.S_mono HO295.out (fun _ hk=>hk.2)),blA⟩)
          ·
           skip
           rintro v285 w16 ⟨h0_,h1_,h2_⟩
           have HO286:=aA.mk h1_
           replace HO283:=aA.mk h0_
           replace HB:=aA.mk h2_
           clear h0_ h1_ h2_
           have hHeld:=trivial
           obtain ⟨Ao17,co17,eo17⟩:=Kd.R_slice HO286.out
           (first|subst eo17|(injection eo17 with f1_ f2_ f3_;have f4_:=f1_.symm;have f5_:=f3_.symm;clear f1_ f2_ f3_;subst f4_;subst f5_))
           refine b6 (a':=?_) ?_ ?_
           rotate_left
           ·
            simp only [a8,Act.put,List.setIfInBounds_toArray,List.set_cons_zero,List.set_cons_succ]
            rfl
           refine three_ (i:=4) (j:=7) (k:=8) (Ni:=some 35) (Nj:=some 38) (Nk:=some 39) #[Y,Y,Y,Y,Y,Y,Y,Z,Z,Z,Z,Z] #[Y,Y,Y,Y,Z,Y,Y,Y,Z,Z,Z,Z] #[Y,Y,Y,Y,Z,Y,Y,Z,Y,Z,Z,Z] rfl rfl rfl rfl rfl rfl (three_of HT_.out (by kernel_rfl)) (by decide) (by decide) (by decide) (fun K hK=>?_) (fun K hK=>?_) (fun K hK=>?_)
           ·
            skip
            refine d9 Tryz.func28 (by kernel_rfl) rfl #[.slice Ao17 t284.length co17] (by rfl) rfl rfl hA ?_
            with_reducible refine (aW.calls k _ _ t284 t287 _ ?side1 ?side2 A8.out).mono ?_
            (case side1=>exact cR (Kd.R_reads' HO286.out).2.2)
            (case side2=>exact (Kd.R_reads' HO286.out).2.1)
            rintro e w18 ⟨v288,rfl,ho0,hb⟩
            refine ⟨_,rfl,?_⟩
            have HO289:=aA.mk (Kd.S_lower (Kd.S_new' ho0 (Kd.R_lt (rA HO286))) (aQ blA))
            replace HO283:=aA.mk (Kd.R_below (rA HO283) hb)
            replace HO286:=aA.mk (Kd.R_below (rA HO286) hb)
            replace HB:=lB hb
            (try clear hb)
            (try clear hb2)
            (try clear hk)
            (try clear hi)
            (try clear ho0)
            refine hK.out _ _ trivial (fun hHeld=>?_)
            clear hK K
            refine nmA ?_
            refine puA (i:=9) (N:=some 10) #[Y,Y,Y,Y,Y,Y,Y,Z,Z,Y,Z,Z] rfl rfl HT_ ?_
            exact b6 (by first|(simp only [a8,Act.put,List.setIfInBounds_toArray,List.set_cons_zero,List.set_cons_succ];done)|(simp only [a8,Act.put,List.setIfInBounds_toArray,List.set_cons_zero,List.set_cons_succ];rfl)) (hJ3_4 (.slice Ao17 t284.length co17,v288) _ ⟨(rA HO283),(rA HO286),(by (with_reducible repeat (first|apply Kd.S_alloc|apply Kd.S_drewN|apply Kd.S_drew));exact Kd.S_mono HO289.out (fun _ hk=>hk.2)),blA⟩)
           ·
            skip
            refine Kd.R_make_step (Kd.int .i64) _ 2 (by rfl) (N:=38) rfl 50 _ _ rfl (t281.length:Int) rfl rfl Tryz.underlying50 (.int .i64 0) 8 eH rfl (by decide) (by omega) 0 (ok:=fun _=>True) (okp:=fun _=>True) rfl (fun _ hk=>hk) trivial (dA) (Nat.le_trans (Nat.mul_le_mul_right _ (dA:(t281.length:Int).toNat≤35184372088832)) (by omega)) (Below.refl _ _) (Nat.le_refl _) ?_
            intro v291 w17 ho18 hb hg_ hnew_
            clear hg_ hnew_
            (first|rw [← Ny290.out] at ho18|(simp only [Int.reduceToNat] at ho18;rw [← Ny290.out] at ho18))
            have HO292:=aA.mk (Kd.R_lower (Kd.R_new' ho18 (Kd.R_lt (rA HO286))) (aQ blA))
            replace HO283:=aA.mk (Kd.R_below (rA HO283) hb)
            replace HO286:=aA.mk (Kd.R_elder' (rA HO286) (Kd.R_base ho18) hb)
            replace HB:=lB hb
            clear hb ho18
            refine hK.out _ _ trivial (fun hHeld=>?_)
            clear hK K
            refine nmA ?_
            exact b6 (by first|(simp only [a8,Act.put,List.setIfInBounds_toArray,List.set_cons_zero,List.set_cons_succ];done)|(simp only [a8,Act.put,List.setIfInBounds_toArray,List.set_cons_zero,List.set_cons_succ];rfl)) (hJ3_7 (.slice Ao17 t284.length co17,v291) _ ⟨(rA HO283),(by (with_reducible repeat (first|apply Kd.R_alloc|apply Kd.R_drewN|apply Kd.R_drew));exact Kd.R_mono HO286.out (fun _ hk=>hk.2)),(by (with_reducible repeat (first|apply Kd.R_alloc|apply Kd.R_drewN|apply Kd.R_drew));exact Kd.R_mono HO292.out (fun _ hk=>hk.2)),blA⟩)
           ·
            skip
            refine Kd.S_lit_step (Kd.slice 2 (Kd.int .i64)) _ 50 ?hg (N:=39) ?hd (xs:=([]:List (List Int))) (inner:=[]) (ok:=fun _=>True) (okp:=fun _=>True) ?hr ?hp (fun _ hk=>hk) trivial (Below.refl _ _) (Nat.le_refl _) (by simp) ?_;(case hd=>rfl);(case hg=>rfl);(case hr=>first|(go_simp;done)|(go_simp;rfl));(case hp=>exact (bD.none _ _))
            intro v294 w17 ho18 hb hg_ hnew_
            clear hg_ hnew_
            (first|rw [← Ny293.out] at ho18|(simp only [Int.reduceToNat] at ho18;rw [← Ny293.out] at ho18))
            have HO295:=aA.mk (Kd.S_lower (Kd.S_new' ho18 (Kd.R_lt (rA HO286))) (aQ blA))
            replace HO283:=aA.mk (Kd.R_below (rA HO283) hb)
            replace HO286:=aA.mk (Kd.R_below (rA HO286) hb)
            replace HB:=lB hb
            clear hb ho18
            refine hK.out _ _ trivial (fun hHeld=>?_)
            clear hK K
            refine nmA ?_
            exact b6 (by first|(simp only [a8,Act.put,List.setIfInBounds_toArray,List.set_cons_zero,List.set_cons_succ];done)|(simp only [a8,Act.put,List.setIfInBounds_toArray,List.set_cons_zero,List.set_cons_succ];rfl)) (hJ3_8 (.slice Ao17 t284.length co17,v294) _ ⟨(rA HO283),(rA HO286),(by (with_reducible repeat (first|apply Kd.S_alloc|apply Kd.S_drewN|apply Kd.S_drew));exact Kd.S_mono HO295.out (fun _ hk=>hk.2)),blA⟩)
         ·
          skip
          rintro ⟨v291,v294⟩ w19 ⟨h0_,h1_,h2_,h3_⟩
          have HO292:=aA.mk h1_
          have HO295:=aA.mk h2_
          replace HO283:=aA.mk h0_
          replace HB:=aA.mk h3_
          clear h0_ h1_ h2_ h3_
          have hHeld:=trivial
          refine b6 (a':=?_) ?_ ?_
          rotate_left
          ·
           simp only [a8,Act.put,List.setIfInBounds_toArray,List.set_cons_zero,List.set_cons_succ]
           rfl
          refine cV (i:=3) (N:=some 34) #[Y,Y,Y,Y,Z,Y,Y,Y,Y,Z,Z,Z] rfl rfl (bX HT_.out (by kernel_rfl)) (by decide) (fun K hK=>?_)
          refine d9 Tryz.func29 (by kernel_rfl) rfl #[.int .i64 a0,.slice A1 l1.length c1,.slice Ao13 t281.length co13] (by rfl) rfl rfl hA ?_
          with_reducible refine (aE.calls k a0 _ _ l1 _ _ t281 t284 _ ?side1 ?side2 ?side3 ?side4 A7.out).mono ?_
          (case side1=>exact cR (Kd.C_below HR1.out HB.out))
          (case side2=>exact HC1.out)
          (case side3=>exact cR (Kd.R_reads' HO283.out).2.2)
          (case side4=>exact (Kd.R_reads' HO283.out).2.1)
          rintro e w20 ⟨v285,rfl,ho0,hb⟩
          refine ⟨_,rfl,?_⟩
          have HO286:=aA.mk (Kd.R_lower (Kd.R_new' ho0 (Kd.R_lt (rA HO292))) (aQ blA))
          replace HO283:=aA.mk (Kd.R_below (rA HO283) hb)
          replace HO292:=aA.mk (Kd.R_elder' (rA HO292) (Kd.R_base ho0) hb)
          replace HO295:=aA.mk (Kd.S_elder' (by (with_reducible repeat (first|apply Kd.S_alloc|apply Kd.S_drewN|apply Kd.S_drew));exact HO295.out) (Kd.R_base ho0) hb)
          replace HB:=lB hb
          (try clear hb)
          (try clear hb2)
          (try clear hk)
          (try clear hi)
          (try clear ho0)
          refine hK.out _ _ trivial (fun hHeld=>?_)
          clear hK K
          refine nmA ?_
          exact b6 (by first|(simp only [a8,Act.put,List.setIfInBounds_toArray,List.set_cons_zero,List.set_cons_succ];done)|(simp only [a8,Act.put,List.setIfInBounds_toArray,List.set_cons_zero,List.set_cons_succ];rfl)) (hJ3_7_8 (v285,v291,v294) _ ⟨(rA HO283),(by (with_reducible repeat (first|apply Kd.R_alloc|apply Kd.R_drewN|apply Kd.R_drew));exact Kd.R_mono HO286.out (fun _ hk=>hk.2)),(by (with_reducible repeat (first|apply Kd.R_alloc|apply Kd.R_drewN|apply Kd.R_drew));exact Kd.R_mono HO292.out (fun _ hk=>hk.2)),(by (with_reducible repeat (first|apply Kd.S_alloc|apply Kd.S_drewN|apply Kd.S_drew));exact Kd.S_mono HO295.out (fun _ hk=>⟨hk.2,hk.1⟩)),blA⟩)
        ·
         skip
         rintro ⟨v285,v294⟩ w18 ⟨h0_,h1_,h2_,h3_⟩
         have HO286:=aA.mk h1_
         have HO295:=aA.mk h2_
         replace HO283:=aA.mk h0_
         replace HB:=aA.mk h3_
         clear h0_ h1_ h2_ h3_
         have hHeld:=trivial
         obtain ⟨Ao19,co19,eo19⟩:=Kd.R_slice HO286.out
         (first|subst eo19|(injection eo19 with f1_ f2_ f3_;have f4_:=f1_.symm;have f5_:=f3_.symm;clear f1_ f2_ f3_;subst f4_;subst f5_))
         refine b6 (a':=?_) ?_ ?_
         rotate_left
         ·
          simp only [a8,Act.put,List.setIfInBounds_toArray,List.set_cons_zero,List.set_cons_succ]
          rfl
         refine two_ (i:=4) (j:=7) (Ni:=some 35) (Nj:=some 38) #[Y,Y,Y,Y,Y,Y,Y,Z,Y,Z,Z,Z] #[Y,Y,Y,Y,Z,Y,Y,Y,Y,Z,Z,Z] rfl rfl rfl rfl (eY HT_.out (by kernel_rfl)) (by decide) (by decide) (fun K hK=>?_) (fun K hK=>?_)
         ·
          skip
          refine d9 Tryz.func28 (by kernel_rfl) rfl #[.slice Ao19 t284.length co19] (by rfl) rfl rfl hA ?_
          with_reducible refine (aW.calls k _ _ t284 t287 _ ?side1 ?side2 A8.out).mono ?_
          (case side1=>exact cR (Kd.R_reads' HO286.out).2.2)
          (case side2=>exact (Kd.R_reads' HO286.out).2.1)
          rintro e w20 ⟨v288,rfl,ho0,hb⟩
          refine ⟨_,rfl,?_⟩
          have HO289:=aA.mk (Kd.S_lower (Kd.S_new' (Kd.S_new' ho0 (Kd.R_lt (rA HO286))) (Kd.S_lt (by (with_reducible repeat (first|apply Kd.S_alloc|apply Kd.S_drewN|apply Kd.S_drew));exact HO295.out))) (aQ blA))
          replace HO283:=aA.mk (Kd.R_below (rA HO283) hb)
          replace HO286:=aA.mk (Kd.R_below (rA HO286) hb)
          replace HO295:=aA.mk (Kd.S_elder' (by (with_reducible repeat (first|apply Kd.S_alloc|apply Kd.S_drewN|apply Kd.S_drew));exact HO295.out) (Kd.S_base ho0) hb)
          replace HB:=lB hb
          (try clear hb)
          (try clear hb2)
          (try clear hk)
          (try clear hi)
          (try clear ho0)
          refine hK.out _ _ trivial (fun hHeld=>?_)
          clear hK K
          refine nmA ?_
          refine puA (i:=9) (N:=some 10) #[Y,Y,Y,Y,Y,Y,Y,Z,Y,Y,Z,Z] rfl rfl HT_ ?_
          exact b6 (by first|(simp only [a8,Act.put,List.setIfInBounds_toArray,List.set_cons_zero,List.set_cons_succ];done)|(simp only [a8,Act.put,List.setIfInBounds_toArray,List.set_cons_zero,List.set_cons_succ];rfl)) (hJ3_4_8 (.slice Ao19 t284.length co19,v288,v294) _ ⟨(rA HO283),(rA HO286),(by (with_reducible repeat (first|apply Kd.S_alloc|apply Kd.S_drewN|apply Kd.S_drew));exact Kd.S_mono HO289.out (fun _ hk=>⟨hk.1.2,hk.2⟩)),(by (with_reducible repeat (first|apply Kd.S_alloc|apply Kd.S_drewN|apply Kd.S_drew));exact HO295.out),blA⟩)
         ·
          skip
          refine Kd.R_make_step (Kd.int .i64) _ 2 (by rfl) (N:=38) rfl 50 _ _ rfl (t281.length:Int) rfl rfl Tryz.underlying50 (.int .i64 0) 8 eH rfl (by decide) (by omega) 0 (ok:=fun _=>True) (okp:=fun _=>True) rfl (fun _ hk=>hk) trivial (dA) (Nat.le_trans (Nat.mul_le_mul_right _ (dA:(t281.length:Int).toNat≤35184372088832)) (by omega)) (Below.refl _ _) (Nat.le_refl _) ?_
          intro v291 w19 ho20 hb hg_ hnew_
          clear hg_ hnew_
          (first|rw [← Ny290.out] at ho20|(simp only [Int.reduceToNat] at ho20;rw [← Ny290.out] at ho20))
          have HO292:=aA.mk (Kd.R_lower (Kd.R_new' ho20 (Kd.R_lt (rA HO286))) (aQ blA))
          replace HO283:=aA.mk (Kd.R_below (rA HO283) hb)
          replace HO286:=aA.mk (Kd.R_elder' (rA HO286) (Kd.R_base ho20) hb)
          replace HO295:=aA.mk (Kd.S_elder' (by (with_reducible repeat (first|apply Kd.S_alloc|apply Kd.S_drewN|apply Kd.S_drew));exact HO295.out) (Kd.R_base ho20) hb)
          replace HB:=lB hb
          clear hb ho20
          refine hK.out _ _ trivial (fun hHeld=>?_)
          clear hK K
          refine nmA ?_
          exact b6 (by first|(simp only [a8,Act.put,List.setIfInBounds_toArray,List.set_cons_zero,List.set_cons_succ];done)|(simp only [a8,Act.put,List.setIfInBounds_toArray,List.set_cons_zero,List.set_cons_succ];rfl)) (hJ3_7_8 (.slice Ao19 t284.length co19,v291,v294) _ ⟨(rA HO283),(by (with_reducible repeat (first|apply Kd.R_alloc|apply Kd.R_drewN|apply Kd.R_drew));exact Kd.R_mono HO286.out (fun _ hk=>hk.2)),(by (with_reducible repeat (first|apply Kd.R_alloc|apply Kd.R_drewN|apply Kd.R_drew));exact Kd.R_mono HO292.out (fun _ hk=>hk.2)),(by (with_reducible repeat (first|apply Kd.S_alloc|apply Kd.S_drewN|apply Kd.S_drew));exact HO295.out),blA⟩)
       ·
        skip
        rintro ⟨v285,v291⟩ w18 ⟨h0_,h1_,h2_,h3_⟩
        have HO286:=aA.mk h1_
        have HO292:=aA.mk h2_
        replace HO283:=aA.mk h0_
        replace HB:=aA.mk h3_
        clear h0_ h1_ h2_ h3_
        have hHeld:=trivial
        obtain ⟨Ao19,co19,eo19⟩:=Kd.R_slice HO286.out
        (first|subst eo19|(injection eo19 with f1_ f2_ f3_;have f4_:=f1_.symm;have f5_:=f3_.symm;clear f1_ f2_ f3_;subst f4_;subst f5_))
        refine b6 (a':=?_) ?_ ?_
        rotate_left
        ·
         simp only [a8,Act.put,List.setIfInBounds_toArray,List.set_cons_zero,List.set_cons_succ]
         rfl
        refine two_ (i:=4) (j:=8) (Ni:=some 35) (Nj:=some 39) #[Y,Y,Y,Y,Y,Y,Y,Y,Z,Z,Z,Z] #[Y,Y,Y,Y,Z,Y,Y,Y,Y,Z,Z,Z] rfl rfl rfl rfl (eY HT_.out (by kernel_rfl)) (by decide) (by decide) (fun K hK=>?_) (fun K hK=>?_)
        ·
         skip
         refine d9 Tryz.func28 (by kernel_rfl) rfl #[.slice Ao19 t284.length co19] (by rfl) rfl rfl hA ?_
         with_reducible refine (aW.calls k _ _ t284 t287 _ ?side1 ?side2 A8.out).mono ?_
         (case side1=>exact cR (Kd.R_reads' HO286.out).2.2)
         (case side2=>exact (Kd.R_reads' HO286.out).2.1)
         rintro e w20 ⟨v288,rfl,ho0,hb⟩
         refine ⟨_,rfl,?_⟩
         have HO289:=aA.mk (Kd.S_lower (Kd.S_new' (Kd.S_new' ho0 (Kd.R_lt (rA HO286))) (Kd.R_lt (rA HO292))) (aQ blA))
         replace HO283:=aA.mk (Kd.R_below (rA HO283) hb)
         replace HO286:=aA.mk (Kd.R_below (rA HO286) hb)
         replace HO292:=aA.mk (Kd.R_below (rA HO292) hb)
         replace HB:=lB hb
         (try clear hb)
         (try clear hb2)
         (try clear hk)
         (try clear hi)
         (try clear ho0)
         refine hK.out _ _ trivial (fun hHeld=>?_)
         clear hK K
         refine nmA ?_
         refine puA (i:=9) (N:=some 10) #[Y,Y,Y,Y,Y,Y,Y,Y,Z,Y,Z,Z] rfl rfl HT_ ?_
         refine puA (i:=10) (N:=some 11) #[Y,Y,Y,Y,Y,Y,Y,Y,Z,Y,Y,Z] rfl rfl HT_ ?_
         exact b6 (by first|(simp only [a8,Act.put,List.setIfInBounds_toArray,List.set_cons_zero,List.set_cons_succ];done)|(simp only [a8,Act.put,List.setIfInBounds_toArray,List.set_cons_zero,List.set_cons_succ];rfl)) (hJ3_4_7 (.slice Ao19 t284.length co19,v288,v291) _ ⟨(rA HO283),(rA HO286),(by (with_reducible repeat (first|apply Kd.S_alloc|apply Kd.S_drewN|apply Kd.S_drew));exact Kd.S_mono HO289.out (fun _ hk=>⟨hk.1.2,hk.2⟩)),(rA HO292),blA⟩)
        ·
         skip
         refine Kd.S_lit_step (Kd.slice 2 (Kd.int .i64)) _ 50 ?hg (N:=39) ?hd (xs:=([]:List (List Int))) (inner:=[]) (ok:=fun _=>True) (okp:=fun _=>True) ?hr ?hp (fun _ hk=>hk) trivial (Below.refl _ _) (Nat.le_refl _) (by simp) ?_;(case hd=>rfl);(case hg=>rfl);(case hr=>first|(go_simp;done)|(go_simp;rfl));(case hp=>exact (bD.none _ _))
         intro v294 w19 ho20 hb hg_ hnew_
         clear hg_ hnew_
         (first|rw [← Ny293.out] at ho20|(simp only [Int.reduceToNat] at ho20;rw [← Ny293.out] at ho20))
         have HO295:=aA.mk (Kd.S_lower (Kd.S_new' (Kd.S_new' ho20 (Kd.R_lt (rA HO286))) (Kd.R_lt (rA HO292))) (aQ blA))
         replace HO283:=aA.mk (Kd.R_below (rA HO283) hb)
         replace HO286:=aA.mk (Kd.R_below (rA HO286) hb)
         replace HO292:=aA.mk (Kd.R_below (rA HO292) hb)
         replace HB:=lB hb
         clear hb ho20
         refine hK.out _ _ trivial (fun hHeld=>?_)
         clear hK K
         refine nmA ?_
         exact b6 (by first|(simp only [a8,Act.put,List.setIfInBounds_toArray,List.set_cons_zero,List.set_cons_succ];done)|(simp only [a8,Act.put,List.setIfInBounds_toArray,List.set_cons_zero,List.set_cons_succ];rfl)) (hJ3_7_8 (.slice Ao19 t284.length co19,v291,v294) _ ⟨(rA HO283),(rA HO286),(rA HO292),(by (with_reducible repeat (first|apply Kd.S_alloc|apply Kd.S_drewN|apply Kd.S_drew));exact Kd.S_mono HO295.out (fun _ hk=>⟨hk.1.2,hk.2⟩)),blA⟩)
      ·
       skip
       rintro ⟨v285,v288⟩ w18 ⟨h0_,h1_,h2_,h3_⟩
       have HO286:=aA.mk h1_
       have HO289:=aA.mk h2_
       replace HO283:=aA.mk h0_
       replace HB:=aA.mk h3_
       clear h0_ h1_ h2_ h3_
       have hHeld:=trivial
       refine b6 (a':=?_) ?_ ?_
       rotate_left
       ·
        simp only [a8,Act.put,List.setIfInBounds_toArray,List.set_cons_zero,List.set_cons_succ]
        rfl
       refine two_ (i:=7) (j:=8) (Ni:=some 38) (Nj:=some 39) #[Y,Y,Y,Y,Y,Y,Y,Y,Z,Y,Z,Z] #[Y,Y,Y,Y,Y,Y,Y,Z,Y,Y,Z,Z] rfl rfl rfl rfl (eY HT_.out (by kernel_rfl)) (by decide) (by decide) (fun K hK=>?_) (fun K hK=>?_)
       ·
        skip
        refine Kd.R_make_step (Kd.int .i64) _ 2 (by rfl) (N:=38) rfl 50 _ _ rfl (t281.length:Int) rfl rfl Tryz.underlying50 (.int .i64 0) 8 eH rfl (by decide) (by omega) 0 (ok:=fun _=>True) (okp:=fun _=>True) rfl (fun _ hk=>hk) trivial (dA) (Nat.le_trans (Nat.mul_le_mul_right _ (dA:(t281.length:Int).toNat≤35184372088832)) (by omega)) (Below.refl _ _) (Nat.le_refl _) ?_
        intro v291 w19 ho20 hb hg_ hnew_
        clear hg_ hnew_
        (first|rw [← Ny290.out] at ho20|(simp only [Int.reduceToNat] at ho20;rw [← Ny290.out] at ho20))
        have HO292:=aA.mk (Kd.R_lower (Kd.R_new' ho20 (Kd.R_lt (rA HO286))) (aQ blA))
        replace HO283:=aA.mk (Kd.R_below (rA HO283) hb)
        replace HO286:=aA.mk (Kd.R_elder' (rA HO286) (Kd.R_base ho20) hb)
        replace HO289:=aA.mk (Kd.S_elder' (by (with_reducible repeat (first|apply Kd.S_alloc|apply Kd.S_drewN|apply Kd.S_drew));exact HO289.out) (Kd.R_base ho20) hb)
        replace HB:=lB hb
        clear hb ho20
        refine hK.out _ _ trivial (fun hHeld=>?_)
        clear hK K
        refine nmA ?_
        refine puA (i:=10) (N:=some 11) #[Y,Y,Y,Y,Y,Y,Y,Y,Z,Y,Y,Z] rfl rfl HT_ ?_
        exact b6 (by first|(simp only [a8,Act.put,List.setIfInBounds_toArray,List.set_cons_zero,List.set_cons_succ];done)|(simp only [a8,Act.put,List.setIfInBounds_toArray,List.set_cons_zero,List.set_cons_succ];rfl)) (hJ3_4_7 (v285,v288,v291) _ ⟨(rA HO283),(by (with_reducible repeat (first|apply Kd.R_alloc|apply Kd.R_drewN|apply Kd.R_drew));exact Kd.R_mono HO286.out (fun _ hk=>hk.2)),(by (with_reducible repeat (first|apply Kd.S_alloc|apply Kd.S_drewN|apply Kd.S_drew));exact HO289.out),(by (with_reducible repeat (first|apply Kd.R_alloc|apply Kd.R_drewN|apply Kd.R_drew));exact Kd.R_mono HO292.out (fun _ hk=>hk.2)),blA⟩)
       ·
        skip
        refine Kd.S_lit_step (Kd.slice 2 (Kd.int .i64)) _ 50 ?hg (N:=39) ?hd (xs:=([]:List (List Int))) (inner:=[]) (ok:=fun _=>True) (okp:=fun _=>True) ?hr ?hp (fun _ hk=>hk) trivial (Below.refl _ _) (Nat.le_refl _) (by simp) ?_;(case hd=>rfl);(case hg=>rfl);(case hr=>first|(go_simp;done)|(go_simp;rfl));(case hp=>exact (bD.none _ _))
        intro v294 w19 ho20 hb hg_ hnew_
        clear hg_ hnew_
        (first|rw [← Ny293.out] at ho20|(simp only [Int.reduceToNat] at ho20;rw [← Ny293.out] at ho20))
        have HO295:=aA.mk (Kd.S_lower (Kd.S_new' (Kd.S_new' ho20 (Kd.R_lt (rA HO286))) (Kd.S_lt (by (with_reducible repeat (first|apply Kd.S_alloc|apply Kd.S_drewN|apply Kd.S_drew));exact HO289.out))) (aQ blA))
        replace HO283:=aA.mk (Kd.R_below (rA HO283) hb)
        replace HO286:=aA.mk (Kd.R_below (rA HO286) hb)
        replace HO289:=aA.mk (Kd.S_elder' (by (with_reducible repeat (first|apply Kd.S_alloc|apply Kd.S_drewN|apply Kd.S_drew));exact HO289.out) (Kd.S_base ho20) hb)
        replace HB:=lB hb
        clear hb ho20
        refine hK.out _ _ trivial (fun hHeld=>?_)
        clear hK K
        refine nmA ?_
        exact b6 (by first|(simp only [a8,Act.put,List.setIfInBounds_toArray,List.set_cons_zero,List.set_cons_succ];done)|(simp only [a8,Act.put,List.setIfInBounds_toArray,List.set_cons_zero,List.set_cons_succ];rfl)) (hJ3_4_8 (v285,v288,v294) _ ⟨(rA HO283),(rA HO286),(by (with_reducible repeat (first|apply Kd.S_alloc|apply Kd.S_drewN|apply Kd.S_drew));exact HO289.out),(by (with_reducible repeat (first|apply Kd.S_alloc|apply Kd.S_drewN|apply Kd.S_drew));exact Kd.S_mono HO295.out (fun _ hk=>⟨hk.1.2,hk.2⟩)),blA⟩)
     ·
      skip
      rintro ⟨v285,v291,v294⟩ w20 ⟨h0_,h1_,h2_,h3_,h4_⟩
      have HO286:=aA.mk h1_
      have HO292:=aA.mk h2_
      have HO295:=aA.mk h3_
      replace HO283:=aA.mk h0_
      replace HB:=aA.mk h4_
      clear h0_ h1_ h2_ h3_ h4_
      have hHeld:=trivial
      obtain ⟨Ao21,co21,eo21⟩:=Kd.R_slice HO286.out
      (first|subst eo21|(injection eo21 with f1_ f2_ f3_;have f4_:=f1_.symm;have f5_:=f3_.symm;clear f1_ f2_ f3_;subst f4_;subst f5_))
      refine b6 (a':=?_) ?_ ?_
      rotate_left
      ·
       simp only [a8,Act.put,List.setIfInBounds_toArray,List.set_cons_zero,List.set_cons_succ]
       rfl
      refine cV (i:=4) (N:=some 35) #[Y,Y,Y,Y,Y,Y,Y,Y,Y,Z,Z,Z] rfl rfl (bX HT_.out (by kernel_rfl)) (by decide) (fun K hK=>?_)
      refine d9 Tryz.func28 (by kernel_rfl) rfl #[.slice Ao21 t284.length co21] (by rfl) rfl rfl hA ?_
      with_reducible refine (aW.calls k _ _ t284 t287 _ ?side1 ?side2 A8.out).mono ?_
      (case side1=>exact cR (Kd.R_reads' HO286.out).2.2)
      (case side2=>exact (Kd.R_reads' HO286.out).2.1)
      rintro e w22 ⟨v288,rfl,ho0,hb⟩
      refine ⟨_,rfl,?_⟩
      have HO289:=aA.mk (Kd.S_lower (Kd.S_new' (Kd.S_new' (Kd.S_new' ho0 (Kd.R_lt (rA HO286))) (Kd.R_lt (rA HO292))) (Kd.S_lt (by (with_reducible repeat (first|apply Kd.S_alloc|apply Kd.S_drewN|apply Kd.S_drew));exact HO295.out))) (aQ blA))
      replace HO283:=aA.mk (Kd.R_below (rA HO283) hb)
      replace HO286:=aA.mk (Kd.R_below (rA HO286) hb)
      replace HO292:=aA.mk (Kd.R_below (rA HO292) hb)
      replace HO295:=aA.mk (Kd.S_elder' (by (with_reducible repeat (first|apply Kd.S_alloc|apply Kd.S_drewN|apply Kd.S_drew));exact HO295.out) (Kd.S_base ho0) hb)
      replace HB:=lB hb
      (try clear hb)
      (try clear hb2)
      (try clear hk)
      (try clear hi)
      (try clear ho0)
      refine hK.out _ _ trivial (fun hHeld=>?_)
      clear hK K
      refine nmA ?_
      refine puA (i:=9) (N:=some 10) #[Y,Y,Y,Y,Y,Y,Y,Y,Y,Y,Z,Z] rfl rfl HT_ ?_
      refine puA (i:=10) (N:=some 11) #[Y,Y,Y,Y,Y,Y,Y,Y,Y,Y,Y,Z] rfl rfl HT_ ?_
      exact b6 (by first|(simp only [a8,Act.put,List.setIfInBounds_toArray,List.set_cons_zero,List.set_cons_succ];done)|(simp only [a8,Act.put,List.setIfInBounds_toArray,List.set_cons_zero,List.set_cons_succ];rfl)) (hJ3_4_7_8 (.slice Ao21 t284.length co21,v288,v291,v294) _ ⟨(rA HO283),(rA HO286),(by (with_reducible repeat (first|apply Kd.S_alloc|apply Kd.S_drewN|apply Kd.S_drew));exact Kd.S_mono HO289.out (fun _ hk=>⟨hk.1.1.2,⟨hk.1.2,hk.2⟩⟩)),(rA HO292),(by (with_reducible repeat (first|apply Kd.S_alloc|apply Kd.S_drewN|apply Kd.S_drew));exact Kd.S_mono HO295.out (fun _ hk=>⟨hk.1.1,⟨hk.2,hk.1.2⟩⟩)),blA⟩)
    ·
     skip
     rintro ⟨v285,v288,v294⟩ w20 ⟨h0_,h1_,h2_,h3_,h4_⟩
     have HO286:=aA.mk h1_
     have HO289:=aA.mk h2_
     have HO295:=aA.mk h3_
     replace HO283:=aA.mk h0_
     replace HB:=aA.mk h4_
     clear h0_ h1_ h2_ h3_ h4_
     have hHeld:=trivial
     refine b6 (a':=?_) ?_ ?_
     rotate_left
     ·
      simp only [a8,Act.put,List.setIfInBounds_toArray,List.set_cons_zero,List.set_cons_succ]
      rfl
     refine cV (i:=7) (N:=some 38) #[Y,Y,Y,Y,Y,Y,Y,Y,Y,Y,Z,Z] rfl rfl (bX HT_.out (by kernel_rfl)) (by decide) (fun K hK=>?_)
     refine Kd.R_make_step (Kd.int .i64) _ 2 (by rfl) (N:=38) rfl 50 _ _ rfl (t281.length:Int) rfl rfl Tryz.underlying50 (.int .i64 0) 8 eH rfl (by decide) (by omega) 0 (ok:=fun _=>True) (okp:=fun _=>True) rfl (fun _ hk=>hk) trivial (dA) (Nat.le_trans (Nat.mul_le_mul_right _ (dA:(t281.length:Int).toNat≤35184372088832)) (by omega)) (Below.refl _ _) (Nat.le_refl _) ?_
     intro v291 w21 ho22 hb hg_ hnew_
     clear hg_ hnew_
     (first|rw [← Ny290.out] at ho22|(simp only [Int.reduceToNat] at ho22;rw [← Ny290.out] at ho22))
     have HO292:=aA.mk (Kd.R_lower (Kd.R_new' ho22 (Kd.R_lt (rA HO286))) (aQ blA))
     replace HO283:=aA.mk (Kd.R_below (rA HO283) hb)
     replace HO286:=aA.mk (Kd.R_elder' (rA HO286) (Kd.R_base ho22) hb)
     replace HO289:=aA.mk (Kd.S_elder' (by (with_reducible repeat (first|apply Kd.S_alloc|apply Kd.S_drewN|apply Kd.S_drew));exact HO289.out) (Kd.R_base ho22) hb)
     replace HO295:=aA.mk (Kd.S_elder' (by (with_reducible repeat (first|apply Kd.S_alloc|apply Kd.S_drewN|apply Kd.S_drew));exact HO295.out) (Kd.R_base ho22) hb)
     replace HB:=lB hb
     clear hb ho22
     refine hK.out _ _ trivial (fun hHeld=>?_)
     clear hK K
     refine nmA ?_
     refine puA (i:=10) (N:=some 11) #[Y,Y,Y,Y,Y,Y,Y,Y,Y,Y,Y,Z] rfl rfl HT_ ?_
     exact b6 (by first|(simp only [a8,Act.put,List.setIfInBounds_toArray,List.set_cons_zero,List.set_cons_succ];done)|(simp only [a8,Act.put,List.setIfInBounds_toArray,List.set_cons_zero,List.set_cons_succ];rfl)) (hJ3_4_7_8 (v285,v288,v291,v294) _ ⟨(rA HO283),(by (with_reducible repeat (first|apply Kd.R_alloc|apply Kd.R_drewN|apply Kd.R_drew));exact Kd.R_mono HO286.out (fun _ hk=>hk.2)),(by (with_reducible repeat (first|apply Kd.S_alloc|apply Kd.S_drewN|apply Kd.S_drew));exact Kd.S_mono HO289.out (fun _ hk=>⟨hk.1.1,⟨hk.2,hk.1.2⟩⟩)),(by (with_reducible repeat (first|apply Kd.R_alloc|apply Kd.R_drewN|apply Kd.R_drew));exact Kd.R_mono HO292.out (fun _ hk=>hk.2)),(by (with_reducible repeat (first|apply Kd.S_alloc|apply Kd.S_drewN|apply Kd.S_drew));exact Kd.S_mono HO295.out (fun _ hk=>⟨hk.1.1,⟨hk.1.2,hk.2⟩⟩)),blA⟩)
   ·
    skip
    rintro ⟨v285,v288,v291⟩ w20 ⟨h0_,h1_,h2_,h3_,h4_⟩
    have HO286:=aA.mk h1_
    have HO289:=aA.mk h2_
    have HO292:=aA.mk h3_
    replace HO283:=aA.mk h0_
    replace HB:=aA.mk h4_
    clear h0_ h1_ h2_ h3_ h4_
    have hHeld:=trivial
    refine b6 (a':=?_) ?_ ?_
    rotate_left
    ·
     simp only [a8,Act.put,List.setIfInBounds_toArray,List.set_cons_zero,List.set_cons_succ]
     rfl
    refine cV (i:=8) (N:=some 39) #[Y,Y,Y,Y,Y,Y,Y,Y,Y,Y,Y,Z] rfl rfl (bX HT_.out (by kernel_rfl)) (by decide) (fun K hK=>?_)
    refine Kd.S_lit_step (Kd.slice 2 (Kd.int .i64)) _ 50 ?hg (N:=39) ?hd (xs:=([]:List (List Int))) (inner:=[]) (ok:=fun _=>True) (okp:=fun _=>True) ?hr ?hp (fun _ hk=>hk) trivial (Below.refl _ _) (Nat.le_refl _) (by simp) ?_;(case hd=>rfl);(case hg=>rfl);(case hr=>first|(go_simp;done)|(go_simp;rfl));(case hp=>exact (bD.none _ _))
    intro v294 w21 ho22 hb hg_ hnew_
    clear hg_ hnew_
    (first|rw [← Ny293.out] at ho22|(simp only [Int.reduceToNat] at ho22;rw [← Ny293.out] at ho22))
    have HO295:=aA.mk (Kd.S_lower (Kd.S_new' (Kd.S_new' (Kd.S_new' ho22 (Kd.R_lt (rA HO286))) (Kd.S_lt (by (with_reducible repeat (first|apply Kd.S_alloc|apply Kd.S_drewN|apply Kd.S_drew));exact HO289.out))) (Kd.R_lt (rA HO292))) (aQ blA))
    replace HO283:=aA.mk (Kd.R_below (rA HO283) hb)
    replace HO286:=aA.mk (Kd.R_below (rA HO286) hb)
    replace HO289:=aA.mk (Kd.S_elder' (by (with_reducible repeat (first|apply Kd.S_alloc|apply Kd.S_drewN|apply Kd.S_drew));exact HO289.out) (Kd.S_base ho22) hb)
    replace HO292:=aA.mk (Kd.R_below (rA HO292) hb)
    replace HB:=lB hb
    clear hb ho22
    refine hK.out _ _ trivial (fun hHeld=>?_)
    clear hK K
    refine nmA ?_
    exact b6 (by first|(simp only [a8,Act.put,List.setIfInBounds_toArray,List.set_cons_zero,List.set_cons_succ];done)|(simp only [a8,Act.put,List.setIfInBounds_toArray,List.set_cons_zero,List.set_cons_succ];rfl)) (hJ3_4_7_8 (v285,v288,v291,v294) _ ⟨(rA HO283),(rA HO286),(by (with_reducible repeat (first|apply Kd.S_alloc|apply Kd.S_drewN|apply Kd.S_drew));exact Kd.S_mono HO289.out (fun _ hk=>⟨hk.1.1,⟨hk.1.2,hk.2⟩⟩)),(rA HO292),(by (with_reducible repeat (first|apply Kd.S_alloc|apply Kd.S_drewN|apply Kd.S_drew));exact Kd.S_mono HO295.out (fun _ hk=>⟨hk.1.1.2,⟨hk.1.2,hk.2⟩⟩)),blA⟩)
  rintro ⟨v285,v288,v291,v294⟩ w22 ⟨h0_,h1_,h2_,h3_,h4_,h5_⟩
  have HO286:=aA.mk h1_
  have HO289:=aA.mk h2_
  have HO292:=aA.mk h3_
  have HO295:=aA.mk h4_
  replace HO283:=aA.mk h0_
  replace HB:=aA.mk h5_
  clear h0_ h1_ h2_ h3_ h4_ h5_
  have hHeld:=trivial
  refine b6 (a':=?_) ?_ ?_
  rotate_left
  ·
   simp only [a8,Act.put,List.setIfInBounds_toArray,List.set_cons_zero,List.set_cons_succ]
   rfl
  refine puA (i:=11) (N:=some 12) #[Y,Y,Y,Y,Y,Y,Y,Y,Y,Y,Y,Y] rfl rfl HT_ ?_
  refine cg (br HT_.out (by kernel_rfl)) ?_
  try go_wp2_with (first|((with_reducible refine aN (N:=40) rfl ?_);refine Kd.S_lit (Kd.slice 4 Kd.bool) _ 49 ?hg (N:=40) ?hd (xs:=([]:List (List Bool))) (inner:=[]) (ok:=fun _=>True) (okp:=fun _=>True) ?hr ?hp (fun _ hk=>hk) trivial (Below.refl _ _) (Nat.le_refl _) (by simp) ?_;(case hd=>rfl);(case hg=>rfl);(case hr=>first|(go_simp;done)|(go_simp;rfl));(case hp=>exact (bD.none _ _));intro v297 w23 ho24 hb hg_ hnew_;clear hg_ hnew_;(first|rw [← Ny296.out] at ho24|(simp only [Int.reduceToNat] at ho24;rw [← Ny296.out] at ho24));have n0_:=aA.mk (Kd.R_below (rA HO283) hb);have n1_:=aA.mk (Kd.R_below (rA HO286) hb);have n2_:=aA.mk (Kd.S_below (by (with_reducible repeat (first|apply Kd.S_alloc|apply Kd.S_drewN|apply Kd.S_drew));exact HO289.out) hb);have n3_:=aA.mk (Kd.R_below (rA HO292) hb);have n4_:=aA.mk (Kd.S_below (by (with_reducible repeat (first|apply Kd.S_alloc|apply Kd.S_drewN|apply Kd.S_drew));exact HO295.out) hb);have n5_:=aA.mk (Kd.S_lower ho24 (aQ blA));have n6_:=lB hb;clear HO283;clear HO286;clear HO289;clear HO292;clear HO295;clear HB;have HO283:=n0_;have HO286:=n1_;have HO289:=n2_;have HO292:=n3_;have HO295:=n4_;have HO298:=n5_;have HB:=n6_;clear n0_ n1_ n2_ n3_ n4_ n5_ n6_;clear hb ho24))
  go_loopg [13,14] k (fun kq v13 v14 w'=>∃ (x11_1:List Int) (x13_1:List (List Bool)) (x14_1:Int),v14=.int .i64 x14_1∧aA (aC.l0 kq a0 t281 t287 x11_1 y293 x13_1 x14_1=some (r1,r2))∧aA (kq≤k)∧aA (Kd.R k43 43 w' w.heap.size (fun _=>True) (.slice Ao13 t281.length co13) t281)∧aA (Kd.S (Kd.slice 2 (Kd.int .i64)) 50 w' w.heap.size (fun k_=>some k_≠(v291:Value).ownBlock∧some k_≠(v294:Value).ownBlock) v288 t287)∧aA (Kd.R (Kd.int .i64) 2 w' w.heap.size (fun _=>True) v291 x11_1)∧aA (Kd.S (Kd.slice 2 (Kd.int .i64)) 50 w' w.heap.size (fun k_=>some k_≠(v288:Value).ownBlock∧some k_≠(v291:Value).ownBlock) v294 y293)∧aA (Kd.S (Kd.slice 4 Kd.bool) 49 w' w.heap.size (fun _=>True) v13 x13_1)∧aA (Below w.heap.size w w'))
  case atStart=>exact ⟨(y290),(y296),(0),hB,H',⟨Nat.le_refl _⟩,⟨rA HO283⟩,⟨by (with_reducible repeat (first|apply Kd.S_alloc|apply Kd.S_drewN|apply Kd.S_drew));exact Kd.S_mono HO289.out (fun _ hk=>⟨hk.2.1,hk.2.2⟩)⟩,⟨by (with_reducible repeat (first|apply Kd.R_alloc|apply Kd.R_drewN|apply Kd.R_drew));exact Kd.R_mono HO292.out (fun _ hk=>trivial)⟩,⟨by (with_reducible repeat (first|apply Kd.S_alloc|apply Kd.S_drewN|apply Kd.S_drew));exact Kd.S_mono HO295.out (fun _ hk=>⟨hk.2.1,hk.2.2⟩)⟩,⟨by (with_reducible repeat (first|apply Kd.S_alloc|apply Kd.S_drewN|apply Kd.S_drew));exact HO298.out⟩,⟨blA⟩⟩
  case round=>
   clear H'
   try clear c1
   obtain ⟨x11_1,x13_1,x14_1,rfl,HA,HK1,HO_9,HO_10,HO_11,HO_12,HO_13,HB⟩:=hrel
   cases gk with
   | zero=>exact absurd HA.out (by simp [aC.l0])
   | succ k1=>
    have H:=HA.out
    clear HA
    simp only [aC.l0] at H
    by_cases c25:x14_1<(t287.length:Int)
    ·
     rw [if_pos c25] at H
     have c25b0:=decide_eq_true c25
     clear c25
     by_cases c26:0≤(t287.length:Int)
     rotate_left
     ·
      rw [if_neg c26] at H
      exact absurd H (by simp)
     rw [if_pos c26] at H
     have c26b0:=eq_true c26
     have c26b1:=decide_eq_true c26
     clear c26
     by_cases c27:((t287.length:Int):Int).toNat≤281474976710656
     rotate_left
     ·
      rw [if_neg c27] at H
      exact absurd H (by simp)
     rw [if_pos c27] at H
     have c27b0:=eq_true c27
     have c27b1:=decide_eq_true c27
     clear c27
     obtain ⟨y299,hy299⟩:∃ y_:List Bool,y_=(List.replicate ((t287.length:Int):Int).toNat false):=⟨_,rfl⟩
     replace H:(if x13_1.length<5864062014805 then (aC.l1 k1 a0 t281 t287 x11_1 y293 (x13_1 ++ [y299]) x14_1 0) else (none))=some (r1,r2):=rH hy299 H
     have Ny299:=aA.mk hy299
     clear hy299
     by_cases c28:x13_1.length<5864062014805
     rotate_left
     ·
      rw [if_neg c28] at H
      exact absurd H (by simp)
     rw [if_pos c28] at H
     have LMc28:=aA.mk c28
     clear c28
     obtain ⟨y302,hy302⟩:∃ y_:List (List Bool),y_=(x13_1 ++ [y299]):=⟨_,rfl⟩
     replace H:(aC.l1 k1 a0 t281 t287 x11_1 y293 y302 x14_1 0)=some (r1,r2):=rH hy302 H
     have Ny302:=aA.mk hy302
     clear hy302
     have H':=aA.mk H
     clear H
     obtain ⟨Ao29,co29,eo29⟩:=Kd.S_slice HO_10.out
     subst eo29
     go_wp2_with (first|((with_reducible refine aN (N:=50) rfl ?_);refine Kd.R_make Kd.bool _ 4 rfl (N:=50) rfl 49 _ _ rfl (t287.length:Int) rfl rfl Tryz.underlying49 (.bool false) 1 info4 rfl (by decide) (by omega) false (ok:=fun _=>True) (okp:=fun _=>True) rfl (fun _ hk=>hk) trivial (dA) (Nat.le_trans (Nat.mul_le_mul_right _ (dA:(t287.length:Int).toNat≤281474976710656)) (by omega)) (Below.refl _ _) (Nat.le_refl _) ?_;intro v300 w30 ho31 hb hg_ hnew_;clear hg_ hnew_;(first|rw [← Ny299.out] at ho31|(simp only [Int.reduceToNat] at ho31;rw [← Ny299.out] at ho31));have n0_:=aA.mk (Kd.R_below (rA HO_9) hb);have n1_:=aA.mk (Kd.S_below (by (with_reducible repeat (first|apply Kd.S_alloc|apply Kd.S_drewN|apply Kd.S_drew));exact HO_10.out) hb);have n2_:=aA.mk (Kd.R_below (rA HO_11) hb);have n3_:=aA.mk (Kd.S_below (by (with_reducible repeat (first|apply Kd.S_alloc|apply Kd.S_drewN|apply Kd.S_drew));exact HO_12.out) hb);have n4_:=aA.mk (Kd.S_elder' (by (with_reducible repeat (first|apply Kd.S_alloc|apply Kd.S_drewN|apply Kd.S_drew));exact HO_13.out) (Kd.R_base ho31) hb);have n5_:=aA.mk (Kd.R_lower ho31 (aQ blA));have n6_:=lB hb;clear HO_9;clear HO_10;clear HO_11;clear HO_12;clear HO_13;clear HB;have HO_9:=n0_;have HO_10:=n1_;have HO_11:=n2_;have HO_12:=n3_;have HO_13:=n4_;have HO301:=n5_;have HB:=n6_;clear n0_ n1_ n2_ n3_ n4_ n5_ n6_;clear hb ho31;obtain ⟨Ao33,co33,eo33⟩:=Kd.R_slice HO301.out;subst eo33)|((with_reducible refine bY (b:=.append) (xs:=#[.tmp 47,.tmp 51]) rfl ?_);at_builtin;refine Kd.S_append (Kd.slice 4 Kd.bool) (w0:=w) w.heap.size rfl (.tmp 47) (.tmp 51) 55 49 (.slice none 0 0) 24 rfl Tryz.underlying55 info49 rfl (by decide) (by omega) u13 x13_1 y299 [.slice Ao33 y299.length co33] (fun _=>True) (fun k_=>some k_=(.slice Ao33 y299.length co33:Value).ownBlock) rfl rfl ?aP (fun k_ hk_=>((Kd.R_mono (ok':=fun k_=>((fun _=>True)) k_∧some k_≠(u13:Value).ownBlock) (Kd.R_apart' (HO301.out) (Kd.S_typed HO_13.out) (by decide)) (fun k_ hk=>⟨trivial,hk.2⟩))).1 k_ hk_.symm) ?aF ?aO ?aB ?aS ?aL ?_;(case aP=>exact Kd.M_row (Kd.R_mono (Kd.R_tight rfl (Kd.R_mono (ok':=fun k_=>((fun _=>True)) k_∧some k_≠(u13:Value).ownBlock) (Kd.R_apart' (HO301.out) (Kd.S_typed HO_13.out) (by decide)) (fun k_ hk=>⟨trivial,hk.2⟩))) (fun _ h_=>h_)));(case aB=>exact blA);(case aF=>exact (fun _ _=>trivial));(case aO=>exact (by (with_reducible repeat (first|apply Kd.S_alloc|apply Kd.S_drewN|apply Kd.S_drew));exact Kd.S_mono HO_13.out (fun k_ hk=>⟨trivial,fun e_=>hk.2 e_⟩)));(case aS=>exact (aQ blA));(case aL=>have:=LMc28.out;omega);intro v303 w32 ho hb hg hat;rw [← Ny302.out] at ho;have n0_:=aA.mk (Kd.R_over' (rA HO_9) (Kd.S_typed (by (with_reducible repeat (first|apply Kd.S_alloc|apply Kd.S_drewN|apply Kd.S_drew));exact HO_13.out)) (by decide) hg);have n1_:=aA.mk (Kd.S_over' (by (with_reducible repeat (first|apply Kd.S_alloc|apply Kd.S_drewN|apply Kd.S_drew));exact HO_10.out) (Kd.S_typed (by (with_reducible repeat (first|apply Kd.S_alloc|apply Kd.S_drewN|apply Kd.S_drew));exact HO_13.out)) (by decide) hg);have n2_:=aA.mk (Kd.R_over' (rA HO_11) (Kd.S_typed (by (with_reducible repeat (first|apply Kd.S_alloc|apply Kd.S_drewN|apply Kd.S_drew));exact HO_13.out)) (by decide) hg);have n3_:=aA.mk (Kd.S_over' (by (with_reducible repeat (first|apply Kd.S_alloc|apply Kd.S_drewN|apply Kd.S_drew));exact HO_12.out) (Kd.S_typed (by (with_reducible repeat (first|apply Kd.S_alloc|apply Kd.S_drewN|apply Kd.S_drew));exact HO_13.out)) (by decide) hg);have n4_:=aA.mk hb;have n5_:=aA.mk ho;clear HO_9;clear HO_10;clear HO_11;clear HO_12;clear HB;clear HO_13;clear HO301;have HO_9:=n0_;have HO_10:=n1_;have HO_11:=n2_;have HO_12:=n3_;have HB:=n4_;have HO304:=n5_;clear n0_ n1_ n2_ n3_ n4_ n5_;clear ho hb hg hat))
     go_loopg [15] k1 (fun kq v15 w'=>∃ (x11_2:List Int) (x15_2:Int),v15=.int .i64 x15_2∧aA (aC.l1 kq a0 t281 t287 x11_2 y293 y302 x14_1 x15_2=some (r1,r2))∧aA (kq≤k1)∧aA (Kd.R k43 43 w' w.heap.size (fun _=>True) (.slice Ao13 t281.length co13) t281)∧aA (Kd.S (Kd.slice 2 (Kd.int .i64)) 50 w' w.heap.size (fun k_=>some k_≠(v291:Value).ownBlock∧some k_≠(v294:Value).ownBlock) (.slice Ao29 t287.length co29) t287)∧aA (Kd.R (Kd.int .i64) 2 w' w.heap.size (fun _=>True) v291 x11_2)∧aA (Kd.S (Kd.slice 2 (Kd.int .i64)) 50 w' w.heap.size (fun k_=>some k_≠((.slice Ao29 t287.length co29):Value).ownBlock∧some k_≠(v291:Value).ownBlock) v294 y293)∧aA (Kd.S (Kd.slice 4 Kd.bool) 49 w' w.heap.size (fun _=>True) v303 y302)∧aA (Below w.heap.size w w'))
     case atStart=>exact ⟨(x11_1),(0),hB,H',⟨Nat.le_refl _⟩,⟨rA HO_9⟩,⟨by (with_reducible repeat (first|apply Kd.S_alloc|apply Kd.S_drewN|apply Kd.S_drew));exact HO_10.out⟩,⟨rA HO_11⟩,⟨by (with_reducible repeat (first|apply Kd.S_alloc|apply Kd.S_drewN|apply Kd.S_drew));exact HO_12.out⟩,⟨by (with_reducible repeat (first|apply Kd.S_alloc|apply Kd.S_drewN|apply Kd.S_drew));exact HO304.out⟩,⟨blA⟩⟩
     case round=>
      clear H'
      try clear c1
      try clear c25
      try clear c25b0
      try clear c26
      try clear c26b0
      try clear c26b1
      try clear c27
      try clear c27b0
      try clear c27b1
      try clear c28
      obtain ⟨x11_2,x15_2,rfl,HA,HK2,HO_9,HO_10,HO_11,HO_12,HO_13,HB⟩:=hrel
      cases gk with
      | zero=>exact absurd HA.out (by simp [aC.l1])
      | succ k2=>
       have H:=HA.out
       clear HA
       simp only [aC.l1] at H
       by_cases c34:0≤x14_1
       rotate_left
       ·
        rw [if_neg c34] at H
        exact absurd H (by simp)
       rw [if_pos c34] at H
       have c34b0:=decide_eq_true c34
       clear c34
       by_cases c35:x14_1<(t287.length:Int)
       rotate_left
       ·
        rw [if_neg c35] at H
        exact absurd H (by simp)
       rw [if_pos c35] at H
       have c35b0:=decide_eq_true c35
       clear c35
       by_cases c36:x15_2<((bE t287 x14_1).length:Int)
       ·
        rw [if_pos c36] at H
        have c36b0:=decide_eq_true c36
        clear c36
        by_cases c37:0≤x15_2
        rotate_left
        ·
         rw [if_neg c37] at H
         exact absurd H (by simp)
        rw [if_pos c37] at H
        have c37b0:=decide_eq_true c37
        clear c37
        by_cases c38:0≤(rd (bE t287 x14_1) x15_2)
        rotate_left
        ·
         rw [if_neg c38] at H
         exact absurd H (by simp)
        rw [if_pos c38] at H
        have c38b0:=decide_eq_true c38
        clear c38
        by_cases c39:(rd (bE t287 x14_1) x15_2)<(x11_2.length:Int)
        rotate_left
        ·
         rw [if_neg c39] at H
         exact absurd H (by simp)
        rw [if_pos c39] at H
        have c39b0:=decide_eq_true c39
        clear c39
        obtain ⟨y308,hy308⟩:∃ y_:List Int,y_=(x11_2.set ((rd (bE t287 x14_1) x15_2):Int).toNat x14_1):=⟨_,rfl⟩
        replace H:(aC.l1 k2 a0 t281 t287 y308 y293 y302 x14_1 (wrap64 (x15_2+1)))=some (r1,r2):=rH hy308 H
        have Ny308:=aA.mk hy308
        clear hy308
        have H':=aA.mk H
        clear H
        have p305:0≤(x14_1:Int):=dA
        have q305:x14_1<(t287.length:Int):=dA
        obtain ⟨ad305,A305_0,c305_0,e305,hx305_0,hl305_0,hi305_0⟩:=fp (Kd.S_reads' HO_10.out).2.2 x14_1 p305 q305
        cases e305
        obtain ⟨ce305,hce305,hMe305,hcc305⟩:=Kd.S_get HO_10.out [] x14_1 p305 (by first|exact q305|exact dA|(have e_:=(Kd.S_reads' HO_10.out).1;omega))
        obtain ⟨ve305_0,rfl,ge305_0⟩:=hMe305
        have hv305_0:=hcc305 0 _ rfl
        rw [Nat.add_zero,show ((Kd.slice 2 (Kd.int .i64))).sz=1 from rfl,Nat.mul_one] at hv305_0
        replace hv305_0:=Option.some.inj (hv305_0.symm.trans hx305_0)
        rw [hv305_0] at ge305_0
        have HL305_0:=aA.mk (show Kd.R (Kd.int .i64) 2 _ _ _ _ (bE t287 x14_1) from ge305_0)
        clear hv305_0 ge305_0
        have HX305_0:=aA.mk hx305_0
        clear hcc305 hce305
        have HR305_0:=aA.mk hi305_0
        have HC305_0:=aA.mk hl305_0
        clear hi305_0 hl305_0
        replace p305:=eq_true p305
        replace q305:=eq_true q305
        have p306:0≤(x14_1:Int):=dA
        have q306:x14_1<(t287.length:Int):=dA
        obtain ⟨ad306,A306_0,c306_0,e306,hx306_0,hl306_0,hi306_0⟩:=fp (Kd.S_reads' HO_10.out).2.2 x14_1 p306 q306
        obtain rfl:ad305=ad306:=(by injection e306)
        obtain ⟨ce306,hce306,hMe306,hcc306⟩:=Kd.S_get HO_10.out [] x14_1 p306 (by first|exact q306|exact dA|(have e_:=(Kd.S_reads' HO_10.out).1;omega))
        obtain ⟨ve306_0,rfl,ge306_0⟩:=hMe306
        have hv306_0:=hcc306 0 _ rfl
        rw [Nat.add_zero,show ((Kd.slice 2 (Kd.int .i64))).sz=1 from rfl,Nat.mul_one] at hv306_0
        replace hv306_0:=Option.some.inj (hv306_0.symm.trans hx306_0)
        rw [hv306_0] at ge306_0
        have HL306_0:=aA.mk (show Kd.R (Kd.int .i64) 2 _ _ _ _ (bE t287 x14_1) from ge306_0)
        clear hv306_0 ge306_0
        have HX306_0:=aA.mk hx306_0
        clear hcc306 hce306
        have HR306_0:=aA.mk hi306_0
        have HC306_0:=aA.mk hl306_0
        clear hi306_0 hl306_0
        replace p306:=eq_true p306
        replace q306:=eq_true q306
        have ea_:=Option.some.inj (hx305_0.symm.trans hx306_0)
        injection ea_ with ea_ en_ ec_
        subst ea_
        subst ec_
        clear en_
        have p307:0≤(x15_2:Int):=dA
        have q307:x15_2<((bE t287 x14_1).length:Int):=dA
        obtain ⟨ad307,e307,hx307_0⟩:=Kd.at_int (by repeat (first|(with_reducible exact HR306_0.out)|(with_reducible refine Kd.C_alloc ?_ _)|(with_reducible refine Kd.C_drewN ?_ _)|(with_reducible refine Kd.C_drew ?_)|exact HR306_0.out)) x15_2 p307 q307
        cases e307
        replace p307:=eq_true p307
        replace q307:=eq_true q307
        have p40:0≤((rd (bE t287 x14_1) x15_2):Int):=dA
        have q40:((rd (bE t287 x14_1) x15_2):Int)<((x11_2.length:Int):Int):=dA
        obtain ⟨go40,co40,eo40,gb40,gl40,cl40,HG40⟩:=Kd.R_form HO_11.out (by omega)
        (first|cases eo40|(injection eo40 with ea_ en_ ec_;(first|subst ea_|(injection ea_ with ea_;subst ea_));subst ec_;clear en_))
        have GB40:=aA.mk gb40
        have GG40:=aA.mk HG40
        clear gb40 gl40 HG40
        obtain ⟨hx40_0,hf40_0⟩:=Kd.R_celln 0 HO_11.out ((rd (bE t287 x14_1) x15_2):Int) p40 q40
        replace p40:=eq_true p40
        replace q40:=eq_true q40
        have HP41:=Kd.R_putg HO_11.out ((rd (bE t287 x14_1) x15_2):Int) x14_1
        go_wp2_with (first|((with_reducible refine dJ (t:=2) (p:=71) rfl ?_);refine cy (t:=2) (p:=71) (v:=?vo_w42) (w1:=(wr.setCell ⟨go40,((rd (bE t287 x14_1) x15_2):Int).toNat,none⟩ (.int .i64 x14_1))) ?hg ?ho ?hn ?hr ?_;(case ho=>rfl);(case hg=>rfl);(case hn=>rfl);(case hr=>first|(go_simp;done)|(go_simp;rfl));intro w42 hw;have hg:wr.grownBy w42 (some go40):=(by rw [hw];exact HP41.2);have hp_:Kd.R (Kd.int .i64) 2 w42 w.heap.size (fun _=>True) (.slice (some ⟨go40,0,none⟩) x11_2.length co40) y308:=(by rw [hw,Ny308.out];exact HP41.1);clear HP41;have n0_:=aA.mk (Kd.R_over' (v:=(.slice (some ⟨go40,0,none⟩) x11_2.length co40)) (rA HO_9) (Kd.R_typed HO_11.out) (by decide) hg);have n1_:=aA.mk (Kd.S_after (v:=(.slice (some ⟨go40,0,none⟩) x11_2.length co40)) (v1:=(.slice (some ⟨go40,0,none⟩) x11_2.length co40)) (ok:=(fun k_=>some k_≠(v294:Value).ownBlock)) (by (with_reducible repeat (first|apply Kd.S_alloc|apply Kd.S_drewN|apply Kd.S_drew));exact Kd.S_mono HO_10.out (fun _ hk=>⟨hk.2,hk.1⟩)) hg (.inl rfl));have n2_:=aA.mk (hp_);have n3_:=aA.mk (Kd.S_after (v:=(.slice (some ⟨go40,0,none⟩) x11_2.length co40)) (v1:=(.slice (some ⟨go40,0,none⟩) x11_2.length co40)) (ok:=(fun k_=>some k_≠(.slice (some ad305) t287.length co29:Value).ownBlock)) (by (with_reducible repeat (first|apply Kd.S_alloc|apply Kd.S_drewN|apply Kd.S_drew));exact HO_12.out) hg (.inl rfl));have n4_:=aA.mk (Kd.S_over' (v:=(.slice (some ⟨go40,0,none⟩) x11_2.length co40)) (by (with_reducible repeat (first|apply Kd.S_alloc|apply Kd.S_drewN|apply Kd.S_drew));exact HO_13.out) (Kd.R_typed HO_11.out) (by decide) hg);have n5_:=aA.mk (Kd.R_after (v:=(.slice (some ⟨go40,0,none⟩) x11_2.length co40)) (v1:=(.slice (some ⟨go40,0,none⟩) x11_2.length co40)) (ok:=(fun k_=>some k_≠(.slice (some ad305) t287.length co29:Value).ownBlock∧some k_≠(v294:Value).ownBlock)) (by (with_reducible repeat (first|apply Kd.R_alloc|apply Kd.R_drewN|apply Kd.R_drew));exact Kd.R_mono HL305_0.out (fun _ hk=>⟨⟨hk.2,hk.1.2⟩,hk.1.1⟩)) hg (.inl rfl));have n6_:=aA.mk (Kd.R_after (v:=(.slice (some ⟨go40,0,none⟩) x11_2.length co40)) (v1:=(.slice (some ⟨go40,0,none⟩) x11_2.length co40)) (ok:=(fun k_=>some k_≠(.slice (some ad305) t287.length co29:Value).ownBlock∧some k_≠(v294:Value).ownBlock)) (by (with_reducible repeat (first|apply Kd.R_alloc|apply Kd.R_drewN|apply Kd.R_drew));exact Kd.R_mono HL306_0.out (fun _ hk=>⟨⟨hk.2,hk.1.2⟩,hk.1.1⟩)) hg (.inl rfl));have n7_:=aA.mk ((by rw [hw];exact cK (HB.out) GB40.out:Below w.heap.size w w42));clear HO_9;clear HO_10;clear HO_11;clear HO_12;clear HO_13;clear HL305_0;clear HL306_0;clear HB;have HO_9:=n0_;have HO_10:=n1_;have HO_11:=n2_;have HO_12:=n3_;have HO_13:=n4_;have HL305_0:=n5_;have HL306_0:=n6_;have HB:=n7_;clear n0_ n1_ n2_ n3_ n4_ n5_ n6_ n7_;clear hg hw hp_))
        go_roundg k2
        case measure=>have:=HK1.out;have:=HK2.out;omega
        case rel=>exact ⟨(y308),(wrap64 (x15_2+1)),hB,H',⟨by have:=HK1.out;have:=HK2.out;omega⟩,⟨rA HO_9⟩,⟨by (with_reducible repeat (first|apply Kd.S_alloc|apply Kd.S_drewN|apply Kd.S_drew));exact Kd.S_mono HO_10.out (fun _ hk=>⟨hk.2,hk.1⟩)⟩,⟨rA HO_11⟩,⟨by (with_reducible repeat (first|apply Kd.S_alloc|apply Kd.S_drewN|apply Kd.S_drew));exact HO_12.out⟩,⟨by (with_reducible repeat (first|apply Kd.S_alloc|apply Kd.S_drewN|apply Kd.S_drew));exact HO_13.out⟩,⟨blA⟩⟩
       ·
        rw [if_neg c36] at H
        have c36b0:=decide_eq_false c36
        clear c36
        have H':=aA.mk H
        clear H
        have p305:0≤(x14_1:Int):=dA
        have q305:x14_1<(t287.length:Int):=dA
        obtain ⟨ad305,A305_0,c305_0,e305,hx305_0,hl305_0,hi305_0⟩:=fp (Kd.S_reads' HO_10.out).2.2 x14_1 p305 q305
        cases e305
        obtain ⟨ce305,hce305,hMe305,hcc305⟩:=Kd.S_get HO_10.out [] x14_1 p305 (by first|exact q305|exact dA|(have e_:=(Kd.S_reads' HO_10.out).1;omega))
        obtain ⟨ve305_0,rfl,ge305_0⟩:=hMe305
        have hv305_0:=hcc305 0 _ rfl
        rw [Nat.add_zero,show ((Kd.slice 2 (Kd.int .i64))).sz=1 from rfl,Nat.mul_one] at hv305_0
        replace hv305_0:=Option.some.inj (hv305_0.symm.trans hx305_0)
        rw [hv305_0] at ge305_0
        have HL305_0:=aA.mk (show Kd.R (Kd.int .i64) 2 _ _ _ _ (bE t287 x14_1) from ge305_0)
        clear hv305_0 ge305_0
        have HX305_0:=aA.mk hx305_0
        clear hcc305 hce305
        have HR305_0:=aA.mk hi305_0
        have HC305_0:=aA.mk hl305_0
        clear hi305_0 hl305_0
        replace p305:=eq_true p305
        replace q305:=eq_true q305
        go_wp2
        go_roundg k2
        case measure=>have:=HK1.out;have:=HK2.out;omega
        case rel=>exact ⟨(x11_2),(y302),(wrap64 (x14_1+1)),hB,H',⟨by have:=HK1.out;have:=HK2.out;omega⟩,⟨rA HO_9⟩,⟨by (with_reducible repeat (first|apply Kd.S_alloc|apply Kd.S_drewN|apply Kd.S_drew));exact HO_10.out⟩,⟨rA HO_11⟩,⟨by (with_reducible repeat (first|apply Kd.S_alloc|apply Kd.S_drewN|apply Kd.S_drew));exact HO_12.out⟩,⟨by (with_reducible repeat (first|apply Kd.S_alloc|apply Kd.S_drewN|apply Kd.S_drew));exact HO_13.out⟩,⟨blA⟩⟩
    ·
     rw [if_neg c25] at H
     have c25b0:=decide_eq_false c25
     clear c25
     have H':=aA.mk H
     clear H
     obtain ⟨Ao43,co43,eo43⟩:=Kd.S_slice HO_10.out
     subst eo43
     go_wp2
     go_loopg [16] k1 (fun kq v16 w'=>∃ (x13_2:List (List Bool)) (x16_2:Int),v16=.int .i64 x16_2∧aA (aC.l2 kq a0 t281 t287 x11_1 y293 x13_2 x16_2=some (r1,r2))∧aA (kq≤k1)∧aA (Kd.R k43 43 w' w.heap.size (fun _=>True) (.slice Ao13 t281.length co13) t281)∧aA (Kd.S (Kd.slice 2 (Kd.int .i64)) 50 w' w.heap.size (fun k_=>some k_≠(v291:Value).ownBlock∧some k_≠(v294:Value).ownBlock) (.slice Ao43 t287.length co43) t287)∧aA (Kd.R (Kd.int .i64) 2 w' w.heap.size (fun _=>True) v291 x11_1)∧aA (Kd.S (Kd.slice 2 (Kd.int .i64)) 50 w' w.heap.size (fun k_=>some k_≠((.slice Ao43 t287.length co43):Value).ownBlock∧some k_≠(v291:Value).ownBlock) v294 y293)∧aA (Kd.S (Kd.slice 4 Kd.bool) 49 w' w.heap.size (fun _=>True) u13 x13_2)∧aA (Below w.heap.size w w'))
     case atStart=>exact ⟨(x13_1),(0),hB,H',⟨Nat.le_refl _⟩,⟨rA HO_9⟩,⟨by (with_reducible repeat (first|apply Kd.S_alloc|apply Kd.S_drewN|apply Kd.S_drew));exact HO_10.out⟩,⟨rA HO_11⟩,⟨by (with_reducible repeat (first|apply Kd.S_alloc|apply Kd.S_drewN|apply Kd.S_drew));exact HO_12.out⟩,⟨by (with_reducible repeat (first|apply Kd.S_alloc|apply Kd.S_drewN|apply Kd.S_drew));exact HO_13.out⟩,⟨blA⟩⟩
     case round=>
      clear H'
      try clear c1
      try clear c25
      try clear c25b0
      try clear c26
      try clear c26b0
      try clear c26b1
      try clear c27
      try clear c27b0
      try clear c27b1
      try clear c28
      try clear c34
      try clear c34b0
      try clear c35
      try clear c35b0
      try clear c36
      try clear c36b0
      try clear c37
      try clear c37b0
      try clear c38
      try clear c38b0
      try clear c39
      try clear c39b0
      try clear p40
      try clear q40
      try clear hx305_0
      try clear hx306_0
      try clear hx307_0
      try clear hx40_0
      try clear p305
      try clear p306
      try clear p307
      try clear p40
      try clear q305
      try clear q306
      try clear q307
      try clear q40
      obtain ⟨x13_2,x16_2,rfl,HA,HK2,HO_9,HO_10,HO_11,HO_12,HO_13,HB⟩:=hrel
      cases gk with
      | zero=>exact absurd HA.out (by simp [aC.l2])
      | succ k2=>
       have H:=HA.out
       clear HA
       simp only [aC.l2] at H
       by_cases c44:x16_2<(t281.length:Int)
       ·
        rw [if_pos c44] at H
        have c44b0:=decide_eq_true c44
        clear c44
        have H':=aA.mk H
        clear H
        go_wp2
        go_loopg [17] k2 (fun kq v17 w'=>∃ (x13_3:List (List Bool)) (x17_3:Int),v17=.int .i64 x17_3∧aA (aC.l3 kq a0 t281 t287 x11_1 y293 x13_3 x16_2 x17_3=some (r1,r2))∧aA (kq≤k2)∧aA (Kd.R k43 43 w' w.heap.size (fun _=>True) (.slice Ao13 t281.length co13) t281)∧aA (Kd.S (Kd.slice 2 (Kd.int .i64)) 50 w' w.heap.size (fun k_=>some k_≠(v291:Value).ownBlock∧some k_≠(v294:Value).ownBlock) (.slice Ao43 t287.length co43) t287)∧aA (Kd.R (Kd.int .i64) 2 w' w.heap.size (fun _=>True) v291 x11_1)∧aA (Kd.S (Kd.slice 2 (Kd.int .i64)) 50 w' w.heap.size (fun k_=>some k_≠((.slice Ao43 t287.length co43):Value).ownBlock∧some k_≠(v291:Value).ownBlock) v294 y293)∧aA (Kd.S (Kd.slice 4 Kd.bool) 49 w' w.heap.size (fun _=>True) u13 x13_3)∧aA (Below w.heap.size w w'))
        case atStart=>exact ⟨(x13_2),(0),hB,H',⟨Nat.le_refl _⟩,⟨rA HO_9⟩,⟨by (with_reducible repeat (first|apply Kd.S_alloc|apply Kd.S_drewN|apply Kd.S_drew));exact HO_10.out⟩,⟨rA HO_11⟩,⟨by (with_reducible repeat (first|apply Kd.S_alloc|apply Kd.S_drewN|apply Kd.S_drew));exact HO_12.out⟩,⟨by (with_reducible repeat (first|apply Kd.S_alloc|apply Kd.S_drewN|apply Kd.S_drew));exact HO_13.out⟩,⟨blA⟩⟩
        case round=>
         clear H'
         try clear c1
         try clear c25
         try clear c25b0
         try clear c26
         try clear c26b0
         try clear c26b1
         try clear c27
         try clear c27b0
         try clear c27b1
         try clear c28
         try clear c34
         try clear c34b0
         try clear c35
         try clear c35b0
         try clear c36
         try clear c36b0
         try clear c37
         try clear c37b0
         try clear c38
         try clear c38b0
         try clear c39
         try clear c39b0
         try clear p40
         try clear q40
         try clear c44
         try clear c44b0
         try clear hx305_0
         try clear hx306_0
         try clear hx307_0
         try clear hx40_0
         try clear p305
         try clear p306
         try clear p307
         try clear p40
         try clear q305
         try clear q306
         try clear q307
         try clear q40
         obtain ⟨x13_3,x17_3,rfl,HA,HK3,HO_9,HO_10,HO_11,HO_12,HO_13,HB⟩:=hrel
         cases gk with
         | zero=>exact absurd HA.out (by simp [aC.l3])
         | succ k3=>
          have H:=HA.out
          clear HA
          simp only [aC.l3] at H
          by_cases c45:x17_3<x16_2
          ·
           rw [if_pos c45] at H
           have c45b0:=decide_eq_true c45
           clear c45
           by_cases c46:0≤x16_2
           rotate_left
           ·
            rw [if_neg c46] at H
            exact absurd H (by simp)
           rw [if_pos c46] at H
           have c46b0:=decide_eq_true c46
           clear c46
           by_cases c47:x16_2<(t281.length:Int)
           rotate_left
           ·
            rw [if_neg c47] at H
            exact absurd H (by simp)
           rw [if_pos c47] at H
           have c47b0:=decide_eq_true c47
           clear c47
           by_cases c48:0≤x17_3
           rotate_left
           ·
            rw [if_neg c48] at H
            exact absurd H (by simp)
           rw [if_pos c48] at H
           have c48b0:=decide_eq_true c48
           clear c48
           by_cases c49:x17_3<(t281.length:Int)
           rotate_left
           ·
            rw [if_neg c49] at H
            exact absurd H (by simp)
           rw [if_pos c49] at H
           have c49b0:=decide_eq_true c49
           clear c49
           replace H:=bS H
           obtain ⟨t311,A50,H⟩:=H
           try dsimp only at H
           by_cases c51:t311=1
           focus
            rw [if_pos c51] at H
            have c51b0:(t311 == 1)=true:=beq_iff_eq.mpr c51
            have c51b1:(t311 != 1)=false:=bne_eq_false_iff_eq.mpr c51
            clear c51
            by_cases c52:x16_2<(x11_1.length:Int)
            rotate_left
            ·
             rw [if_neg c52] at H
             exact absurd H (by simp)
            rw [if_pos c52] at H
            have c52b0:=decide_eq_true c52
            clear c52
            by_cases c53:x17_3<(x11_1.length:Int)
            rotate_left
            ·
             rw [if_neg c53] at H
             exact absurd H (by simp)
            rw [if_pos c53] at H
            have c53b0:=decide_eq_true c53
            clear c53
            obtain ⟨ji54,hji54⟩:∃ j_:Int,(mn (rd x11_1 x16_2) (rd x11_1 x17_3))=j_:=⟨_,rfl⟩
            replace H:(if 0≤(ji54) then (if (ji54)<(x13_3.length:Int) then (if 0≤(mx (rd x11_1 x16_2) (rd x11_1 x17_3)) then (if (mx (rd x11_1 x16_2) (rd x11_1 x17_3))<((cX x13_3 (ji54)).length:Int) then (aC.l3 k3 a0 t281 t287 x11_1 y293 (x13_3.set ((ji54):Int).toNat ((cX x13_3 (ji54)).set ((mx (rd x11_1 x16_2) (rd x11_1 x17_3)):Int).toNat true)) x16_2 (wrap64 (x17_3+1))) else (none)) else (none)) else (none)) else (none))=some (r1,r2):=by first|(rw [hji54] at H;exact H)|(simp only [hji54] at H ⊢;exact H)
            (try rw [hji54] at A50)
            have hji54_:(if (rd x11_1 x17_3)<(rd x11_1 x16_2) then (rd x11_1 x17_3) else (rd x11_1 x16_2))=ji54:=hji54
            by_cases c55:0≤(ji54)
            rotate_left
            ·
             rw [if_neg c55] at H
             exact absurd H (by simp)
            rw [if_pos c55] at H
            have c55b0:=decide_eq_true c55
            clear c55
            by_cases c56:(ji54)<(x13_3.length:Int)
            rotate_left
            ·
             rw [if_neg c56] at H
             exact absurd H (by simp)
            rw [if_pos c56] at H
            have c56b0:=decide_eq_true c56
            clear c56
            obtain ⟨ji57,hji57⟩:∃ j_:Int,(mx (rd x11_1 x16_2) (rd x11_1 x17_3))=j_:=⟨_,rfl⟩
            replace H:(if 0≤(ji57) then (if (ji57)<((cX x13_3 (ji54)).length:Int) then (aC.l3 k3 a0 t281 t287 x11_1 y293 (x13_3.set ((ji54):Int).toNat ((cX x13_3 (ji54)).set ((ji57):Int).toNat true)) x16_2 (wrap64 (x17_3+1))) else (none)) else (none))=some (r1,r2):=by first|(rw [hji57] at H;exact H)|(simp only [hji57] at H ⊢;exact H)
            (try rw [hji57] at A50)
            have hji57_:(if (rd x11_1 x16_2)<(rd x11_1 x17_3) then (rd x11_1 x17_3) else (rd x11_1 x16_2))=ji57:=hji57
            by_cases c58:0≤(ji57)
            rotate_left
            ·
             rw [if_neg c58] at H
             exact absurd H (by simp)
            rw [if_pos c58] at H
            have c58b0:=decide_eq_true c58
            clear c58
            by_cases c59:(ji57)<((cX x13_3 (ji54)).length:Int)
            rotate_left
            ·
             rw [if_neg c59] at H
             exact absurd H (by simp)
            rw [if_pos c59] at H
            have c59b0:=decide_eq_true c59
            clear c59
            obtain ⟨y318,hy318⟩:∃ y_:List Bool,y_=((cX x13_3 (ji54)).set ((ji57):Int).toNat true):=⟨_,rfl⟩
            replace H:(aC.l3 k3 a0 t281 t287 x11_1 y293 (x13_3.set ((ji54):Int).toNat y318) x16_2 (wrap64 (x17_3+1)))=some (r1,r2):=rH hy318 H
            have Ny318:=aA.mk hy318
            clear hy318
            obtain ⟨y320,hy320⟩:∃ y_:List (List Bool),y_=(x13_3.set ((ji54):Int).toNat y318):=⟨_,rfl⟩
            replace H:(aC.l3 k3 a0 t281 t287 x11_1 y293 y320 x16_2 (wrap64 (x17_3+1)))=some (r1,r2):=rH hy320 H
            have Ny320:=aA.mk hy320
            clear hy320
            have H':=aA.mk H
            clear H
           rotate_left
           focus
            rw [if_neg c51] at H
            have c51b0:(t311 == 1)=false:=beq_eq_false_iff_ne.mpr c51
            have c51b1:(t311 != 1)=true:=bne_iff_ne.mpr c51
            have H':=aA.mk H
            clear H
           rotate_left
           all_goals
            try go_wp2
            have n0_:=aA.mk (Kd.R_drew HO_9.out)
            have n1_:=aA.mk (Kd.S_drew HO_10.out)
            have n2_:=aA.mk (Kd.R_drew HO_11.out)
            have n3_:=aA.mk (Kd.S_drew HO_12.out)
            have n4_:=aA.mk (Kd.S_drew HO_13.out)
            have n5_:=aA.mk (al HB.out)
            clear HO_9
            clear HO_10
            clear HO_11
            clear HO_12
            clear HO_13
            clear HB
            have HO_9:=n0_
            have HO_10:=n1_
            have HO_11:=n2_
            have HO_12:=n3_
            have HO_13:=n4_
            have HB:=n5_
            clear n0_ n1_ n2_ n3_ n4_ n5_
            have p309:0≤(x16_2:Int):=dA
            have q309:x16_2<(t281.length:Int):=dA
            obtain ⟨ad309,e309,hx309_0,hx309_1,hx309_2⟩:=cu (Kd.R_reads' HO_9.out).2.2 x16_2 p309 q309
            cases e309
            replace p309:=eq_true p309
            replace q309:=eq_true q309
            have p310:0≤(x17_3:Int):=dA
            have q310:x17_3<(t281.length:Int):=dA
            obtain ⟨ad310,e310,hx310_0,hx310_1,hx310_2⟩:=cu (Kd.R_reads' HO_9.out).2.2 x17_3 p310 q310
            obtain rfl:ad309=ad310:=(by injection e310)
            replace p310:=eq_true p310
            replace q310:=eq_true q310
            refine b7 (n:=11) (S:=fun w'=>w'.cell? (ad309.add ((x16_2).toNat*3))=some (.int .i64 ((aD t281 x16_2).f0))∧w'.cell? ⟨(ad309.add ((x16_2).toNat*3)).block,(ad309.add ((x16_2).toNat*3)).off+1,none⟩=some (.int .i64 ((aD t281 x16_2).f1))∧w'.cell? ⟨(ad309.add ((x16_2).toNat*3)).block,(ad309.add ((x16_2).toNat*3)).off+2,none⟩=some (.int .i64 ((aD t281 x16_2).f2))∧w'.cell? (ad309.add ((x17_3).toNat*3))=some (.int .i64 ((aD t281 x17_3).f0))∧w'.cell? ⟨(ad309.add ((x17_3).toNat*3)).block,(ad309.add ((x17_3).toNat*3)).off+1,none⟩=some (.int .i64 ((aD t281 x17_3).f1))∧w'.cell? ⟨(ad309.add ((x17_3).toNat*3)).block,(ad309.add ((x17_3).toNat*3)).off+2,none⟩=some (.int .i64 ((aD t281 x17_3).f2))) (ds:=[]) #[Z,Z,Z,Z,Z,Z,Z,Z,Z,Z,Z] (by kernel_rfl) rfl rfl ⟨hx309_0,hx309_1,hx309_2,hx310_0,hx310_1,hx310_2⟩ (fun hHeld=>?_);refine bT aC.tab21 aC.bits21 (fun HT_ HW_=>?_)
            generalize wr.drew=w61 at HO_9 HO_10 HO_11 HO_12 HO_13 HB hx309_0 hx309_1 hx309_2 hx310_0 hx310_1 hx310_2 hHeld ⊢
            refine puA (i:=0) (N:=some 83) #[Y,Z,Z,Z,Z,Z,Z,Z,Z,Z,Z] rfl rfl HT_ ?_
            refine puA (i:=1) (N:=some 84) #[Y,Y,Z,Z,Z,Z,Z,Z,Z,Z,Z] rfl rfl HT_ ?_
            refine puA (i:=2) (N:=some 85) #[Y,Y,Y,Z,Z,Z,Z,Z,Z,Z,Z] rfl rfl HT_ ?_
            refine puA (i:=3) (N:=some 86) #[Y,Y,Y,Y,Z,Z,Z,Z,Z,Z,Z] rfl rfl HT_ ?_
            refine puA (i:=5) (N:=some 88) #[Y,Y,Y,Y,Z,Y,Z,Z,Z,Z,Z] rfl rfl HT_ ?_
            refine puA (i:=6) (N:=some 89) #[Y,Y,Y,Y,Z,Y,Y,Z,Z,Z,Z] rfl rfl HT_ ?_
            refine puA (i:=7) (N:=some 90) #[Y,Y,Y,Y,Z,Y,Y,Y,Z,Z,Z] rfl rfl HT_ ?_
            refine taA (i:=4) (N:=some 87) #[Y,Y,Y,Y,Y,Y,Y,Y,Z,Z,Z] rfl rfl HT_ HW_ hHeld ?_
            refine taA (i:=8) (N:=some 91) #[Y,Y,Y,Y,Y,Y,Y,Y,Y,Z,Z] rfl rfl HT_ HW_ hHeld ?_
            refine cV (i:=9) (N:=some 92) #[Y,Y,Y,Y,Y,Y,Y,Y,Y,Y,Z] rfl rfl (bX HT_.out (by kernel_rfl)) (by decide) (fun K hK=>?_)
            refine d9 Tryz.func30 (by kernel_rfl) rfl #[.int .i64 a0,.agg #[.int .i64 ((aD t281 x16_2).f0),.int .i64 ((aD t281 x16_2).f1),.int .i64 ((aD t281 x16_2).f2)],.agg #[.int .i64 ((aD t281 x17_3).f0),.int .i64 ((aD t281 x17_3).f1),.int .i64 ((aD t281 x17_3).f2)]] (by rfl) rfl rfl hA ?_
            with_reducible refine (an.calls k3 a0 ((aD t281 x16_2).f0) ((aD t281 x16_2).f1) ((aD t281 x16_2).f2) ((aD t281 x17_3).f0) ((aD t281 x17_3).f1) ((aD t281 x17_3).f2) t311 _ A50.out).mono ?_
            rintro e w62 ⟨rfl,hb⟩
            have HS0_:=(hb.cell (World.block_lt_of_cell? _ _ (hHeld.1))).trans (hHeld.1)
            have HS1_:=(hb.cell (World.block_lt_of_cell? _ _ (hHeld.2.1))).trans (hHeld.2.1)
            have HS2_:=(hb.cell (World.block_lt_of_cell? _ _ (hHeld.2.2.1))).trans (hHeld.2.2.1)
            have HS3_:=(hb.cell (World.block_lt_of_cell? _ _ (hHeld.2.2.2.1))).trans (hHeld.2.2.2.1)
            have HS4_:=(hb.cell (World.block_lt_of_cell? _ _ (hHeld.2.2.2.2.1))).trans (hHeld.2.2.2.2.1)
            have HS5_:=(hb.cell (World.block_lt_of_cell? _ _ (hHeld.2.2.2.2.2))).trans (hHeld.2.2.2.2.2)
            refine ⟨_,rfl,?_⟩
            replace HO_9:=aA.mk (Kd.R_below (rA HO_9) hb)
            replace HO_10:=aA.mk (Kd.S_below (by (with_reducible repeat (first|apply Kd.S_alloc|apply Kd.S_drewN|apply Kd.S_drew));exact HO_10.out) hb)
            replace HO_11:=aA.mk (Kd.R_below (rA HO_11) hb)
            replace HO_12:=aA.mk (Kd.S_below (by (with_reducible repeat (first|apply Kd.S_alloc|apply Kd.S_drewN|apply Kd.S_drew));exact HO_12.out) hb)
            replace HO_13:=aA.mk (Kd.S_below (by (with_reducible repeat (first|apply Kd.S_alloc|apply Kd.S_drewN|apply Kd.S_drew));exact HO_13.out) hb)
            replace HB:=lB hb
            (try clear hb)
            (try clear hb2)
            (try clear hk)
            (try clear hi)
            refine hK.out _ _ ⟨HS0_,HS1_,HS2_,HS3_,HS4_,HS5_⟩ (fun hHeld=>?_)
            clear hK K
            refine nmA ?_
            refine puA (i:=10) (N:=some 93) #[Y,Y,Y,Y,Y,Y,Y,Y,Y,Y,Y] rfl rfl HT_ ?_
            refine cg (br HT_.out (by kernel_rfl)) ?_
           ·
            try go_wp2
            have n0_:=aA.mk (Kd.R_drew HO_9.out)
            have n1_:=aA.mk (Kd.S_drew HO_10.out)
            have n2_:=aA.mk (Kd.R_drew HO_11.out)
            have n3_:=aA.mk (Kd.S_drew HO_12.out)
            have n4_:=aA.mk (Kd.S_drew HO_13.out)
            have n5_:=aA.mk (al HB.out)
            clear HO_9
            clear HO_10
            clear HO_11
            clear HO_12
            clear HO_13
            clear HB
            have HO_9:=n0_
            have HO_10:=n1_
            have HO_11:=n2_
            have HO_12:=n3_
            have HO_13:=n4_
            have HB:=n5_
            clear n0_ n1_ n2_ n3_ n4_ n5_
            obtain ⟨Ao64,co64,eo64⟩:=Kd.R_slice HO_11.out
            (first|subst eo64|(injection eo64 with f1_ f2_ f3_;have f4_:=f1_.symm;have f5_:=f3_.symm;clear f1_ f2_ f3_;subst f4_;subst f5_))
            have p312:0≤(x16_2:Int):=dA
            have q312:x16_2<(x11_1.length:Int):=dA
            obtain ⟨ad312,e312,hx312_0⟩:=Kd.at_int (Kd.R_reads' HO_11.out).2.2 x16_2 p312 q312
            cases e312
            replace p312:=eq_true p312
            replace q312:=eq_true q312
            have p313:0≤(x17_3:Int):=dA
            have q313:x17_3<(x11_1.length:Int):=dA
            obtain ⟨ad313,e313,hx313_0⟩:=Kd.at_int (Kd.R_reads' HO_11.out).2.2 x17_3 p313 q313
            obtain rfl:ad312=ad313:=(by injection e313)
            replace p313:=eq_true p313
            replace q313:=eq_true q313
            obtain ⟨Ao65,co65,eo65⟩:=Kd.S_slice HO_13.out
            (first|subst eo65|(injection eo65 with f1_ f2_ f3_;have f4_:=f1_.symm;have f5_:=f3_.symm;clear f1_ f2_ f3_;subst f4_;subst f5_))
            have p314:0≤((ji54):Int):=dA
            have q314:(ji54)<(x13_3.length:Int):=dA
            obtain ⟨ad314,A314_0,c314_0,e314,hx314_0,hl314_0,hi314_0⟩:=at_L7 (Kd.S_reads' HO_13.out).2.2 (ji54) p314 q314
            cases e314
            obtain ⟨ce314,hce314,hMe314,hcc314⟩:=Kd.S_get HO_13.out [] (ji54) p314 (by first|exact q314|exact dA|(have e_:=(Kd.S_reads' HO_13.out).1;omega))
            obtain ⟨ve314_0,rfl,ge314_0⟩:=hMe314
            have hv314_0:=hcc314 0 _ rfl
            rw [Nat.add_zero,show ((Kd.slice 4 Kd.bool)).sz=1 from rfl,Nat.mul_one] at hv314_0
            replace hv314_0:=Option.some.inj (hv314_0.symm.trans hx314_0)
            rw [hv314_0] at ge314_0
            have HL314_0:=aA.mk (show Kd.R Kd.bool 4 _ _ _ _ (cX x13_3 (ji54)) from ge314_0)
            clear hv314_0 ge314_0
            have HX314_0:=aA.mk hx314_0
            clear hcc314 hce314
            have HR314_0:=aA.mk hi314_0
            have HC314_0:=aA.mk hl314_0
            clear hi314_0 hl314_0
            replace p314:=eq_true p314
            replace q314:=eq_true q314
            refine b7 (n:=13) (S:=fun w'=>w'.cell? (ad312.add (x16_2).toNat)=some (.int .i64 (rd x11_1 x16_2))∧w'.cell? (ad312.add (x17_3).toNat)=some (.int .i64 (rd x11_1 x17_3))∧w'.cell? (ad314.add ((ji54)).toNat)=some (.slice A314_0 (cX x13_3 (ji54)).length c314_0)) (ds:=[]) #[Z,Z,Z,Z,Z,Z,Z,Z,Z,Z,Z,Z,Z] (by kernel_rfl) rfl rfl ⟨hx312_0,hx313_0,hx314_0⟩ (fun hHeld=>?_);refine bT aC.tab22 aC.bits22 (fun HT_ HW_=>?_)
            generalize w62.drew=w63 at HO_9 HO_10 HO_11 HO_12 HO_13 HB HL314_0 HR314_0 HX314_0 hx312_0 hx313_0 hx314_0 hHeld ⊢
            refine puA (i:=0) (N:=some 94) #[Y,Z,Z,Z,Z,Z,Z,Z,Z,Z,Z,Z,Z] rfl rfl HT_ ?_
            refine puA (i:=1) (N:=some 95) #[Y,Y,Z,Z,Z,Z,Z,Z,Z,Z,Z,Z,Z] rfl rfl HT_ ?_
            refine puA (i:=2) (N:=some 96) #[Y,Y,Y,Z,Z,Z,Z,Z,Z,Z,Z,Z,Z] rfl rfl HT_ ?_
            refine puA (i:=3) (N:=some 97) #[Y,Y,Y,Y,Z,Z,Z,Z,Z,Z,Z,Z,Z] rfl rfl HT_ ?_
            refine puA (i:=5) (N:=some 99) #[Y,Y,Y,Y,Z,Y,Z,Z,Z,Z,Z,Z,Z] rfl rfl HT_ ?_
            refine puA (i:=6) (N:=some 100) #[Y,Y,Y,Y,Z,Y,Y,Z,Z,Z,Z,Z,Z] rfl rfl HT_ ?_
            refine puA (i:=7) (N:=some 101) #[Y,Y,Y,Y,Z,Y,Y,Y,Z,Z,Z,Z,Z] rfl rfl HT_ ?_
            refine taA (i:=4) (N:=some 98) #[Y,Y,Y,Y,Y,Y,Y,Y,Z,Z,Z,Z,Z] rfl rfl HT_ HW_ hHeld ?_
            refine taA (i:=8) (N:=some 102) #[Y,Y,Y,Y,Y,Y,Y,Y,Y,Z,Z,Z,Z] rfl rfl HT_ HW_ hHeld ?_
            refine puA (i:=9) (N:=some 103) #[Y,Y,Y,Y,Y,Y,Y,Y,Y,Y,Z,Z,Z] rfl rfl HT_ ?_
            refine puA (i:=10) (N:=some 104) #[Y,Y,Y,Y,Y,Y,Y,Y,Y,Y,Y,Z,Z] rfl rfl HT_ ?_
            refine taA (i:=11) (N:=some 105) #[Y,Y,Y,Y,Y,Y,Y,Y,Y,Y,Y,Y,Z] rfl rfl HT_ HW_ hHeld ?_
            refine puA (i:=12) (N:=some 18) #[Y,Y,Y,Y,Y,Y,Y,Y,Y,Y,Y,Y,Y] rfl rfl HT_ ?_
            refine cg (br HT_.out (by kernel_rfl)) ?_
            have p315:0≤((ji54):Int):=dA
            have q315:(ji54)<(x13_3.length:Int):=dA
            obtain ⟨ad315,A315_0,c315_0,e315,hx315_0,hl315_0,hi315_0⟩:=at_L7 (Kd.S_reads' HO_13.out).2.2 (ji54) p315 q315
            obtain rfl:ad314=ad315:=(by injection e315)
            obtain ⟨ce315,hce315,hMe315,hcc315⟩:=Kd.S_get HO_13.out [] (ji54) p315 (by first|exact q315|exact dA|(have e_:=(Kd.S_reads' HO_13.out).1;omega))
            obtain ⟨ve315_0,rfl,ge315_0⟩:=hMe315
            have hv315_0:=hcc315 0 _ rfl
            rw [Nat.add_zero,show ((Kd.slice 4 Kd.bool)).sz=1 from rfl,Nat.mul_one] at hv315_0
            replace hv315_0:=Option.some.inj (hv315_0.symm.trans hx315_0)
            rw [hv315_0] at ge315_0
            have HL315_0:=aA.mk (show Kd.R Kd.bool 4 _ _ _ _ (cX x13_3 (ji54)) from ge315_0)
            clear hv315_0 ge315_0
            have HX315_0:=aA.mk hx315_0
            clear hcc315 hce315
            have HR315_0:=aA.mk hi315_0
            have HC315_0:=aA.mk hl315_0
            clear hi315_0 hl315_0
            replace p315:=eq_true p315
            replace q315:=eq_true q315
            have ea_:=Option.some.inj (hx314_0.symm.trans hx315_0)
            injection ea_ with ea_ en_ ec_
            subst ea_
            subst ec_
            clear en_
            have p316:0≤(x16_2:Int):=dA
            have q316:x16_2<(x11_1.length:Int):=dA
            obtain ⟨ad316,e316,hx316_0⟩:=Kd.at_int (Kd.R_reads' HO_11.out).2.2 x16_2 p316 q316
            obtain rfl:ad312=ad316:=(by injection e316)
            replace p316:=eq_true p316
            replace q316:=eq_true q316
            have p317:0≤(x17_3:Int):=dA
            have q317:x17_3<(x11_1.length:Int):=dA
            obtain ⟨ad317,e317,hx317_0⟩:=Kd.at_int (Kd.R_reads' HO_11.out).2.2 x17_3 p317 q317
            obtain rfl:ad312=ad317:=(by injection e317)
            replace p317:=eq_true p317
            replace q317:=eq_true q317
            have p60:0≤((ji57):Int):=dA
            have q60:((ji57):Int)<(((cX x13_3 (ji54)).length:Int):Int):=dA
            obtain ⟨go60,co60,eo60,gb60,gl60,cl60,HG60⟩:=Kd.R_form HL315_0.out (by omega)
            (first|cases eo60|(injection eo60 with ea_ en_ ec_;(first|subst ea_|(injection ea_ with ea_;subst ea_));subst ec_;clear en_))
            have GB60:=aA.mk gb60
            have GG60:=aA.mk HG60
            clear gb60 gl60 HG60
            obtain ⟨hx60_0,hf60_0⟩:=Kd.R_celln false HL315_0.out ((ji57):Int) p60 q60
            replace p60:=eq_true p60
            replace q60:=eq_true q60
            have hq66:((ji54):Int)<(x13_3.length:Int):=(by have h_:((ji54):Int)<((x13_3.length:Int):Int):=dA;first|exact h_|(have e_:=(Kd.S_reads' HO_13.out).1;omega)|simpa only [List.length_set,List.length_set] using h_)
            obtain ⟨oki66,ce66,hcl66,hM66,hcc66,hok66,hbk66⟩:=Kd.S_borrow HO_13.out [] ((ji54):Int) (dA) hq66
            obtain ⟨ve66_0,rfl,ge66_0⟩:=hM66
            have hv66:=hcc66 0 _ rfl
            rw [Nat.add_zero,show ((Kd.slice 4 Kd.bool)).sz=1 from rfl,Nat.mul_one] at hv66
            replace hv66:=Option.some.inj (hv66.symm.trans HX315_0.out)
            subst hv66
            clear hcc66 hcl66
            replace ge66_0:=(show Kd.R Kd.bool 4 _ _ _ _ (cX x13_3 (ji54)) from ge66_0)
            have HP66:=Kd.R_putg (Kd.R_drew ge66_0) ((ji57):Int) true
            try go_wp2
            refine b7 (n:=12) (S:=fun w'=>w'.cell? (ad312.add (x16_2).toNat)=some (.int .i64 (rd x11_1 x16_2))∧w'.cell? (ad312.add (x17_3).toNat)=some (.int .i64 (rd x11_1 x17_3))) (ds:=[11]) #[Z,Z,Z,Z,Z,Z,Z,Z,Z,Z,Z,Z] (by kernel_rfl) rfl rfl ⟨hx316_0,hx317_0⟩ (fun hHeld=>?_)
            refine cH (i:=0) (N:=some 106) (v:=?_) (a':=?_) #[Y,Z,Z,Z,Z,Z,Z,Z,Z,Z,Z,Z] rfl rfl (by kernel_rfl) (fun _ _ _ h=>h) (Or.inl ⟨by rfl,?_⟩) ?_ ?_
            rotate_left
            ·
             intro w'
             go_simp
             with_reducible rfl
            rotate_left
            ·
             simp only [pA]
             rfl
            refine cH (i:=1) (N:=some 107) (v:=?_) (a':=?_) #[Y,Y,Z,Z,Z,Z,Z,Z,Z,Z,Z,Z] rfl rfl (by kernel_rfl) (fun _ _ _ h=>h) (Or.inl ⟨by rfl,?_⟩) ?_ ?_
            rotate_left
            ·
             intro w'
             go_simp
             with_reducible rfl
            rotate_left
            ·
             simp only [pA]
             rfl
            refine cH (i:=2) (N:=some 108) (v:=?_) (a':=?_) #[Y,Y,Y,Z,Z,Z,Z,Z,Z,Z,Z,Z] rfl rfl (by kernel_rfl) (fun _ _ _ h=>h) (Or.inl ⟨by rfl,?_⟩) ?_ ?_
            rotate_left
            ·
             intro w'
             go_simp
             with_reducible rfl
            rotate_left
            ·
             simp only [pA]
             rfl
            refine cH (i:=3) (N:=some 109) (v:=?_) (a':=?_) #[Y,Y,Y,Y,Z,Z,Z,Z,Z,Z,Z,Z] rfl rfl (by kernel_rfl) (fun _ _ _ h=>h) (Or.inl ⟨by rfl,?_⟩) ?_ ?_
            rotate_left
            ·
             intro w'
             go_simp
             with_reducible rfl
            rotate_left
            ·
             simp only [pA]
             rfl
            refine cH (i:=5) (N:=some 111) (v:=?_) (a':=?_) #[Y,Y,Y,Y,Z,Y,Z,Z,Z,Z,Z,Z] rfl rfl (by kernel_rfl) (fun _ _ _ h=>h) (Or.inl ⟨by rfl,?_⟩) ?_ ?_
            rotate_left
            ·
             intro w'
             go_simp
             with_reducible rfl
            rotate_left
            ·
             simp only [pA]
             rfl
            refine cH (i:=6) (N:=some 112) (v:=?_) (a':=?_) #[Y,Y,Y,Y,Z,Y,Y,Z,Z,Z,Z,Z] rfl rfl (by kernel_rfl) (fun _ _ _ h=>h) (Or.inl ⟨by rfl,?_⟩) ?_ ?_
            rotate_left
            ·
             intro w'
             go_simp
             with_reducible rfl
            rotate_left
            ·
             simp only [pA]
             rfl
            refine cH (i:=7) (N:=some 113) (v:=?_) (a':=?_) #[Y,Y,Y,Y,Z,Y,Y,Y,Z,Z,Z,Z] rfl rfl (by kernel_rfl) (fun _ _ _ h=>h) (Or.inl ⟨by rfl,?_⟩) ?_ ?_
            rotate_left
            ·
             intro w'
             go_simp
             with_reducible rfl
            rotate_left
            ·
             simp only [pA]
             rfl
            refine take_ (i:=4) (N:=some 110) (v:=?_) (a':=?_) #[Y,Y,Y,Y,Y,Y,Y,Y,Z,Z,Z,Z] rfl rfl (by kernel_rfl) (fun _ _ _ h=>h) (Or.inl ⟨by rfl,?_⟩) hHeld ?_ ?_
            rotate_left
            ·
             rintro w' ⟨s0,s1⟩
             go_simp
             with_reducible rfl
            rotate_left
            ·
             simp only [pA]
             rfl
            refine take_ (i:=8) (N:=some 114) (v:=?_) (a':=?_) #[Y,Y,Y,Y,Y,Y,Y,Y,Y,Z,Z,Z] rfl rfl (by kernel_rfl) (fun _ _ _ h=>h) (Or.inl ⟨by rfl,?_⟩) hHeld ?_ ?_
            rotate_left
            ·
             rintro w' ⟨s0,s1⟩
             go_simp
             with_reducible rfl
            rotate_left
            ·
             simp only [pA]
             rfl
            refine cH (i:=9) (N:=some 115) (v:=?_) (a':=?_) #[Y,Y,Y,Y,Y,Y,Y,Y,Y,Y,Z,Z] rfl rfl (by kernel_rfl) (fun _ _ _ h=>h) (Or.inl ⟨by rfl,?_⟩) ?_ ?_
            rotate_left
            ·
             intro w'
             go_simp
             with_reducible rfl
            rotate_left
            ·
             simp only [pA]
             rfl
            refine cH (i:=10) (N:=some 116) (v:=?_) (a':=?_) #[Y,Y,Y,Y,Y,Y,Y,Y,Y,Y,Y,Z] rfl rfl (by kernel_rfl) (fun _ _ _ h=>h) (Or.inl ⟨by rfl,?_⟩) ?_ ?_
            rotate_left
            ·
             intro w'
             go_simp
             with_reducible rfl
            rotate_left
            ·
             simp only [pA]
             rfl
            refine last_ (i:=11) (N:=none) #[Y,Y,Y,Y,Y,Y,Y,Y,Y,Y,Y,Y] rfl rfl (by kernel_rfl) (by decide) (fun K hK=>?_)
            refine skip_ (w1:=(w63.drew.setCell ⟨go60,(ji57:Int).toNat,none⟩ (.bool true))) rfl rfl (by first|(go_simp;done)|(go_simp;rfl)) ?_
            refine at_world (M:=fun w_=>K _ w_) ?_
            intro w67 hw
            replace HL315_0:=aA.mk (Kd.R_drew HL315_0.out)
            have hg:w63.drew.grownBy w67 (some go60):=(by rw [hw];exact HP66.2)
            have hz_:Kd.R Kd.bool 4 w67 w.heap.size oki66 (.slice (some ⟨go60,0,none⟩) (cX x13_3 (ji54)).length c314_0) y318:=(by rw [hw,Ny318.out];exact HP66.1)
            have hp_:Kd.S (Kd.slice 4 Kd.bool) 49 w67 w.heap.size (fun _=>True) (.slice (some ad314) x13_3.length co65) y320:=(by rw [Ny320.out];exact hbk66 (show w63.grownBy w67 (some go60) from ⟨hg.os,hg.tape,hg.output,hg.size,hg.block⟩) (fun k_ e_=>by injection e_ with e_;subst e_;exact ge66_0.1 _ rfl) (Kd.M_row hz_))
            have hm_:=Kd.R_mono hz_ hok66
            clear HP66 hbk66
            have n0_:=aA.mk (Kd.R_over' (v:=(.slice (some ⟨go60,0,none⟩) (cX x13_3 (ji54)).length c314_0)) (rA HO_9) (Kd.R_typed HL315_0.out) (by decide) hg)
            have n1_:=aA.mk (Kd.S_over' (v:=(.slice (some ⟨go60,0,none⟩) (cX x13_3 (ji54)).length c314_0)) (by (with_reducible repeat (first|apply Kd.S_alloc|apply Kd.S_drewN|apply Kd.S_drew));exact HO_10.out) (Kd.R_typed HL315_0.out) (by decide) hg)
            have n2_:=aA.mk (Kd.R_over' (v:=(.slice (some ⟨go60,0,none⟩) (cX x13_3 (ji54)).length c314_0)) (rA HO_11) (Kd.R_typed HL315_0.out) (by decide) hg)
            have n3_:=aA.mk (Kd.S_over' (v:=(.slice (some ⟨go60,0,none⟩) (cX x13_3 (ji54)).length c314_0)) (by (with_reducible repeat (first|apply Kd.S_alloc|apply Kd.S_drewN|apply Kd.S_drew));exact HO_12.out) (Kd.R_typed HL315_0.out) (by decide) hg)
            have n4_:=aA.mk (hp_)
            have n5_:=aA.mk ((by rw [hw];exact cK (al HB.out) GB60.out:Below w.heap.size w w67))
            have n6_:=aA.mk (hm_)
            have n7_:=aA.mk ((Kd.R_reads' hm_).2.1)
            clear HO_9
            clear HO_10
            clear HO_11
            clear HO_12
            clear HO_13
            clear HB
            clear HL314_0
            clear HL315_0
            have HO_9:=n0_
            have HO_10:=n1_
            have HO_11:=n2_
            have HO_12:=n3_
            have HO_13:=n4_
            have HB:=n5_
            have HL329:=n6_
            have HC319:=n7_
            clear n0_ n1_ n2_ n3_ n4_ n5_ n6_ n7_
            clear hg hw hp_ hz_ hm_ hok66
            refine hK.out _ _ ?_
            clear hK K
            refine cg (by kernel_rfl) ?_
            try go_wp2
            go_roundg k3
            case measure=>have:=HK1.out;have:=HK2.out;have:=HK3.out;omega
            case rel=>exact ⟨(y320),(wrap64 (x17_3+1)),hB,H',⟨by have:=HK1.out;have:=HK2.out;have:=HK3.out;omega⟩,⟨rA HO_9⟩,⟨by (with_reducible repeat (first|apply Kd.S_alloc|apply Kd.S_drewN|apply Kd.S_drew));exact HO_10.out⟩,⟨rA HO_11⟩,⟨by (with_reducible repeat (first|apply Kd.S_alloc|apply Kd.S_drewN|apply Kd.S_drew));exact HO_12.out⟩,⟨by (with_reducible repeat (first|apply Kd.S_alloc|apply Kd.S_drewN|apply Kd.S_drew));exact HO_13.out⟩,⟨blA⟩⟩
           ·
            try go_wp2
            go_roundg k3
            case measure=>have:=HK1.out;have:=HK2.out;have:=HK3.out;omega
            case rel=>exact ⟨(x13_3),(wrap64 (x17_3+1)),hB,H',⟨by have:=HK1.out;have:=HK2.out;have:=HK3.out;omega⟩,⟨rA HO_9⟩,⟨by (with_reducible repeat (first|apply Kd.S_alloc|apply Kd.S_drewN|apply Kd.S_drew));exact HO_10.out⟩,⟨rA HO_11⟩,⟨by (with_reducible repeat (first|apply Kd.S_alloc|apply Kd.S_drewN|apply Kd.S_drew));exact HO_12.out⟩,⟨by (with_reducible repeat (first|apply Kd.S_alloc|apply Kd.S_drewN|apply Kd.S_drew));exact HO_13.out⟩,⟨blA⟩⟩
          ·
           rw [if_neg c45] at H
           have c45b0:=decide_eq_false c45
           clear c45
           have H':=aA.mk H
           clear H
           go_wp2
           go_roundg k3
           case measure=>have:=HK1.out;have:=HK2.out;have:=HK3.out;omega
           case rel=>exact ⟨(x13_3),(wrap64 (x16_2+1)),hB,H',⟨by have:=HK1.out;have:=HK2.out;have:=HK3.out;omega⟩,⟨rA HO_9⟩,⟨by (with_reducible repeat (first|apply Kd.S_alloc|apply Kd.S_drewN|apply Kd.S_drew));exact HO_10.out⟩,⟨rA HO_11⟩,⟨by (with_reducible repeat (first|apply Kd.S_alloc|apply Kd.S_drewN|apply Kd.S_drew));exact HO_12.out⟩,⟨by (with_reducible repeat (first|apply Kd.S_alloc|apply Kd.S_drewN|apply Kd.S_drew));exact HO_13.out⟩,⟨blA⟩⟩
       ·
        rw [if_neg c44] at H
        have c44b0:=decide_eq_false c44
        clear c44
        have H':=aA.mk H
        clear H
        go_wp2
        go_loopg [12,19] k2 (fun kq v12 v19 w'=>∃ (x12_3:List (List Int)) (x19_3:Int),v19=.int .i64 x19_3∧aA (aC.l4 kq t287 x12_3 x13_2 x19_3=some (r1,r2))∧aA (kq≤k2)∧aA (Kd.S (Kd.slice 2 (Kd.int .i64)) 50 w' w.heap.size (fun k_=>some k_≠(v12:Value).ownBlock) (.slice Ao43 t287.length co43) t287)∧aA (Kd.S (Kd.slice 2 (Kd.int .i64)) 50 w' w.heap.size (fun k_=>some k_≠((.slice Ao43 t287.length co43):Value).ownBlock) v12 x12_3)∧aA (Kd.S (Kd.slice 4 Kd.bool) 49 w' w.heap.size (fun _=>True) u13 x13_2)∧aA (Below w.heap.size w w'))
        case atStart=>exact ⟨(y293),(0),hB,H',⟨Nat.le_refl _⟩,⟨by (with_reducible repeat (first|apply Kd.S_alloc|apply Kd.S_drewN|apply Kd.S_drew));exact Kd.S_mono HO_10.out (fun _ hk=>hk.2)⟩,⟨by (with_reducible repeat (first|apply Kd.S_alloc|apply Kd.S_drewN|apply Kd.S_drew));exact Kd.S_mono HO_12.out (fun _ hk=>hk.1)⟩,⟨by (with_reducible repeat (first|apply Kd.S_alloc|apply Kd.S_drewN|apply Kd.S_drew));exact HO_13.out⟩,⟨blA⟩⟩
        case round=>
         clear H'
         try clear c5
         try clear c44
         try clear c44b0
         try clear c45
         try clear c45b0
         try clear c46
         try clear c47
         try clear c48
         try clear c49
         try clear c51
         try clear c51b0
         try clear c51b1
         try clear c52
         try clear c53
         try clear c55
         try clear c56
         try clear c58
         try clear c58b0
         try clear c59
         try clear c59b0
         try clear p60
         try clear q60
         try clear hx309_0
         try clear hx309_1
         try clear hx309_2
         try clear hx310_0
         try clear hx310_1
         try clear hx310_2
         try clear hx312_0
         try clear hx313_0
         try clear hx314_0
         try clear hx315_0
         try clear hx316_0
         try clear hx317_0
         try clear hx60_0
         try clear p309
         try clear p310
         try clear p312
         try clear p313
         try clear p314
         try clear p315
         try clear p316
         try clear p317
         try clear p60
         try clear q309
         try clear q310
         try clear q312
         try clear q313
         try clear q314
         try clear q315
         try clear q316
         try clear q317
         try clear q60
         obtain ⟨x12_3,x19_3,rfl,HA,HK3,HO_10,HO_12,HO_13,HB⟩:=hrel
         cases gk with
         | zero=>exact absurd HA.out (by simp [aC.l4])
         | succ k3=>
          have H:=HA.out
          clear HA
          simp only [aC.l4] at H
          by_cases c70:x19_3<(t287.length:Int)
          ·
           rw [if_pos c70] at H
           have c70b0:=decide_eq_true c70
           clear c70
           have H':=aA.mk H
           clear H
           go_wp2
           go_loopg [12,20] k3 (fun kq v12 v20 w'=>∃ (x12_4:List (List Int)) (x20_4:Int),v20=.int .i64 x20_4∧aA (aC.l5 kq t287 x12_4 x13_2 x19_3 x20_4=some (r1,r2))∧aA (kq≤k3)∧aA (Kd.S (Kd.slice 2 (Kd.int .i64)) 50 w' w.heap.size (fun k_=>some k_≠(v12:Value).ownBlock) (.slice Ao43 t287.length co43) t287)∧aA (Kd.S (Kd.slice 2 (Kd.int .i64)) 50 w' w.heap.size (fun k_=>some k_≠((.slice Ao43 t287.length co43):Value).ownBlock) v12 x12_4)∧aA (Kd.S (Kd.slice 4 Kd.bool) 49 w' w.heap.size (fun _=>True) u13 x13_2)∧aA (Below w.heap.size w w'))
           case atStart=>exact ⟨(x12_3),(x19_3),hB,H',⟨Nat.le_refl _⟩,⟨by (with_reducible repeat (first|apply Kd.S_alloc|apply Kd.S_drewN|apply Kd.S_drew));exact HO_10.out⟩,⟨by (with_reducible repeat (first|apply Kd.S_alloc|apply Kd.S_drewN|apply Kd.S_drew));exact HO_12.out⟩,⟨by (with_reducible repeat (first|apply Kd.S_alloc|apply Kd.S_drewN|apply Kd.S_drew));exact HO_13.out⟩,⟨blA⟩⟩
           case round=>
            clear H'
            try clear c5
            try clear c44
            try clear c44b0
            try clear c45
            try clear c45b0
            try clear c46
            try clear c47
            try clear c48
            try clear c49
            try clear c51
            try clear c51b0
            try clear c51b1
            try clear c52
            try clear c53
            try clear c55
            try clear c56
            try clear c58
            try clear c58b0
            try clear c59
            try clear c59b0
            try clear p60
            try clear q60
            try clear c70
            try clear c70b0
            try clear hx309_0
            try clear hx309_1
            try clear hx309_2
            try clear hx310_0
            try clear hx310_1
            try clear hx310_2
            try clear hx312_0
            try clear hx313_0
            try clear hx314_0
            try clear hx315_0
            try clear hx316_0
            try clear hx317_0
            try clear hx60_0
            try clear p309
            try clear p310
            try clear p312
            try clear p313
            try clear p314
            try clear p315
            try clear p316
            try clear p317
            try clear p60
            try clear q309
            try clear q310
            try clear q312
            try clear q313
            try clear q314
            try clear q315
            try clear q316
            try clear q317
            try clear q60
            obtain ⟨x12_4,x20_4,rfl,HA,HK4,HO_10,HO_12,HO_13,HB⟩:=hrel
            cases gk with
            | zero=>exact absurd HA.out (by simp [aC.l5])
            | succ k4=>
             have H:=HA.out
             clear HA
             simp only [aC.l5] at H
             by_cases c71:x20_4<(t287.length:Int)
             ·
              rw [if_pos c71] at H
              have c71b0:=decide_eq_true c71
              clear c71
              by_cases c72:0≤x19_3
              rotate_left
              ·
               rw [if_neg c72] at H
               exact absurd H (by simp)
              rw [if_pos c72] at H
              have c72b0:=decide_eq_true c72
              clear c72
              by_cases c73:x19_3<(x13_2.length:Int)
              rotate_left
              ·
               rw [if_neg c73] at H
               exact absurd H (by simp)
              rw [if_pos c73] at H
              have c73b0:=decide_eq_true c73
              clear c73
              by_cases c74:0≤x20_4
              rotate_left
              ·
               rw [if_neg c74] at H
               exact absurd H (by simp)
              rw [if_pos c74] at H
              have c74b0:=decide_eq_true c74
              clear c74
              by_cases c75:x20_4<((cX x13_2 x19_3).length:Int)
              rotate_left
              ·
               rw [if_neg c75] at H
               exact absurd H (by simp)
              rw [if_pos c75] at H
              have c75b0:=decide_eq_true c75
              clear c75
              obtain ⟨bq76,hbq76⟩:∃ b_:Bool,b_=(rdOf false (cX x13_2 x19_3) x20_4):=⟨_,rfl⟩
              replace H:(if bq76=true then (if x12_4.length<5864062014805 then (aC.l5 k4 t287 (x12_4 ++ [(([x19_3,x20_4]:List Int))]) x13_2 x19_3 (wrap64 (x20_4+1))) else (none)) else (aC.l5 k4 t287 x12_4 x13_2 x19_3 (wrap64 (x20_4+1))))=some (r1,r2):=by rw [← hbq76] at H;exact H
              have Nbq76:=aA.mk hbq76
              clear hbq76
              by_cases c77:bq76=true
              ·
               subst c77
               rw [if_pos rfl] at H
               try dsimp only at H
               obtain ⟨y323,hy323⟩:∃ y_:List Int,y_=(([x19_3,x20_4]:List Int)):=⟨_,rfl⟩
               replace H:(if x12_4.length<5864062014805 then (aC.l5 k4 t287 (x12_4 ++ [y323]) x13_2 x19_3 (wrap64 (x20_4+1))) else (none))=some (r1,r2):=rH hy323 H
               have Ny323:=aA.mk hy323
               clear hy323
               by_cases c78:x12_4.length<5864062014805
               rotate_left
               ·
                rw [if_neg c78] at H
                exact absurd H (by simp)
               rw [if_pos c78] at H
               have LMc78:=aA.mk c78
               clear c78
               obtain ⟨y326,hy326⟩:∃ y_:List (List Int),y_=(x12_4 ++ [y323]):=⟨_,rfl⟩
               replace H:(aC.l5 k4 t287 y326 x13_2 x19_3 (wrap64 (x20_4+1)))=some (r1,r2):=rH hy326 H
               have Ny326:=aA.mk hy326
               clear hy326
               have H':=aA.mk H
               clear H
               obtain ⟨Ao79,co79,eo79⟩:=Kd.S_slice HO_13.out
               subst eo79
               have p321:0≤(x19_3:Int):=dA
               have q321:x19_3<(x13_2.length:Int):=dA
               obtain ⟨ad321,A321_0,c321_0,e321,hx321_0,hl321_0,hi321_0⟩:=at_L7 (Kd.S_reads' HO_13.out).2.2 x19_3 p321 q321
               cases e321
               obtain ⟨ce321,hce321,hMe321,hcc321⟩:=Kd.S_get HO_13.out [] x19_3 p321 (by first|exact q321|exact dA|(have e_:=(Kd.S_reads' HO_13.out).1;omega))
               obtain ⟨ve321_0,rfl,ge321_0⟩:=hMe321
               have hv321_0:=hcc321 0 _ rfl
               rw [Nat.add_zero,show ((Kd.slice 4 Kd.bool)).sz=1 from rfl,Nat.mul_one] at hv321_0
               replace hv321_0:=Option.some.inj (hv321_0.symm.trans hx321_0)
               rw [hv321_0] at ge321_0
               have HL321_0:=aA.mk (show Kd.R Kd.bool 4 _ _ _ _ (cX x13_2 x19_3) from ge321_0)
               clear hv321_0 ge321_0
               have HX321_0:=aA.mk hx321_0
               clear hcc321 hce321
               have HR321_0:=aA.mk hi321_0
               have HC321_0:=aA.mk hl321_0
               clear hi321_0 hl321_0
               replace p321:=eq_true p321
               replace q321:=eq_true q321
               have p322:0≤(x20_4:Int):=dA
               have q322:x20_4<((cX x13_2 x19_3).length:Int):=dA
               obtain ⟨ad322,e322,hx322_0⟩:=Kd.at_bool (by repeat (first|(with_reducible exact HR321_0.out)|(with_reducible refine Kd.C_alloc ?_ _)|(with_reducible refine Kd.C_drewN ?_ _)|(with_reducible refine Kd.C_drew ?_)|exact HR321_0.out)) x20_4 p322 q322
               (try rw [← Nbq76.out] at hx322_0)
               cases e322
               replace p322:=eq_true p322
               replace q322:=eq_true q322
               go_wp2_with (first|((with_reducible refine aN (N:=140) rfl ?_);refine Kd.R_lit (Kd.int .i64) _ 2 ?hg (N:=140) ?hd (xs:=([x19_3,x20_4]:List Int)) (inner:=[.int .i64 x19_3,.int .i64 x20_4]) (ok:=fun _=>True) (okp:=fun _=>True) ?hr ?hp (fun _ hk=>hk) trivial (Below.refl _ _) (Nat.le_refl _) (by simp) ?_;(case hd=>rfl);(case hg=>rfl);(case hr=>first|(go_simp;done)|(go_simp;rfl));(case hp=>exact (bD.one (show Kd.M (Kd.int .i64) _ _ _ x19_3 [.int .i64 x19_3] from rfl) (bD.one (show Kd.M (Kd.int .i64) _ _ _ x20_4 [.int .i64 x20_4] from rfl) (bD.none _ _))));intro v324 w80 ho81 hb hg_ hnew_;clear hg_ hnew_;(first|rw [← Ny323.out] at ho81|(simp only [Int.reduceToNat] at ho81;rw [← Ny323.out] at ho81));have n0_:=aA.mk (Kd.S_elder' (by (with_reducible repeat (first|apply Kd.S_alloc|apply Kd.S_drewN|apply Kd.S_drew));exact HO_10.out) (Kd.R_base ho81) hb);have n1_:=aA.mk (Kd.S_elder' (by (with_reducible repeat (first|apply Kd.S_alloc|apply Kd.S_drewN|apply Kd.S_drew));exact HO_12.out) (Kd.R_base ho81) hb);have n2_:=aA.mk (Kd.S_below (by (with_reducible repeat (first|apply Kd.S_alloc|apply Kd.S_drewN|apply Kd.S_drew));exact HO_13.out) hb);have n3_:=aA.mk (Kd.R_below (rA HL321_0) hb);have n4_:=aA.mk (Kd.R_lower ho81 (aQ blA));have n5_:=aA.mk (Kd.C_below (by repeat (first|(with_reducible exact HR321_0.out)|(with_reducible refine Kd.C_alloc ?_ _)|(with_reducible refine Kd.C_drewN ?_ _)|(with_reducible refine Kd.C_drew ?_)|exact HR321_0.out)) hb);have n6_:=aA.mk (da hb HX321_0.out);have n7_:=lB hb;clear HO_10;clear HO_12;clear HO_13;clear HL321_0;clear HR321_0;clear HX321_0;clear HB;have HO_10:=n0_;have HO_12:=n1_;have HO_13:=n2_;have HL321_0:=n3_;have HO325:=n4_;have HR321_0:=n5_;have HX321_0:=n6_;have HB:=n7_;clear n0_ n1_ n2_ n3_ n4_ n5_ n6_ n7_;clear hb ho81;obtain ⟨Ao83,co83,eo83⟩:=Kd.R_slice HO325.out;subst eo83)|((with_reducible refine bY (b:=.append) (xs:=#[.tmp 137,.tmp 141]) rfl ?_);at_builtin;refine Kd.S_append (Kd.slice 2 (Kd.int .i64)) (w0:=w) w.heap.size rfl (.tmp 137) (.tmp 141) 24 50 (.slice none 0 0) 24 rfl Tryz.underlying24 info50 rfl (by decide) (by omega) u12 x12_4 y323 [.slice Ao83 y323.length co83] (fun k_=>some k_≠(.slice Ao43 t287.length co43:Value).ownBlock) (fun k_=>some k_=(.slice Ao83 y323.length co83:Value).ownBlock) rfl rfl ?aP (fun k_ hk_=>((Kd.R_mono (ok':=fun k_=>((fun k_=>some k_≠(.slice Ao43 t287.length co43:Value).ownBlock)) k_∧some k_≠(u12:Value).ownBlock) (Kd.R_apart' (Kd.R_apart' (HO325.out) (Kd.S_typed HO_10.out) (by decide)) (Kd.S_typed HO_12.out) (by decide)) (fun k_ hk=>⟨hk.1.2,hk.2⟩))).1 k_ hk_.symm) ?aF ?aO ?aB ?aS ?aL ?_;(case aP=>exact Kd.M_row (Kd.R_mono (Kd.R_tight rfl (Kd.R_mono (ok':=fun k_=>((fun k_=>some k_≠(.slice Ao43 t287.length co43:Value).ownBlock)) k_∧some k_≠(u12:Value).ownBlock) (Kd.R_apart' (Kd.R_apart' (HO325.out) (Kd.S_typed HO_10.out) (by decide)) (Kd.S_typed HO_12.out) (by decide)) (fun k_ hk=>⟨hk.1.2,hk.2⟩))) (fun _ h_=>h_)));(case aB=>exact blA);(case aF=>exact (fun k_ hk=>Kd.fresh' (Kd.S_lt (by (with_reducible repeat (first|apply Kd.S_alloc|apply Kd.S_drewN|apply Kd.S_drew));exact HO_10.out)) k_ hk));(case aO=>exact (by (with_reducible repeat (first|apply Kd.S_alloc|apply Kd.S_drewN|apply Kd.S_drew));exact Kd.S_mono HO_12.out (fun k_ hk=>⟨hk.1,fun e_=>hk.2 e_⟩)));(case aS=>exact (aQ blA));(case aL=>have:=LMc78.out;omega);intro v327 w82 ho hb hg hat;rw [← Ny326.out] at ho;have n0_:=aA.mk (Kd.S_after (ok:=(fun k_=>some k_≠(.slice Ao83 y323.length co83:Value).ownBlock)) (by (with_reducible repeat (first|apply Kd.S_alloc|apply Kd.S_drewN|apply Kd.S_drew));exact Kd.S_mono HO_10.out (fun _ hk=>⟨hk.2,hk.1⟩)) hg hat);have n1_:=aA.mk (Kd.S_over' (by (with_reducible repeat (first|apply Kd.S_alloc|apply Kd.S_drewN|apply Kd.S_drew));exact HO_13.out) (Kd.S_typed (by (with_reducible repeat (first|apply Kd.S_alloc|apply Kd.S_drewN|apply Kd.S_drew));exact HO_12.out)) (by decide) hg);have n2_:=aA.mk (Kd.R_over' (rA HL321_0) (Kd.S_typed (by (with_reducible repeat (first|apply Kd.S_alloc|apply Kd.S_drewN|apply Kd.S_drew));exact HO_12.out)) (by decide) hg);have n3_:=aA.mk hb;have n4_:=aA.mk ho;clear HO_10;clear HO_13;clear HL321_0;clear HB;clear HO_12;clear HO325;have HO_10:=n0_;have HO_13:=n1_;have HL321_0:=n2_;have HB:=n3_;have HO328:=n4_;clear n0_ n1_ n2_ n3_ n4_;clear ho hb hg hat))
               go_roundg k4
               case measure=>have:=HK1.out;have:=HK2.out;have:=HK3.out;have:=HK4.out;omega
               case rel=>exact ⟨(y326),(wrap64 (x20_4+1)),hB,H',⟨by have:=HK1.out;have:=HK2.out;have:=HK3.out;have:=HK4.out;omega⟩,⟨by (with_reducible repeat (first|apply Kd.S_alloc|apply Kd.S_drewN|apply Kd.S_drew));exact Kd.S_mono HO_10.out (fun _ hk=>hk.2)⟩,⟨by (with_reducible repeat (first|apply Kd.S_alloc|apply Kd.S_drewN|apply Kd.S_drew));exact HO328.out⟩,⟨by (with_reducible repeat (first|apply Kd.S_alloc|apply Kd.S_drewN|apply Kd.S_drew));exact HO_13.out⟩,⟨blA⟩⟩
              ·
               replace c77:=Bool.eq_false_iff.mpr c77
               subst c77
               rw [if_neg (show ¬ (false=true) by decide)] at H
               try dsimp only at H
               have H':=aA.mk H
               clear H
               obtain ⟨Ao84,co84,eo84⟩:=Kd.S_slice HO_13.out
               subst eo84
               have p321:0≤(x19_3:Int):=dA
               have q321:x19_3<(x13_2.length:Int):=dA
               obtain ⟨ad321,A321_0,c321_0,e321,hx321_0,hl321_0,hi321_0⟩:=at_L7 (Kd.S_reads' HO_13.out).2.2 x19_3 p321 q321
               cases e321
               obtain ⟨ce321,hce321,hMe321,hcc321⟩:=Kd.S_get HO_13.out [] x19_3 p321 (by first|exact q321|exact dA|(have e_:=(Kd.S_reads' HO_13.out).1;omega))
               obtain ⟨ve321_0,rfl,ge321_0⟩:=hMe321
               have hv321_0:=hcc321 0 _ rfl
               rw [Nat.add_zero,show ((Kd.slice 4 Kd.bool)).sz=1 from rfl,Nat.mul_one] at hv321_0
               replace hv321_0:=Option.some.inj (hv321_0.symm.trans hx321_0)
               rw [hv321_0] at ge321_0
               have HL321_0:=aA.mk (show Kd.R Kd.bool 4 _ _ _ _ (cX x13_2 x19_3) from ge321_0)
               clear hv321_0 ge321_0
               have HX321_0:=aA.mk hx321_0
               clear hcc321 hce321
               have HR321_0:=aA.mk hi321_0
               have HC321_0:=aA.mk hl321_0
               clear hi321_0 hl321_0
               replace p321:=eq_true p321
               replace q321:=eq_true q321
               have p322:0≤(x20_4:Int):=dA
               have q322:x20_4<((cX x13_2 x19_3).length:Int):=dA
               obtain ⟨ad322,e322,hx322_0⟩:=Kd.at_bool (by repeat (first|(with_reducible exact HR321_0.out)|(with_reducible refine Kd.C_alloc ?_ _)|(with_reducible refine Kd.C_drewN ?_ _)|(with_reducible refine Kd.C_drew ?_)|exact HR321_0.out)) x20_4 p322 q322
               (try rw [← Nbq76.out] at hx322_0)
               cases e322
               replace p322:=eq_true p322
               replace q322:=eq_true q322
               go_wp2
               go_roundg k4
               case measure=>have:=HK1.out;have:=HK2.out;have:=HK3.out;have:=HK4.out;omega
               case rel=>exact ⟨(x12_4),(wrap64 (x20_4+1)),hB,H',⟨by have:=HK1.out;have:=HK2.out;have:=HK3.out;have:=HK4.out;omega⟩,⟨by (with_reducible repeat (first|apply Kd.S_alloc|apply Kd.S_drewN|apply Kd.S_drew));exact HO_10.out⟩,⟨by (with_reducible repeat (first|apply Kd.S_alloc|apply Kd.S_drewN|apply Kd.S_drew));exact HO_12.out⟩,⟨by (with_reducible repeat (first|apply Kd.S_alloc|apply Kd.S_drewN|apply Kd.S_drew));exact HO_13.out⟩,⟨blA⟩⟩
             ·
              rw [if_neg c71] at H
              have c71b0:=decide_eq_false c71
              clear c71
              have H':=aA.mk H
              clear H
              go_wp2
              go_roundg k4
              case measure=>have:=HK1.out;have:=HK2.out;have:=HK3.out;have:=HK4.out;omega
              case rel=>exact ⟨(x12_4),(wrap64 (x19_3+1)),hB,H',⟨by have:=HK1.out;have:=HK2.out;have:=HK3.out;have:=HK4.out;omega⟩,⟨by (with_reducible repeat (first|apply Kd.S_alloc|apply Kd.S_drewN|apply Kd.S_drew));exact HO_10.out⟩,⟨by (with_reducible repeat (first|apply Kd.S_alloc|apply Kd.S_drewN|apply Kd.S_drew));exact HO_12.out⟩,⟨by (with_reducible repeat (first|apply Kd.S_alloc|apply Kd.S_drewN|apply Kd.S_drew));exact HO_13.out⟩,⟨blA⟩⟩
          ·
           rw [if_neg c70] at H
           have c70b0:=decide_eq_false c70
           clear c70
           simp only [Option.some.injEq,Prod.mk.injEq] at H
           obtain ⟨rfl,rfl⟩:=H
           go_wp2
           go_ret2
           exact ⟨_,eW,by (with_reducible repeat (first|apply Kd.S_alloc|apply Kd.S_drewN|apply Kd.S_drew));exact Kd.S_mono HO_12.out (fun _ hk=>trivial),blA⟩
 ·
  rw [if_neg c5] at H
  have c5b0:(t280 == 0)=false:=beq_eq_false_iff_ne.mpr c5
  have c5b1:(t280 != 0)=true:=bne_iff_ne.mpr c5
  simp only [Option.some.injEq,Prod.mk.injEq] at H
  obtain ⟨rfl,rfl⟩:=H
  go_enter Tryz.func6,Tryz.ntmps6
  go_wp2_with (first|((with_reducible refine gd 24 rfl ?_);refine gC (some 24) rfl Tryz.func26 (ci.calls (w:=_) (hr1:=cR HR1.out) (hc1:=HC1.out) (h:=A4.out)) ?_;intro w85 hb;have n0_:=lB hb;clear HB;have HB:=n0_;clear n0_;clear hb))
  go_ret2
  exact ⟨_,eW,by first|exact Kd.S_nil _ _ _ _ _|exact Kd.N_nil _ _ _ _ _|exact Kd.V_nil _ _ _ _ _|exact Kd.Q_nil _ _ _ _ _|exact Kd.R_nil _ _ _ _ _,blA⟩
end Go.Proofs.YtnhiehpbkimaeaaGreat.PAll
