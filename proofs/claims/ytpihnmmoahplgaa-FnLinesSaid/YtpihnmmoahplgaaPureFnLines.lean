/- What the law FnLines says of the printed functions holds for every code: it answers true. -/
import Derived.Test.YtpihnmmoahplgaaQLFnLines
import Derived.Test.YtpihnmmoahplgaaMath
import Derived.Laws.Bits64b
import Derived.Lib.BitFns
set_option linter.unusedVariables false
set_option linter.unusedSimpArgs false
namespace Go.Proofs.Ytpihnmmoahplgaa.Pure
open Go.RowKit Go.Proofs.Ytpihnmmoahplgaa.PAll Go.Proofs.YtpihnmmoahplgaaW.PrintWords Go.Proofs.YtpihnmmoahplgaaW.PrintLast PM
theorem w64 {n:Int} (h1 : -9223372036854775808≤n) (h2:n≤9223372036854775807):wrap64 n=n:=by unfold wrap64;omega
theorem rd_nat (l:List Int) (i:Nat) (h:i<l.length):l[i]?=some (rd l (i:Int)):=by
 unfold rd;simp [List.getD_eq_getElem?_getD,h]
theorem ct (p:Int):(bV.f p=some true∧(p=2∨p=3∨p=5∨p=7))∨(bV.f p=some false∧¬ (p=2∨p=3∨p=5∨p=7)):=by
 unfold bV.f
 by_cases h2:p=2
 ·
  simp [h2]
 by_cases h3:p=3
 ·
  simp [h3]
 by_cases h5:p=5
 ·
  simp [h5]
 by_cases h7:p=7
 ·
  simp [h7]
 ·
  simp [h2,h3,h5,h7]
theorem dW (p:Int):av.f p=bV.f p:=rfl
theorem fW (n a b:Int):bJ.f n a b=some (decide (a≤n∧n≤b)):=by
 unfold bJ.f
 by_cases h:a≤n
 ·
  rw [if_pos h];simp [h]
 ·
  rw [if_neg (by omega)];simp [h]
def allB (m:Int) (l:List Int):Bool:=l.all fun x=>decide (-m≤x∧x≤m)
theorem allB_drop (m:Int) (l:List Int) (i:Nat) (h:i<l.length):allB m (l.drop i)=(decide (-m≤rd l i∧rd l i≤m) && allB m (l.drop (i+1))):=by
 have h1:=rd_nat l i h
 rw [List.getElem?_eq_getElem h] at h1
 rw [List.drop_eq_getElem_cons h,Option.some.inj h1];rfl
theorem fM (m:Int) (hm:0≤m) (hm2:m≤1000000000000000000) (l:List Int) (hl:l.length≤1048576):∃ K,∀ k,K≤k→bQ.f k m l=some (allB m l):=by
 have go:∀ (d k i:Nat),i+d=l.length→d<k→bQ.l0 k m l l.length i=some (allB m (l.drop i)):=by
  intro d
  induction d with
  | zero=>
   intro k i h2 h3
   obtain ⟨k,rfl⟩:∃ m,k=m+1:=⟨k - 1,by omega⟩
   simp only [bQ.l0]
   rw [if_neg (by omega),List.drop_eq_nil_of_le (by omega)];rfl
  | succ d ih=>
   intro k i h2 h3
   obtain ⟨k,rfl⟩:∃ m,k=m+1:=⟨k - 1,by omega⟩
   simp only [bQ.l0]
   rw [if_pos (by omega),if_pos (by omega),if_pos (by omega),allB_drop _ _ _ (by omega),w64 (n:=-m) (by omega) (by omega),w64 (by omega) (by omega)]
   have:=ih k (i+1) (by omega) (by omega)
   rw [show ((i:Int)+1)=((i+1:Nat):Int) from by omega,this]
   by_cases h:rd l (i:Int) < -m
   ·
    rw [if_pos h,decide_eq_false (by omega)];rfl
   ·
    rw [if_neg h]
    by_cases h':rd l (i:Int)>m
    ·
     rw [if_pos h',decide_eq_false (by omega)];rfl
    ·
     rw [if_neg h',decide_eq_true (by omega)];rfl
 exact ⟨l.length+1,fun k hk=>by
  have:=go l.length k 0 (by omega) (by omega)
  simpa [bQ.f] using this⟩
theorem fJ {α:Type} (P:α→Bool) (l:List α) (i:Nat) (h:i<l.length):(l.drop i).all P=(P (l[i]'h) && (l.drop (i+1)).all P):=by
 rw [List.drop_eq_getElem_cons h];rfl
theorem dS (n p:Int):n.tmod p=0↔p ∣ n:=Int.dvd_iff_tmod_eq_zero.symm
theorem es (p n:Int) (hp:Pr p) (hn:n≠0) (hb:n.natAbs≤9223372036854775807):∀ k,70≤k→a8.f k p n=some (vl p n:Int):=by
 have hp2:=hp.pos
 have go:∀ (v k:Nat) (n s:Int),n≠0→n.natAbs≤9223372036854775807→vl p n=v→v<k→0≤s→s+v≤1000000→a8.l0 k p n s=some (s+v):=by
  intro v
  induction v with
  | zero=>
   intro k n s hn hb hv hk h0 h1
   obtain ⟨k,rfl⟩:∃ m,k=m+1:=⟨k - 1,by omega⟩
   simp only [a8.l0]
   rw [if_neg (by omega),if_neg (by rw [dS];exact (eU hp hn).1 hv)]
   simp
  | succ v ih=>
   intro k n s hn hb hv hk h0 h1
   obtain ⟨k,rfl⟩:∃ m,k=m+1:=⟨k - 1,by omega⟩
   have hd:p ∣ n:=Decidable.byContradiction fun h=>by have:=(eU hp hn).2 h;omega
   obtain ⟨g1,g2,g3⟩:=vl_step hp hn hd
   simp only [a8.l0]
   rw [if_neg (by omega),if_pos (by rw [dS];exact hd),w64 (n:=n.tdiv p) (by omega) (by omega),w64 (n:=s+1) (by omega) (by omega),ih k _ _ g1 (by omega) (by omega) (by omega) (by omega) (by omega)]
   congr 1;omega
 intro k hk
 have hle:=ci hp hn (by omega)
 unfold a8.f
 rw [go (vl p n) k n 0 hn hb rfl (by omega) (by omega) (by omega)]
 congr 1;omega
theorem bs (p n:Int) (hp:Pr p) (hb:n.natAbs≤9223372036854775807):∀ k,70≤k→aX.f k p n=some (vz p n):=by
 have hp2:=hp.pos
 have go:∀ (v k:Nat) (n s:Int),n≠0→n.natAbs≤9223372036854775807→vl p n=v→v<k→0≤s→s+v≤1000000→aX.l0 k p n s=some (s+v):=by
  intro v
  induction v with
  | zero=>
   intro k n s hn hb hv hk h0 h1
   obtain ⟨k,rfl⟩:∃ m,k=m+1:=⟨k - 1,by omega⟩
   simp only [aX.l0]
   rw [if_neg (by omega),if_neg (by rw [dS];exact (eU hp hn).1 hv)]
   simp
  | succ v ih=>
   intro k n s hn hb hv hk h0 h1
   obtain ⟨k,rfl⟩:∃ m,k=m+1:=⟨k - 1,by omega⟩
   have hd:p ∣ n:=Decidable.byContradiction fun h=>by have:=(eU hp hn).2 h;omega
   obtain ⟨g1,g2,g3⟩:=vl_step hp hn hd
   simp only [aX.l0]
   rw [if_neg (by omega),if_pos (by rw [dS];exact hd),w64 (n:=n.tdiv p) (by omega) (by omega),w64 (n:=s+1) (by omega) (by omega),ih k _ _ g1 (by omega) (by omega) (by omega) (by omega) (by omega)]
   congr 1;omega
 intro k hk
 unfold aX.f vz
 by_cases h0:n=0
 ·
  rw [if_pos h0,if_pos h0]
 ·
  have hle:=ci hp h0 (by omega)
  rw [if_neg h0,if_neg h0,go (vl p n) k n 0 h0 hb rfl (by omega) (by omega) (by omega)]
  congr 1;omega
theorem pw_bd (p k:Int) (hp:Pr p) (h:k≤20):1≤pw p k∧pw p k≤79792266297612001:=by
 have h1:=cE hp k
 have h2:=fb hp h
 have h3:pw p 20≤79792266297612001:=by
  rcases hp with rfl|rfl|rfl|rfl <;> decide +kernel
 omega
theorem eK (p k:Int) (hp:Pr p) (h:k≤12):1≤pw p k∧pw p k≤13841287201:=by
 have h1:=cE hp k
 have h2:=fb hp h
 have h3:pw p 12≤13841287201:=by
  rcases hp with rfl|rfl|rfl|rfl <;> decide +kernel
 omega
theorem pw_bd6 (p k:Int) (hp:Pr p) (h:k≤6):1≤pw p k∧pw p k≤117649:=by
 have h1:=cE hp k
 have h2:=fb hp h
 have h3:pw p 6≤117649:=by
  rcases hp with rfl|rfl|rfl|rfl <;> decide +kernel
 omega
theorem pw_succ (p k:Int) (h:0≤k):pw p (k+1)=pw p k*p:=by
 rw [dV h (by omega),pw_one]
theorem eD (p n:Int) (hp:Pr p) (h:n≤20) (h0 : -9223372036854775808≤n):∀ k,30≤k→aa.f k p n=some (pw p n):=by
 have hp2:=hp.pos
 have go:∀ (d k:Nat) (n out j:Int),n=d→0≤j→j+d≤20→d<k→out=pw p j→aa.l0 k p n out=some (pw p (j+d)):=by
  intro d
  induction d with
  | zero=>
   intro k n out j hn hj hs hk ho
   obtain ⟨k,rfl⟩:∃ m,k=m+1:=⟨k - 1,by omega⟩
   simp only [aa.l0]
   rw [if_neg (by omega),ho];simp
  | succ d ih=>
   intro k n out j hn hj hs hk ho
   obtain ⟨k,rfl⟩:∃ m,k=m+1:=⟨k - 1,by omega⟩
   simp only [aa.l0]
   have hb:=pw_bd p (j+1) hp (by omega)
   have hs1:=pw_succ p j hj
   rw [if_pos (by omega),w64 (n:=n - 1) (by omega) (by omega),ho,← hs1,w64 (by omega) (by omega),ih k (n - 1) _ (j+1) (by omega) (by omega) (by omega) (by omega) rfl]
   congr 2;omega
 intro k hk
 unfold aa.f
 by_cases h1:n≤0
 ·
  obtain ⟨k,rfl⟩:∃ m,k=m+1:=⟨k - 1,by omega⟩
  simp only [aa.l0]
  rw [if_neg (by omega)]
  simp [pw,show n.toNat=0 by omega]
 ·
  rw [go n.toNat k n 1 0 (by omega) (by omega) (by omega) (by omega) (by simp [pw])]
  congr 2;omega
theorem eA (p n:Int) (hp:Pr p) (h:n≤20):∀ k,30≤k→ar.f k p n=some (pw p n):=by
 have hp2:=hp.pos
 have go:∀ (d k:Nat) (n out j:Int),n=j+d→0≤j→n≤20→d<k→out=pw p j→ar.l0 k p out n j=some (pw p n):=by
  intro d
  induction d with
  | zero=>
   intro k n out j hn hj hs hk ho
   obtain ⟨k,rfl⟩:∃ m,k=m+1:=⟨k - 1,by omega⟩
   simp only [ar.l0]
   rw [if_neg (by omega),ho]
   congr 2;omega
  | succ d ih=>
   intro k n out j hn hj hs hk ho
   obtain ⟨k,rfl⟩:∃ m,k=m+1:=⟨k - 1,by omega⟩
   simp only [ar.l0]
   have hb:=pw_bd p (j+1) hp (by omega)
   have hs1:=pw_succ p j hj
   rw [if_pos (by omega),w64 (n:=j+1) (by omega) (by omega),ho,← hs1,w64 (by omega) (by omega),ih k n _ (j+1) (by omega) (by omega) (by omega) (by omega) rfl]
 intro k hk
 unfold ar.f
 by_cases h1:n≤0
 ·
  obtain ⟨k,rfl⟩:∃ m,k=m+1:=⟨k - 1,by omega⟩
  simp only [ar.l0]
  rw [if_neg (by omega)]
  simp [pw,show n.toNat=0 by omega]
 ·
  rw [go n.toNat k n 1 0 (by omega) (by omega) (by omega) (by omega) (by simp [pw])]
theorem mx_neg (a:Int) (h:a.natAbs≤9223372036854775807):mx a (wrap64 (-a))=(a.natAbs:Int):=by
 rw [w64 (by omega) (by omega)];unfold mx;split <;> omega
theorem gcd_tmod (a b:Int):Int.gcd b (a.tmod b)=Int.gcd a b:=by
 have h:=Int.gcd_add_mul_left_right b (a.tmod b) (a.tdiv b)
 rw [Int.tmod_add_mul_tdiv] at h
 rw [Int.gcd_comm a b];exact h.symm
theorem eO (a b:Int) (ha:a.natAbs≤9223372036854775807) (hb:b.natAbs≤9223372036854775807):∃ K,∀ k,K≤k→a9.f k a b=some (Int.gcd a b:Int):=by
 have go:∀ (d k:Nat) (a b:Int),a.natAbs≤9223372036854775807→b.natAbs≤9223372036854775807→b.natAbs≤d→d<k→a9.l0 k a b=some (Int.gcd a b:Int):=by
  intro d
  induction d with
  | zero=>
   intro k a b ha hb0 hb hk
   obtain ⟨k,rfl⟩:∃ m,k=m+1:=⟨k - 1,by omega⟩
   obtain rfl:b=0:=by omega
   simp only [a9.l0]
   rw [if_pos trivial,mx_neg a ha,Int.gcd_zero_right]
  | succ d ih=>
   intro k a b ha hb0 hb hk
   obtain ⟨k,rfl⟩:∃ m,k=m+1:=⟨k - 1,by omega⟩
   simp only [a9.l0]
   by_cases h:b=0
   ·
    rw [if_pos h,mx_neg a ha,h,Int.gcd_zero_right]
   ·
    rw [if_neg h,ih k b (a.tmod b) hb0 (by
     have:(a.tmod b).natAbs<b.natAbs:=by rw [Int.natAbs_tmod];exact Nat.mod_lt _ (by omega)
     omega) (by
     have:(a.tmod b).natAbs<b.natAbs:=by rw [Int.natAbs_tmod];exact Nat.mod_lt _ (by omega)
     omega) (by omega),gcd_tmod]
 exact ⟨b.natAbs+1,fun k hk=>by unfold a9.f;exact go b.natAbs k a b ha hb (Nat.le_refl _) (by omega)⟩
theorem gcd_eq (a b:Int) (ha:a.natAbs≤9223372036854775807) (hb:b.natAbs≤9223372036854775807):∃ K,∀ k,K≤k→cW.f k a b=some (Int.gcd a b:Int):=by
 have go:∀ (d k:Nat) (a b:Int),a.natAbs≤9223372036854775807→b.natAbs≤9223372036854775807→b.natAbs≤d→d<k→cW.l0 k a b=some (Int.gcd a b:Int):=by
  intro d
  induction d with
  | zero=>
   intro k a b ha hb0 hb hk
   obtain ⟨k,rfl⟩:∃ m,k=m+1:=⟨k - 1,by omega⟩
   obtain rfl:b=0:=by omega
   simp only [cW.l0]
   rw [if_pos trivial,mx_neg a ha,Int.gcd_zero_right]
  | succ d ih=>
   intro k a b ha hb0 hb hk
   obtain ⟨k,rfl⟩:∃ m,k=m+1:=⟨k - 1,by omega⟩
   simp only [cW.l0]
   by_cases h:b=0
   ·
    rw [if_pos h,mx_neg a ha,h,Int.gcd_zero_right]
   ·
    rw [if_neg h,ih k b (a.tmod b) hb0 (by
     have:(a.tmod b).natAbs<b.natAbs:=by rw [Int.natAbs_tmod];exact Nat.mod_lt _ (by omega)
     omega) (by
     have:(a.tmod b).natAbs<b.natAbs:=by rw [Int.natAbs_tmod];exact Nat.mod_lt _ (by omega)
     omega) (by omega),gcd_tmod]
 exact ⟨b.natAbs+1,fun k hk=>by unfold cW.f;exact go b.natAbs k a b ha hb (Nat.le_refl _) (by omega)⟩
theorem l01End_eq (n d:Int):∃ K,∀ k,K≤k→cq.f k n d=some (decide (isE n d)):=by
 by_cases h0:d=0
 ·
  refine ⟨0,fun k _=>?_⟩
  unfold cq.f
  rw [if_pos h0]
  congr 1
  by_cases h:n=1
  ·
   simp [h,h0,isE]
  ·
   simp [h,h0,isE]
 ·
  by_cases h1:1≤d∧d≤1000000
  ·
   by_cases h2 : -1000000≤n∧n≤1000000
   ·
    obtain ⟨K,hK⟩:=eO n d (by omega) (by omega)
    refine ⟨K,fun k hk=>?_⟩
    unfold cq.f
    rw [if_neg h0,fW,fW,hK k hk,decide_eq_true h1,decide_eq_true h2]
    simp only [Option.bind_some,if_true]
    congr 1
    rw [Bool.eq_iff_iff]
    simp [isE,h0,h1,h2]
    omega
   ·
    refine ⟨0,fun k _=>?_⟩
    unfold cq.f
    rw [if_neg h0,fW,fW,decide_eq_true h1,decide_eq_false h2]
    simp only [Option.bind_some,if_true]
    rw [if_neg (by simp),decide_eq_false]
    unfold isE;omega
  ·
   refine ⟨0,fun k _=>?_⟩
   unfold cq.f
   rw [if_neg h0,fW,decide_eq_false h1]
   simp only [Option.bind_some]
   rw [if_neg (by simp),decide_eq_false]
   unfold isE;omega
theorem IsEnd_eq (n d:Int):∃ K,∀ k,K≤k→cj.f k n d=some (decide (isE n d)):=by
 by_cases h0:d=0
 ·
  refine ⟨0,fun k _=>?_⟩
  unfold cj.f
  rw [if_pos h0]
  congr 1
  by_cases h:n=1
  ·
   simp [h,h0,isE]
  ·
   simp [h,h0,isE]
 ·
  obtain ⟨K1,hw⟩:=fM 1000000 (by omega) (by omega) [n,d] (by simp)
  have ew:allB 1000000 [n,d]=decide ((-1000000≤n∧n≤1000000)∧-1000000≤d∧d≤1000000):=by simp [allB]
  rw [ew] at hw
  by_cases h1:(-1000000≤n∧n≤1000000)∧-1000000≤d∧d≤1000000
  ·
   obtain ⟨K2,hK⟩:=gcd_eq n d (by omega) (by omega)
   refine ⟨K1+K2,fun k hk=>?_⟩
   unfold cj.f
   rw [if_neg h0,hw k (by omega),decide_eq_true h1,hK k (by omega)]
   simp only [Option.bind_some,if_true]
   by_cases h2:d>0
   ·
    rw [if_pos h2]
    congr 1
    rw [Bool.eq_iff_iff]
    simp [isE,h0,h1]
    omega
   ·
    rw [if_neg h2,decide_eq_false]
    unfold isE;omega
  ·
   refine ⟨K1,fun k hk=>?_⟩
   unfold cj.f
   rw [if_neg h0,hw k (by omega),decide_eq_false h1]
   simp only [Option.bind_some]
   rw [if_neg (by simp),decide_eq_false]
   unfold isE;omega
def eOk (x:S28):Bool:=decide (isE x.f0 x.f1)
theorem rdE (l:List S28) (i:Nat) (h:i<l.length):am l (i:Int)=l[i]'h:=by
 unfold am;simp [List.getD_eq_getElem?_getD,h]
def difAt (l:List S28) (i:Nat):Bool:=(l.take i).all fun x=>!(x.f0 == (am l i).f0 && x.f1 == (am l i).f1)
def dk (l:List S28):Nat→Nat→Bool
 | 0,_=>true
 | d+1,i=>difAt l i && dk l d (i+1)
def dif (l:List S28):Bool:=dk l l.length 0
theorem dh (l:List S28) (hl:l.length≤1000):∃ K,∀ k,K≤k→bL.f k l=some (l.all eOk):=by
 have go:∀ (d i:Nat),i+d=l.length→∃ K,∀ k,K≤k→bL.l0 k l l.length i=some ((l.drop i).all eOk):=by
  intro d
  induction d with
  | zero=>
   intro i hi
   refine ⟨1,fun k hk=>?_⟩
   obtain ⟨k,rfl⟩:∃ m,k=m+1:=⟨k - 1,by omega⟩
   simp only [bL.l0]
   rw [if_neg (by omega),List.drop_eq_nil_of_le (by omega)];rfl
  | succ d ih=>
   intro i hi
   obtain ⟨K1,h1⟩:=ih (i+1) (by omega)
   obtain ⟨K2,h2⟩:=IsEnd_eq (l[i]'(by omega)).f0 (l[i]'(by omega)).f1
   refine ⟨K1+K2+1,fun k hk=>?_⟩
   obtain ⟨k,rfl⟩:∃ m,k=m+1:=⟨k - 1,by omega⟩
   simp only [bL.l0]
   rw [if_pos (by omega),if_pos (by omega),if_pos (by omega),rdE l i (by omega),h2 k (by omega),fJ eOk l i (by omega),w64 (by omega) (by omega),show ((i:Int)+1)=((i+1:Nat):Int) from by omega,h1 k (by omega)]
   simp only [Option.bind_some]
   show _=some (decide (isE _ _) && _)
   by_cases h:isE (l[i]'(by omega)).f0 (l[i]'(by omega)).f1
   ·
    rw [decide_eq_true h];simp
   ·
    rw [decide_eq_false h];simp
 obtain ⟨K,h⟩:=go l.length 0 (by omega)
 exact ⟨K,fun k hk=>by have:=h k hk;simpa [bL.f] using this⟩
theorem l05Different_eq (l:List S28) (hl:l.length≤1000):∃ K,∀ k,K≤k→ap.f k l=some (dif l):=by
 have l1:∀ (d k i j:Nat),j+d=i→i<l.length→ap.l1 (k+d+1) l i j=if ((l.take i).drop j).all (fun x=>!(x.f0 == (am l i).f0 && x.f1 == (am l i).f1))=true then ap.l0 k l ((i+1:Nat):Int) else some false:=by
  intro d
  induction d with
  | zero=>
   intro k i j hj hi
   simp only [ap.l1]
   rw [if_neg (by omega),List.drop_eq_nil_of_le (by simp;omega),w64 (by omega) (by omega)];rfl
  | succ d ih=>
   intro k i j hj hi
   have hlt:j<(l.take i).length:=by simp;omega
   rw [show k+(d+1)+1=(k+d+1)+1 from rfl,ap.l1,fJ _ _ j hlt]
   rw [if_pos (by omega),if_pos (by omega),if_pos (by omega),if_pos (by omega),if_pos (by omega),w64 (by omega) (by omega)]
   have:=ih k i (j+1) (by omega) hi
   rw [show ((j:Int)+1)=((j+1:Nat):Int) from by omega,this,rdE l j (by omega)]
   have e:(l.take i)[j]'hlt=l[j]'(by omega):=List.getElem_take
   rw [e]
   by_cases h:((am l i).f0 == (l[j]'(by omega)).f0 && ((am l i).f1 == (l[j]'(by omega)).f1))=true
   ·
    rw [if_pos h]
    have h':((l[j]'(by omega)).f0 == (am l i).f0 && ((l[j]'(by omega)).f1 == (am l i).f1))=true:=by
     simp only [Bool.and_eq_true,beq_iff_eq] at h ⊢;exact ⟨h.1.symm,h.2.symm⟩
    rw [h'];simp
   ·
    rw [if_neg h]
    have h':((l[j]'(by omega)).f0 == (am l i).f0 && ((l[j]'(by omega)).f1 == (am l i).f1))=false:=by
     rw [Bool.eq_false_iff];intro h2;apply h
     simp only [Bool.and_eq_true,beq_iff_eq] at h2 ⊢;exact ⟨h2.1.symm,h2.2.symm⟩
    rw [h'];simp
 have l0:∀ (d i k:Nat),i+d=l.length→(l.length+3)*d+2≤k→ap.l0 k l i=some (dk l d i):=by
  intro d
  induction d with
  | zero=>
   intro i k hi hk
   obtain ⟨k,rfl⟩:∃ m,k=m+1:=⟨k - 1,by omega⟩
   simp only [ap.l0]
   rw [if_neg (by omega)];rfl
  | succ d ih=>
   intro i k hi hk
   rw [Nat.mul_succ] at hk
   obtain ⟨k,rfl⟩:∃ m,k=(m+i+1)+1:=⟨k - i - 2,by omega⟩
   simp only [ap.l0]
   rw [if_pos (by omega)]
   have:=l1 i k i 0 (by omega) (by omega)
   rw [show ((0:Nat):Int)=0 from rfl,List.drop_zero] at this
   rw [this]
   simp only [dk]
   unfold difAt
   split
   ·
    rename_i h;rw [h,ih (i+1) k (by omega) (by omega)];rfl
   ·
    rename_i h;rw [Bool.eq_false_iff.mpr h];rfl
 exact ⟨(l.length+3)*l.length+2,fun k hk=>by
  have:=l0 l.length 0 k (by omega) hk
  simpa [ap.f,dif] using this⟩
theorem l05Code_l0 (l:List S28) (hl:l.length≤1000):∃ K,∀ k,K≤k→ax.l0 k l 0=some (if l.all eOk=true then (if dif l=true then 0 else 5) else 1):=by
 obtain ⟨K0,h0⟩:=l05Different_eq l hl
 have go:∀ (d i:Nat),i+d=l.length→∃ K,∀ k,K≤k→ax.l0 k l i=some (if (l.drop i).all eOk=true then (if dif l=true then 0 else 5) else 1):=by
  intro d
  induction d with
  | zero=>
   intro i hi
   refine ⟨K0+1,fun k hk=>?_⟩
   obtain ⟨k,rfl⟩:∃ m,k=m+1:=⟨k - 1,by omega⟩
   simp only [ax.l0]
   rw [if_neg (by omega),List.drop_eq_nil_of_le (by omega),h0 k (by omega)]
   simp only [Option.bind_some,List.all_nil,if_true]
   split <;> rfl
  | succ d ih=>
   intro i hi
   obtain ⟨K1,h1⟩:=ih (i+1) (by omega)
   obtain ⟨K2,h2⟩:=l01End_eq (l[i]'(by omega)).f0 (l[i]'(by omega)).f1
   refine ⟨K1+K2+1,fun k hk=>?_⟩
   obtain ⟨k,rfl⟩:∃ m,k=m+1:=⟨k - 1,by omega⟩
   simp only [ax.l0]
   rw [if_pos (by omega),if_pos (by omega),rdE l i (by omega),h2 k (by omega),fJ eOk l i (by omega),w64 (by omega) (by omega),show ((i:Int)+1)=((i+1:Nat):Int) from by omega,h1 k (by omega)]
   simp only [Option.bind_some]
   show _=some (if (decide (isE _ _) && _)=true then _ else _)
   by_cases h:isE (l[i]'(by omega)).f0 (l[i]'(by omega)).f1
   ·
    rw [decide_eq_true h];simp
   ·
    rw [decide_eq_false h];simp
 obtain ⟨K,h⟩:=go l.length 0 (by omega)
 exact ⟨K,fun k hk=>by have:=h k hk;simpa using this⟩
theorem cp {n d:Int} (h:isE n d) : -1000000≤n∧n≤1000000∧0≤d∧d≤1000000:=by unfold isE at h;omega
theorem mul_bd {a b:Int} (h1 : -1000000≤a) (h2:a≤1000000) (h3 : -1000000≤b) (h4:b≤1000000) : -1000000000000≤a*b∧a*b≤1000000000000:=by
 have h:(a*b).natAbs≤1000000*1000000:=by rw [Int.natAbs_mul];exact Nat.mul_le_mul (by omega) (by omega)
 omega
def crs (n1 d1 n2 d2:Int):Int:=n1*d2 - n2*d1
theorem crs_bd {n1 d1 n2 d2:Int} (h1:isE n1 d1) (h2:isE n2 d2):(crs n1 d1 n2 d2).natAbs≤2000000000000:=by
 have a:=cp h1;have b:=cp h2
 have c:=mul_bd (a:=n1) (b:=d2) (by omega) (by omega) (by omega) (by omega)
 have d:=mul_bd (a:=n2) (b:=d1) (by omega) (by omega) (by omega) (by omega)
 unfold crs;omega
theorem eE {n1 d1 n2 d2:Int} (h1:isE n1 d1) (h2:isE n2 d2) (h:crs n1 d1 n2 d2=0):n1=n2∧d1=d2:=by
 unfold crs at h
 rcases h1 with ⟨a1,a2⟩|⟨a1,a2,a3,a4,a5⟩
 ·
  rcases h2 with ⟨b1,b2⟩|⟨b1,b2,b3,b4,b5⟩
  ·
   omega
  ·
   subst a1 a2;simp at h;omega
 ·
  rcases h2 with ⟨b1,b2⟩|⟨b1,b2,b3,b4,b5⟩
  ·
   subst b1 b2;simp at h;omega
  ·
   have e:n1*d2=n2*d1:=by omega
   have e1:d1 ∣ d2:=PM.dvd_of_dvd_mul_right_of_gcd_one (a:=d1) (b:=n1) (c:=d2) ⟨n2,by rw [e,Int.mul_comm]⟩ (by rw [Int.gcd_comm];exact a5)
   have e2:d2 ∣ d1:=PM.dvd_of_dvd_mul_right_of_gcd_one (a:=d2) (b:=n2) (c:=d1) ⟨n1,by rw [← e,Int.mul_comm]⟩ (by rw [Int.gcd_comm];exact b5)
   have e3:d1=d2:=Int.dvd_antisymm (by omega) (by omega) e1 e2
   subst e3
   exact ⟨Int.eq_of_mul_eq_mul_right (by omega) e,rfl⟩
theorem dG {n1 d1 n2 d2:Int} (h1:isE n1 d1) (h2:isE n2 d2):aj.f n1 d1 n2 d2=some (crs n1 d1 n2 d2):=by
 have a:=cp h1;have b:=cp h2
 have c:=mul_bd (a:=n1) (b:=d2) (by omega) (by omega) (by omega) (by omega)
 have d:=mul_bd (a:=n2) (b:=d1) (by omega) (by omega) (by omega) (by omega)
 unfold aj.f crs
 rw [w64 (n:=n1*d2) (by omega) (by omega),w64 (n:=n2*d1) (by omega) (by omega),w64 (by omega) (by omega)]
theorem dm {n1 d1 n2 d2:Int} (h1:isE n1 d1) (h2:isE n2 d2):bO.f n1 d1 n2 d2=some (crs n1 d1 n2 d2):=by
 have a:=cp h1;have b:=cp h2
 have c:=mul_bd (a:=n1) (b:=d2) (by omega) (by omega) (by omega) (by omega)
 have d:=mul_bd (a:=n2) (b:=d1) (by omega) (by omega) (by omega) (by omega)
 unfold bO.f crs
 rw [w64 (n:=n1*d2) (by omega) (by omega),w64 (n:=n2*d1) (by omega) (by omega),w64 (by omega) (by omega)]
def ce (p n1 d1 n2 d2:Int):Int:=(vl p (crs n1 d1 n2 d2):Int) - vl p d1 - vl p d2
theorem dt {p n1 d1 n2 d2:Int} (hp:Pr p) (h1:isE n1 d1) (h2:isE n2 d2) (hd1:d1≠0) (hd2:d2≠0) (hne:¬ (n1=n2∧d1=d2)):∀ k,70≤k→bN.f k p n1 d1 n2 d2=some (ce p n1 d1 n2 d2):=by
 intro k hk
 have a:=cp h1;have b:=cp h2
 have hc:crs n1 d1 n2 d2≠0:=fun h=>hne (eE h1 h2 h)
 have hb:=crs_bd h1 h2
 have v1:=ci hp hc (by omega)
 have v2:=ci hp hd1 (by omega)
 have v3:=ci hp hd2 (by omega)
 unfold bN.f ce
 rw [dG h1 h2]
 simp only [Option.bind_some]
 rw [es p _ hp hc (by omega) k hk]
 simp only [Option.bind_some]
 rw [es p _ hp hd1 (by omega) k hk]
 simp only [Option.bind_some]
 rw [es p _ hp hd2 (by omega) k hk]
 simp only [Option.bind_some]
 rw [w64 (n:=(vl p (crs n1 d1 n2 d2):Int) - vl p d1) (by omega) (by omega),w64 (by omega) (by omega)]
theorem ey {p n1 d1 n2 d2:Int} (hp:Pr p) (h1:isE n1 d1) (h2:isE n2 d2) (hd1:d1≠0) (hd2:d2≠0) (hne:¬ (n1=n2∧d1=d2)):∀ k,70≤k→bh.f k p n1 d1 n2 d2=some (ce p n1 d1 n2 d2):=by
 intro k hk
 have a:=cp h1;have b:=cp h2
 have hc:crs n1 d1 n2 d2≠0:=fun h=>hne (eE h1 h2 h)
 have hb:=crs_bd h1 h2
 have v1:=ci hp hc (by omega)
 have v2:=ci hp hd1 (by omega)
 have v3:=ci hp hd2 (by omega)
 unfold bh.f ce
 rw [dm h1 h2]
 simp only [Option.bind_some]
 rw [bs p _ hp (by omega) k hk,b8 hc]
 simp only [Option.bind_some]
 rw [bs p _ hp (by omega) k hk,b8 hd1]
 simp only [Option.bind_some]
 rw [bs p _ hp (by omega) k hk,b8 hd2]
 simp only [Option.bind_some]
 rw [w64 (n:=(vl p (crs n1 d1 n2 d2):Int) - vl p d1) (by omega) (by omega),w64 (by omega) (by omega)]
theorem dK (p:Int) (lv top dn:Int):PM.Ok p ⟨lv,top,dn⟩↔(-6≤lv∧lv≤6∧0≤dn∧dn≤6)∧((lv+dn≤0∧top=0∧dn=0)∨(0<lv+dn∧0≤top∧top<pw p (lv+dn)∧(dn=0∨¬ p ∣ top))):=by
 unfold PM.Ok;simp only;constructor
 ·
  intro ⟨a,b,c,d,e⟩;exact ⟨⟨a,b,c,d⟩,e⟩
 ·
  intro ⟨⟨a,b,c,d⟩,e⟩;exact ⟨a,b,c,d,e⟩
theorem l01Is_eq (p lv top dn:Int):∀ k,32≤k→cN.f k p lv top dn=some (decide (Pr p∧PM.Ok p ⟨lv,top,dn⟩)):=by
 intro k hk
 obtain ⟨k,rfl⟩:∃ m,k=m+1:=⟨k - 1,by omega⟩
 have jt:cN.j0 (k+1) p true lv top dn=some false:=by simp [cN.j0]
 unfold cN.f
 rcases ct p with ⟨h,hp⟩|⟨h,hp⟩
 ·
  have hp:Pr p:=hp
  rw [h,fW,fW]
  simp only [Option.bind_some,if_true]
  by_cases h1 : -6≤lv∧lv≤6
  ·
   rw [decide_eq_true h1,if_pos rfl]
   by_cases h2:0≤dn∧dn≤6
   ·
    rw [decide_eq_true h2]
    simp only [Bool.not_true,cN.j0]
    rw [if_neg (by simp),w64 (by omega) (by omega)]
    by_cases h3:lv+dn≤0
    ·
     rw [if_pos h3]
     by_cases h4:top=0
     ·
      rw [if_pos h4]
      congr 1;rw [Bool.eq_iff_iff]
      simp only [decide_eq_true_eq,dK,beq_iff_eq]
      constructor
      ·
       intro h5;exact ⟨hp,⟨by omega,Or.inl ⟨h3,h4,h5⟩⟩⟩
      ·
       intro ⟨_,_,h5⟩;omega
     ·
      rw [if_neg h4,decide_eq_false]
      rw [dK];intro ⟨_,_,h5⟩;omega
    ·
     rw [if_neg h3,eD p _ hp (by omega) (by omega) k (by omega)]
     have hb:=eK p (lv+dn) hp (by omega)
     simp only [Option.bind_some]
     rw [fW,w64 (by omega) (by omega)]
     simp only [Option.bind_some]
     by_cases h4:0≤top∧top≤pw p (lv+dn) - 1
     ·
      rw [decide_eq_true h4,if_pos rfl]
      by_cases h5:dn=0
      ·
       rw [if_pos h5,decide_eq_true]
       rw [dK];exact ⟨hp,by omega,Or.inr ⟨by omega,by omega,by omega,Or.inl h5⟩⟩
      ·
       have hp2:=hp.pos
       rw [if_neg h5,if_neg (by omega)]
       congr 1;rw [Bool.eq_iff_iff]
       simp only [decide_eq_true_eq,dK,bne_iff_ne,ne_eq,dS]
       constructor
       ·
        intro h6;exact ⟨hp,by omega,Or.inr ⟨by omega,by omega,by omega,Or.inr h6⟩⟩
       ·
        intro ⟨_,_,h6⟩ h7
        rcases h6 with h6|⟨_,_,_,h6⟩
        ·
         omega
        ·
         rcases h6 with h6|h6
         ·
          exact h5 h6
         ·
          exact h6 h7
     ·
      rw [decide_eq_false h4,if_neg (by simp),decide_eq_false]
      rw [dK];intro ⟨_,_,h5⟩;omega
   ·
    rw [decide_eq_false h2,Bool.not_false,jt,decide_eq_false]
    rw [dK];intro ⟨_,h5,_⟩;omega
  ·
   rw [decide_eq_false h1,if_neg (by simp),jt,decide_eq_false]
   rw [dK];intro ⟨_,h5,_⟩;omega
 ·
  rw [h]
  simp only [Option.bind_some]
  rw [if_neg (by simp),jt,decide_eq_false]
  intro ⟨h1,_⟩;exact hp h1
theorem isLevel_eq (n:Int):bW.f n=some (decide (-6≤n∧n≤6)):=by
 unfold bW.f
 by_cases h : -6≤n
 ·
  rw [if_pos h];simp [h]
 ·
  rw [if_neg (by omega)];simp [h]
theorem IsBall_eq (p lv top dn:Int):∀ k,32≤k→bj.f k p lv top dn=some (decide (Pr p∧PM.Ok p ⟨lv,top,dn⟩)):=by
 intro k hk
 obtain ⟨k,rfl⟩:∃ m,k=m+1:=⟨k - 1,by omega⟩
 have jt:bj.j0 (k+1) p true lv top dn=some false:=by simp [bj.j0]
 unfold bj.f
 rw [dW]
 rcases ct p with ⟨h,hp⟩|⟨h,hp⟩
 ·
  have hp:Pr p:=hp
  rw [h,isLevel_eq]
  simp only [Option.bind_some,if_true]
  by_cases h1 : -6≤lv∧lv≤6
  ·
   rw [decide_eq_true h1,if_pos rfl]
   by_cases h2:dn<0
   ·
    rw [if_pos h2,jt,decide_eq_false]
    rw [dK];intro ⟨_,h5,_⟩;omega
   ·
    rw [if_neg h2]
    by_cases h2':dn>6
    ·
     rw [decide_eq_true h2',jt,decide_eq_false]
     rw [dK];intro ⟨_,h5,_⟩;omega
    ·
     rw [decide_eq_false h2']
     simp only [bj.j0]
     rw [if_neg (by simp),w64 (by omega) (by omega)]
     by_cases h3:lv+dn≤0
     ·
      rw [if_pos h3]
      by_cases h4:top=0
      ·
       rw [if_pos h4]
       congr 1;rw [Bool.eq_iff_iff]
       simp only [decide_eq_true_eq,dK,beq_iff_eq]
       constructor
       ·
        intro h5;exact ⟨hp,⟨by omega,Or.inl ⟨h3,h4,h5⟩⟩⟩
       ·
        intro ⟨_,_,h5⟩;omega
      ·
       rw [if_neg h4,decide_eq_false]
       rw [dK];intro ⟨_,_,h5⟩;omega
     ·
      rw [if_neg h3]
      have hb:=eK p (lv+dn) hp (by omega)
      by_cases h4:top≥0
      ·
       rw [if_pos h4,eA p _ hp (by omega) k (by omega)]
       simp only [Option.bind_some]
       by_cases h4':top<pw p (lv+dn)
       ·
        rw [if_pos h4']
        by_cases h5:dn=0
        ·
         rw [if_pos h5,decide_eq_true]
         rw [dK];exact ⟨hp,by omega,Or.inr ⟨by omega,by omega,by omega,Or.inl h5⟩⟩
        ·
         have hp2:=hp.pos
         rw [if_neg h5,if_neg (by omega)]
         congr 1;rw [Bool.eq_iff_iff]
         simp only [decide_eq_true_eq,dK,bne_iff_ne,ne_eq,dS]
         constructor
         ·
          intro h6;exact ⟨hp,by omega,Or.inr ⟨by omega,by omega,by omega,Or.inr h6⟩⟩
         ·
          intro ⟨_,_,h6⟩ h7
          rcases h6 with h6|⟨_,_,_,h6⟩
          ·
           omega
          ·
           rcases h6 with h6|h6
           ·
            exact h5 h6
           ·
            exact h6 h7
       ·
        rw [if_neg h4',decide_eq_false]
        rw [dK];intro ⟨_,_,h5⟩;omega
      ·
       rw [if_neg h4,decide_eq_false]
       rw [dK];intro ⟨_,_,h5⟩;omega
  ·
   rw [decide_eq_false h1,if_neg (by simp),jt,decide_eq_false]
   rw [dK];intro ⟨_,h5,_⟩;omega
 ·
  rw [h]
  simp only [Option.bind_some]
  rw [if_neg (by simp),jt,decide_eq_false]
  intro ⟨h1,_⟩;exact hp h1
def bOk (p:Int) (x:S25):Bool:=decide (PM.Ok p ⟨x.f0,x.f1,x.f2⟩)
theorem rdB (l:List S25) (i:Nat) (h:i<l.length):an l (i:Int)=l[i]'h:=by
 unfold an;simp [List.getD_eq_getElem?_getD,h]
theorem l01Code_eq (p:Int) (l:List S25) (hl:l.length≤1000):∃ K,∀ k,K≤k→bv.f k p l=some (if Pr p∧l.all (bOk p)=true then 0 else 1):=by
 rcases ct p with ⟨h,hp⟩|⟨h,hp⟩
 ·
  have hp:Pr p:=hp
  have go:∀ (d i k:Nat),i+d=l.length→d+34≤k→bv.l0 k p l i=some (if (l.drop i).all (bOk p)=true then 0 else 1):=by
   intro d
   induction d with
   | zero=>
    intro i k hi hk
    obtain ⟨k,rfl⟩:∃ m,k=m+1:=⟨k - 1,by omega⟩
    simp only [bv.l0]
    rw [if_neg (by omega),List.drop_eq_nil_of_le (by omega)];rfl
   | succ d ih=>
    intro i k hi hk
    obtain ⟨k,rfl⟩:∃ m,k=m+1:=⟨k - 1,by omega⟩
    simp only [bv.l0]
    rw [if_pos (by omega),if_pos (by omega),rdB l i (by omega),l01Is_eq _ _ _ _ k (by omega),fJ (bOk p) l i (by omega),w64 (by omega) (by omega),show ((i:Int)+1)=((i+1:Nat):Int) from by omega,ih (i+1) k (by omega) (by omega)]
    simp only [Option.bind_some]
    show _=some (if (decide (PM.Ok _ _) && _)=true then _ else _)
    by_cases h:PM.Ok p ⟨(l[i]'(by omega)).f0,(l[i]'(by omega)).f1,(l[i]'(by omega)).f2⟩
    ·
     rw [decide_eq_true h,decide_eq_true ⟨hp,h⟩];simp
    ·
     rw [decide_eq_false h,decide_eq_false (fun g=>h g.2)];simp
  refine ⟨l.length+34,fun k hk=>?_⟩
  unfold bv.f
  rw [h]
  simp only [Option.bind_some,if_true]
  have:=go l.length 0 k (by omega) (by omega)
  rw [show ((0:Nat):Int)=0 from rfl,List.drop_zero] at this
  rw [this]
  by_cases g:l.all (bOk p)=true
  ·
   rw [if_pos g,if_pos ⟨hp,g⟩]
  ·
   rw [if_neg g,if_neg (fun z=>g z.2)]
 ·
  refine ⟨0,fun k _=>?_⟩
  unfold bv.f
  rw [h]
  simp only [Option.bind_some]
  rw [if_neg (by simp),if_neg (fun z=>hp z.1)]
theorem du (p:Int) (l:List S25) (m:List S28) (hl:l.length≤1000) (hm:m.length≤1000):∃ K,∀ k,K≤k→ax.f k p l m=some (if (Pr p∧l.all (bOk p)=true)∧m.all eOk=true then (if dif m=true then 0 else 5) else 1):=by
 obtain ⟨K1,h1⟩:=l01Code_eq p l hl
 obtain ⟨K2,h2⟩:=l05Code_l0 m hm
 refine ⟨K1+K2,fun k hk=>?_⟩
 unfold ax.f
 rw [h1 k (by omega)]
 simp only [Option.bind_some]
 by_cases c1:Pr p∧l.all (bOk p)=true
 ·
  rw [if_pos c1,if_pos rfl,h2 k (by omega)]
  by_cases c2:m.all eOk=true
  ·
   rw [if_pos c2,if_pos (show (Pr p∧l.all (bOk p)=true)∧m.all eOk=true from ⟨c1,c2⟩)]
  ·
   rw [if_neg c2,if_neg (fun z=>c2 z.2)]
 ·
  rw [if_neg c1,if_neg (by omega),if_neg (fun z=>c1 z.1)]
theorem dif2 (a b c d:Int):dif [(⟨a,b⟩:S28),⟨c,d⟩]=!(decide (a=c∧b=d)):=by
 simp [dif,dk,difAt,am]
 by_cases h:a=c <;> by_cases h':b=d <;> simp [h,h']
theorem all2 (a b c d:Int):([(⟨a,b⟩:S28),⟨c,d⟩].all eOk=true)↔(isE a b∧isE c d):=by
 simp [eOk]
theorem contains_eq (l:List S28) (hl:l.length≤1000) (a b:Int):∀ k,l.length+1≤k→dI.f k l a b=some (!(l.all fun x=>!(x.f0 == a && x.f1 == b))):=by
 have go:∀ (d k i:Nat),i+d=l.length→d<k→∃ r,cJ.l0 k l l.length i a b=some r∧-1≤r∧(r≥0↔¬ ((l.drop i).all fun x=>!(x.f0 == a && x.f1 == b))=true):=by
  intro d
  induction d with
  | zero=>
   intro k i hi hk
   obtain ⟨k,rfl⟩:∃ m,k=m+1:=⟨k - 1,by omega⟩
   refine ⟨-1,?_,by omega,?_⟩
   ·
    simp only [cJ.l0]
    rw [if_neg (by omega)]
   ·
    rw [List.drop_eq_nil_of_le (by omega)];simp
  | succ d ih=>
   intro k i hi hk
   obtain ⟨k,rfl⟩:∃ m,k=m+1:=⟨k - 1,by omega⟩
   rw [fJ _ l i (by omega)]
   by_cases h:(a == (l[i]'(by omega)).f0 && (b == (l[i]'(by omega)).f1))=true
   ·
    refine ⟨i,?_,by omega,?_⟩
    ·
     simp only [cJ.l0]
     rw [if_pos (by omega),if_pos (by omega),if_pos (by omega),rdE l i (by omega),if_pos h]
    ·
     have h':((l[i]'(by omega)).f0 == a && ((l[i]'(by omega)).f1 == b))=true:=by
      simp only [Bool.and_eq_true,beq_iff_eq] at h ⊢;exact ⟨h.1.symm,h.2.symm⟩
     rw [h'];simp
   ·
    obtain ⟨r,h1,h2,h3⟩:=ih k (i+1) (by omega) (by omega)
    refine ⟨r,?_,h2,?_⟩
    ·
     simp only [cJ.l0]
     rw [if_pos (by omega),if_pos (by omega),if_pos (by omega),rdE l i (by omega),if_neg h,w64 (by omega) (by omega),show ((i:Int)+1)=((i+1:Nat):Int) from by omega]
     exact h1
    ·
     have h':((l[i]'(by omega)).f0 == a && ((l[i]'(by omega)).f1 == b))=false:=by
      rw [Bool.eq_false_iff];intro h2;apply h
      simp only [Bool.and_eq_true,beq_iff_eq] at h2 ⊢;exact ⟨h2.1.symm,h2.2.symm⟩
     rw [h',h3];simp
 intro k hk
 obtain ⟨r,h1,h2,h3⟩:=go l.length k 0 (by omega) (by omega)
 unfold dI.f cJ.f
 rw [show ((0:Nat):Int)=0 from rfl] at h1
 rw [h1]
 simp only [Option.bind_some]
 rw [List.drop_zero] at h3
 congr 1
 by_cases c:r≥0
 ·
  rw [decide_eq_true c,Bool.eq_false_iff.mpr (h3.1 c)];rfl
 ·
  rw [decide_eq_false c,Decidable.not_not.1 (fun h=>c (h3.2 h))];rfl
theorem eI (l:List S28) (hl:l.length≤1000):∃ K,∀ k,K≤k→bI.f k l=some (dif l):=by
 have go:∀ (d k i:Nat),i+d=l.length→l.length+2+d≤k→bI.l0 k l l l.length i=some (dk l d i):=by
  intro d
  induction d with
  | zero=>
   intro k i hi hk
   obtain ⟨k,rfl⟩:∃ m,k=m+1:=⟨k - 1,by omega⟩
   simp only [bI.l0]
   rw [if_neg (by omega)];rfl
  | succ d ih=>
   intro k i hi hk
   obtain ⟨k,rfl⟩:∃ m,k=m+1:=⟨k - 1,by omega⟩
   simp only [bI.l0]
   rw [if_pos (by omega),if_pos (by omega),if_pos (by omega),if_pos (by omega),show ((i:Int).toNat)=i from by omega,contains_eq _ (by simp;omega) _ _ k (by simp;omega),w64 (by omega) (by omega),show ((i:Int)+1)=((i+1:Nat):Int) from by omega,ih k (i+1) (by omega) (by omega)]
   simp only [Option.bind_some,dk]
   unfold difAt
   cases ((l.take i).all fun x=>!(x.f0 == (am l i).f0 && x.f1 == (am l i).f1)) <;> simp
 exact ⟨2*l.length+4,fun k hk=>by
  have:=go l.length k 0 (by omega) (by omega)
  simpa [bI.f,dif] using this⟩
theorem eM {a b:Int} (A B:Int) (h1 : -A≤a) (h2:a≤A) (h3 : -B≤b) (h4:b≤B) : -(A*B)≤a*b∧a*b≤A*B:=by
 have hA:0≤A:=by omega
 have hB:0≤B:=by omega
 have h:(a*b).natAbs≤A.natAbs*B.natAbs:=by
  rw [Int.natAbs_mul];exact Nat.mul_le_mul (by omega) (by omega)
 rw [← Int.natAbs_mul] at h
 have:0≤A*B:=Int.mul_nonneg hA hB
 omega
theorem mn_min (a b:Int):mn a b=min a b:=by unfold mn;split <;> omega
theorem mx_max (a b:Int):mx a b=max a b:=by unfold mx;split <;> omega
theorem okb {p lv top dn:Int} (h:PM.Ok p ⟨lv,top,dn⟩) : -6≤lv∧lv≤6∧0≤dn∧dn≤6∧0≤top:=by
 unfold PM.Ok at h;simp only at h;omega
theorem mark_bd12 {p lv top dn:Int} (hp:Pr p) (h:PM.Ok p ⟨lv,top,dn⟩):0≤PM.mark p ⟨lv,top,dn⟩∧PM.mark p ⟨lv,top,dn⟩≤13841287201:=by
 have hb:=okb h
 have:=PM.mark_bd hp h
 have:=eK p (lv+6) hp (by omega)
 simp only at *;omega
theorem mark_eq {p lv top dn:Int} (hp:Pr p) (h:PM.Ok p ⟨lv,top,dn⟩):∀ k,30≤k→cu.f k p lv top dn=some (PM.mark p ⟨lv,top,dn⟩):=by
 intro k hk
 have hb:=okb h
 have hm:=mark_bd12 hp h
 unfold cu.f
 rw [w64 (n:=6 - dn) (by omega) (by omega),eA p _ hp (by omega) k hk]
 simp only [Option.bind_some]
 unfold PM.mark at hm ⊢
 simp only at hm ⊢
 rw [w64 (by omega) (by omega)]
theorem lineCode_eq (p lv top dn n1 d1 n2 d2:Int):∃ K,∀ k,K≤k→bY.f k p lv top dn n1 d1 n2 d2=some (if (Pr p∧PM.Ok p ⟨lv,top,dn⟩)∧isE n1 d1∧isE n2 d2 then (if n1=n2∧d1=d2 then 5 else 0) else 1):=by
 obtain ⟨K,h⟩:=dh [⟨n1,d1⟩,⟨n2,d2⟩] (by simp)
 refine ⟨K+40,fun k hk=>?_⟩
 obtain ⟨k,rfl⟩:∃ m,k=m+1:=⟨k - 1,by omega⟩
 unfold bY.f
 rw [IsBall_eq p lv top dn _ (by omega),h _ (by omega)]
 simp only [Option.bind_some]
 by_cases c:Pr p∧PM.Ok p ⟨lv,top,dn⟩
 ·
  rw [decide_eq_true c,if_pos rfl]
  by_cases e:isE n1 d1∧isE n2 d2
  ·
   rw [(all2 _ _ _ _).2 e,if_pos (show (Pr p∧PM.Ok p ⟨lv,top,dn⟩)∧isE n1 d1∧isE n2 d2 from ⟨c,e⟩)]
   by_cases q:n1=n2∧d1=d2
   ·
    rw [if_pos q];simp [bY.j0,q]
   ·
    have q':¬ ((n1 == n2 && (d1 == d2))=true):=by simpa using q
    rw [if_neg q];simp [bY.j0,q']
  ·
   rw [Bool.eq_false_iff.mpr (fun z=>e ((all2 _ _ _ _).1 z)),if_neg (show ¬ ((Pr p∧PM.Ok p ⟨lv,top,dn⟩)∧isE n1 d1∧isE n2 d2) from fun z=>e z.2)]
   simp [bY.j0]
 ·
  rw [decide_eq_false c,if_neg (by simp),if_neg (show ¬ ((Pr p∧PM.Ok p ⟨lv,top,dn⟩)∧isE n1 d1∧isE n2 d2) from fun z=>c z.1)]
  simp [bY.j0]
theorem u64w (n:Int):IntKind.u64.wrap n=n % 18446744073709551616:=by rw [IntKind.wrap_u64]
theorem dz {n:Int} (h0:0≤n) (h1:n<18446744073709551616):IntKind.u64.wrap n=n:=by rw [u64w];omega
theorem and_low {a:Int} (h0:0≤a) (h1:a<18446744073709551616):Go.bits .and .u64 a 4294967295=a % 4294967296:=by
 obtain ⟨n,rfl⟩:=Int.eq_ofNat_of_zero_le h0
 rw [show (4294967295:Int)=((4294967295:Nat):Int) from rfl,Go.bits_and_u64_nat n 4294967295 (by omega) (by omega)]
 rw [show (4294967295:Nat)=2 ^ 32 - 1 from rfl,Nat.and_two_pow_sub_one_eq_mod]
 omega
theorem or_sum {a b:Int} (s:Nat) (h0:0≤a) (h1:0≤b) (h2:b<2 ^ s) (h3:a*2 ^ s<18446744073709551616) (hs:s≤63):Go.bits .or .u64 (a*2 ^ s) b=a*2 ^ s+b:=by
 obtain ⟨n,rfl⟩:=Int.eq_ofNat_of_zero_le h0
 obtain ⟨m,rfl⟩:=Int.eq_ofNat_of_zero_le h1
 have e2:m<2 ^ s:=by
  have:((2 ^ s:Nat):Int)=(2:Int) ^ s:=by simp
  omega
 have e3:(2:Nat) ^ s≤2 ^ 63:=Nat.pow_le_pow_right (by omega) hs
 have e4:((n*2 ^ s:Nat):Int)=(n:Int)*2 ^ s:=by simp
 rw [← e4] at h3 ⊢
 rw [Go.bits_or_u64_nat _ _ (by omega) (by omega),Nat.mul_comm,← Nat.two_pow_add_eq_or_of_lt e2]
 omega
theorem bitLen_bd:∀ (x:Nat),x≠0→x<2 ^ 64→1≤Lib.bitLen x∧2 ^ (Lib.bitLen x - 1)≤x∧x<2 ^ Lib.bitLen x:=by
 intro x
 induction x using Nat.strongRecOn with
 | _ x ih=>
  intro h0 h1
  rw [Lib.bitLen_half x h0 h1]
  by_cases h2:x / 2=0
  ·
   rw [h2,show Lib.bitLen 0=0 from rfl]
   have:x=1:=by omega
   subst this;exact ⟨by omega,by decide,by decide⟩
  ·
   obtain ⟨a,b,c⟩:=ih (x / 2) (by omega) h2 (by omega)
   obtain ⟨l,hl⟩:∃ l,Lib.bitLen (x / 2)=l+1:=⟨Lib.bitLen (x / 2) - 1,by omega⟩
   rw [hl] at b c ⊢
   rw [show 1+(l+1) - 1=(l+1 - 1)+1 by omega,show 1+(l+1)=(l+1)+1 by omega,Nat.pow_succ,Nat.pow_succ]
   omega
theorem div_l0 {yN s y1 y0 U u un0:Int} (D:Dg U u y1 y0):∀ (m:Nat) (q r:Int) (k:Nat),2*m+3≤k→4294967296≤r+m*2147483648→0≤r→r<4294967296→r=U - q*y1→dig U u y1 y0≤q→q≤4294967297→∃ k',k≤k'+(2*m+3)∧ah.l0 k yN s y1 y0 U u un0 q r=ah.j2 k' yN s y1 y0 U u un0 (dig U u y1 y0):=by
 intro m
 induction m with
 | zero=>intro q r k _ h _ h2;omega
 | succ m ih=>
  intro q r k hk hm h0 h1 hr hq hq2
  have hn:=D.nn
  have Da:=D.a;have Db:=D.b;have Dc:=D.c;have Dd:=D.d;have Dg:=D.g;have Dh:=D.h
  obtain ⟨k,rfl⟩:∃ j,k=j+2:=⟨k - 2,by omega⟩
  have e:ah.l0 (k+2) yN s y1 y0 U u un0 q r=ah.j1 (k+1) yN s y1 y0 U u un0 q r (decide (dig U u y1 y0<q)):=by
   rw [show k+2=(k+1)+1 from rfl,ah.l0]
   by_cases hB:q≥4294967296
   ·
    rw [if_pos hB,decide_eq_true (by have:=D.top;omega)]
   ·
    rw [if_neg hB]
    have hc:=D.cond hr
    have b1:q*y0≤4294967295*4294967295:=Int.mul_le_mul (by omega) (by omega) (by omega) (by omega)
    have b0:0≤q*y0:=Int.mul_nonneg (by omega) (by omega)
    rw [dz (n:=q*y0) b0 (by omega),dz (n:=4294967296*r) (by omega) (by omega),dz (n:=4294967296*r+u) (by omega) (by omega)]
    rw [decide_eq_decide.mpr hc.symm]
  rw [e,ah.j1]
  by_cases hc:dig U u y1 y0<q
  ·
   rw [decide_eq_true hc,if_pos rfl,dz (n:=r+y1) (by omega) (by omega),dz (n:=q - 1) (by omega) (by omega)]
   have hr':r+y1=U - (q - 1)*y1:=by rw [Int.sub_mul];omega
   by_cases hb:r+y1≥4294967296
   ·
    rw [if_pos hb]
    have:=D.brk hr' hb (by omega)
    exact ⟨k,by omega,by rw [show q - 1=dig U u y1 y0 by omega]⟩
   ·
    rw [if_neg hb]
    obtain ⟨k',a,b⟩:=ih (q - 1) (r+y1) k (by omega) (by omega) (by omega) (by omega) hr' (by omega) (by omega)
    exact ⟨k',by omega,b⟩
  ·
   rw [decide_eq_false hc,if_neg (by simp)]
   exact ⟨k,by omega,by rw [show q=dig U u y1 y0 by omega]⟩
theorem div_l1 {yN s y1 y0 R un0 q1:Int} (hs:0≤s) (D:Dg R un0 y1 y0):∀ (m:Nat) (q r:Int) (k:Nat),2*m+3≤k→4294967296≤r+m*2147483648→0≤r→r<4294967296→r=R - q*y1→dig R un0 y1 y0≤q→q≤4294967297→ah.l1 k yN s y1 y0 un0 q1 r R q=some (IntKind.u64.wrap ((IntKind.u64.wrap (q1*4294967296))+dig R un0 y1 y0),shr .u64 (IntKind.u64.wrap ((IntKind.u64.wrap ((IntKind.u64.wrap (R*4294967296))+un0)) - (IntKind.u64.wrap (dig R un0 y1 y0*yN)))) s):=by
 intro m
 induction m with
 | zero=>intro q r k _ h _ h2;omega
 | succ m ih=>
  intro q r k hk hm h0 h1 hr hq hq2
  have hn:=D.nn
  have Da:=D.a;have Db:=D.b;have Dc:=D.c;have Dd:=D.d;have Dg:=D.g;have Dh:=D.h
  obtain ⟨k,rfl⟩:∃ j,k=j+2:=⟨k - 2,by omega⟩
  have e:ah.l1 (k+2) yN s y1 y0 un0 q1 r R q=ah.j4 (k+1) yN s y1 y0 un0 q1 r R q (decide (dig R un0 y1 y0<q)):=by
   rw [show k+2=(k+1)+1 from rfl,ah.l1]
   by_cases hB:q≥4294967296
   ·
    rw [if_pos hB,decide_eq_true (by have:=D.top;omega)]
   ·
    rw [if_neg hB]
    have hc:=D.cond hr
    have b1:q*y0≤4294967295*4294967295:=Int.mul_le_mul (by omega) (by omega) (by omega) (by omega)
    have b0:0≤q*y0:=Int.mul_nonneg (by omega) (by omega)
    rw [dz (n:=q*y0) b0 (by omega),dz (n:=4294967296*r) (by omega) (by omega),dz (n:=4294967296*r+un0) (by omega) (by omega)]
    rw [decide_eq_decide.mpr hc.symm]
  rw [e,ah.j4]
  by_cases hc:dig R un0 y1 y0<q
  ·
   rw [decide_eq_true hc,if_pos rfl,dz (n:=r+y1) (by omega) (by omega),dz (n:=q - 1) (by omega) (by omega)]
   have hr':r+y1=R - (q - 1)*y1:=by rw [Int.sub_mul];omega
   by_cases hb:r+y1≥4294967296
   ·
    rw [if_pos hb,if_pos hs]
    have:=D.brk hr' hb (by omega)
    rw [show q - 1=dig R un0 y1 y0 by omega]
   ·
    rw [if_neg hb]
    exact ih (q - 1) (r+y1) k (by omega) (by omega) (by omega) (by omega) hr' (by omega) (by omega)
  ·
   rw [decide_eq_false hc,if_neg (by simp),if_pos hs,show q=dig R un0 y1 y0 by omega]
theorem wr_sub (a b:Int):IntKind.u64.wrap (IntKind.u64.wrap a - IntKind.u64.wrap b)=IntKind.u64.wrap (a - b):=by
 simp only [u64w];omega
theorem wr_add (a b:Int):IntKind.u64.wrap (IntKind.u64.wrap a+b)=IntKind.u64.wrap (a+b):=by
 simp only [u64w];omega
theorem div64_eq {hi lo y:Int} (h0:0≤hi) (h1:hi<y) (h2:y<18446744073709551616) (h3:0≤lo) (h4:lo<18446744073709551616):∀ k,40≤k→ah.f k hi lo y=some ((hi*18446744073709551616+lo) / y,(hi*18446744073709551616+lo) % y):=by
 intro k hk
 unfold ah.f
 rw [if_neg (by omega),if_neg (by omega)]
 by_cases hz:hi=0
 ·
  subst hz
  rw [if_pos rfl,Int.tdiv_eq_ediv_of_nonneg h3,Int.tmod_eq_emod_of_nonneg h3]
  have a1:=Int.ediv_nonneg h3 (show 0≤y by omega)
  have a2:=Int.ediv_le_self y h3
  rw [dz a1 (by omega),show (0:Int)*18446744073709551616+lo=lo by omega]
 ·
  rw [if_neg hz]
  have hb:=bitLen_bd y.toNat (by omega) (by omega)
  have hle:Lib.bitLen y.toNat≤64:=by
   rcases Nat.lt_or_ge 64 (Lib.bitLen y.toNat) with h|h
   ·
    have:=Nat.pow_le_pow_right (show 0<2 by omega) (show 64≤Lib.bitLen y.toNat - 1 by omega)
    omega
   ·
    exact h
  unfold bits_LeadingZeros64.f
  rw [if_pos (by omega)]
  simp only [Option.bind_some]
  obtain ⟨s,hs⟩:∃ s:Nat,s=64 - Lib.bitLen y.toNat:=⟨_,rfl⟩
  rw [show (64 - (Lib.bitLen y.toNat:Int))=(s:Int) by omega,dz (n:=(s:Int)) (by omega) (by omega),dz (n:=64 - (s:Int)) (by omega) (by omega),if_pos (by omega),if_pos (by omega)]
  have hs63:s≤63:=by omega
  obtain ⟨P,hP⟩:∃ P:Int,P=2 ^ s:=⟨_,rfl⟩
  obtain ⟨Q,hQ⟩:∃ Q:Int,Q=2 ^ (64 - s):=⟨_,rfl⟩
  have hPQ:P*Q=18446744073709551616:=by
   rw [hP,hQ,← Int.pow_add,show s+(64 - s)=64 by omega];decide
  have hP0:0<P:=by rw [hP];exact Int.pow_pos (by omega)
  have hQ0:0<Q:=by rw [hQ];exact Int.pow_pos (by omega)
  have hyP:9223372036854775808≤y*P∧y*P<18446744073709551616:=by
   have e1:y=((y.toNat:Nat):Int):=by omega
   have e2:y*P=((y.toNat*2 ^ s:Nat):Int):=by
    rw [hP]
    conv=>lhs;rw [e1]
    simp
   have e3:2 ^ (Lib.bitLen y.toNat - 1)*2 ^ s≤y.toNat*2 ^ s:=Nat.mul_le_mul_right _ hb.2.1
   have e4:y.toNat*2 ^ s<2 ^ (Lib.bitLen y.toNat)*2 ^ s:=Nat.mul_lt_mul_of_pos_right hb.2.2 (Nat.pow_pos (by omega))
   rw [← Nat.pow_add,show Lib.bitLen y.toNat - 1+s=63 by omega] at e3
   rw [← Nat.pow_add,show Lib.bitLen y.toNat+s=64 by omega] at e4
   rw [e2];omega
  have sh:∀ x:Int,shl .u64 x (s:Int)=(x*P) % 18446744073709551616:=by
   intro x;unfold shl
   rw [show IntKind.u64.bits=64 from rfl,Int.toNat_natCast,Nat.min_eq_left (by omega),u64w,hP]
  have sr:∀ x:Int,shr .u64 x (64 - (s:Int))=x / Q:=by
   intro x;unfold shr
   rw [show IntKind.u64.bits=64 from rfl,show (64 - (s:Int)).toNat=64 - s by omega,Nat.min_eq_left (by omega),hQ]
  have sr2:∀ x:Int,shr .u64 x (s:Int)=x / P:=by
   intro x;unfold shr
   rw [show IntKind.u64.bits=64 from rfl,Int.toNat_natCast,Nat.min_eq_left (by omega),hP]
  have hhi:hi*P<y*P:=Int.mul_lt_mul_of_pos_right h1 hP0
  have hhi0:0≤hi*P:=Int.mul_nonneg h0 (by omega)
  have hhi1:hi*P≤y*P - P:=by
   have:=Int.mul_le_mul_of_nonneg_right (show hi≤y - 1 by omega) (Int.le_of_lt hP0)
   rw [Int.sub_mul] at this;omega
  have hlQ0:0≤lo / Q:=Int.ediv_nonneg h3 (by omega)
  have hlQ:lo / Q<P:=by rw [Int.ediv_lt_iff_lt_mul hQ0];omega
  rw [sh,sh,sh,sr,Int.emod_eq_of_lt (a:=y*P) (by omega) hyP.2,Int.emod_eq_of_lt (a:=hi*P) hhi0 (by omega)]
  have hor:Go.bits .or .u64 (hi*P) (lo / Q)=hi*P+lo / Q:=by
   rw [hP] at hlQ hhi hyP ⊢
   exact or_sum s h0 hlQ0 hlQ (by omega) hs63
  rw [hor,and_low (a:=y*P) (by omega) hyP.2,and_low (Int.emod_nonneg _ (by omega)) (Int.emod_lt_of_pos _ (by omega))]
  obtain ⟨L,hL⟩:∃ L,L=(lo*P) % 18446744073709551616:=⟨_,rfl⟩
  obtain ⟨U,hU⟩:∃ U,U=hi*P+lo / Q:=⟨_,rfl⟩
  have hL0:0≤L:=by rw [hL];exact Int.emod_nonneg _ (by omega)
  have hL1:L<18446744073709551616:=by rw [hL];exact Int.emod_lt_of_pos _ (by omega)
  rw [← hL,← hU]
  obtain ⟨yN,hyN⟩:∃ yN,yN=y*P:=⟨_,rfl⟩
  rw [← hyN] at hyP hhi hhi1 ⊢
  obtain ⟨y1,hy1⟩:∃ y1,y1=yN / 4294967296:=⟨_,rfl⟩
  obtain ⟨y0,hy0⟩:∃ y0,y0=yN % 4294967296:=⟨_,rfl⟩
  obtain ⟨u1,hu1⟩:∃ u1,u1=L / 4294967296:=⟨_,rfl⟩
  obtain ⟨u0,hu0⟩:∃ u0,u0=L % 4294967296:=⟨_,rfl⟩
  rw [← hy1,← hy0,← hu1,← hu0]
  have hyy:y1*4294967296+y0=yN:=by omega
  have D1:Dg U u1 y1 y0:=⟨by omega,by omega,by omega,by omega,by omega,by omega,by omega,by omega⟩
  have hy1p:0<y1:=by omega
  have hU0:0≤U:=by omega
  obtain ⟨st1,st2⟩:=D1.start
  have em1:=Int.mul_ediv_add_emod U y1
  have em2:=Int.emod_nonneg U (b:=y1) (by omega)
  have em3:=Int.emod_lt_of_pos U hy1p
  have hq0:=Int.ediv_nonneg hU0 (Int.le_of_lt hy1p)
  rw [Int.tdiv_eq_ediv_of_nonneg hU0,dz (n:=U / y1) hq0 (by omega)]
  have hqy:U / y1*y1=U - U % y1:=by rw [Int.mul_comm];omega
  have hqn:=Int.mul_nonneg hq0 (Int.le_of_lt hy1p)
  rw [dz (n:=U / y1*y1) (by omega) (by omega),dz (n:=U - U / y1*y1) (by omega) (by omega),if_neg (by omega)]
  obtain ⟨k',hk',e⟩:=div_l0 (yN:=yN) (s:=(s:Int)) (un0:=u0) D1 2 (U / y1) (U - U / y1*y1) k (by omega) (by omega) (by omega) (by omega) rfl st1 st2
  rw [e]
  obtain ⟨k',rfl⟩:∃ j,k'=j+1:=⟨k' - 1,by omega⟩
  rw [ah.j2,if_neg (by omega)]
  have hT:=D1.nn
  have hTt:=D1.top
  have hrem:=D1.rem
  rw [hyy] at hrem
  obtain ⟨R,hR⟩:∃ R,R=U*4294967296+u1 - dig U u1 y1 y0*yN:=⟨_,rfl⟩
  have hW:IntKind.u64.wrap ((IntKind.u64.wrap ((IntKind.u64.wrap (U*4294967296))+u1)) - (IntKind.u64.wrap (dig U u1 y1 y0*yN)))=R:=by
   rw [wr_add,wr_sub,← hR,dz (by omega) (by omega)]
  rw [hW]
  rw [← hR] at hrem
  have D2:Dg R u0 y1 y0:=⟨by omega,by omega,by omega,by omega,by omega,by omega,by omega,by omega⟩
  obtain ⟨st3,st4⟩:=D2.start
  have en1:=Int.mul_ediv_add_emod R y1
  have en2:=Int.emod_nonneg R (b:=y1) (by omega)
  have en3:=Int.emod_lt_of_pos R hy1p
  have hq3:=Int.ediv_nonneg hrem.1 (Int.le_of_lt hy1p)
  rw [Int.tdiv_eq_ediv_of_nonneg hrem.1,dz (n:=R / y1) hq3 (by omega)]
  have hqz:R / y1*y1=R - R % y1:=by rw [Int.mul_comm];omega
  have hqm:=Int.mul_nonneg hq3 (Int.le_of_lt hy1p)
  rw [dz (n:=R / y1*y1) (by omega) (by omega),dz (n:=R - R / y1*y1) (by omega) (by omega)]
  rw [div_l1 (by omega) D2 2 (R / y1) (R - R / y1*y1) k' (by omega) (by omega) (by omega) (by omega) rfl st3 st4]
  have hT2:=D2.nn
  have hTt2:=D2.top
  have hrem2:=D2.rem
  rw [hyy] at hrem2
  obtain ⟨R2,hR2⟩:∃ R2,R2=R*4294967296+u0 - dig R u0 y1 y0*yN:=⟨_,rfl⟩
  have hW2:IntKind.u64.wrap ((IntKind.u64.wrap ((IntKind.u64.wrap (R*4294967296))+u0)) - (IntKind.u64.wrap (dig R u0 y1 y0*yN)))=R2:=by
   rw [wr_add,wr_sub,← hR2,dz (by omega) (by omega)]
  rw [hW2,sr2]
  rw [← hR2] at hrem2
  have h2d:=two_digits hR hR2
  rw [show u1*4294967296+u0=L by omega,hyN] at h2d
  rw [hyN] at hrem2
  obtain ⟨f1,f2⟩:=normal hP0 hQ0 hPQ hU hL h2d hrem2.1 hrem2.2
  rw [dz (n:=dig U u1 y1 y0*4294967296) (by omega) (by omega),dz (by omega) (by omega),f1,f2]
theorem power_eq2 (p n:Int) (hp:Pr p) (h:n≤62) (h1:pw p n≤4611686018427387904) (h0 : -9223372036854775808≤n):∀ k,70≤k→ar.f k p n=some (pw p n):=by
 have hp2:=hp.pos
 have hle:∀ j:Int,j≤n→1≤pw p j∧pw p j≤4611686018427387904:=fun j hj=>by
  have:=fb hp hj;have:=cE hp j;omega
 have go:∀ (d k:Nat) (out j:Int),n=j+d→0≤j→d<k→out=pw p j→ar.l0 k p out n j=some (pw p n):=by
  intro d
  induction d with
  | zero=>
   intro k out j hn hj hk ho
   obtain ⟨k,rfl⟩:∃ m,k=m+1:=⟨k - 1,by omega⟩
   simp only [ar.l0]
   rw [if_neg (by omega),ho]
   congr 2;omega
  | succ d ih=>
   intro k out j hn hj hk ho
   obtain ⟨k,rfl⟩:∃ m,k=m+1:=⟨k - 1,by omega⟩
   simp only [ar.l0]
   have hb:=hle (j+1) (by omega)
   have hs1:=pw_succ p j hj
   rw [if_pos (by omega),w64 (n:=j+1) (by omega) (by omega),ho,← hs1,w64 (by omega) (by omega),ih k _ (j+1) (by omega) (by omega) (by omega) rfl]
 intro k hk
 unfold ar.f
 by_cases h1:n≤0
 ·
  obtain ⟨k,rfl⟩:∃ m,k=m+1:=⟨k - 1,by omega⟩
  simp only [ar.l0]
  rw [if_neg (by omega)]
  simp [pw,show n.toNat=0 by omega]
 ·
  rw [go n.toNat k 1 0 (by omega) (by omega) (by omega) (by simp [pw])]
theorem fd (p n:Int) (hp:Pr p) (h:n≤62) (h1:pw p n≤4611686018427387904) (h0 : -9223372036854775808≤n):∀ k,70≤k→aa.f k p n=some (pw p n):=by
 have hp2:=hp.pos
 have hle:∀ j:Int,j≤n→1≤pw p j∧pw p j≤4611686018427387904:=fun j hj=>by
  have:=fb hp hj;have:=cE hp j;omega
 have go:∀ (d k:Nat) (m out j:Int),m=d→n=j+d→0≤j→d<k→out=pw p j→aa.l0 k p m out=some (pw p n):=by
  intro d
  induction d with
  | zero=>
   intro k m out j hm hn hj hk ho
   obtain ⟨k,rfl⟩:∃ m,k=m+1:=⟨k - 1,by omega⟩
   simp only [aa.l0]
   rw [if_neg (by omega),ho]
   congr 2;omega
  | succ d ih=>
   intro k m out j hm hn hj hk ho
   obtain ⟨k,rfl⟩:∃ m,k=m+1:=⟨k - 1,by omega⟩
   simp only [aa.l0]
   have hb:=hle (j+1) (by omega)
   have hs1:=pw_succ p j hj
   rw [if_pos (by omega),w64 (n:=m - 1) (by omega) (by omega),ho,← hs1,w64 (by omega) (by omega),ih k (m - 1) _ (j+1) (by omega) (by omega) (by omega) (by omega) rfl]
 intro k hk
 unfold aa.f
 by_cases h1:n≤0
 ·
  obtain ⟨k,rfl⟩:∃ m,k=m+1:=⟨k - 1,by omega⟩
  simp only [aa.l0]
  rw [if_neg (by omega)]
  simp [pw,show n.toNat=0 by omega]
 ·
  rw [go n.toNat k n 1 0 (by omega) (by omega) (by omega) (by omega) (by simp [pw])]
theorem fD (a m:Int) (hm:0<m):(a.tmod m+m).tmod m=a % m∧-m<a.tmod m∧a.tmod m<m:=by
 have h1:=Int.tmod_lt_of_pos a hm
 have h2:=Int.lt_tmod_of_pos a hm
 have h3:=Int.mul_tdiv_add_tmod a m
 refine ⟨?_,h2,h1⟩
 rw [Int.tmod_eq_emod_of_nonneg (by omega)]
 rw [show a.tmod m+m=a+m*(1 - a.tdiv m) by rw [Int.mul_sub];omega,Int.add_mul_emod_self_left]
theorem em_mul (a b m:Int):(a % m*b) % m=a*b % m:=by rw [Int.mul_emod,Int.emod_emod,← Int.mul_emod]
theorem emb (a m:Int) (hm:0<m):0≤a % m∧a % m<m:=⟨Int.emod_nonneg _ (by omega),Int.emod_lt_of_pos _ hm⟩
theorem mod_eq (a m:Int) (hm:0<m) (h2:m≤4611686018427387904):cz.f a m=some (a % m):=by
 obtain ⟨e,h3,h4⟩:=fD a m hm
 unfold cz.f
 rw [if_neg (by omega),w64 (by omega) (by omega),e]
theorem times_eq (a b m:Int) (hm:0<m) (h2:m≤4611686018427387904):∀ k,40≤k→cy.f k a b m=some (a*b % m):=by
 intro k hk
 obtain ⟨ha0,ha1⟩:=emb a m hm
 obtain ⟨hb0,hb1⟩:=emb b m hm
 unfold cy.f
 rw [mod_eq a m hm h2,mod_eq b m hm h2]
 simp only [Option.bind_some]
 rw [dz ha0 (by omega),dz hb0 (by omega),dz (n:=m) (by omega) (by omega)]
 unfold bits_Mul64.f
 rw [if_pos (by omega)]
 simp only [Option.bind_some]
 obtain ⟨P,hP⟩:∃ P,P=a % m*(b % m):=⟨_,rfl⟩
 have hP0:0≤P:=by rw [hP];exact Int.mul_nonneg ha0 hb0
 rw [← hP]
 have hq:0≤P / 18446744073709551616:=Int.ediv_nonneg hP0 (by omega)
 rw [if_neg (by omega),Int.tmod_eq_emod_of_nonneg hq]
 obtain ⟨c0,c1⟩:=emb (P / 18446744073709551616) m hm
 obtain ⟨d0,d1⟩:=emb P 18446744073709551616 (by omega)
 rw [div64_eq c0 c1 (by omega) d0 d1 k hk]
 simp only [Option.bind_some]
 have e:(P / 18446744073709551616 % m*18446744073709551616+P % 18446744073709551616) % m=a*b % m:=by
  rw [Int.add_emod,em_mul,← Int.add_emod,show P / 18446744073709551616*18446744073709551616+P % 18446744073709551616=P by omega,hP,← Int.mul_emod]
 rw [e]
 obtain ⟨f0,f1⟩:=emb (a*b) m hm
 rw [w64 (by omega) (by omega)]
theorem fe (a b m:Int) (hm:0<m) (h2:m≤13841287201):cC.f a b m=some (a*b % m):=by
 obtain ⟨e1,h3,h4⟩:=fD a m hm
 obtain ⟨e2,h5,h6⟩:=fD b m hm
 obtain ⟨ha0,ha1⟩:=emb a m hm
 obtain ⟨hb0,hb1⟩:=emb b m hm
 unfold cC.f
 rw [if_neg (by omega),w64 (n:=a.tmod m+m) (by omega) (by omega),w64 (n:=b.tmod m+m) (by omega) (by omega),e1,e2]
 have em:a*b % m=(a % m)*(b % m) % m:=Int.mul_emod a b m
 rw [em]
 generalize a % m=x at *
 generalize b % m=y at *
 rw [Int.tdiv_eq_ediv_of_nonneg hb0,Int.tmod_eq_emod_of_nonneg hb0]
 have m1:=eM (a:=x) (b:=y / 1000000) 13841287201 13842 (by omega) (by omega) (by omega) (by omega)
 have m2:=eM (a:=x) (b:=y % 1000000) 13841287201 1000000 (by omega) (by omega) (by omega) (by omega)
 have n1:0≤x*(y / 1000000):=Int.mul_nonneg ha0 (by omega)
 have n2:0≤x*(y % 1000000):=Int.mul_nonneg ha0 (by omega)
 rw [w64 (n:=y / 1000000) (by omega) (by omega),w64 (n:=x*(y / 1000000)) (by omega) (by omega),Int.tmod_eq_emod_of_nonneg n1,w64 (n:=x*(y % 1000000)) (by omega) (by omega),Int.tmod_eq_emod_of_nonneg n2]
 obtain ⟨c0,c1⟩:=emb (x*(y / 1000000)) m hm
 obtain ⟨d0,d1⟩:=emb (x*(y % 1000000)) m hm
 rw [w64 (n:=x*(y / 1000000) % m*1000000) (by omega) (by omega),Int.tmod_eq_emod_of_nonneg (a:=x*(y / 1000000) % m*1000000) (by omega)]
 obtain ⟨f0,f1⟩:=emb (x*(y / 1000000) % m*1000000) m hm
 rw [w64 (by omega) (by omega),Int.tmod_eq_emod_of_nonneg (a:=x*(y / 1000000) % m*1000000 % m+x*(y % 1000000) % m) (by omega)]
 rw [em_mul,← Int.add_emod]
 congr 2
 have:y=y / 1000000*1000000+y % 1000000:=by omega
 conv=>rhs;rw [this]
 rw [Int.mul_add,Int.mul_assoc]
theorem inverse_eq (n m:Int) (hm:0<m) (h2:m≤1099511627776):∀ k,m.toNat+4≤k→bw.f k n m=some (inv n m):=by
 have go:∀ (j:Nat) (n a b x y:Int) (k:Nat),Inv n m a b x y→b<j→a≤m→b≤m→x.natAbs≤m→y.natAbs≤m→j<k→bw.l0 k m a b x y=some (invF j a b x y % m):=by
  intro j
  induction j with
  | zero=>intro n a b x y k h hb;have:=h.b0;omega
  | succ j ih=>
   intro n a b x y k h hb ham hbm hx hy hk
   obtain ⟨k,rfl⟩:∃ i,k=i+1:=⟨k - 1,by omega⟩
   have a0:=h.a0;have b0:=h.b0
   simp only [bw.l0,invF]
   by_cases z:b=0
   ·
    rw [if_pos z,if_pos z]
    rw [mod_eq x m hm (by omega)];rfl
   ·
    rw [if_neg z,if_neg z]
    have hb1:0<b:=by omega
    obtain ⟨i1,i2,i3,i4⟩:=h.bd
    obtain ⟨i5,i6⟩:=i4 hb1
    have hs:=h.step z
    obtain ⟨j1,j2,j3,j4⟩:=hs.bd
    have hy':=j2 hb1
    have hq:0≤a / b:=Int.ediv_nonneg a0 b0
    have hq2:=Int.ediv_le_self b a0
    have hr:a - a / b*b=a % b:=by rw [Int.emod_def,Int.mul_comm b]
    obtain ⟨r0,r1⟩:=emb a b hb1
    have hay:(a / b*y).natAbs≤m:=by
     rw [Int.natAbs_mul]
     have:((a / b).natAbs*y.natAbs:Nat)=a / b*(y.natAbs:Int):=by
      rw [Int.natCast_mul,Int.natAbs_of_nonneg hq]
     omega
    rw [Int.tdiv_eq_ediv_of_nonneg a0,w64 (n:=a / b) (by omega) (by omega),w64 (n:=a / b*b) (by omega) (by omega),w64 (n:=a - a / b*b) (by omega) (by omega),w64 (n:=a / b*y) (by omega) (by omega),w64 (n:=x - a / b*y) (by omega) (by omega)]
    exact ih n b (a - a / b*b) y (x - a / b*y) k hs (by omega) hbm (by omega) hy (by omega) (by omega)
 intro k hk
 obtain ⟨h0,h1⟩:=emb n m hm
 unfold bw.f inv
 rw [mod_eq n m hm (by omega)]
 simp only [Option.bind_some]
 exact go (m.toNat+2) (n % m) (n % m) m 1 0 k (Inv.start h0 (by omega)) (by omega) (by omega) (by omega) (by omega) (by omega) (by omega)
theorem l01InvMod_eq (n m:Int) (hm:0<m) (h2:m≤1099511627776):∀ k,m.toNat+4≤k→bc.f k n m=some (inv n m):=by
 have go:∀ (j:Nat) (n a b x y:Int) (k:Nat),Inv n m a b x y→b<j→a≤m→b≤m→x.natAbs≤m→y.natAbs≤m→j<k→bc.l0 k m a b x y=some (invF j a b x y % m):=by
  intro j
  induction j with
  | zero=>intro n a b x y k h hb;have:=h.b0;omega
  | succ j ih=>
   intro n a b x y k h hb ham hbm hx hy hk
   obtain ⟨k,rfl⟩:∃ i,k=i+1:=⟨k - 1,by omega⟩
   have a0:=h.a0;have b0:=h.b0
   simp only [bc.l0,invF]
   by_cases z:b=0
   ·
    rw [if_pos z,if_pos z]
    obtain ⟨e,h3,h4⟩:=fD x m hm
    rw [if_neg (by omega),w64 (by omega) (by omega),e]
   ·
    rw [if_neg z,if_neg z]
    have hb1:0<b:=by omega
    obtain ⟨i1,i2,i3,i4⟩:=h.bd
    obtain ⟨i5,i6⟩:=i4 hb1
    have hs:=h.step z
    obtain ⟨j1,j2,j3,j4⟩:=hs.bd
    have hy':=j2 hb1
    have hq:0≤a / b:=Int.ediv_nonneg a0 b0
    have hq2:=Int.ediv_le_self b a0
    have hr:a - a / b*b=a % b:=by rw [Int.emod_def,Int.mul_comm b]
    obtain ⟨r0,r1⟩:=emb a b hb1
    have hay:(a / b*y).natAbs≤m:=by
     rw [Int.natAbs_mul]
     have:((a / b).natAbs*y.natAbs:Nat)=a / b*(y.natAbs:Int):=by
      rw [Int.natCast_mul,Int.natAbs_of_nonneg hq]
     omega
    rw [Int.tdiv_eq_ediv_of_nonneg a0,w64 (n:=a / b) (by omega) (by omega),w64 (n:=a / b*b) (by omega) (by omega),w64 (n:=a - a / b*b) (by omega) (by omega),w64 (n:=a / b*y) (by omega) (by omega),w64 (n:=x - a / b*y) (by omega) (by omega)]
    exact ih n b (a - a / b*b) y (x - a / b*y) k hs (by omega) hbm (by omega) hy (by omega) (by omega)
 intro k hk
 obtain ⟨h0,h1⟩:=emb n m hm
 unfold bc.f inv
 obtain ⟨e,h3,h4⟩:=fD n m hm
 rw [if_neg (by omega),w64 (by omega) (by omega),e]
 exact go (m.toNat+2) (n % m) (n % m) m 1 0 k (Inv.start h0 (by omega)) (by omega) (by omega) (by omega) (by omega) (by omega) (by omega)
theorem vl20 {p n:Int} (hp:Pr p) (h:n≠0) (hb:n.natAbs≤1000000):vl p n≤19:=by
 have:=vl_le hp h (k:=20) (by
  have:(2:Nat) ^ 20=1048576:=by decide
  omega)
 omega
theorem pwvl {p n:Int} (hp:Pr p) (h:n≠0):0<pw p (vl p n)∧pw p (vl p n)≤(n.natAbs:Int):=by
 refine ⟨cE hp _,?_⟩
 have:=Int.le_of_dvd (by omega) (Int.dvd_natAbs.mpr (dq hp h))
 exact this
theorem un_div {p n:Int} (hp:Pr p) (h:n≠0):n.tdiv (pw p (vl p n))=un p n:=by
 unfold un;rw [b8 h,Int.tdiv_eq_ediv_of_dvd (dq hp h)]
theorem un_bd {p n:Int} (hp:Pr p) (h:n≠0):(un p n).natAbs≤n.natAbs:=by
 obtain ⟨e,_⟩:=dx hp h
 have h1:=pwvl hp h
 have:n.natAbs=(pw p (vl p n)).natAbs*(un p n).natAbs:=by rw [← Int.natAbs_mul,← e]
 rw [this]
 exact Nat.le_mul_of_pos_left _ (by omega)
theorem unit_eq (p n:Int) (hp:Pr p) (h:n≠0) (hb:n.natAbs≤4611686018427387904):∀ k,70≤k→dN.f k p n=some (un p n):=by
 intro k hk
 have h1:=pwvl hp h
 have h2:=ci hp h (by omega)
 have h3:=vl_le hp h (k:=63) (by
  have:(2:Nat) ^ 63=9223372036854775808:=by decide
  omega)
 have h4:=un_bd hp h
 unfold dN.f
 rw [bs p n hp (by omega) k hk,b8 h]
 simp only [Option.bind_some]
 rw [power_eq2 p _ hp (by omega) (by omega) (by omega) k hk]
 simp only [Option.bind_some]
 rw [if_neg (by omega),un_div hp h,w64 (by omega) (by omega)]
def brV (p lv x n d:Int):Int:=if d=0∨PM.turn p lv x n d<lv then 0 else 1+(PM.dv p x n d / pw p (lv+6+vl p d))*inv (un p d) p % p
theorem turn_held {p lv x n d:Int} (hd:d≠0):¬ PM.turn p lv x n d<lv↔(PM.dv p x n d=0∨lv+6+(vl p d:Int)≤vl p (PM.dv p x n d)):=by
 unfold PM.turn
 by_cases z:PM.dv p x n d=0
 ·
  rw [if_pos z];omega
 ·
  rw [if_neg z];omega
theorem dv_bd {p x n d:Int} (hp:Pr p) (hx:0≤x∧x≤13841287201) (he:isE n d):(PM.dv p x n d).natAbs≤15000000000000000:=by
 have hE:=cp he
 have h6:=pw_bd6 p 6 hp (by omega)
 have m1:=eM (a:=n) (b:=pw p 6) 1000000 117649 (by omega) (by omega) (by omega) (by omega)
 have m2:=eM (a:=x) (b:=d) 13841287201 1000000 (by omega) (by omega) (by omega) (by omega)
 unfold PM.dv;omega
theorem pwq {p lv d:Int} (hp:Pr p) (hd:d≠0) (hb:d.natAbs≤1000000) (hl : -6≤lv∧lv≤6):1≤pw p (lv+6+vl p d)∧pw p (lv+6+vl p d)≤13841287201*1000000:=by
 have h1:=pwvl hp hd
 have h2:=eK p (lv+6) hp (by omega)
 rw [dV (by omega) (by omega)]
 have h3:=eM (a:=pw p (lv+6)) (b:=pw p (vl p d)) 13841287201 1000000 (by omega) (by omega) (by omega) (by omega)
 have h4:=Int.mul_pos (show 0<pw p (lv+6) by omega) h1.1
 omega
theorem held_dvd {p lv x n d:Int} (hp:Pr p) (hd:d≠0) (hl : -6≤lv) (h:¬ PM.turn p lv x n d<lv):pw p (lv+6+vl p d) ∣ PM.dv p x n d:=by
 rcases (turn_held hd).mp h with z|z
 ·
  rw [z];exact Int.dvd_zero _
 ·
  by_cases z0:PM.dv p x n d=0
  ·
   rw [z0];exact Int.dvd_zero _
  ·
   exact (cg hp z0 (by omega)).mp z
theorem nearness_eq {p lv top dn n d:Int} (hp:Pr p) (h:PM.Ok p ⟨lv,top,dn⟩) (he:isE n d) (hd:d≠0):∀ k,70≤k→bl.f k p lv top dn n d=some (if PM.dv p (PM.mark p ⟨lv,top,dn⟩) n d=0 then 1000 else (vl p (PM.dv p (PM.mark p ⟨lv,top,dn⟩) n d):Int) - vl p d - 6):=by
 intro k hk
 have hb:=okb h
 have hm:=mark_bd12 hp h
 have hE:=cp he
 have h6:=pw_bd6 p 6 hp (by omega)
 unfold bl.f
 rw [eA p 6 hp (by omega) k (by omega),mark_eq hp h k (by omega)]
 simp only [Option.bind_some]
 generalize PM.mark p ⟨lv,top,dn⟩=x at hm ⊢
 have m1:=eM (a:=n) (b:=pw p 6) 1000000 117649 (by omega) (by omega) (by omega) (by omega)
 have m2:=eM (a:=x) (b:=d) 13841287201 1000000 (by omega) (by omega) (by omega) (by omega)
 rw [w64 (n:=n*pw p 6) (by omega) (by omega),w64 (n:=x*d) (by omega) (by omega),w64 (n:=n*pw p 6 - x*d) (by omega) (by omega)]
 have hd6:=ci hp hd (by omega)
 unfold PM.dv
 by_cases z:n*pw p 6 - x*d=0
 ·
  rw [if_pos z,if_pos z]
 ·
  have hv:=ci hp z (by omega)
  rw [if_neg z,if_neg z,bs p _ hp (by omega) k hk,bs p _ hp (by omega) k hk,b8 z,b8 hd]
  simp only [Option.bind_some]
  rw [w64 (n:=(vl p (n*pw p 6 - x*d):Int) - vl p d) (by omega) (by omega),w64 (by omega) (by omega)]
theorem held_eq {p lv top dn n d:Int} (hp:Pr p) (h:PM.Ok p ⟨lv,top,dn⟩) (he:isE n d):∀ k,70≤k→cT.f k p lv top dn n d=some (decide (¬ (d=0∨PM.turn p lv (PM.mark p ⟨lv,top,dn⟩) n d<lv))):=by
 intro k hk
 have hb:=okb h
 unfold cT.f
 by_cases z:d=0
 ·
  rw [if_pos z,decide_eq_false (by simp [z])]
 ·
  rw [if_neg z,nearness_eq hp h he z k hk]
  simp only [Option.bind_some]
  congr 1
  rw [decide_eq_decide]
  have:=turn_held (p:=p) (lv:=lv) (x:=PM.mark p ⟨lv,top,dn⟩) (n:=n) z
  by_cases z0:PM.dv p (PM.mark p ⟨lv,top,dn⟩) n d=0
  ·
   rw [if_pos z0];omega
  ·
   rw [if_neg z0];omega
theorem branch_eq {p lv top dn n d:Int} (hp:Pr p) (h:PM.Ok p ⟨lv,top,dn⟩) (he:isE n d):∀ k,80≤k→bR.f k p lv top dn n d=some (brV p lv (PM.mark p ⟨lv,top,dn⟩) n d):=by
 intro k hk
 have hb:=okb h
 have hm:=mark_bd12 hp h
 have hE:=cp he
 have h6:=pw_bd6 p 6 hp (by omega)
 have hpl:=hp.le
 have hpp:=hp.pos
 unfold bR.f brV
 rw [held_eq hp h he k (by omega)]
 simp only [Option.bind_some]
 by_cases c:d=0∨PM.turn p lv (PM.mark p ⟨lv,top,dn⟩) n d<lv
 ·
  rw [if_pos c,decide_eq_false (fun z=>z c),if_neg (by simp)]
 ·
  have hd:d≠0:=fun z=>c (Or.inl z)
  have ht:¬ PM.turn p lv (PM.mark p ⟨lv,top,dn⟩) n d<lv:=fun z=>c (Or.inr z)
  rw [if_neg c,decide_eq_true c,if_pos rfl,eA p 6 hp (by omega) k (by omega),mark_eq hp h k (by omega),bs p d hp (by omega) k (by omega),b8 hd]
  simp only [Option.bind_some]
  have hdv:=held_dvd hp hd (by omega) ht
  have hD:=dv_bd hp hm he
  have hv:=vl20 hp hd (by omega)
  have hq:=pwq hp hd (by omega) (show -6≤lv∧lv≤6 by omega)
  generalize PM.mark p ⟨lv,top,dn⟩=x at *
  have m1:=eM (a:=n) (b:=pw p 6) 1000000 117649 (by omega) (by omega) (by omega) (by omega)
  have m2:=eM (a:=x) (b:=d) 13841287201 1000000 (by omega) (by omega) (by omega) (by omega)
  rw [w64 (n:=lv+6) (by omega) (by omega),w64 (n:=lv+6+(vl p d:Int)) (by omega) (by omega),power_eq2 p _ hp (by omega) (by omega) (by omega) k (by omega)]
  simp only [Option.bind_some]
  rw [if_neg (by omega),unit_eq p d hp hd (by omega) k (by omega)]
  simp only [Option.bind_some]
  rw [inverse_eq _ p (by omega) (by omega) k (by omega)]
  simp only [Option.bind_some]
  rw [w64 (n:=n*pw p 6) (by omega) (by omega),w64 (n:=x*d) (by omega) (by omega),w64 (n:=n*pw p 6 - x*d) (by omega) (by omega)]
  rw [show n*pw p 6 - x*d=PM.dv p x n d from rfl,Int.tdiv_eq_ediv_of_dvd hdv]
  have hab:(PM.dv p x n d / pw p (lv+6+vl p d)).natAbs≤(PM.dv p x n d).natAbs:=Int.natAbs_ediv_le_natAbs _ _
  rw [w64 (n:=PM.dv p x n d / pw p (lv+6+vl p d)) (by omega) (by omega),times_eq _ _ p (by omega) (by omega) k (by omega)]
  simp only [Option.bind_some]
  obtain ⟨r0,r1⟩:=emb (PM.dv p x n d / pw p (lv+6+vl p d)*inv (un p d) p) p (by omega)
  rw [w64 (by omega) (by omega)]
def enc:Option PM.Ball→Int × Int × Int × Bool
 | none=>(0,0,0,false)
 | some b=>(b.lv,b.top,b.dn,true)
def fI (c:Int):Option PM.Ball→Int × Int × Int × Int
 | none=>(0,0,0,c)
 | some b=>(b.lv,b.top,b.dn,0)
theorem isLevel_eq' (n:Int):bW.f n=some (decide (PM.inLv n)):=by
 unfold bW.f PM.inLv
 congr 1
 by_cases h1:n≥-6 <;> by_cases h2:n≤6 <;> simp [h1,h2] <;> omega
theorem ofMark_eq {p lv x:Int} (hp:Pr p):∀ k,70≤k→dX.f k p lv x=some (enc (if PM.inLv lv then some (PM.mk p lv (x % pw p (lv+6))) else none)):=by
 intro k hk
 unfold dX.f
 rw [isLevel_eq']
 simp only [Option.bind_some]
 by_cases hl:PM.inLv lv
 ·
  have hl':=hl
  unfold PM.inLv at hl'
  have hb:=eK p (lv+6) hp (by omega)
  obtain ⟨r0,r1⟩:=emb x (pw p (lv+6)) (by omega)
  rw [decide_eq_true hl,if_pos rfl,if_pos hl,w64 (n:=lv+6) (by omega) (by omega),eA p _ hp (by omega) k (by omega)]
  simp only [Option.bind_some]
  rw [mod_eq x _ (by omega) (by omega)]
  simp only [Option.bind_some]
  generalize x % pw p (lv+6)=y at *
  rw [bs p y hp (by omega) k hk]
  simp only [Option.bind_some]
  have hz:0≤vz p y∧vz p y≤1000:=by
   refine ⟨PM.vz_nonneg _ _,?_⟩
   unfold vz
   by_cases y0:y=0
   ·
    rw [if_pos y0];omega
   ·
    rw [if_neg y0];have:=ci hp y0 (by omega);omega
  simp only [mx_max]
  rw [w64 (n:=6 - vz p y) (by omega) (by omega),w64 (n:=6 - max (6 - vz p y) 0) (by omega) (by omega),eA p _ hp (by omega) k (by omega)]
  simp only [Option.bind_some]
  have hq:=pw_bd6 p (6 - max (6 - vz p y) 0) hp (by omega)
  have hd:=Int.ediv_le_self (pw p (6 - max (6 - vz p y) 0)) r0
  have hd0:=Int.ediv_nonneg r0 (show 0≤pw p (6 - max (6 - vz p y) 0) by omega)
  rw [if_neg (by omega),Int.tdiv_eq_ediv_of_nonneg r0,w64 (by omega) (by omega)]
  simp only [enc,PM.mk]
 ·
  rw [decide_eq_false hl,if_neg (by simp),if_neg hl];rfl
theorem vz_bd {p n:Int} (hp:Pr p) (h:n.natAbs≤9223372036854775807):0≤vz p n∧vz p n≤1000:=by
 refine ⟨PM.vz_nonneg _ _,?_⟩
 unfold vz
 by_cases y0:n=0
 ·
  rw [if_pos y0];omega
 ·
  rw [if_neg y0];have:=ci hp y0 (by omega);omega
theorem ballAt_eq {p n d lv:Int} (hp:Pr p) (hd:d≠0) (hn:n.natAbs≤4611686018427387904) (hdb:d.natAbs≤4611686018427387904):∀ k,13841287300≤k→bz.f k p n d lv=some (enc (PM.ballAt p n d lv)):=by
 intro k hk
 obtain ⟨k,rfl⟩:∃ j,k=j+1:=⟨k - 1,by omega⟩
 unfold bz.f PM.ballAt
 rw [isLevel_eq']
 simp only [Option.bind_some]
 by_cases hl:PM.inLv lv
 ·
  have hl':=hl
  unfold PM.inLv at hl'
  have hb:=eK p (lv+6) hp (by omega)
  have b1:=vz_bd hp (n:=n) (by omega)
  have b2:=vz_bd hp (n:=d) (by omega)
  rw [decide_eq_true hl,if_pos rfl,if_neg (fun z=>z hl),bs p n hp (by omega) _ (by omega),bs p d hp (by omega) _ (by omega)]
  simp only [Option.bind_some,bz.j0]
  rw [w64 (n:=vz p n - vz p d) (by omega) (by omega)]
  by_cases z:n=0
  ·
   rw [if_pos z,if_pos trivial,if_pos (Or.inl z)];rfl
  ·
   rw [if_neg z]
   by_cases c:vz p n - vz p d≥lv
   ·
    rw [decide_eq_true c,if_pos rfl,if_pos (Or.inr c)];rfl
   ·
    rw [decide_eq_false c,if_neg (by simp),if_neg (show ¬ (n=0∨lv≤vz p n - vz p d) from fun y=>y.elim z c)]
    by_cases e:vz p n - vz p d < -6
    ·
     rw [if_pos e,if_pos e];rfl
    ·
     rw [if_neg e,if_neg e,w64 (n:=lv+6) (by omega) (by omega),w64 (n:=vz p n - vz p d+6) (by omega) (by omega),eA p (lv+6) hp (by omega) k (by omega),unit_eq p n hp z hn k (by omega),unit_eq p d hp hd hdb k (by omega)]
     simp only [Option.bind_some]
     rw [inverse_eq _ _ (by omega) (by omega) k (by omega)]
     simp only [Option.bind_some]
     rw [times_eq _ _ _ (by omega) (by omega) k (by omega)]
     simp only [Option.bind_some]
     rw [eA p (vz p n - vz p d+6) hp (by omega) k (by omega)]
     simp only [Option.bind_some]
     rw [times_eq _ _ _ (by omega) (by omega) k (by omega)]
     simp only [Option.bind_some]
     rw [ofMark_eq hp k (by omega),if_pos hl,Int.emod_emod]
     rfl
 ·
  rw [decide_eq_false hl,if_neg (by simp),if_pos hl];rfl
theorem l01Of_eq {p n d lv:Int} (hp:Pr p) (hd:d≠0) (hn:n.natAbs≤4611686018427387904) (hdb:d.natAbs≤4611686018427387904):∀ k,13841287300≤k→cM.f k p n d lv=some (enc (PM.lOf p n d lv)):=by
 intro k hk
 unfold cM.f PM.lOf
 rw [fW]
 simp only [Option.bind_some]
 by_cases hl:PM.inLv lv
 ·
  have hl':=hl
  unfold PM.inLv at hl'
  rw [decide_eq_true hl',if_pos rfl,if_neg (show ¬ ¬ PM.inLv lv from fun z=>z hl)]
  by_cases z:n=0
  ·
   rw [if_pos z,if_pos z];rfl
  ·
   have v1:=ci hp z (by omega)
   have v2:=ci hp hd (by omega)
   have v3:=vl_le hp z (k:=63) (by
    have:(2:Nat) ^ 63=9223372036854775808:=by decide
    omega)
   have v4:=vl_le hp hd (k:=63) (by
    have:(2:Nat) ^ 63=9223372036854775808:=by decide
    omega)
   rw [if_neg z,if_neg z,es p n hp z (by omega) k (by omega),es p d hp hd (by omega) k (by omega),b8 z,b8 hd]
   simp only [Option.bind_some,mx_max]
   rw [w64 (n:=(vl p n:Int) - vl p d) (by omega) (by omega),w64 (n:=(vl p d:Int) - vl p n) (by omega) (by omega)]
   by_cases c:lv≤(vl p n:Int) - vl p d
   ·
    rw [if_pos c,if_pos c];rfl
   ·
    rw [if_neg c,if_neg c]
    by_cases e:max ((vl p d:Int) - vl p n) 0>6
    ·
     rw [if_pos e,if_pos e];rfl
    ·
     rw [if_neg e,if_neg (show ¬ 6<max ((vl p d:Int) - vl p n) 0 from e)]
     have hb:=eK p (lv+max ((vl p d:Int) - vl p n) 0) hp (by omega)
     have p1:=pwvl hp z
     have p2:=pwvl hp hd
     have u1:=un_bd hp z
     have u2:=un_bd hp hd
     rw [w64 (n:=lv+max ((vl p d:Int) - vl p n) 0) (by omega) (by omega),eD p _ hp (by omega) (by omega) k (by omega),fd p (vl p n) hp (by omega) (by omega) (by omega) k (by omega),fd p (vl p d) hp (by omega) (by omega) (by omega) k (by omega)]
     simp only [Option.bind_some]
     rw [if_neg (by omega),if_neg (by omega),un_div hp z,un_div hp hd,w64 (n:=un p n) (by omega) (by omega),w64 (n:=un p d) (by omega) (by omega),l01InvMod_eq _ _ (by omega) (by omega) k (by omega)]
     simp only [Option.bind_some]
     rw [fe _ _ _ (by omega) (by omega),eD p (max ((vl p n:Int) - vl p d) 0) hp (by omega) (by omega) k (by omega)]
     simp only [Option.bind_some]
     rw [fe _ _ _ (by omega) (by omega)]
     rfl
 ·
  rw [decide_eq_false (show ¬ (-6≤lv∧lv≤6) from hl),if_neg (by simp),if_pos hl];rfl
theorem eZ {p n d lv:Int} (hp:Pr p) (hd:d≠0):PM.lOf p n d lv=PM.ballAt p n d lv:=(PM.ballAt_eq_lOf hp hd).symm
def frc (p n1 d1 n2 d2:Int):Int:=if Pr p∧isE n1 d1∧isE n2 d2 then (if (n1=n2∧d1=d2)∨d1=0∨d2=0 then 5 else 0) else 1
theorem l05Fractions_eq (p n1 d1 n2 d2:Int):∃ K,∀ k,K≤k→bu.f k p n1 d1 n2 d2=some (frc p n1 d1 n2 d2):=by
 obtain ⟨K,h⟩:=du p [] [⟨n1,d1⟩,⟨n2,d2⟩] (by simp) (by simp)
 refine ⟨K,fun k hk=>?_⟩
 unfold bu.f frc
 rw [h k (by omega),dif2]
 simp only [all2,List.all_nil,and_true]
 by_cases c:Pr p∧isE n1 d1∧isE n2 d2
 ·
  rw [if_pos c,if_pos c]
  by_cases e:n1=n2∧d1=d2
  ·
   rw [decide_eq_true e,if_pos (Or.inl e)];simp
  ·
   rw [decide_eq_false e]
   by_cases z1:d1=0
   ·
    simp [z1]
   ·
    by_cases z2:d2=0
    ·
     simp [z2]
    ·
     rw [if_neg (show ¬ ((n1=n2∧d1=d2)∨d1=0∨d2=0) from fun h=>h.elim e (fun h=>h.elim z1 z2))]
     simp [z1,z2]
 ·
  rw [if_neg c,if_neg c];simp
theorem fractionsCode_eq (p n1 d1 n2 d2:Int):∃ K,∀ k,K≤k→af.f k p n1 d1 n2 d2=some (frc p n1 d1 n2 d2):=by
 obtain ⟨K,h⟩:=dh [⟨n1,d1⟩,⟨n2,d2⟩] (by simp)
 refine ⟨K+1,fun k hk=>?_⟩
 obtain ⟨k,rfl⟩:∃ m,k=m+1:=⟨k - 1,by omega⟩
 unfold af.f frc
 rw [h _ (by omega),dW]
 rcases ct p with ⟨g,hp⟩|⟨g,hp⟩
 ·
  have hp:Pr p:=hp
  rw [g]
  simp only [Option.bind_some,if_true]
  by_cases c:isE n1 d1∧isE n2 d2
  ·
   have hz0:Pr p∧isE n1 d1∧isE n2 d2:=⟨hp,c⟩
   rw [(all2 _ _ _ _).2 c,if_pos hz0]
   by_cases e:n1=n2∧d1=d2
   ·
    rw [if_pos (Or.inl e)];simp [af.j0,e]
   ·
    have e':¬ ((n1 == n2 && (d1 == d2))=true):=by simpa using e
    by_cases z1:d1=0
    ·
     simp [af.j0,z1]
    ·
     by_cases z2:d2=0
     ·
      simp [af.j0,z2]
     ·
      rw [if_neg (show ¬ ((n1=n2∧d1=d2)∨d1=0∨d2=0) from fun h=>h.elim e (fun h=>h.elim z1 z2))]
      simp only [af.j0,Bool.not_true]
      rw [if_neg (by simp),if_neg e',if_neg z1,if_neg z2]
  ·
   rw [if_neg (fun z=>c z.2),Bool.eq_false_iff.mpr (fun z=>c ((all2 _ _ _ _).1 z))]
   simp [af.j0]
 ·
  rw [g,if_neg (fun z=>hp z.1)]
  simp [af.j0]
theorem rdB2 (l:List S25) (i:Nat) (h:i<l.length):an l (i:Int)=l[i]'h:=by
 simp [an,h]
theorem rdB3 (l:List S25) (i:Nat) (x:S25) (h:l[i]?=some x):an l (i:Int)=x:=by
 obtain ⟨hi,e⟩:=List.getElem?_eq_some_iff.mp h
 rw [rdB2 l i hi];exact e
def fX (n d:Int):Int × Int × Bool:=if d=0 then (1,0,true) else
 (n.tdiv ((Int.gcd n d:Int)*(if d<0 then -1 else 1)),d.tdiv ((Int.gcd n d:Int)*(if d<0 then -1 else 1)),decide (isE (n.tdiv ((Int.gcd n d:Int)*(if d<0 then -1 else 1))) (d.tdiv ((Int.gcd n d:Int)*(if d<0 then -1 else 1)))))
theorem end_low {n d:Int} (hd:d≠0):isE (n.tdiv ((Int.gcd n d:Int)*(if d<0 then -1 else 1))) (d.tdiv ((Int.gcd n d:Int)*(if d<0 then -1 else 1)))↔
  (d.tdiv ((Int.gcd n d:Int)*(if d<0 then -1 else 1))≤1000000∧(n.tdiv ((Int.gcd n d:Int)*(if d<0 then -1 else 1))).natAbs≤1000000):=by
 have g0:0<Int.gcd n d:=by
  rcases Nat.eq_zero_or_pos (Int.gcd n d) with h|h
  ·
   exact absurd (Int.gcd_eq_zero_iff.mp h).2 hd
  ·
   exact h
 have dn:(Int.gcd n d:Int) ∣ n:=Int.gcd_dvd_left ..
 have dd:(Int.gcd n d:Int) ∣ d:=Int.gcd_dvd_right ..
 have hg:=Int.gcd_ediv_gcd_ediv_gcd (i:=n) (j:=d) g0
 generalize hG:Int.gcd n d=G at *
 have en:n.tdiv (G:Int)=n / G:=Int.tdiv_eq_ediv_of_dvd dn
 have ed:d.tdiv (G:Int)=d / G:=Int.tdiv_eq_ediv_of_dvd dd
 have key:∀ s:Int,(s=1∨s = -1)→s*d>0→(isE (n.tdiv ((G:Int)*s)) (d.tdiv ((G:Int)*s))↔(d.tdiv ((G:Int)*s)≤1000000∧(n.tdiv ((G:Int)*s)).natAbs≤1000000)):=by
  intro s hs hp
  rw [PM.tdiv_sg n _ s hs,PM.tdiv_sg d _ s hs,en,ed]
  have e3:G*(d / G)=d:=Int.mul_ediv_cancel' dd
  have hpos:1≤d / G*s:=by
   refine Decidable.byContradiction fun h=>?_
   have h2:d / G*s≤0:=by omega
   have h3:(G:Int)*(d / G*s)≤0:=Int.mul_nonpos_of_nonneg_of_nonpos (by omega) h2
   rw [← Int.mul_assoc,e3,Int.mul_comm] at h3
   omega
  have hgs:Int.gcd (n / G*s) (d / G*s)=1:=by
   rcases hs with rfl|rfl
   ·
    simpa using hg
   ·
    simpa using hg
  unfold isE
  constructor
  ·
   rintro (h|h)
   ·
    omega
   ·
    omega
  ·
   rintro ⟨h1,h2⟩
   exact Or.inr ⟨hpos,h1,by omega,by omega,hgs⟩
 by_cases h:d<0
 ·
  rw [if_pos h];exact key (-1) (Or.inr rfl) (by omega)
 ·
  rw [if_neg h];exact key 1 (Or.inl rfl) (by omega)
theorem endF_pre {n d:Int} (hd:d≠0) (hn:n.natAbs≤4611686018427387904) (hdb:d.natAbs≤4611686018427387904) :
  (if d<0 then wrap64 (-(Int.gcd n d:Int)) else (Int.gcd n d:Int))=(Int.gcd n d:Int)*(if d<0 then -1 else 1)∧(Int.gcd n d:Int)*(if d<0 then -1 else 1)≠0∧(∀ x:Int,x.natAbs≤4611686018427387904→wrap64 (x.tdiv ((Int.gcd n d:Int)*(if d<0 then -1 else 1)))=x.tdiv ((Int.gcd n d:Int)*(if d<0 then -1 else 1))):=by
 have g0:0<Int.gcd n d:=by
  rcases Nat.eq_zero_or_pos (Int.gcd n d) with h|h
  ·
   exact absurd (Int.gcd_eq_zero_iff.mp h).2 hd
  ·
   exact h
 have g1:Int.gcd n d≤d.natAbs:=by rw [Int.gcd_comm];exact Nat.le_of_dvd (by omega) (Nat.gcd_dvd_left _ _)
 refine ⟨?_,?_,fun x hx=>?_⟩
 ·
  by_cases h:d<0
  ·
   rw [if_pos h,if_pos h,w64 (by omega) (by omega)];omega
  ·
   rw [if_neg h,if_neg h];omega
 ·
  by_cases h:d<0
  ·
   rw [if_pos h];omega
  ·
   rw [if_neg h];omega
 ·
  have:=PM.tdiv_abs_le x ((Int.gcd n d:Int)*(if d<0 then -1 else 1))
  exact w64 (by omega) (by omega)
theorem endAt_eq {n d:Int} (hn:n.natAbs≤4611686018427387904) (hdb:d.natAbs≤4611686018427387904):∃ K,∀ k,K≤k→cQ.f k n d=some (fX n d):=by
 by_cases z:d=0
 ·
  refine ⟨0,fun k _=>?_⟩
  unfold cQ.f fX
  rw [if_pos z,if_pos z]
 ·
  obtain ⟨K1,h1⟩:=gcd_eq n d (by omega) (by omega)
  obtain ⟨q1,q2,q3⟩:=endF_pre z hn hdb
  obtain ⟨K2,h2⟩:=IsEnd_eq (n.tdiv ((Int.gcd n d:Int)*(if d<0 then -1 else 1))) (d.tdiv ((Int.gcd n d:Int)*(if d<0 then -1 else 1)))
  refine ⟨K1+K2,fun k hk=>?_⟩
  unfold cQ.f fX
  rw [if_neg z,if_neg z,h1 k (by omega)]
  simp only [Option.bind_some]
  have h2:=h2 k (by omega)
  have q3n:=q3 n hn
  have q3d:=q3 d hdb
  by_cases h:d<0
  ·
   simp only [if_pos h] at *
   rw [q1,if_neg q2,q3n,q3d,h2];rfl
  ·
   simp only [if_neg h,Int.mul_one] at *
   rw [if_neg q2,q3n,q3d,h2];rfl
theorem fG {n d:Int} (hn:n.natAbs≤4611686018427387904) (hdb:d.natAbs≤4611686018427387904):∃ K,∀ k,K≤k→aZ.f k n d=some (fX n d):=by
 by_cases z:d=0
 ·
  refine ⟨0,fun k _=>?_⟩
  unfold aZ.f fX
  rw [if_pos z,if_pos z]
 ·
  obtain ⟨K1,h1⟩:=eO n d (by omega) (by omega)
  obtain ⟨q1,q2,q3⟩:=endF_pre z hn hdb
  have hl:=end_low (n:=n) z
  refine ⟨K1,fun k hk=>?_⟩
  unfold aZ.f fX
  rw [if_neg z,if_neg z,h1 k (by omega)]
  simp only [Option.bind_some]
  have q3n:=q3 n hn
  have q3d:=q3 d hdb
  have b1:=PM.tdiv_abs_le n ((Int.gcd n d:Int)*(if d<0 then -1 else 1))
  by_cases h:d<0
  ·
   simp only [if_pos h] at *
   rw [q1,if_neg q2,q3n,q3d,mx_neg _ (by omega)]
   by_cases c:d.tdiv ((Int.gcd n d:Int) * -1)≤1000000
   ·
    rw [if_pos c]
    congr 3
    rw [Bool.eq_iff_iff];simp only [decide_eq_true_eq];rw [hl];omega
   ·
    rw [if_neg c,decide_eq_false (fun y=>c (hl.mp y).1)]
  ·
   simp only [if_neg h,Int.mul_one] at *
   rw [if_neg q2,q3n,q3d,mx_neg _ (by omega)]
   by_cases c:d.tdiv (Int.gcd n d:Int)≤1000000
   ·
    rw [if_pos c]
    congr 3
    rw [Bool.eq_iff_iff];simp only [decide_eq_true_eq];rw [hl];omega
   ·
    rw [if_neg c,decide_eq_false (fun y=>c (hl.mp y).1)]
theorem joinLevel_eq {p l1 t1 d1 l2 t2 d2:Int} (hp:Pr p) (hb:PM.Ok p ⟨l1,t1,d1⟩) (hc:PM.Ok p ⟨l2,t2,d2⟩):∀ k,100≤k→be.f k p l1 t1 d1 l2 t2 d2=some (PM.jl p ⟨l1,t1,d1⟩ ⟨l2,t2,d2⟩):=by
 intro k hk
 obtain ⟨m0,m1⟩:=PM.mark_bd hp hb
 obtain ⟨m2,m3⟩:=PM.mark_bd hp hc
 have b1:=eK p (l1+6) hp (by have:=hb.2.1;simp only at this;omega)
 have b2:=eK p (l2+6) hp (by have:=hc.2.1;simp only at this;omega)
 simp only at m1 m3
 unfold be.f
 rw [mark_eq hp hb k (by omega),mark_eq hp hc k (by omega)]
 simp only [Option.bind_some]
 rw [w64 (n:=PM.mark p ⟨l1,t1,d1⟩ - PM.mark p ⟨l2,t2,d2⟩) (by omega) (by omega),bs p _ hp (by omega) k (by omega)]
 simp only [Option.bind_some,mn_min]
 have hz:=PM.vz_nonneg p (PM.mark p ⟨l1,t1,d1⟩ - PM.mark p ⟨l2,t2,d2⟩)
 have hz2:vz p (PM.mark p ⟨l1,t1,d1⟩ - PM.mark p ⟨l2,t2,d2⟩)≤1000:=by
  unfold vz
  by_cases z:PM.mark p ⟨l1,t1,d1⟩ - PM.mark p ⟨l2,t2,d2⟩=0
  ·
   rw [if_pos z];omega
  ·
   rw [if_neg z];have:=ci hp z (by omega);omega
 rw [w64 (by omega) (by omega)]
 rfl
theorem distance_fin {p:Int} {b c:PM.Ball} (hb:PM.Ok p b) (hc:PM.Ok p c):wrap64 (wrap64 (b.lv+c.lv) - wrap64 (2*PM.jl p b c))=PM.dist p b c:=by
 obtain ⟨j1,j2,j3⟩:=PM.jl_bd p hb hc
 have h1:=hb.2.1
 have h2:=hc.2.1
 have h3:=hb.1
 have h4:=hc.1
 rw [w64 (n:=b.lv+c.lv) (by omega) (by omega),w64 (n:=2*PM.jl p b c) (by omega) (by omega),w64 (by omega) (by omega)]
 rfl
theorem distance_eq {p l1 t1 d1 l2 t2 d2:Int} (hp:Pr p) (hb:PM.Ok p ⟨l1,t1,d1⟩) (hc:PM.Ok p ⟨l2,t2,d2⟩):∀ k,100≤k→bi.f k p l1 t1 d1 l2 t2 d2=some (PM.dist p ⟨l1,t1,d1⟩ ⟨l2,t2,d2⟩):=by
 intro k hk
 unfold bi.f
 rw [joinLevel_eq hp hb hc k hk]
 simp only [Option.bind_some]
 exact congrArg some (distance_fin hb hc)
theorem prime_dec (p:Int):bV.f p=some (decide (Pr p)):=by
 rcases ct p with ⟨h,h2⟩|⟨h,h2⟩
 ·
  rw [h,decide_eq_true (show Pr p from h2)]
 ·
  rw [h,decide_eq_false (show ¬ Pr p from h2)]
def Byt (l:List Int):Prop:=∀ x,x ∈ l→0≤x∧x≤255
theorem rd_byte {l:List Int} (hb:Byt l) {i:Int} (h0:0≤i) (h1:i<(l.length:Int)):0≤rd l i∧rd l i≤255:=by
 obtain ⟨n,rfl⟩:=Int.eq_ofNat_of_zero_le h0
 have hn:n<l.length:=by omega
 have h2:=rd_nat l n hn
 rw [List.getElem?_eq_getElem hn] at h2
 rw [← Option.some.inj h2]
 exact hb _ (List.getElem_mem _)
theorem and_bd {x:Int} (h0:0≤x) (h1:x<18446744073709551616):0≤Go.bits .and .u64 x 17179869183∧Go.bits .and .u64 x 17179869183≤17179869183:=by
 obtain ⟨n,rfl⟩:=Int.eq_ofNat_of_zero_le h0
 have h:=Go.bits_and_u64_nat n 17179869183 (by omega) (by omega)
 have e:((17179869183:Nat):Int)=17179869183:=rfl
 rw [e] at h
 rw [h]
 have:=Nat.and_le_right (n:=n) (m:=17179869183)
 omega
theorem u64_bd (n:Int):0≤IntKind.u64.wrap n / 8388608∧IntKind.u64.wrap n / 8388608<18446744073709551616:=by
 rw [IntKind.wrap_u64];omega
theorem tmod_bd {x n:Int} (h0:0≤x) (h1:1≤n):0≤Int.tmod x n∧Int.tmod x n<n:=by
 rw [Int.tmod_eq_emod_of_nonneg h0]
 exact ⟨Int.emod_nonneg _ (by omega),Int.emod_lt_of_pos _ (by omega)⟩
theorem dL {l:List Int} (hb:Byt l) (hl:l.length≤4096) {t:Int} (h n:Int) (ht:0≤t):∃ r t' h',ae.f l t h n=some (r,t',h')∧0≤t'∧(n<1→r=0)∧(1≤n→0≤r∧r<n):=by
 unfold ae.f
 by_cases c:n<1
 ·
  rw [if_pos c];exact ⟨_,_,_,rfl,ht,fun _=>rfl,fun z=>by omega⟩
 ·
  rw [if_neg c]
  have hu:=u64_bd (IntKind.u64.wrap (h*6364136223846793005)+1442695040888963407)
  have ha:=and_bd hu.1 hu.2
  by_cases d:t<(l.length:Int)
  ·
   have hr:=rd_byte hb ht d
   rw [if_pos d,if_pos ht,if_neg (by omega)]
   refine ⟨_,_,_,rfl,by rw [w64 (n:=t+1) (by omega) (by omega)];omega,fun z=>by omega,fun z=>?_⟩
   refine tmod_bd ?_ z
   rw [w64 (n:=Go.bits .and .u64 _ 17179869183) (by omega) (by omega),w64 (n:=rd l t) (by omega) (by omega),w64 (by omega) (by omega)]
   omega
  ·
   rw [if_neg d,if_neg (by omega)]
   refine ⟨_,_,_,rfl,ht,fun z=>by omega,fun z=>?_⟩
   refine tmod_bd ?_ z
   rw [w64 (n:=Go.bits .and .u64 _ 17179869183) (by omega) (by omega)]
   omega
theorem from_ok (l:List Int) (hl:l.length≤4096):∃ h,∀ k,l.length+1≤k→ao.f k l=some (l,0,h):=by
 have go:∀ (d i:Nat) (x:Int),i+d=l.length→∃ h,∀ k,d+1≤k→ao.l0 k l (i:Int) l 0 x=some (l,0,h):=by
  intro d
  induction d with
  | zero=>
   intro i x hi
   refine ⟨x,fun k hk=>?_⟩
   obtain ⟨k,rfl⟩:∃ m,k=m+1:=⟨k - 1,by omega⟩
   simp only [ao.l0]
   rw [if_neg (by omega)]
  | succ d ih=>
   intro i x hi
   obtain ⟨h,e⟩:=ih (i+1) (IntKind.u64.wrap ((IntKind.u64.wrap ((IntKind.u64.wrap (x*1099511628211))+(IntKind.u64.wrap (rd l (i:Int)))))+71)) (by omega)
   refine ⟨h,fun k hk=>?_⟩
   obtain ⟨k,rfl⟩:∃ m,k=m+1:=⟨k - 1,by omega⟩
   simp only [ao.l0]
   rw [if_pos (by omega),if_pos (by omega),if_pos (by omega),w64 (n:=(i:Int)+1) (by omega) (by omega),show (i:Int)+1=((i+1:Nat):Int) by omega]
   exact e k (by omega)
 obtain ⟨h,e⟩:=go l.length 0 (IntKind.u64.wrap (12527+(IntKind.u64.wrap ((l.length:Int))))) (by omega)
 exact ⟨h,fun k hk=>e k (by omega)⟩
theorem rd_mem (q:List Int) {r:Int} (h0:0≤r) (h1:r<(q.length:Int)):rd q r ∈ q:=by
 obtain ⟨n,rfl⟩:=Int.eq_ofNat_of_zero_le h0
 have hn:n<q.length:=by omega
 have h2:=rd_nat q n hn
 rw [List.getElem?_eq_getElem hn] at h2
 rw [← Option.some.inj h2]
 exact List.getElem_mem _
theorem dy {l:List Int} (hb:Byt l) (hl:l.length≤4096) {t:Int} (h:Int) (ht:0≤t) (q:List Int) (hq:1≤q.length):∃ r t' h',ag.f l t h q=some (r,t',h')∧0≤t'∧r ∈ q:=by
 obtain ⟨r,t',h',e,ht',_,hr⟩:=dL hb hl h (q.length:Int) ht
 have:=hr (by omega)
 unfold ag.f
 rw [e]
 simp only [Option.bind_some]
 rw [if_pos (by omega),if_pos (by omega)]
 exact ⟨_,_,_,rfl,ht',rd_mem q this.1 this.2⟩
theorem pr2:Pr 2:=Or.inl rfl
theorem pr3:Pr 3:=Or.inr (Or.inl rfl)
theorem dQ {l:List Int} (hb:Byt l) (hl:l.length≤4096) {t:Int} (h:Int) (ht:0≤t):∃ K n d t' h',(∀ k,K≤k→ac.f k l t h=some (n,d,t',h'))∧0≤t':=by
 obtain ⟨r0,t0,h0,e0,ht0,_,_⟩:=dL hb hl h 30 ht
 have key:∀ c:Bool,∃ K n d t' h',(∀ k,K≤k→ac.j0 k r0 c l t0 h0=some (n,d,t',h'))∧0≤t':=by
  intro c
  by_cases c1:c=true
  ·
   refine ⟨1,1,0,t0,h0,fun k hk=>?_,ht0⟩
   obtain ⟨k,rfl⟩:∃ m,k=m+1:=⟨k - 1,by omega⟩
   simp only [ac.j0];rw [if_pos c1]
  by_cases c2:r0=2
  ·
   obtain ⟨a,t1,h1,e1,ht1,_⟩:=dy hb hl h0 ht0 [2,0,1000001] (by simp)
   obtain ⟨b,t2,h2,e2,ht2,_⟩:=dy hb hl h1 ht1 [0,4,(-1)] (by simp)
   refine ⟨1,a,b,t2,h2,fun k hk=>?_,ht2⟩
   obtain ⟨k,rfl⟩:∃ m,k=m+1:=⟨k - 1,by omega⟩
   simp only [ac.j0];rw [if_neg c1,if_pos c2,e1];simp only [Option.bind_some];rw [e2];rfl
  obtain ⟨r1,t1,h1,e1,ht1,_,c1'⟩:=dL hb hl h0 20 ht0
  obtain ⟨r2,t2,h2,e2,ht2,_,c2'⟩:=dL hb hl h1 200 ht1
  obtain ⟨r3,t3,h3,e3,ht3,_,c3'⟩:=dL hb hl h2 2000001 ht2
  have c1':=c1' (by omega)
  have c2':=c2' (by omega)
  have c3':=c3' (by omega)
  obtain ⟨n,t4,h4,e4,ht4,c4⟩:=dy hb hl h3 ht3 [wrap64 (r1 - 10),wrap64 (r2 - 100),wrap64 (r3 - 1000000)] (by simp)
  have bn : -1000000≤n∧n≤1000001:=by
   rw [w64 (n:=r1 - 10) (by omega) (by omega),w64 (n:=r2 - 100) (by omega) (by omega),w64 (n:=r3 - 1000000) (by omega) (by omega)] at c4
   simp at c4;omega
  obtain ⟨r5,t5,h5,e5,ht5,_,c5⟩:=dL hb hl h4 20 ht4
  obtain ⟨r6,t6,h6,e6,ht6,_,c6⟩:=dL hb hl h5 8 ht5
  obtain ⟨r7,t7,h7,e7,ht7,_,c7⟩:=dL hb hl h6 6 ht6
  obtain ⟨r8,t8,h8,e8,ht8,_,c8⟩:=dL hb hl h7 1000000 ht7
  have c5:=c5 (by omega)
  have c6:=c6 (by omega)
  have c7:=c7 (by omega)
  have c8:=c8 (by omega)
  obtain ⟨d,t9,h9,e9,ht9,c9⟩:=dy hb hl h8 ht8 [1,1,wrap64 (1+r5),pw 2 r6,pw 3 r7,wrap64 (1+r8)] (by simp)
  have bd:d.natAbs≤4611686018427387904:=by
   have p6:=fb pr2 (show r6≤7 by omega)
   have p7:=fb pr3 (show r7≤5 by omega)
   have q6:=cE pr2 r6
   have q7:=cE pr3 r7
   rw [show pw 2 7=128 by decide] at p6
   rw [show pw 3 5=243 by decide] at p7
   rw [w64 (n:=1+r5) (by omega) (by omega),w64 (n:=1+r8) (by omega) (by omega)] at c9
   simp at c9;omega
  obtain ⟨K,hK⟩:=fG (n:=n) (d:=d) (by omega) bd
  refine ⟨K+40,(fX n d).1,(fX n d).2.1,t9,h9,fun k hk=>?_,ht9⟩
  obtain ⟨k,rfl⟩:∃ m,k=m+1:=⟨k - 1,by omega⟩
  simp only [ac.j0];rw [if_neg c1,if_neg c2,e1];simp only [Option.bind_some];rw [e2];simp only [Option.bind_some];rw [e3];simp only [Option.bind_some];rw [e4];simp only [Option.bind_some];rw [e5];simp only [Option.bind_some];rw [e6];simp only [Option.bind_some]
  rw [eD 2 r6 pr2 (by omega) (by omega) k (by omega)];simp only [Option.bind_some];rw [e7];simp only [Option.bind_some]
  rw [eD 3 r7 pr3 (by omega) (by omega) k (by omega)];simp only [Option.bind_some];rw [e8];simp only [Option.bind_some];rw [e9];simp only [Option.bind_some]
  rw [hK k (by omega)];rfl
 obtain ⟨K1,n1,d1,t1,h1,e1,ht1⟩:=key (r0 == 0)
 obtain ⟨K2,n2,d2,t2,h2,e2,ht2⟩:=key (r0 == 1)
 by_cases z:r0=0
 ·
  refine ⟨K1,n1,d1,t1,h1,fun k hk=>?_,ht1⟩
  unfold ac.f
  rw [e0];simp only [Option.bind_some];rw [if_pos z];exact e1 k hk
 ·
  refine ⟨K2,n2,d2,t2,h2,fun k hk=>?_,ht2⟩
  unfold ac.f
  rw [e0];simp only [Option.bind_some];rw [if_neg z];exact e2 k hk
theorem TreeDistance_eq {p l1 t1 d1 l2 t2 d2:Int} (hp:Pr p) (hb:PM.Ok p ⟨l1,t1,d1⟩) (hc:PM.Ok p ⟨l2,t2,d2⟩):∀ k,200≤k→cd.f k p l1 t1 d1 l2 t2 d2=some (PM.dist p ⟨l1,t1,d1⟩ ⟨l2,t2,d2⟩,0):=by
 intro k hk
 obtain ⟨k,rfl⟩:∃ m,k=m+1+1+1:=⟨k - 3,by omega⟩
 have r0:an [(⟨l1,t1,d1⟩:S25),⟨l2,t2,d2⟩] 0=⟨l1,t1,d1⟩:=rfl
 have r1:an [(⟨l1,t1,d1⟩:S25),⟨l2,t2,d2⟩] 1=⟨l2,t2,d2⟩:=rfl
 unfold cd.f b7.f
 simp only [b7.l0]
 rw [if_pos (by simp),if_pos (by omega),if_pos (by simp),r0,IsBall_eq p l1 t1 d1 _ (by omega),decide_eq_true ⟨hp,hb⟩]
 simp only [Option.bind_some,if_true]
 rw [w64 (n:=(0:Int)+1) (by omega) (by omega),show (0:Int)+1=1 from rfl,if_pos (by simp),if_pos (by omega),if_pos (by simp),r1,IsBall_eq p l2 t2 d2 _ (by omega),decide_eq_true ⟨hp,hc⟩]
 simp only [Option.bind_some,if_true]
 rw [w64 (n:=(1:Int)+1) (by omega) (by omega),if_neg (by simp),dW,prime_dec,decide_eq_true hp]
 simp only [Option.bind_some,if_true]
 rw [distance_eq hp hb hc _ (by omega)]
 rfl
theorem balls5_eq (l:List S25) (hl:l.length≤2000000000000):∀ k,l.length+1≤k→cI.f k l l=some true:=by
 have go:∀ (d k i:Nat),i+d=l.length→d<k→cI.l0 k l l i=some true:=by
  intro d
  induction d with
  | zero=>
   intro k i h2 h3
   obtain ⟨k,rfl⟩:∃ m,k=m+1:=⟨k - 1,by omega⟩
   simp only [cI.l0]
   rw [if_neg (by omega)]
  | succ d ih=>
   intro k i h2 h3
   obtain ⟨k,rfl⟩:∃ m,k=m+1:=⟨k - 1,by omega⟩
   simp only [cI.l0]
   rw [if_pos (by omega),if_pos (by omega),if_pos (by omega),w64 (by omega) (by omega)]
   simp only [beq_self_eq_true,Bool.not_true,Bool.or_false]
   rw [if_neg (by simp)]
   exact ih k (i+1) (by omega) (by omega)
 intro k hk
 unfold cI.f
 rw [if_pos rfl]
 exact go l.length k 0 (by omega) (by omega)
namespace BL
theorem zerosE {n1 d1 n2 d2:Int} (h1:isE n1 d1) (h2:isE n2 d2) (hne:¬ (n1=n2∧d1=d2)):¬ (d1=0∧d2=0):=by
 unfold isE at h1 h2;omega
theorem gapz_bdE {p n1 d1 n2 d2:Int} (hp:Pr p) (h1:isE n1 d1) (h2:isE n2 d2) (hd1:d1≠0) (hd2:d2≠0) (hne:¬ (n1=n2∧d1=d2)) : -200≤ce p n1 d1 n2 d2∧ce p n1 d1 n2 d2≤63:=by
 have a:=cp h1;have b:=cp h2
 have hc:crs n1 d1 n2 d2≠0:=fun h=>hne (eE h1 h2 h)
 have hb:=crs_bd h1 h2
 have v1:=ci hp hc (by omega)
 have v2:=ci hp hd1 (by omega)
 have v3:=ci hp hd2 (by omega)
 unfold ce;omega
def eB (b:PM.Ball):S25:=⟨b.lv,b.top,b.dn⟩
def rowB (p n d dl:Int):Nat→Int→Option (List S25)
 | 0,_=>some []
 | m+1,lv=>match PM.ballAt p n d lv with
  | none=>none
  | some b=>(rowB p n d dl m (lv+dl)).map (fun l=>eB b :: l)
theorem rowB_len (p n d dl:Int):∀ (m:Nat) (lv:Int) (l:List S25),rowB p n d dl m lv=some l→l.length=m
 | 0,_,l,h=>by simp only [rowB,Option.some.injEq] at h;subst h;rfl
 | m+1,lv,l,h=>by
  simp only [rowB] at h
  cases e:PM.ballAt p n d lv with
  | none=>rw [e] at h;cases h
  | some b=>
   rw [e] at h
   simp only [Option.map_eq_some_iff] at h
   obtain ⟨y,hy,rfl⟩:=h
   simp [rowB_len p n d dl m _ y hy]
theorem el {p n d dl:Int} (hp:Pr p) (hd:d≠0) (hn:n.natAbs≤4611686018427387904) (hdb:d.natAbs≤4611686018427387904) (k:Nat) (hk:13841287300≤k):∀ (m:Nat) (lv:Int) (fine:Bool) (l:List S25),l.length+m<1000→∃ l',aG.row k p n d dl m lv (fine,l)=some (fine && (rowB p n d dl m lv).isSome,l ++ l')∧l'.length=m∧∀ x,rowB p n d dl m lv=some x→l'=x
 | 0,lv,fine,l,_=>⟨[],by simp [aG.row,rowB],rfl,fun x h=>by simpa [rowB] using h⟩
 | m+1,lv,fine,l,h=>by
  simp only [aG.row,aG.take]
  rw [ballAt_eq hp hd hn hdb k hk]
  simp only [Option.bind_some]
  rw [if_pos (show l.length<1000 by omega)]
  simp only [Option.bind_some]
  cases e:PM.ballAt p n d lv with
  | none=>
   obtain ⟨l',h1,h2,h3⟩:=el hp hd hn hdb k hk m (lv+dl) (fine && false) (l ++ [⟨0,0,0⟩]) (by simp;omega)
   refine ⟨⟨0,0,0⟩ :: l',?_,by simp [h2],fun x hx=>by simp [rowB,e] at hx⟩
   simp only [enc]
   rw [h1]
   simp [rowB,e]
  | some b=>
   obtain ⟨l',h1,h2,h3⟩:=el hp hd hn hdb k hk m (lv+dl) (fine && true) (l ++ [eB b]) (by simp;omega)
   refine ⟨eB b :: l',?_,by simp [h2],fun x hx=>?_⟩
   ·
    simp only [enc]
    show aG.row k p n d dl m (lv+dl) (fine && true,l ++ [eB b])=_
    rw [h1]
    simp only [rowB,e]
    cases rowB p n d dl m (lv+dl) <;> simp
   ·
    simp only [rowB,e,Option.map_eq_some_iff] at hx
    obtain ⟨y,hy,rfl⟩:=hx
    rw [h3 y hy]
def eJ (out:List S25):Option (List S25)→List S25 × Bool
 | none=>([],false)
 | some l=>(out ++ l,true)
theorem side_l0 {p n d dl tz:Int} (hp:Pr p) (hd:d≠0) (hn:n.natAbs≤4611686018427387904) (hdb:d.natAbs≤4611686018427387904) (hdl:dl=1∨dl = -1):∀ (m:Nat) (lv:Int) (out:List S25) (k:Nat),tz=lv+dl*m→-10000≤lv→lv≤10000→-10000≤tz→tz≤10000→out.length+m<1000→13841287300+m<k→bD.l0 k p tz out dl lv n d=some (eJ out (rowB p n d dl (m+1) lv))
 | m,lv,out,k,h1,h2,h3,h2',h3',h4,h5=>by
  obtain ⟨k,rfl⟩:∃ j,k=j+1:=⟨k - 1,by omega⟩
  simp only [bD.l0]
  rw [l01Of_eq hp hd hn hdb k (by omega),eZ hp hd]
  simp only [Option.bind_some]
  cases e:PM.ballAt p n d lv with
  | none=>simp [enc,rowB,e,eJ]
  | some b=>
   simp only [enc,if_true]
   rw [if_pos (show out.length<5864062014805 by omega)]
   cases m with
   | zero=>
    rw [if_pos (show lv=tz by rcases hdl with rfl|rfl <;> omega)]
    simp [rowB,e,eJ,eB]
   | succ m=>
    rw [if_neg (show ¬ lv=tz by rcases hdl with rfl|rfl <;> omega),w64 (n:=lv+dl) (by omega) (by omega)]
    show bD.l0 k p tz (out ++ [eB b]) dl (lv+dl) n d=_
    rw [side_l0 hp hd hn hdb hdl m (lv+dl) (out ++ [eB b]) k (by rcases hdl with rfl|rfl <;> omega) (by rcases hdl with rfl|rfl <;> omega) (by rcases hdl with rfl|rfl <;> omega) h2' h3' (by simp;omega) (by omega)]
    rw [show rowB p n d dl (m+1+1) lv=(rowB p n d dl (m+1) (lv+dl)).map (fun l=>eB b :: l) by conv=>lhs;rw [rowB,e]]
    cases rowB p n d dl (m+1) (lv+dl) <;> simp [eJ]
theorem rowB_one (p n d dl dl' lv:Int):rowB p n d dl 1 lv=rowB p n d dl' 1 lv:=by
 simp only [rowB]
theorem side_eq {p n d dl fr tz:Int} (hp:Pr p) (hd:d≠0) (hn:n.natAbs≤4611686018427387904) (hdb:d.natAbs≤4611686018427387904) (hdl:dl=1∨dl = -1) (m:Nat) (h1:tz=fr+dl*m) (h2 : -9000≤fr) (h3:fr≤9000) (h4:m<900) (k:Nat) (h5:13841289000≤k):bD.f k p n d fr tz=some (eJ [] (rowB p n d dl (m+1) fr)):=by
 obtain ⟨k,rfl⟩:∃ j,k=j+1:=⟨k - 1,by omega⟩
 unfold bD.f
 simp only [Option.bind_some]
 by_cases c:tz<fr
 ·
  have hd1:dl = -1:=by rcases hdl with rfl|rfl <;> omega
  rw [if_pos c]
  simp only [bD.j0]
  subst hd1
  exact side_l0 hp hd hn hdb (Or.inr rfl) m fr [] k h1 (by omega) (by omega) (by omega) (by omega) (by simp;omega) (by omega)
 ·
  rw [if_neg c]
  simp only [bD.j0]
  rcases hdl with rfl|rfl
  ·
   exact side_l0 hp hd hn hdb (Or.inl rfl) m fr [] k h1 (by omega) (by omega) (by omega) (by omega) (by simp;omega) (by omega)
  ·
   have:m=0:=by omega
   subst this
   rw [rowB_one p n d (-1) 1]
   exact side_l0 hp hd hn hdb (Or.inl rfl) 0 fr [] k (by omega) (by omega) (by omega) (by omega) (by omega) (by simp) (by omega)
theorem rowB_last {p n d g:Int}:∀ (m:Nat) (l:List S25),rowB p n d (-1) (m+1) (g+m)=some l→∃ b,PM.ballAt p n d g=some b
 | 0,l,h=>by
  simp only [rowB,Int.natCast_zero,Int.add_zero] at h
  cases e:PM.ballAt p n d g with
  | none=>rw [e] at h;cases h
  | some b=>exact ⟨b,rfl⟩
 | m+1,l,h=>by
  rw [rowB] at h
  cases e:PM.ballAt p n d (g+((m+1:Nat):Int)) with
  | none=>rw [e] at h;cases h
  | some b=>
   rw [e] at h
   simp only [Option.map_eq_some_iff] at h
   obtain ⟨y,hy,_⟩:=h
   rw [show g+((m+1:Nat):Int) + -1=g+(m:Int) by omega] at hy
   exact rowB_last m y hy
theorem app_l0 (x y:List S25) (hx:x.length≤1000) (hy:y.length≤1000):∀ (d i:Nat) (acc:List S25) (k:Nat),i+d=y.length→acc.length+d≤5000→d<k→aN.l0 k acc y i=some (acc ++ y.drop i,0)
 | 0,i,acc,k,h1,_,h3=>by
  obtain ⟨k,rfl⟩:∃ j,k=j+1:=⟨k - 1,by omega⟩
  simp only [aN.l0]
  rw [if_neg (by omega),List.drop_eq_nil_of_le (by omega)];simp
 | d+1,i,acc,k,h1,h2,h3=>by
  obtain ⟨k,rfl⟩:∃ j,k=j+1:=⟨k - 1,by omega⟩
  have hi:i<y.length:=by omega
  simp only [aN.l0]
  rw [if_pos (by omega),if_pos (by omega),if_pos (by omega),w64 (n:=(i:Int)+1) (by omega) (by omega),show (i:Int)+1=((i+1:Nat):Int) by omega]
  rw [app_l0 x y hx hy d (i+1) _ k (by omega) (by simp;omega) (by omega)]
  rw [rdB2 y i hi,List.append_assoc,List.drop_eq_getElem_cons hi]
  rfl
def lineR (p n1 d1 n2 d2 i:Int):Option (List S25):=
 if d2=0 then rowB p n1 d1 (-1) (2*i+1).toNat i else if d1=0 then rowB p n2 d2 1 (2*i+1).toNat (-i) else
 (rowB p n1 d1 (-1) (i+1).toNat (ce p n1 d1 n2 d2+i)).bind fun x=>(rowB p n2 d2 1 i.toNat (ce p n1 d1 n2 d2+1)).map fun y=>x ++ y
def finR:Option (List S25)→List S25 × Int
 | none=>([],3)
 | some l=>(l,0)
def res (p n1 d1 n2 d2 i:Int):List S25 × Int:=
 if Pr p∧isE n1 d1∧isE n2 d2 then (if 0≤i∧i≤6 then (if n1=n2∧d1=d2 then ([],5) else finR (lineR p n1 d1 n2 d2 i)) else ([],2)) else ([],1)
theorem lineR_len {p n1 d1 n2 d2 i:Int} (hi:0≤i∧i≤6) {l:List S25} (h:lineR p n1 d1 n2 d2 i=some l):l.length≤20:=by
 unfold lineR at h
 by_cases c:d2=0
 ·
  rw [if_pos c] at h;have:=rowB_len _ _ _ _ _ _ _ h;omega
 ·
  rw [if_neg c] at h
  by_cases c':d1=0
  ·
   rw [if_pos c'] at h;have:=rowB_len _ _ _ _ _ _ _ h;omega
  ·
   rw [if_neg c'] at h
   obtain ⟨x,hx,h⟩:=Option.bind_eq_some_iff.mp h
   obtain ⟨y,hy,rfl⟩:=Option.map_eq_some_iff.mp h
   have:=rowB_len _ _ _ _ _ _ _ hx
   have:=rowB_len _ _ _ _ _ _ _ hy
   simp;omega
theorem res_len (p n1 d1 n2 d2 i:Int):(res p n1 d1 n2 d2 i).1.length≤20:=by
 unfold res
 by_cases c:Pr p∧isE n1 d1∧isE n2 d2
 ·
  rw [if_pos c]
  by_cases e:0≤i∧i≤6
  ·
   rw [if_pos e]
   by_cases f:n1=n2∧d1=d2
   ·
    rw [if_pos f];simp
   ·
    rw [if_neg f]
    cases h:lineR p n1 d1 n2 d2 i with
    | none=>simp [finR]
    | some l=>exact lineR_len e h
  ·
   rw [if_neg e];simp
 ·
  rw [if_neg c];simp
theorem fin_eq (o:Option (List S25)) (l':List S25) (h:∀ x,o=some x→l'=x):aG.fin (o.isSome,l')=some (finR o):=by
 cases o with
 | none=>rfl
 | some x=>rw [h x rfl];rfl
theorem impl_res (p n1 d1 n2 d2 i:Int):∃ K,∀ k,K≤k→aG.f k p n1 d1 n2 d2 i=some (res p n1 d1 n2 d2 i):=by
 obtain ⟨K,h⟩:=dh [⟨n1,d1⟩,⟨n2,d2⟩] (by simp)
 refine ⟨K+13841289000,fun k hk=>?_⟩
 unfold aG.f res
 rw [h _ (by omega),dW]
 rcases ct p with ⟨g,hp⟩|⟨g,hp⟩
 ·
  have hp:Pr p:=hp
  rw [g]
  simp only [Option.bind_some,if_true]
  by_cases c:isE n1 d1∧isE n2 d2
  ·
   rw [(all2 _ _ _ _).2 c,if_pos rfl,if_pos (show Pr p∧isE n1 d1∧isE n2 d2 from ⟨hp,c⟩)]
   by_cases r:0≤i∧i≤6
   ·
    rw [if_neg (by omega),if_pos r]
    by_cases e:n1=n2∧d1=d2
    ·
     rw [if_pos e,if_pos e]
    ·
     rw [if_neg e,if_neg e]
     obtain ⟨c1,c2⟩:=c
     have b1:=cp c1
     have b2:=cp c2
     have hz:=zerosE c1 c2 e
     unfold lineR
     by_cases z2:d2=0
     ·
      have z1:d1≠0:=fun z=>hz ⟨z,z2⟩
      rw [if_pos z2,if_pos z2]
      obtain ⟨l',e1,e2,e3⟩:=el (n:=n1) (dl:=-1) hp z1 (by omega) (by omega) k (by omega) (2*i+1).toNat i true [] (by simp;omega)
      rw [e1]
      simp only [Option.bind_some,Bool.true_and,List.nil_append]
      exact fin_eq _ _ e3
     ·
      rw [if_neg z2,if_neg z2]
      by_cases z1:d1=0
      ·
       rw [if_pos z1,if_pos z1]
       obtain ⟨l',e1,e2,e3⟩:=el (n:=n2) (dl:=1) hp z2 (by omega) (by omega) k (by omega) (2*i+1).toNat (-i) true [] (by simp;omega)
       rw [e1]
       simp only [Option.bind_some,Bool.true_and,List.nil_append]
       exact fin_eq _ _ e3
      ·
       rw [if_neg z1,if_neg z1,ey hp c1 c2 z1 z2 e k (by omega)]
       have hg:=gapz_bdE hp c1 c2 z1 z2 e
       simp only [Option.bind_some]
       generalize ce p n1 d1 n2 d2=G at *
       rw [if_pos (by omega)]
       obtain ⟨l',e1,e2,e3⟩:=el (n:=n1) (dl:=-1) hp z1 (by omega) (by omega) k (by omega) (i+1).toNat (G+i) true [] (by simp;omega)
       rw [e1]
       simp only [Option.bind_some,Bool.true_and,List.nil_append]
       obtain ⟨l2,f1,f2,f3⟩:=el (n:=n2) (dl:=1) hp z2 (by omega) (by omega) k (by omega) i.toNat (G+1) (rowB p n1 d1 (-1) (i+1).toNat (G+i)).isSome l' (by omega)
       rw [f1]
       simp only [Option.bind_some]
       cases o1:rowB p n1 d1 (-1) (i+1).toNat (G+i) with
       | none=>rfl
       | some x=>
        cases o2:rowB p n2 d2 1 i.toNat (G+1) with
        | none=>rfl
        | some y=>
         rw [e3 x o1,f3 y o2]
         rfl
   ·
    rw [if_pos (by omega),if_neg r]
  ·
   rw [if_neg (show ¬ (Pr p∧isE n1 d1∧isE n2 d2) from fun z=>c z.2),Bool.eq_false_iff.mpr (fun z=>c ((all2 _ _ _ _).1 z))]
   simp
 ·
  rw [g,if_neg (show ¬ (Pr p∧isE n1 d1∧isE n2 d2) from fun z=>hp z.1)]
  simp
theorem j2_one (k:Nat) (o:Option (List S25)) (ho:∀ x,o=some x→x.length≤1000) (hk:20≤k):aN.j2 k (eJ [] o).1 [] (eJ [] o).2 true=some (finR o):=by
 obtain ⟨k,rfl⟩:∃ j,k=j+3:=⟨k - 3,by omega⟩
 cases o with
 | none=>simp [eJ,aN.j2,aN.j3,finR]
 | some x=>simp [eJ,aN.j2,aN.j3,aN.l0,finR]
theorem j2_two (k:Nat) (o s:Option (List S25)) (ho:∀ x,o=some x→x.length≤1000) (hs:∀ x,s=some x→x.length≤1000) (hk:2000≤k):aN.j2 k (eJ [] o).1 (eJ [] s).1 (eJ [] o).2 (eJ [] s).2=some (finR (o.bind fun x=>s.map fun y=>x ++ y.drop 1)):=by
 obtain ⟨k,rfl⟩:∃ j,k=j+2:=⟨k - 2,by omega⟩
 cases o with
 | none=>simp [eJ,aN.j2,aN.j3,finR]
 | some x=>
  cases s with
  | none=>simp [eJ,aN.j2,aN.j3,finR]
  | some y=>
   have hx:=ho x rfl
   have hy:=hs y rfl
   simp only [eJ,aN.j2,aN.j3,finR,List.nil_append,if_true,Bool.not_true,Option.bind_some,Option.map_some]
   rw [if_neg (by simp)]
   by_cases z:y.length=0
   ·
    have:y=[]:=List.eq_nil_of_length_eq_zero z
    subst this
    obtain ⟨k,rfl⟩:∃ j,k=j+1:=⟨k - 1,by omega⟩
    simp [aN.l0]
   ·
    have:=app_l0 x y hx hy (y.length - 1) 1 x k (by omega) (by omega) (by omega)
    simpa using this
theorem spec_res (p n1 d1 n2 d2 i:Int) (hw : -9223372036854775808≤i∧i≤9223372036854775807):∃ K,∀ k,K≤k→aN.f k p n1 d1 n2 d2 i=some (res p n1 d1 n2 d2 i):=by
 obtain ⟨K,h⟩:=du p [] [⟨n1,d1⟩,⟨n2,d2⟩] (by simp) (by simp)
 refine ⟨K+13841289100,fun k hk=>?_⟩
 obtain ⟨k,rfl⟩:∃ j,k=j+2:=⟨k - 2,by omega⟩
 unfold aN.f res
 rw [h _ (by omega),dif2]
 simp only [Option.bind_some,fW,List.all_nil,and_true]
 by_cases c:Pr p∧isE n1 d1∧isE n2 d2
 ·
  rw [if_pos (show Pr p∧[(⟨n1,d1⟩:S28),⟨n2,d2⟩].all eOk=true from ⟨c.1,(all2 _ _ _ _).2 c.2⟩),if_pos c]
  obtain ⟨hp,c1,c2⟩:=c
  by_cases e:n1=n2∧d1=d2
  ·
   rw [decide_eq_true e]
   simp only [Bool.not_true,Bool.false_eq_true,if_false]
   rw [if_neg (by omega)]
   by_cases r:0≤i∧i≤6
   ·
    rw [decide_eq_true r,if_pos r,if_pos e];simp [aN.j0,aN.j1]
   ·
    rw [decide_eq_false r,if_neg r];simp [aN.j0,aN.j1]
  ·
   rw [decide_eq_false e]
   simp only [Bool.not_false,if_true]
   rw [if_neg (by omega)]
   by_cases r:0≤i∧i≤6
   ·
    rw [decide_eq_true r,if_pos r,if_neg e]
    have b1:=cp c1
    have b2:=cp c2
    have hz:=zerosE c1 c2 e
    simp only [aN.j0,aN.j1,Bool.not_true]
    rw [if_neg (by simp),if_pos trivial,w64 (n:=-i) (by omega) (by omega)]
    obtain ⟨m,rfl⟩:=Int.eq_ofNat_of_zero_le r.1
    unfold lineR
    by_cases z2:d2=0
    ·
     have z1:d1≠0:=fun z=>hz ⟨z,z2⟩
     rw [if_pos z2,if_pos z2,side_eq (dl:=-1) hp z1 (by omega) (by omega) (Or.inr rfl) (2*m) (by omega) (by omega) (by omega) (by omega) _ (by omega),show (2*(m:Int)+1).toNat=2*m+1 by omega]
     simp only [Option.bind_some]
     exact j2_one _ _ (fun x hx=>by have:=rowB_len _ _ _ _ _ _ _ hx;omega) (by omega)
    ·
     rw [if_neg z2,if_neg z2]
     by_cases z1:d1=0
     ·
      rw [if_pos z1,if_pos z1,side_eq (dl:=1) hp z2 (by omega) (by omega) (Or.inl rfl) (2*m) (by omega) (by omega) (by omega) (by omega) _ (by omega),show (2*(m:Int)+1).toNat=2*m+1 by omega]
      simp only [Option.bind_some]
      exact j2_one _ _ (fun x hx=>by have:=rowB_len _ _ _ _ _ _ _ hx;omega) (by omega)
     ·
      rw [if_neg z1,if_neg z1,dt hp c1 c2 z1 z2 e _ (by omega)]
      have hg:=gapz_bdE hp c1 c2 z1 z2 e
      have hc:n1*d2 - n2*d1≠0:=fun z=>e (eE c1 c2 z)
      have hpart:=PM.ballAt_part (g:=ce p n1 d1 n2 d2) hp z1 z2 hc (by unfold ce crs;omega)
      simp only [Option.bind_some]
      generalize ce p n1 d1 n2 d2=G at *
      rw [w64 (n:=G+(m:Int)) (by omega) (by omega),side_eq (dl:=-1) hp z1 (by omega) (by omega) (Or.inr rfl) m (by omega) (by omega) (by omega) (by omega) _ (by omega),side_eq (dl:=1) hp z2 (by omega) (by omega) (Or.inl rfl) m (by omega) (by omega) (by omega) (by omega) _ (by omega)]
      simp only [Option.bind_some]
      rw [j2_two _ _ _ (fun x hx=>by have:=rowB_len _ _ _ _ _ _ _ hx;omega) (fun x hx=>by have:=rowB_len _ _ _ _ _ _ _ hx;omega) (by omega)]
      rw [show ((m:Int)+1).toNat=m+1 by omega,show ((m:Nat):Int).toNat=m by omega]
      congr 2
      cases o1:rowB p n1 d1 (-1) (m+1) (G+m) with
      | none=>rfl
      | some x=>
       obtain ⟨b,hb⟩:=rowB_last m x o1
       rw [hpart] at hb
       rw [show rowB p n2 d2 1 (m+1) G=(rowB p n2 d2 1 m (G+1)).map (fun l=>eB b :: l) by conv=>lhs;rw [rowB,hb]]
       simp only [Option.bind_some,Option.map_map]
       cases rowB p n2 d2 1 m (G+1) <;> rfl
   ·
    rw [decide_eq_false r,if_neg r];simp [aN.j0,aN.j1]
 ·
  rw [if_neg (show ¬ (Pr p∧[(⟨n1,d1⟩:S28),⟨n2,d2⟩].all eOk=true) from fun z=>c ⟨z.1,(all2 _ _ _ _).1 z.2⟩),if_neg c]
  simp [aN.j0,aN.j1]
end BL
namespace IL
def res (p lv top dn n1 d1 n2 d2:Int):Bool × Int:=
 if (Pr p∧PM.Ok p ⟨lv,top,dn⟩)∧isE n1 d1∧isE n2 d2 then (if n1=n2∧d1=d2 then (false,5) else (brV p lv (PM.mark p ⟨lv,top,dn⟩) n1 d1 != brV p lv (PM.mark p ⟨lv,top,dn⟩) n2 d2,0)) else (false,1)
theorem impl_res (p lv top dn n1 d1 n2 d2:Int):∃ K,∀ k,K≤k→bP.f k p lv top dn n1 d1 n2 d2=some (res p lv top dn n1 d1 n2 d2):=by
 obtain ⟨K,hK⟩:=lineCode_eq p lv top dn n1 d1 n2 d2
 refine ⟨K+80,fun k hk=>?_⟩
 unfold bP.f res
 rw [hK k (by omega)]
 simp only [Option.bind_some]
 by_cases c:(Pr p∧PM.Ok p ⟨lv,top,dn⟩)∧isE n1 d1∧isE n2 d2
 ·
  rw [if_pos c,if_pos c]
  by_cases q:n1=n2∧d1=d2
  ·
   rw [if_pos q,if_pos q];rfl
  ·
   rw [if_neg q,if_neg q,if_pos rfl,branch_eq c.1.1 c.1.2 c.2.1 k (by omega),branch_eq c.1.1 c.1.2 c.2.2 k (by omega)];rfl
 ·
  rw [if_neg c,if_neg c];rfl
end IL
namespace CV
theorem all4 (a b c d e f g h:Int):([(⟨a,b⟩:S28),⟨c,d⟩,⟨e,f⟩,⟨g,h⟩].all eOk=true)↔(isE a b∧isE c d∧isE e f∧isE g h):=by
 simp [eOk]
theorem dif4 (a b c d e f g h:Int):dif [(⟨a,b⟩:S28),⟨c,d⟩,⟨e,f⟩,⟨g,h⟩]=true→¬ (a=e∧b=f)∧¬ (a=g∧b=h)∧¬ (c=e∧d=f)∧¬ (c=g∧d=h):=by
 simp [dif,dk,difAt,am]
 intro h0 h1 h2 h3 h4 h5
 omega
def cvz (p a b c d e f g h:Int):Int:=(vl p (crs a b e f):Int)+vl p (crs c d g h) - vl p (crs a b g h) - vl p (crs c d e f)
def res (p a b c d e f g h:Int):Int × Int:=
 if Pr p∧isE a b∧isE c d∧isE e f∧isE g h then (if dif [(⟨a,b⟩:S28),⟨c,d⟩,⟨e,f⟩,⟨g,h⟩]=true then (cvz p a b c d e f g h,0) else (0,5)) else (0,1)
theorem vbd {p n1 d1 n2 d2:Int} (hp:Pr p) (h1:isE n1 d1) (h2:isE n2 d2) (hne:¬ (n1=n2∧d1=d2)):crs n1 d1 n2 d2≠0∧(crs n1 d1 n2 d2).natAbs≤9223372036854775807∧vl p (crs n1 d1 n2 d2)≤63:=by
 have hc:crs n1 d1 n2 d2≠0:=fun h=>hne (eE h1 h2 h)
 have hb:=crs_bd h1 h2
 exact ⟨hc,by omega,ci hp hc (by omega)⟩
theorem spec_res (p a b c d e f g h:Int):∃ K,∀ k,K≤k→bM.f k p a b c d e f g h=some (res p a b c d e f g h):=by
 obtain ⟨K,hK⟩:=du p [] [⟨a,b⟩,⟨c,d⟩,⟨e,f⟩,⟨g,h⟩] (by simp) (by simp)
 refine ⟨K+70,fun k hk=>?_⟩
 unfold bM.f res
 rw [hK k (by omega)]
 simp only [all4,List.all_nil,and_true]
 by_cases z:Pr p∧isE a b∧isE c d∧isE e f∧isE g h
 ·
  rw [if_pos z,if_pos z]
  obtain ⟨hp,z1,z2,z3,z4⟩:=z
  by_cases y:dif [(⟨a,b⟩:S28),⟨c,d⟩,⟨e,f⟩,⟨g,h⟩]=true
  ·
   obtain ⟨y1,y2,y3,y4⟩:=dif4 _ _ _ _ _ _ _ _ y
   obtain ⟨u1,u2,u3⟩:=vbd hp z1 z3 y1
   obtain ⟨v1,v2,v3⟩:=vbd hp z2 z4 y4
   obtain ⟨w1,w2,w3⟩:=vbd hp z1 z4 y2
   obtain ⟨x1,x2,x3⟩:=vbd hp z2 z3 y3
   rw [if_pos y,if_pos y,dG z1 z3,dG z2 z4,dG z1 z4,dG z2 z3]
   simp only [Option.bind_some,if_true]
   rw [es p _ hp u1 u2 k (by omega),es p _ hp v1 v2 k (by omega),es p _ hp w1 w2 k (by omega),es p _ hp x1 x2 k (by omega)]
   simp only [Option.bind_some,cvz]
   rw [w64 (n:=(vl p (crs a b e f):Int)+vl p (crs c d g h)) (by omega) (by omega),w64 (n:=(vl p (crs a b e f):Int)+vl p (crs c d g h) - vl p (crs a b g h)) (by omega) (by omega),w64 (by omega) (by omega)]
  ·
   rw [if_neg y,if_neg y];simp
 ·
  rw [if_neg z,if_neg z];simp
theorem impl_res (p a b c d e f g h:Int):∃ K,∀ k,K≤k→bF.f k p a b c d e f g h=some (res p a b c d e f g h):=by
 obtain ⟨K,hK⟩:=dh [⟨a,b⟩,⟨c,d⟩,⟨e,f⟩,⟨g,h⟩] (by simp)
 obtain ⟨K2,hK2⟩:=eI [⟨a,b⟩,⟨c,d⟩,⟨e,f⟩,⟨g,h⟩] (by simp)
 refine ⟨K+K2+70,fun k hk=>?_⟩
 unfold bF.f b6.f res
 rw [dW]
 rcases ct p with ⟨q,hp⟩|⟨q,hp⟩
 ·
  have hp:Pr p:=hp
  rw [q,hK k (by omega),hK2 k (by omega)]
  simp only [Option.bind_some,if_true]
  by_cases z:isE a b∧isE c d∧isE e f∧isE g h
  ·
   have hz:Pr p∧isE a b∧isE c d∧isE e f∧isE g h:=⟨hp,z⟩
   rw [(all4 _ _ _ _ _ _ _ _).2 z,if_pos hz,if_pos rfl]
   obtain ⟨z1,z2,z3,z4⟩:=z
   by_cases y:dif [(⟨a,b⟩:S28),⟨c,d⟩,⟨e,f⟩,⟨g,h⟩]=true
   ·
    obtain ⟨y1,y2,y3,y4⟩:=dif4 _ _ _ _ _ _ _ _ y
    obtain ⟨u1,u2,u3⟩:=vbd hp z1 z3 y1
    obtain ⟨v1,v2,v3⟩:=vbd hp z2 z4 y4
    obtain ⟨w1,w2,w3⟩:=vbd hp z1 z4 y2
    obtain ⟨x1,x2,x3⟩:=vbd hp z2 z3 y3
    rw [if_pos y,if_pos y,dm z1 z3,dm z2 z4,dm z1 z4,dm z2 z3]
    simp only [Option.bind_some,if_true]
    rw [bs p _ hp u2 k (by omega),bs p _ hp v2 k (by omega),bs p _ hp w2 k (by omega),bs p _ hp x2 k (by omega),b8 u1,b8 v1,b8 w1,b8 x1]
    simp only [Option.bind_some,cvz]
    rw [w64 (n:=(vl p (crs a b e f):Int)+vl p (crs c d g h)) (by omega) (by omega),w64 (n:=(vl p (crs a b e f):Int)+vl p (crs c d g h) - vl p (crs a b g h)) (by omega) (by omega),w64 (by omega) (by omega)]
   ·
    rw [if_neg y,if_neg y];simp
  ·
   rw [Bool.eq_false_iff.mpr (fun w=>z ((all4 _ _ _ _ _ _ _ _).1 w)),if_neg (show ¬ (Pr p∧isE a b∧isE c d∧isE e f∧isE g h) from fun w=>z w.2)];simp
 ·
  rw [q,if_neg (show ¬ (Pr p∧isE a b∧isE c d∧isE e f∧isE g h) from fun w=>hp w.1)];simp
end CV
namespace CR
theorem all4 (a b c d e f g h:Int):([(⟨a,b⟩:S28),⟨c,d⟩,⟨e,f⟩,⟨g,h⟩].all eOk=true)↔(isE a b∧isE c d∧isE e f∧isE g h):=by
 simp [eOk]
theorem dif4 (a b c d e f g h:Int):dif [(⟨a,b⟩:S28),⟨c,d⟩,⟨e,f⟩,⟨g,h⟩]=true→¬ (a=e∧b=f)∧¬ (a=g∧b=h)∧¬ (c=e∧d=f)∧¬ (c=g∧d=h):=by
 simp [dif,dk,difAt,am]
 intro h0 h1 h2 h3 h4 h5
 omega
theorem quo {x y:Int} (hx:x≠0) (hy:y≠0) (bx:x.natAbs≤4611686018427387904) (b_y:y.natAbs≤4611686018427387904):(Int.gcd x y:Int)≠0∧wrap64 (x.tdiv (Int.gcd x y:Int))=x.tdiv (Int.gcd x y:Int)∧wrap64 (y.tdiv (Int.gcd x y:Int))=y.tdiv (Int.gcd x y:Int)∧x.tdiv (Int.gcd x y:Int)≠0∧y.tdiv (Int.gcd x y:Int)≠0∧(x.tdiv (Int.gcd x y:Int)).natAbs≤x.natAbs∧(y.tdiv (Int.gcd x y:Int)).natAbs≤y.natAbs:=by
 have g0:(Int.gcd x y:Int)≠0:=by
  intro h
  have:Int.gcd x y=0:=by omega
  exact hx (Int.gcd_eq_zero_iff.mp this).1
 have d1:(Int.gcd x y:Int) ∣ x:=Int.gcd_dvd_left ..
 have d2:(Int.gcd x y:Int) ∣ y:=Int.gcd_dvd_right ..
 generalize (Int.gcd x y:Int)=g at *
 have a1:=PM.tdiv_abs_le x g
 have a2:=PM.tdiv_abs_le y g
 refine ⟨g0,w64 (by omega) (by omega),w64 (by omega) (by omega),?_,?_,a1,a2⟩
 ·
  intro h
  have:=Int.tdiv_mul_cancel d1
  rw [h,Int.zero_mul] at this;exact hx this.symm
 ·
  intro h
  have:=Int.tdiv_mul_cancel d2
  rw [h,Int.zero_mul] at this;exact hy this.symm
def fin (x:Int × Int × Bool):Int × Int × Int:=if x.2.2=true then (x.1,x.2.1,0) else (0,0,3)
def lastC (A B C D:Int):Int × Int × Int:=if (A.natAbs≤1000000∧B.natAbs≤1000000)∧C.natAbs≤1000000∧D.natAbs≤1000000 then fin (fX (A*B) (C*D)) else (0,0,3)
def red4 (A B C D:Int):Int × Int × Int:=lastC A (B.tdiv (Int.gcd B D:Int)) C (D.tdiv (Int.gcd B D:Int))
def red3 (A B C D:Int):Int × Int × Int:=red4 A (B.tdiv (Int.gcd B C:Int)) (C.tdiv (Int.gcd B C:Int)) D
def red2 (A B C D:Int):Int × Int × Int:=red3 (A.tdiv (Int.gcd A D:Int)) B C (D.tdiv (Int.gcd A D:Int))
def red1 (A B C D:Int):Int × Int × Int:=red2 (A.tdiv (Int.gcd A C:Int)) B (C.tdiv (Int.gcd A C:Int)) D
def res (a b c d e f g h:Int):Int × Int × Int:=
 if isE a b∧isE c d∧isE e f∧isE g h then (if dif [(⟨a,b⟩:S28),⟨c,d⟩,⟨e,f⟩,⟨g,h⟩]=true then red1 (crs a b e f) (crs c d g h) (crs a b g h) (crs c d e f) else (0,0,5)) else (0,0,1)
theorem cbd {n1 d1 n2 d2:Int} (h1:isE n1 d1) (h2:isE n2 d2) (hne:¬ (n1=n2∧d1=d2)):crs n1 d1 n2 d2≠0∧(crs n1 d1 n2 d2).natAbs≤4611686018427387904:=by
 have hb:=crs_bd h1 h2
 exact ⟨fun h=>hne (eE h1 h2 h),by omega⟩
theorem mulB {x y:Int} (hx:x.natAbs≤1000000) (hy:y.natAbs≤1000000):wrap64 (x*y)=x*y∧(x*y).natAbs≤4611686018427387904:=by
 have:(x*y).natAbs≤1000000*1000000:=by rw [Int.natAbs_mul];exact Nat.mul_le_mul hx hy
 exact ⟨w64 (by omega) (by omega),by omega⟩
theorem spec_last {A B C D:Int} (hA:A.natAbs≤4611686018427387904) (hB:B.natAbs≤4611686018427387904) (hC:C.natAbs≤4611686018427387904) (hD:D.natAbs≤4611686018427387904):∃ K,∀ k,K≤k→
  (if (mx (mx (mx (mx (mx (mx (mx A (wrap64 (-A))) B) (wrap64 (-B))) C) (wrap64 (-C))) D) (wrap64 (-D)))>1000000 then some (0,0,3) else (aZ.f k (wrap64 (A*B)) (wrap64 (C*D))).bind fun bt=>if bt.2.2=true then some (bt.1,bt.2.1,0) else some (0,0,3))=some (lastC A B C D):=by
 simp only [mx_max]
 rw [w64 (n:=-A) (by omega) (by omega),w64 (n:=-B) (by omega) (by omega),w64 (n:=-C) (by omega) (by omega),w64 (n:=-D) (by omega) (by omega)]
 by_cases c:(A.natAbs≤1000000∧B.natAbs≤1000000)∧C.natAbs≤1000000∧D.natAbs≤1000000
 ·
  obtain ⟨m1,m2⟩:=mulB c.1.1 c.1.2
  obtain ⟨m3,m4⟩:=mulB c.2.1 c.2.2
  obtain ⟨K,hK⟩:=fG m2 m4
  refine ⟨K,fun k hk=>?_⟩
  unfold lastC
  rw [if_neg (by omega),if_pos c,m1,m3,hK k hk]
  simp only [Option.bind_some]
  unfold fin
  by_cases q:(fX (A*B) (C*D)).2.2=true
  ·
   rw [if_pos q,if_pos q]
  ·
   rw [if_neg q,if_neg q]
 ·
  refine ⟨0,fun k hk=>?_⟩
  unfold lastC
  rw [if_pos (by omega),if_neg c]
theorem impl_last {A B C D:Int} (hA:A.natAbs≤4611686018427387904) (hB:B.natAbs≤4611686018427387904) (hC:C.natAbs≤4611686018427387904) (hD:D.natAbs≤4611686018427387904):∃ K,∀ k,K≤k→
  aJ.l0 k [A,B] [C,D] 2 2=some (lastC A B C D):=by
 obtain ⟨K1,w1⟩:=fM 1000000 (by omega) (by omega) [A,B] (by simp)
 obtain ⟨K2,w2⟩:=fM 1000000 (by omega) (by omega) [C,D] (by simp)
 have e1:allB 1000000 [A,B]=decide (A.natAbs≤1000000∧B.natAbs≤1000000):=by
  rw [Bool.eq_iff_iff];simp [allB];omega
 have e2:allB 1000000 [C,D]=decide (C.natAbs≤1000000∧D.natAbs≤1000000):=by
  rw [Bool.eq_iff_iff];simp [allB];omega
 rw [e1] at w1
 rw [e2] at w2
 by_cases c1:A.natAbs≤1000000∧B.natAbs≤1000000
 ·
  by_cases c2:C.natAbs≤1000000∧D.natAbs≤1000000
  ·
   obtain ⟨m1,m2⟩:=mulB c1.1 c1.2
   obtain ⟨m3,m4⟩:=mulB c2.1 c2.2
   obtain ⟨K,hK⟩:=endAt_eq m2 m4
   refine ⟨K+K1+K2+2,fun k hk=>?_⟩
   obtain ⟨k,rfl⟩:∃ m,k=m+1+1:=⟨k - 2,by omega⟩
   simp only [aJ.l0]
   rw [if_neg (by omega),w1 _ (by omega),decide_eq_true c1]
   simp only [Option.bind_some,if_true]
   rw [w2 _ (by omega),decide_eq_true c2]
   simp only [Option.bind_some,aJ.j2]
   rw [if_neg (by simp),if_pos (by simp),if_pos (by simp),if_pos (by simp),if_pos (by simp),show rd [A,B] 0=A from rfl,show rd [A,B] 1=B from rfl,show rd [C,D] 0=C from rfl,show rd [C,D] 1=D from rfl,m1,m3,hK k (by omega)]
   simp only [Option.bind_some]
   unfold lastC fin dO.f
   rw [if_pos (show (A.natAbs≤1000000∧B.natAbs≤1000000)∧C.natAbs≤1000000∧D.natAbs≤1000000 from ⟨c1,c2⟩)]
   by_cases q:(fX (A*B) (C*D)).2.2=true
   ·
    rw [if_pos q,if_pos q];rfl
   ·
    rw [if_neg q,if_neg q];rfl
  ·
   refine ⟨K1+K2+2,fun k hk=>?_⟩
   obtain ⟨k,rfl⟩:∃ m,k=m+1+1:=⟨k - 2,by omega⟩
   simp only [aJ.l0]
   rw [if_neg (by omega),w1 _ (by omega),decide_eq_true c1]
   simp only [Option.bind_some,if_true]
   rw [w2 _ (by omega),decide_eq_false c2]
   simp only [Option.bind_some,aJ.j2]
   unfold lastC
   rw [if_pos (by simp),if_neg (fun z=>c2 z.2)]
 ·
  refine ⟨K1+K2+2,fun k hk=>?_⟩
  obtain ⟨k,rfl⟩:∃ m,k=m+1+1:=⟨k - 2,by omega⟩
  simp only [aJ.l0]
  rw [if_neg (by omega),w1 _ (by omega),decide_eq_false c1]
  simp only [Option.bind_some,aJ.j2]
  unfold lastC
  rw [if_neg (by simp),if_pos trivial,if_neg (fun z=>c1 z.1)]
theorem spec_res (a b c d e f g h:Int):∃ K,∀ k,K≤k→aM.f k a b c d e f g h=some (res a b c d e f g h):=by
 obtain ⟨K,hK⟩:=du 2 [] [⟨a,b⟩,⟨c,d⟩,⟨e,f⟩,⟨g,h⟩] (by simp) (by simp)
 have hp2:Pr 2:=Or.inl rfl
 by_cases z:isE a b∧isE c d∧isE e f∧isE g h
 ·
  obtain ⟨z1,z2,z3,z4⟩:=z
  by_cases y:dif [(⟨a,b⟩:S28),⟨c,d⟩,⟨e,f⟩,⟨g,h⟩]=true
  ·
   obtain ⟨y1,y2,y3,y4⟩:=dif4 _ _ _ _ _ _ _ _ y
   obtain ⟨A0,A1⟩:=cbd z1 z3 y1
   obtain ⟨B0,B1⟩:=cbd z2 z4 y4
   obtain ⟨C0,C1⟩:=cbd z1 z4 y2
   obtain ⟨D0,D1⟩:=cbd z2 z3 y3
   obtain ⟨A,hA⟩:∃ A,crs a b e f=A:=⟨_,rfl⟩
   obtain ⟨B,hB⟩:∃ B,crs c d g h=B:=⟨_,rfl⟩
   obtain ⟨C,hC⟩:∃ C,crs a b g h=C:=⟨_,rfl⟩
   obtain ⟨D,hD⟩:∃ D,crs c d e f=D:=⟨_,rfl⟩
   rw [hA] at A0 A1
   rw [hB] at B0 B1
   rw [hC] at C0 C1
   rw [hD] at D0 D1
   obtain ⟨p1,p2,p3,p4,p5,p6,p7⟩:=quo A0 C0 A1 C1
   obtain ⟨K1,g1⟩:=eO A C (by omega) (by omega)
   obtain ⟨q1,q2,q3,q4,q5,q6,q7⟩:=quo p4 D0 (by omega) D1
   obtain ⟨K2,g2⟩:=eO (A.tdiv (Int.gcd A C:Int)) D (by omega) (by omega)
   obtain ⟨r1,r2,r3,r4,r5,r6,r7⟩:=quo B0 p5 B1 (by omega)
   obtain ⟨K3,g3⟩:=eO B (C.tdiv (Int.gcd A C:Int)) (by omega) (by omega)
   obtain ⟨s1,s2,s3,s4,s5,s6,s7⟩:=quo r4 q5 (by omega) (by omega)
   obtain ⟨K4,g4⟩:=eO (B.tdiv (Int.gcd B (C.tdiv (Int.gcd A C:Int)):Int)) (D.tdiv (Int.gcd (A.tdiv (Int.gcd A C:Int)) D:Int)) (by omega) (by omega)
   obtain ⟨K5,hlast⟩:=spec_last (A:=(A.tdiv (Int.gcd A C:Int)).tdiv (Int.gcd (A.tdiv (Int.gcd A C:Int)) D:Int)) (B:=(B.tdiv (Int.gcd B (C.tdiv (Int.gcd A C:Int)):Int)).tdiv (Int.gcd (B.tdiv (Int.gcd B (C.tdiv (Int.gcd A C:Int)):Int)) (D.tdiv (Int.gcd (A.tdiv (Int.gcd A C:Int)) D:Int)):Int)) (C:=(C.tdiv (Int.gcd A C:Int)).tdiv (Int.gcd B (C.tdiv (Int.gcd A C:Int)):Int)) (D:=(D.tdiv (Int.gcd (A.tdiv (Int.gcd A C:Int)) D:Int)).tdiv (Int.gcd (B.tdiv (Int.gcd B (C.tdiv (Int.gcd A C:Int)):Int)) (D.tdiv (Int.gcd (A.tdiv (Int.gcd A C:Int)) D:Int)):Int)) (by omega) (by omega) (by omega) (by omega)
   refine ⟨K+K1+K2+K3+K4+K5,fun k hk=>?_⟩
   unfold aM.f res
   rw [hK k (by omega)]
   simp only [all4,List.all_nil,and_true]
   rw [if_pos (show Pr 2∧isE a b∧isE c d∧isE e f∧isE g h from ⟨hp2,z1,z2,z3,z4⟩),if_pos y,if_pos (show isE a b∧isE c d∧isE e f∧isE g h from ⟨z1,z2,z3,z4⟩),if_pos y,dG z1 z3,dG z2 z4,dG z1 z4,dG z2 z3,hA,hB,hC,hD]
   simp only [Option.bind_some,if_true]
   rw [g1 k (by omega)]
   simp only [Option.bind_some]
   rw [if_neg p1,p2,p3,g2 k (by omega)]
   simp only [Option.bind_some]
   rw [if_neg q1,q2,q3,g3 k (by omega)]
   simp only [Option.bind_some]
   rw [if_neg r1,r2,r3,g4 k (by omega)]
   simp only [Option.bind_some]
   rw [if_neg s1,s2,s3]
   exact hlast k (by omega)
  ·
   refine ⟨K,fun k hk=>?_⟩
   unfold aM.f res
   rw [hK k (by omega)]
   simp only [all4,List.all_nil,and_true]
   rw [if_pos (show Pr 2∧isE a b∧isE c d∧isE e f∧isE g h from ⟨hp2,z1,z2,z3,z4⟩),if_neg y,if_pos (show isE a b∧isE c d∧isE e f∧isE g h from ⟨z1,z2,z3,z4⟩),if_neg y]
   simp
 ·
  refine ⟨K,fun k hk=>?_⟩
  unfold aM.f res
  rw [hK k (by omega)]
  simp only [all4,List.all_nil,and_true]
  rw [if_neg (fun w=>z w.2),if_neg z]
  simp
theorem l1_step {k:Nat} {X Y:List Int} {i j q:Int} {g:Int} (hi:0≤i) (hi2:i<2) (hj:0≤j) (hj2:j<2) (hX:X.length=2) (hY:Y.length=2) (hg:cW.f k (rd X i) (rd Y j)=some g) (g0:g≠0) :
  aJ.l1 (k+1) X Y i 2 q 2 j=aJ.l1 k (X.set i.toNat (wrap64 ((rd X i).tdiv g))) (Y.set j.toNat (wrap64 ((rd Y j).tdiv g))) i 2 q 2 (j+1):=by
 simp only [aJ.l1]
 rw [if_pos hj2,if_pos hi,if_pos (by omega),if_pos hj,if_pos (by omega),hg]
 simp only [Option.bind_some]
 rw [if_neg g0,w64 (n:=j+1) (by omega) (by omega)]
theorem impl_res (a b c d e f g h:Int):∃ K,∀ k,K≤k→aJ.f k a b c d e f g h=some (res a b c d e f g h):=by
 obtain ⟨K0,hK⟩:=dh [⟨a,b⟩,⟨c,d⟩,⟨e,f⟩,⟨g,h⟩] (by simp)
 obtain ⟨K9,hK2⟩:=eI [⟨a,b⟩,⟨c,d⟩,⟨e,f⟩,⟨g,h⟩] (by simp)
 by_cases z:isE a b∧isE c d∧isE e f∧isE g h
 ·
  have z':=(all4 _ _ _ _ _ _ _ _).2 z
  obtain ⟨z1,z2,z3,z4⟩:=z
  by_cases y:dif [(⟨a,b⟩:S28),⟨c,d⟩,⟨e,f⟩,⟨g,h⟩]=true
  ·
   obtain ⟨y1,y2,y3,y4⟩:=dif4 _ _ _ _ _ _ _ _ y
   obtain ⟨A0,A1⟩:=cbd z1 z3 y1
   obtain ⟨B0,B1⟩:=cbd z2 z4 y4
   obtain ⟨C0,C1⟩:=cbd z1 z4 y2
   obtain ⟨D0,D1⟩:=cbd z2 z3 y3
   obtain ⟨A,hA⟩:∃ A,crs a b e f=A:=⟨_,rfl⟩
   obtain ⟨B,hB⟩:∃ B,crs c d g h=B:=⟨_,rfl⟩
   obtain ⟨C,hC⟩:∃ C,crs a b g h=C:=⟨_,rfl⟩
   obtain ⟨D,hD⟩:∃ D,crs c d e f=D:=⟨_,rfl⟩
   rw [hA] at A0 A1
   rw [hB] at B0 B1
   rw [hC] at C0 C1
   rw [hD] at D0 D1
   obtain ⟨p1,p2,p3,p4,p5,p6,p7⟩:=quo A0 C0 A1 C1
   obtain ⟨K1,g1⟩:=gcd_eq A C (by omega) (by omega)
   obtain ⟨q1,q2,q3,q4,q5,q6,q7⟩:=quo p4 D0 (by omega) D1
   obtain ⟨K2,g2⟩:=gcd_eq (A.tdiv (Int.gcd A C:Int)) D (by omega) (by omega)
   obtain ⟨r1,r2,r3,r4,r5,r6,r7⟩:=quo B0 p5 B1 (by omega)
   obtain ⟨K3,g3⟩:=gcd_eq B (C.tdiv (Int.gcd A C:Int)) (by omega) (by omega)
   obtain ⟨s1,s2,s3,s4,s5,s6,s7⟩:=quo r4 q5 (by omega) (by omega)
   obtain ⟨K4,g4⟩:=gcd_eq (B.tdiv (Int.gcd B (C.tdiv (Int.gcd A C:Int)):Int)) (D.tdiv (Int.gcd (A.tdiv (Int.gcd A C:Int)) D:Int)) (by omega) (by omega)
   obtain ⟨K5,hlast⟩:=impl_last (A:=(A.tdiv (Int.gcd A C:Int)).tdiv (Int.gcd (A.tdiv (Int.gcd A C:Int)) D:Int)) (B:=(B.tdiv (Int.gcd B (C.tdiv (Int.gcd A C:Int)):Int)).tdiv (Int.gcd (B.tdiv (Int.gcd B (C.tdiv (Int.gcd A C:Int)):Int)) (D.tdiv (Int.gcd (A.tdiv (Int.gcd A C:Int)) D:Int)):Int)) (C:=(C.tdiv (Int.gcd A C:Int)).tdiv (Int.gcd B (C.tdiv (Int.gcd A C:Int)):Int)) (D:=(D.tdiv (Int.gcd (A.tdiv (Int.gcd A C:Int)) D:Int)).tdiv (Int.gcd (B.tdiv (Int.gcd B (C.tdiv (Int.gcd A C:Int)):Int)) (D.tdiv (Int.gcd (A.tdiv (Int.gcd A C:Int)) D:Int)):Int)) (by omega) (by omega) (by omega) (by omega)
   refine ⟨K0+K1+K2+K3+K4+K5+K9+10,fun k hk=>?_⟩
   obtain ⟨k,rfl⟩:∃ m,k=m+1+1+1+1+1+1+1+1:=⟨k - 8,by omega⟩
   unfold aJ.f b6.f res
   rw [hK _ (by omega),hK2 _ (by omega),z',y,dm z1 z3,dm z2 z4,dm z1 z4,dm z2 z3,hA,hB,hC,hD]
   simp only [Option.bind_some,if_true]
   rw [if_pos (show isE a b∧isE c d∧isE e f∧isE g h from ⟨z1,z2,z3,z4⟩)]
   rw [show (([A,B].length:Nat):Int)=2 from rfl]
   simp only [aJ.l0]
   rw [if_pos (by omega),show (([C,D].length:Nat):Int)=2 from rfl]
   rw [l1_step (by omega) (by omega) (by omega) (by omega) rfl rfl (g1 _ (by omega)) p1]
   rw [show rd [A,B] 0=A from rfl,show rd [C,D] 0=C from rfl,p2,p3,show ∀ x:Int,[A,B].set (0:Int).toNat x=[x,B] from fun _=>rfl,show ∀ x:Int,[C,D].set (0:Int).toNat x=[x,D] from fun _=>rfl]
   rw [l1_step (by omega) (by omega) (by omega) (by omega) rfl rfl (g2 _ (by omega)) q1]
   rw [show ∀ x:Int,rd [x,B] 0=x from fun _=>rfl,show ∀ x:Int,rd [x,D] (0+1)=D from fun _=>rfl,q2,q3,show ∀ x y:Int,[x,B].set (0:Int).toNat y=[y,B] from fun _ _=>rfl,show ∀ x y:Int,[x,D].set (0+1:Int).toNat y=[x,y] from fun _ _=>rfl]
   simp only [aJ.l1]
   rw [if_neg (by omega)]
   simp only [aJ.l0]
   rw [w64 (n:=0+1) (by omega) (by omega),if_pos (by omega),show ∀ x y:Int,(([x,y].length:Nat):Int)=2 from fun _ _=>rfl]
   rw [l1_step (by omega) (by omega) (by omega) (by omega) rfl rfl (g3 _ (by omega)) r1]
   rw [show ∀ x:Int,rd [x,B] (0+1)=B from fun _=>rfl,show ∀ x y:Int,rd [x,y] 0=x from fun _ _=>rfl,r2,r3,show ∀ x y:Int,[x,B].set (0+1:Int).toNat y=[x,y] from fun _ _=>rfl,show ∀ x y t:Int,[x,y].set (0:Int).toNat t=[t,y] from fun _ _ _=>rfl]
   rw [l1_step (by omega) (by omega) (by omega) (by omega) rfl rfl (g4 _ (by omega)) s1]
   rw [show ∀ x y:Int,rd [x,y] (0+1)=y from fun _ _=>rfl,show ∀ x y:Int,rd [x,y] (0+1)=y from fun _ _=>rfl,s2,s3,show ∀ x y t:Int,[x,y].set (0+1:Int).toNat t=[x,t] from fun _ _ _=>rfl,show ∀ x y t:Int,[x,y].set (0+1:Int).toNat t=[x,t] from fun _ _ _=>rfl]
   simp only [aJ.l1]
   rw [if_neg (by omega),w64 (n:=0+1+1) (by omega) (by omega)]
   exact hlast _ (by omega)
  ·
   refine ⟨K0+K9,fun k hk=>?_⟩
   unfold aJ.f b6.f res
   rw [hK _ (by omega),hK2 _ (by omega),z',if_pos (show isE a b∧isE c d∧isE e f∧isE g h from ⟨z1,z2,z3,z4⟩),if_neg y,Bool.eq_false_iff.mpr y]
   simp
 ·
  refine ⟨K0,fun k hk=>?_⟩
  unfold aJ.f b6.f res
  rw [hK _ (by omega),Bool.eq_false_iff.mpr (fun w=>z ((all4 _ _ _ _ _ _ _ _).1 w)),if_neg z]
  simp
end CR
namespace GA
def res (p n1 d1 n2 d2:Int):Int × Int:=
 if Pr p∧isE n1 d1∧isE n2 d2 then (if (n1=n2∧d1=d2)∨d1=0∨d2=0 then (0,5) else (ce p n1 d1 n2 d2,0)) else (0,1)
theorem spec_res (p n1 d1 n2 d2:Int):∃ K,∀ k,K≤k→cx.f k p n1 d1 n2 d2=some (res p n1 d1 n2 d2):=by
 obtain ⟨K,h⟩:=du p [] [⟨n1,d1⟩,⟨n2,d2⟩] (by simp) (by simp)
 refine ⟨K+70,fun k hk=>?_⟩
 unfold cx.f bu.f res
 rw [h k (by omega),dif2]
 simp only [all2,List.all_nil,and_true]
 by_cases c:Pr p∧isE n1 d1∧isE n2 d2
 ·
  rw [if_pos c,if_pos c]
  by_cases e:n1=n2∧d1=d2
  ·
   rw [decide_eq_true e,if_pos (Or.inl e)];simp
  ·
   rw [decide_eq_false e]
   by_cases z1:d1=0
   ·
    simp [z1]
   ·
    by_cases z2:d2=0
    ·
     simp [z1,z2]
    ·
     have hz:¬ ((n1=n2∧d1=d2)∨d1=0∨d2=0):=by
      rintro (h|h|h)
      ·
       exact e h
      ·
       exact z1 h
      ·
       exact z2 h
     rw [if_neg hz]
     simp [z1,z2,dt c.1 c.2.1 c.2.2 z1 z2 e k (by omega)]
 ·
  rw [if_neg c,if_neg c];simp
theorem impl_res (p n1 d1 n2 d2:Int):∃ K,∀ k,K≤k→dB.f k p n1 d1 n2 d2=some (res p n1 d1 n2 d2):=by
 obtain ⟨K,h⟩:=dh [⟨n1,d1⟩,⟨n2,d2⟩] (by simp)
 refine ⟨K+71,fun k hk=>?_⟩
 obtain ⟨k,rfl⟩:∃ m,k=m+1:=⟨k - 1,by omega⟩
 unfold dB.f af.f res
 rw [h _ (by omega),dW]
 rcases ct p with ⟨g,hp⟩|⟨g,hp⟩
 ·
  have hp:Pr p:=hp
  rw [g]
  simp only [Option.bind_some,if_true]
  by_cases c:isE n1 d1∧isE n2 d2
  ·
   have hz0:Pr p∧isE n1 d1∧isE n2 d2:=⟨hp,c⟩
   rw [(all2 _ _ _ _).2 c,if_pos hz0]
   by_cases e:n1=n2∧d1=d2
   ·
    rw [if_pos (Or.inl e)];simp [af.j0,e]
   ·
    have e':¬ ((n1 == n2 && (d1 == d2))=true):=by simpa using e
    by_cases z1:d1=0
    ·
     simp [af.j0,z1]
    ·
     by_cases z2:d2=0
     ·
      simp [af.j0,z1,z2]
     ·
      have hz:¬ ((n1=n2∧d1=d2)∨d1=0∨d2=0):=by
       rintro (h|h|h)
       ·
        exact e h
       ·
        exact z1 h
       ·
        exact z2 h
      rw [if_neg hz]
      simp only [af.j0,Bool.not_true]
      rw [if_neg (by simp),if_neg e',if_neg z1,if_neg z2]
      simp [ey hp c.1 c.2 z1 z2 e (k+1) (by omega)]
  ·
   rw [if_neg (fun z=>c z.2),Bool.eq_false_iff.mpr (fun z=>c ((all2 _ _ _ _).1 z))]
   simp [af.j0]
 ·
  rw [g,if_neg (fun z=>hp z.1)]
  simp [af.j0]
end GA
namespace AP
def res (p n1 d1 n2 d2:Int):Int × Int × Int × Int:=
 if frc p n1 d1 n2 d2=0 then fI 3 (PM.ballAt p n1 d1 (ce p n1 d1 n2 d2)) else (0,0,0,frc p n1 d1 n2 d2)
theorem frc_zero {p n1 d1 n2 d2:Int} (h:frc p n1 d1 n2 d2=0):Pr p∧isE n1 d1∧isE n2 d2∧¬ (n1=n2∧d1=d2)∧d1≠0∧d2≠0:=by
 unfold frc at h
 by_cases c:Pr p∧isE n1 d1∧isE n2 d2
 ·
  rw [if_pos c] at h
  by_cases e:(n1=n2∧d1=d2)∨d1=0∨d2=0
  ·
   rw [if_pos e] at h;omega
  ·
   exact ⟨c.1,c.2.1,c.2.2,fun z=>e (Or.inl z),fun z=>e (Or.inr (Or.inl z)),fun z=>e (Or.inr (Or.inr z))⟩
 ·
  rw [if_neg c] at h;omega
theorem spec_res (p n1 d1 n2 d2:Int):∃ K,∀ k,K≤k→bb.f k p n1 d1 n2 d2=some (res p n1 d1 n2 d2):=by
 obtain ⟨K,hK⟩:=l05Fractions_eq p n1 d1 n2 d2
 refine ⟨K+13841287300,fun k hk=>?_⟩
 unfold bb.f res
 rw [hK k (by omega)]
 simp only [Option.bind_some]
 by_cases c:frc p n1 d1 n2 d2=0
 ·
  obtain ⟨hp,h1,h2,hne,z1,z2⟩:=frc_zero c
  have a:=cp h1
  rw [if_pos c,if_pos c,dt hp h1 h2 z1 z2 hne k (by omega)]
  simp only [Option.bind_some]
  rw [l01Of_eq hp z1 (by omega) (by omega) k (by omega),eZ hp z1]
  simp only [Option.bind_some]
  cases PM.ballAt p n1 d1 (ce p n1 d1 n2 d2) <;> simp [enc,fI]
 ·
  rw [if_neg c,if_neg c]
theorem impl_res (p n1 d1 n2 d2:Int):∃ K,∀ k,K≤k→bk.f k p n1 d1 n2 d2=some (res p n1 d1 n2 d2):=by
 obtain ⟨K,hK⟩:=fractionsCode_eq p n1 d1 n2 d2
 refine ⟨K+13841287300,fun k hk=>?_⟩
 unfold bk.f res
 rw [hK k (by omega)]
 simp only [Option.bind_some]
 by_cases c:frc p n1 d1 n2 d2=0
 ·
  obtain ⟨hp,h1,h2,hne,z1,z2⟩:=frc_zero c
  have a:=cp h1
  rw [if_pos c,if_pos c,ey hp h1 h2 z1 z2 hne k (by omega)]
  simp only [Option.bind_some]
  rw [ballAt_eq hp z1 (by omega) (by omega) k (by omega)]
  simp only [Option.bind_some]
  cases PM.ballAt p n1 d1 (ce p n1 d1 n2 d2) <;> simp [enc,fI,dH.f]
 ·
  rw [if_neg c,if_neg c]
end AP
theorem dT {p:Int} (hp:Pr p) (n1 d1 n2 d2:Int):ce p n2 d2 n1 d1=ce p n1 d1 n2 d2:=by
 unfold ce
 rw [show crs n2 d2 n1 d1 = -(crs n1 d1 n2 d2) by unfold crs;omega,PM.vl_neg p _ hp]
 omega
theorem dP {p n1 d1 n2 d2:Int} (hp:Pr p) (h1:isE n1 d1) (h2:isE n2 d2) (z1:d1≠0) (z2:d2≠0) (hne:¬ (n1=n2∧d1=d2)):PM.ballAt p n1 d1 (ce p n1 d1 n2 d2)=PM.ballAt p n2 d2 (ce p n1 d1 n2 d2):=by
 have hc:n1*d2 - n2*d1≠0:=fun z=>hne (eE h1 h2 z)
 exact PM.ballAt_part (g:=ce p n1 d1 n2 d2) hp z1 z2 hc (by unfold ce crs;omega)
theorem dif3 (a b c d e f:Int):dif [(⟨a,b⟩:S28),⟨c,d⟩,⟨e,f⟩]=true↔¬ (a=c∧b=d)∧¬ (a=e∧b=f)∧¬ (c=e∧d=f):=by
 simp [dif,dk,difAt,am,and_assoc,Decidable.imp_iff_not_or]
theorem all3 (a b c d e f:Int):([(⟨a,b⟩:S28),⟨c,d⟩,⟨e,f⟩].all eOk=true)↔(isE a b∧isE c d∧isE e f):=by
 simp [eOk]
def di (p e0 e1 f0 f1 g0 g1:Int):Option PM.Ball:=
 if e1=0 then PM.ballAt p f0 f1 (ce p f0 f1 g0 g1) else if f1=0 then PM.ballAt p e0 e1 (ce p e0 e1 g0 g1) else if g1=0 then PM.ballAt p e0 e1 (ce p e0 e1 f0 f1) else
 if ce p e0 e1 f0 f1<ce p g0 g1 e0 e1 then (if ce p g0 g1 e0 e1<ce p g0 g1 f0 f1 then PM.ballAt p g0 g1 (ce p g0 g1 f0 f1) else PM.ballAt p g0 g1 (ce p g0 g1 e0 e1))
 else (if ce p e0 e1 f0 f1<ce p g0 g1 f0 f1 then PM.ballAt p g0 g1 (ce p g0 g1 f0 f1) else PM.ballAt p e0 e1 (ce p e0 e1 f0 f1))
abbrev fK (p e0 e1 f0 f1 g0 g1:Int):Prop:=Pr p∧isE e0 e1∧isE f0 f1∧isE g0 g1
abbrev fL (e0 e1 f0 f1 g0 g1:Int):Prop:=¬ (e0=f0∧e1=f1)∧¬ (e0=g0∧e1=g1)∧¬ (f0=g0∧f1=g1)
def fE (p e0 e1 f0 f1 g0 g1:Int):Int × Int × Int × Int:=
 if fK p e0 e1 f0 f1 g0 g1 then (if fL e0 e1 f0 f1 g0 g1 then fI 3 (di p e0 e1 f0 f1 g0 g1) else (0,0,0,5)) else (0,0,0,1)
theorem finI {p n d g:Int} (hp:Pr p) (h:isE n d) (z:d≠0) (k:Nat) (hk:13841287300≤k):aC.fin k p n d g=some (fI 3 (PM.ballAt p n d g)):=by
 have a:=cp h
 unfold aC.fin
 rw [ballAt_eq hp z (by omega) (by omega) k (by omega)]
 simp only [Option.bind_some]
 cases PM.ballAt p n d g <;> simp [enc,fI,dH.f]
theorem finS {p n d g:Int} (hp:Pr p) (h:isE n d) (z:d≠0) (k:Nat) (hk:13841287300≤k):aI.fin k p n d g=some (fI 3 (PM.ballAt p n d g)):=by
 have a:=cp h
 unfold aI.fin
 rw [l01Of_eq hp z (by omega) (by omega) k (by omega),eZ hp z]
 simp only [Option.bind_some]
 cases PM.ballAt p n d g <;> simp [enc,fI]
theorem twoI {p a0 a1 b0 b1:Int} (hp:Pr p) (h1:isE a0 a1) (h2:isE b0 b1) (z1:a1≠0) (z2:b1≠0) (hne:¬ (a0=b0∧a1=b1)) (k:Nat) (hk:13841287300≤k):aC.two k p a0 a1 b0 b1=some (fI 3 (PM.ballAt p a0 a1 (ce p a0 a1 b0 b1))):=by
 have hne':¬ (b0=a0∧b1=a1):=fun z=>hne ⟨z.1.symm,z.2.symm⟩
 unfold aC.two aC.tail
 rw [ey hp h1 h2 z1 z2 hne k (by omega)]
 simp only [Option.bind_some]
 rw [ey hp h2 h1 z2 z1 hne' k (by omega),dT hp a0 a1 b0 b1]
 simp only [Option.bind_some]
 rw [if_neg (by omega),if_pos trivial]
 exact finI hp h1 z1 k hk
theorem twoS {p a0 a1 b0 b1:Int} (hp:Pr p) (h1:isE a0 a1) (h2:isE b0 b1) (z1:a1≠0) (z2:b1≠0) (hne:¬ (b0=a0∧b1=a1)) (k:Nat) (hk:13841287300≤k):aI.two k p a0 a1 b0 b1=some (fI 3 (PM.ballAt p b0 b1 (ce p b0 b1 a0 a1))):=by
 have hne':¬ (a0=b0∧a1=b1):=fun z=>hne ⟨z.1.symm,z.2.symm⟩
 unfold aI.two
 rw [dt hp h1 h2 z1 z2 hne' k (by omega)]
 simp only [Option.bind_some]
 rw [finS hp h1 z1 k hk,dP hp h1 h2 z1 z2 hne',dT hp b0 b1 a0 a1]
theorem threeI {p e0 e1 f0 f1 g0 g1:Int} (hp:Pr p) (h1:isE e0 e1) (h2:isE f0 f1) (h3:isE g0 g1) (z1:e1≠0) (z2:f1≠0) (z3:g1≠0) (ha:fL e0 e1 f0 f1 g0 g1) (k:Nat) (hk:13841287300≤k):aC.three k p e0 e1 f0 f1 g0 g1=some (fI 3 (di p e0 e1 f0 f1 g0 g1)):=by
 obtain ⟨n1,n2,n3⟩:=ha
 unfold aC.three aC.tail di
 rw [if_neg z1,if_neg z2,if_neg z3,ey hp h1 h2 z1 z2 n1 k (by omega)]
 simp only [Option.bind_some]
 rw [ey hp h2 h1 z2 z1 (fun z=>n1 ⟨z.1.symm,z.2.symm⟩) k (by omega),dT hp e0 e1 f0 f1,ey hp h3 h1 z3 z1 (fun z=>n2 ⟨z.1.symm,z.2.symm⟩) k (by omega),ey hp h3 h2 z3 z2 (fun z=>n3 ⟨z.1.symm,z.2.symm⟩) k (by omega)]
 simp only [Option.bind_some]
 rw [if_neg (by omega),if_neg (show ¬ ((3:Nat)=2) by omega)]
 by_cases c:ce p e0 e1 f0 f1<ce p g0 g1 e0 e1
 ·
  rw [if_pos c,if_pos c]
  by_cases d:ce p g0 g1 e0 e1<ce p g0 g1 f0 f1
  ·
   rw [if_pos d,if_pos d];exact finI hp h3 z3 k hk
  ·
   rw [if_neg d,if_neg d];exact finI hp h3 z3 k hk
 ·
  rw [if_neg c,if_neg c]
  by_cases d:ce p e0 e1 f0 f1<ce p g0 g1 f0 f1
  ·
   rw [if_pos d,if_pos d];exact finI hp h3 z3 k hk
  ·
   rw [if_neg d,if_neg d];exact finI hp h1 z1 k hk
theorem threeS {p e0 e1 f0 f1 g0 g1:Int} (hp:Pr p) (h1:isE e0 e1) (h2:isE f0 f1) (h3:isE g0 g1) (z1:e1≠0) (z2:f1≠0) (z3:g1≠0) (ha:fL e0 e1 f0 f1 g0 g1) (k:Nat) (hk:13841287300≤k):aI.three k p e0 e1 f0 f1 g0 g1=some (fI 3 (di p e0 e1 f0 f1 g0 g1)):=by
 obtain ⟨n1,n2,n3⟩:=ha
 unfold aI.three di
 rw [if_neg z1,if_neg z2,if_neg z3,dt hp h2 h1 z2 z1 (fun z=>n1 ⟨z.1.symm,z.2.symm⟩) k (by omega),dT hp e0 e1 f0 f1,dt hp h3 h1 z3 z1 (fun z=>n2 ⟨z.1.symm,z.2.symm⟩) k (by omega),dt hp h3 h2 z3 z2 (fun z=>n3 ⟨z.1.symm,z.2.symm⟩) k (by omega)]
 simp only [Option.bind_some]
 by_cases c:ce p e0 e1 f0 f1<ce p g0 g1 e0 e1
 ·
  rw [if_pos c,if_pos c]
  by_cases d:ce p g0 g1 e0 e1<ce p g0 g1 f0 f1
  ·
   rw [if_pos d,if_pos d];exact finS hp h3 z3 k hk
  ·
   rw [if_neg d,if_neg d];exact finS hp h3 z3 k hk
 ·
  rw [if_neg c,if_neg c]
  by_cases d:ce p e0 e1 f0 f1<ce p g0 g1 f0 f1
  ·
   rw [if_pos d,if_pos d];exact finS hp h3 z3 k hk
  ·
   rw [if_neg d,if_neg d,dP hp h1 h2 z1 z2 n1];exact finS hp h2 z2 k hk
theorem dY {n1 d1 n2 d2:Int} (h1:isE n1 d1) (h2:isE n2 d2) (hne:¬ (n1=n2∧d1=d2)):¬ (d1=0∧d2=0):=by
 unfold isE at h1 h2;omega
theorem mainI {p e0 e1 f0 f1 g0 g1:Int} (ht:fK p e0 e1 f0 f1 g0 g1) (ha:fL e0 e1 f0 f1 g0 g1) (k:Nat) (hk:13841287300≤k):aC.main k p e0 e1 f0 f1 g0 g1=some (fI 3 (di p e0 e1 f0 f1 g0 g1)):=by
 obtain ⟨hp,h1,h2,h3⟩:=ht
 have q1:=dY h1 h2 ha.1
 have q2:=dY h1 h3 ha.2.1
 have q3:=dY h2 h3 ha.2.2
 unfold aC.main
 by_cases z1:e1=0
 ·
  rw [if_pos z1,if_neg (by omega)];unfold di;rw [if_pos z1]
  exact twoI hp h2 h3 (by omega) (by omega) ha.2.2 k hk
 rw [if_neg z1]
 by_cases z2:f1=0
 ·
  rw [if_pos z2,if_neg (by omega)];unfold di;rw [if_neg z1,if_pos z2]
  exact twoI hp h1 h3 (by omega) (by omega) ha.2.1 k hk
 rw [if_neg z2]
 by_cases z3:g1=0
 ·
  rw [if_pos z3];unfold di;rw [if_neg z1,if_neg z2,if_pos z3]
  exact twoI hp h1 h2 (by omega) (by omega) ha.1 k hk
 rw [if_neg z3]
 exact threeI hp h1 h2 h3 z1 z2 z3 ha k hk
theorem mainS {p e0 e1 f0 f1 g0 g1:Int} (ht:fK p e0 e1 f0 f1 g0 g1) (ha:fL e0 e1 f0 f1 g0 g1) (k:Nat) (hk:13841287300≤k):aI.main k p e0 e1 f0 f1 g0 g1=some (fI 3 (di p e0 e1 f0 f1 g0 g1)):=by
 obtain ⟨hp,h1,h2,h3⟩:=ht
 have q1:=dY h1 h2 ha.1
 have q2:=dY h1 h3 ha.2.1
 have q3:=dY h2 h3 ha.2.2
 unfold aI.main
 by_cases z1:e1=0
 ·
  rw [if_pos z1,if_neg (by omega)];unfold di;rw [if_pos z1]
  exact twoS hp h3 h2 (by omega) (by omega) ha.2.2 k hk
 rw [if_neg z1]
 by_cases z2:f1=0
 ·
  rw [if_pos z2,if_neg (by omega)];unfold di;rw [if_neg z1,if_pos z2]
  exact twoS hp h3 h1 (by omega) (by omega) ha.2.1 k hk
 rw [if_neg z2]
 by_cases z3:g1=0
 ·
  rw [if_pos z3];unfold di;rw [if_neg z1,if_neg z2,if_pos z3]
  exact twoS hp h2 h1 (by omega) (by omega) ha.1 k hk
 rw [if_neg z3]
 exact threeS hp h1 h2 h3 z1 z2 z3 ha k hk
theorem specM_res (p e0 e1 f0 f1 g0 g1:Int):∃ K,∀ k,K≤k→aI.f k p e0 e1 f0 f1 g0 g1=some (fE p e0 e1 f0 f1 g0 g1):=by
 obtain ⟨K,h⟩:=du p [] [⟨e0,e1⟩,⟨f0,f1⟩,⟨g0,g1⟩] (by simp) (by simp)
 refine ⟨K+13841289100,fun k hk=>?_⟩
 unfold aI.f fE
 rw [h _ (by omega)]
 simp only [Option.bind_some,List.all_nil,and_true]
 by_cases c:fK p e0 e1 f0 f1 g0 g1
 ·
  rw [if_pos (show Pr p∧[(⟨e0,e1⟩:S28),⟨f0,f1⟩,⟨g0,g1⟩].all eOk=true from ⟨c.1,(all3 _ _ _ _ _ _).2 c.2⟩),if_pos c]
  by_cases a:fL e0 e1 f0 f1 g0 g1
  ·
   rw [if_pos ((dif3 _ _ _ _ _ _).2 a),if_pos a,if_pos rfl]
   exact mainS c a k (by omega)
  ·
   rw [if_neg (fun z=>a ((dif3 _ _ _ _ _ _).1 z)),if_neg a,if_neg (by omega)]
 ·
  rw [if_neg (show ¬ (Pr p∧[(⟨e0,e1⟩:S28),⟨f0,f1⟩,⟨g0,g1⟩].all eOk=true) from fun z=>c ⟨z.1,(all3 _ _ _ _ _ _).1 z.2⟩),if_neg c,if_neg (by omega)]
theorem implM_res (p e0 e1 f0 f1 g0 g1:Int):∃ K,∀ k,K≤k→aC.f k p e0 e1 f0 f1 g0 g1=some (fE p e0 e1 f0 f1 g0 g1):=by
 obtain ⟨K1,h1⟩:=dh [⟨e0,e1⟩,⟨f0,f1⟩,⟨g0,g1⟩] (by simp)
 obtain ⟨K2,h2⟩:=eI [⟨e0,e1⟩,⟨f0,f1⟩,⟨g0,g1⟩] (by simp)
 refine ⟨K1+K2+13841289100,fun k hk=>?_⟩
 unfold aC.f fE
 rw [h1 _ (by omega),h2 _ (by omega),dW]
 rcases ct p with ⟨g,hp⟩|⟨g,hp⟩
 ·
  have hp:Pr p:=hp
  rw [g]
  simp only [Option.bind_some,if_true]
  by_cases c:isE e0 e1∧isE f0 f1∧isE g0 g1
  ·
   rw [(all3 _ _ _ _ _ _).2 c,if_pos rfl,if_pos (show fK p e0 e1 f0 f1 g0 g1 from ⟨hp,c⟩)]
   by_cases a:fL e0 e1 f0 f1 g0 g1
   ·
    rw [(dif3 _ _ _ _ _ _).2 a,if_pos rfl,if_pos a]
    exact mainI ⟨hp,c⟩ a k (by omega)
   ·
    rw [Bool.eq_false_iff.mpr (fun z=>a ((dif3 _ _ _ _ _ _).1 z)),if_neg a];simp
  ·
   rw [if_neg (show ¬ fK p e0 e1 f0 f1 g0 g1 from fun z=>c z.2),Bool.eq_false_iff.mpr (fun z=>c ((all3 _ _ _ _ _ _).1 z))]
   simp
 ·
  rw [g,if_neg (show ¬ fK p e0 e1 f0 f1 g0 g1 from fun z=>hp z.1)]
  simp
theorem cK {p n d g:Int} {y:PM.Ball} (hp:Pr p) (hd:d≠0) (h:PM.ballAt p n d g=some y):PM.Ok p y∧y.lv=g∧PM.held p y.lv (PM.mark p y) n d:=by
 obtain ⟨a,b,c⟩:=PM.ballAt_held hp hd h
 exact ⟨a,b,by rw [b];exact c⟩
theorem cn {p n1 d1 n2 d2:Int} {y:PM.Ball} (hp:Pr p) (ok:PM.Ok p y) (h1:isE n1 d1) (h2:isE n2 d2) (hne:¬ (n1=n2∧d1=d2)) (hh:(d1≠0∧PM.held p y.lv (PM.mark p y) n1 d1)∨(d2≠0∧PM.held p y.lv (PM.mark p y) n2 d2)) (hg:d1≠0→d2≠0→ce p n1 d1 n2 d2≤y.lv):PM.brP p y.lv (PM.mark p y) n1 d1≠PM.brP p y.lv (PM.mark p y) n2 d2:=
 PM.br_differ hp ok hh (fun a b=>⟨fun z=>hne (eE h1 h2 z),hg a b⟩)
theorem meet_spec {p e0 e1 f0 f1 g0 g1:Int} {y:PM.Ball} (ht:fK p e0 e1 f0 f1 g0 g1) (ha:fL e0 e1 f0 f1 g0 g1) (h:di p e0 e1 f0 f1 g0 g1=some y):PM.Ok p y∧PM.brP p y.lv (PM.mark p y) e0 e1≠PM.brP p y.lv (PM.mark p y) f0 f1∧PM.brP p y.lv (PM.mark p y) f0 f1≠PM.brP p y.lv (PM.mark p y) g0 g1∧PM.brP p y.lv (PM.mark p y) g0 g1≠PM.brP p y.lv (PM.mark p y) e0 e1:=by
 obtain ⟨hp,h1,h2,h3⟩:=ht
 obtain ⟨n1,n2,n3⟩:=ha
 have n2':¬ (g0=e0∧g1=e1):=fun z=>n2 ⟨z.1.symm,z.2.symm⟩
 have n3':¬ (g0=f0∧g1=f1):=fun z=>n3 ⟨z.1.symm,z.2.symm⟩
 have q1:=dY h1 h2 n1
 have q2:=dY h1 h3 n2
 have q3:=dY h2 h3 n3
 have cX:=dT hp e0 e1 f0 f1
 have cY:=dT hp g0 g1 e0 e1
 have cZ:=dT hp g0 g1 f0 f1
 unfold di at h
 by_cases z1:e1=0
 ·
  rw [if_pos z1] at h
  have zf:f1≠0:=by omega
  have zg:g1≠0:=by omega
  have A:=cK hp zf h
  rw [dP hp h2 h3 zf zg n3] at h
  have B:=cK hp zg h
  exact ⟨A.1,cn hp A.1 h1 h2 n1 (Or.inr ⟨zf,A.2.2⟩) (fun z _=>absurd z1 z),cn hp A.1 h2 h3 n3 (Or.inl ⟨zf,A.2.2⟩) (fun _ _=>by omega),cn hp A.1 h3 h1 n2' (Or.inl ⟨zg,B.2.2⟩) (fun _ z=>absurd z1 z)⟩
 rw [if_neg z1] at h
 by_cases z2:f1=0
 ·
  rw [if_pos z2] at h
  have zg:g1≠0:=by omega
  have A:=cK hp z1 h
  rw [dP hp h1 h3 z1 zg n2] at h
  have B:=cK hp zg h
  exact ⟨A.1,cn hp A.1 h1 h2 n1 (Or.inl ⟨z1,A.2.2⟩) (fun _ z=>absurd z2 z),cn hp A.1 h2 h3 n3 (Or.inr ⟨zg,B.2.2⟩) (fun z _=>absurd z2 z),cn hp A.1 h3 h1 n2' (Or.inl ⟨zg,B.2.2⟩) (fun _ _=>by omega)⟩
 rw [if_neg z2] at h
 by_cases z3:g1=0
 ·
  rw [if_pos z3] at h
  have A:=cK hp z1 h
  rw [dP hp h1 h2 z1 z2 n1] at h
  have B:=cK hp z2 h
  exact ⟨A.1,cn hp A.1 h1 h2 n1 (Or.inl ⟨z1,A.2.2⟩) (fun _ _=>by omega),cn hp A.1 h2 h3 n3 (Or.inl ⟨z2,B.2.2⟩) (fun _ z=>absurd z3 z),cn hp A.1 h3 h1 n2' (Or.inr ⟨z1,A.2.2⟩) (fun z _=>absurd z3 z)⟩
 rw [if_neg z3] at h
 by_cases c:ce p e0 e1 f0 f1<ce p g0 g1 e0 e1
 ·
  rw [if_pos c] at h
  by_cases d:ce p g0 g1 e0 e1<ce p g0 g1 f0 f1
  ·
   rw [if_pos d] at h
   have A:=cK hp z3 h
   rw [dP hp h3 h2 z3 z2 n3'] at h
   have B:=cK hp z2 h
   exact ⟨A.1,cn hp A.1 h1 h2 n1 (Or.inr ⟨z2,B.2.2⟩) (fun _ _=>by omega),cn hp A.1 h2 h3 n3 (Or.inl ⟨z2,B.2.2⟩) (fun _ _=>by omega),cn hp A.1 h3 h1 n2' (Or.inl ⟨z3,A.2.2⟩) (fun _ _=>by omega)⟩
  ·
   rw [if_neg d] at h
   have A:=cK hp z3 h
   rw [dP hp h3 h1 z3 z1 n2'] at h
   have B:=cK hp z1 h
   exact ⟨A.1,cn hp A.1 h1 h2 n1 (Or.inl ⟨z1,B.2.2⟩) (fun _ _=>by omega),cn hp A.1 h2 h3 n3 (Or.inr ⟨z3,A.2.2⟩) (fun _ _=>by omega),cn hp A.1 h3 h1 n2' (Or.inl ⟨z3,A.2.2⟩) (fun _ _=>by omega)⟩
 ·
  rw [if_neg c] at h
  by_cases d:ce p e0 e1 f0 f1<ce p g0 g1 f0 f1
  ·
   rw [if_pos d] at h
   have A:=cK hp z3 h
   rw [dP hp h3 h2 z3 z2 n3'] at h
   have B:=cK hp z2 h
   exact ⟨A.1,cn hp A.1 h1 h2 n1 (Or.inr ⟨z2,B.2.2⟩) (fun _ _=>by omega),cn hp A.1 h2 h3 n3 (Or.inl ⟨z2,B.2.2⟩) (fun _ _=>by omega),cn hp A.1 h3 h1 n2' (Or.inl ⟨z3,A.2.2⟩) (fun _ _=>by omega)⟩
  ·
   rw [if_neg d] at h
   have A:=cK hp z1 h
   rw [dP hp h1 h2 z1 z2 n1] at h
   have B:=cK hp z2 h
   exact ⟨A.1,cn hp A.1 h1 h2 n1 (Or.inl ⟨z1,A.2.2⟩) (fun _ _=>by omega),cn hp A.1 h2 h3 n3 (Or.inl ⟨z2,B.2.2⟩) (fun _ _=>by omega),cn hp A.1 h3 h1 n2' (Or.inr ⟨z1,A.2.2⟩) (fun _ _=>by omega)⟩
theorem meet_turn {p e0 e1 f0 f1 g0 g1:Int} (ht:fK p e0 e1 f0 f1 g0 g1) (ha:fL e0 e1 f0 f1 g0 g1):di p g0 g1 e0 e1 f0 f1=di p e0 e1 f0 f1 g0 g1:=by
 obtain ⟨hp,h1,h2,h3⟩:=ht
 obtain ⟨n1,n2,n3⟩:=ha
 have n2':¬ (g0=e0∧g1=e1):=fun z=>n2 ⟨z.1.symm,z.2.symm⟩
 have n3':¬ (g0=f0∧g1=f1):=fun z=>n3 ⟨z.1.symm,z.2.symm⟩
 have q1:=dY h1 h2 n1
 have q2:=dY h1 h3 n2
 have q3:=dY h2 h3 n3
 unfold di
 rw [dT hp e0 e1 f0 f1,dT hp g0 g1 f0 f1,dT hp g0 g1 e0 e1]
 by_cases z1:e1=0
 ·
  have zf:f1≠0:=by omega
  have zg:g1≠0:=by omega
  rw [if_neg zg,if_pos z1,if_pos z1]
  exact dP hp h3 h2 zg zf n3'
 by_cases z2:f1=0
 ·
  have zg:g1≠0:=by omega
  rw [if_neg zg,if_neg z1,if_pos z2,if_neg z1,if_pos z2]
  exact dP hp h3 h1 zg z1 n2'
 by_cases z3:g1=0
 ·
  rw [if_pos z3,if_neg z1,if_neg z2,if_pos z3]
 rw [if_neg z3,if_neg z1,if_neg z2,if_neg z1,if_neg z2,if_neg z3]
 have P1:=dP hp h1 h2 z1 z2 n1
 have P2:=dP hp h3 h1 z3 z1 n2'
 have P3:=dP hp h3 h2 z3 z2 n3'
 generalize ce p e0 e1 f0 f1=X at *
 generalize ce p g0 g1 e0 e1=Y at *
 generalize ce p g0 g1 f0 f1=Z at *
 by_cases a:X<Y
 ·
  rw [if_pos a]
  by_cases b:Y<Z
  ·
   rw [if_pos b,if_pos b,if_neg (by omega)];exact P3.symm
  ·
   rw [if_neg b,if_neg b,if_neg (by omega)]
 ·
  rw [if_neg a]
  by_cases b:Y<Z
  ·
   rw [if_pos b]
   by_cases c:Z<X
   ·
    rw [if_pos c,if_neg (by omega)];exact P1.symm
   ·
    rw [if_neg c]
    by_cases d:X<Z
    ·
     rw [if_pos d];exact P3.symm
    ·
     have:X=Z:=by omega
     rw [if_neg d];subst this;exact P1.symm
  ·
   rw [if_neg b]
   by_cases c:Y<X
   ·
    rw [if_pos c,if_neg (by omega)];exact P1.symm
   ·
    have:X=Y:=by omega
    rw [if_neg c,if_neg (by omega)];subst this;exact P2
theorem near1 {p n d g:Int} {b c:PM.Ball} (hp:Pr p) (hd:d≠0) (h:PM.ballAt p n d g=some b) (h2:PM.ballAt p n d (g - 1)=some c):PM.dist p b c=1:=by
 obtain ⟨ob,lb,hb⟩:=PM.ballAt_held hp hd h
 obtain ⟨oc,lc,hc⟩:=PM.ballAt_held hp hd h2
 obtain ⟨j,_⟩:=PM.jl_held hp ob oc hd (by rw [lc];exact hc)
 have hl : -6≤g:=by have:=ob.1;omega
 have t:=(PM.held_turn hp hl).2 hb
 rw [lb] at j
 unfold PM.dist
 rw [j];omega
theorem dj {p n d dl:Int}:∀ (m:Nat) (lv:Int) (L:List S25),BL.rowB p n d dl m lv=some L→∀ i,i<m→∃ b,L[i]?=some (BL.eB b)∧PM.ballAt p n d (lv+dl*i)=some b
 | 0,_,_,_,i,hi=>by omega
 | m+1,lv,L,h,i,hi=>by
  simp only [BL.rowB] at h
  cases e:PM.ballAt p n d lv with
  | none=>rw [e] at h;cases h
  | some b=>
   rw [e] at h
   simp only [Option.map_eq_some_iff] at h
   obtain ⟨y,hy,rfl⟩:=h
   cases i with
   | zero=>exact ⟨b,rfl,by simpa using e⟩
   | succ i=>
    obtain ⟨c,c1,c2⟩:=dj m (lv+dl) y hy i (by omega)
    refine ⟨c,by simpa using c1,?_⟩
    rw [show lv+dl*((i+1:Nat):Int)=lv+dl+dl*i by rw [Int.natCast_succ,Int.mul_add];omega]
    exact c2
abbrev OnL (p n1 d1 n2 d2:Int) (b:PM.Ball):Prop:=PM.Ok p b∧PM.brP p b.lv (PM.mark p b) n1 d1≠PM.brP p b.lv (PM.mark p b) n2 d2
theorem line_all {p n1 d1 n2 d2 i:Int} {L:List S25} (hp:Pr p) (h1:isE n1 d1) (h2:isE n2 d2) (hne:¬ (n1=n2∧d1=d2)) (hi:0≤i∧i≤6) (h:BL.lineR p n1 d1 n2 d2 i=some L) :
  (∀ j,j<L.length→∃ b,L[j]?=some (BL.eB b)∧OnL p n1 d1 n2 d2 b)∧(∀ j,j+1<L.length→∃ a b,L[j]?=some (BL.eB a)∧L[j+1]?=some (BL.eB b)∧PM.Ok p a∧PM.Ok p b∧PM.dist p a b=1):=by
 have hz:=dY h1 h2 hne
 unfold BL.lineR at h
 by_cases z2:d2=0
 ·
  have z1:d1≠0:=fun z=>hz ⟨z,z2⟩
  rw [if_pos z2] at h
  have hl:=BL.rowB_len _ _ _ _ _ _ _ h
  refine ⟨fun j hj=>?_,fun j hj=>?_⟩
  ·
   obtain ⟨b,b1,b2⟩:=dj _ _ _ h j (by omega)
   have A:=cK hp z1 b2
   exact ⟨b,b1,A.1,cn hp A.1 h1 h2 hne (Or.inl ⟨z1,A.2.2⟩) (fun _ z=>absurd z2 z)⟩
  ·
   obtain ⟨a,a1,a2⟩:=dj _ _ _ h j (by omega)
   obtain ⟨b,b1,b2⟩:=dj _ _ _ h (j+1) (by omega)
   refine ⟨a,b,a1,b1,(cK hp z1 a2).1,(cK hp z1 b2).1,near1 hp z1 a2 ?_⟩
   rw [show i + -1*(j:Int) - 1=i + -1*((j+1:Nat):Int) by omega];exact b2
 rw [if_neg z2] at h
 by_cases z1:d1=0
 ·
  rw [if_pos z1] at h
  have hl:=BL.rowB_len _ _ _ _ _ _ _ h
  refine ⟨fun j hj=>?_,fun j hj=>?_⟩
  ·
   obtain ⟨b,b1,b2⟩:=dj _ _ _ h j (by omega)
   have A:=cK hp z2 b2
   exact ⟨b,b1,A.1,cn hp A.1 h1 h2 hne (Or.inr ⟨z2,A.2.2⟩) (fun z _=>absurd z1 z)⟩
  ·
   obtain ⟨a,a1,a2⟩:=dj _ _ _ h j (by omega)
   obtain ⟨b,b1,b2⟩:=dj _ _ _ h (j+1) (by omega)
   refine ⟨a,b,a1,b1,(cK hp z2 a2).1,(cK hp z2 b2).1,?_⟩
   rw [PM.dist_comm]
   refine near1 hp z2 b2 ?_
   rw [show -i+1*((j+1:Nat):Int) - 1 = -i+1*(j:Int) by omega];exact a2
 rw [if_neg z1] at h
 obtain ⟨x,hx,h⟩:=Option.bind_eq_some_iff.mp h
 obtain ⟨y,hy,rfl⟩:=Option.map_eq_some_iff.mp h
 have lx:=BL.rowB_len _ _ _ _ _ _ _ hx
 have ly:=BL.rowB_len _ _ _ _ _ _ _ hy
 have hp1:=dP hp h1 h2 z1 z2 hne
 obtain ⟨G,hG⟩:∃ G_,ce p n1 d1 n2 d2=G_:=⟨_,rfl⟩
 rw [hG] at hx hy hp1
 have onx:∀ j,j<x.length→∃ b,x[j]?=some (BL.eB b)∧PM.ballAt p n1 d1 (G+i - j)=some b:=fun j hj=>by
  obtain ⟨b,b1,b2⟩:=dj _ _ _ hx j (by omega)
  exact ⟨b,b1,by rw [show G+i - (j:Int)=G+i + -1*(j:Int) by omega];exact b2⟩
 have ony:∀ j,j<y.length→∃ b,y[j]?=some (BL.eB b)∧PM.ballAt p n2 d2 (G+1+j)=some b:=fun j hj=>by
  obtain ⟨b,b1,b2⟩:=dj _ _ _ hy j (by omega)
  exact ⟨b,b1,by rw [show G+1+(j:Int)=G+1+1*(j:Int) by omega];exact b2⟩
 refine ⟨fun j hj=>?_,fun j hj=>?_⟩
 ·
  rw [List.length_append] at hj
  by_cases c:j<x.length
  ·
   obtain ⟨b,b1,b2⟩:=onx j c
   have A:=cK hp z1 b2
   exact ⟨b,by rw [List.getElem?_append_left c];exact b1,A.1,cn hp A.1 h1 h2 hne (Or.inl ⟨z1,A.2.2⟩) (fun _ _=>by have:=A.2.1;omega)⟩
  ·
   obtain ⟨b,b1,b2⟩:=ony (j - x.length) (by omega)
   have A:=cK hp z2 b2
   exact ⟨b,by rw [List.getElem?_append_right (by omega)];exact b1,A.1,cn hp A.1 h1 h2 hne (Or.inr ⟨z2,A.2.2⟩) (fun _ _=>by have:=A.2.1;omega)⟩
 ·
  rw [List.length_append] at hj
  by_cases c:j+1<x.length
  ·
   obtain ⟨a,a1,a2⟩:=onx j (by omega)
   obtain ⟨b,b1,b2⟩:=onx (j+1) c
   refine ⟨a,b,by rw [List.getElem?_append_left (by omega)];exact a1,by rw [List.getElem?_append_left c];exact b1,(cK hp z1 a2).1,(cK hp z1 b2).1,near1 hp z1 a2 ?_⟩
   rw [show G+i - (j:Int) - 1=G+i - ((j+1:Nat):Int) by omega];exact b2
  by_cases c2:j+1=x.length
  ·
   obtain ⟨a,a1,a2⟩:=onx j (by omega)
   obtain ⟨b,b1,b2⟩:=ony 0 (by omega)
   rw [show G+i - (j:Int)=G by omega,hp1] at a2
   refine ⟨a,b,by rw [List.getElem?_append_left (by omega)];exact a1,by rw [List.getElem?_append_right (by omega),show j+1 - x.length=0 by omega];exact b1,(cK hp z2 a2).1,(cK hp z2 b2).1,?_⟩
   rw [PM.dist_comm]
   refine near1 hp z2 b2 ?_
   rw [show G+1+((0:Nat):Int) - 1=G by omega];exact a2
  ·
   obtain ⟨a,a1,a2⟩:=ony (j - x.length) (by omega)
   obtain ⟨b,b1,b2⟩:=ony (j+1 - x.length) (by omega)
   refine ⟨a,b,by rw [List.getElem?_append_right (by omega)];exact a1,by rw [List.getElem?_append_right (by omega)];exact b1,(cK hp z2 a2).1,(cK hp z2 b2).1,?_⟩
   rw [PM.dist_comm]
   refine near1 hp z2 b2 ?_
   rw [show G+1+((j+1 - x.length:Nat):Int) - 1=G+1+((j - x.length:Nat):Int) by omega];exact a2
theorem dU {l:List Int} (hb:Byt l) (hl:l.length≤4096) {t:Int} (h:Int) (ht:0≤t):∃ K n d t' h',(∀ k,K≤k→au.f k l t h=some (n,d,t',h'))∧0≤t':=by
 obtain ⟨r0,t0,h0,e0,ht0,_,_⟩:=dL hb hl h 9 ht
 by_cases c:r0=0
 ·
  exact ⟨0,1,0,t0,h0,fun k _=>by unfold au.f;rw [e0];simp only [Option.bind_some];rw [if_pos c],ht0⟩
 obtain ⟨r1,t1,h1,e1,ht1,_,hr1⟩:=dL hb hl h0 41 ht0
 have:=hr1 (by omega)
 obtain ⟨r2,t2,h2,e2,ht2,hm⟩:=dy hb hl h1 ht1 [1,1,2,3,4,9,5,7] (by simp)
 simp only [List.mem_cons,List.not_mem_nil,or_false] at hm
 obtain ⟨K,hK⟩:=fG (n:=r1 - 20) (d:=r2) (by omega) (by omega)
 refine ⟨K,(fX (r1 - 20) r2).1,(fX (r1 - 20) r2).2.1,t2,h2,fun k hk=>?_,ht2⟩
 unfold au.f
 rw [e0];simp only [Option.bind_some];rw [if_neg c,e1];simp only [Option.bind_some];rw [e2];simp only [Option.bind_some]
 rw [w64 (n:=r1 - 20) (by omega) (by omega),hK k hk];rfl
theorem near_bd {l:List Int} (hb:Byt l) (hl:l.length≤4096) {t:Int} (h:Int) (ht:0≤t):∃ r t' h',dE.f l t h 6=some (r,t',h')∧0≤t'∧-9223372036854775808≤r∧r≤9223372036854775807:=by
 obtain ⟨r0,t0,h0,e0,ht0,_,_⟩:=dL hb hl h 14 ht
 unfold dE.f
 rw [e0]
 simp only [Option.bind_some]
 rw [w64 (n:=6+1) (by omega) (by omega)]
 by_cases c:r0=0
 ·
  obtain ⟨r1,t1,h1,e1,ht1,hm⟩:=dy hb hl h0 ht0 [-1,6+1,1099511627776,-4611686018427387904] (by simp)
  simp only [List.mem_cons,List.not_mem_nil,or_false] at hm
  rw [if_pos c,e1]
  exact ⟨r1,t1,h1,rfl,ht1,by omega,by omega⟩
 ·
  obtain ⟨r1,t1,h1,e1,ht1,_,hr⟩:=dL hb hl h0 (6+1) ht0
  have:=hr (by omega)
  rw [if_neg c,e1]
  exact ⟨r1,t1,h1,rfl,ht1,by omega,by omega⟩
theorem drawBalls_ok {l:List Int} (hb:Byt l) (hl:l.length≤4096):∃ K p n1 d1 n2 d2 j,(∀ k,K≤k→cP.f k l=some (p,n1,d1,n2,d2,j))∧-9223372036854775808≤j∧j≤9223372036854775807:=by
 obtain ⟨h0,e0⟩:=from_ok l hl
 obtain ⟨p,t1,h1,e1,ht1,_⟩:=dy hb hl h0 (Int.le_refl 0) [2,3,5,7,2,3,4] (by simp)
 obtain ⟨K2,n1,d1,t2,h2,e2,ht2⟩:=dU hb hl h1 ht1
 obtain ⟨K3,n2,d2,t3,h3,e3,ht3⟩:=dU hb hl h2 ht2
 obtain ⟨r,t4,h4,e4,ht4,rb⟩:=near_bd hb hl h3 ht3
 obtain ⟨j,t5,h5,e5,ht5,hm⟩:=dy hb hl h4 ht4 [0,1,2,3,r] (by simp)
 simp only [List.mem_cons,List.not_mem_nil,or_false] at hm
 refine ⟨K2+K3+l.length+1,p,n1,d1,n2,d2,j,fun k hk=>?_,by omega,by omega⟩
 unfold cP.f
 rw [e0 k (by omega)];simp only [Option.bind_some];rw [e1];simp only [Option.bind_some];rw [e2 k (by omega)];simp only [Option.bind_some];rw [e3 k (by omega)];simp only [Option.bind_some];rw [e4];simp only [Option.bind_some];rw [e5];rfl
theorem drawMeet_ok {l:List Int} (hb:Byt l) (hl:l.length≤4096):∃ K p e0 e1 f0 f1 g0 g1,∀ k,K≤k→cO.f k l=some (p,e0,e1,f0,f1,g0,g1):=by
 obtain ⟨h0,e0⟩:=from_ok l hl
 obtain ⟨p,t1,h1,e1,ht1,_⟩:=dy hb hl h0 (Int.le_refl 0) [2,3,5,7,2,3,4] (by simp)
 obtain ⟨r,t2,h2,e2,ht2,_,_⟩:=dL hb hl h1 4 ht1
 by_cases c:r=0
 ·
  obtain ⟨K3,a,b,t3,h3,e3,ht3⟩:=dQ hb hl h2 ht2
  obtain ⟨K4,a',b',t4,h4,e4,ht4⟩:=dQ hb hl h3 ht3
  obtain ⟨K5,a2,b2,t5,h5,e5,ht5⟩:=dQ hb hl h4 ht4
  refine ⟨K3+K4+K5+l.length+1,p,a,b,a',b',a2,b2,fun k hk=>?_⟩
  unfold cO.f
  rw [e0 k (by omega)];simp only [Option.bind_some];rw [e1];simp only [Option.bind_some];rw [e2];simp only [Option.bind_some];rw [if_pos c,e3 k (by omega)];simp only [Option.bind_some];rw [e4 k (by omega)];simp only [Option.bind_some];rw [e5 k (by omega)];rfl
 ·
  obtain ⟨K3,a,b,t3,h3,e3,ht3⟩:=dU hb hl h2 ht2
  obtain ⟨K4,a',b',t4,h4,e4,ht4⟩:=dU hb hl h3 ht3
  obtain ⟨K5,a2,b2,t5,h5,e5,ht5⟩:=dU hb hl h4 ht4
  refine ⟨K3+K4+K5+l.length+1,p,a,b,a',b',a2,b2,fun k hk=>?_⟩
  unfold cO.f
  rw [e0 k (by omega)];simp only [Option.bind_some];rw [e1];simp only [Option.bind_some];rw [e2];simp only [Option.bind_some];rw [if_neg c,e3 k (by omega)];simp only [Option.bind_some];rw [e4 k (by omega)];simp only [Option.bind_some];rw [e5 k (by omega)];rfl
theorem drawGap_ok {l:List Int} (hb:Byt l) (hl:l.length≤4096):∃ K p e0 e1 f0 f1,∀ k,K≤k→cD.f k l=some (p,e0,e1,f0,f1):=by
 obtain ⟨h0,e0⟩:=from_ok l hl
 obtain ⟨p,t1,h1,e1,ht1,_⟩:=dy hb hl h0 (Int.le_refl 0) [2,3,5,7,2,3,4] (by simp)
 obtain ⟨r,t2,h2,e2,ht2,_,_⟩:=dL hb hl h1 3 ht1
 by_cases c:r=0
 ·
  obtain ⟨K3,a,b,t3,h3,e3,ht3⟩:=dQ hb hl h2 ht2
  obtain ⟨K4,a',b',t4,h4,e4,ht4⟩:=dQ hb hl h3 ht3
  refine ⟨K3+K4+l.length+1,p,a,b,a',b',fun k hk=>?_⟩
  unfold cD.f
  rw [e0 k (by omega)];simp only [Option.bind_some];rw [e1];simp only [Option.bind_some];rw [e2];simp only [Option.bind_some];rw [if_pos c,e3 k (by omega)];simp only [Option.bind_some];rw [e4 k (by omega)];rfl
 ·
  obtain ⟨K3,a,b,t3,h3,e3,ht3⟩:=dU hb hl h2 ht2
  obtain ⟨K4,a',b',t4,h4,e4,ht4⟩:=dU hb hl h3 ht3
  refine ⟨K3+K4+l.length+1,p,a,b,a',b',fun k hk=>?_⟩
  unfold cD.f
  rw [e0 k (by omega)];simp only [Option.bind_some];rw [e1];simp only [Option.bind_some];rw [e2];simp only [Option.bind_some];rw [if_neg c,e3 k (by omega)];simp only [Option.bind_some];rw [e4 k (by omega)];rfl
theorem drawCR_ok {l:List Int} (hb:Byt l) (hl:l.length≤4096):∃ K a b c d e f g h,∀ k,K≤k→cH.f k l=some (a,b,c,d,e,f,g,h):=by
 obtain ⟨h0,e0⟩:=from_ok l hl
 obtain ⟨r,t2,h2,e2,ht2,_,_⟩:=dL hb hl h0 5 (Int.le_refl 0)
 by_cases c:r=0
 ·
  obtain ⟨K3,a,b,t3,h3,e3,ht3⟩:=dQ hb hl h2 ht2
  obtain ⟨K4,a',b',t4,h4,e4,ht4⟩:=dQ hb hl h3 ht3
  obtain ⟨K5,a2,b2,t5,h5,e5,ht5⟩:=dQ hb hl h4 ht4
  obtain ⟨K6,a3,b3,t6,h6,e6,ht6⟩:=dQ hb hl h5 ht5
  refine ⟨K3+K4+K5+K6+l.length+1,a,b,a',b',a2,b2,a3,b3,fun k hk=>?_⟩
  unfold cH.f
  rw [e0 k (by omega)];simp only [Option.bind_some];rw [e2];simp only [Option.bind_some];rw [if_pos c,e3 k (by omega)];simp only [Option.bind_some];rw [e4 k (by omega)];simp only [Option.bind_some];rw [e5 k (by omega)];simp only [Option.bind_some];rw [e6 k (by omega)];rfl
 ·
  obtain ⟨K3,a,b,t3,h3,e3,ht3⟩:=dU hb hl h2 ht2
  obtain ⟨K4,a',b',t4,h4,e4,ht4⟩:=dU hb hl h3 ht3
  obtain ⟨K5,a2,b2,t5,h5,e5,ht5⟩:=dU hb hl h4 ht4
  obtain ⟨K6,a3,b3,t6,h6,e6,ht6⟩:=dU hb hl h5 ht5
  refine ⟨K3+K4+K5+K6+l.length+1,a,b,a',b',a2,b2,a3,b3,fun k hk=>?_⟩
  unfold cH.f
  rw [e0 k (by omega)];simp only [Option.bind_some];rw [e2];simp only [Option.bind_some];rw [if_neg c,e3 k (by omega)];simp only [Option.bind_some];rw [e4 k (by omega)];simp only [Option.bind_some];rw [e5 k (by omega)];simp only [Option.bind_some];rw [e6 k (by omega)];rfl
theorem from5_ok (l:List Int) (hl:l.length≤5000):∃ h,∀ k,l.length+1≤k→ao.f k l=some (l,0,h):=by
 have go:∀ (d i:Nat) (x:Int),i+d=l.length→∃ h,∀ k,d+1≤k→ao.l0 k l (i:Int) l 0 x=some (l,0,h):=by
  intro d
  induction d with
  | zero=>
   intro i x hi
   refine ⟨x,fun k hk=>?_⟩
   obtain ⟨k,rfl⟩:∃ m,k=m+1:=⟨k - 1,by omega⟩
   simp only [ao.l0]
   rw [if_neg (by omega)]
  | succ d ih=>
   intro i x hi
   by_cases c:i<4096
   ·
    obtain ⟨h,e⟩:=ih (i+1) (IntKind.u64.wrap ((IntKind.u64.wrap ((IntKind.u64.wrap (x*1099511628211))+(IntKind.u64.wrap (rd l (i:Int)))))+71)) (by omega)
    refine ⟨h,fun k hk=>?_⟩
    obtain ⟨k,rfl⟩:∃ m,k=m+1:=⟨k - 1,by omega⟩
    simp only [ao.l0]
    rw [if_pos (by omega),if_pos (by omega),if_pos (by omega),w64 (n:=(i:Int)+1) (by omega) (by omega),show (i:Int)+1=((i+1:Nat):Int) by omega]
    exact e k (by omega)
   ·
    refine ⟨x,fun k hk=>?_⟩
    obtain ⟨k,rfl⟩:∃ m,k=m+1:=⟨k - 1,by omega⟩
    simp only [ao.l0]
    rw [if_pos (by omega),if_neg (by omega)]
 obtain ⟨h,e⟩:=go l.length 0 (IntKind.u64.wrap (12527+(IntKind.u64.wrap ((l.length:Int))))) (by omega)
 exact ⟨h,fun k hk=>e k (by omega)⟩
theorem pick5_ok {l:List Int} (hb:Byt l) (hl:l.length≤5000) (h:Int) (q:List Int) (hq:1≤q.length):∃ r t' h',ag.f l 0 h q=some (r,t',h'):=by
 have hn:∃ r t' h',ae.f l 0 h (q.length:Int)=some (r,t',h')∧0≤r∧r<(q.length:Int):=by
  unfold ae.f
  rw [if_neg (by omega)]
  have hu:=u64_bd (IntKind.u64.wrap (h*6364136223846793005)+1442695040888963407)
  have ha:=and_bd hu.1 hu.2
  by_cases d:(0:Int)<(l.length:Int)
  ·
   have hr:=rd_byte hb (Int.le_refl 0) d
   rw [if_pos d,if_pos (by omega),if_neg (by omega)]
   refine ⟨_,_,_,rfl,?_⟩
   refine tmod_bd ?_ (by omega)
   rw [w64 (n:=Go.bits .and .u64 _ 17179869183) (by omega) (by omega),w64 (n:=rd l 0) (by omega) (by omega),w64 (by omega) (by omega)]
   omega
  ·
   rw [if_neg d,if_neg (by omega)]
   refine ⟨_,_,_,rfl,?_⟩
   refine tmod_bd ?_ (by omega)
   rw [w64 (n:=Go.bits .and .u64 _ 17179869183) (by omega) (by omega)]
   omega
 obtain ⟨r,t',h',e,r1,r2⟩:=hn
 unfold ag.f
 rw [e]
 simp only [Option.bind_some]
 rw [if_pos (by omega),if_pos (by omega)]
 exact ⟨_,_,_,rfl⟩
theorem drawCV_ok {l:List Int} (hb:Byt l) (hl:l.length≤4096):∃ K p a b c d e f g h,∀ k,K≤k→aD.f k l=some (p,a,b,c,d,e,f,g,h):=by
 obtain ⟨h0,e0⟩:=from5_ok (1 :: l) (by simp;omega)
 have hb':Byt (1 :: l):=fun x hx=>by
  rcases List.mem_cons.mp hx with rfl|hx
  ·
   omega
  ·
   exact hb x hx
 obtain ⟨p,t1,h1,e1⟩:=pick5_ok hb' (by simp;omega) h0 [2,3,5,7,2,3,4] (by simp)
 obtain ⟨K,a,b,c,d,e,f,g,h,e2⟩:=drawCR_ok hb hl
 refine ⟨K+l.length+2,p,a,b,c,d,e,f,g,h,fun k hk=>?_⟩
 unfold aD.f
 rw [if_pos (by omega),e0 k (by simp;omega)];simp only [Option.bind_some];rw [e2 k (by omega)];simp only [Option.bind_some];rw [e1];rfl
theorem ValuationOf_eq {p n d:Int} (hp:Pr p) (hn:n≠0) (hd:d≠0) (bn:n.natAbs≤1000000) (bd:d.natAbs≤1000000):∃ K,∀ k,K≤k→bT.f k p n d=some ((vl p n:Int) - vl p d,0):=by
 obtain ⟨K,w⟩:=fM 100000000000000000 (by omega) (by omega) [n,d] (by simp)
 refine ⟨K+80,fun k hk=>?_⟩
 obtain ⟨k,rfl⟩:∃ m,k=m+1:=⟨k - 1,by omega⟩
 have v1:=ci hp hn (by omega)
 have v2:=ci hp hd (by omega)
 have ha:allB 100000000000000000 [n,d]=true:=by simp [allB];omega
 unfold bT.f
 rw [dW]
 rcases ct p with ⟨g,_⟩|⟨g,hq⟩
 ·
  rw [g,w _ (by omega),ha]
  simp only [Option.bind_some,if_true]
  rw [if_neg hn,show (d == 0)=false from beq_eq_false_iff_ne.mpr hd]
  simp only [bT.j0]
  rw [if_neg (by simp),bs p n hp (by omega) k (by omega),bs p d hp (by omega) k (by omega),b8 hn,b8 hd]
  simp only [Option.bind_some]
  rw [w64 (by omega) (by omega)]
 ·
  exact absurd hp hq
theorem vdiv {p x g:Int} (hp:Pr p) (hx:x≠0) (hg:g ∣ x):x.tdiv g≠0∧(vl p (x.tdiv g):Int)=vl p x - vl p g:=by
 have e:=Int.tdiv_mul_cancel hg
 have n1:x.tdiv g≠0:=fun z=>hx (by rw [← e,z,Int.zero_mul])
 have n2:g≠0:=fun z=>hx (by rw [← e,z,Int.mul_zero])
 have:=PM.vl_mul hp n1 n2
 rw [e] at this
 exact ⟨n1,by omega⟩
def W4 (p A B C D:Int):Int:=(vl p A:Int)+vl p B - vl p C - vl p D
theorem last_val {p A B C D n d:Int} (hp:Pr p) (hA:A≠0) (hB:B≠0) (hC:C≠0) (hD:D≠0) (h:CR.lastC A B C D=(n,d,0)):n≠0∧d≠0∧isE n d∧(vl p n:Int) - vl p d=W4 p A B C D:=by
 unfold CR.lastC at h
 by_cases c:(A.natAbs≤1000000∧B.natAbs≤1000000)∧C.natAbs≤1000000∧D.natAbs≤1000000
 ·
  rw [if_pos c] at h
  unfold CR.fin at h
  have hAB:=Int.mul_ne_zero hA hB
  have hCD:=Int.mul_ne_zero hC hD
  have m1:=PM.vl_mul hp hA hB
  have m2:=PM.vl_mul hp hC hD
  generalize A*B=X at *
  generalize C*D=Y at *
  by_cases f:(fX X Y).2.2=true
  ·
   rw [if_pos f] at h
   unfold fX at h f
   rw [if_neg hCD] at h f
   simp only [Prod.mk.injEq,and_true] at h
   obtain ⟨rfl,rfl⟩:=h
   have g1:((Int.gcd X Y:Int)*(if Y<0 then -1 else 1)) ∣ X:=by
    by_cases s:Y<0
    ·
     rw [if_pos s,Int.mul_neg_one,Int.neg_dvd];exact Int.gcd_dvd_left ..
    ·
     rw [if_neg s,Int.mul_one];exact Int.gcd_dvd_left ..
   have g2:((Int.gcd X Y:Int)*(if Y<0 then -1 else 1)) ∣ Y:=by
    by_cases s:Y<0
    ·
     rw [if_pos s,Int.mul_neg_one,Int.neg_dvd];exact Int.gcd_dvd_right ..
    ·
     rw [if_neg s,Int.mul_one];exact Int.gcd_dvd_right ..
   obtain ⟨a1,a2⟩:=vdiv hp hAB g1
   obtain ⟨b1,b2⟩:=vdiv hp hCD g2
   refine ⟨a1,b1,of_decide_eq_true f,?_⟩
   unfold W4;omega
  ·
   rw [if_neg f] at h;simp at h
 ·
  rw [if_neg c] at h;simp at h
theorem gdiv {p x y:Int} (hp:Pr p) (hx:x≠0) (hy:y≠0):x.tdiv (Int.gcd x y:Int)≠0∧y.tdiv (Int.gcd x y:Int)≠0∧(vl p (x.tdiv (Int.gcd x y:Int)):Int) - vl p (y.tdiv (Int.gcd x y:Int))=(vl p x:Int) - vl p y:=by
 obtain ⟨a1,a2⟩:=vdiv hp hx (show (Int.gcd x y:Int) ∣ x from Int.gcd_dvd_left ..)
 obtain ⟨b1,b2⟩:=vdiv hp hy (show (Int.gcd x y:Int) ∣ y from Int.gcd_dvd_right ..)
 exact ⟨a1,b1,by omega⟩
theorem red_val {p A B C D n d:Int} (hp:Pr p) (hA:A≠0) (hB:B≠0) (hC:C≠0) (hD:D≠0) (h:CR.red1 A B C D=(n,d,0)):n≠0∧d≠0∧isE n d∧(vl p n:Int) - vl p d=W4 p A B C D:=by
 unfold CR.red1 CR.red2 CR.red3 CR.red4 at h
 obtain ⟨a1,a2,a3⟩:=gdiv hp hA hC
 generalize A.tdiv (Int.gcd A C:Int)=A1 at *
 generalize C.tdiv (Int.gcd A C:Int)=C1 at *
 obtain ⟨b1,b2,b3⟩:=gdiv hp a1 hD
 generalize A1.tdiv (Int.gcd A1 D:Int)=A2 at *
 generalize D.tdiv (Int.gcd A1 D:Int)=D1 at *
 obtain ⟨c1,c2,c3⟩:=gdiv hp hB a2
 generalize B.tdiv (Int.gcd B C1:Int)=B1 at *
 generalize C1.tdiv (Int.gcd B C1:Int)=C2 at *
 obtain ⟨d1,d2,d3⟩:=gdiv hp c1 b2
 generalize B1.tdiv (Int.gcd B1 D1:Int)=B2 at *
 generalize D1.tdiv (Int.gcd B1 D1:Int)=D2 at *
 obtain ⟨r1,r2,r3,r4⟩:=last_val hp b1 d1 c2 d2 h
 refine ⟨r1,r2,r3,?_⟩
 rw [r4]
 unfold W4;omega
theorem dif_swap (a b c d e f g h:Int) (y:dif [(⟨a,b⟩:S28),⟨c,d⟩,⟨e,f⟩,⟨g,h⟩]=true):dif [(⟨a,b⟩:S28),⟨c,d⟩,⟨g,h⟩,⟨e,f⟩]=true:=by
 simp [dif,dk,difAt,am] at y ⊢
 obtain ⟨y1,⟨y2,y3⟩,y4,y5,y6⟩:=y
 refine ⟨y1,⟨y4,y5⟩,y2,y3,?_⟩
 first|omega|(intro z1 z2;exact y6 z1.symm z2.symm)
theorem apx (p n1 d1 n2 d2:Int) (z:(AP.res p n1 d1 n2 d2).2.2.2=0):(AP.res p n1 d1 n2 d2).1=(GA.res p n1 d1 n2 d2).1:=by
 unfold AP.res at z ⊢
 by_cases c:frc p n1 d1 n2 d2=0
 ·
  rw [if_pos c] at z ⊢
  obtain ⟨hp,h1,h2,hne,z1,z2⟩:=AP.frc_zero c
  have hz:¬ ((n1=n2∧d1=d2)∨d1=0∨d2=0):=by
   rintro (h|h|h)
   ·
    exact hne h
   ·
    exact z1 h
   ·
    exact z2 h
  unfold GA.res
  rw [if_pos ⟨hp,h1,h2⟩,if_neg hz]
  cases e:PM.ballAt p n1 d1 (ce p n1 d1 n2 d2) with
  | none=>rw [e] at z;simp [fI] at z
  | some b=>exact (cK hp z1 e).2.1
 ·
  rw [if_neg c] at z
  simp only at z
  exact absurd z c
theorem onl_res {p n1 d1 n2 d2:Int} {b:PM.Ball} (hp:Pr p) (h1:isE n1 d1) (h2:isE n2 d2) (hne:¬ (n1=n2∧d1=d2)) (h:OnL p n1 d1 n2 d2 b):IL.res p b.lv b.top b.dn n1 d1 n2 d2=(true,0):=by
 unfold IL.res
 rw [if_pos (show (Pr p∧PM.Ok p ⟨b.lv,b.top,b.dn⟩)∧isE n1 d1∧isE n2 d2 from ⟨⟨hp,h.1⟩,h1,h2⟩),if_neg hne]
 have:(brV p b.lv (PM.mark p ⟨b.lv,b.top,b.dn⟩) n1 d1 != brV p b.lv (PM.mark p ⟨b.lv,b.top,b.dn⟩) n2 d2)=true:=bne_iff_ne.mpr h.2
 rw [this]
set_option maxHeartbeats 8000000 in
theorem FnLines:laws_FnLines.Pure:=by
 intro l _ _ hw
 have hb:Byt l:=fun x hx=>by
  have:=hw x hx
  simp [Lit.wf,IntKind.min,IntKind.max,IntKind.bits,IntKind.signed] at this;omega
 by_cases hl:(l.length:Int)>4096
 ·
  exact ⟨0,by unfold laws_FnLines.f eC.f;rw [decide_eq_true hl];simp⟩
 have hl2:l.length≤4096:=by omega
 obtain ⟨K0,p,n1,d1,n2,d2,j,e0,j0,j1⟩:=drawBalls_ok hb hl2
 obtain ⟨K1,e1⟩:=BL.impl_res p n1 d1 n2 d2 j
 obtain ⟨K2,e2⟩:=BL.spec_res p n1 d1 n2 d2 j ⟨j0,j1⟩
 obtain ⟨K3,q,x0,x1,y0,y1,z0,z1,e3⟩:=drawMeet_ok hb hl2
 obtain ⟨K4,e4⟩:=implM_res q x0 x1 y0 y1 z0 z1
 obtain ⟨K5,e5⟩:=specM_res q x0 x1 y0 y1 z0 z1
 obtain ⟨K6,r,a,b,c,d,e,f,g,h,e6⟩:=drawCV_ok hb hl2
 obtain ⟨K7,e7⟩:=CV.impl_res r a b c d e f g h
 obtain ⟨K8,e8⟩:=CV.spec_res r a b c d e f g h
 obtain ⟨K9,e9⟩:=CR.impl_res a b c d e f g h
 obtain ⟨Ka,ea⟩:=CR.spec_res a b c d e f g h
 obtain ⟨Kb,s,u0,u1,v0,v1,eb⟩:=drawGap_ok hb hl2
 obtain ⟨Kc,ec⟩:=GA.impl_res s u0 u1 v0 v1
 obtain ⟨Kd,ed⟩:=GA.spec_res s u0 u1 v0 v1
 obtain ⟨Ke,ee⟩:=AP.impl_res s u0 u1 v0 v1
 obtain ⟨Kf,ef⟩:=AP.spec_res s u0 u1 v0 v1
 have P7:∀ k,Kb+Kc+Kd+Ke+Kf+1≤k→laws_FnLines.j7 k l=some true:=fun k hk=>by
  obtain ⟨k,rfl⟩:∃ m,k=m+1:=⟨k - 1,by omega⟩
  simp only [laws_FnLines.j7]
  rw [eb k (by omega)];simp only [Option.bind_some]
  rw [ec k (by omega),ed k (by omega),ee k (by omega),ef k (by omega)]
  simp only [Option.bind_some,if_true,beq_self_eq_true,Bool.and_self]
  by_cases z:(AP.res s u0 u1 v0 v1).2.2.2=0
  ·
   rw [if_pos z,apx _ _ _ _ _ z];simp
  ·
   rw [if_neg z]
 have P4:∃ K,∀ k,K≤k→laws_FnLines.j4 k l=some true:=by
  by_cases cv:(CV.res r a b c d e f g h).2=0
  ·
   have hz:Pr r∧isE a b∧isE c d∧isE e f∧isE g h:=by
    refine Decidable.by_contra fun z=>?_
    unfold CV.res at cv;rw [if_neg z] at cv;simp at cv
   have hy:dif [(⟨a,b⟩:S28),⟨c,d⟩,⟨e,f⟩,⟨g,h⟩]=true:=by
    refine Decidable.by_contra fun z=>?_
    unfold CV.res at cv;rw [if_pos hz,if_neg z] at cv;simp at cv
   obtain ⟨hp,i1,i2,i3,i4⟩:=hz
   obtain ⟨y1',y2',y3',y4'⟩:=CV.dif4 _ _ _ _ _ _ _ _ hy
   have b1:=CV.vbd hp i1 i3 y1'
   have b2:=CV.vbd hp i2 i4 y4'
   have b3:=CV.vbd hp i1 i4 y2'
   have b4:=CV.vbd hp i2 i3 y3'
   have s1:CV.res r a b c d e f g h=(CV.cvz r a b c d e f g h,0):=by unfold CV.res;rw [if_pos ⟨hp,i1,i2,i3,i4⟩,if_pos hy]
   have s2:CV.res r a b c d g h e f=(-(CV.cvz r a b c d e f g h),0):=by
    unfold CV.res;rw [if_pos ⟨hp,i1,i2,i4,i3⟩,if_pos (dif_swap _ _ _ _ _ _ _ _ hy)]
    unfold CV.cvz;simp only [Prod.mk.injEq,and_true];omega
   have sb : -1000≤CV.cvz r a b c d e f g h∧CV.cvz r a b c d e f g h≤1000:=by
    have:=b1.2.2;have:=b2.2.2;have:=b3.2.2;have:=b4.2.2
    unfold CV.cvz;omega
   obtain ⟨Kg,eg⟩:=CV.impl_res r a b c d g h e f
   have P6:∃ K,∀ k,K≤k→laws_FnLines.j6 k l r (CV.cvz r a b c d e f g h) (CR.res a b c d e f g h).2.2 false (CR.res a b c d e f g h).1 (CR.res a b c d e f g h).2.1=some true:=by
    by_cases cr:(CR.res a b c d e f g h).2.2=0
    ·
     have hr:CR.red1 (crs a b e f) (crs c d g h) (crs a b g h) (crs c d e f)=((CR.res a b c d e f g h).1,(CR.res a b c d e f g h).2.1,0):=by
      have:CR.res a b c d e f g h=CR.red1 (crs a b e f) (crs c d g h) (crs a b g h) (crs c d e f):=by unfold CR.res;rw [if_pos ⟨i1,i2,i3,i4⟩,if_pos hy]
      rw [← this,← cr]
     obtain ⟨r1,r2,r3,r4⟩:=red_val hp b1.1 b2.1 b3.1 b4.1 hr
     have bd:=cp r3
     obtain ⟨Kh,eh⟩:=ValuationOf_eq hp r1 r2 (by omega) (by omega)
     refine ⟨Kh+Kb+Kc+Kd+Ke+Kf+2,fun k hk=>?_⟩
     obtain ⟨k,rfl⟩:∃ m,k=m+1:=⟨k - 1,by omega⟩
     simp only [laws_FnLines.j6]
     rw [if_neg (by simp),if_pos cr,eh k (by omega)]
     simp only [Option.bind_some,if_true]
     rw [if_pos (r4.trans (by unfold W4 CV.cvz;omega))]
     exact P7 k (by omega)
    ·
     refine ⟨Kb+Kc+Kd+Ke+Kf+2,fun k hk=>?_⟩
     obtain ⟨k,rfl⟩:∃ m,k=m+1:=⟨k - 1,by omega⟩
     simp only [laws_FnLines.j6]
     rw [if_neg (by simp),if_neg cr]
     exact P7 k (by omega)
   obtain ⟨Ki,e10⟩:=P6
   refine ⟨K6+K7+K8+K9+Ka+Kg+Ki+3,fun k hk=>?_⟩
   obtain ⟨k,rfl⟩:∃ m,k=m+1+1:=⟨k - 2,by omega⟩
   simp only [laws_FnLines.j4]
   rw [e6 _ (by omega)];simp only [Option.bind_some]
   rw [e7 _ (by omega),e8 _ (by omega),e9 _ (by omega),ea _ (by omega),s1]
   simp only [Option.bind_some,if_true,beq_self_eq_true,Bool.not_true,Bool.or_false,laws_FnLines.j5]
   rw [if_neg (by simp),eg k (by omega),s2]
   simp only [Option.bind_some,if_true]
   rw [w64 (n:=-(CV.cvz r a b c d e f g h)) (by omega) (by omega),bne_self_eq_false]
   exact e10 k (by omega)
  ·
   refine ⟨K6+K7+K8+K9+Ka+Kb+Kc+Kd+Ke+Kf+3,fun k hk=>?_⟩
   obtain ⟨k,rfl⟩:∃ m,k=m+1+1:=⟨k - 2,by omega⟩
   simp only [laws_FnLines.j4]
   rw [e6 _ (by omega)];simp only [Option.bind_some]
   rw [e7 _ (by omega),e8 _ (by omega),e9 _ (by omega),ea _ (by omega)]
   simp only [Option.bind_some,if_true,beq_self_eq_true,Bool.not_true,Bool.or_false,laws_FnLines.j5]
   rw [if_neg (by simp),if_neg cv]
   exact P7 k (by omega)
 obtain ⟨L4,p4⟩:=P4
 have P3:∃ K,∀ k,K≤k→laws_FnLines.j3 k l q (fE q x0 x1 y0 y1 z0 z1).2.2.2 false x0 x1 y0 y1 z0 z1 (fE q x0 x1 y0 y1 z0 z1).1 (fE q x0 x1 y0 y1 z0 z1).2.1 (fE q x0 x1 y0 y1 z0 z1).2.2.1=some true:=by
  by_cases cm:(fE q x0 x1 y0 y1 z0 z1).2.2.2=0
  ·
   have ht:fK q x0 x1 y0 y1 z0 z1:=by
    refine Decidable.by_contra fun z=>?_
    unfold fE at cm;rw [if_neg z] at cm;simp at cm
   have hA:fL x0 x1 y0 y1 z0 z1:=by
    refine Decidable.by_contra fun z=>?_
    unfold fE at cm;rw [if_pos ht,if_neg z] at cm;simp at cm
   have s1:fE q x0 x1 y0 y1 z0 z1=fI 3 (di q x0 x1 y0 y1 z0 z1):=by unfold fE;rw [if_pos ht,if_pos hA]
   have s2:fE q z0 z1 x0 x1 y0 y1=fE q x0 x1 y0 y1 z0 z1:=by
    rw [s1];unfold fE
    rw [if_pos (show fK q z0 z1 x0 x1 y0 y1 from ⟨ht.1,ht.2.2.2,ht.2.1,ht.2.2.1⟩),if_pos (show fL z0 z1 x0 x1 y0 y1 from ⟨fun z=>hA.2.1 ⟨z.1.symm,z.2.symm⟩,fun z=>hA.2.2 ⟨z.1.symm,z.2.symm⟩,hA.1⟩),meet_turn ht hA]
   cases hm:di q x0 x1 y0 y1 z0 z1 with
   | none=>rw [s1,hm] at cm;simp [fI] at cm
   | some m=>
    have ms:=meet_spec ht hA hm
    have s3:fE q x0 x1 y0 y1 z0 z1=(m.lv,m.top,m.dn,0):=by rw [s1,hm];rfl
    obtain ⟨Kg,eg⟩:=implM_res q z0 z1 x0 x1 y0 y1
    obtain ⟨Kh,eh⟩:=IL.impl_res q m.lv m.top m.dn x0 x1 y0 y1
    obtain ⟨Ki,ei⟩:=IL.impl_res q m.lv m.top m.dn y0 y1 z0 z1
    obtain ⟨Kj,ej⟩:=IL.impl_res q m.lv m.top m.dn z0 z1 x0 x1
    have o1:=onl_res ht.1 ht.2.1 ht.2.2.1 hA.1 ⟨ms.1,ms.2.1⟩
    have o2:=onl_res ht.1 ht.2.2.1 ht.2.2.2 hA.2.2 ⟨ms.1,ms.2.2.1⟩
    have o3:=onl_res ht.1 ht.2.2.2 ht.2.1 (fun z=>hA.2.1 ⟨z.1.symm,z.2.symm⟩) ⟨ms.1,ms.2.2.2⟩
    refine ⟨Kg+Kh+Ki+Kj+L4+1,fun k hk=>?_⟩
    obtain ⟨k,rfl⟩:∃ m,k=m+1:=⟨k - 1,by omega⟩
    rw [s3]
    simp only [laws_FnLines.j3]
    rw [if_neg (by simp),if_pos trivial,eg k (by omega),s2,s3]
    simp only [Option.bind_some]
    rw [eh k (by omega),ei k (by omega),ej k (by omega),o1,o2,o3]
    simp only [Option.bind_some,if_true,beq_self_eq_true,Bool.not_true,Bool.or_false]
    rw [if_neg (by simp)]
    exact p4 k (by omega)
  ·
   refine ⟨L4+1,fun k hk=>?_⟩
   obtain ⟨k,rfl⟩:∃ m,k=m+1:=⟨k - 1,by omega⟩
   simp only [laws_FnLines.j3]
   rw [if_neg (by simp),if_neg cm]
   exact p4 k (by omega)
 obtain ⟨L3,p3⟩:=P3
 obtain ⟨LB,hLB⟩:∃ L_,(BL.res p n1 d1 n2 d2 j).1=L_:=⟨_,rfl⟩
 have hlen:LB.length≤20:=by rw [← hLB];exact BL.res_len p n1 d1 n2 d2 j
 have hon:(∀ i,i<LB.length→∃ b,LB[i]?=some (BL.eB b)∧Pr p∧isE n1 d1∧isE n2 d2∧¬ (n1=n2∧d1=d2)∧OnL p n1 d1 n2 d2 b)∧(∀ i,i+1<LB.length→∃ a b,LB[i]?=some (BL.eB a)∧LB[i+1]?=some (BL.eB b)∧Pr p∧PM.Ok p a∧PM.Ok p b∧PM.dist p a b=1):=by
  rw [← hLB]
  unfold BL.res
  by_cases c1:Pr p∧isE n1 d1∧isE n2 d2
  ·
   rw [if_pos c1]
   by_cases c2:0≤j∧j≤6
   ·
    rw [if_pos c2]
    by_cases c3:n1=n2∧d1=d2
    ·
     rw [if_pos c3];exact ⟨fun i hi=>by simp at hi,fun i hi=>by simp at hi⟩
    ·
     rw [if_neg c3]
     cases hL:BL.lineR p n1 d1 n2 d2 j with
     | none=>exact ⟨fun i hi=>by simp [BL.finR] at hi,fun i hi=>by simp [BL.finR] at hi⟩
     | some L=>
      obtain ⟨A,B⟩:=line_all c1.1 c1.2.1 c1.2.2 c3 c2 hL
      refine ⟨fun i hi=>?_,fun i hi=>?_⟩
      ·
       obtain ⟨b,b1,b2⟩:=A i hi
       exact ⟨b,b1,c1.1,c1.2.1,c1.2.2,c3,b2⟩
      ·
       obtain ⟨a,b,a1,b1,a2,b2,ab⟩:=B i hi
       exact ⟨a,b,a1,b1,c1.1,a2,b2,ab⟩
   ·
    rw [if_neg c2];exact ⟨fun i hi=>by simp at hi,fun i hi=>by simp at hi⟩
  ·
   rw [if_neg c1];exact ⟨fun i hi=>by simp at hi,fun i hi=>by simp at hi⟩
 have hil:∀ m,m≤LB.length→∃ K,∀ i,i<m→∀ k,K≤k→bP.f k p (an LB (i:Int)).f0 (an LB (i:Int)).f1 (an LB (i:Int)).f2 n1 d1 n2 d2=some (true,0):=by
  intro m
  induction m with
  | zero=>exact fun _=>⟨0,fun i hi=>by omega⟩
  | succ m ih=>
   intro hm
   obtain ⟨K,hK⟩:=ih (by omega)
   obtain ⟨b,b1,hp,i1,i2,hne,on⟩:=hon.1 m (by omega)
   obtain ⟨K',hK'⟩:=IL.impl_res p b.lv b.top b.dn n1 d1 n2 d2
   refine ⟨K+K',fun i hi k hk=>?_⟩
   by_cases c:i<m
   ·
    exact hK i c k (by omega)
   ·
    have:i=m:=by omega
    subst this
    rw [rdB3 _ _ _ b1]
    exact (hK' k (by omega)).trans (by rw [onl_res hp i1 i2 hne on])
 obtain ⟨Kz,hz⟩:=hil LB.length (Nat.le_refl _)
 have go:∀ (w i k:Nat),i+w=LB.length→K3+K4+K5+L3+Kz+300+2*w≤k→laws_FnLines.l0 k l p LB (i:Int) n1 d1 n2 d2=some true:=by
  intro w
  induction w with
  | zero=>
   intro i k hi hk
   obtain ⟨k,rfl⟩:∃ m,k=m+1:=⟨k - 1,by omega⟩
   simp only [laws_FnLines.l0]
   rw [if_neg (by omega),e3 k (by omega)];simp only [Option.bind_some]
   rw [e4 k (by omega),e5 k (by omega)]
   simp only [Option.bind_some,if_true,beq_self_eq_true,Bool.not_true,Bool.or_false]
   exact p3 k (by omega)
  | succ w ih=>
   intro i k hi hk
   obtain ⟨k,rfl⟩:∃ m,k=m+1+1:=⟨k - 2,by omega⟩
   simp only [laws_FnLines.l0]
   rw [if_pos (by omega),if_pos (by omega),hz i (by omega) _ (by omega)]
   simp only [Option.bind_some,if_true,Bool.not_true,laws_FnLines.j2]
   rw [if_neg (by simp)]
   have e20:wrap64 ((i:Int)+1)=((i+1:Nat):Int):=by rw [w64 (n:=(i:Int)+1) (by omega) (by omega)];omega
   by_cases c:(i:Int)>0
   ·
    obtain ⟨i,rfl⟩:∃ m,i=m+1:=Nat.exists_eq_succ_of_ne_zero (fun hh=>by subst hh;simp at c)
    obtain ⟨a',b',a1,b1,hp,a2,b2,ab⟩:=hon.2 i (by omega)
    have e21:wrap64 (((i+1:Nat):Int) - 1)=(i:Int):=by clear ab e20;rw [w64 (n:=((i+1:Nat):Int) - 1) (by omega) (by omega)];omega
    rw [if_pos c,e21,if_pos (by clear ab e20;omega),if_pos (by clear ab e20;omega),if_pos (by clear ab e20;omega),if_pos (by clear ab e20;omega),rdB3 _ _ _ a1,rdB3 _ _ _ b1]
    simp only [BL.eB]
    rw [TreeDistance_eq (l1:=a'.lv) (t1:=a'.top) (d1:=a'.dn) (l2:=b'.lv) (t2:=b'.top) (d2:=b'.dn) hp a2 b2 k (by clear ab e20;omega)]
    simp only [Option.bind_some,if_true]
    rw [if_pos (show PM.dist p ⟨a'.lv,a'.top,a'.dn⟩ ⟨b'.lv,b'.top,b'.dn⟩=1 from ab),e20]
    exact ih (i+1+1) k (by clear ab e20;omega) (by clear ab e20;omega)
   ·
    rw [if_neg c,e20]
    exact ih (i+1) k (by omega) (by omega)
 refine ⟨K0+K1+K2+(K3+K4+K5+L3+Kz+300+2*LB.length)+100+1,?_⟩
 unfold laws_FnLines.f eC.f
 rw [decide_eq_false hl]
 simp only [Option.bind_some]
 rw [if_neg (by simp),e0 _ (by omega)];simp only [Option.bind_some]
 rw [e1 _ (by omega),e2 _ (by omega)];simp only [Option.bind_some,if_true]
 rw [hLB,balls5_eq _ (by omega) _ (by omega)];simp only [Option.bind_some,Bool.not_true,laws_FnLines.j0]
 rw [if_neg (by simp)]
 exact go LB.length 0 _ (by omega) (by omega)
end Go.Proofs.Ytpihnmmoahplgaa.Pure
