/- What the law FnRays says of the printed functions holds for every code: it answers true. -/
import Derived.Test.YtabcckoeilegnaaQLFnRays
import Derived.Test.YtabcckoeilegnaaMath
import Derived.Laws.Bits64b
import Derived.Lib.BitFns
set_option linter.unusedVariables false
set_option linter.unusedSimpArgs false
namespace Go.Proofs.Ytabcckoeilegnaa.Pure
open Go.RowKit Go.Proofs.Ytabcckoeilegnaa.PAll Go.Proofs.YtabcckoeilegnaaW.PrintWords Go.Proofs.YtabcckoeilegnaaW.PrintLast PM

theorem w64 {n:Int} (h1 : -9223372036854775808≤n) (h2:n≤9223372036854775807):wrap64 n=n:=by unfold wrap64;omega
theorem rd_nat (l:List Int) (i:Nat) (h:i<l.length):l[i]?=some (rd l (i:Int)):=by
 unfold rd;simp [List.getD_eq_getElem?_getD,h]

theorem prime_cases (p:Int):(spec_l01Prime.f p=some true∧(p=2∨p=3∨p=5∨p=7))∨(spec_l01Prime.f p=some false∧¬ (p=2∨p=3∨p=5∨p=7)):=by
 unfold spec_l01Prime.f
 by_cases h2:p=2
 ·
  simp [h2]
 by_cases h3:p=3
 ·
  simp [h3]
 by_cases h5:p=5
 ·
  simp [h5]
 by_cases h7:p=7
 ·
  simp [h7]
 ·
  simp [h2,h3,h5,h7]

theorem isPrime_eq (p:Int):impl_isPrime.f p=spec_l01Prime.f p:=rfl

theorem in_eq (n a b:Int):spec_l01In.f n a b=some (decide (a≤n∧n≤b)):=by
 unfold spec_l01In.f
 by_cases h:a≤n
 ·
  rw [if_pos h];simp [h]
 ·
  rw [if_neg (by omega)];simp [h]

/-- all numbers of a list have absolute values of at most so much -/
def allB (m:Int) (l:List Int):Bool:=l.all fun x=>decide (-m≤x∧x≤m)
theorem allB_drop (m:Int) (l:List Int) (i:Nat) (h:i<l.length):allB m (l.drop i)=(decide (-m≤rd l i∧rd l i≤m) && allB m (l.drop (i+1))):=by
 have h1:=rd_nat l i h
 rw [List.getElem?_eq_getElem h] at h1
 rw [List.drop_eq_getElem_cons h,Option.some.inj h1];rfl
theorem within_eq (m:Int) (hm:0≤m) (hm2:m≤1000000000000000000) (l:List Int) (hl:l.length≤1048576):∃ K,∀ k,K≤k→impl_within.f k m l=some (allB m l):=by
 have go:∀ (d k i:Nat),i+d=l.length→d<k→impl_within.l0 k m l l.length i=some (allB m (l.drop i)):=by
  intro d
  induction d with
  | zero=>
   intro k i h2 h3
   obtain ⟨k,rfl⟩:∃ m,k=m+1:=⟨k - 1,by omega⟩
   simp only [impl_within.l0]
   rw [if_neg (by omega),List.drop_eq_nil_of_le (by omega)];rfl
  | succ d ih=>
   intro k i h2 h3
   obtain ⟨k,rfl⟩:∃ m,k=m+1:=⟨k - 1,by omega⟩
   simp only [impl_within.l0]
   rw [if_pos (by omega),if_pos (by omega),if_pos (by omega),allB_drop _ _ _ (by omega),w64 (n:=-m) (by omega) (by omega),w64 (by omega) (by omega)]
   have:=ih k (i+1) (by omega) (by omega)
   rw [show ((i:Int)+1)=((i+1:Nat):Int) from by omega,this]
   by_cases h:rd l (i:Int) < -m
   ·
    rw [if_pos h,decide_eq_false (by omega)];rfl
   ·
    rw [if_neg h]
    by_cases h':rd l (i:Int)>m
    ·
     rw [if_pos h',decide_eq_false (by omega)];rfl
    ·
     rw [if_neg h',decide_eq_true (by omega)];rfl
 exact ⟨l.length+1,fun k hk=>by
  have:=go l.length k 0 (by omega) (by omega)
  simpa [impl_within.f] using this⟩

theorem all_drop {α:Type} (P:α→Bool) (l:List α) (i:Nat) (h:i<l.length):(l.drop i).all P=(P (l[i]'h) && (l.drop (i+1)).all P):=by
 rw [List.drop_eq_getElem_cons h];rfl
theorem tmod_zero_iff (n p:Int):n.tmod p=0↔p ∣ n:=Int.dvd_iff_tmod_eq_zero.symm

theorem val_eq (p n:Int) (hp:Pr p) (hn:n≠0) (hb:n.natAbs≤9223372036854775807):∀ k,70≤k→spec_l01Val.f k p n=some (vl p n:Int):=by
 have hp2:=hp.pos
 have go:∀ (v k:Nat) (n s:Int),n≠0→n.natAbs≤9223372036854775807→vl p n=v→v<k→0≤s→s+v≤1000000→spec_l01Val.l0 k p n s=some (s+v):=by
  intro v
  induction v with
  | zero=>
   intro k n s hn hb hv hk h0 h1
   obtain ⟨k,rfl⟩:∃ m,k=m+1:=⟨k - 1,by omega⟩
   simp only [spec_l01Val.l0]
   rw [if_neg (by omega),if_neg (by rw [tmod_zero_iff];exact (vl_zero_iff hp hn).1 hv)]
   simp
  | succ v ih=>
   intro k n s hn hb hv hk h0 h1
   obtain ⟨k,rfl⟩:∃ m,k=m+1:=⟨k - 1,by omega⟩
   have hd:p ∣ n:=Decidable.byContradiction fun h=>by have:=(vl_zero_iff hp hn).2 h;omega
   obtain ⟨g1,g2,g3⟩:=vl_step hp hn hd
   simp only [spec_l01Val.l0]
   rw [if_neg (by omega),if_pos (by rw [tmod_zero_iff];exact hd),w64 (n:=n.tdiv p) (by omega) (by omega),w64 (n:=s+1) (by omega) (by omega),ih k _ _ g1 (by omega) (by omega) (by omega) (by omega) (by omega)]
   congr 1;omega
 intro k hk
 have hle:=vl_le63 hp hn (by omega)
 unfold spec_l01Val.f
 rw [go (vl p n) k n 0 hn hb rfl (by omega) (by omega) (by omega)]
 congr 1;omega

theorem valuation_eq (p n:Int) (hp:Pr p) (hb:n.natAbs≤9223372036854775807):∀ k,70≤k→impl_valuation.f k p n=some (vz p n):=by
 have hp2:=hp.pos
 have go:∀ (v k:Nat) (n s:Int),n≠0→n.natAbs≤9223372036854775807→vl p n=v→v<k→0≤s→s+v≤1000000→impl_valuation.l0 k p n s=some (s+v):=by
  intro v
  induction v with
  | zero=>
   intro k n s hn hb hv hk h0 h1
   obtain ⟨k,rfl⟩:∃ m,k=m+1:=⟨k - 1,by omega⟩
   simp only [impl_valuation.l0]
   rw [if_neg (by omega),if_neg (by rw [tmod_zero_iff];exact (vl_zero_iff hp hn).1 hv)]
   simp
  | succ v ih=>
   intro k n s hn hb hv hk h0 h1
   obtain ⟨k,rfl⟩:∃ m,k=m+1:=⟨k - 1,by omega⟩
   have hd:p ∣ n:=Decidable.byContradiction fun h=>by have:=(vl_zero_iff hp hn).2 h;omega
   obtain ⟨g1,g2,g3⟩:=vl_step hp hn hd
   simp only [impl_valuation.l0]
   rw [if_neg (by omega),if_pos (by rw [tmod_zero_iff];exact hd),w64 (n:=n.tdiv p) (by omega) (by omega),w64 (n:=s+1) (by omega) (by omega),ih k _ _ g1 (by omega) (by omega) (by omega) (by omega) (by omega)]
   congr 1;omega
 intro k hk
 unfold impl_valuation.f vz
 by_cases h0:n=0
 ·
  rw [if_pos h0,if_pos h0]
 ·
  have hle:=vl_le63 hp h0 (by omega)
  rw [if_neg h0,if_neg h0,go (vl p n) k n 0 h0 hb rfl (by omega) (by omega) (by omega)]
  congr 1;omega

theorem pw_bd (p k:Int) (hp:Pr p) (h:k≤20):1≤pw p k∧pw p k≤79792266297612001:=by
 have h1:=pw_pos2 hp k
 have h2:=pw_le hp h
 have h3:pw p 20≤79792266297612001:=by
  rcases hp with rfl|rfl|rfl|rfl <;> decide +kernel
 omega
theorem pw_bd12 (p k:Int) (hp:Pr p) (h:k≤12):1≤pw p k∧pw p k≤13841287201:=by
 have h1:=pw_pos2 hp k
 have h2:=pw_le hp h
 have h3:pw p 12≤13841287201:=by
  rcases hp with rfl|rfl|rfl|rfl <;> decide +kernel
 omega
theorem pw_bd6 (p k:Int) (hp:Pr p) (h:k≤6):1≤pw p k∧pw p k≤117649:=by
 have h1:=pw_pos2 hp k
 have h2:=pw_le hp h
 have h3:pw p 6≤117649:=by
  rcases hp with rfl|rfl|rfl|rfl <;> decide +kernel
 omega
theorem pw_succ (p k:Int) (h:0≤k):pw p (k+1)=pw p k*p:=by
 rw [pw_add h (by omega),pw_one]

theorem l01Power_eq (p n:Int) (hp:Pr p) (h:n≤20) (h0 : -9223372036854775808≤n):∀ k,30≤k→spec_l01Power.f k p n=some (pw p n):=by
 have hp2:=hp.pos
 have go:∀ (d k:Nat) (n out j:Int),n=d→0≤j→j+d≤20→d<k→out=pw p j→spec_l01Power.l0 k p n out=some (pw p (j+d)):=by
  intro d
  induction d with
  | zero=>
   intro k n out j hn hj hs hk ho
   obtain ⟨k,rfl⟩:∃ m,k=m+1:=⟨k - 1,by omega⟩
   simp only [spec_l01Power.l0]
   rw [if_neg (by omega),ho];simp
  | succ d ih=>
   intro k n out j hn hj hs hk ho
   obtain ⟨k,rfl⟩:∃ m,k=m+1:=⟨k - 1,by omega⟩
   simp only [spec_l01Power.l0]
   have hb:=pw_bd p (j+1) hp (by omega)
   have hs1:=pw_succ p j hj
   rw [if_pos (by omega),w64 (n:=n - 1) (by omega) (by omega),ho,← hs1,w64 (by omega) (by omega),ih k (n - 1) _ (j+1) (by omega) (by omega) (by omega) (by omega) rfl]
   congr 2;omega
 intro k hk
 unfold spec_l01Power.f
 by_cases h1:n≤0
 ·
  obtain ⟨k,rfl⟩:∃ m,k=m+1:=⟨k - 1,by omega⟩
  simp only [spec_l01Power.l0]
  rw [if_neg (by omega)]
  simp [pw,show n.toNat=0 by omega]
 ·
  rw [go n.toNat k n 1 0 (by omega) (by omega) (by omega) (by omega) (by simp [pw])]
  congr 2;omega

theorem power_eq (p n:Int) (hp:Pr p) (h:n≤20):∀ k,30≤k→impl_power.f k p n=some (pw p n):=by
 have hp2:=hp.pos
 have go:∀ (d k:Nat) (n out j:Int),n=j+d→0≤j→n≤20→d<k→out=pw p j→impl_power.l0 k p out n j=some (pw p n):=by
  intro d
  induction d with
  | zero=>
   intro k n out j hn hj hs hk ho
   obtain ⟨k,rfl⟩:∃ m,k=m+1:=⟨k - 1,by omega⟩
   simp only [impl_power.l0]
   rw [if_neg (by omega),ho]
   congr 2;omega
  | succ d ih=>
   intro k n out j hn hj hs hk ho
   obtain ⟨k,rfl⟩:∃ m,k=m+1:=⟨k - 1,by omega⟩
   simp only [impl_power.l0]
   have hb:=pw_bd p (j+1) hp (by omega)
   have hs1:=pw_succ p j hj
   rw [if_pos (by omega),w64 (n:=j+1) (by omega) (by omega),ho,← hs1,w64 (by omega) (by omega),ih k n _ (j+1) (by omega) (by omega) (by omega) (by omega) rfl]
 intro k hk
 unfold impl_power.f
 by_cases h1:n≤0
 ·
  obtain ⟨k,rfl⟩:∃ m,k=m+1:=⟨k - 1,by omega⟩
  simp only [impl_power.l0]
  rw [if_neg (by omega)]
  simp [pw,show n.toNat=0 by omega]
 ·
  rw [go n.toNat k n 1 0 (by omega) (by omega) (by omega) (by omega) (by simp [pw])]

theorem mx_neg (a:Int) (h:a.natAbs≤9223372036854775807):mx a (wrap64 (-a))=(a.natAbs:Int):=by
 rw [w64 (by omega) (by omega)];unfold mx;split <;> omega
theorem gcd_tmod (a b:Int):Int.gcd b (a.tmod b)=Int.gcd a b:=by
 have h:=Int.gcd_add_mul_left_right b (a.tmod b) (a.tdiv b)
 rw [Int.tmod_add_mul_tdiv] at h
 rw [Int.gcd_comm a b];exact h.symm

theorem l01Gcd_eq (a b:Int) (ha:a.natAbs≤9223372036854775807) (hb:b.natAbs≤9223372036854775807):∃ K,∀ k,K≤k→spec_l01Gcd.f k a b=some (Int.gcd a b:Int):=by
 have go:∀ (d k:Nat) (a b:Int),a.natAbs≤9223372036854775807→b.natAbs≤9223372036854775807→b.natAbs≤d→d<k→spec_l01Gcd.l0 k a b=some (Int.gcd a b:Int):=by
  intro d
  induction d with
  | zero=>
   intro k a b ha hb0 hb hk
   obtain ⟨k,rfl⟩:∃ m,k=m+1:=⟨k - 1,by omega⟩
   obtain rfl:b=0:=by omega
   simp only [spec_l01Gcd.l0]
   rw [if_pos trivial,mx_neg a ha,Int.gcd_zero_right]
  | succ d ih=>
   intro k a b ha hb0 hb hk
   obtain ⟨k,rfl⟩:∃ m,k=m+1:=⟨k - 1,by omega⟩
   simp only [spec_l01Gcd.l0]
   by_cases h:b=0
   ·
    rw [if_pos h,mx_neg a ha,h,Int.gcd_zero_right]
   ·
    rw [if_neg h,ih k b (a.tmod b) hb0 (by
     have:(a.tmod b).natAbs<b.natAbs:=by rw [Int.natAbs_tmod];exact Nat.mod_lt _ (by omega)
     omega) (by
     have:(a.tmod b).natAbs<b.natAbs:=by rw [Int.natAbs_tmod];exact Nat.mod_lt _ (by omega)
     omega) (by omega),gcd_tmod]
 exact ⟨b.natAbs+1,fun k hk=>by unfold spec_l01Gcd.f;exact go b.natAbs k a b ha hb (Nat.le_refl _) (by omega)⟩

theorem gcd_eq (a b:Int) (ha:a.natAbs≤9223372036854775807) (hb:b.natAbs≤9223372036854775807):∃ K,∀ k,K≤k→impl_gcd.f k a b=some (Int.gcd a b:Int):=by
 have go:∀ (d k:Nat) (a b:Int),a.natAbs≤9223372036854775807→b.natAbs≤9223372036854775807→b.natAbs≤d→d<k→impl_gcd.l0 k a b=some (Int.gcd a b:Int):=by
  intro d
  induction d with
  | zero=>
   intro k a b ha hb0 hb hk
   obtain ⟨k,rfl⟩:∃ m,k=m+1:=⟨k - 1,by omega⟩
   obtain rfl:b=0:=by omega
   simp only [impl_gcd.l0]
   rw [if_pos trivial,mx_neg a ha,Int.gcd_zero_right]
  | succ d ih=>
   intro k a b ha hb0 hb hk
   obtain ⟨k,rfl⟩:∃ m,k=m+1:=⟨k - 1,by omega⟩
   simp only [impl_gcd.l0]
   by_cases h:b=0
   ·
    rw [if_pos h,mx_neg a ha,h,Int.gcd_zero_right]
   ·
    rw [if_neg h,ih k b (a.tmod b) hb0 (by
     have:(a.tmod b).natAbs<b.natAbs:=by rw [Int.natAbs_tmod];exact Nat.mod_lt _ (by omega)
     omega) (by
     have:(a.tmod b).natAbs<b.natAbs:=by rw [Int.natAbs_tmod];exact Nat.mod_lt _ (by omega)
     omega) (by omega),gcd_tmod]
 exact ⟨b.natAbs+1,fun k hk=>by unfold impl_gcd.f;exact go b.natAbs k a b ha hb (Nat.le_refl _) (by omega)⟩

theorem l01End_eq (n d:Int):∃ K,∀ k,K≤k→spec_l01End.f k n d=some (decide (isE n d)):=by
 by_cases h0:d=0
 ·
  refine ⟨0,fun k _=>?_⟩
  unfold spec_l01End.f
  rw [if_pos h0]
  congr 1
  by_cases h:n=1
  ·
   simp [h,h0,isE]
  ·
   simp [h,h0,isE]
 ·
  by_cases h1:1≤d∧d≤1000000
  ·
   by_cases h2 : -1000000≤n∧n≤1000000
   ·
    obtain ⟨K,hK⟩:=l01Gcd_eq n d (by omega) (by omega)
    refine ⟨K,fun k hk=>?_⟩
    unfold spec_l01End.f
    rw [if_neg h0,in_eq,in_eq,hK k hk,decide_eq_true h1,decide_eq_true h2]
    simp only [Option.bind_some,if_true]
    congr 1
    rw [Bool.eq_iff_iff]
    simp [isE,h0,h1,h2]
    omega
   ·
    refine ⟨0,fun k _=>?_⟩
    unfold spec_l01End.f
    rw [if_neg h0,in_eq,in_eq,decide_eq_true h1,decide_eq_false h2]
    simp only [Option.bind_some,if_true]
    rw [if_neg (by simp),decide_eq_false]
    unfold isE;omega
  ·
   refine ⟨0,fun k _=>?_⟩
   unfold spec_l01End.f
   rw [if_neg h0,in_eq,decide_eq_false h1]
   simp only [Option.bind_some]
   rw [if_neg (by simp),decide_eq_false]
   unfold isE;omega

theorem IsEnd_eq (n d:Int):∃ K,∀ k,K≤k→impl_IsEnd.f k n d=some (decide (isE n d)):=by
 by_cases h0:d=0
 ·
  refine ⟨0,fun k _=>?_⟩
  unfold impl_IsEnd.f
  rw [if_pos h0]
  congr 1
  by_cases h:n=1
  ·
   simp [h,h0,isE]
  ·
   simp [h,h0,isE]
 ·
  obtain ⟨K1,hw⟩:=within_eq 1000000 (by omega) (by omega) [n,d] (by simp)
  have ew:allB 1000000 [n,d]=decide ((-1000000≤n∧n≤1000000)∧-1000000≤d∧d≤1000000):=by simp [allB]
  rw [ew] at hw
  by_cases h1:(-1000000≤n∧n≤1000000)∧-1000000≤d∧d≤1000000
  ·
   obtain ⟨K2,hK⟩:=gcd_eq n d (by omega) (by omega)
   refine ⟨K1+K2,fun k hk=>?_⟩
   unfold impl_IsEnd.f
   rw [if_neg h0,hw k (by omega),decide_eq_true h1,hK k (by omega)]
   simp only [Option.bind_some,if_true]
   by_cases h2:d>0
   ·
    rw [if_pos h2]
    congr 1
    rw [Bool.eq_iff_iff]
    simp [isE,h0,h1]
    omega
   ·
    rw [if_neg h2,decide_eq_false]
    unfold isE;omega
  ·
   refine ⟨K1,fun k hk=>?_⟩
   unfold impl_IsEnd.f
   rw [if_neg h0,hw k (by omega),decide_eq_false h1]
   simp only [Option.bind_some]
   rw [if_neg (by simp),decide_eq_false]
   unfold isE;omega

def eOk (x:S27):Bool:=decide (isE x.f0 x.f1)
theorem rdE (l:List S27) (i:Nat) (h:i<l.length):rd_T27 l (i:Int)=l[i]'h:=by
 unfold rd_T27;simp [List.getD_eq_getElem?_getD,h]
/-- an end is none of those ahead of it -/
def difAt (l:List S27) (i:Nat):Bool:=(l.take i).all fun x=>!(x.f0 == (rd_T27 l i).f0 && x.f1 == (rd_T27 l i).f1)
def difFrom (l:List S27):Nat→Nat→Bool
 | 0,_=>true
 | d+1,i=>difAt l i && difFrom l d (i+1)
def dif (l:List S27):Bool:=difFrom l l.length 0

theorem areEnds_eq (l:List S27) (hl:l.length≤1000):∃ K,∀ k,K≤k→impl_areEnds.f k l=some (l.all eOk):=by
 have go:∀ (d i:Nat),i+d=l.length→∃ K,∀ k,K≤k→impl_areEnds.l0 k l l.length i=some ((l.drop i).all eOk):=by
  intro d
  induction d with
  | zero=>
   intro i hi
   refine ⟨1,fun k hk=>?_⟩
   obtain ⟨k,rfl⟩:∃ m,k=m+1:=⟨k - 1,by omega⟩
   simp only [impl_areEnds.l0]
   rw [if_neg (by omega),List.drop_eq_nil_of_le (by omega)];rfl
  | succ d ih=>
   intro i hi
   obtain ⟨K1,h1⟩:=ih (i+1) (by omega)
   obtain ⟨K2,h2⟩:=IsEnd_eq (l[i]'(by omega)).f0 (l[i]'(by omega)).f1
   refine ⟨K1+K2+1,fun k hk=>?_⟩
   obtain ⟨k,rfl⟩:∃ m,k=m+1:=⟨k - 1,by omega⟩
   simp only [impl_areEnds.l0]
   rw [if_pos (by omega),if_pos (by omega),if_pos (by omega),rdE l i (by omega),h2 k (by omega),all_drop eOk l i (by omega),w64 (by omega) (by omega),show ((i:Int)+1)=((i+1:Nat):Int) from by omega,h1 k (by omega)]
   simp only [Option.bind_some]
   show _=some (decide (isE _ _) && _)
   by_cases h:isE (l[i]'(by omega)).f0 (l[i]'(by omega)).f1
   ·
    rw [decide_eq_true h];simp
   ·
    rw [decide_eq_false h];simp
 obtain ⟨K,h⟩:=go l.length 0 (by omega)
 exact ⟨K,fun k hk=>by have:=h k hk;simpa [impl_areEnds.f] using this⟩

theorem l05Different_eq (l:List S27) (hl:l.length≤1000):∃ K,∀ k,K≤k→spec_l05Different.f k l=some (dif l):=by
 have l1:∀ (d k i j:Nat),j+d=i→i<l.length→spec_l05Different.l1 (k+d+1) l i j=if ((l.take i).drop j).all (fun x=>!(x.f0 == (rd_T27 l i).f0 && x.f1 == (rd_T27 l i).f1))=true then spec_l05Different.l0 k l ((i+1:Nat):Int) else some false:=by
  intro d
  induction d with
  | zero=>
   intro k i j hj hi
   simp only [spec_l05Different.l1]
   rw [if_neg (by omega),List.drop_eq_nil_of_le (by simp;omega),w64 (by omega) (by omega)];rfl
  | succ d ih=>
   intro k i j hj hi
   have hlt:j<(l.take i).length:=by simp;omega
   rw [show k+(d+1)+1=(k+d+1)+1 from rfl,spec_l05Different.l1,all_drop _ _ j hlt]
   rw [if_pos (by omega),if_pos (by omega),if_pos (by omega),if_pos (by omega),if_pos (by omega),w64 (by omega) (by omega)]
   have:=ih k i (j+1) (by omega) hi
   rw [show ((j:Int)+1)=((j+1:Nat):Int) from by omega,this,rdE l j (by omega)]
   have e:(l.take i)[j]'hlt=l[j]'(by omega):=List.getElem_take
   rw [e]
   by_cases h:((rd_T27 l i).f0 == (l[j]'(by omega)).f0 && ((rd_T27 l i).f1 == (l[j]'(by omega)).f1))=true
   ·
    rw [if_pos h]
    have h':((l[j]'(by omega)).f0 == (rd_T27 l i).f0 && ((l[j]'(by omega)).f1 == (rd_T27 l i).f1))=true:=by
     simp only [Bool.and_eq_true,beq_iff_eq] at h ⊢;exact ⟨h.1.symm,h.2.symm⟩
    rw [h'];simp
   ·
    rw [if_neg h]
    have h':((l[j]'(by omega)).f0 == (rd_T27 l i).f0 && ((l[j]'(by omega)).f1 == (rd_T27 l i).f1))=false:=by
     rw [Bool.eq_false_iff];intro h2;apply h
     simp only [Bool.and_eq_true,beq_iff_eq] at h2 ⊢;exact ⟨h2.1.symm,h2.2.symm⟩
    rw [h'];simp
 have l0:∀ (d i k:Nat),i+d=l.length→(l.length+3)*d+2≤k→spec_l05Different.l0 k l i=some (difFrom l d i):=by
  intro d
  induction d with
  | zero=>
   intro i k hi hk
   obtain ⟨k,rfl⟩:∃ m,k=m+1:=⟨k - 1,by omega⟩
   simp only [spec_l05Different.l0]
   rw [if_neg (by omega)];rfl
  | succ d ih=>
   intro i k hi hk
   rw [Nat.mul_succ] at hk
   obtain ⟨k,rfl⟩:∃ m,k=(m+i+1)+1:=⟨k - i - 2,by omega⟩
   simp only [spec_l05Different.l0]
   rw [if_pos (by omega)]
   have:=l1 i k i 0 (by omega) (by omega)
   rw [show ((0:Nat):Int)=0 from rfl,List.drop_zero] at this
   rw [this]
   simp only [difFrom]
   unfold difAt
   split
   ·
    rename_i h;rw [h,ih (i+1) k (by omega) (by omega)];rfl
   ·
    rename_i h;rw [Bool.eq_false_iff.mpr h];rfl
 exact ⟨(l.length+3)*l.length+2,fun k hk=>by
  have:=l0 l.length 0 k (by omega) hk
  simpa [spec_l05Different.f,dif] using this⟩

theorem l05Code_l0 (l:List S27) (hl:l.length≤1000):∃ K,∀ k,K≤k→spec_l05Code.l0 k l 0=some (if l.all eOk=true then (if dif l=true then 0 else 5) else 1):=by
 obtain ⟨K0,h0⟩:=l05Different_eq l hl
 have go:∀ (d i:Nat),i+d=l.length→∃ K,∀ k,K≤k→spec_l05Code.l0 k l i=some (if (l.drop i).all eOk=true then (if dif l=true then 0 else 5) else 1):=by
  intro d
  induction d with
  | zero=>
   intro i hi
   refine ⟨K0+1,fun k hk=>?_⟩
   obtain ⟨k,rfl⟩:∃ m,k=m+1:=⟨k - 1,by omega⟩
   simp only [spec_l05Code.l0]
   rw [if_neg (by omega),List.drop_eq_nil_of_le (by omega),h0 k (by omega)]
   simp only [Option.bind_some,List.all_nil,if_true]
   split <;> rfl
  | succ d ih=>
   intro i hi
   obtain ⟨K1,h1⟩:=ih (i+1) (by omega)
   obtain ⟨K2,h2⟩:=l01End_eq (l[i]'(by omega)).f0 (l[i]'(by omega)).f1
   refine ⟨K1+K2+1,fun k hk=>?_⟩
   obtain ⟨k,rfl⟩:∃ m,k=m+1:=⟨k - 1,by omega⟩
   simp only [spec_l05Code.l0]
   rw [if_pos (by omega),if_pos (by omega),rdE l i (by omega),h2 k (by omega),all_drop eOk l i (by omega),w64 (by omega) (by omega),show ((i:Int)+1)=((i+1:Nat):Int) from by omega,h1 k (by omega)]
   simp only [Option.bind_some]
   show _=some (if (decide (isE _ _) && _)=true then _ else _)
   by_cases h:isE (l[i]'(by omega)).f0 (l[i]'(by omega)).f1
   ·
    rw [decide_eq_true h];simp
   ·
    rw [decide_eq_false h];simp
 obtain ⟨K,h⟩:=go l.length 0 (by omega)
 exact ⟨K,fun k hk=>by have:=h k hk;simpa using this⟩

theorem isE_bd {n d:Int} (h:isE n d) : -1000000≤n∧n≤1000000∧0≤d∧d≤1000000:=by unfold isE at h;omega
theorem mul_bd {a b:Int} (h1 : -1000000≤a) (h2:a≤1000000) (h3 : -1000000≤b) (h4:b≤1000000) : -1000000000000≤a*b∧a*b≤1000000000000:=by
 have h:(a*b).natAbs≤1000000*1000000:=by rw [Int.natAbs_mul];exact Nat.mul_le_mul (by omega) (by omega)
 omega
def crs (n1 d1 n2 d2:Int):Int:=n1*d2 - n2*d1
theorem crs_bd {n1 d1 n2 d2:Int} (h1:isE n1 d1) (h2:isE n2 d2):(crs n1 d1 n2 d2).natAbs≤2000000000000:=by
 have a:=isE_bd h1;have b:=isE_bd h2
 have c:=mul_bd (a:=n1) (b:=d2) (by omega) (by omega) (by omega) (by omega)
 have d:=mul_bd (a:=n2) (b:=d1) (by omega) (by omega) (by omega) (by omega)
 unfold crs;omega
/-- two ends are the same if their cross is 0 -/
theorem crs_zero {n1 d1 n2 d2:Int} (h1:isE n1 d1) (h2:isE n2 d2) (h:crs n1 d1 n2 d2=0):n1=n2∧d1=d2:=by
 unfold crs at h
 rcases h1 with ⟨a1,a2⟩|⟨a1,a2,a3,a4,a5⟩
 ·
  rcases h2 with ⟨b1,b2⟩|⟨b1,b2,b3,b4,b5⟩
  ·
   omega
  ·
   subst a1 a2;simp at h;omega
 ·
  rcases h2 with ⟨b1,b2⟩|⟨b1,b2,b3,b4,b5⟩
  ·
   subst b1 b2;simp at h;omega
  ·
   have e:n1*d2=n2*d1:=by omega
   have e1:d1 ∣ d2:=PM.dvd_of_dvd_mul_right_of_gcd_one (a:=d1) (b:=n1) (c:=d2) ⟨n2,by rw [e,Int.mul_comm]⟩ (by rw [Int.gcd_comm];exact a5)
   have e2:d2 ∣ d1:=PM.dvd_of_dvd_mul_right_of_gcd_one (a:=d2) (b:=n2) (c:=d1) ⟨n1,by rw [← e,Int.mul_comm]⟩ (by rw [Int.gcd_comm];exact b5)
   have e3:d1=d2:=Int.dvd_antisymm (by omega) (by omega) e1 e2
   subst e3
   exact ⟨Int.eq_of_mul_eq_mul_right (by omega) e,rfl⟩

theorem l05Cross_eq {n1 d1 n2 d2:Int} (h1:isE n1 d1) (h2:isE n2 d2):spec_l05Cross.f n1 d1 n2 d2=some (crs n1 d1 n2 d2):=by
 have a:=isE_bd h1;have b:=isE_bd h2
 have c:=mul_bd (a:=n1) (b:=d2) (by omega) (by omega) (by omega) (by omega)
 have d:=mul_bd (a:=n2) (b:=d1) (by omega) (by omega) (by omega) (by omega)
 unfold spec_l05Cross.f crs
 rw [w64 (n:=n1*d2) (by omega) (by omega),w64 (n:=n2*d1) (by omega) (by omega),w64 (by omega) (by omega)]

theorem cross_eq {n1 d1 n2 d2:Int} (h1:isE n1 d1) (h2:isE n2 d2):impl_cross.f n1 d1 n2 d2=some (crs n1 d1 n2 d2):=by
 have a:=isE_bd h1;have b:=isE_bd h2
 have c:=mul_bd (a:=n1) (b:=d2) (by omega) (by omega) (by omega) (by omega)
 have d:=mul_bd (a:=n2) (b:=d1) (by omega) (by omega) (by omega) (by omega)
 unfold impl_cross.f crs
 rw [w64 (n:=n1*d2) (by omega) (by omega),w64 (n:=n2*d1) (by omega) (by omega),w64 (by omega) (by omega)]

def gapz (p n1 d1 n2 d2:Int):Int:=(vl p (crs n1 d1 n2 d2):Int) - vl p d1 - vl p d2

theorem l05Gap_eq {p n1 d1 n2 d2:Int} (hp:Pr p) (h1:isE n1 d1) (h2:isE n2 d2) (hd1:d1≠0) (hd2:d2≠0) (hne:¬ (n1=n2∧d1=d2)):∀ k,70≤k→spec_l05Gap.f k p n1 d1 n2 d2=some (gapz p n1 d1 n2 d2):=by
 intro k hk
 have a:=isE_bd h1;have b:=isE_bd h2
 have hc:crs n1 d1 n2 d2≠0:=fun h=>hne (crs_zero h1 h2 h)
 have hb:=crs_bd h1 h2
 have v1:=vl_le63 hp hc (by omega)
 have v2:=vl_le63 hp hd1 (by omega)
 have v3:=vl_le63 hp hd2 (by omega)
 unfold spec_l05Gap.f gapz
 rw [l05Cross_eq h1 h2]
 simp only [Option.bind_some]
 rw [val_eq p _ hp hc (by omega) k hk]
 simp only [Option.bind_some]
 rw [val_eq p _ hp hd1 (by omega) k hk]
 simp only [Option.bind_some]
 rw [val_eq p _ hp hd2 (by omega) k hk]
 simp only [Option.bind_some]
 rw [w64 (n:=(vl p (crs n1 d1 n2 d2):Int) - vl p d1) (by omega) (by omega),w64 (by omega) (by omega)]

theorem gap_eq {p n1 d1 n2 d2:Int} (hp:Pr p) (h1:isE n1 d1) (h2:isE n2 d2) (hd1:d1≠0) (hd2:d2≠0) (hne:¬ (n1=n2∧d1=d2)):∀ k,70≤k→impl_gap.f k p n1 d1 n2 d2=some (gapz p n1 d1 n2 d2):=by
 intro k hk
 have a:=isE_bd h1;have b:=isE_bd h2
 have hc:crs n1 d1 n2 d2≠0:=fun h=>hne (crs_zero h1 h2 h)
 have hb:=crs_bd h1 h2
 have v1:=vl_le63 hp hc (by omega)
 have v2:=vl_le63 hp hd1 (by omega)
 have v3:=vl_le63 hp hd2 (by omega)
 unfold impl_gap.f gapz
 rw [cross_eq h1 h2]
 simp only [Option.bind_some]
 rw [valuation_eq p _ hp (by omega) k hk,vz_of_ne hc]
 simp only [Option.bind_some]
 rw [valuation_eq p _ hp (by omega) k hk,vz_of_ne hd1]
 simp only [Option.bind_some]
 rw [valuation_eq p _ hp (by omega) k hk,vz_of_ne hd2]
 simp only [Option.bind_some]
 rw [w64 (n:=(vl p (crs n1 d1 n2 d2):Int) - vl p d1) (by omega) (by omega),w64 (by omega) (by omega)]

theorem okSplit (p:Int) (lv top dn:Int):PM.Ok p ⟨lv,top,dn⟩↔(-6≤lv∧lv≤6∧0≤dn∧dn≤6)∧((lv+dn≤0∧top=0∧dn=0)∨(0<lv+dn∧0≤top∧top<pw p (lv+dn)∧(dn=0∨¬ p ∣ top))):=by
 unfold PM.Ok;simp only;constructor
 ·
  intro ⟨a,b,c,d,e⟩;exact ⟨⟨a,b,c,d⟩,e⟩
 ·
  intro ⟨⟨a,b,c,d⟩,e⟩;exact ⟨a,b,c,d,e⟩
theorem l01Is_eq (p lv top dn:Int):∀ k,32≤k→spec_l01Is.f k p lv top dn=some (decide (Pr p∧PM.Ok p ⟨lv,top,dn⟩)):=by
 intro k hk
 obtain ⟨k,rfl⟩:∃ m,k=m+1:=⟨k - 1,by omega⟩
 have jt:spec_l01Is.j0 (k+1) p true lv top dn=some false:=by simp [spec_l01Is.j0]
 unfold spec_l01Is.f
 rcases prime_cases p with ⟨h,hp⟩|⟨h,hp⟩
 ·
  have hp:Pr p:=hp
  rw [h,in_eq,in_eq]
  simp only [Option.bind_some,if_true]
  by_cases h1 : -6≤lv∧lv≤6
  ·
   rw [decide_eq_true h1,if_pos rfl]
   by_cases h2:0≤dn∧dn≤6
   ·
    rw [decide_eq_true h2]
    simp only [Bool.not_true,spec_l01Is.j0]
    rw [if_neg (by simp),w64 (by omega) (by omega)]
    by_cases h3:lv+dn≤0
    ·
     rw [if_pos h3]
     by_cases h4:top=0
     ·
      rw [if_pos h4]
      congr 1;rw [Bool.eq_iff_iff]
      simp only [decide_eq_true_eq,okSplit,beq_iff_eq]
      constructor
      ·
       intro h5;exact ⟨hp,⟨by omega,Or.inl ⟨h3,h4,h5⟩⟩⟩
      ·
       intro ⟨_,_,h5⟩;omega
     ·
      rw [if_neg h4,decide_eq_false]
      rw [okSplit];intro ⟨_,_,h5⟩;omega
    ·
     rw [if_neg h3,l01Power_eq p _ hp (by omega) (by omega) k (by omega)]
     have hb:=pw_bd12 p (lv+dn) hp (by omega)
     simp only [Option.bind_some]
     rw [in_eq,w64 (by omega) (by omega)]
     simp only [Option.bind_some]
     by_cases h4:0≤top∧top≤pw p (lv+dn) - 1
     ·
      rw [decide_eq_true h4,if_pos rfl]
      by_cases h5:dn=0
      ·
       rw [if_pos h5,decide_eq_true]
       rw [okSplit];exact ⟨hp,by omega,Or.inr ⟨by omega,by omega,by omega,Or.inl h5⟩⟩
      ·
       have hp2:=hp.pos
       rw [if_neg h5,if_neg (by omega)]
       congr 1;rw [Bool.eq_iff_iff]
       simp only [decide_eq_true_eq,okSplit,bne_iff_ne,ne_eq,tmod_zero_iff]
       constructor
       ·
        intro h6;exact ⟨hp,by omega,Or.inr ⟨by omega,by omega,by omega,Or.inr h6⟩⟩
       ·
        intro ⟨_,_,h6⟩ h7
        rcases h6 with h6|⟨_,_,_,h6⟩
        ·
         omega
        ·
         rcases h6 with h6|h6
         ·
          exact h5 h6
         ·
          exact h6 h7
     ·
      rw [decide_eq_false h4,if_neg (by simp),decide_eq_false]
      rw [okSplit];intro ⟨_,_,h5⟩;omega
   ·
    rw [decide_eq_false h2,Bool.not_false,jt,decide_eq_false]
    rw [okSplit];intro ⟨_,h5,_⟩;omega
  ·
   rw [decide_eq_false h1,if_neg (by simp),jt,decide_eq_false]
   rw [okSplit];intro ⟨_,h5,_⟩;omega
 ·
  rw [h]
  simp only [Option.bind_some]
  rw [if_neg (by simp),jt,decide_eq_false]
  intro ⟨h1,_⟩;exact hp h1

theorem isLevel_eq (n:Int):impl_isLevel.f n=some (decide (-6≤n∧n≤6)):=by
 unfold impl_isLevel.f
 by_cases h : -6≤n
 ·
  rw [if_pos h];simp [h]
 ·
  rw [if_neg (by omega)];simp [h]
theorem IsBall_eq (p lv top dn:Int):∀ k,32≤k→impl_IsBall.f k p lv top dn=some (decide (Pr p∧PM.Ok p ⟨lv,top,dn⟩)):=by
 intro k hk
 obtain ⟨k,rfl⟩:∃ m,k=m+1:=⟨k - 1,by omega⟩
 have jt:impl_IsBall.j0 (k+1) p true lv top dn=some false:=by simp [impl_IsBall.j0]
 unfold impl_IsBall.f
 rw [isPrime_eq]
 rcases prime_cases p with ⟨h,hp⟩|⟨h,hp⟩
 ·
  have hp:Pr p:=hp
  rw [h,isLevel_eq]
  simp only [Option.bind_some,if_true]
  by_cases h1 : -6≤lv∧lv≤6
  ·
   rw [decide_eq_true h1,if_pos rfl]
   by_cases h2:dn<0
   ·
    rw [if_pos h2,jt,decide_eq_false]
    rw [okSplit];intro ⟨_,h5,_⟩;omega
   ·
    rw [if_neg h2]
    by_cases h2':dn>6
    ·
     rw [decide_eq_true h2',jt,decide_eq_false]
     rw [okSplit];intro ⟨_,h5,_⟩;omega
    ·
     rw [decide_eq_false h2']
     simp only [impl_IsBall.j0]
     rw [if_neg (by simp),w64 (by omega) (by omega)]
     by_cases h3:lv+dn≤0
     ·
      rw [if_pos h3]
      by_cases h4:top=0
      ·
       rw [if_pos h4]
       congr 1;rw [Bool.eq_iff_iff]
       simp only [decide_eq_true_eq,okSplit,beq_iff_eq]
       constructor
       ·
        intro h5;exact ⟨hp,⟨by omega,Or.inl ⟨h3,h4,h5⟩⟩⟩
       ·
        intro ⟨_,_,h5⟩;omega
      ·
       rw [if_neg h4,decide_eq_false]
       rw [okSplit];intro ⟨_,_,h5⟩;omega
     ·
      rw [if_neg h3]
      have hb:=pw_bd12 p (lv+dn) hp (by omega)
      by_cases h4:top≥0
      ·
       rw [if_pos h4,power_eq p _ hp (by omega) k (by omega)]
       simp only [Option.bind_some]
       by_cases h4':top<pw p (lv+dn)
       ·
        rw [if_pos h4']
        by_cases h5:dn=0
        ·
         rw [if_pos h5,decide_eq_true]
         rw [okSplit];exact ⟨hp,by omega,Or.inr ⟨by omega,by omega,by omega,Or.inl h5⟩⟩
        ·
         have hp2:=hp.pos
         rw [if_neg h5,if_neg (by omega)]
         congr 1;rw [Bool.eq_iff_iff]
         simp only [decide_eq_true_eq,okSplit,bne_iff_ne,ne_eq,tmod_zero_iff]
         constructor
         ·
          intro h6;exact ⟨hp,by omega,Or.inr ⟨by omega,by omega,by omega,Or.inr h6⟩⟩
         ·
          intro ⟨_,_,h6⟩ h7
          rcases h6 with h6|⟨_,_,_,h6⟩
          ·
           omega
          ·
           rcases h6 with h6|h6
           ·
            exact h5 h6
           ·
            exact h6 h7
       ·
        rw [if_neg h4',decide_eq_false]
        rw [okSplit];intro ⟨_,_,h5⟩;omega
      ·
       rw [if_neg h4,decide_eq_false]
       rw [okSplit];intro ⟨_,_,h5⟩;omega
  ·
   rw [decide_eq_false h1,if_neg (by simp),jt,decide_eq_false]
   rw [okSplit];intro ⟨_,h5,_⟩;omega
 ·
  rw [h]
  simp only [Option.bind_some]
  rw [if_neg (by simp),jt,decide_eq_false]
  intro ⟨h1,_⟩;exact hp h1

def bOk (p:Int) (x:S25):Bool:=decide (PM.Ok p ⟨x.f0,x.f1,x.f2⟩)
theorem rdB (l:List S25) (i:Nat) (h:i<l.length):rd_T25 l (i:Int)=l[i]'h:=by
 unfold rd_T25;simp [List.getD_eq_getElem?_getD,h]

theorem l01Code_eq (p:Int) (l:List S25) (hl:l.length≤1000):∃ K,∀ k,K≤k→spec_l01Code.f k p l=some (if Pr p∧l.all (bOk p)=true then 0 else 1):=by
 rcases prime_cases p with ⟨h,hp⟩|⟨h,hp⟩
 ·
  have hp:Pr p:=hp
  have go:∀ (d i k:Nat),i+d=l.length→d+34≤k→spec_l01Code.l0 k p l i=some (if (l.drop i).all (bOk p)=true then 0 else 1):=by
   intro d
   induction d with
   | zero=>
    intro i k hi hk
    obtain ⟨k,rfl⟩:∃ m,k=m+1:=⟨k - 1,by omega⟩
    simp only [spec_l01Code.l0]
    rw [if_neg (by omega),List.drop_eq_nil_of_le (by omega)];rfl
   | succ d ih=>
    intro i k hi hk
    obtain ⟨k,rfl⟩:∃ m,k=m+1:=⟨k - 1,by omega⟩
    simp only [spec_l01Code.l0]
    rw [if_pos (by omega),if_pos (by omega),rdB l i (by omega),l01Is_eq _ _ _ _ k (by omega),all_drop (bOk p) l i (by omega),w64 (by omega) (by omega),show ((i:Int)+1)=((i+1:Nat):Int) from by omega,ih (i+1) k (by omega) (by omega)]
    simp only [Option.bind_some]
    show _=some (if (decide (PM.Ok _ _) && _)=true then _ else _)
    by_cases h:PM.Ok p ⟨(l[i]'(by omega)).f0,(l[i]'(by omega)).f1,(l[i]'(by omega)).f2⟩
    ·
     rw [decide_eq_true h,decide_eq_true ⟨hp,h⟩];simp
    ·
     rw [decide_eq_false h,decide_eq_false (fun g=>h g.2)];simp
  refine ⟨l.length+34,fun k hk=>?_⟩
  unfold spec_l01Code.f
  rw [h]
  simp only [Option.bind_some,if_true]
  have:=go l.length 0 k (by omega) (by omega)
  rw [show ((0:Nat):Int)=0 from rfl,List.drop_zero] at this
  rw [this]
  by_cases g:l.all (bOk p)=true
  ·
   rw [if_pos g,if_pos ⟨hp,g⟩]
  ·
   rw [if_neg g,if_neg (fun z=>g z.2)]
 ·
  refine ⟨0,fun k _=>?_⟩
  unfold spec_l01Code.f
  rw [h]
  simp only [Option.bind_some]
  rw [if_neg (by simp),if_neg (fun z=>hp z.1)]

theorem l05Code_eq (p:Int) (l:List S25) (m:List S27) (hl:l.length≤1000) (hm:m.length≤1000):∃ K,∀ k,K≤k→spec_l05Code.f k p l m=some (if (Pr p∧l.all (bOk p)=true)∧m.all eOk=true then (if dif m=true then 0 else 5) else 1):=by
 obtain ⟨K1,h1⟩:=l01Code_eq p l hl
 obtain ⟨K2,h2⟩:=l05Code_l0 m hm
 refine ⟨K1+K2,fun k hk=>?_⟩
 unfold spec_l05Code.f
 rw [h1 k (by omega)]
 simp only [Option.bind_some]
 by_cases c1:Pr p∧l.all (bOk p)=true
 ·
  rw [if_pos c1,if_pos rfl,h2 k (by omega)]
  by_cases c2:m.all eOk=true
  ·
   rw [if_pos c2,if_pos (show (Pr p∧l.all (bOk p)=true)∧m.all eOk=true from ⟨c1,c2⟩)]
  ·
   rw [if_neg c2,if_neg (fun z=>c2 z.2)]
 ·
  rw [if_neg c1,if_neg (by omega),if_neg (fun z=>c1 z.1)]
theorem dif2 (a b c d:Int):dif [(⟨a,b⟩:S27),⟨c,d⟩]=!(decide (a=c∧b=d)):=by
 simp [dif,difFrom,difAt,rd_T27]
 by_cases h:a=c <;> by_cases h':b=d <;> simp [h,h']
theorem all2 (a b c d:Int):([(⟨a,b⟩:S27),⟨c,d⟩].all eOk=true)↔(isE a b∧isE c d):=by
 simp [eOk]

theorem mul_bd2 {a b:Int} (A B:Int) (h1 : -A≤a) (h2:a≤A) (h3 : -B≤b) (h4:b≤B) : -(A*B)≤a*b∧a*b≤A*B:=by
 have hA:0≤A:=by omega
 have hB:0≤B:=by omega
 have h:(a*b).natAbs≤A.natAbs*B.natAbs:=by
  rw [Int.natAbs_mul];exact Nat.mul_le_mul (by omega) (by omega)
 rw [← Int.natAbs_mul] at h
 have:0≤A*B:=Int.mul_nonneg hA hB
 omega
theorem mn_min (a b:Int):mn a b=min a b:=by unfold mn;split <;> omega
theorem mx_max (a b:Int):mx a b=max a b:=by unfold mx;split <;> omega
theorem okb {p lv top dn:Int} (h:PM.Ok p ⟨lv,top,dn⟩) : -6≤lv∧lv≤6∧0≤dn∧dn≤6∧0≤top:=by
 unfold PM.Ok at h;simp only at h;omega
theorem ok_top {p lv top dn:Int} (hp:Pr p) (h:PM.Ok p ⟨lv,top,dn⟩):0≤top∧top≤13841287201:=by
 have hb:=okb h
 have:=pw_bd12 p (lv+dn) hp (by omega)
 unfold PM.Ok at h;simp only at h;omega
theorem mark_bd12 {p lv top dn:Int} (hp:Pr p) (h:PM.Ok p ⟨lv,top,dn⟩):0≤PM.mark p ⟨lv,top,dn⟩∧PM.mark p ⟨lv,top,dn⟩≤13841287201:=by
 have hb:=okb h
 have:=PM.mark_bd hp h
 have:=pw_bd12 p (lv+6) hp (by omega)
 simp only at *;omega

theorem mark_eq {p lv top dn:Int} (hp:Pr p) (h:PM.Ok p ⟨lv,top,dn⟩):∀ k,30≤k→impl_mark.f k p lv top dn=some (PM.mark p ⟨lv,top,dn⟩):=by
 intro k hk
 have hb:=okb h
 have hm:=mark_bd12 hp h
 unfold impl_mark.f
 rw [w64 (n:=6 - dn) (by omega) (by omega),power_eq p _ hp (by omega) k hk]
 simp only [Option.bind_some]
 unfold PM.mark at hm ⊢
 simp only at hm ⊢
 rw [w64 (by omega) (by omega)]

theorem turning_eq {p lv top dn n d:Int} (hp:Pr p) (h:PM.Ok p ⟨lv,top,dn⟩) (he:isE n d) (hd:d≠0):∀ k,70≤k→impl_turning.f k p lv top dn n d=some (PM.turn p lv (PM.mark p ⟨lv,top,dn⟩) n d):=by
 intro k hk
 have hb:=okb h
 have hm:=mark_bd12 hp h
 have hE:=isE_bd he
 have h6:=pw_bd6 p 6 hp (by omega)
 unfold impl_turning.f impl_nearness.f
 rw [power_eq p 6 hp (by omega) k (by omega),mark_eq hp h k (by omega)]
 simp only [Option.bind_some]
 generalize PM.mark p ⟨lv,top,dn⟩=x at hm ⊢
 have m1:=mul_bd2 (a:=n) (b:=pw p 6) 1000000 117649 (by omega) (by omega) (by omega) (by omega)
 have m2:=mul_bd2 (a:=x) (b:=d) 13841287201 1000000 (by omega) (by omega) (by omega) (by omega)
 rw [w64 (n:=n*pw p 6) (by omega) (by omega),w64 (n:=x*d) (by omega) (by omega),w64 (n:=n*pw p 6 - x*d) (by omega) (by omega)]
 have hd6:=vl_le63 hp hd (by omega)
 unfold PM.turn PM.dv
 by_cases z:n*pw p 6 - x*d=0
 ·
  rw [if_pos z,if_pos z]
  simp only [Option.bind_some,mn_min]
  rw [Int.min_eq_left (by omega)]
 ·
  have hv:=vl_le63 hp z (by omega)
  rw [if_neg z,if_neg z,valuation_eq p _ hp (by omega) k hk,valuation_eq p _ hp (by omega) k hk,vz_of_ne z,vz_of_ne hd]
  simp only [Option.bind_some,mn_min]
  rw [w64 (n:=(vl p (n*pw p 6 - x*d):Int) - vl p d) (by omega) (by omega),w64 (by omega) (by omega)]
theorem turn_bd {p lv x n d:Int} (hp:Pr p) (hx:0≤x∧x≤13841287201) (hl : -6≤lv∧lv≤6) (he:isE n d) (hd:d≠0) : -100≤PM.turn p lv x n d∧PM.turn p lv x n d≤6:=by
 have h1:=PM.turn_le p lv x n d
 have hE:=isE_bd he
 have hd6:=vl_le63 hp hd (by omega)
 refine ⟨?_,by omega⟩
 unfold PM.turn;split <;> omega

theorem l02Meet_eq {p lv top dn n d:Int} (hp:Pr p) (h:PM.Ok p ⟨lv,top,dn⟩) (he:isE n d) (hd:d≠0):∀ k,70≤k→spec_l02Meet.f k p lv top dn n d=some (PM.turn p lv (PM.mark p ⟨lv,top,dn⟩) n d):=by
 intro k hk
 have hb:=okb h
 have ht:=ok_top hp h
 have hE:=isE_bd he
 have h6:=pw_bd6 p dn hp (by omega)
 unfold spec_l02Meet.f
 rw [l01Power_eq p dn hp (by omega) (by omega) k (by omega),show PM.turn p lv (PM.mark p ⟨lv,top,dn⟩) n d=_ from PM.turn_down hp h n d]
 simp only [Option.bind_some]
 have m1:=mul_bd2 (a:=n) (b:=pw p dn) 1000000 117649 (by omega) (by omega) (by omega) (by omega)
 have m2:=mul_bd2 (a:=top) (b:=d) 13841287201 1000000 (by omega) (by omega) (by omega) (by omega)
 rw [w64 (n:=n*pw p dn) (by omega) (by omega),w64 (n:=top*d) (by omega) (by omega),w64 (n:=n*pw p dn - top*d) (by omega) (by omega)]
 have hd6:=vl_le63 hp hd (by omega)
 by_cases z:n*pw p dn - top*d=0
 ·
  rw [if_pos z,if_pos z]
 ·
  have hv:=vl_le63 hp z (by omega)
  rw [if_neg z,if_neg z,val_eq p _ hp z (by omega) k hk,val_eq p _ hp hd (by omega) k hk]
  simp only [Option.bind_some,mn_min]
  rw [w64 (n:=(vl p (n*pw p dn - top*d):Int) - vl p d) (by omega) (by omega),w64 (by omega) (by omega)]

theorem lineCode_eq (p lv top dn n1 d1 n2 d2:Int):∃ K,∀ k,K≤k→impl_lineCode.f k p lv top dn n1 d1 n2 d2=some (if (Pr p∧PM.Ok p ⟨lv,top,dn⟩)∧isE n1 d1∧isE n2 d2 then (if n1=n2∧d1=d2 then 5 else 0) else 1):=by
 obtain ⟨K,h⟩:=areEnds_eq [⟨n1,d1⟩,⟨n2,d2⟩] (by simp)
 refine ⟨K+40,fun k hk=>?_⟩
 obtain ⟨k,rfl⟩:∃ m,k=m+1:=⟨k - 1,by omega⟩
 unfold impl_lineCode.f
 rw [IsBall_eq p lv top dn _ (by omega),h _ (by omega)]
 simp only [Option.bind_some]
 by_cases c:Pr p∧PM.Ok p ⟨lv,top,dn⟩
 ·
  rw [decide_eq_true c,if_pos rfl]
  by_cases e:isE n1 d1∧isE n2 d2
  ·
   rw [(all2 _ _ _ _).2 e,if_pos (show (Pr p∧PM.Ok p ⟨lv,top,dn⟩)∧isE n1 d1∧isE n2 d2 from ⟨c,e⟩)]
   by_cases q:n1=n2∧d1=d2
   ·
    rw [if_pos q];simp [impl_lineCode.j0,q]
   ·
    have q':¬ ((n1 == n2 && (d1 == d2))=true):=by simpa using q
    rw [if_neg q];simp [impl_lineCode.j0,q']
  ·
   rw [Bool.eq_false_iff.mpr (fun z=>e ((all2 _ _ _ _).1 z)),if_neg (show ¬ ((Pr p∧PM.Ok p ⟨lv,top,dn⟩)∧isE n1 d1∧isE n2 d2) from fun z=>e z.2)]
   simp [impl_lineCode.j0]
 ·
  rw [decide_eq_false c,if_neg (by simp),if_neg (show ¬ ((Pr p∧PM.Ok p ⟨lv,top,dn⟩)∧isE n1 d1∧isE n2 d2) from fun z=>c z.1)]
  simp [impl_lineCode.j0]

theorem l05Code_line (p lv top dn n1 d1 n2 d2:Int):∃ K,∀ k,K≤k→spec_l05Code.f k p [⟨lv,top,dn⟩] [⟨n1,d1⟩,⟨n2,d2⟩]=some (if (Pr p∧PM.Ok p ⟨lv,top,dn⟩)∧isE n1 d1∧isE n2 d2 then (if n1=n2∧d1=d2 then 5 else 0) else 1):=by
 obtain ⟨K,h⟩:=l05Code_eq p [⟨lv,top,dn⟩] [⟨n1,d1⟩,⟨n2,d2⟩] (by simp) (by simp)
 refine ⟨K,fun k hk=>?_⟩
 rw [h k hk,dif2]
 have e:((Pr p∧([(⟨lv,top,dn⟩:S25)].all (bOk p)=true))∧[(⟨n1,d1⟩:S27),⟨n2,d2⟩].all eOk=true)↔((Pr p∧PM.Ok p ⟨lv,top,dn⟩)∧isE n1 d1∧isE n2 d2):=by
  rw [all2];simp [bOk]
 by_cases c:(Pr p∧PM.Ok p ⟨lv,top,dn⟩)∧isE n1 d1∧isE n2 d2
 ·
  rw [if_pos (e.mpr c),if_pos c]
  by_cases q:n1=n2∧d1=d2
  ·
   rw [decide_eq_true q,if_pos q];rfl
  ·
   rw [decide_eq_false q,if_neg q];rfl
 ·
  rw [if_neg (fun z=>c (e.mp z)),if_neg c]

def lineB (p lv x n1 d1 n2 d2:Int):Int × Bool × Int:=
 if d1=0 then (PM.turn p lv x n2 d2,false,lv - PM.turn p lv x n2 d2)
 else if d2=0 then (PM.turn p lv x n1 d1,false,lv - PM.turn p lv x n1 d1)
 else if PM.turn p lv x n1 d1=PM.turn p lv x n2 d2 then (gapz p n1 d1 n2 d2,true,lv - PM.turn p lv x n1 d1+gapz p n1 d1 n2 d2 - PM.turn p lv x n1 d1)
 else (max (PM.turn p lv x n1 d1) (PM.turn p lv x n2 d2),false,lv - max (PM.turn p lv x n1 d1) (PM.turn p lv x n2 d2))
theorem zeros {n1 d1 n2 d2:Int} (h1:isE n1 d1) (h2:isE n2 d2) (hne:¬ (n1=n2∧d1=d2)):¬ (d1=0∧d2=0):=by
 unfold isE at h1 h2;omega
theorem gapz_bd {p n1 d1 n2 d2:Int} (hp:Pr p) (h1:isE n1 d1) (h2:isE n2 d2) (hd1:d1≠0) (hd2:d2≠0) (hne:¬ (n1=n2∧d1=d2)) : -200≤gapz p n1 d1 n2 d2∧gapz p n1 d1 n2 d2≤63:=by
 have a:=isE_bd h1;have b:=isE_bd h2
 have hc:crs n1 d1 n2 d2≠0:=fun h=>hne (crs_zero h1 h2 h)
 have hb:=crs_bd h1 h2
 have v1:=vl_le63 hp hc (by omega)
 have v2:=vl_le63 hp hd1 (by omega)
 have v3:=vl_le63 hp hd2 (by omega)
 unfold gapz;omega
theorem lineAt_eq {p lv top dn n1 d1 n2 d2:Int} (hp:Pr p) (h:PM.Ok p ⟨lv,top,dn⟩) (h1:isE n1 d1) (h2:isE n2 d2) (hne:¬ (n1=n2∧d1=d2)):∀ k,71≤k→impl_lineAt.f k p lv top dn n1 d1 n2 d2=some (lineB p lv (PM.mark p ⟨lv,top,dn⟩) n1 d1 n2 d2):=by
 intro k hk
 obtain ⟨k,rfl⟩:∃ m,k=m+1:=⟨k - 1,by omega⟩
 have hb:=okb h
 have hm:=mark_bd12 hp h
 have hz:=zeros h1 h2 hne
 unfold impl_lineAt.f lineB
 by_cases z2:d2=0
 ·
  have z1:d1≠0:=fun z=>hz ⟨z,z2⟩
  have b1:=turn_bd hp hm (by omega) h1 z1 (lv:=lv)
  rw [if_pos z2,if_neg z1,if_pos z2]
  simp only [impl_lineAt.j0]
  rw [if_pos z2,turning_eq hp h h1 z1 k (by omega)]
  simp only [Option.bind_some]
  rw [w64 (by omega) (by omega)]
 ·
  have b2:=turn_bd hp hm (by omega) h2 z2 (lv:=lv)
  rw [if_neg z2]
  simp only [impl_lineAt.j0]
  by_cases z1:d1=0
  ·
   rw [if_pos z1,if_pos z1,turning_eq hp h h2 z2 k (by omega)]
   simp only [Option.bind_some]
   rw [w64 (by omega) (by omega)]
  ·
   have b1:=turn_bd hp hm (by omega) h1 z1 (lv:=lv)
   have bg:=gapz_bd hp h1 h2 z1 z2 hne
   rw [if_neg z1,if_neg z1,if_neg z2,turning_eq hp h h2 z2 k (by omega),turning_eq hp h h1 z1 k (by omega),gap_eq hp h1 h2 z1 z2 hne k (by omega)]
   simp only [Option.bind_some,mx_max]
   generalize PM.turn p lv (PM.mark p ⟨lv,top,dn⟩) n1 d1=t1 at *
   generalize PM.turn p lv (PM.mark p ⟨lv,top,dn⟩) n2 d2=t2 at *
   generalize gapz p n1 d1 n2 d2=g at *
   by_cases e:t1=t2
   ·
    rw [if_pos e,if_pos e,w64 (n:=lv - t1) (by omega) (by omega),w64 (n:=lv - t1+g) (by omega) (by omega),w64 (by omega) (by omega)]
   ·
    rw [if_neg e,if_neg e,w64 (n:=lv - max t1 t2) (by omega) (by omega)]

def nearB (p lv x n1 d1 n2 d2:Int):Int × Int × Int:=
 if d2=0 then (n1,d1,PM.turn p lv x n1 d1) else if d1=0 then (n2,d2,PM.turn p lv x n2 d2)
 else if PM.turn p lv x n1 d1≥PM.turn p lv x n2 d2 then (n1,d1,max (PM.turn p lv x n1 d1) (gapz p n1 d1 n2 d2))
 else (n2,d2,max (PM.turn p lv x n2 d2) (gapz p n1 d1 n2 d2))
theorem l05Nearest_eq {p lv top dn n1 d1 n2 d2:Int} (hp:Pr p) (h:PM.Ok p ⟨lv,top,dn⟩) (h1:isE n1 d1) (h2:isE n2 d2) (hne:¬ (n1=n2∧d1=d2)):∀ k,70≤k→spec_l05Nearest.f k p lv top dn n1 d1 n2 d2=some (nearB p lv (PM.mark p ⟨lv,top,dn⟩) n1 d1 n2 d2):=by
 intro k hk
 have hz:¬ (d1=0∧d2=0):=by unfold isE at h1 h2;omega
 unfold spec_l05Nearest.f nearB
 by_cases z2:d2=0
 ·
  have z1:d1≠0:=fun z=>hz ⟨z,z2⟩
  rw [if_pos z2,if_pos z2,l02Meet_eq hp h h1 z1 k hk];rfl
 ·
  rw [if_neg z2,if_neg z2]
  by_cases z1:d1=0
  ·
   rw [if_pos z1,if_pos z1,l02Meet_eq hp h h2 z2 k hk];rfl
  ·
   rw [if_neg z1,if_neg z1,l02Meet_eq hp h h2 z2 k hk,l02Meet_eq hp h h1 z1 k hk,l05Gap_eq hp h1 h2 z1 z2 hne k hk]
   simp only [Option.bind_some,mx_max]
   split <;> rfl

theorem l05Steps_eq {p lv top dn n1 d1 n2 d2:Int} (hp:Pr p) (h:PM.Ok p ⟨lv,top,dn⟩) (h1:isE n1 d1) (h2:isE n2 d2) (hne:¬ (n1=n2∧d1=d2)):∀ k,70≤k→spec_l05Steps.f k p lv top dn n1 d1 n2 d2=some ((lineB p lv (PM.mark p ⟨lv,top,dn⟩) n1 d1 n2 d2).2.2):=by
 intro k hk
 have hb:=okb h
 have hm:=mark_bd12 hp h
 have hz:=zeros h1 h2 hne
 unfold spec_l05Steps.f
 rw [l05Nearest_eq hp h h1 h2 hne k hk]
 simp only [Option.bind_some]
 unfold nearB lineB
 by_cases z2:d2=0
 ·
  have z1:d1≠0:=fun z=>hz ⟨z,z2⟩
  have b1:=turn_bd hp hm (by omega) h1 z1 (lv:=lv)
  rw [if_pos z2,if_neg z1,if_pos z2]
  simp only
  rw [l02Meet_eq hp h h1 z1 k hk]
  simp only [Option.bind_some,mn_min,Int.min_self]
  generalize PM.turn p lv (PM.mark p ⟨lv,top,dn⟩) n1 d1=t1 at *
  rw [w64 (n:=lv - t1) (by omega) (by omega),w64 (n:=lv - t1+t1) (by omega) (by omega),w64 (by omega) (by omega)]
  congr 1;omega
 ·
  have b2:=turn_bd hp hm (by omega) h2 z2 (lv:=lv)
  rw [if_neg z2]
  by_cases z1:d1=0
  ·
   rw [if_pos z1,if_pos z1]
   simp only
   rw [l02Meet_eq hp h h2 z2 k hk]
   simp only [Option.bind_some,mn_min,Int.min_self]
   generalize PM.turn p lv (PM.mark p ⟨lv,top,dn⟩) n2 d2=t1 at *
   rw [w64 (n:=lv - t1) (by omega) (by omega),w64 (n:=lv - t1+t1) (by omega) (by omega),w64 (by omega) (by omega)]
   congr 1;omega
  ·
   have b1:=turn_bd hp hm (by omega) h1 z1 (lv:=lv)
   have bg:=gapz_bd hp h1 h2 z1 z2 hne
   have hc:PM.cr n1 d1 n2 d2≠0:=fun h=>hne (crs_zero h1 h2 h)
   obtain ⟨u1,u2,u3⟩:=PM.gap_turn (lv:=lv) (x:=PM.mark p ⟨lv,top,dn⟩) hp z1 z2 hc
   rw [show (vl p (PM.cr n1 d1 n2 d2):Int) - vl p d1 - vl p d2=gapz p n1 d1 n2 d2 from rfl] at u1 u2 u3
   have m1:=l02Meet_eq hp h h1 z1 k hk
   have m2:=l02Meet_eq hp h h2 z2 k hk
   rw [if_neg z1,if_neg z1,if_neg z2]
   generalize PM.turn p lv (PM.mark p ⟨lv,top,dn⟩) n1 d1=t1 at *
   generalize PM.turn p lv (PM.mark p ⟨lv,top,dn⟩) n2 d2=t2 at *
   generalize gapz p n1 d1 n2 d2=g at *
   by_cases e:t1≥t2
   ·
    rw [if_pos e]
    simp only
    rw [m1]
    simp only [Option.bind_some,mn_min]
    rw [w64 (n:=lv - min t1 (max t1 g)) (by omega) (by omega),w64 (n:=lv - min t1 (max t1 g)+max t1 g) (by omega) (by omega),w64 (by omega) (by omega)]
    by_cases q:t1=t2
    ·
     rw [if_pos q];simp only;congr 1;have:=u1 q;omega
    ·
     rw [if_neg q];simp only;congr 1;have:=u2 (by omega);omega
   ·
    rw [if_neg e]
    simp only
    rw [m2]
    simp only [Option.bind_some,mn_min]
    rw [w64 (n:=lv - min t2 (max t2 g)) (by omega) (by omega),w64 (n:=lv - min t2 (max t2 g)+max t2 g) (by omega) (by omega),w64 (by omega) (by omega)]
    rw [if_neg (show ¬ t1=t2 by omega)];simp only;congr 1;have:=u3 (by omega);omega

theorem u64w (n:Int):IntKind.u64.wrap n=n % 18446744073709551616:=by rw [IntKind.wrap_u64]
theorem u64s {n:Int} (h0:0≤n) (h1:n<18446744073709551616):IntKind.u64.wrap n=n:=by rw [u64w];omega
theorem and_low {a:Int} (h0:0≤a) (h1:a<18446744073709551616):Go.bits .and .u64 a 4294967295=a % 4294967296:=by
 obtain ⟨n,rfl⟩:=Int.eq_ofNat_of_zero_le h0
 rw [show (4294967295:Int)=((4294967295:Nat):Int) from rfl,Go.bits_and_u64_nat n 4294967295 (by omega) (by omega)]
 rw [show (4294967295:Nat)=2 ^ 32 - 1 from rfl,Nat.and_two_pow_sub_one_eq_mod]
 omega
theorem or_sum {a b:Int} (s:Nat) (h0:0≤a) (h1:0≤b) (h2:b<2 ^ s) (h3:a*2 ^ s<18446744073709551616) (hs:s≤63):Go.bits .or .u64 (a*2 ^ s) b=a*2 ^ s+b:=by
 obtain ⟨n,rfl⟩:=Int.eq_ofNat_of_zero_le h0
 obtain ⟨m,rfl⟩:=Int.eq_ofNat_of_zero_le h1
 have e2:m<2 ^ s:=by
  have:((2 ^ s:Nat):Int)=(2:Int) ^ s:=by simp
  omega
 have e3:(2:Nat) ^ s≤2 ^ 63:=Nat.pow_le_pow_right (by omega) hs
 have e4:((n*2 ^ s:Nat):Int)=(n:Int)*2 ^ s:=by simp
 rw [← e4] at h3 ⊢
 rw [Go.bits_or_u64_nat _ _ (by omega) (by omega),Nat.mul_comm,← Nat.two_pow_add_eq_or_of_lt e2]
 omega
theorem bitLen_bd:∀ (x:Nat),x≠0→x<2 ^ 64→1≤Lib.bitLen x∧2 ^ (Lib.bitLen x - 1)≤x∧x<2 ^ Lib.bitLen x:=by
 intro x
 induction x using Nat.strongRecOn with
 | _ x ih=>
  intro h0 h1
  rw [Lib.bitLen_half x h0 h1]
  by_cases h2:x / 2=0
  ·
   rw [h2,show Lib.bitLen 0=0 from rfl]
   have:x=1:=by omega
   subst this;exact ⟨by omega,by decide,by decide⟩
  ·
   obtain ⟨a,b,c⟩:=ih (x / 2) (by omega) h2 (by omega)
   obtain ⟨l,hl⟩:∃ l,Lib.bitLen (x / 2)=l+1:=⟨Lib.bitLen (x / 2) - 1,by omega⟩
   rw [hl] at b c ⊢
   rw [show 1+(l+1) - 1=(l+1 - 1)+1 by omega,show 1+(l+1)=(l+1)+1 by omega,Nat.pow_succ,Nat.pow_succ]
   omega
theorem div_l0 {yN s y1 y0 U u un0:Int} (D:Dg U u y1 y0):∀ (m:Nat) (q r:Int) (k:Nat),2*m+3≤k→4294967296≤r+m*2147483648→0≤r→r<4294967296→r=U - q*y1→dig U u y1 y0≤q→q≤4294967297→∃ k',k≤k'+(2*m+3)∧bits_Div64.l0 k yN s y1 y0 U u un0 q r=bits_Div64.j2 k' yN s y1 y0 U u un0 (dig U u y1 y0):=by
 intro m
 induction m with
 | zero=>intro q r k _ h _ h2;omega
 | succ m ih=>
  intro q r k hk hm h0 h1 hr hq hq2
  have hn:=D.nn
  have Da:=D.a;have Db:=D.b;have Dc:=D.c;have Dd:=D.d;have Dg:=D.g;have Dh:=D.h
  obtain ⟨k,rfl⟩:∃ j,k=j+2:=⟨k - 2,by omega⟩
  have e:bits_Div64.l0 (k+2) yN s y1 y0 U u un0 q r=bits_Div64.j1 (k+1) yN s y1 y0 U u un0 q r (decide (dig U u y1 y0<q)):=by
   rw [show k+2=(k+1)+1 from rfl,bits_Div64.l0]
   by_cases hB:q≥4294967296
   ·
    rw [if_pos hB,decide_eq_true (by have:=D.top;omega)]
   ·
    rw [if_neg hB]
    have hc:=D.cond hr
    have b1:q*y0≤4294967295*4294967295:=Int.mul_le_mul (by omega) (by omega) (by omega) (by omega)
    have b0:0≤q*y0:=Int.mul_nonneg (by omega) (by omega)
    rw [u64s (n:=q*y0) b0 (by omega),u64s (n:=4294967296*r) (by omega) (by omega),u64s (n:=4294967296*r+u) (by omega) (by omega)]
    rw [decide_eq_decide.mpr hc.symm]
  rw [e,bits_Div64.j1]
  by_cases hc:dig U u y1 y0<q
  ·
   rw [decide_eq_true hc,if_pos rfl,u64s (n:=r+y1) (by omega) (by omega),u64s (n:=q - 1) (by omega) (by omega)]
   have hr':r+y1=U - (q - 1)*y1:=by rw [Int.sub_mul];omega
   by_cases hb:r+y1≥4294967296
   ·
    rw [if_pos hb]
    have:=D.brk hr' hb (by omega)
    exact ⟨k,by omega,by rw [show q - 1=dig U u y1 y0 by omega]⟩
   ·
    rw [if_neg hb]
    obtain ⟨k',a,b⟩:=ih (q - 1) (r+y1) k (by omega) (by omega) (by omega) (by omega) hr' (by omega) (by omega)
    exact ⟨k',by omega,b⟩
  ·
   rw [decide_eq_false hc,if_neg (by simp)]
   exact ⟨k,by omega,by rw [show q=dig U u y1 y0 by omega]⟩
theorem div_l1 {yN s y1 y0 R un0 q1:Int} (hs:0≤s) (D:Dg R un0 y1 y0):∀ (m:Nat) (q r:Int) (k:Nat),2*m+3≤k→4294967296≤r+m*2147483648→0≤r→r<4294967296→r=R - q*y1→dig R un0 y1 y0≤q→q≤4294967297→bits_Div64.l1 k yN s y1 y0 un0 q1 r R q=some (IntKind.u64.wrap ((IntKind.u64.wrap (q1*4294967296))+dig R un0 y1 y0),shr .u64 (IntKind.u64.wrap ((IntKind.u64.wrap ((IntKind.u64.wrap (R*4294967296))+un0)) - (IntKind.u64.wrap (dig R un0 y1 y0*yN)))) s):=by
 intro m
 induction m with
 | zero=>intro q r k _ h _ h2;omega
 | succ m ih=>
  intro q r k hk hm h0 h1 hr hq hq2
  have hn:=D.nn
  have Da:=D.a;have Db:=D.b;have Dc:=D.c;have Dd:=D.d;have Dg:=D.g;have Dh:=D.h
  obtain ⟨k,rfl⟩:∃ j,k=j+2:=⟨k - 2,by omega⟩
  have e:bits_Div64.l1 (k+2) yN s y1 y0 un0 q1 r R q=bits_Div64.j4 (k+1) yN s y1 y0 un0 q1 r R q (decide (dig R un0 y1 y0<q)):=by
   rw [show k+2=(k+1)+1 from rfl,bits_Div64.l1]
   by_cases hB:q≥4294967296
   ·
    rw [if_pos hB,decide_eq_true (by have:=D.top;omega)]
   ·
    rw [if_neg hB]
    have hc:=D.cond hr
    have b1:q*y0≤4294967295*4294967295:=Int.mul_le_mul (by omega) (by omega) (by omega) (by omega)
    have b0:0≤q*y0:=Int.mul_nonneg (by omega) (by omega)
    rw [u64s (n:=q*y0) b0 (by omega),u64s (n:=4294967296*r) (by omega) (by omega),u64s (n:=4294967296*r+un0) (by omega) (by omega)]
    rw [decide_eq_decide.mpr hc.symm]
  rw [e,bits_Div64.j4]
  by_cases hc:dig R un0 y1 y0<q
  ·
   rw [decide_eq_true hc,if_pos rfl,u64s (n:=r+y1) (by omega) (by omega),u64s (n:=q - 1) (by omega) (by omega)]
   have hr':r+y1=R - (q - 1)*y1:=by rw [Int.sub_mul];omega
   by_cases hb:r+y1≥4294967296
   ·
    rw [if_pos hb,if_pos hs]
    have:=D.brk hr' hb (by omega)
    rw [show q - 1=dig R un0 y1 y0 by omega]
   ·
    rw [if_neg hb]
    exact ih (q - 1) (r+y1) k (by omega) (by omega) (by omega) (by omega) hr' (by omega) (by omega)
  ·
   rw [decide_eq_false hc,if_neg (by simp),if_pos hs,show q=dig R un0 y1 y0 by omega]
theorem wr_sub (a b:Int):IntKind.u64.wrap (IntKind.u64.wrap a - IntKind.u64.wrap b)=IntKind.u64.wrap (a - b):=by
 simp only [u64w];omega
theorem wr_add (a b:Int):IntKind.u64.wrap (IntKind.u64.wrap a+b)=IntKind.u64.wrap (a+b):=by
 simp only [u64w];omega
theorem div64_eq {hi lo y:Int} (h0:0≤hi) (h1:hi<y) (h2:y<18446744073709551616) (h3:0≤lo) (h4:lo<18446744073709551616):∀ k,40≤k→bits_Div64.f k hi lo y=some ((hi*18446744073709551616+lo) / y,(hi*18446744073709551616+lo) % y):=by
 intro k hk
 unfold bits_Div64.f
 rw [if_neg (by omega),if_neg (by omega)]
 by_cases hz:hi=0
 ·
  subst hz
  rw [if_pos rfl,Int.tdiv_eq_ediv_of_nonneg h3,Int.tmod_eq_emod_of_nonneg h3]
  have a1:=Int.ediv_nonneg h3 (show 0≤y by omega)
  have a2:=Int.ediv_le_self y h3
  rw [u64s a1 (by omega),show (0:Int)*18446744073709551616+lo=lo by omega]
 ·
  rw [if_neg hz]
  have hb:=bitLen_bd y.toNat (by omega) (by omega)
  have hle:Lib.bitLen y.toNat≤64:=by
   rcases Nat.lt_or_ge 64 (Lib.bitLen y.toNat) with h|h
   ·
    have:=Nat.pow_le_pow_right (show 0<2 by omega) (show 64≤Lib.bitLen y.toNat - 1 by omega)
    omega
   ·
    exact h
  unfold bits_LeadingZeros64.f
  rw [if_pos (by omega)]
  simp only [Option.bind_some]
  obtain ⟨s,hs⟩:∃ s:Nat,s=64 - Lib.bitLen y.toNat:=⟨_,rfl⟩
  rw [show (64 - (Lib.bitLen y.toNat:Int))=(s:Int) by omega,u64s (n:=(s:Int)) (by omega) (by omega),u64s (n:=64 - (s:Int)) (by omega) (by omega),if_pos (by omega),if_pos (by omega)]
  have hs63:s≤63:=by omega
  obtain ⟨P,hP⟩:∃ P:Int,P=2 ^ s:=⟨_,rfl⟩
  obtain ⟨Q,hQ⟩:∃ Q:Int,Q=2 ^ (64 - s):=⟨_,rfl⟩
  have hPQ:P*Q=18446744073709551616:=by
   rw [hP,hQ,← Int.pow_add,show s+(64 - s)=64 by omega];decide
  have hP0:0<P:=by rw [hP];exact Int.pow_pos (by omega)
  have hQ0:0<Q:=by rw [hQ];exact Int.pow_pos (by omega)
  have hyP:9223372036854775808≤y*P∧y*P<18446744073709551616:=by
   have e1:y=((y.toNat:Nat):Int):=by omega
   have e2:y*P=((y.toNat*2 ^ s:Nat):Int):=by
    rw [hP]
    conv=>lhs;rw [e1]
    simp
   have e3:2 ^ (Lib.bitLen y.toNat - 1)*2 ^ s≤y.toNat*2 ^ s:=Nat.mul_le_mul_right _ hb.2.1
   have e4:y.toNat*2 ^ s<2 ^ (Lib.bitLen y.toNat)*2 ^ s:=Nat.mul_lt_mul_of_pos_right hb.2.2 (Nat.pow_pos (by omega))
   rw [← Nat.pow_add,show Lib.bitLen y.toNat - 1+s=63 by omega] at e3
   rw [← Nat.pow_add,show Lib.bitLen y.toNat+s=64 by omega] at e4
   rw [e2];omega
  have sh:∀ x:Int,shl .u64 x (s:Int)=(x*P) % 18446744073709551616:=by
   intro x;unfold shl
   rw [show IntKind.u64.bits=64 from rfl,Int.toNat_natCast,Nat.min_eq_left (by omega),u64w,hP]
  have sr:∀ x:Int,shr .u64 x (64 - (s:Int))=x / Q:=by
   intro x;unfold shr
   rw [show IntKind.u64.bits=64 from rfl,show (64 - (s:Int)).toNat=64 - s by omega,Nat.min_eq_left (by omega),hQ]
  have sr2:∀ x:Int,shr .u64 x (s:Int)=x / P:=by
   intro x;unfold shr
   rw [show IntKind.u64.bits=64 from rfl,Int.toNat_natCast,Nat.min_eq_left (by omega),hP]
  have hhi:hi*P<y*P:=Int.mul_lt_mul_of_pos_right h1 hP0
  have hhi0:0≤hi*P:=Int.mul_nonneg h0 (by omega)
  have hhi1:hi*P≤y*P - P:=by
   have:=Int.mul_le_mul_of_nonneg_right (show hi≤y - 1 by omega) (Int.le_of_lt hP0)
   rw [Int.sub_mul] at this;omega
  have hlQ0:0≤lo / Q:=Int.ediv_nonneg h3 (by omega)
  have hlQ:lo / Q<P:=by rw [Int.ediv_lt_iff_lt_mul hQ0];omega
  rw [sh,sh,sh,sr,Int.emod_eq_of_lt (a:=y*P) (by omega) hyP.2,Int.emod_eq_of_lt (a:=hi*P) hhi0 (by omega)]
  have hor:Go.bits .or .u64 (hi*P) (lo / Q)=hi*P+lo / Q:=by
   rw [hP] at hlQ hhi hyP ⊢
   exact or_sum s h0 hlQ0 hlQ (by omega) hs63
  rw [hor,and_low (a:=y*P) (by omega) hyP.2,and_low (Int.emod_nonneg _ (by omega)) (Int.emod_lt_of_pos _ (by omega))]
  obtain ⟨L,hL⟩:∃ L,L=(lo*P) % 18446744073709551616:=⟨_,rfl⟩
  obtain ⟨U,hU⟩:∃ U,U=hi*P+lo / Q:=⟨_,rfl⟩
  have hL0:0≤L:=by rw [hL];exact Int.emod_nonneg _ (by omega)
  have hL1:L<18446744073709551616:=by rw [hL];exact Int.emod_lt_of_pos _ (by omega)
  rw [← hL,← hU]
  obtain ⟨yN,hyN⟩:∃ yN,yN=y*P:=⟨_,rfl⟩
  rw [← hyN] at hyP hhi hhi1 ⊢
  obtain ⟨y1,hy1⟩:∃ y1,y1=yN / 4294967296:=⟨_,rfl⟩
  obtain ⟨y0,hy0⟩:∃ y0,y0=yN % 4294967296:=⟨_,rfl⟩
  obtain ⟨u1,hu1⟩:∃ u1,u1=L / 4294967296:=⟨_,rfl⟩
  obtain ⟨u0,hu0⟩:∃ u0,u0=L % 4294967296:=⟨_,rfl⟩
  rw [← hy1,← hy0,← hu1,← hu0]
  have hyy:y1*4294967296+y0=yN:=by omega
  have D1:Dg U u1 y1 y0:=⟨by omega,by omega,by omega,by omega,by omega,by omega,by omega,by omega⟩
  have hy1p:0<y1:=by omega
  have hU0:0≤U:=by omega
  obtain ⟨st1,st2⟩:=D1.start
  have em1:=Int.mul_ediv_add_emod U y1
  have em2:=Int.emod_nonneg U (b:=y1) (by omega)
  have em3:=Int.emod_lt_of_pos U hy1p
  have hq0:=Int.ediv_nonneg hU0 (Int.le_of_lt hy1p)
  rw [Int.tdiv_eq_ediv_of_nonneg hU0,u64s (n:=U / y1) hq0 (by omega)]
  have hqy:U / y1*y1=U - U % y1:=by rw [Int.mul_comm];omega
  have hqn:=Int.mul_nonneg hq0 (Int.le_of_lt hy1p)
  rw [u64s (n:=U / y1*y1) (by omega) (by omega),u64s (n:=U - U / y1*y1) (by omega) (by omega),if_neg (by omega)]
  obtain ⟨k',hk',e⟩:=div_l0 (yN:=yN) (s:=(s:Int)) (un0:=u0) D1 2 (U / y1) (U - U / y1*y1) k (by omega) (by omega) (by omega) (by omega) rfl st1 st2
  rw [e]
  obtain ⟨k',rfl⟩:∃ j,k'=j+1:=⟨k' - 1,by omega⟩
  rw [bits_Div64.j2,if_neg (by omega)]
  have hT:=D1.nn
  have hTt:=D1.top
  have hrem:=D1.rem
  rw [hyy] at hrem
  obtain ⟨R,hR⟩:∃ R,R=U*4294967296+u1 - dig U u1 y1 y0*yN:=⟨_,rfl⟩
  have hW:IntKind.u64.wrap ((IntKind.u64.wrap ((IntKind.u64.wrap (U*4294967296))+u1)) - (IntKind.u64.wrap (dig U u1 y1 y0*yN)))=R:=by
   rw [wr_add,wr_sub,← hR,u64s (by omega) (by omega)]
  rw [hW]
  rw [← hR] at hrem
  have D2:Dg R u0 y1 y0:=⟨by omega,by omega,by omega,by omega,by omega,by omega,by omega,by omega⟩
  obtain ⟨st3,st4⟩:=D2.start
  have en1:=Int.mul_ediv_add_emod R y1
  have en2:=Int.emod_nonneg R (b:=y1) (by omega)
  have en3:=Int.emod_lt_of_pos R hy1p
  have hq3:=Int.ediv_nonneg hrem.1 (Int.le_of_lt hy1p)
  rw [Int.tdiv_eq_ediv_of_nonneg hrem.1,u64s (n:=R / y1) hq3 (by omega)]
  have hqz:R / y1*y1=R - R % y1:=by rw [Int.mul_comm];omega
  have hqm:=Int.mul_nonneg hq3 (Int.le_of_lt hy1p)
  rw [u64s (n:=R / y1*y1) (by omega) (by omega),u64s (n:=R - R / y1*y1) (by omega) (by omega)]
  rw [div_l1 (by omega) D2 2 (R / y1) (R - R / y1*y1) k' (by omega) (by omega) (by omega) (by omega) rfl st3 st4]
  have hT2:=D2.nn
  have hTt2:=D2.top
  have hrem2:=D2.rem
  rw [hyy] at hrem2
  obtain ⟨R2,hR2⟩:∃ R2,R2=R*4294967296+u0 - dig R u0 y1 y0*yN:=⟨_,rfl⟩
  have hW2:IntKind.u64.wrap ((IntKind.u64.wrap ((IntKind.u64.wrap (R*4294967296))+u0)) - (IntKind.u64.wrap (dig R u0 y1 y0*yN)))=R2:=by
   rw [wr_add,wr_sub,← hR2,u64s (by omega) (by omega)]
  rw [hW2,sr2]
  rw [← hR2] at hrem2
  have h2d:=two_digits hR hR2
  rw [show u1*4294967296+u0=L by omega,hyN] at h2d
  rw [hyN] at hrem2
  obtain ⟨f1,f2⟩:=normal hP0 hQ0 hPQ hU hL h2d hrem2.1 hrem2.2
  rw [u64s (n:=dig U u1 y1 y0*4294967296) (by omega) (by omega),u64s (by omega) (by omega),f1,f2]

theorem power_eq2 (p n:Int) (hp:Pr p) (h:n≤62) (h1:pw p n≤4611686018427387904) (h0 : -9223372036854775808≤n):∀ k,70≤k→impl_power.f k p n=some (pw p n):=by
 have hp2:=hp.pos
 have hle:∀ j:Int,j≤n→1≤pw p j∧pw p j≤4611686018427387904:=fun j hj=>by
  have:=pw_le hp hj;have:=pw_pos2 hp j;omega
 have go:∀ (d k:Nat) (out j:Int),n=j+d→0≤j→d<k→out=pw p j→impl_power.l0 k p out n j=some (pw p n):=by
  intro d
  induction d with
  | zero=>
   intro k out j hn hj hk ho
   obtain ⟨k,rfl⟩:∃ m,k=m+1:=⟨k - 1,by omega⟩
   simp only [impl_power.l0]
   rw [if_neg (by omega),ho]
   congr 2;omega
  | succ d ih=>
   intro k out j hn hj hk ho
   obtain ⟨k,rfl⟩:∃ m,k=m+1:=⟨k - 1,by omega⟩
   simp only [impl_power.l0]
   have hb:=hle (j+1) (by omega)
   have hs1:=pw_succ p j hj
   rw [if_pos (by omega),w64 (n:=j+1) (by omega) (by omega),ho,← hs1,w64 (by omega) (by omega),ih k _ (j+1) (by omega) (by omega) (by omega) rfl]
 intro k hk
 unfold impl_power.f
 by_cases h1:n≤0
 ·
  obtain ⟨k,rfl⟩:∃ m,k=m+1:=⟨k - 1,by omega⟩
  simp only [impl_power.l0]
  rw [if_neg (by omega)]
  simp [pw,show n.toNat=0 by omega]
 ·
  rw [go n.toNat k 1 0 (by omega) (by omega) (by omega) (by simp [pw])]

theorem l01Power_eq2 (p n:Int) (hp:Pr p) (h:n≤62) (h1:pw p n≤4611686018427387904) (h0 : -9223372036854775808≤n):∀ k,70≤k→spec_l01Power.f k p n=some (pw p n):=by
 have hp2:=hp.pos
 have hle:∀ j:Int,j≤n→1≤pw p j∧pw p j≤4611686018427387904:=fun j hj=>by
  have:=pw_le hp hj;have:=pw_pos2 hp j;omega
 have go:∀ (d k:Nat) (m out j:Int),m=d→n=j+d→0≤j→d<k→out=pw p j→spec_l01Power.l0 k p m out=some (pw p n):=by
  intro d
  induction d with
  | zero=>
   intro k m out j hm hn hj hk ho
   obtain ⟨k,rfl⟩:∃ m,k=m+1:=⟨k - 1,by omega⟩
   simp only [spec_l01Power.l0]
   rw [if_neg (by omega),ho]
   congr 2;omega
  | succ d ih=>
   intro k m out j hm hn hj hk ho
   obtain ⟨k,rfl⟩:∃ m,k=m+1:=⟨k - 1,by omega⟩
   simp only [spec_l01Power.l0]
   have hb:=hle (j+1) (by omega)
   have hs1:=pw_succ p j hj
   rw [if_pos (by omega),w64 (n:=m - 1) (by omega) (by omega),ho,← hs1,w64 (by omega) (by omega),ih k (m - 1) _ (j+1) (by omega) (by omega) (by omega) (by omega) rfl]
 intro k hk
 unfold spec_l01Power.f
 by_cases h1:n≤0
 ·
  obtain ⟨k,rfl⟩:∃ m,k=m+1:=⟨k - 1,by omega⟩
  simp only [spec_l01Power.l0]
  rw [if_neg (by omega)]
  simp [pw,show n.toNat=0 by omega]
 ·
  rw [go n.toNat k n 1 0 (by omega) (by omega) (by omega) (by omega) (by simp [pw])]

theorem tmod_fix (a m:Int) (hm:0<m):(a.tmod m+m).tmod m=a % m∧-m<a.tmod m∧a.tmod m<m:=by
 have h1:=Int.tmod_lt_of_pos a hm
 have h2:=Int.lt_tmod_of_pos a hm
 have h3:=Int.mul_tdiv_add_tmod a m
 refine ⟨?_,h2,h1⟩
 rw [Int.tmod_eq_emod_of_nonneg (by omega)]
 rw [show a.tmod m+m=a+m*(1 - a.tdiv m) by rw [Int.mul_sub];omega,Int.add_mul_emod_self_left]
theorem em_mul (a b m:Int):(a % m*b) % m=a*b % m:=by rw [Int.mul_emod,Int.emod_emod,← Int.mul_emod]
theorem emb (a m:Int) (hm:0<m):0≤a % m∧a % m<m:=⟨Int.emod_nonneg _ (by omega),Int.emod_lt_of_pos _ hm⟩

theorem mod_eq (a m:Int) (hm:0<m) (h2:m≤4611686018427387904):impl_mod.f a m=some (a % m):=by
 obtain ⟨e,h3,h4⟩:=tmod_fix a m hm
 unfold impl_mod.f
 rw [if_neg (by omega),w64 (by omega) (by omega),e]

theorem times_eq (a b m:Int) (hm:0<m) (h2:m≤4611686018427387904):∀ k,40≤k→impl_times.f k a b m=some (a*b % m):=by
 intro k hk
 obtain ⟨ha0,ha1⟩:=emb a m hm
 obtain ⟨hb0,hb1⟩:=emb b m hm
 unfold impl_times.f
 rw [mod_eq a m hm h2,mod_eq b m hm h2]
 simp only [Option.bind_some]
 rw [u64s ha0 (by omega),u64s hb0 (by omega),u64s (n:=m) (by omega) (by omega)]
 unfold bits_Mul64.f
 rw [if_pos (by omega)]
 simp only [Option.bind_some]
 obtain ⟨P,hP⟩:∃ P,P=a % m*(b % m):=⟨_,rfl⟩
 have hP0:0≤P:=by rw [hP];exact Int.mul_nonneg ha0 hb0
 rw [← hP]
 have hq:0≤P / 18446744073709551616:=Int.ediv_nonneg hP0 (by omega)
 rw [if_neg (by omega),Int.tmod_eq_emod_of_nonneg hq]
 obtain ⟨c0,c1⟩:=emb (P / 18446744073709551616) m hm
 obtain ⟨d0,d1⟩:=emb P 18446744073709551616 (by omega)
 rw [div64_eq c0 c1 (by omega) d0 d1 k hk]
 simp only [Option.bind_some]
 have e:(P / 18446744073709551616 % m*18446744073709551616+P % 18446744073709551616) % m=a*b % m:=by
  rw [Int.add_emod,em_mul,← Int.add_emod,show P / 18446744073709551616*18446744073709551616+P % 18446744073709551616=P by omega,hP,← Int.mul_emod]
 rw [e]
 obtain ⟨f0,f1⟩:=emb (a*b) m hm
 rw [w64 (by omega) (by omega)]

theorem l01MulMod_eq (a b m:Int) (hm:0<m) (h2:m≤13841287201):spec_l01MulMod.f a b m=some (a*b % m):=by
 obtain ⟨e1,h3,h4⟩:=tmod_fix a m hm
 obtain ⟨e2,h5,h6⟩:=tmod_fix b m hm
 obtain ⟨ha0,ha1⟩:=emb a m hm
 obtain ⟨hb0,hb1⟩:=emb b m hm
 unfold spec_l01MulMod.f
 rw [if_neg (by omega),w64 (n:=a.tmod m+m) (by omega) (by omega),w64 (n:=b.tmod m+m) (by omega) (by omega),e1,e2]
 have em:a*b % m=(a % m)*(b % m) % m:=Int.mul_emod a b m
 rw [em]
 generalize a % m=x at *
 generalize b % m=y at *
 rw [Int.tdiv_eq_ediv_of_nonneg hb0,Int.tmod_eq_emod_of_nonneg hb0]
 have m1:=mul_bd2 (a:=x) (b:=y / 1000000) 13841287201 13842 (by omega) (by omega) (by omega) (by omega)
 have m2:=mul_bd2 (a:=x) (b:=y % 1000000) 13841287201 1000000 (by omega) (by omega) (by omega) (by omega)
 have n1:0≤x*(y / 1000000):=Int.mul_nonneg ha0 (by omega)
 have n2:0≤x*(y % 1000000):=Int.mul_nonneg ha0 (by omega)
 rw [w64 (n:=y / 1000000) (by omega) (by omega),w64 (n:=x*(y / 1000000)) (by omega) (by omega),Int.tmod_eq_emod_of_nonneg n1,w64 (n:=x*(y % 1000000)) (by omega) (by omega),Int.tmod_eq_emod_of_nonneg n2]
 obtain ⟨c0,c1⟩:=emb (x*(y / 1000000)) m hm
 obtain ⟨d0,d1⟩:=emb (x*(y % 1000000)) m hm
 rw [w64 (n:=x*(y / 1000000) % m*1000000) (by omega) (by omega),Int.tmod_eq_emod_of_nonneg (a:=x*(y / 1000000) % m*1000000) (by omega)]
 obtain ⟨f0,f1⟩:=emb (x*(y / 1000000) % m*1000000) m hm
 rw [w64 (by omega) (by omega),Int.tmod_eq_emod_of_nonneg (a:=x*(y / 1000000) % m*1000000 % m+x*(y % 1000000) % m) (by omega)]
 rw [em_mul,← Int.add_emod]
 congr 2
 have:y=y / 1000000*1000000+y % 1000000:=by omega
 conv=>rhs;rw [this]
 rw [Int.mul_add,Int.mul_assoc]

theorem inverse_eq (n m:Int) (hm:0<m) (h2:m≤1099511627776):∀ k,m.toNat+4≤k→impl_inverse.f k n m=some (inv n m):=by
 have go:∀ (j:Nat) (n a b x y:Int) (k:Nat),Inv n m a b x y→b<j→a≤m→b≤m→x.natAbs≤m→y.natAbs≤m→j<k→impl_inverse.l0 k m a b x y=some (invF j a b x y % m):=by
  intro j
  induction j with
  | zero=>intro n a b x y k h hb;have:=h.b0;omega
  | succ j ih=>
   intro n a b x y k h hb ham hbm hx hy hk
   obtain ⟨k,rfl⟩:∃ i,k=i+1:=⟨k - 1,by omega⟩
   have a0:=h.a0;have b0:=h.b0
   simp only [impl_inverse.l0,invF]
   by_cases z:b=0
   ·
    rw [if_pos z,if_pos z]
    rw [mod_eq x m hm (by omega)];rfl
   ·
    rw [if_neg z,if_neg z]
    have hb1:0<b:=by omega
    obtain ⟨i1,i2,i3,i4⟩:=h.bd
    obtain ⟨i5,i6⟩:=i4 hb1
    have hs:=h.step z
    obtain ⟨j1,j2,j3,j4⟩:=hs.bd
    have hy':=j2 hb1
    have hq:0≤a / b:=Int.ediv_nonneg a0 b0
    have hq2:=Int.ediv_le_self b a0
    have hr:a - a / b*b=a % b:=by rw [Int.emod_def,Int.mul_comm b]
    obtain ⟨r0,r1⟩:=emb a b hb1
    have hay:(a / b*y).natAbs≤m:=by
     rw [Int.natAbs_mul]
     have:((a / b).natAbs*y.natAbs:Nat)=a / b*(y.natAbs:Int):=by
      rw [Int.natCast_mul,Int.natAbs_of_nonneg hq]
     omega
    rw [Int.tdiv_eq_ediv_of_nonneg a0,w64 (n:=a / b) (by omega) (by omega),w64 (n:=a / b*b) (by omega) (by omega),w64 (n:=a - a / b*b) (by omega) (by omega),w64 (n:=a / b*y) (by omega) (by omega),w64 (n:=x - a / b*y) (by omega) (by omega)]
    exact ih n b (a - a / b*b) y (x - a / b*y) k hs (by omega) hbm (by omega) hy (by omega) (by omega)
 intro k hk
 obtain ⟨h0,h1⟩:=emb n m hm
 unfold impl_inverse.f inv
 rw [mod_eq n m hm (by omega)]
 simp only [Option.bind_some]
 exact go (m.toNat+2) (n % m) (n % m) m 1 0 k (Inv.start h0 (by omega)) (by omega) (by omega) (by omega) (by omega) (by omega) (by omega)

theorem l01InvMod_eq (n m:Int) (hm:0<m) (h2:m≤1099511627776):∀ k,m.toNat+4≤k→spec_l01InvMod.f k n m=some (inv n m):=by
 have go:∀ (j:Nat) (n a b x y:Int) (k:Nat),Inv n m a b x y→b<j→a≤m→b≤m→x.natAbs≤m→y.natAbs≤m→j<k→spec_l01InvMod.l0 k m a b x y=some (invF j a b x y % m):=by
  intro j
  induction j with
  | zero=>intro n a b x y k h hb;have:=h.b0;omega
  | succ j ih=>
   intro n a b x y k h hb ham hbm hx hy hk
   obtain ⟨k,rfl⟩:∃ i,k=i+1:=⟨k - 1,by omega⟩
   have a0:=h.a0;have b0:=h.b0
   simp only [spec_l01InvMod.l0,invF]
   by_cases z:b=0
   ·
    rw [if_pos z,if_pos z]
    obtain ⟨e,h3,h4⟩:=tmod_fix x m hm
    rw [if_neg (by omega),w64 (by omega) (by omega),e]
   ·
    rw [if_neg z,if_neg z]
    have hb1:0<b:=by omega
    obtain ⟨i1,i2,i3,i4⟩:=h.bd
    obtain ⟨i5,i6⟩:=i4 hb1
    have hs:=h.step z
    obtain ⟨j1,j2,j3,j4⟩:=hs.bd
    have hy':=j2 hb1
    have hq:0≤a / b:=Int.ediv_nonneg a0 b0
    have hq2:=Int.ediv_le_self b a0
    have hr:a - a / b*b=a % b:=by rw [Int.emod_def,Int.mul_comm b]
    obtain ⟨r0,r1⟩:=emb a b hb1
    have hay:(a / b*y).natAbs≤m:=by
     rw [Int.natAbs_mul]
     have:((a / b).natAbs*y.natAbs:Nat)=a / b*(y.natAbs:Int):=by
      rw [Int.natCast_mul,Int.natAbs_of_nonneg hq]
     omega
    rw [Int.tdiv_eq_ediv_of_nonneg a0,w64 (n:=a / b) (by omega) (by omega),w64 (n:=a / b*b) (by omega) (by omega),w64 (n:=a - a / b*b) (by omega) (by omega),w64 (n:=a / b*y) (by omega) (by omega),w64 (n:=x - a / b*y) (by omega) (by omega)]
    exact ih n b (a - a / b*b) y (x - a / b*y) k hs (by omega) hbm (by omega) hy (by omega) (by omega)
 intro k hk
 obtain ⟨h0,h1⟩:=emb n m hm
 unfold spec_l01InvMod.f inv
 obtain ⟨e,h3,h4⟩:=tmod_fix n m hm
 rw [if_neg (by omega),w64 (by omega) (by omega),e]
 exact go (m.toNat+2) (n % m) (n % m) m 1 0 k (Inv.start h0 (by omega)) (by omega) (by omega) (by omega) (by omega) (by omega) (by omega)

theorem vl20 {p n:Int} (hp:Pr p) (h:n≠0) (hb:n.natAbs≤1000000):vl p n≤19:=by
 have:=vl_le hp h (k:=20) (by
  have:(2:Nat) ^ 20=1048576:=by decide
  omega)
 omega
theorem pwvl {p n:Int} (hp:Pr p) (h:n≠0):0<pw p (vl p n)∧pw p (vl p n)≤(n.natAbs:Int):=by
 refine ⟨pw_pos2 hp _,?_⟩
 have:=Int.le_of_dvd (by omega) (Int.dvd_natAbs.mpr (pw_vl_dvd hp h))
 exact this
theorem un_div {p n:Int} (hp:Pr p) (h:n≠0):n.tdiv (pw p (vl p n))=un p n:=by
 unfold un;rw [vz_of_ne h,Int.tdiv_eq_ediv_of_dvd (pw_vl_dvd hp h)]
theorem un_bd {p n:Int} (hp:Pr p) (h:n≠0):(un p n).natAbs≤n.natAbs:=by
 obtain ⟨e,_⟩:=un_spec hp h
 have h1:=pwvl hp h
 have:n.natAbs=(pw p (vl p n)).natAbs*(un p n).natAbs:=by rw [← Int.natAbs_mul,← e]
 rw [this]
 exact Nat.le_mul_of_pos_left _ (by omega)

theorem unit_eq (p n:Int) (hp:Pr p) (h:n≠0) (hb:n.natAbs≤4611686018427387904):∀ k,70≤k→impl_unit.f k p n=some (un p n):=by
 intro k hk
 have h1:=pwvl hp h
 have h2:=vl_le63 hp h (by omega)
 have h3:=vl_le hp h (k:=63) (by
  have:(2:Nat) ^ 63=9223372036854775808:=by decide
  omega)
 have h4:=un_bd hp h
 unfold impl_unit.f
 rw [valuation_eq p n hp (by omega) k hk,vz_of_ne h]
 simp only [Option.bind_some]
 rw [power_eq2 p _ hp (by omega) (by omega) (by omega) k hk]
 simp only [Option.bind_some]
 rw [if_neg (by omega),un_div hp h,w64 (by omega) (by omega)]

def brV (p lv x n d:Int):Int:=if d=0∨PM.turn p lv x n d<lv then 0 else 1+(PM.dv p x n d / pw p (lv+6+vl p d))*inv (un p d) p % p
theorem un_mul_pw {p n k:Int} (hp:Pr p) (hn:n≠0) (hk:0≤k):un p (pw p k*n)=un p n∧(vl p (pw p k*n):Int)=k+vl p n:=by
 have hq:=pw_pos2 hp k
 have hv:(vl p (pw p k*n):Int)=k+vl p n:=by
  rw [vl_mul hp (by omega) hn];have:=PM.vl_pw hp k hk;omega
 refine ⟨?_,hv⟩
 unfold un
 rw [vz_of_ne (Int.mul_ne_zero (by omega) hn),hv,vz_of_ne hn,pw_add hk (by omega),Int.mul_ediv_mul_of_pos _ _ hq]
theorem turn_held {p lv x n d:Int} (hd:d≠0):¬ PM.turn p lv x n d<lv↔(PM.dv p x n d=0∨lv+6+(vl p d:Int)≤vl p (PM.dv p x n d)):=by
 unfold PM.turn
 by_cases z:PM.dv p x n d=0
 ·
  rw [if_pos z];omega
 ·
  rw [if_neg z];omega
theorem dv_bd {p x n d:Int} (hp:Pr p) (hx:0≤x∧x≤13841287201) (he:isE n d):(PM.dv p x n d).natAbs≤15000000000000000:=by
 have hE:=isE_bd he
 have h6:=pw_bd6 p 6 hp (by omega)
 have m1:=mul_bd2 (a:=n) (b:=pw p 6) 1000000 117649 (by omega) (by omega) (by omega) (by omega)
 have m2:=mul_bd2 (a:=x) (b:=d) 13841287201 1000000 (by omega) (by omega) (by omega) (by omega)
 unfold PM.dv;omega
theorem pwq {p lv d:Int} (hp:Pr p) (hd:d≠0) (hb:d.natAbs≤1000000) (hl : -6≤lv∧lv≤6):1≤pw p (lv+6+vl p d)∧pw p (lv+6+vl p d)≤13841287201*1000000:=by
 have h1:=pwvl hp hd
 have h2:=pw_bd12 p (lv+6) hp (by omega)
 rw [pw_add (by omega) (by omega)]
 have h3:=mul_bd2 (a:=pw p (lv+6)) (b:=pw p (vl p d)) 13841287201 1000000 (by omega) (by omega) (by omega) (by omega)
 have h4:=Int.mul_pos (show 0<pw p (lv+6) by omega) h1.1
 omega
theorem held_dvd {p lv x n d:Int} (hp:Pr p) (hd:d≠0) (hl : -6≤lv) (h:¬ PM.turn p lv x n d<lv):pw p (lv+6+vl p d) ∣ PM.dv p x n d:=by
 rcases (turn_held hd).mp h with z|z
 ·
  rw [z];exact Int.dvd_zero _
 ·
  by_cases z0:PM.dv p x n d=0
  ·
   rw [z0];exact Int.dvd_zero _
  ·
   exact (le_vl_iff' hp z0 (by omega)).mp z

theorem nearness_eq {p lv top dn n d:Int} (hp:Pr p) (h:PM.Ok p ⟨lv,top,dn⟩) (he:isE n d) (hd:d≠0):∀ k,70≤k→impl_nearness.f k p lv top dn n d=some (if PM.dv p (PM.mark p ⟨lv,top,dn⟩) n d=0 then 1000 else (vl p (PM.dv p (PM.mark p ⟨lv,top,dn⟩) n d):Int) - vl p d - 6):=by
 intro k hk
 have hb:=okb h
 have hm:=mark_bd12 hp h
 have hE:=isE_bd he
 have h6:=pw_bd6 p 6 hp (by omega)
 unfold impl_nearness.f
 rw [power_eq p 6 hp (by omega) k (by omega),mark_eq hp h k (by omega)]
 simp only [Option.bind_some]
 generalize PM.mark p ⟨lv,top,dn⟩=x at hm ⊢
 have m1:=mul_bd2 (a:=n) (b:=pw p 6) 1000000 117649 (by omega) (by omega) (by omega) (by omega)
 have m2:=mul_bd2 (a:=x) (b:=d) 13841287201 1000000 (by omega) (by omega) (by omega) (by omega)
 rw [w64 (n:=n*pw p 6) (by omega) (by omega),w64 (n:=x*d) (by omega) (by omega),w64 (n:=n*pw p 6 - x*d) (by omega) (by omega)]
 have hd6:=vl_le63 hp hd (by omega)
 unfold PM.dv
 by_cases z:n*pw p 6 - x*d=0
 ·
  rw [if_pos z,if_pos z]
 ·
  have hv:=vl_le63 hp z (by omega)
  rw [if_neg z,if_neg z,valuation_eq p _ hp (by omega) k hk,valuation_eq p _ hp (by omega) k hk,vz_of_ne z,vz_of_ne hd]
  simp only [Option.bind_some]
  rw [w64 (n:=(vl p (n*pw p 6 - x*d):Int) - vl p d) (by omega) (by omega),w64 (by omega) (by omega)]

theorem held_eq {p lv top dn n d:Int} (hp:Pr p) (h:PM.Ok p ⟨lv,top,dn⟩) (he:isE n d):∀ k,70≤k→impl_held.f k p lv top dn n d=some (decide (¬ (d=0∨PM.turn p lv (PM.mark p ⟨lv,top,dn⟩) n d<lv))):=by
 intro k hk
 have hb:=okb h
 unfold impl_held.f
 by_cases z:d=0
 ·
  rw [if_pos z,decide_eq_false (by simp [z])]
 ·
  rw [if_neg z,nearness_eq hp h he z k hk]
  simp only [Option.bind_some]
  congr 1
  rw [decide_eq_decide]
  have:=turn_held (p:=p) (lv:=lv) (x:=PM.mark p ⟨lv,top,dn⟩) (n:=n) z
  by_cases z0:PM.dv p (PM.mark p ⟨lv,top,dn⟩) n d=0
  ·
   rw [if_pos z0];omega
  ·
   rw [if_neg z0];omega
theorem branch_eq {p lv top dn n d:Int} (hp:Pr p) (h:PM.Ok p ⟨lv,top,dn⟩) (he:isE n d):∀ k,80≤k→impl_branch.f k p lv top dn n d=some (brV p lv (PM.mark p ⟨lv,top,dn⟩) n d):=by
 intro k hk
 have hb:=okb h
 have hm:=mark_bd12 hp h
 have hE:=isE_bd he
 have h6:=pw_bd6 p 6 hp (by omega)
 have hpl:=hp.le
 have hpp:=hp.pos
 unfold impl_branch.f brV
 rw [held_eq hp h he k (by omega)]
 simp only [Option.bind_some]
 by_cases c:d=0∨PM.turn p lv (PM.mark p ⟨lv,top,dn⟩) n d<lv
 ·
  rw [if_pos c,decide_eq_false (fun z=>z c),if_neg (by simp)]
 ·
  have hd:d≠0:=fun z=>c (Or.inl z)
  have ht:¬ PM.turn p lv (PM.mark p ⟨lv,top,dn⟩) n d<lv:=fun z=>c (Or.inr z)
  rw [if_neg c,decide_eq_true c,if_pos rfl,power_eq p 6 hp (by omega) k (by omega),mark_eq hp h k (by omega),valuation_eq p d hp (by omega) k (by omega),vz_of_ne hd]
  simp only [Option.bind_some]
  have hdv:=held_dvd hp hd (by omega) ht
  have hD:=dv_bd hp hm he
  have hv:=vl20 hp hd (by omega)
  have hq:=pwq hp hd (by omega) (show -6≤lv∧lv≤6 by omega)
  generalize PM.mark p ⟨lv,top,dn⟩=x at *
  have m1:=mul_bd2 (a:=n) (b:=pw p 6) 1000000 117649 (by omega) (by omega) (by omega) (by omega)
  have m2:=mul_bd2 (a:=x) (b:=d) 13841287201 1000000 (by omega) (by omega) (by omega) (by omega)
  rw [w64 (n:=lv+6) (by omega) (by omega),w64 (n:=lv+6+(vl p d:Int)) (by omega) (by omega),power_eq2 p _ hp (by omega) (by omega) (by omega) k (by omega)]
  simp only [Option.bind_some]
  rw [if_neg (by omega),unit_eq p d hp hd (by omega) k (by omega)]
  simp only [Option.bind_some]
  rw [inverse_eq _ p (by omega) (by omega) k (by omega)]
  simp only [Option.bind_some]
  rw [w64 (n:=n*pw p 6) (by omega) (by omega),w64 (n:=x*d) (by omega) (by omega),w64 (n:=n*pw p 6 - x*d) (by omega) (by omega)]
  rw [show n*pw p 6 - x*d=PM.dv p x n d from rfl,Int.tdiv_eq_ediv_of_dvd hdv]
  have hab:(PM.dv p x n d / pw p (lv+6+vl p d)).natAbs≤(PM.dv p x n d).natAbs:=Int.natAbs_ediv_le_natAbs _ _
  rw [w64 (n:=PM.dv p x n d / pw p (lv+6+vl p d)) (by omega) (by omega),times_eq _ _ p (by omega) (by omega) k (by omega)]
  simp only [Option.bind_some]
  obtain ⟨r0,r1⟩:=emb (PM.dv p x n d / pw p (lv+6+vl p d)*inv (un p d) p) p (by omega)
  rw [w64 (by omega) (by omega)]

theorem l05Branch_eq {p lv top dn n d:Int} (hp:Pr p) (h:PM.Ok p ⟨lv,top,dn⟩) (he:isE n d):∀ k,80≤k→spec_l05Branch.f k p lv top dn n d=some (brV p lv (PM.mark p ⟨lv,top,dn⟩) n d):=by
 intro k hk
 obtain ⟨k,rfl⟩:∃ j,k=j+1:=⟨k - 1,by omega⟩
 have hb:=okb h
 have hto:=ok_top hp h
 have hm:=mark_bd12 hp h
 have hE:=isE_bd he
 have h6:=pw_bd6 p dn hp (by omega)
 have hpl:=hp.le
 have hpp:=hp.pos
 unfold spec_l05Branch.f brV
 by_cases hd:d=0
 ·
  rw [if_pos hd,if_pos (Or.inl hd)];simp [spec_l05Branch.j0]
 ·
  rw [if_neg hd,l02Meet_eq hp h he hd (k+1) (by omega)]
  simp only [Option.bind_some,spec_l05Branch.j0]
  by_cases c:PM.turn p lv (PM.mark p ⟨lv,top,dn⟩) n d<lv
  ·
   rw [decide_eq_true c,if_pos rfl,if_pos (Or.inr c)]
  ·
   rw [decide_eq_false c,if_neg (by simp),if_neg (show ¬ (d=0∨PM.turn p lv (PM.mark p ⟨lv,top,dn⟩) n d<lv) from fun z=>z.elim hd c)]
   rw [l01Power_eq p dn hp (by omega) (by omega) k (by omega)]
   simp only [Option.bind_some]
   have m1:=mul_bd2 (a:=n) (b:=pw p dn) 1000000 117649 (by omega) (by omega) (by omega) (by omega)
   have m2:=mul_bd2 (a:=top) (b:=d) 13841287201 1000000 (by omega) (by omega) (by omega) (by omega)
   have m3:=mul_bd2 (a:=d) (b:=pw p dn) 1000000 117649 (by omega) (by omega) (by omega) (by omega)
   have hdd:PM.dv p (PM.mark p ⟨lv,top,dn⟩) n d=pw p (6 - dn)*(n*pw p dn - top*d):=PM.dv_down hp h n d
   rw [w64 (n:=n*pw p dn) (by omega) (by omega),w64 (n:=top*d) (by omega) (by omega),w64 (n:=n*pw p dn - top*d) (by omega) (by omega),w64 (n:=d*pw p dn) (by omega) (by omega)]
   have hdvd:=held_dvd hp hd (by omega) c
   have hc:=(turn_held hd).mp c
   generalize PM.mark p ⟨lv,top,dn⟩=x at *
   rw [hdd] at hdvd hc ⊢
   by_cases z:n*pw p dn - top*d=0
   ·
    rw [if_pos z,z];simp
   ·
    rw [if_neg z]
    have hv:=vl_le63 hp z (by omega)
    have hv2:=vl_le hp z (k:=55) (by
     have:(2:Nat) ^ 55=36028797018963968:=by decide
     omega)
    have hbn:d*pw p dn≠0:=Int.mul_ne_zero hd (by omega)
    obtain ⟨ub,vb⟩:=un_mul_pw (p:=p) (n:=d) (k:=dn) hp hd (by omega)
    rw [Int.mul_comm] at ub vb
    obtain ⟨ut,vt⟩:=un_mul_pw (p:=p) (n:=n*pw p dn - top*d) (k:=6 - dn) hp z (by omega)
    have hvd:=vl20 hp hd (by omega)
    rw [val_eq p _ hp z (by omega) k (by omega),val_eq p _ hp hbn (by omega) k (by omega)]
    simp only [Option.bind_some]
    rw [vb,w64 (n:=(vl p (n*pw p dn - top*d):Int) - (dn+vl p d)) (by omega) (by omega)]
    have hne:pw p (6 - dn)*(n*pw p dn - top*d)≠0:=Int.mul_ne_zero (by have:=pw_pos2 hp (6 - dn);omega) z
    by_cases g:(vl p (n*pw p dn - top*d):Int) - (dn+vl p d)>lv
    ·
     rw [if_pos g]
     have hx:pw p (lv+6+vl p d+1) ∣ pw p (6 - dn)*(n*pw p dn - top*d):=(le_vl_iff' hp hne (by omega)).mp (by omega)
     obtain ⟨w,hw⟩:=hx
     rw [pw_add (show 0≤lv+6+(vl p d:Int) by omega) (by omega),pw_one] at hw
     have hq0:=pw_pos2 hp (lv+6+vl p d)
     rw [hw,Int.mul_assoc,Int.mul_ediv_cancel_left _ (by omega),Int.mul_assoc,Int.mul_emod_right];rfl
    ·
     rw [if_neg g]
     have e:lv+6+(vl p d:Int)=(6 - dn)+vl p (n*pw p dn - top*d):=by
      rcases hc with hc|hc
      ·
       exact absurd hc hne
      ·
       omega
     have hp1:=pwvl hp z
     have hp2:=pwvl hp hbn
     have hu1:=un_bd hp z
     have hu2:=un_bd hp hbn
     rw [l01Power_eq2 p _ hp (by omega) (by omega) (by omega) k (by omega)]
     simp only [Option.bind_some]
     have hp2':pw p (dn+vl p d)≤150000000000∧0<pw p (dn+vl p d):=by rw [← vb];omega
     rw [if_neg (by omega),l01Power_eq2 p (dn+vl p d) hp (by omega) (by omega) (by omega) k (by omega)]
     simp only [Option.bind_some]
     rw [if_neg (by omega),← vb,un_div hp z,un_div hp hbn,ub]
     rw [ub] at hu2
     rw [w64 (n:=un p d) (by omega) (by omega),w64 (n:=un p (n*pw p dn - top*d)) (by omega) (by omega),l01InvMod_eq _ p (by omega) (by omega) k (by omega)]
     simp only [Option.bind_some]
     rw [l01MulMod_eq _ _ p (by omega) (by omega)]
     simp only [Option.bind_some]
     obtain ⟨r0,r1⟩:=emb (un p (n*pw p dn - top*d)*inv (un p d) p) p (by omega)
     rw [w64 (by omega) (by omega),e]
     have:pw p (6 - dn)*(n*pw p dn - top*d) / pw p ((6 - dn)+vl p (n*pw p dn - top*d))=un p (n*pw p dn - top*d):=by
      rw [← vt,← vz_of_ne hne];exact ut
     rw [this]

def enc:Option PM.Ball→Int × Int × Int × Bool
 | none=>(0,0,0,false)
 | some b=>(b.lv,b.top,b.dn,true)
def encC (c:Int):Option PM.Ball→Int × Int × Int × Int
 | none=>(0,0,0,c)
 | some b=>(b.lv,b.top,b.dn,0)

theorem isLevel_eq' (n:Int):impl_isLevel.f n=some (decide (PM.inLv n)):=by
 unfold impl_isLevel.f PM.inLv
 congr 1
 by_cases h1:n≥-6 <;> by_cases h2:n≤6 <;> simp [h1,h2] <;> omega
theorem ofMark_eq {p lv x:Int} (hp:Pr p):∀ k,70≤k→impl_ofMark.f k p lv x=some (enc (if PM.inLv lv then some (PM.mk p lv (x % pw p (lv+6))) else none)):=by
 intro k hk
 unfold impl_ofMark.f
 rw [isLevel_eq']
 simp only [Option.bind_some]
 by_cases hl:PM.inLv lv
 ·
  have hl':=hl
  unfold PM.inLv at hl'
  have hb:=pw_bd12 p (lv+6) hp (by omega)
  obtain ⟨r0,r1⟩:=emb x (pw p (lv+6)) (by omega)
  rw [decide_eq_true hl,if_pos rfl,if_pos hl,w64 (n:=lv+6) (by omega) (by omega),power_eq p _ hp (by omega) k (by omega)]
  simp only [Option.bind_some]
  rw [mod_eq x _ (by omega) (by omega)]
  simp only [Option.bind_some]
  generalize x % pw p (lv+6)=y at *
  rw [valuation_eq p y hp (by omega) k hk]
  simp only [Option.bind_some]
  have hz:0≤vz p y∧vz p y≤1000:=by
   refine ⟨PM.vz_nonneg _ _,?_⟩
   unfold vz
   by_cases y0:y=0
   ·
    rw [if_pos y0];omega
   ·
    rw [if_neg y0];have:=vl_le63 hp y0 (by omega);omega
  simp only [mx_max]
  rw [w64 (n:=6 - vz p y) (by omega) (by omega),w64 (n:=6 - max (6 - vz p y) 0) (by omega) (by omega),power_eq p _ hp (by omega) k (by omega)]
  simp only [Option.bind_some]
  have hq:=pw_bd6 p (6 - max (6 - vz p y) 0) hp (by omega)
  have hd:=Int.ediv_le_self (pw p (6 - max (6 - vz p y) 0)) r0
  have hd0:=Int.ediv_nonneg r0 (show 0≤pw p (6 - max (6 - vz p y) 0) by omega)
  rw [if_neg (by omega),Int.tdiv_eq_ediv_of_nonneg r0,w64 (by omega) (by omega)]
  simp only [enc,PM.mk]
 ·
  rw [decide_eq_false hl,if_neg (by simp),if_neg hl];rfl

theorem vz_bd {p n:Int} (hp:Pr p) (h:n.natAbs≤9223372036854775807):0≤vz p n∧vz p n≤1000:=by
 refine ⟨PM.vz_nonneg _ _,?_⟩
 unfold vz
 by_cases y0:n=0
 ·
  rw [if_pos y0];omega
 ·
  rw [if_neg y0];have:=vl_le63 hp y0 (by omega);omega
theorem ballAt_eq {p n d lv:Int} (hp:Pr p) (hd:d≠0) (hn:n.natAbs≤4611686018427387904) (hdb:d.natAbs≤4611686018427387904):∀ k,13841287300≤k→impl_ballAt.f k p n d lv=some (enc (PM.ballAt p n d lv)):=by
 intro k hk
 obtain ⟨k,rfl⟩:∃ j,k=j+1:=⟨k - 1,by omega⟩
 unfold impl_ballAt.f PM.ballAt
 rw [isLevel_eq']
 simp only [Option.bind_some]
 by_cases hl:PM.inLv lv
 ·
  have hl':=hl
  unfold PM.inLv at hl'
  have hb:=pw_bd12 p (lv+6) hp (by omega)
  have b1:=vz_bd hp (n:=n) (by omega)
  have b2:=vz_bd hp (n:=d) (by omega)
  rw [decide_eq_true hl,if_pos rfl,if_neg (fun z=>z hl),valuation_eq p n hp (by omega) _ (by omega),valuation_eq p d hp (by omega) _ (by omega)]
  simp only [Option.bind_some,impl_ballAt.j0]
  rw [w64 (n:=vz p n - vz p d) (by omega) (by omega)]
  by_cases z:n=0
  ·
   rw [if_pos z,if_pos trivial,if_pos (Or.inl z)];rfl
  ·
   rw [if_neg z]
   by_cases c:vz p n - vz p d≥lv
   ·
    rw [decide_eq_true c,if_pos rfl,if_pos (Or.inr c)];rfl
   ·
    rw [decide_eq_false c,if_neg (by simp),if_neg (show ¬ (n=0∨lv≤vz p n - vz p d) from fun y=>y.elim z c)]
    by_cases e:vz p n - vz p d < -6
    ·
     rw [if_pos e,if_pos e];rfl
    ·
     rw [if_neg e,if_neg e,w64 (n:=lv+6) (by omega) (by omega),w64 (n:=vz p n - vz p d+6) (by omega) (by omega),power_eq p (lv+6) hp (by omega) k (by omega),unit_eq p n hp z hn k (by omega),unit_eq p d hp hd hdb k (by omega)]
     simp only [Option.bind_some]
     rw [inverse_eq _ _ (by omega) (by omega) k (by omega)]
     simp only [Option.bind_some]
     rw [times_eq _ _ _ (by omega) (by omega) k (by omega)]
     simp only [Option.bind_some]
     rw [power_eq p (vz p n - vz p d+6) hp (by omega) k (by omega)]
     simp only [Option.bind_some]
     rw [times_eq _ _ _ (by omega) (by omega) k (by omega)]
     simp only [Option.bind_some]
     rw [ofMark_eq hp k (by omega),if_pos hl,Int.emod_emod]
     rfl
 ·
  rw [decide_eq_false hl,if_neg (by simp),if_pos hl];rfl

theorem l01Of_eq {p n d lv:Int} (hp:Pr p) (hd:d≠0) (hn:n.natAbs≤4611686018427387904) (hdb:d.natAbs≤4611686018427387904):∀ k,13841287300≤k→spec_l01Of.f k p n d lv=some (enc (PM.lOf p n d lv)):=by
 intro k hk
 unfold spec_l01Of.f PM.lOf
 rw [in_eq]
 simp only [Option.bind_some]
 by_cases hl:PM.inLv lv
 ·
  have hl':=hl
  unfold PM.inLv at hl'
  rw [decide_eq_true hl',if_pos rfl,if_neg (show ¬ ¬ PM.inLv lv from fun z=>z hl)]
  by_cases z:n=0
  ·
   rw [if_pos z,if_pos z];rfl
  ·
   have v1:=vl_le63 hp z (by omega)
   have v2:=vl_le63 hp hd (by omega)
   have v3:=vl_le hp z (k:=63) (by
    have:(2:Nat) ^ 63=9223372036854775808:=by decide
    omega)
   have v4:=vl_le hp hd (k:=63) (by
    have:(2:Nat) ^ 63=9223372036854775808:=by decide
    omega)
   rw [if_neg z,if_neg z,val_eq p n hp z (by omega) k (by omega),val_eq p d hp hd (by omega) k (by omega),vz_of_ne z,vz_of_ne hd]
   simp only [Option.bind_some,mx_max]
   rw [w64 (n:=(vl p n:Int) - vl p d) (by omega) (by omega),w64 (n:=(vl p d:Int) - vl p n) (by omega) (by omega)]
   by_cases c:lv≤(vl p n:Int) - vl p d
   ·
    rw [if_pos c,if_pos c];rfl
   ·
    rw [if_neg c,if_neg c]
    by_cases e:max ((vl p d:Int) - vl p n) 0>6
    ·
     rw [if_pos e,if_pos e];rfl
    ·
     rw [if_neg e,if_neg (show ¬ 6<max ((vl p d:Int) - vl p n) 0 from e)]
     have hb:=pw_bd12 p (lv+max ((vl p d:Int) - vl p n) 0) hp (by omega)
     have p1:=pwvl hp z
     have p2:=pwvl hp hd
     have u1:=un_bd hp z
     have u2:=un_bd hp hd
     rw [w64 (n:=lv+max ((vl p d:Int) - vl p n) 0) (by omega) (by omega),l01Power_eq p _ hp (by omega) (by omega) k (by omega),l01Power_eq2 p (vl p n) hp (by omega) (by omega) (by omega) k (by omega),l01Power_eq2 p (vl p d) hp (by omega) (by omega) (by omega) k (by omega)]
     simp only [Option.bind_some]
     rw [if_neg (by omega),if_neg (by omega),un_div hp z,un_div hp hd,w64 (n:=un p n) (by omega) (by omega),w64 (n:=un p d) (by omega) (by omega),l01InvMod_eq _ _ (by omega) (by omega) k (by omega)]
     simp only [Option.bind_some]
     rw [l01MulMod_eq _ _ _ (by omega) (by omega),l01Power_eq p (max ((vl p n:Int) - vl p d) 0) hp (by omega) (by omega) k (by omega)]
     simp only [Option.bind_some]
     rw [l01MulMod_eq _ _ _ (by omega) (by omega)]
     rfl
 ·
  rw [decide_eq_false (show ¬ (-6≤lv∧lv≤6) from hl),if_neg (by simp),if_pos hl];rfl
theorem lOf_eq_ballAt {p n d lv:Int} (hp:Pr p) (hd:d≠0):PM.lOf p n d lv=PM.ballAt p n d lv:=(PM.ballAt_eq_lOf hp hd).symm

theorem up_eq {p lv top dn:Int} (hp:Pr p) (h:PM.Ok p ⟨lv,top,dn⟩):∀ k,70≤k→impl_parent.f k p lv top dn=some (enc (PM.about p (lv - 1) (PM.mark p ⟨lv,top,dn⟩))):=by
 intro k hk
 have hb:=okb h
 unfold impl_parent.f
 rw [mark_eq hp h k (by omega)]
 simp only [Option.bind_some]
 rw [w64 (n:=lv - 1) (by omega) (by omega),ofMark_eq hp k hk]
 rfl

theorem down_eq {p lv top dn a:Int} (hp:Pr p) (h:PM.Ok p ⟨lv,top,dn⟩) (ha:0≤a∧a≤7):∀ k,70≤k→impl_child.f k p lv top dn a=some (enc (PM.about p (lv+1) (PM.mark p ⟨lv,top,dn⟩+a*pw p (lv+6)))):=by
 intro k hk
 have hb:=okb h
 have hm:=mark_bd12 hp h
 have hq:=pw_bd12 p (lv+6) hp (by omega)
 have m1:=mul_bd2 (a:=a) (b:=pw p (lv+6)) 7 13841287201 (by omega) (by omega) (by omega) (by omega)
 unfold impl_child.f
 rw [mark_eq hp h k (by omega),w64 (n:=lv+6) (by omega) (by omega),power_eq p _ hp (by omega) k (by omega)]
 simp only [Option.bind_some]
 rw [w64 (n:=lv+1) (by omega) (by omega),w64 (n:=a*pw p (lv+6)) (by omega) (by omega),w64 (by omega) (by omega),ofMark_eq hp k hk]
 rfl

theorem specUp_eq {p lv top dn:Int} (hp:Pr p) (h:PM.Ok p ⟨lv,top,dn⟩):∀ k,13841287300≤k→spec_l01Parent.f k p lv top dn=some (enc (PM.about p (lv - 1) (PM.mark p ⟨lv,top,dn⟩))):=by
 intro k hk
 have hb:=okb h
 have ht:=ok_top hp h
 have h6:=pw_bd6 p dn hp (by omega)
 unfold spec_l01Parent.f
 rw [l01Power_eq p dn hp (by omega) (by omega) k (by omega)]
 simp only [Option.bind_some]
 rw [w64 (n:=lv - 1) (by omega) (by omega),l01Of_eq hp (by omega) (by omega) (by omega) k hk,lOf_eq_ballAt hp (by omega),show PM.ballAt p top (pw p dn) (lv - 1)=_ from PM.parent_is hp h (lv - 1)]
 rfl

theorem about_out {p l x:Int} (h:¬ PM.inLv l):PM.about p l x=none:=by unfold PM.about;rw [if_neg h]
theorem specDown_eq {p lv top dn a:Int} (hp:Pr p) (h:PM.Ok p ⟨lv,top,dn⟩) (ha:0≤a∧a≤7):∀ k,13841287300≤k→spec_l01Child.f k p lv top dn a=some (enc (PM.about p (lv+1) (PM.mark p ⟨lv,top,dn⟩+a*pw p (lv+6)))):=by
 intro k hk
 have hb:=okb h
 have ht:=ok_top hp h
 have h6:=pw_bd6 p dn hp (by omega)
 unfold spec_l01Child.f
 by_cases c:lv=6
 ·
  rw [if_pos c,about_out (by unfold PM.inLv;omega)];rfl
 ·
  rw [if_neg c,l01Power_eq p dn hp (by omega) (by omega) k (by omega)]
  simp only [Option.bind_some]
  by_cases g:lv≥0
  ·
   have hl:=pw_bd6 p lv hp (by omega)
   have m1:=mul_bd2 (a:=a) (b:=pw p dn) 7 117649 (by omega) (by omega) (by omega) (by omega)
   have m2:=mul_bd2 (a:=a*pw p dn) (b:=pw p lv) 823543 117649 (by omega) (by omega) (by omega) (by omega)
   rw [if_pos g,l01Power_eq p lv hp (by omega) (by omega) k (by omega)]
   simp only [Option.bind_some]
   rw [w64 (n:=a*pw p dn) (by omega) (by omega),w64 (n:=a*pw p dn*pw p lv) (by omega) (by omega),w64 (n:=top+a*pw p dn*pw p lv) (by omega) (by omega),w64 (n:=lv+1) (by omega) (by omega)]
   rw [l01Of_eq hp (by omega) (by omega) (by omega) k hk,lOf_eq_ballAt hp (by omega),show PM.ballAt p (top+a*pw p dn*pw p lv) (pw p dn) (lv+1)=_ from PM.child_hi hp h a (lv+1) g]
   rfl
  ·
   have hl:=pw_bd6 p (-lv) hp (by omega)
   rw [if_neg g,w64 (n:=-lv) (by omega) (by omega),l01Power_eq p (-lv) hp (by omega) (by omega) k (by omega)]
   simp only [Option.bind_some]
   rw [if_neg (by omega),if_neg (by omega)]
   obtain ⟨e,f,d,hd,he,hf,e0,e1,f0,f1⟩:∃ e f d:Int,d=mx (pw p dn) (pw p (-lv))∧d=pw p dn*e∧d=pw p (-lv)*f∧0≤e∧e≤117649∧0≤f∧f≤117649:=by
    rw [mx_max]
    rcases Int.le_total dn (-lv) with y|y
    ·
     have:=pw_le hp y
     obtain ⟨z,hz⟩:=pw_dvd (p:=p) y
     have z0:0≤z:=by
      rcases Int.lt_or_le z 0 with w|w
      ·
       have:=Int.mul_neg_of_pos_of_neg (show 0<pw p dn by omega) w;omega
      ·
       exact w
     have z1:z≤pw p dn*z:=by
      have:=Int.mul_le_mul_of_nonneg_right (show 1≤pw p dn by omega) z0;omega
     exact ⟨z,1,pw p (-lv),by omega,hz,by omega,z0,by omega,by omega,by omega⟩
    ·
     have:=pw_le hp y
     obtain ⟨z,hz⟩:=pw_dvd (p:=p) y
     have z0:0≤z:=by
      rcases Int.lt_or_le z 0 with w|w
      ·
       have:=Int.mul_neg_of_pos_of_neg (show 0<pw p (-lv) by omega) w;omega
      ·
       exact w
     have z1:z≤pw p (-lv)*z:=by
      have:=Int.mul_le_mul_of_nonneg_right (show 1≤pw p (-lv) by omega) z0;omega
     exact ⟨1,z,pw p dn,by omega,by omega,hz,by omega,by omega,z0,by omega⟩
   rw [← hd]
   have hdp:0<d∧d≤117649:=by rw [hd,mx_max];omega
   have q1:d.tdiv (pw p dn)=e:=by rw [he];exact Int.mul_tdiv_cancel_left _ (by omega)
   have q2:d.tdiv (pw p (-lv))=f:=by rw [hf];exact Int.mul_tdiv_cancel_left _ (by omega)
   have m1:=mul_bd2 (a:=top) (b:=e) 13841287201 117649 (by omega) (by omega) (by omega) (by omega)
   have m2:=mul_bd2 (a:=a) (b:=f) 7 117649 (by omega) (by omega) (by omega) (by omega)
   rw [q1,q2,w64 (n:=e) (by omega) (by omega),w64 (n:=f) (by omega) (by omega),w64 (n:=top*e) (by omega) (by omega),w64 (n:=a*f) (by omega) (by omega),w64 (n:=top*e+a*f) (by omega) (by omega),w64 (n:=lv+1) (by omega) (by omega)]
   rw [l01Of_eq hp (by omega) (by omega) (by omega) k hk,lOf_eq_ballAt hp (by omega),show PM.ballAt p (top*e+a*f) d (lv+1)=_ from PM.child_lo hp h a (lv+1) d e f (show -6≤lv by omega) (show lv<0 by omega) he hf (by omega)]
   rfl

theorem rdB2 (l:List S25) (i:Nat) (h:i<l.length):rd_T25 l (i:Int)=l[i]'h:=by
 simp [rd_T25,h]
theorem rdB3 (l:List S25) (i:Nat) (x:S25) (h:l[i]?=some x):rd_T25 l (i:Int)=x:=by
 obtain ⟨hi,e⟩:=List.getElem?_eq_some_iff.mp h
 rw [rdB2 l i hi];exact e

theorem about_ok {p l x:Int} {b:PM.Ball} (hp:Pr p) (h:PM.about p l x=some b):PM.Ok p b∧b.lv=l∧PM.inLv l∧PM.mark p b=x % pw p (l+6):=by
 unfold PM.about at h
 by_cases hl:PM.inLv l
 ·
  rw [if_pos hl] at h
  obtain rfl:=Option.some.inj h
  have hl':=hl
  unfold PM.inLv at hl'
  have hq:=pw_pos2 hp (l+6)
  obtain ⟨o1,o2⟩:=PM.ok_mk hp hl'.1 hl'.2 (Int.emod_nonneg x (b:=pw p (l+6)) (by omega)) (Int.emod_lt_of_pos x hq)
  exact ⟨o1,rfl,hl,o2⟩
 ·
  rw [if_neg hl] at h;cases h
theorem brV_bd {p lv x n d:Int} (hp:Pr p):0≤brV p lv x n d∧brV p lv x n d≤p:=by
 have hpp:=hp.pos
 unfold brV
 by_cases c:d=0∨PM.turn p lv x n d<lv
 ·
  rw [if_pos c];omega
 ·
  rw [if_neg c]
  obtain ⟨a,b⟩:=emb (PM.dv p x n d / pw p (lv+6+vl p d)*inv (un p d) p) p (by omega)
  omega
/-- the next ball by a number: 0 for the parent -/
def nb (p:Int) (b:PM.Ball) (k:Int):Option PM.Ball:=if k=0 then PM.about p (b.lv - 1) (PM.mark p b) else PM.about p (b.lv+1) (PM.mark p b+(k - 1)*pw p (b.lv+6))
theorem nb_ok {p k:Int} {b c:PM.Ball} (hp:Pr p) (h:nb p b k=some c):PM.Ok p c:=by
 unfold nb at h
 by_cases z:k=0
 ·
  rw [if_pos z] at h;exact (about_ok hp h).1
 ·
  rw [if_neg z] at h;exact (about_ok hp h).1

theorem neighbour_eq {p lv top dn i:Int} (hp:Pr p) (h:PM.Ok p ⟨lv,top,dn⟩) (hi:0≤i∧i≤8):∀ k,70≤k→impl_neighbour.f k p lv top dn i=some (enc (nb p ⟨lv,top,dn⟩ i)):=by
 intro k hk
 unfold impl_neighbour.f nb
 by_cases z:i=0
 ·
  rw [if_pos z,if_pos z,up_eq hp h k hk];rfl
 ·
  rw [if_neg z,if_neg z,w64 (n:=i - 1) (by omega) (by omega),down_eq hp h (by omega) k hk];rfl

def nxt (p n d:Int) (b:PM.Ball):Option PM.Ball:=nb p b (brV p b.lv (PM.mark p b) n d)
theorem l05Next_eq {p lv top dn n d:Int} (hp:Pr p) (h:PM.Ok p ⟨lv,top,dn⟩) (he:isE n d):∀ k,13841287300≤k→spec_l05Next.f k p lv top dn n d=some (enc (nxt p n d ⟨lv,top,dn⟩)):=by
 intro k hk
 have hb:=brV_bd hp (lv:=lv) (x:=PM.mark p ⟨lv,top,dn⟩) (n:=n) (d:=d)
 have hpl:=hp.le
 unfold spec_l05Next.f nxt nb
 rw [l05Branch_eq hp h he k (by omega)]
 simp only [Option.bind_some]
 by_cases z:brV p lv (PM.mark p ⟨lv,top,dn⟩) n d=0
 ·
  rw [if_neg (by omega),if_pos z,specUp_eq hp h k hk];rfl
 ·
  rw [if_pos (by omega),if_neg z,w64 (n:=brV p lv (PM.mark p ⟨lv,top,dn⟩) n d - 1) (by omega) (by omega),specDown_eq hp h (by omega) k hk];rfl
def S (b:PM.Ball):S25:=⟨b.lv,b.top,b.dn⟩
def rayF (p n d:Int):Nat→PM.Ball→List S25→List S25 × Int
 | 0,_,acc=>(acc,0)
 | j+1,b,acc=>match nxt p n d b with
  | none=>([],3)
  | some c=>rayF p n d j c (acc ++ [S c])
theorem rayF_len (p n d:Int):∀ (j:Nat) (b:PM.Ball) (acc:List S25),(rayF p n d j b acc).1.length≤acc.length+j:=by
 intro j
 induction j with
 | zero=>intro b acc;simp [rayF]
 | succ j ih=>
  intro b acc
  unfold rayF
  cases nxt p n d b with
  | none=>simp
  | some c=>have:=ih c (acc ++ [S c]);simp at this ⊢;omega

theorem ray_spec {p n d:Int} (hp:Pr p) (he:isE n d):∀ (j:Nat) (b:PM.Ball) (acc:List S25) (k:Nat),PM.Ok p b→acc.length+j≤100000→0<acc.length→acc[acc.length - 1]?=some (S b)→j≤1000→13841287300+j<k→spec_RayOf.l0 k p j acc n d=some (rayF p n d j b acc):=by
 intro j
 induction j with
 | zero=>
  intro b acc k hb h1 h0 h2 h3 h4
  obtain ⟨k,rfl⟩:∃ m,k=m+1:=⟨k - 1,by omega⟩
  simp only [spec_RayOf.l0,rayF]
  rw [if_neg (by omega)]
 | succ j ih=>
  intro b acc k hb h1 h0 h2 h3 h4
  obtain ⟨k,rfl⟩:∃ m,k=m+1:=⟨k - 1,by omega⟩
  simp only [spec_RayOf.l0,rayF]
  have e:wrap64 ((acc.length:Int) - 1)=((acc.length - 1:Nat):Int):=by rw [w64 (by omega) (by omega)];omega
  rw [if_pos (by omega),e,if_pos (by omega),if_pos (by omega),rdB3 acc _ _ h2]
  simp only [S]
  rw [l05Next_eq hp hb he k (by omega)]
  simp only [Option.bind_some]
  cases hn:nxt p n d b with
  | none=>simp [enc,hn]
  | some c=>
   simp only [enc,if_true]
   rw [if_pos (by omega),w64 (n:=((j+1:Nat):Int) - 1) (by omega) (by omega),show ((j+1:Nat):Int) - 1=(j:Int) by omega]
   exact ih c (acc ++ [S c]) k (nb_ok hp hn) (by simp;omega) (by simp) (by simp) (by omega) (by omega)
theorem ray_impl {p n d:Int} (hp:Pr p) (he:isE n d) (N:Nat) (hN:N≤1000):∀ (j:Nat) (b:PM.Ball) (acc:List S25) (i:Int) (k:Nat),PM.Ok p b→acc.length+j≤100000→i+j=N→0≤i→100+j<k→impl_RayOf.l0 k p acc N i b.lv b.top b.dn n d=some (rayF p n d j b acc):=by
 intro j
 induction j with
 | zero=>
  intro b acc i k hb h1 h0 h2 h4
  obtain ⟨k,rfl⟩:∃ m,k=m+1:=⟨k - 1,by omega⟩
  simp only [impl_RayOf.l0,rayF]
  rw [if_neg (by omega)]
 | succ j ih=>
  intro b acc i k hb h1 h0 h2 h4
  obtain ⟨k,rfl⟩:∃ m,k=m+1:=⟨k - 1,by omega⟩
  simp only [impl_RayOf.l0,rayF]
  have hv:=brV_bd hp (lv:=b.lv) (x:=PM.mark p b) (n:=n) (d:=d)
  have hpl:=hp.le
  rw [if_pos (by omega),branch_eq hp hb he k (by omega)]
  simp only [Option.bind_some]
  rw [neighbour_eq hp hb (show 0≤brV p b.lv (PM.mark p ⟨b.lv,b.top,b.dn⟩) n d∧brV p b.lv (PM.mark p ⟨b.lv,b.top,b.dn⟩) n d≤8 from ⟨hv.1,Int.le_trans hv.2 (by omega)⟩) k (by omega)]
  simp only [Option.bind_some]
  rw [show nb p ⟨b.lv,b.top,b.dn⟩ (brV p b.lv (PM.mark p ⟨b.lv,b.top,b.dn⟩) n d)=nxt p n d b from rfl]
  cases hn:nxt p n d b with
  | none=>simp [enc]
  | some c=>
   simp only [enc,if_true]
   rw [if_pos (by omega),w64 (n:=i+1) (by omega) (by omega)]
   exact ih c (acc ++ [S c]) (i+1) k (nb_ok hp hn) (by simp;omega) (by omega) (by omega) (by omega)

/-- the end of a fraction, and whether it fits -/
def endF (n d:Int):Int × Int × Bool:=if d=0 then (1,0,true) else
 (n.tdiv ((Int.gcd n d:Int)*(if d<0 then -1 else 1)),d.tdiv ((Int.gcd n d:Int)*(if d<0 then -1 else 1)),decide (isE (n.tdiv ((Int.gcd n d:Int)*(if d<0 then -1 else 1))) (d.tdiv ((Int.gcd n d:Int)*(if d<0 then -1 else 1)))))
theorem end_low {n d:Int} (hd:d≠0):isE (n.tdiv ((Int.gcd n d:Int)*(if d<0 then -1 else 1))) (d.tdiv ((Int.gcd n d:Int)*(if d<0 then -1 else 1)))↔
  (d.tdiv ((Int.gcd n d:Int)*(if d<0 then -1 else 1))≤1000000∧(n.tdiv ((Int.gcd n d:Int)*(if d<0 then -1 else 1))).natAbs≤1000000):=by
 have g0:0<Int.gcd n d:=by
  rcases Nat.eq_zero_or_pos (Int.gcd n d) with h|h
  ·
   exact absurd (Int.gcd_eq_zero_iff.mp h).2 hd
  ·
   exact h
 have dn:(Int.gcd n d:Int) ∣ n:=Int.gcd_dvd_left ..
 have dd:(Int.gcd n d:Int) ∣ d:=Int.gcd_dvd_right ..
 have hg:=Int.gcd_ediv_gcd_ediv_gcd (i:=n) (j:=d) g0
 generalize hG:Int.gcd n d=G at *
 have en:n.tdiv (G:Int)=n / G:=Int.tdiv_eq_ediv_of_dvd dn
 have ed:d.tdiv (G:Int)=d / G:=Int.tdiv_eq_ediv_of_dvd dd
 have key:∀ s:Int,(s=1∨s = -1)→s*d>0→(isE (n.tdiv ((G:Int)*s)) (d.tdiv ((G:Int)*s))↔(d.tdiv ((G:Int)*s)≤1000000∧(n.tdiv ((G:Int)*s)).natAbs≤1000000)):=by
  intro s hs hp
  rw [PM.tdiv_sg n _ s hs,PM.tdiv_sg d _ s hs,en,ed]
  have e3:G*(d / G)=d:=Int.mul_ediv_cancel' dd
  have hpos:1≤d / G*s:=by
   refine Decidable.byContradiction fun h=>?_
   have h2:d / G*s≤0:=by omega
   have h3:(G:Int)*(d / G*s)≤0:=Int.mul_nonpos_of_nonneg_of_nonpos (by omega) h2
   rw [← Int.mul_assoc,e3,Int.mul_comm] at h3
   omega
  have hgs:Int.gcd (n / G*s) (d / G*s)=1:=by
   rcases hs with rfl|rfl
   ·
    simpa using hg
   ·
    simpa using hg
  unfold isE
  constructor
  ·
   rintro (h|h)
   ·
    omega
   ·
    omega
  ·
   rintro ⟨h1,h2⟩
   exact Or.inr ⟨hpos,h1,by omega,by omega,hgs⟩
 by_cases h:d<0
 ·
  rw [if_pos h];exact key (-1) (Or.inr rfl) (by omega)
 ·
  rw [if_neg h];exact key 1 (Or.inl rfl) (by omega)
theorem endF_pre {n d:Int} (hd:d≠0) (hn:n.natAbs≤4611686018427387904) (hdb:d.natAbs≤4611686018427387904) :
  (if d<0 then wrap64 (-(Int.gcd n d:Int)) else (Int.gcd n d:Int))=(Int.gcd n d:Int)*(if d<0 then -1 else 1)∧(Int.gcd n d:Int)*(if d<0 then -1 else 1)≠0∧(∀ x:Int,x.natAbs≤4611686018427387904→wrap64 (x.tdiv ((Int.gcd n d:Int)*(if d<0 then -1 else 1)))=x.tdiv ((Int.gcd n d:Int)*(if d<0 then -1 else 1))):=by
 have g0:0<Int.gcd n d:=by
  rcases Nat.eq_zero_or_pos (Int.gcd n d) with h|h
  ·
   exact absurd (Int.gcd_eq_zero_iff.mp h).2 hd
  ·
   exact h
 have g1:Int.gcd n d≤d.natAbs:=by rw [Int.gcd_comm];exact Nat.le_of_dvd (by omega) (Nat.gcd_dvd_left _ _)
 refine ⟨?_,?_,fun x hx=>?_⟩
 ·
  by_cases h:d<0
  ·
   rw [if_pos h,if_pos h,w64 (by omega) (by omega)];omega
  ·
   rw [if_neg h,if_neg h];omega
 ·
  by_cases h:d<0
  ·
   rw [if_pos h];omega
  ·
   rw [if_neg h];omega
 ·
  have:=PM.tdiv_abs_le x ((Int.gcd n d:Int)*(if d<0 then -1 else 1))
  exact w64 (by omega) (by omega)

theorem l01EndOf_eq {n d:Int} (hn:n.natAbs≤4611686018427387904) (hdb:d.natAbs≤4611686018427387904):∃ K,∀ k,K≤k→spec_l01EndOf.f k n d=some (endF n d):=by
 by_cases z:d=0
 ·
  refine ⟨0,fun k _=>?_⟩
  unfold spec_l01EndOf.f endF
  rw [if_pos z,if_pos z]
 ·
  obtain ⟨K1,h1⟩:=l01Gcd_eq n d (by omega) (by omega)
  obtain ⟨q1,q2,q3⟩:=endF_pre z hn hdb
  have hl:=end_low (n:=n) z
  refine ⟨K1,fun k hk=>?_⟩
  unfold spec_l01EndOf.f endF
  rw [if_neg z,if_neg z,h1 k (by omega)]
  simp only [Option.bind_some]
  have q3n:=q3 n hn
  have q3d:=q3 d hdb
  have b1:=PM.tdiv_abs_le n ((Int.gcd n d:Int)*(if d<0 then -1 else 1))
  by_cases h:d<0
  ·
   simp only [if_pos h] at *
   rw [q1,if_neg q2,q3n,q3d,mx_neg _ (by omega)]
   by_cases c:d.tdiv ((Int.gcd n d:Int) * -1)≤1000000
   ·
    rw [if_pos c]
    congr 3
    rw [Bool.eq_iff_iff];simp only [decide_eq_true_eq];rw [hl];omega
   ·
    rw [if_neg c,decide_eq_false (fun y=>c (hl.mp y).1)]
  ·
   simp only [if_neg h,Int.mul_one] at *
   rw [if_neg q2,q3n,q3d,mx_neg _ (by omega)]
   by_cases c:d.tdiv (Int.gcd n d:Int)≤1000000
   ·
    rw [if_pos c]
    congr 3
    rw [Bool.eq_iff_iff];simp only [decide_eq_true_eq];rw [hl];omega
   ·
    rw [if_neg c,decide_eq_false (fun y=>c (hl.mp y).1)]

theorem joinLevel_eq {p l1 t1 d1 l2 t2 d2:Int} (hp:Pr p) (hb:PM.Ok p ⟨l1,t1,d1⟩) (hc:PM.Ok p ⟨l2,t2,d2⟩):∀ k,100≤k→impl_joinLevel.f k p l1 t1 d1 l2 t2 d2=some (PM.jl p ⟨l1,t1,d1⟩ ⟨l2,t2,d2⟩):=by
 intro k hk
 obtain ⟨m0,m1⟩:=PM.mark_bd hp hb
 obtain ⟨m2,m3⟩:=PM.mark_bd hp hc
 have b1:=pw_bd12 p (l1+6) hp (by have:=hb.2.1;simp only at this;omega)
 have b2:=pw_bd12 p (l2+6) hp (by have:=hc.2.1;simp only at this;omega)
 simp only at m1 m3
 unfold impl_joinLevel.f
 rw [mark_eq hp hb k (by omega),mark_eq hp hc k (by omega)]
 simp only [Option.bind_some]
 rw [w64 (n:=PM.mark p ⟨l1,t1,d1⟩ - PM.mark p ⟨l2,t2,d2⟩) (by omega) (by omega),valuation_eq p _ hp (by omega) k (by omega)]
 simp only [Option.bind_some,mn_min]
 have hz:=PM.vz_nonneg p (PM.mark p ⟨l1,t1,d1⟩ - PM.mark p ⟨l2,t2,d2⟩)
 have hz2:vz p (PM.mark p ⟨l1,t1,d1⟩ - PM.mark p ⟨l2,t2,d2⟩)≤1000:=by
  unfold vz
  by_cases z:PM.mark p ⟨l1,t1,d1⟩ - PM.mark p ⟨l2,t2,d2⟩=0
  ·
   rw [if_pos z];omega
  ·
   rw [if_neg z];have:=vl_le63 hp z (by omega);omega
 rw [w64 (by omega) (by omega)]
 rfl
theorem distance_fin {p:Int} {b c:PM.Ball} (hb:PM.Ok p b) (hc:PM.Ok p c):wrap64 (wrap64 (b.lv+c.lv) - wrap64 (2*PM.jl p b c))=PM.dist p b c:=by
 obtain ⟨j1,j2,j3⟩:=PM.jl_bd p hb hc
 have h1:=hb.2.1
 have h2:=hc.2.1
 have h3:=hb.1
 have h4:=hc.1
 rw [w64 (n:=b.lv+c.lv) (by omega) (by omega),w64 (n:=2*PM.jl p b c) (by omega) (by omega),w64 (by omega) (by omega)]
 rfl

theorem distance_eq {p l1 t1 d1 l2 t2 d2:Int} (hp:Pr p) (hb:PM.Ok p ⟨l1,t1,d1⟩) (hc:PM.Ok p ⟨l2,t2,d2⟩):∀ k,100≤k→impl_distance.f k p l1 t1 d1 l2 t2 d2=some (PM.dist p ⟨l1,t1,d1⟩ ⟨l2,t2,d2⟩):=by
 intro k hk
 unfold impl_distance.f
 rw [joinLevel_eq hp hb hc k hk]
 simp only [Option.bind_some]
 exact congrArg some (distance_fin hb hc)

theorem prime_dec (p:Int):spec_l01Prime.f p=some (decide (Pr p)):=by
 rcases prime_cases p with ⟨h,h2⟩|⟨h,h2⟩
 ·
  rw [h,decide_eq_true (show Pr p from h2)]
 ·
  rw [h,decide_eq_false (show ¬ Pr p from h2)]
def Byt (l:List Int):Prop:=∀ x,x ∈ l→0≤x∧x≤255
theorem rd_byte {l:List Int} (hb:Byt l) {i:Int} (h0:0≤i) (h1:i<(l.length:Int)):0≤rd l i∧rd l i≤255:=by
 obtain ⟨n,rfl⟩:=Int.eq_ofNat_of_zero_le h0
 have hn:n<l.length:=by omega
 have h2:=rd_nat l n hn
 rw [List.getElem?_eq_getElem hn] at h2
 rw [← Option.some.inj h2]
 exact hb _ (List.getElem_mem _)
theorem and_bd {x:Int} (h0:0≤x) (h1:x<18446744073709551616):0≤Go.bits .and .u64 x 17179869183∧Go.bits .and .u64 x 17179869183≤17179869183:=by
 obtain ⟨n,rfl⟩:=Int.eq_ofNat_of_zero_le h0
 have h:=Go.bits_and_u64_nat n 17179869183 (by omega) (by omega)
 have e:((17179869183:Nat):Int)=17179869183:=rfl
 rw [e] at h
 rw [h]
 have:=Nat.and_le_right (n:=n) (m:=17179869183)
 omega
theorem u64_bd (n:Int):0≤IntKind.u64.wrap n / 8388608∧IntKind.u64.wrap n / 8388608<18446744073709551616:=by
 rw [IntKind.wrap_u64];omega
theorem tmod_bd {x n:Int} (h0:0≤x) (h1:1≤n):0≤Int.tmod x n∧Int.tmod x n<n:=by
 rw [Int.tmod_eq_emod_of_nonneg h0]
 exact ⟨Int.emod_nonneg _ (by omega),Int.emod_lt_of_pos _ (by omega)⟩
theorem next_ok {l:List Int} (hb:Byt l) (hl:l.length≤4096) {t:Int} (h n:Int) (ht:0≤t):∃ r t' h',spec_l01Next.f l t h n=some (r,t',h')∧0≤t'∧(n<1→r=0)∧(1≤n→0≤r∧r<n):=by
 unfold spec_l01Next.f
 by_cases c:n<1
 ·
  rw [if_pos c];exact ⟨_,_,_,rfl,ht,fun _=>rfl,fun z=>by omega⟩
 ·
  rw [if_neg c]
  have hu:=u64_bd (IntKind.u64.wrap (h*6364136223846793005)+1442695040888963407)
  have ha:=and_bd hu.1 hu.2
  by_cases d:t<(l.length:Int)
  ·
   have hr:=rd_byte hb ht d
   rw [if_pos d,if_pos ht,if_neg (by omega)]
   refine ⟨_,_,_,rfl,by rw [w64 (n:=t+1) (by omega) (by omega)];omega,fun z=>by omega,fun z=>?_⟩
   refine tmod_bd ?_ z
   rw [w64 (n:=Go.bits .and .u64 _ 17179869183) (by omega) (by omega),w64 (n:=rd l t) (by omega) (by omega),w64 (by omega) (by omega)]
   omega
  ·
   rw [if_neg d,if_neg (by omega)]
   refine ⟨_,_,_,rfl,ht,fun z=>by omega,fun z=>?_⟩
   refine tmod_bd ?_ z
   rw [w64 (n:=Go.bits .and .u64 _ 17179869183) (by omega) (by omega)]
   omega
theorem from_ok (l:List Int) (hl:l.length≤4096):∃ h,∀ k,l.length+1≤k→spec_l01From.f k l=some (l,0,h):=by
 have go:∀ (d i:Nat) (x:Int),i+d=l.length→∃ h,∀ k,d+1≤k→spec_l01From.l0 k l (i:Int) l 0 x=some (l,0,h):=by
  intro d
  induction d with
  | zero=>
   intro i x hi
   refine ⟨x,fun k hk=>?_⟩
   obtain ⟨k,rfl⟩:∃ m,k=m+1:=⟨k - 1,by omega⟩
   simp only [spec_l01From.l0]
   rw [if_neg (by omega)]
  | succ d ih=>
   intro i x hi
   obtain ⟨h,e⟩:=ih (i+1) (IntKind.u64.wrap ((IntKind.u64.wrap ((IntKind.u64.wrap (x*1099511628211))+(IntKind.u64.wrap (rd l (i:Int)))))+71)) (by omega)
   refine ⟨h,fun k hk=>?_⟩
   obtain ⟨k,rfl⟩:∃ m,k=m+1:=⟨k - 1,by omega⟩
   simp only [spec_l01From.l0]
   rw [if_pos (by omega),if_pos (by omega),if_pos (by omega),w64 (n:=(i:Int)+1) (by omega) (by omega),show (i:Int)+1=((i+1:Nat):Int) by omega]
   exact e k (by omega)
 obtain ⟨h,e⟩:=go l.length 0 (IntKind.u64.wrap (12527+(IntKind.u64.wrap ((l.length:Int))))) (by omega)
 exact ⟨h,fun k hk=>e k (by omega)⟩

theorem rd_mem (q:List Int) {r:Int} (h0:0≤r) (h1:r<(q.length:Int)):rd q r ∈ q:=by
 obtain ⟨n,rfl⟩:=Int.eq_ofNat_of_zero_le h0
 have hn:n<q.length:=by omega
 have h2:=rd_nat q n hn
 rw [List.getElem?_eq_getElem hn] at h2
 rw [← Option.some.inj h2]
 exact List.getElem_mem _
theorem pick_in {l:List Int} (hb:Byt l) (hl:l.length≤4096) {t:Int} (h:Int) (ht:0≤t) (q:List Int) (hq:1≤q.length):∃ r t' h',spec_l01Pick.f l t h q=some (r,t',h')∧0≤t'∧r ∈ q:=by
 obtain ⟨r,t',h',e,ht',_,hr⟩:=next_ok hb hl h (q.length:Int) ht
 have:=hr (by omega)
 unfold spec_l01Pick.f
 rw [e]
 simp only [Option.bind_some]
 rw [if_pos (by omega),if_pos (by omega)]
 exact ⟨_,_,_,rfl,ht',rd_mem q this.1 this.2⟩
theorem prime_ok {l:List Int} (hb:Byt l) (hl:l.length≤4096) {t:Int} (h:Int) (ht:0≤t):∃ p t' h',spec_l01DrawPrime.f l t h=some (p,t',h')∧0≤t'∧Pr p:=by
 obtain ⟨r,t',h',e,ht',hr⟩:=pick_in hb hl h ht [2,2,3,3,5,7] (by simp)
 unfold spec_l01DrawPrime.f
 rw [e]
 refine ⟨r,t',h',rfl,ht',?_⟩
 simp at hr
 unfold Pr;omega

theorem draw_ok {l:List Int} (hb:Byt l) (hl:l.length≤4096) {t p:Int} (hp:Pr p) (h:Int) (ht:0≤t):∃ b1 b2 b3 t' h',(∀ k,13841287400≤k→spec_l01Draw.f k l t h p=some (b1,b2,b3,t',h'))∧0≤t':=by
 obtain ⟨r1,t1,h1,e1,ht1,_,_⟩:=next_ok hb hl h 13 ht
 obtain ⟨r2,t2,h2,e2,ht2,_⟩:=pick_in hb hl h1 ht1 [0,1,2,3,wrap64 (r1 - 6)] (by simp)
 obtain ⟨r3,t3,h3,e3,ht3,_,_⟩:=next_ok hb hl h2 6 ht2
 obtain ⟨r4,t4,h4,e4,ht4,_,c4⟩:=next_ok hb hl h3 20 ht3
 obtain ⟨r5,t5,h5,e5,ht5,_,c5⟩:=next_ok hb hl h4 2000000 ht4
 obtain ⟨r6,t6,h6,e6,ht6,c6⟩:=pick_in hb hl h5 ht5 [wrap64 (r4 - 10),wrap64 (r5 - 1000000)] (by simp)
 obtain ⟨r7,t7,h7,e7,ht7,_,c7⟩:=next_ok hb hl h6 7 ht6
 obtain ⟨r8,t8,h8,e8,ht8,c8⟩:=pick_in hb hl h7 ht7 [0,0,1,2,r7] (by simp)
 have c4:=c4 (by omega)
 have c5:=c5 (by omega)
 have c7:=c7 (by omega)
 rw [w64 (n:=r4 - 10) (by omega) (by omega),w64 (n:=r5 - 1000000) (by omega) (by omega)] at e6
 have b6 : -1000000≤r6∧r6≤1000000:=by
  rw [w64 (n:=r4 - 10) (by omega) (by omega),w64 (n:=r5 - 1000000) (by omega) (by omega)] at c6
  simp at c6;omega
 have b8:0≤r8∧r8≤6:=by simp at c8;omega
 by_cases z:r3=0
 ·
  refine ⟨r2,0,0,t3,h3,fun k hk=>?_,ht3⟩
  unfold spec_l01Draw.f
  rw [e1];simp only [Option.bind_some];rw [e2];simp only [Option.bind_some];rw [e3];simp only [Option.bind_some];rw [if_pos z]
 ·
  have hq:=pw_pos2 hp r8
  have hq2:pw p r8≤117649:=by
   have:=pw_le hp b8.2
   have h6:pw p 6≤117649:=by unfold Pr at hp;rcases hp with rfl|rfl|rfl|rfl <;> decide
   omega
  obtain ⟨o,ho⟩:∃ o,enc (PM.lOf p r6 (pw p r8) r2)=o:=⟨_,rfl⟩
  refine ⟨if o.2.2.2=true then o.1 else r2,if o.2.2.2=true then o.2.1 else 0,if o.2.2.2=true then o.2.2.1 else 0,t8,h8,fun k hk=>?_,ht8⟩
  unfold spec_l01Draw.f
  rw [e1];simp only [Option.bind_some];rw [e2];simp only [Option.bind_some];rw [e3];simp only [Option.bind_some];rw [if_neg z,e4];simp only [Option.bind_some];rw [e5];simp only [Option.bind_some]
  rw [w64 (n:=r4 - 10) (by omega) (by omega),w64 (n:=r5 - 1000000) (by omega) (by omega),e6];simp only [Option.bind_some];rw [e7];simp only [Option.bind_some];rw [e8];simp only [Option.bind_some]
  rw [l01Power_eq p r8 hp (by omega) (by omega) k (by omega)];simp only [Option.bind_some]
  rw [l01Of_eq hp (by omega) (by omega) (by omega) k (by omega),ho];simp only [Option.bind_some]
  by_cases q:o.2.2.2=true
  ·
   rw [if_pos q,if_pos q,if_pos q,if_pos q]
  ·
   rw [if_neg q,if_neg q,if_neg q,if_neg q]
theorem bad_ok {l:List Int} (hb:Byt l) (hl:l.length≤4096) {t:Int} (h:Int) (ht:0≤t) (a1 a2 a3:Int):∃ b1 b2 b3 t' h',spec_l01Bad.f l t h a1 a2 a3=some (b1,b2,b3,t',h')∧0≤t':=by
 obtain ⟨r1,t1,h1,e1,ht1,_,_⟩:=next_ok hb hl h 40 ht
 obtain ⟨r2,t2,h2,e2,ht2,_⟩:=pick_in hb hl h1 ht1 [(-7),7,wrap64 (a1 - 1),1099511627776] (by simp)
 obtain ⟨r3,t3,h3,e3,ht3,_⟩:=pick_in hb hl h1 ht1 [(-1),wrap64 (a2*7),1099511627776] (by simp)
 obtain ⟨r4,t4,h4,e4,ht4,_⟩:=pick_in hb hl h1 ht1 [(-1),wrap64 (a3+1),7] (by simp)
 unfold spec_l01Bad.f
 rw [e1];simp only [Option.bind_some]
 by_cases z0:r1=0
 ·
  rw [if_pos z0,e2];exact ⟨_,_,_,_,_,rfl,ht2⟩
 rw [if_neg z0]
 by_cases z1:r1=1
 ·
  rw [if_pos z1,e3];exact ⟨_,_,_,_,_,rfl,ht3⟩
 rw [if_neg z1]
 by_cases z2:r1=2
 ·
  rw [if_pos z2,e4];exact ⟨_,_,_,_,_,rfl,ht4⟩
 ·
  rw [if_neg z2];exact ⟨_,_,_,_,_,rfl,ht1⟩
theorem spoil_ok {l:List Int} (hb:Byt l) (hl:l.length≤4096) {t:Int} (h:Int) (ht:0≤t):∃ p b1 b2 b3 t' h',(∀ k,13841287400≤k→spec_l01Spoil.f k l t h=some (p,b1,b2,b3,t',h'))∧0≤t':=by
 obtain ⟨p,t1,h1,e1,ht1,hp⟩:=prime_ok hb hl h ht
 obtain ⟨a1,a2,a3,t2,h2,e2,ht2⟩:=draw_ok hb hl hp h1 ht1
 obtain ⟨b1,b2,b3,t3,h3,e3,ht3⟩:=bad_ok hb hl h2 ht2 a1 a2 a3
 obtain ⟨r,t4,h4,e4,ht4,_,_⟩:=next_ok hb hl h3 40 ht3
 obtain ⟨q,t5,h5,e5,ht5,_⟩:=pick_in hb hl h4 ht4 [0,1,4,11,(-3)] (by simp)
 have key:∀ k,13841287400≤k→spec_l01Spoil.f k l t h=(if r=0 then some (q,b1,b2,b3,t5,h5) else some (p,b1,b2,b3,t4,h4)):=fun k hk=>by
  unfold spec_l01Spoil.f
  rw [e1];simp only [Option.bind_some];rw [e2 k hk];simp only [Option.bind_some];rw [e3];simp only [Option.bind_some];rw [e4];simp only [Option.bind_some];rw [e5];simp only [Option.bind_some]
 by_cases z:r=0
 ·
  exact ⟨q,b1,b2,b3,t5,h5,fun k hk=>by rw [key k hk,if_pos z],ht5⟩
 ·
  exact ⟨p,b1,b2,b3,t4,h4,fun k hk=>by rw [key k hk,if_neg z],ht4⟩

theorem pr2:Pr 2:=Or.inl rfl
theorem pr3:Pr 3:=Or.inr (Or.inl rfl)
theorem drawEnd_ok {l:List Int} (hb:Byt l) (hl:l.length≤4096) {t:Int} (h:Int) (ht:0≤t):∃ K n d t' h',(∀ k,K≤k→spec_l01DrawEnd.f k l t h=some (n,d,t',h'))∧0≤t':=by
 obtain ⟨r0,t0,h0,e0,ht0,_,_⟩:=next_ok hb hl h 30 ht
 have key:∀ c:Bool,∃ K n d t' h',(∀ k,K≤k→spec_l01DrawEnd.j0 k r0 c l t0 h0=some (n,d,t',h'))∧0≤t':=by
  intro c
  by_cases c1:c=true
  ·
   refine ⟨1,1,0,t0,h0,fun k hk=>?_,ht0⟩
   obtain ⟨k,rfl⟩:∃ m,k=m+1:=⟨k - 1,by omega⟩
   simp only [spec_l01DrawEnd.j0];rw [if_pos c1]
  by_cases c2:r0=2
  ·
   obtain ⟨a,t1,h1,e1,ht1,_⟩:=pick_in hb hl h0 ht0 [2,0,1000001] (by simp)
   obtain ⟨b,t2,h2,e2,ht2,_⟩:=pick_in hb hl h1 ht1 [0,4,(-1)] (by simp)
   refine ⟨1,a,b,t2,h2,fun k hk=>?_,ht2⟩
   obtain ⟨k,rfl⟩:∃ m,k=m+1:=⟨k - 1,by omega⟩
   simp only [spec_l01DrawEnd.j0];rw [if_neg c1,if_pos c2,e1];simp only [Option.bind_some];rw [e2];rfl
  obtain ⟨r1,t1,h1,e1,ht1,_,c1'⟩:=next_ok hb hl h0 20 ht0
  obtain ⟨r2,t2,h2,e2,ht2,_,c2'⟩:=next_ok hb hl h1 200 ht1
  obtain ⟨r3,t3,h3,e3,ht3,_,c3'⟩:=next_ok hb hl h2 2000001 ht2
  have c1':=c1' (by omega)
  have c2':=c2' (by omega)
  have c3':=c3' (by omega)
  obtain ⟨n,t4,h4,e4,ht4,c4⟩:=pick_in hb hl h3 ht3 [wrap64 (r1 - 10),wrap64 (r2 - 100),wrap64 (r3 - 1000000)] (by simp)
  have bn : -1000000≤n∧n≤1000001:=by
   rw [w64 (n:=r1 - 10) (by omega) (by omega),w64 (n:=r2 - 100) (by omega) (by omega),w64 (n:=r3 - 1000000) (by omega) (by omega)] at c4
   simp at c4;omega
  obtain ⟨r5,t5,h5,e5,ht5,_,c5⟩:=next_ok hb hl h4 20 ht4
  obtain ⟨r6,t6,h6,e6,ht6,_,c6⟩:=next_ok hb hl h5 8 ht5
  obtain ⟨r7,t7,h7,e7,ht7,_,c7⟩:=next_ok hb hl h6 6 ht6
  obtain ⟨r8,t8,h8,e8,ht8,_,c8⟩:=next_ok hb hl h7 1000000 ht7
  have c5:=c5 (by omega)
  have c6:=c6 (by omega)
  have c7:=c7 (by omega)
  have c8:=c8 (by omega)
  obtain ⟨d,t9,h9,e9,ht9,c9⟩:=pick_in hb hl h8 ht8 [1,1,wrap64 (1+r5),pw 2 r6,pw 3 r7,wrap64 (1+r8)] (by simp)
  have bd:d.natAbs≤4611686018427387904:=by
   have p6:=pw_le pr2 (show r6≤7 by omega)
   have p7:=pw_le pr3 (show r7≤5 by omega)
   have q6:=pw_pos2 pr2 r6
   have q7:=pw_pos2 pr3 r7
   rw [show pw 2 7=128 by decide] at p6
   rw [show pw 3 5=243 by decide] at p7
   rw [w64 (n:=1+r5) (by omega) (by omega),w64 (n:=1+r8) (by omega) (by omega)] at c9
   simp at c9;omega
  obtain ⟨K,hK⟩:=l01EndOf_eq (n:=n) (d:=d) (by omega) bd
  refine ⟨K+40,(endF n d).1,(endF n d).2.1,t9,h9,fun k hk=>?_,ht9⟩
  obtain ⟨k,rfl⟩:∃ m,k=m+1:=⟨k - 1,by omega⟩
  simp only [spec_l01DrawEnd.j0];rw [if_neg c1,if_neg c2,e1];simp only [Option.bind_some];rw [e2];simp only [Option.bind_some];rw [e3];simp only [Option.bind_some];rw [e4];simp only [Option.bind_some];rw [e5];simp only [Option.bind_some];rw [e6];simp only [Option.bind_some]
  rw [l01Power_eq 2 r6 pr2 (by omega) (by omega) k (by omega)];simp only [Option.bind_some];rw [e7];simp only [Option.bind_some]
  rw [l01Power_eq 3 r7 pr3 (by omega) (by omega) k (by omega)];simp only [Option.bind_some];rw [e8];simp only [Option.bind_some];rw [e9];simp only [Option.bind_some]
  rw [hK k (by omega)];rfl
 obtain ⟨K1,n1,d1,t1,h1,e1,ht1⟩:=key (r0 == 0)
 obtain ⟨K2,n2,d2,t2,h2,e2,ht2⟩:=key (r0 == 1)
 by_cases z:r0=0
 ·
  refine ⟨K1,n1,d1,t1,h1,fun k hk=>?_,ht1⟩
  unfold spec_l01DrawEnd.f
  rw [e0];simp only [Option.bind_some];rw [if_pos z];exact e1 k hk
 ·
  refine ⟨K2,n2,d2,t2,h2,fun k hk=>?_,ht2⟩
  unfold spec_l01DrawEnd.f
  rw [e0];simp only [Option.bind_some];rw [if_neg z];exact e2 k hk

theorem l05End_ok {l:List Int} (hb:Byt l) (hl:l.length≤4096) {t:Int} (h:Int) (ht:0≤t) (p lv top dn:Int):∃ K n d t' h',(∀ k,K≤k→spec_l05End.f k l t h p lv top dn=some (n,d,t',h'))∧0≤t':=by
 have other:∀ {t h:Int},0≤t→∃ K n d t' h',(∀ k,K≤k→spec_l05End.j0 k p true l t h lv top dn=some (n,d,t',h'))∧0≤t':=by
  intro t h ht
  obtain ⟨K,n,d,t',h',e,ht'⟩:=drawEnd_ok hb hl h ht
  refine ⟨K+1,n,d,t',h',fun k hk=>?_,ht'⟩
  obtain ⟨k,rfl⟩:∃ m,k=m+1:=⟨k - 1,by omega⟩
  simp only [spec_l05End.j0];rw [if_pos trivial,e k (by omega)];rfl
 have last:∀ {t h N D:Int},0≤t→N.natAbs≤4611686018427387904→D.natAbs≤4611686018427387904→∃ K n d t' h',(∀ k,K≤k→spec_l05End.j1 k N D l t h=some (n,d,t',h'))∧0≤t':=by
  intro t h N D ht hN hD
  obtain ⟨K1,hK⟩:=l01EndOf_eq hN hD
  obtain ⟨K2,n,d,t',h',e,ht'⟩:=drawEnd_ok hb hl h ht
  by_cases z:(endF N D).2.2=true
  ·
   refine ⟨K1+1,(endF N D).1,(endF N D).2.1,t,h,fun k hk=>?_,ht⟩
   obtain ⟨k,rfl⟩:∃ m,k=m+1:=⟨k - 1,by omega⟩
   simp only [spec_l05End.j1];rw [hK k (by omega)];simp only [Option.bind_some];rw [if_pos z]
  ·
   refine ⟨K1+K2+1,n,d,t',h',fun k hk=>?_,ht'⟩
   obtain ⟨k,rfl⟩:∃ m,k=m+1:=⟨k - 1,by omega⟩
   simp only [spec_l05End.j1];rw [hK k (by omega)];simp only [Option.bind_some];rw [if_neg z,e k (by omega)];rfl
 by_cases c:Pr p∧PM.Ok p ⟨lv,top,dn⟩
 ·
  obtain ⟨r1,t1,h1,e1,ht1,_,_⟩:=next_ok hb hl h 3 ht
  by_cases z:r1=0
  ·
   obtain ⟨K,n,d,t',h',e,ht'⟩:=other (h:=h1) ht1
   refine ⟨K+40,n,d,t',h',fun k hk=>?_,ht'⟩
   unfold spec_l05End.f
   rw [l01Is_eq p lv top dn k (by omega),decide_eq_true c];simp only [Option.bind_some,if_true];rw [e1];simp only [Option.bind_some]
   rw [show (r1 == 0)=true by simp [z]];exact e k (by omega)
  ·
   obtain ⟨hp,ho⟩:=c
   obtain ⟨o1,o2,o3,o4,o5⟩:=ho
   have o1 : -6≤lv:=o1
   have o2:lv≤6:=o2
   have o3:0≤dn:=o3
   have o4:dn≤6:=o4
   have hpl:=hp.le
   have hpp:=hp.pos
   have bt:0≤top∧top≤13841287201:=by
    rcases o5 with ⟨_,h2,_⟩|⟨_,h2,h3,_⟩
    ·
     have h2:top=0:=h2
     omega
    ·
     have h2:0≤top:=h2
     have h3:top<pw p (lv+dn):=h3
     have:=pw_le hp (show lv+dn≤12 by omega)
     have h12:pw p 12≤13841287201:=by unfold Pr at hp;rcases hp with rfl|rfl|rfl|rfl <;> decide
     omega
   have q1:=pw_pos2 hp dn
   have q2:pw p dn≤117649:=by
    have:=pw_le hp o4
    have h6:pw p 6≤117649:=by unfold Pr at hp;rcases hp with rfl|rfl|rfl|rfl <;> decide
    omega
   obtain ⟨r2,t2,h2,e2,ht2,_,c2⟩:=next_ok hb hl h1 4 ht1
   have c2:=c2 (by omega)
   obtain ⟨r3,t3,h3,e3,ht3,_,c3⟩:=next_ok hb hl h2 p ht2
   have c3:=c3 (by omega)
   have w1:wrap64 (wrap64 (lv+r2) - 1)=lv+r2 - 1:=by
    rw [w64 (n:=lv+r2) (by omega) (by omega),w64 (by omega) (by omega)]
   by_cases g:lv+r2 - 1≥0
   ·
    have q3:=pw_pos2 hp (lv+r2 - 1)
    have q4:pw p (lv+r2 - 1)≤5764801:=by
     have:=pw_le hp (show lv+r2 - 1≤8 by omega)
     have h8:pw p 8≤5764801:=by unfold Pr at hp;rcases hp with rfl|rfl|rfl|rfl <;> decide
     omega
    have m1:=mul_bd2 (a:=r3) (b:=pw p (lv+r2 - 1)) 7 5764801 (by omega) (by omega) (by omega) (by omega)
    have m2:=mul_bd2 (a:=r3*pw p (lv+r2 - 1)) (b:=pw p dn) 40353607 117649 (by omega) (by omega) (by omega) (by omega)
    obtain ⟨K,n,d,t',h',e,ht'⟩:=last (h:=h3) (N:=top+r3*pw p (lv+r2 - 1)*pw p dn) (D:=pw p dn) ht3 (by omega) (by omega)
    refine ⟨K+41,n,d,t',h',fun k hk=>?_,ht'⟩
    unfold spec_l05End.f
    rw [l01Is_eq p lv top dn k (by omega),decide_eq_true (show Pr p∧PM.Ok p ⟨lv,top,dn⟩ from ⟨hp,o1,o2,o3,o4,o5⟩)];simp only [Option.bind_some,if_true];rw [e1];simp only [Option.bind_some]
    rw [show (r1 == 0)=false by simp [z]]
    obtain ⟨k,rfl⟩:∃ m,k=m+1:=⟨k - 1,by omega⟩
    simp only [spec_l05End.j0]
    rw [if_neg (by simp),l01Power_eq p dn hp (by omega) (by omega) k (by omega)];simp only [Option.bind_some];rw [e2];simp only [Option.bind_some]
    rw [w1,if_pos g,e3];simp only [Option.bind_some]
    rw [l01Power_eq p (lv+r2 - 1) hp (by omega) (by omega) k (by omega)];simp only [Option.bind_some]
    rw [w64 (n:=r3*pw p (lv+r2 - 1)) (by omega) (by omega),w64 (n:=r3*pw p (lv+r2 - 1)*pw p dn) (by omega) (by omega),w64 (n:=top+r3*pw p (lv+r2 - 1)*pw p dn) (by omega) (by omega)]
    exact e k (by omega)
   ·
    obtain ⟨K,n,d,t',h',e,ht'⟩:=last (h:=h2) (N:=top) (D:=pw p dn) ht2 (by omega) (by omega)
    refine ⟨K+41,n,d,t',h',fun k hk=>?_,ht'⟩
    unfold spec_l05End.f
    rw [l01Is_eq p lv top dn k (by omega),decide_eq_true (show Pr p∧PM.Ok p ⟨lv,top,dn⟩ from ⟨hp,o1,o2,o3,o4,o5⟩)];simp only [Option.bind_some,if_true];rw [e1];simp only [Option.bind_some]
    rw [show (r1 == 0)=false by simp [z]]
    obtain ⟨k,rfl⟩:∃ m,k=m+1:=⟨k - 1,by omega⟩
    simp only [spec_l05End.j0]
    rw [if_neg (by simp),l01Power_eq p dn hp (by omega) (by omega) k (by omega)];simp only [Option.bind_some];rw [e2];simp only [Option.bind_some]
    rw [w1,if_neg g]
    exact e k (by omega)
 ·
  obtain ⟨K,n,d,t',h',e,ht'⟩:=other (h:=h) ht
  refine ⟨K+40,n,d,t',h',fun k hk=>?_,ht'⟩
  unfold spec_l05End.f
  rw [l01Is_eq p lv top dn k (by omega),decide_eq_false c];simp only [Option.bind_some]
  rw [if_neg (by simp)];exact e k (by omega)
theorem near_ok' {l:List Int} (hb:Byt l) (hl:l.length≤4096) {t:Int} (h n:Int) (ht:0≤t):∃ r t' h',spec_l01Near.f l t h n=some (r,t',h')∧0≤t':=by
 obtain ⟨r1,t1,h1,e1,ht1,_,_⟩:=next_ok hb hl h 14 ht
 obtain ⟨r2,t2,h2,e2,ht2,_⟩:=pick_in hb hl h1 ht1 [(-1),wrap64 (n+1),1099511627776,(-4611686018427387904)] (by simp)
 obtain ⟨r3,t3,h3,e3,ht3,_,_⟩:=next_ok hb hl h1 (wrap64 (n+1)) ht1
 unfold spec_l01Near.f
 rw [e1];simp only [Option.bind_some]
 by_cases z:r1=0
 ·
  rw [if_pos z,e2];exact ⟨_,_,_,rfl,ht2⟩
 ·
  rw [if_neg z,e3];exact ⟨_,_,_,rfl,ht3⟩

theorem TreeDistance_eq {p l1 t1 d1 l2 t2 d2:Int} (hp:Pr p) (hb:PM.Ok p ⟨l1,t1,d1⟩) (hc:PM.Ok p ⟨l2,t2,d2⟩):∀ k,200≤k→impl_TreeDistance.f k p l1 t1 d1 l2 t2 d2=some (PM.dist p ⟨l1,t1,d1⟩ ⟨l2,t2,d2⟩,0):=by
 intro k hk
 obtain ⟨k,rfl⟩:∃ m,k=m+1+1+1:=⟨k - 3,by omega⟩
 have r0:rd_T25 [(⟨l1,t1,d1⟩:S25),⟨l2,t2,d2⟩] 0=⟨l1,t1,d1⟩:=rfl
 have r1:rd_T25 [(⟨l1,t1,d1⟩:S25),⟨l2,t2,d2⟩] 1=⟨l2,t2,d2⟩:=rfl
 unfold impl_TreeDistance.f impl_areBalls.f
 simp only [impl_areBalls.l0]
 rw [if_pos (by simp),if_pos (by omega),if_pos (by simp),r0,IsBall_eq p l1 t1 d1 _ (by omega),decide_eq_true ⟨hp,hb⟩]
 simp only [Option.bind_some,if_true]
 rw [w64 (n:=(0:Int)+1) (by omega) (by omega),show (0:Int)+1=1 from rfl,if_pos (by simp),if_pos (by omega),if_pos (by simp),r1,IsBall_eq p l2 t2 d2 _ (by omega),decide_eq_true ⟨hp,hc⟩]
 simp only [Option.bind_some,if_true]
 rw [w64 (n:=(1:Int)+1) (by omega) (by omega),if_neg (by simp),isPrime_eq,prime_dec,decide_eq_true hp]
 simp only [Option.bind_some,if_true]
 rw [distance_eq hp hb hc _ (by omega)]
 rfl

theorem balls5_eq (l:List S25) (hl:l.length≤2000000000000):∀ k,l.length+1≤k→laws_balls5.f k l l=some true:=by
 have go:∀ (d k i:Nat),i+d=l.length→d<k→laws_balls5.l0 k l l i=some true:=by
  intro d
  induction d with
  | zero=>
   intro k i h2 h3
   obtain ⟨k,rfl⟩:∃ m,k=m+1:=⟨k - 1,by omega⟩
   simp only [laws_balls5.l0]
   rw [if_neg (by omega)]
  | succ d ih=>
   intro k i h2 h3
   obtain ⟨k,rfl⟩:∃ m,k=m+1:=⟨k - 1,by omega⟩
   simp only [laws_balls5.l0]
   rw [if_pos (by omega),if_pos (by omega),if_pos (by omega),w64 (by omega) (by omega)]
   simp only [beq_self_eq_true,Bool.not_true,Bool.or_false]
   rw [if_neg (by simp)]
   exact ih k (i+1) (by omega) (by omega)
 intro k hk
 unfold laws_balls5.f
 rw [if_pos rfl]
 exact go l.length k 0 (by omega) (by omega)

namespace RO

def res (p lv top dn n d i:Int):List S25 × Int:=
 if (Pr p∧PM.Ok p ⟨lv,top,dn⟩)∧isE n d then (if 0≤i∧i≤12 then rayF p n d i.toNat ⟨lv,top,dn⟩ [⟨lv,top,dn⟩] else ([],2)) else ([],1)
theorem res_len (p lv top dn n d i:Int):(res p lv top dn n d i).1.length≤20:=by
 unfold res
 by_cases c:(Pr p∧PM.Ok p ⟨lv,top,dn⟩)∧isE n d
 ·
  rw [if_pos c]
  by_cases e:0≤i∧i≤12
  ·
   rw [if_pos e];have:=rayF_len p n d i.toNat ⟨lv,top,dn⟩ [⟨lv,top,dn⟩];simp at this;omega
  ·
   rw [if_neg e];simp
 ·
  rw [if_neg c];simp
theorem l05Code_one (p lv top dn n1 d1:Int):∃ K,∀ k,K≤k→spec_l05Code.f k p [⟨lv,top,dn⟩] [⟨n1,d1⟩]=some (if (Pr p∧PM.Ok p ⟨lv,top,dn⟩)∧isE n1 d1 then 0 else 1):=by
 obtain ⟨K,h⟩:=l05Code_eq p [⟨lv,top,dn⟩] [⟨n1,d1⟩] (by simp) (by simp)
 refine ⟨K,fun k hk=>?_⟩
 rw [h k hk,if_pos (show dif [(⟨n1,d1⟩:S27)]=true by simp [dif,difFrom,difAt])]
 have e:((Pr p∧([(⟨lv,top,dn⟩:S25)].all (bOk p)=true))∧[(⟨n1,d1⟩:S27)].all eOk=true)↔((Pr p∧PM.Ok p ⟨lv,top,dn⟩)∧isE n1 d1):=by
  simp [bOk,eOk]
 by_cases c:(Pr p∧PM.Ok p ⟨lv,top,dn⟩)∧isE n1 d1
 ·
  rw [if_pos (e.mpr c),if_pos c]
 ·
  rw [if_neg (fun z=>c (e.mp z)),if_neg c]
theorem spec_res (p lv top dn n d i:Int):∃ K,∀ k,K≤k→spec_RayOf.f k p lv top dn n d i=some (res p lv top dn n d i):=by
 obtain ⟨K,hK⟩:=l05Code_one p lv top dn n d
 refine ⟨K+13841288400,fun k hk=>?_⟩
 unfold spec_RayOf.f res
 rw [hK k (by omega)]
 simp only [Option.bind_some]
 by_cases c:(Pr p∧PM.Ok p ⟨lv,top,dn⟩)∧isE n d
 ·
  rw [if_pos c,if_pos c,if_pos rfl,in_eq]
  simp only [Option.bind_some]
  by_cases e:0≤i∧i≤12
  ·
   rw [decide_eq_true e,if_pos rfl,if_pos e]
   have:=ray_spec c.1.1 c.2 i.toNat ⟨lv,top,dn⟩ [⟨lv,top,dn⟩] k c.1.2 (by simp;omega) (by simp) (by simp [S]) (by omega) (by omega)
   rwa [Int.toNat_of_nonneg e.1] at this
  ·
   rw [decide_eq_false e,if_neg (by simp),if_neg e]
 ·
  rw [if_neg c,if_neg c];rfl
theorem impl_res (p lv top dn n d i:Int):∃ K,∀ k,K≤k→impl_RayOf.f k p lv top dn n d i=some (res p lv top dn n d i):=by
 obtain ⟨K,hK⟩:=IsEnd_eq n d
 refine ⟨K+1300,fun k hk=>?_⟩
 obtain ⟨k,rfl⟩:∃ m,k=m+1:=⟨k - 1,by omega⟩
 unfold impl_RayOf.f res
 rw [IsBall_eq p lv top dn _ (by omega),hK _ (by omega)]
 simp only [Option.bind_some]
 by_cases c1:Pr p∧PM.Ok p ⟨lv,top,dn⟩
 ·
  rw [decide_eq_true c1,if_pos rfl]
  by_cases c2:isE n d
  ·
   rw [decide_eq_true c2,if_pos (show (Pr p∧PM.Ok p ⟨lv,top,dn⟩)∧isE n d from ⟨c1,c2⟩)]
   simp only [impl_RayOf.j0]
   rw [if_neg (by simp)]
   by_cases e:0≤i∧i≤12
   ·
    rw [if_neg (by omega),if_neg (by omega),if_pos e]
    have:=ray_impl c1.1 c2 i.toNat (by omega) i.toNat ⟨lv,top,dn⟩ [⟨lv,top,dn⟩] 0 k c1.2 (by simp;omega) (by omega) (by omega) (by omega)
    rwa [Int.toNat_of_nonneg e.1] at this
   ·
    rw [if_neg e]
    by_cases g:i<0
    ·
     rw [if_pos g]
    ·
     rw [if_neg g,if_pos (by omega)]
  ·
   rw [decide_eq_false c2,if_neg (show ¬ ((Pr p∧PM.Ok p ⟨lv,top,dn⟩)∧isE n d) from fun z=>c2 z.2)]
   simp [impl_RayOf.j0]
 ·
  rw [decide_eq_false c1,if_neg (by simp),if_neg (show ¬ ((Pr p∧PM.Ok p ⟨lv,top,dn⟩)∧isE n d) from fun z=>c1 z.1)]
  simp [impl_RayOf.j0]
end RO
namespace CS

def res (p lv top dn n1 d1 n2 d2:Int):Int × Int:=
 if (Pr p∧PM.Ok p ⟨lv,top,dn⟩)∧isE n1 d1∧isE n2 d2 then (if n1=n2∧d1=d2 then (0,5) else ((lineB p lv (PM.mark p ⟨lv,top,dn⟩) n1 d1 n2 d2).2.2,0)) else (0,1)
theorem spec_res (p lv top dn n1 d1 n2 d2:Int):∃ K,∀ k,K≤k→spec_CommonSteps.f k p lv top dn n1 d1 n2 d2=some (res p lv top dn n1 d1 n2 d2):=by
 obtain ⟨K,hK⟩:=l05Code_line p lv top dn n1 d1 n2 d2
 refine ⟨K+80,fun k hk=>?_⟩
 unfold spec_CommonSteps.f res
 rw [hK k (by omega)]
 simp only [Option.bind_some]
 by_cases c:(Pr p∧PM.Ok p ⟨lv,top,dn⟩)∧isE n1 d1∧isE n2 d2
 ·
  rw [if_pos c,if_pos c]
  by_cases q:n1=n2∧d1=d2
  ·
   rw [if_pos q,if_pos q];rfl
  ·
   rw [if_neg q,if_neg q,if_pos rfl,l05Steps_eq c.1.1 c.1.2 c.2.1 c.2.2 q k (by omega)];rfl
 ·
  rw [if_neg c,if_neg c];rfl
theorem impl_res0 (p lv top dn n1 d1 n2 d2:Int):∃ K,∀ k,K≤k→impl_CommonSteps.f k p lv top dn n1 d1 n2 d2=some (res p lv top dn n1 d1 n2 d2):=by
 obtain ⟨K,hK⟩:=lineCode_eq p lv top dn n1 d1 n2 d2
 refine ⟨K+80,fun k hk=>?_⟩
 unfold impl_CommonSteps.f res
 rw [hK k (by omega)]
 simp only [Option.bind_some]
 by_cases c:(Pr p∧PM.Ok p ⟨lv,top,dn⟩)∧isE n1 d1∧isE n2 d2
 ·
  rw [if_pos c,if_pos c]
  by_cases q:n1=n2∧d1=d2
  ·
   rw [if_pos q,if_pos q];rfl
  ·
   rw [if_neg q,if_neg q,if_pos rfl,lineAt_eq c.1.1 c.1.2 c.2.1 c.2.2 q k (by omega)];rfl
 ·
  rw [if_neg c,if_neg c];rfl
theorem impl_res (p lv top dn n1 d1 n2 d2:Int):∃ K,∀ k,K≤k→impl_CommonSteps.f k p lv top dn n1 d1 n2 d2=some (res p lv top dn n1 d1 n2 d2):=by
 obtain ⟨K,hK⟩:=impl_res0 p lv top dn n1 d1 n2 d2
 refine ⟨K,fun k hk=>?_⟩
 first
  | exact hK k hk
  | (unfold impl_DistanceToLine.f;rw [hK k hk];rfl)
end CS
namespace DL

def res (p lv top dn n1 d1 n2 d2:Int):Int × Int:=
 if (Pr p∧PM.Ok p ⟨lv,top,dn⟩)∧isE n1 d1∧isE n2 d2 then (if n1=n2∧d1=d2 then (0,5) else ((lineB p lv (PM.mark p ⟨lv,top,dn⟩) n1 d1 n2 d2).2.2,0)) else (0,1)
theorem spec_res (p lv top dn n1 d1 n2 d2:Int):∃ K,∀ k,K≤k→spec_DistanceToLine.f k p lv top dn n1 d1 n2 d2=some (res p lv top dn n1 d1 n2 d2):=by
 obtain ⟨K,hK⟩:=l05Code_line p lv top dn n1 d1 n2 d2
 refine ⟨K+80,fun k hk=>?_⟩
 unfold spec_DistanceToLine.f res
 rw [hK k (by omega)]
 simp only [Option.bind_some]
 by_cases c:(Pr p∧PM.Ok p ⟨lv,top,dn⟩)∧isE n1 d1∧isE n2 d2
 ·
  rw [if_pos c,if_pos c]
  by_cases q:n1=n2∧d1=d2
  ·
   rw [if_pos q,if_pos q];rfl
  ·
   rw [if_neg q,if_neg q,if_pos rfl,l05Steps_eq c.1.1 c.1.2 c.2.1 c.2.2 q k (by omega)];rfl
 ·
  rw [if_neg c,if_neg c];rfl
end DL
namespace NL

def lev (p lv x n1 d1 n2 d2:Int):Option PM.Ball:=
 if (lineB p lv x n1 d1 n2 d2).2.1=true then PM.ballAt p n1 d1 (lineB p lv x n1 d1 n2 d2).1 else PM.about p (lineB p lv x n1 d1 n2 d2).1 x
theorem near_lev {p lv x n1 d1 n2 d2:Int} (hp:Pr p) (h1:isE n1 d1) (h2:isE n2 d2) (hne:¬ (n1=n2∧d1=d2)) :
  PM.ballAt p (nearB p lv x n1 d1 n2 d2).1 (nearB p lv x n1 d1 n2 d2).2.1 (nearB p lv x n1 d1 n2 d2).2.2=lev p lv x n1 d1 n2 d2∧(nearB p lv x n1 d1 n2 d2).2.1≠0∧isE (nearB p lv x n1 d1 n2 d2).1 (nearB p lv x n1 d1 n2 d2).2.1:=by
 have hz:=zeros h1 h2 hne
 unfold lev nearB lineB
 by_cases z2:d2=0
 ·
  have z1:d1≠0:=fun z=>hz ⟨z,z2⟩
  rw [if_pos z2,if_neg z1,if_pos z2]
  refine ⟨?_,z1,h1⟩
  rw [if_neg (by simp)]
  exact PM.about_eq hp z1 (PM.near_le (lv:=lv) (Int.le_refl _))
 ·
  rw [if_neg z2]
  by_cases z1:d1=0
  ·
   rw [if_pos z1,if_pos z1]
   refine ⟨?_,z2,h2⟩
   rw [if_neg (by simp)]
   exact PM.about_eq hp z2 (PM.near_le (lv:=lv) (Int.le_refl _))
  ·
   rw [if_neg z1,if_neg z1,if_neg z2]
   have hc:PM.cr n1 d1 n2 d2≠0:=fun h=>hne (crs_zero h1 h2 h)
   obtain ⟨u1,u2,u3⟩:=PM.gap_turn (lv:=lv) (x:=x) hp z1 z2 hc
   rw [show (vl p (PM.cr n1 d1 n2 d2):Int) - vl p d1 - vl p d2=gapz p n1 d1 n2 d2 from rfl] at u1 u2 u3
   by_cases e:PM.turn p lv x n1 d1=PM.turn p lv x n2 d2
   ·
    have:=u1 e
    rw [if_pos (show PM.turn p lv x n1 d1≥PM.turn p lv x n2 d2 by omega),if_pos e]
    refine ⟨?_,z1,h1⟩
    rw [if_pos rfl]
    simp only
    rw [show max (PM.turn p lv x n1 d1) (gapz p n1 d1 n2 d2)=gapz p n1 d1 n2 d2 by omega]
   ·
    rw [if_neg e]
    by_cases g:PM.turn p lv x n1 d1≥PM.turn p lv x n2 d2
    ·
     have:=u2 (by omega)
     rw [if_pos g]
     refine ⟨?_,z1,h1⟩
     rw [if_neg (by simp)]
     simp only
     rw [show max (PM.turn p lv x n1 d1) (gapz p n1 d1 n2 d2)=PM.turn p lv x n1 d1 by omega,show max (PM.turn p lv x n1 d1) (PM.turn p lv x n2 d2)=PM.turn p lv x n1 d1 by omega]
     exact PM.about_eq hp z1 (PM.near_le (lv:=lv) (Int.le_refl _))
    ·
     have:=u3 (by omega)
     rw [if_neg g]
     refine ⟨?_,z2,h2⟩
     rw [if_neg (by simp)]
     simp only
     rw [show max (PM.turn p lv x n2 d2) (gapz p n1 d1 n2 d2)=PM.turn p lv x n2 d2 by omega,show max (PM.turn p lv x n1 d1) (PM.turn p lv x n2 d2)=PM.turn p lv x n2 d2 by omega]
     exact PM.about_eq hp z2 (PM.near_le (lv:=lv) (Int.le_refl _))
def res (p lv top dn n1 d1 n2 d2:Int):Int × Int × Int × Int:=
 if (Pr p∧PM.Ok p ⟨lv,top,dn⟩)∧isE n1 d1∧isE n2 d2 then (if n1=n2∧d1=d2 then (0,0,0,5) else encC 3 (lev p lv (PM.mark p ⟨lv,top,dn⟩) n1 d1 n2 d2)) else (0,0,0,1)
theorem spec_res (p lv top dn n1 d1 n2 d2:Int):∃ K,∀ k,K≤k→spec_NearestOnLine.f k p lv top dn n1 d1 n2 d2=some (res p lv top dn n1 d1 n2 d2):=by
 obtain ⟨K,hK⟩:=l05Code_line p lv top dn n1 d1 n2 d2
 refine ⟨K+13841287300,fun k hk=>?_⟩
 unfold spec_NearestOnLine.f res
 rw [hK k (by omega)]
 simp only [Option.bind_some]
 by_cases c:(Pr p∧PM.Ok p ⟨lv,top,dn⟩)∧isE n1 d1∧isE n2 d2
 ·
  rw [if_pos c,if_pos c]
  by_cases q:n1=n2∧d1=d2
  ·
   rw [if_pos q,if_pos q];rfl
  ·
   obtain ⟨e,e1,e2⟩:=near_lev (lv:=lv) (x:=PM.mark p ⟨lv,top,dn⟩) c.1.1 c.2.1 c.2.2 q
   have a:=isE_bd e2
   rw [if_neg q,if_neg q,if_pos rfl,l05Nearest_eq c.1.1 c.1.2 c.2.1 c.2.2 q k (by omega)]
   simp only [Option.bind_some]
   rw [l01Of_eq c.1.1 e1 (by omega) (by omega) k (by omega),lOf_eq_ballAt c.1.1 e1,e]
   simp only [Option.bind_some]
   cases lev p lv (PM.mark p ⟨lv,top,dn⟩) n1 d1 n2 d2 <;> simp [enc,encC]
 ·
  rw [if_neg c,if_neg c];rfl
theorem impl_res (p lv top dn n1 d1 n2 d2:Int):∃ K,∀ k,K≤k→impl_NearestOnLine.f k p lv top dn n1 d1 n2 d2=some (res p lv top dn n1 d1 n2 d2):=by
 obtain ⟨K,hK⟩:=lineCode_eq p lv top dn n1 d1 n2 d2
 refine ⟨K+13841287300,fun k hk=>?_⟩
 unfold impl_NearestOnLine.f res
 rw [hK k (by omega)]
 simp only [Option.bind_some]
 by_cases c:(Pr p∧PM.Ok p ⟨lv,top,dn⟩)∧isE n1 d1∧isE n2 d2
 ·
  rw [if_pos c,if_pos c]
  by_cases q:n1=n2∧d1=d2
  ·
   rw [if_pos q,if_pos q];rfl
  ·
   have a:=isE_bd c.2.1
   rw [if_neg q,if_neg q,if_pos rfl,lineAt_eq c.1.1 c.1.2 c.2.1 c.2.2 q k (by omega)]
   simp only [Option.bind_some]
   unfold lev
   by_cases b:(lineB p lv (PM.mark p ⟨lv,top,dn⟩) n1 d1 n2 d2).2.1=true
   ·
    have z1:d1≠0:=by
     intro z;unfold lineB at b;rw [if_pos z] at b;simp at b
    rw [if_pos b,if_pos b,ballAt_eq c.1.1 z1 (by omega) (by omega) k (by omega)]
    simp only [Option.bind_some]
    cases PM.ballAt p n1 d1 (lineB p lv (PM.mark p ⟨lv,top,dn⟩) n1 d1 n2 d2).1 <;> simp [enc,encC,impl_fitted.f]
   ·
    rw [if_neg b,if_neg b,mark_eq c.1.1 c.1.2 k (by omega)]
    simp only [Option.bind_some]
    rw [ofMark_eq c.1.1 k (by omega)]
    simp only [Option.bind_some]
    show _=some (encC 3 (PM.about _ _ _))
    rw [show (if PM.inLv (lineB p lv (PM.mark p ⟨lv,top,dn⟩) n1 d1 n2 d2).1 then some (PM.mk p (lineB p lv (PM.mark p ⟨lv,top,dn⟩) n1 d1 n2 d2).1 (PM.mark p ⟨lv,top,dn⟩ % pw p ((lineB p lv (PM.mark p ⟨lv,top,dn⟩) n1 d1 n2 d2).1+6))) else none)=PM.about p (lineB p lv (PM.mark p ⟨lv,top,dn⟩) n1 d1 n2 d2).1 (PM.mark p ⟨lv,top,dn⟩) from rfl]
    cases PM.about p (lineB p lv (PM.mark p ⟨lv,top,dn⟩) n1 d1 n2 d2).1 (PM.mark p ⟨lv,top,dn⟩) <;> simp [enc,encC,impl_fitted.f]
 ·
  rw [if_neg c,if_neg c];rfl
end NL
namespace IL

def res (p lv top dn n1 d1 n2 d2:Int):Bool × Int:=
 if (Pr p∧PM.Ok p ⟨lv,top,dn⟩)∧isE n1 d1∧isE n2 d2 then (if n1=n2∧d1=d2 then (false,5) else (brV p lv (PM.mark p ⟨lv,top,dn⟩) n1 d1 != brV p lv (PM.mark p ⟨lv,top,dn⟩) n2 d2,0)) else (false,1)
theorem spec_res (p lv top dn n1 d1 n2 d2:Int):∃ K,∀ k,K≤k→spec_IsOnLine.f k p lv top dn n1 d1 n2 d2=some (res p lv top dn n1 d1 n2 d2):=by
 obtain ⟨K,hK⟩:=l05Code_line p lv top dn n1 d1 n2 d2
 refine ⟨K+80,fun k hk=>?_⟩
 unfold spec_IsOnLine.f res
 rw [hK k (by omega)]
 simp only [Option.bind_some]
 by_cases c:(Pr p∧PM.Ok p ⟨lv,top,dn⟩)∧isE n1 d1∧isE n2 d2
 ·
  rw [if_pos c,if_pos c]
  by_cases q:n1=n2∧d1=d2
  ·
   rw [if_pos q,if_pos q];rfl
  ·
   rw [if_neg q,if_neg q,if_pos rfl,l05Branch_eq c.1.1 c.1.2 c.2.1 k (by omega),l05Branch_eq c.1.1 c.1.2 c.2.2 k (by omega)];rfl
 ·
  rw [if_neg c,if_neg c];rfl
theorem impl_res (p lv top dn n1 d1 n2 d2:Int):∃ K,∀ k,K≤k→impl_IsOnLine.f k p lv top dn n1 d1 n2 d2=some (res p lv top dn n1 d1 n2 d2):=by
 obtain ⟨K,hK⟩:=lineCode_eq p lv top dn n1 d1 n2 d2
 refine ⟨K+80,fun k hk=>?_⟩
 unfold impl_IsOnLine.f res
 rw [hK k (by omega)]
 simp only [Option.bind_some]
 by_cases c:(Pr p∧PM.Ok p ⟨lv,top,dn⟩)∧isE n1 d1∧isE n2 d2
 ·
  rw [if_pos c,if_pos c]
  by_cases q:n1=n2∧d1=d2
  ·
   rw [if_pos q,if_pos q];rfl
  ·
   rw [if_neg q,if_neg q,if_pos rfl,branch_eq c.1.1 c.1.2 c.2.1 k (by omega),branch_eq c.1.1 c.1.2 c.2.2 k (by omega)];rfl
 ·
  rw [if_neg c,if_neg c];rfl
end IL
namespace BO

theorem l05Code_one (p lv top dn n1 d1:Int):∃ K,∀ k,K≤k→spec_l05Code.f k p [⟨lv,top,dn⟩] [⟨n1,d1⟩]=some (if (Pr p∧PM.Ok p ⟨lv,top,dn⟩)∧isE n1 d1 then 0 else 1):=by
 obtain ⟨K,h⟩:=l05Code_eq p [⟨lv,top,dn⟩] [⟨n1,d1⟩] (by simp) (by simp)
 refine ⟨K,fun k hk=>?_⟩
 rw [h k hk,if_pos (show dif [(⟨n1,d1⟩:S27)]=true by simp [dif,difFrom,difAt])]
 have e:((Pr p∧([(⟨lv,top,dn⟩:S25)].all (bOk p)=true))∧[(⟨n1,d1⟩:S27)].all eOk=true)↔((Pr p∧PM.Ok p ⟨lv,top,dn⟩)∧isE n1 d1):=by
  simp [bOk,eOk]
 by_cases c:(Pr p∧PM.Ok p ⟨lv,top,dn⟩)∧isE n1 d1
 ·
  rw [if_pos (e.mpr c),if_pos c]
 ·
  rw [if_neg (fun z=>c (e.mp z)),if_neg c]
def res (p lv top dn n d:Int):Int × Int:=
 if (Pr p∧PM.Ok p ⟨lv,top,dn⟩)∧isE n d then (brV p lv (PM.mark p ⟨lv,top,dn⟩) n d,0) else (0,1)
theorem spec_res (p lv top dn n d:Int):∃ K,∀ k,K≤k→spec_BranchOf.f k p lv top dn n d=some (res p lv top dn n d):=by
 obtain ⟨K,hK⟩:=l05Code_one p lv top dn n d
 refine ⟨K+90,fun k hk=>?_⟩
 unfold spec_BranchOf.f res
 rw [hK k (by omega)]
 simp only [Option.bind_some]
 by_cases c:(Pr p∧PM.Ok p ⟨lv,top,dn⟩)∧isE n d
 ·
  rw [if_pos c,if_pos c,if_pos rfl,l05Branch_eq c.1.1 c.1.2 c.2 k (by omega)];rfl
 ·
  rw [if_neg c,if_neg c];rfl
theorem impl_res (p lv top dn n d:Int):∃ K,∀ k,K≤k→impl_BranchOf.f k p lv top dn n d=some (res p lv top dn n d):=by
 obtain ⟨K,hK⟩:=IsEnd_eq n d
 refine ⟨K+90,fun k hk=>?_⟩
 unfold impl_BranchOf.f res
 rw [IsBall_eq p lv top dn k (by omega),hK k (by omega)]
 simp only [Option.bind_some]
 by_cases c1:Pr p∧PM.Ok p ⟨lv,top,dn⟩
 ·
  rw [decide_eq_true c1,if_pos rfl]
  by_cases c2:isE n d
  ·
   rw [decide_eq_true c2,if_pos rfl,if_pos (show (Pr p∧PM.Ok p ⟨lv,top,dn⟩)∧isE n d from ⟨c1,c2⟩),branch_eq c1.1 c1.2 c2 k (by omega)];rfl
  ·
   rw [decide_eq_false c2,if_neg (by simp),if_neg (show ¬ ((Pr p∧PM.Ok p ⟨lv,top,dn⟩)∧isE n d) from fun z=>c2 z.2)]
 ·
  rw [decide_eq_false c1,if_neg (by simp),if_neg (show ¬ ((Pr p∧PM.Ok p ⟨lv,top,dn⟩)∧isE n d) from fun z=>c1 z.1)]
end BO

theorem drawRay_ok {l:List Int} (hb:Byt l) (hl:l.length≤4096):∃ K p lv top dn n d j,∀ k,K≤k→spec_DrawRayOf.f k l=some (p,lv,top,dn,n,d,j):=by
 obtain ⟨h0,e0⟩:=from_ok l hl
 obtain ⟨p,lv,top,dn,t1,h1,e1,ht1⟩:=spoil_ok hb hl h0 (Int.le_refl 0)
 obtain ⟨K,n,d,t2,h2,e2,ht2⟩:=l05End_ok hb hl h1 ht1 p lv top dn
 obtain ⟨r,t3,h3,e3,ht3⟩:=near_ok' hb hl h2 12 ht2
 obtain ⟨j,t4,h4,e4,ht4,_⟩:=pick_in hb hl h3 ht3 [0,1,2,3,r] (by simp)
 refine ⟨K+13841287400+l.length,p,lv,top,dn,n,d,j,fun k hk=>?_⟩
 unfold spec_DrawRayOf.f
 rw [e0 k (by omega)];simp only [Option.bind_some];rw [e1 k (by omega)];simp only [Option.bind_some];rw [e2 k (by omega)];simp only [Option.bind_some];rw [e3];simp only [Option.bind_some];rw [e4];rfl
theorem drawBranch_ok {l:List Int} (hb:Byt l) (hl:l.length≤4096):∃ K p lv top dn n d,∀ k,K≤k→spec_DrawBranchOf.f k l=some (p,lv,top,dn,n,d):=by
 obtain ⟨h0,e0⟩:=from_ok l hl
 obtain ⟨p,lv,top,dn,t1,h1,e1,ht1⟩:=spoil_ok hb hl h0 (Int.le_refl 0)
 obtain ⟨K,n,d,t2,h2,e2,ht2⟩:=l05End_ok hb hl h1 ht1 p lv top dn
 refine ⟨K+13841287400+l.length,p,lv,top,dn,n,d,fun k hk=>?_⟩
 unfold spec_DrawBranchOf.f
 rw [e0 k (by omega)];simp only [Option.bind_some];rw [e1 k (by omega)];simp only [Option.bind_some];rw [e2 k (by omega)];rfl
theorem drawLine_ok {l:List Int} (hb:Byt l) (hl:l.length≤4096):∃ K p lv top dn n1 d1 n2 d2,∀ k,K≤k→spec_DrawCommonSteps.f k l=some (p,lv,top,dn,n1,d1,n2,d2):=by
 obtain ⟨h0,e0⟩:=from_ok l hl
 obtain ⟨p,lv,top,dn,t1,h1,e1,ht1⟩:=spoil_ok hb hl h0 (Int.le_refl 0)
 obtain ⟨K2,n,d,t2,h2,e2,ht2⟩:=l05End_ok hb hl h1 ht1 p lv top dn
 obtain ⟨K3,n',d',t3,h3,e3,ht3⟩:=l05End_ok hb hl h2 ht2 p lv top dn
 obtain ⟨r,t4,h4,e4,ht4,_,_⟩:=next_ok hb hl h3 20 ht3
 have key:∀ k,K2+K3+13841287400+l.length≤k→spec_l05Line.f k l=(if r=0 then some (p,lv,top,dn,n,d,n,d) else some (p,lv,top,dn,n,d,n',d')):=fun k hk=>by
  unfold spec_l05Line.f
  rw [e0 k (by omega)];simp only [Option.bind_some];rw [e1 k (by omega)];simp only [Option.bind_some];rw [e2 k (by omega)];simp only [Option.bind_some];rw [e3 k (by omega)];simp only [Option.bind_some];rw [e4];simp only [Option.bind_some]
 by_cases z:r=0
 ·
  exact ⟨_,p,lv,top,dn,n,d,n,d,fun k hk=>by unfold spec_DrawCommonSteps.f;rw [key k hk,if_pos z];rfl⟩
 ·
  exact ⟨_,p,lv,top,dn,n,d,n',d',fun k hk=>by unfold spec_DrawCommonSteps.f;rw [key k hk,if_neg z];rfl⟩
theorem rayF_seq (p n d:Int):∀ (j:Nat) (b:PM.Ball) (acc L:List S25),rayF p n d j b acc=(L,0)→∃ x:Nat→PM.Ball,x 0=b∧(∀ i,i<j→nxt p n d (x i)=some (x (i+1)))∧L=acc ++ (List.range j).map (fun i=>S (x (i+1))):=by
 intro j
 induction j with
 | zero=>
  intro b acc L h
  simp only [rayF,Prod.mk.injEq,and_true] at h
  exact ⟨fun _=>b,rfl,fun i hi=>by omega,by simp [h]⟩
 | succ j ih=>
  intro b acc L h
  unfold rayF at h
  cases hn:nxt p n d b with
  | none=>rw [hn] at h;simp at h
  | some c=>
   rw [hn] at h
   obtain ⟨x,x0,hx,hL⟩:=ih c (acc ++ [S c]) L h
   refine ⟨fun i=>match i with|0=>b|i+1=>x i,rfl,fun i hi=>?_,?_⟩
   ·
    cases i with
    | zero=>simp only [x0];exact hn
    | succ i=>exact hx i (by omega)
   ·
    rw [hL,List.range_succ_eq_map]
    simp [x0,Function.comp_def]
theorem ray_dist {p n d:Int} (hp:Pr p) {b:PM.Ball} (hb:PM.Ok p b) {j:Nat} {L:List S25} (h:rayF p n d j b [S b]=(L,0)):∀ i,i<L.length→∃ c,L[i]?=some (S c)∧PM.Ok p c∧PM.dist p b c=i:=by
 obtain ⟨x,x0,hx,hL⟩:=rayF_seq p n d j b _ L h
 have ok:∀ i,i≤j→PM.Ok p (x i):=by
  intro i
  induction i with
  | zero=>intro _;rw [x0];exact hb
  | succ i _=>intro hi;exact nb_ok hp (hx i (by omega))
 have hnb:∀ i,i<j→PM.nbr p (x i) (PM.brP p (x i).lv (PM.mark p (x i)) n d)=some (x (i+1)):=fun i hi=>hx i hi
 have hlen:L.length=j+1:=by rw [hL];simp
 intro i hi
 have hw:=PM.dist_way hp x (fun i=>PM.brP p (x i).lv (PM.mark p (x i)) n d) (by rw [x0];exact hb) i (fun q hq=>⟨(PM.brP_bd hp).1,(PM.brP_bd hp).2,hnb q (by omega)⟩) (fun q hq=>PM.noback hp (ok q (by omega)) (hnb q (by omega)) (hnb (q+1) (by omega)))
 refine ⟨x i,?_,hw.1,?_⟩
 ·
  rw [hL]
  cases i with
  | zero=>rw [x0];rfl
  | succ i=>
   rw [List.getElem?_append_right (by simp)]
   simp only [List.length_singleton,Nat.add_sub_cancel,List.getElem?_map,List.getElem?_range (show i<j by omega),Option.map_some]
 ·
  rw [PM.dist_comm,← x0];exact hw.2.1
theorem line_steps (p lv x n1 d1 n2 d2:Int):(lineB p lv x n1 d1 n2 d2).2.2=PM.stepsP p lv x n1 d1 n2 d2:=by
 unfold lineB PM.stepsP
 by_cases z1:d1=0
 ·
  rw [if_pos z1,if_pos z1]
 rw [if_neg z1,if_neg z1]
 by_cases z2:d2=0
 ·
  rw [if_pos z2,if_pos z2]
 rw [if_neg z2,if_neg z2]
 by_cases e:PM.turn p lv x n1 d1=PM.turn p lv x n2 d2
 ·
  rw [if_pos e,if_pos e];rfl
 ·
  rw [if_neg e,if_neg e]
theorem lev_near (p:Int) (b:PM.Ball) (n1 d1 n2 d2:Int):NL.lev p b.lv (PM.mark p b) n1 d1 n2 d2=PM.nearP p b n1 d1 n2 d2:=by
 unfold NL.lev lineB PM.nearP
 by_cases z1:d1=0
 ·
  rw [if_pos z1,if_pos z1];rfl
 rw [if_neg z1,if_neg z1]
 by_cases z2:d2=0
 ·
  rw [if_pos z2,if_pos z2];rfl
 rw [if_neg z2,if_neg z2]
 by_cases e:PM.turn p b.lv (PM.mark p b) n1 d1=PM.turn p b.lv (PM.mark p b) n2 d2
 ·
  rw [if_pos e,if_pos e];rfl
 ·
  rw [if_neg e,if_neg e];rfl
theorem on_steps {p l x n1 d1 n2 d2:Int} (hp:Pr p) (hl : -6≤l) (h1:isE n1 d1) (h2:isE n2 d2) (hne:¬ (n1=n2∧d1=d2)):(brV p l x n1 d1 != brV p l x n2 d2)=(PM.stepsP p l x n1 d1 n2 d2 == 0):=by
 have:=PM.on_line (p:=p) (x:=x) hp hl (zeros h1 h2 hne) (fun _ _ h=>hne (crs_zero h1 h2 h))
 rw [Bool.eq_iff_iff]
 simp only [bne_iff_ne,beq_iff_eq]
 exact this
theorem FnRays:laws_FnRays.Pure:=by
 intro l _ _ hw
 have hb:Byt l:=fun x hx=>by
  have:=hw x hx
  simp [Lit.wf,IntKind.min,IntKind.max,IntKind.bits,IntKind.signed] at this;omega
 by_cases hl:(l.length:Int)>4096
 ·
  exact ⟨0,by unfold laws_FnRays.f laws_big.f;rw [decide_eq_true hl];simp⟩
 have hl2:l.length≤4096:=by omega
 obtain ⟨K0,p,lv,top,dn,n,d,j,e0⟩:=drawRay_ok hb hl2
 obtain ⟨K1,e1⟩:=RO.impl_res p lv top dn n d j
 obtain ⟨K2,e2⟩:=RO.spec_res p lv top dn n d j
 obtain ⟨K3,q,l2,t2,d2,f1,f2,g1,g2,e3⟩:=drawLine_ok hb hl2
 obtain ⟨K4,e4⟩:=CS.impl_res q l2 t2 d2 f1 f2 g1 g2
 obtain ⟨K5,e5⟩:=CS.spec_res q l2 t2 d2 f1 f2 g1 g2
 obtain ⟨K6,e6⟩:=DL.spec_res q l2 t2 d2 f1 f2 g1 g2
 obtain ⟨K7,e7⟩:=NL.impl_res q l2 t2 d2 f1 f2 g1 g2
 obtain ⟨K8,e8⟩:=NL.spec_res q l2 t2 d2 f1 f2 g1 g2
 obtain ⟨K9,e9⟩:=IL.impl_res q l2 t2 d2 f1 f2 g1 g2
 obtain ⟨Ka,ea⟩:=IL.spec_res q l2 t2 d2 f1 f2 g1 g2
 obtain ⟨Kb,r,l3,t3,d3,n3,m3,eb⟩:=drawBranch_ok hb hl2
 obtain ⟨Kc,ec⟩:=BO.impl_res r l3 t3 d3 n3 m3
 obtain ⟨Kd,ed⟩:=BO.spec_res r l3 t3 d3 n3 m3
 -- the last part
 have fin:∀ k,Kb+Kc+Kd≤k→((spec_DrawBranchOf.f k l).bind fun bt868=>((impl_BranchOf.f k bt868.1 bt868.2.1 bt868.2.2.1 bt868.2.2.2.1 bt868.2.2.2.2.1 bt868.2.2.2.2.2).bind fun bt876=>((spec_BranchOf.f k bt868.1 bt868.2.1 bt868.2.2.1 bt868.2.2.2.1 bt868.2.2.2.2.1 bt868.2.2.2.2.2).bind fun bt878=>(if bt876.2=bt878.2 then (some (bt876.1 == bt878.1)) else (some false)))))=some true:=fun k hk=>by
  rw [eb k (by omega)];simp only [Option.bind_some];rw [ec k (by omega),ed k (by omega)];simp
 -- the lines
 have mid:∃ K,∀ k,K≤k→laws_FnRays.j2 k l q (CS.res q l2 t2 d2 f1 f2 g1 g2).1 (CS.res q l2 t2 d2 f1 f2 g1 g2).2 (DL.res q l2 t2 d2 f1 f2 g1 g2).1 (NL.res q l2 t2 d2 f1 f2 g1 g2).2.2.2 (IL.res q l2 t2 d2 f1 f2 g1 g2).1 false l2 t2 d2 f1 f2 g1 g2 (NL.res q l2 t2 d2 f1 f2 g1 g2).1 (NL.res q l2 t2 d2 f1 f2 g1 g2).2.1 (NL.res q l2 t2 d2 f1 f2 g1 g2).2.2.1=some true:=by
  by_cases c:((Pr q∧PM.Ok q ⟨l2,t2,d2⟩)∧isE f1 f2∧isE g1 g2)∧¬ (f1=g1∧f2=g2)
  ·
   obtain ⟨c,hne⟩:=c
   have hne':¬ (g1=f1∧g2=f2):=fun z=>hne ⟨z.1.symm,z.2.symm⟩
   have hp:=c.1.1
   have ho:=c.1.2
   have hlv : -6≤l2:=ho.1
   have s1:CS.res q l2 t2 d2 f1 f2 g1 g2=(PM.stepsP q l2 (PM.mark q ⟨l2,t2,d2⟩) f1 f2 g1 g2,0):=by
    unfold CS.res;rw [if_pos c,if_neg hne,line_steps]
   have s2:DL.res q l2 t2 d2 f1 f2 g1 g2=(PM.stepsP q l2 (PM.mark q ⟨l2,t2,d2⟩) f1 f2 g1 g2,0):=by
    unfold DL.res;rw [if_pos c,if_neg hne,line_steps]
   have s3:CS.res q l2 t2 d2 g1 g2 f1 f2=(PM.stepsP q l2 (PM.mark q ⟨l2,t2,d2⟩) f1 f2 g1 g2,0):=by
    unfold CS.res;rw [if_pos ⟨c.1,c.2.2,c.2.1⟩,if_neg hne',line_steps,PM.stepsP_comm hp (zeros c.2.2 c.2.1 hne')]
   have s4:IL.res q l2 t2 d2 f1 f2 g1 g2=(PM.stepsP q l2 (PM.mark q ⟨l2,t2,d2⟩) f1 f2 g1 g2 == 0,0):=by
    unfold IL.res;rw [if_pos c,if_neg hne,on_steps hp hlv c.2.1 c.2.2 hne]
   have s5:NL.res q l2 t2 d2 f1 f2 g1 g2=encC 3 (PM.nearP q ⟨l2,t2,d2⟩ f1 f2 g1 g2):=by
    unfold NL.res;rw [if_pos c,if_neg hne];rw [show NL.lev q l2 (PM.mark q ⟨l2,t2,d2⟩) f1 f2 g1 g2=_ from lev_near q ⟨l2,t2,d2⟩ f1 f2 g1 g2]
   obtain ⟨Ke,ee⟩:=CS.impl_res q l2 t2 d2 g1 g2 f1 f2
   rw [s1,s2,s4,s5]
   cases hy:PM.nearP q ⟨l2,t2,d2⟩ f1 f2 g1 g2 with
   | none=>
    refine ⟨Ke+Kb+Kc+Kd+5,fun k hk=>?_⟩
    obtain ⟨k,rfl⟩:∃ m,k=m+1+1:=⟨k - 2,by omega⟩
    simp only [laws_FnRays.j2,encC]
    rw [if_neg (by simp),if_pos trivial,ee _ (by omega),s3];simp only [Option.bind_some,if_true,bne_self_eq_false]
    rw [laws_FnRays.j3,if_neg (by simp),if_neg (by omega)]
    exact fin k (by omega)
   | some y=>
    have near:=PM.near_ok hp ho (zeros c.2.1 c.2.2 hne) (fun _ _ h=>hne (crs_zero c.2.1 c.2.2 h)) hy
    obtain ⟨Kf,ef⟩:=IL.impl_res q y.lv y.top y.dn f1 f2 g1 g2
    have s6:IL.res q y.lv y.top y.dn f1 f2 g1 g2=(true,0):=by
     unfold IL.res
     rw [if_pos (show (Pr q∧PM.Ok q ⟨y.lv,y.top,y.dn⟩)∧isE f1 f2∧isE g1 g2 from ⟨⟨hp,near.1⟩,c.2⟩),if_neg hne,on_steps hp near.1.1 c.2.1 c.2.2 hne]
     rw [show PM.stepsP q y.lv (PM.mark q ⟨y.lv,y.top,y.dn⟩) f1 f2 g1 g2=0 from near.2.2];rfl
    refine ⟨Ke+Kf+Kb+Kc+Kd+300,fun k hk=>?_⟩
    obtain ⟨k,rfl⟩:∃ m,k=m+1+1+1:=⟨k - 3,by omega⟩
    simp only [laws_FnRays.j2,encC]
    rw [if_neg (by simp),if_pos trivial,ee _ (by omega),s3];simp only [Option.bind_some,if_true,bne_self_eq_false]
    rw [laws_FnRays.j3,if_neg (by simp),if_pos rfl,TreeDistance_eq (l2:=y.lv) (t2:=y.top) (d2:=y.dn) hp ho near.1 _ (by omega),ef _ (by omega),s6]
    simp only [Option.bind_some,if_true]
    rw [if_pos (show PM.dist q ⟨l2,t2,d2⟩ ⟨y.lv,y.top,y.dn⟩=_ from near.2.1),laws_FnRays.j4,if_neg (by simp)]
    exact fin k (by omega)
  ·
   have s1:(CS.res q l2 t2 d2 f1 f2 g1 g2).2≠0:=by
    unfold CS.res
    by_cases c1:(Pr q∧PM.Ok q ⟨l2,t2,d2⟩)∧isE f1 f2∧isE g1 g2
    ·
     rw [if_pos c1,if_pos (Decidable.not_not.mp fun z=>c ⟨c1,z⟩)];simp
    ·
     rw [if_neg c1];simp
   refine ⟨Kb+Kc+Kd+5,fun k hk=>?_⟩
   obtain ⟨k,rfl⟩:∃ m,k=m+1:=⟨k - 1,by omega⟩
   simp only [laws_FnRays.j2]
   rw [if_neg (by simp),if_neg s1]
   exact fin k (by omega)
 obtain ⟨Km,em⟩:=mid
 have hr:∀ i,i<(RO.res p lv top dn n d j).1.length→∃ c,(RO.res p lv top dn n d j).1[i]?=some (S c)∧(Pr p∧PM.Ok p ⟨lv,top,dn⟩)∧PM.Ok p c∧PM.dist p ⟨lv,top,dn⟩ c=i:=by
  intro i hi
  unfold RO.res at hi ⊢
  by_cases c:(Pr p∧PM.Ok p ⟨lv,top,dn⟩)∧isE n d
  ·
   rw [if_pos c] at hi ⊢
   by_cases e:0≤j∧j≤12
   ·
    rw [if_pos e] at hi ⊢
    have hz:(rayF p n d j.toNat ⟨lv,top,dn⟩ [⟨lv,top,dn⟩]).2=0:=by
     have:∀ (m:Nat) (b:PM.Ball) (acc:List S25),(rayF p n d m b acc).2=0∨(rayF p n d m b acc).1=[]:=by
      intro m
      induction m with
      | zero=>intro b acc;exact Or.inl rfl
      | succ m ih=>
       intro b acc
       unfold rayF
       cases nxt p n d b with
       | none=>exact Or.inr rfl
       | some c=>exact ih c _
     rcases this j.toNat ⟨lv,top,dn⟩ [⟨lv,top,dn⟩] with h|h
     ·
      exact h
     ·
      rw [h] at hi;simp at hi
    obtain ⟨x,x1,x2,x3⟩:=ray_dist c.1.1 c.1.2 (j:=j.toNat) (n:=n) (d:=d) (L:=(rayF p n d j.toNat ⟨lv,top,dn⟩ [⟨lv,top,dn⟩]).1) (Prod.ext rfl hz) i hi
    exact ⟨x,x1,c.1,x2,x3⟩
   ·
    rw [if_neg e] at hi;simp at hi
  ·
   rw [if_neg c] at hi;simp at hi
 have hlen:=RO.res_len p lv top dn n d j
 have go:∀ (w i k:Nat),i+w=(RO.res p lv top dn n d j).1.length→K3+K4+K5+K6+K7+K8+K9+Ka+Km+300+w≤k→laws_FnRays.l0 k l p (RO.res p lv top dn n d j).1 (i:Int) lv top dn=some true:=by
  intro w
  induction w with
  | zero=>
   intro i k hi hk
   obtain ⟨k,rfl⟩:∃ m,k=m+1:=⟨k - 1,by omega⟩
   simp only [laws_FnRays.l0]
   rw [if_neg (by omega),e3 k (by omega)];simp only [Option.bind_some]
   unfold impl_DistanceToLine.f
   rw [e4 k (by omega),e5 k (by omega),e6 k (by omega),e7 k (by omega),e8 k (by omega),e9 k (by omega),ea k (by omega)]
   have s:CS.res q l2 t2 d2 f1 f2 g1 g2=DL.res q l2 t2 d2 f1 f2 g1 g2:=rfl
   simp only [Option.bind_some,if_true,beq_self_eq_true,Bool.not_true,Bool.or_false,bne_self_eq_false]
   rw [if_pos (by rw [s]),if_pos (by rw [s])]
   simp only [Bool.false_eq_true,if_false]
   exact em k (by omega)
  | succ w ih=>
   intro i k hi hk
   obtain ⟨k,rfl⟩:∃ m,k=m+1:=⟨k - 1,by omega⟩
   obtain ⟨c,c1,c2,c3,c4⟩:=hr i (by omega)
   simp only [laws_FnRays.l0]
   rw [if_pos (by omega),if_pos (by omega),rdB3 _ _ _ c1]
   simp only [S]
   rw [TreeDistance_eq c2.1 c2.2 c3 k (by omega)]
   simp only [Option.bind_some,if_true]
   rw [if_pos (show PM.dist p ⟨lv,top,dn⟩ ⟨c.lv,c.top,c.dn⟩=_ from c4),w64 (n:=(i:Int)+1) (by omega) (by omega),show (i:Int)+1=((i+1:Nat):Int) by omega]
   exact ih (i+1) k (by omega) (by omega)
 refine ⟨K0+K1+K2+(K3+K4+K5+K6+K7+K8+K9+Ka+Km+300+(RO.res p lv top dn n d j).1.length)+100+1,?_⟩
 unfold laws_FnRays.f laws_big.f
 rw [decide_eq_false hl]
 simp only [Option.bind_some]
 rw [if_neg (by simp),e0 _ (by omega)];simp only [Option.bind_some]
 rw [e1 _ (by omega),e2 _ (by omega)];simp only [Option.bind_some,if_true]
 rw [balls5_eq _ (by omega) _ (by omega)];simp only [Option.bind_some,laws_FnRays.j0]
 rw [if_neg (by simp)]
 exact go (RO.res p lv top dn n d j).1.length 0 _ (by omega) (by omega)

end Go.Proofs.Ytabcckoeilegnaa.Pure
