/- What the law FnMoves says of the printed functions holds for every code: it answers true. -/
import Derived.Test.YtlpmefmaplhfdaaQLFnMoves
import Derived.Test.YtlpmefmaplhfdaaMath
import Derived.Laws.Bits64b
import Derived.Lib.BitFns
set_option linter.unusedVariables false
set_option linter.unusedSimpArgs false
namespace Go.Proofs.Ytlpmefmaplhfdaa.Pure
open Go.RowKit Go.Proofs.Ytlpmefmaplhfdaa.PAll Go.Proofs.YtlpmefmaplhfdaaW.PrintWords Go.Proofs.YtlpmefmaplhfdaaW.PrintLast PM

theorem w64 {n:Int} (h1 : -9223372036854775808≤n) (h2:n≤9223372036854775807):wrap64 n=n:=by unfold wrap64;omega
theorem rd_nat (l:List Int) (i:Nat) (h:i<l.length):l[i]?=some (rd l (i:Int)):=by
 unfold rd;simp [List.getD_eq_getElem?_getD,h]

theorem prime_cases (p:Int):(spec_l01Prime.f p=some true∧(p=2∨p=3∨p=5∨p=7))∨(spec_l01Prime.f p=some false∧¬ (p=2∨p=3∨p=5∨p=7)):=by
 unfold spec_l01Prime.f
 by_cases h2:p=2
 ·
  simp [h2]
 by_cases h3:p=3
 ·
  simp [h3]
 by_cases h5:p=5
 ·
  simp [h5]
 by_cases h7:p=7
 ·
  simp [h7]
 ·
  simp [h2,h3,h5,h7]

theorem isPrime_eq (p:Int):impl_isPrime.f p=spec_l01Prime.f p:=rfl

theorem in_eq (n a b:Int):spec_l01In.f n a b=some (decide (a≤n∧n≤b)):=by
 unfold spec_l01In.f
 by_cases h:a≤n
 ·
  rw [if_pos h];simp [h]
 ·
  rw [if_neg (by omega)];simp [h]

/-- all numbers of a list have absolute values of at most so much -/
def allB (m:Int) (l:List Int):Bool:=l.all fun x=>decide (-m≤x∧x≤m)
theorem allB_drop (m:Int) (l:List Int) (i:Nat) (h:i<l.length):allB m (l.drop i)=(decide (-m≤rd l i∧rd l i≤m) && allB m (l.drop (i+1))):=by
 have h1:=rd_nat l i h
 rw [List.getElem?_eq_getElem h] at h1
 rw [List.drop_eq_getElem_cons h,Option.some.inj h1];rfl
theorem within_eq (m:Int) (hm:0≤m) (hm2:m≤1000000000000000000) (l:List Int) (hl:l.length≤1048576):∃ K,∀ k,K≤k→impl_within.f k m l=some (allB m l):=by
 have go:∀ (d k i:Nat),i+d=l.length→d<k→impl_within.l0 k m l l.length i=some (allB m (l.drop i)):=by
  intro d
  induction d with
  | zero=>
   intro k i h2 h3
   obtain ⟨k,rfl⟩:∃ m,k=m+1:=⟨k - 1,by omega⟩
   simp only [impl_within.l0]
   rw [if_neg (by omega),List.drop_eq_nil_of_le (by omega)];rfl
  | succ d ih=>
   intro k i h2 h3
   obtain ⟨k,rfl⟩:∃ m,k=m+1:=⟨k - 1,by omega⟩
   simp only [impl_within.l0]
   rw [if_pos (by omega),if_pos (by omega),if_pos (by omega),allB_drop _ _ _ (by omega),w64 (n:=-m) (by omega) (by omega),w64 (by omega) (by omega)]
   have:=ih k (i+1) (by omega) (by omega)
   rw [show ((i:Int)+1)=((i+1:Nat):Int) from by omega,this]
   by_cases h:rd l (i:Int) < -m
   ·
    rw [if_pos h,decide_eq_false (by omega)];rfl
   ·
    rw [if_neg h]
    by_cases h':rd l (i:Int)>m
    ·
     rw [if_pos h',decide_eq_false (by omega)];rfl
    ·
     rw [if_neg h',decide_eq_true (by omega)];rfl
 exact ⟨l.length+1,fun k hk=>by
  have:=go l.length k 0 (by omega) (by omega)
  simpa [impl_within.f] using this⟩

theorem all_drop {α:Type} (P:α→Bool) (l:List α) (i:Nat) (h:i<l.length):(l.drop i).all P=(P (l[i]'h) && (l.drop (i+1)).all P):=by
 rw [List.drop_eq_getElem_cons h];rfl
theorem tmod_zero_iff (n p:Int):n.tmod p=0↔p ∣ n:=Int.dvd_iff_tmod_eq_zero.symm

theorem val_eq (p n:Int) (hp:Pr p) (hn:n≠0) (hb:n.natAbs≤9223372036854775807):∀ k,70≤k→spec_l01Val.f k p n=some (vl p n:Int):=by
 have hp2:=hp.pos
 have go:∀ (v k:Nat) (n s:Int),n≠0→n.natAbs≤9223372036854775807→vl p n=v→v<k→0≤s→s+v≤1000000→spec_l01Val.l0 k p n s=some (s+v):=by
  intro v
  induction v with
  | zero=>
   intro k n s hn hb hv hk h0 h1
   obtain ⟨k,rfl⟩:∃ m,k=m+1:=⟨k - 1,by omega⟩
   simp only [spec_l01Val.l0]
   rw [if_neg (by omega),if_neg (by rw [tmod_zero_iff];exact (vl_zero_iff hp hn).1 hv)]
   simp
  | succ v ih=>
   intro k n s hn hb hv hk h0 h1
   obtain ⟨k,rfl⟩:∃ m,k=m+1:=⟨k - 1,by omega⟩
   have hd:p ∣ n:=Decidable.byContradiction fun h=>by have:=(vl_zero_iff hp hn).2 h;omega
   obtain ⟨g1,g2,g3⟩:=vl_step hp hn hd
   simp only [spec_l01Val.l0]
   rw [if_neg (by omega),if_pos (by rw [tmod_zero_iff];exact hd),w64 (n:=n.tdiv p) (by omega) (by omega),w64 (n:=s+1) (by omega) (by omega),ih k _ _ g1 (by omega) (by omega) (by omega) (by omega) (by omega)]
   congr 1;omega
 intro k hk
 have hle:=vl_le63 hp hn (by omega)
 unfold spec_l01Val.f
 rw [go (vl p n) k n 0 hn hb rfl (by omega) (by omega) (by omega)]
 congr 1;omega

theorem valuation_eq (p n:Int) (hp:Pr p) (hb:n.natAbs≤9223372036854775807):∀ k,70≤k→impl_valuation.f k p n=some (vz p n):=by
 have hp2:=hp.pos
 have go:∀ (v k:Nat) (n s:Int),n≠0→n.natAbs≤9223372036854775807→vl p n=v→v<k→0≤s→s+v≤1000000→impl_valuation.l0 k p n s=some (s+v):=by
  intro v
  induction v with
  | zero=>
   intro k n s hn hb hv hk h0 h1
   obtain ⟨k,rfl⟩:∃ m,k=m+1:=⟨k - 1,by omega⟩
   simp only [impl_valuation.l0]
   rw [if_neg (by omega),if_neg (by rw [tmod_zero_iff];exact (vl_zero_iff hp hn).1 hv)]
   simp
  | succ v ih=>
   intro k n s hn hb hv hk h0 h1
   obtain ⟨k,rfl⟩:∃ m,k=m+1:=⟨k - 1,by omega⟩
   have hd:p ∣ n:=Decidable.byContradiction fun h=>by have:=(vl_zero_iff hp hn).2 h;omega
   obtain ⟨g1,g2,g3⟩:=vl_step hp hn hd
   simp only [impl_valuation.l0]
   rw [if_neg (by omega),if_pos (by rw [tmod_zero_iff];exact hd),w64 (n:=n.tdiv p) (by omega) (by omega),w64 (n:=s+1) (by omega) (by omega),ih k _ _ g1 (by omega) (by omega) (by omega) (by omega) (by omega)]
   congr 1;omega
 intro k hk
 unfold impl_valuation.f vz
 by_cases h0:n=0
 ·
  rw [if_pos h0,if_pos h0]
 ·
  have hle:=vl_le63 hp h0 (by omega)
  rw [if_neg h0,if_neg h0,go (vl p n) k n 0 h0 hb rfl (by omega) (by omega) (by omega)]
  congr 1;omega

theorem pw_bd (p k:Int) (hp:Pr p) (h:k≤20):1≤pw p k∧pw p k≤79792266297612001:=by
 have h1:=pw_pos2 hp k
 have h2:=pw_le hp h
 have h3:pw p 20≤79792266297612001:=by
  rcases hp with rfl|rfl|rfl|rfl <;> decide +kernel
 omega
theorem pw_bd12 (p k:Int) (hp:Pr p) (h:k≤12):1≤pw p k∧pw p k≤13841287201:=by
 have h1:=pw_pos2 hp k
 have h2:=pw_le hp h
 have h3:pw p 12≤13841287201:=by
  rcases hp with rfl|rfl|rfl|rfl <;> decide +kernel
 omega
theorem pw_bd6 (p k:Int) (hp:Pr p) (h:k≤6):1≤pw p k∧pw p k≤117649:=by
 have h1:=pw_pos2 hp k
 have h2:=pw_le hp h
 have h3:pw p 6≤117649:=by
  rcases hp with rfl|rfl|rfl|rfl <;> decide +kernel
 omega
theorem pw_succ (p k:Int) (h:0≤k):pw p (k+1)=pw p k*p:=by
 rw [pw_add h (by omega),pw_one]

theorem l01Power_eq (p n:Int) (hp:Pr p) (h:n≤20) (h0 : -9223372036854775808≤n):∀ k,30≤k→spec_l01Power.f k p n=some (pw p n):=by
 have hp2:=hp.pos
 have go:∀ (d k:Nat) (n out j:Int),n=d→0≤j→j+d≤20→d<k→out=pw p j→spec_l01Power.l0 k p n out=some (pw p (j+d)):=by
  intro d
  induction d with
  | zero=>
   intro k n out j hn hj hs hk ho
   obtain ⟨k,rfl⟩:∃ m,k=m+1:=⟨k - 1,by omega⟩
   simp only [spec_l01Power.l0]
   rw [if_neg (by omega),ho];simp
  | succ d ih=>
   intro k n out j hn hj hs hk ho
   obtain ⟨k,rfl⟩:∃ m,k=m+1:=⟨k - 1,by omega⟩
   simp only [spec_l01Power.l0]
   have hb:=pw_bd p (j+1) hp (by omega)
   have hs1:=pw_succ p j hj
   rw [if_pos (by omega),w64 (n:=n - 1) (by omega) (by omega),ho,← hs1,w64 (by omega) (by omega),ih k (n - 1) _ (j+1) (by omega) (by omega) (by omega) (by omega) rfl]
   congr 2;omega
 intro k hk
 unfold spec_l01Power.f
 by_cases h1:n≤0
 ·
  obtain ⟨k,rfl⟩:∃ m,k=m+1:=⟨k - 1,by omega⟩
  simp only [spec_l01Power.l0]
  rw [if_neg (by omega)]
  simp [pw,show n.toNat=0 by omega]
 ·
  rw [go n.toNat k n 1 0 (by omega) (by omega) (by omega) (by omega) (by simp [pw])]
  congr 2;omega

theorem power_eq (p n:Int) (hp:Pr p) (h:n≤20):∀ k,30≤k→impl_power.f k p n=some (pw p n):=by
 have hp2:=hp.pos
 have go:∀ (d k:Nat) (n out j:Int),n=j+d→0≤j→n≤20→d<k→out=pw p j→impl_power.l0 k p out n j=some (pw p n):=by
  intro d
  induction d with
  | zero=>
   intro k n out j hn hj hs hk ho
   obtain ⟨k,rfl⟩:∃ m,k=m+1:=⟨k - 1,by omega⟩
   simp only [impl_power.l0]
   rw [if_neg (by omega),ho]
   congr 2;omega
  | succ d ih=>
   intro k n out j hn hj hs hk ho
   obtain ⟨k,rfl⟩:∃ m,k=m+1:=⟨k - 1,by omega⟩
   simp only [impl_power.l0]
   have hb:=pw_bd p (j+1) hp (by omega)
   have hs1:=pw_succ p j hj
   rw [if_pos (by omega),w64 (n:=j+1) (by omega) (by omega),ho,← hs1,w64 (by omega) (by omega),ih k n _ (j+1) (by omega) (by omega) (by omega) (by omega) rfl]
 intro k hk
 unfold impl_power.f
 by_cases h1:n≤0
 ·
  obtain ⟨k,rfl⟩:∃ m,k=m+1:=⟨k - 1,by omega⟩
  simp only [impl_power.l0]
  rw [if_neg (by omega)]
  simp [pw,show n.toNat=0 by omega]
 ·
  rw [go n.toNat k n 1 0 (by omega) (by omega) (by omega) (by omega) (by simp [pw])]

theorem mx_neg (a:Int) (h:a.natAbs≤9223372036854775807):mx a (wrap64 (-a))=(a.natAbs:Int):=by
 rw [w64 (by omega) (by omega)];unfold mx;split <;> omega
theorem gcd_tmod (a b:Int):Int.gcd b (a.tmod b)=Int.gcd a b:=by
 have h:=Int.gcd_add_mul_left_right b (a.tmod b) (a.tdiv b)
 rw [Int.tmod_add_mul_tdiv] at h
 rw [Int.gcd_comm a b];exact h.symm

theorem l01Gcd_eq (a b:Int) (ha:a.natAbs≤9223372036854775807) (hb:b.natAbs≤9223372036854775807):∃ K,∀ k,K≤k→spec_l01Gcd.f k a b=some (Int.gcd a b:Int):=by
 have go:∀ (d k:Nat) (a b:Int),a.natAbs≤9223372036854775807→b.natAbs≤9223372036854775807→b.natAbs≤d→d<k→spec_l01Gcd.l0 k a b=some (Int.gcd a b:Int):=by
  intro d
  induction d with
  | zero=>
   intro k a b ha hb0 hb hk
   obtain ⟨k,rfl⟩:∃ m,k=m+1:=⟨k - 1,by omega⟩
   obtain rfl:b=0:=by omega
   simp only [spec_l01Gcd.l0]
   rw [if_pos trivial,mx_neg a ha,Int.gcd_zero_right]
  | succ d ih=>
   intro k a b ha hb0 hb hk
   obtain ⟨k,rfl⟩:∃ m,k=m+1:=⟨k - 1,by omega⟩
   simp only [spec_l01Gcd.l0]
   by_cases h:b=0
   ·
    rw [if_pos h,mx_neg a ha,h,Int.gcd_zero_right]
   ·
    rw [if_neg h,ih k b (a.tmod b) hb0 (by
     have:(a.tmod b).natAbs<b.natAbs:=by rw [Int.natAbs_tmod];exact Nat.mod_lt _ (by omega)
     omega) (by
     have:(a.tmod b).natAbs<b.natAbs:=by rw [Int.natAbs_tmod];exact Nat.mod_lt _ (by omega)
     omega) (by omega),gcd_tmod]
 exact ⟨b.natAbs+1,fun k hk=>by unfold spec_l01Gcd.f;exact go b.natAbs k a b ha hb (Nat.le_refl _) (by omega)⟩

theorem gcd_eq (a b:Int) (ha:a.natAbs≤9223372036854775807) (hb:b.natAbs≤9223372036854775807):∃ K,∀ k,K≤k→impl_gcd.f k a b=some (Int.gcd a b:Int):=by
 have go:∀ (d k:Nat) (a b:Int),a.natAbs≤9223372036854775807→b.natAbs≤9223372036854775807→b.natAbs≤d→d<k→impl_gcd.l0 k a b=some (Int.gcd a b:Int):=by
  intro d
  induction d with
  | zero=>
   intro k a b ha hb0 hb hk
   obtain ⟨k,rfl⟩:∃ m,k=m+1:=⟨k - 1,by omega⟩
   obtain rfl:b=0:=by omega
   simp only [impl_gcd.l0]
   rw [if_pos trivial,mx_neg a ha,Int.gcd_zero_right]
  | succ d ih=>
   intro k a b ha hb0 hb hk
   obtain ⟨k,rfl⟩:∃ m,k=m+1:=⟨k - 1,by omega⟩
   simp only [impl_gcd.l0]
   by_cases h:b=0
   ·
    rw [if_pos h,mx_neg a ha,h,Int.gcd_zero_right]
   ·
    rw [if_neg h,ih k b (a.tmod b) hb0 (by
     have:(a.tmod b).natAbs<b.natAbs:=by rw [Int.natAbs_tmod];exact Nat.mod_lt _ (by omega)
     omega) (by
     have:(a.tmod b).natAbs<b.natAbs:=by rw [Int.natAbs_tmod];exact Nat.mod_lt _ (by omega)
     omega) (by omega),gcd_tmod]
 exact ⟨b.natAbs+1,fun k hk=>by unfold impl_gcd.f;exact go b.natAbs k a b ha hb (Nat.le_refl _) (by omega)⟩

theorem l01End_eq (n d:Int):∃ K,∀ k,K≤k→spec_l01End.f k n d=some (decide (isE n d)):=by
 by_cases h0:d=0
 ·
  refine ⟨0,fun k _=>?_⟩
  unfold spec_l01End.f
  rw [if_pos h0]
  congr 1
  by_cases h:n=1
  ·
   simp [h,h0,isE]
  ·
   simp [h,h0,isE]
 ·
  by_cases h1:1≤d∧d≤1000000
  ·
   by_cases h2 : -1000000≤n∧n≤1000000
   ·
    obtain ⟨K,hK⟩:=l01Gcd_eq n d (by omega) (by omega)
    refine ⟨K,fun k hk=>?_⟩
    unfold spec_l01End.f
    rw [if_neg h0,in_eq,in_eq,hK k hk,decide_eq_true h1,decide_eq_true h2]
    simp only [Option.bind_some,if_true]
    congr 1
    rw [Bool.eq_iff_iff]
    simp [isE,h0,h1,h2]
    omega
   ·
    refine ⟨0,fun k _=>?_⟩
    unfold spec_l01End.f
    rw [if_neg h0,in_eq,in_eq,decide_eq_true h1,decide_eq_false h2]
    simp only [Option.bind_some,if_true]
    rw [if_neg (by simp),decide_eq_false]
    unfold isE;omega
  ·
   refine ⟨0,fun k _=>?_⟩
   unfold spec_l01End.f
   rw [if_neg h0,in_eq,decide_eq_false h1]
   simp only [Option.bind_some]
   rw [if_neg (by simp),decide_eq_false]
   unfold isE;omega

theorem IsEnd_eq (n d:Int):∃ K,∀ k,K≤k→impl_IsEnd.f k n d=some (decide (isE n d)):=by
 by_cases h0:d=0
 ·
  refine ⟨0,fun k _=>?_⟩
  unfold impl_IsEnd.f
  rw [if_pos h0]
  congr 1
  by_cases h:n=1
  ·
   simp [h,h0,isE]
  ·
   simp [h,h0,isE]
 ·
  obtain ⟨K1,hw⟩:=within_eq 1000000 (by omega) (by omega) [n,d] (by simp)
  have ew:allB 1000000 [n,d]=decide ((-1000000≤n∧n≤1000000)∧-1000000≤d∧d≤1000000):=by simp [allB]
  rw [ew] at hw
  by_cases h1:(-1000000≤n∧n≤1000000)∧-1000000≤d∧d≤1000000
  ·
   obtain ⟨K2,hK⟩:=gcd_eq n d (by omega) (by omega)
   refine ⟨K1+K2,fun k hk=>?_⟩
   unfold impl_IsEnd.f
   rw [if_neg h0,hw k (by omega),decide_eq_true h1,hK k (by omega)]
   simp only [Option.bind_some,if_true]
   by_cases h2:d>0
   ·
    rw [if_pos h2]
    congr 1
    rw [Bool.eq_iff_iff]
    simp [isE,h0,h1]
    omega
   ·
    rw [if_neg h2,decide_eq_false]
    unfold isE;omega
  ·
   refine ⟨K1,fun k hk=>?_⟩
   unfold impl_IsEnd.f
   rw [if_neg h0,hw k (by omega),decide_eq_false h1]
   simp only [Option.bind_some]
   rw [if_neg (by simp),decide_eq_false]
   unfold isE;omega

theorem okSplit (p:Int) (lv top dn:Int):PM.Ok p ⟨lv,top,dn⟩↔(-6≤lv∧lv≤6∧0≤dn∧dn≤6)∧((lv+dn≤0∧top=0∧dn=0)∨(0<lv+dn∧0≤top∧top<pw p (lv+dn)∧(dn=0∨¬ p ∣ top))):=by
 unfold PM.Ok;simp only;constructor
 ·
  intro ⟨a,b,c,d,e⟩;exact ⟨⟨a,b,c,d⟩,e⟩
 ·
  intro ⟨⟨a,b,c,d⟩,e⟩;exact ⟨a,b,c,d,e⟩
theorem l01Is_eq (p lv top dn:Int):∀ k,32≤k→spec_l01Is.f k p lv top dn=some (decide (Pr p∧PM.Ok p ⟨lv,top,dn⟩)):=by
 intro k hk
 obtain ⟨k,rfl⟩:∃ m,k=m+1:=⟨k - 1,by omega⟩
 have jt:spec_l01Is.j0 (k+1) p true lv top dn=some false:=by simp [spec_l01Is.j0]
 unfold spec_l01Is.f
 rcases prime_cases p with ⟨h,hp⟩|⟨h,hp⟩
 ·
  have hp:Pr p:=hp
  rw [h,in_eq,in_eq]
  simp only [Option.bind_some,if_true]
  by_cases h1 : -6≤lv∧lv≤6
  ·
   rw [decide_eq_true h1,if_pos rfl]
   by_cases h2:0≤dn∧dn≤6
   ·
    rw [decide_eq_true h2]
    simp only [Bool.not_true,spec_l01Is.j0]
    rw [if_neg (by simp),w64 (by omega) (by omega)]
    by_cases h3:lv+dn≤0
    ·
     rw [if_pos h3]
     by_cases h4:top=0
     ·
      rw [if_pos h4]
      congr 1;rw [Bool.eq_iff_iff]
      simp only [decide_eq_true_eq,okSplit,beq_iff_eq]
      constructor
      ·
       intro h5;exact ⟨hp,⟨by omega,Or.inl ⟨h3,h4,h5⟩⟩⟩
      ·
       intro ⟨_,_,h5⟩;omega
     ·
      rw [if_neg h4,decide_eq_false]
      rw [okSplit];intro ⟨_,_,h5⟩;omega
    ·
     rw [if_neg h3,l01Power_eq p _ hp (by omega) (by omega) k (by omega)]
     have hb:=pw_bd12 p (lv+dn) hp (by omega)
     simp only [Option.bind_some]
     rw [in_eq,w64 (by omega) (by omega)]
     simp only [Option.bind_some]
     by_cases h4:0≤top∧top≤pw p (lv+dn) - 1
     ·
      rw [decide_eq_true h4,if_pos rfl]
      by_cases h5:dn=0
      ·
       rw [if_pos h5,decide_eq_true]
       rw [okSplit];exact ⟨hp,by omega,Or.inr ⟨by omega,by omega,by omega,Or.inl h5⟩⟩
      ·
       have hp2:=hp.pos
       rw [if_neg h5,if_neg (by omega)]
       congr 1;rw [Bool.eq_iff_iff]
       simp only [decide_eq_true_eq,okSplit,bne_iff_ne,ne_eq,tmod_zero_iff]
       constructor
       ·
        intro h6;exact ⟨hp,by omega,Or.inr ⟨by omega,by omega,by omega,Or.inr h6⟩⟩
       ·
        intro ⟨_,_,h6⟩ h7
        rcases h6 with h6|⟨_,_,_,h6⟩
        ·
         omega
        ·
         rcases h6 with h6|h6
         ·
          exact h5 h6
         ·
          exact h6 h7
     ·
      rw [decide_eq_false h4,if_neg (by simp),decide_eq_false]
      rw [okSplit];intro ⟨_,_,h5⟩;omega
   ·
    rw [decide_eq_false h2,Bool.not_false,jt,decide_eq_false]
    rw [okSplit];intro ⟨_,h5,_⟩;omega
  ·
   rw [decide_eq_false h1,if_neg (by simp),jt,decide_eq_false]
   rw [okSplit];intro ⟨_,h5,_⟩;omega
 ·
  rw [h]
  simp only [Option.bind_some]
  rw [if_neg (by simp),jt,decide_eq_false]
  intro ⟨h1,_⟩;exact hp h1

theorem isLevel_eq (n:Int):impl_isLevel.f n=some (decide (-6≤n∧n≤6)):=by
 unfold impl_isLevel.f
 by_cases h : -6≤n
 ·
  rw [if_pos h];simp [h]
 ·
  rw [if_neg (by omega)];simp [h]
theorem IsBall_eq (p lv top dn:Int):∀ k,32≤k→impl_IsBall.f k p lv top dn=some (decide (Pr p∧PM.Ok p ⟨lv,top,dn⟩)):=by
 intro k hk
 obtain ⟨k,rfl⟩:∃ m,k=m+1:=⟨k - 1,by omega⟩
 have jt:impl_IsBall.j0 (k+1) p true lv top dn=some false:=by simp [impl_IsBall.j0]
 unfold impl_IsBall.f
 rw [isPrime_eq]
 rcases prime_cases p with ⟨h,hp⟩|⟨h,hp⟩
 ·
  have hp:Pr p:=hp
  rw [h,isLevel_eq]
  simp only [Option.bind_some,if_true]
  by_cases h1 : -6≤lv∧lv≤6
  ·
   rw [decide_eq_true h1,if_pos rfl]
   by_cases h2:dn<0
   ·
    rw [if_pos h2,jt,decide_eq_false]
    rw [okSplit];intro ⟨_,h5,_⟩;omega
   ·
    rw [if_neg h2]
    by_cases h2':dn>6
    ·
     rw [decide_eq_true h2',jt,decide_eq_false]
     rw [okSplit];intro ⟨_,h5,_⟩;omega
    ·
     rw [decide_eq_false h2']
     simp only [impl_IsBall.j0]
     rw [if_neg (by simp),w64 (by omega) (by omega)]
     by_cases h3:lv+dn≤0
     ·
      rw [if_pos h3]
      by_cases h4:top=0
      ·
       rw [if_pos h4]
       congr 1;rw [Bool.eq_iff_iff]
       simp only [decide_eq_true_eq,okSplit,beq_iff_eq]
       constructor
       ·
        intro h5;exact ⟨hp,⟨by omega,Or.inl ⟨h3,h4,h5⟩⟩⟩
       ·
        intro ⟨_,_,h5⟩;omega
      ·
       rw [if_neg h4,decide_eq_false]
       rw [okSplit];intro ⟨_,_,h5⟩;omega
     ·
      rw [if_neg h3]
      have hb:=pw_bd12 p (lv+dn) hp (by omega)
      by_cases h4:top≥0
      ·
       rw [if_pos h4,power_eq p _ hp (by omega) k (by omega)]
       simp only [Option.bind_some]
       by_cases h4':top<pw p (lv+dn)
       ·
        rw [if_pos h4']
        by_cases h5:dn=0
        ·
         rw [if_pos h5,decide_eq_true]
         rw [okSplit];exact ⟨hp,by omega,Or.inr ⟨by omega,by omega,by omega,Or.inl h5⟩⟩
        ·
         have hp2:=hp.pos
         rw [if_neg h5,if_neg (by omega)]
         congr 1;rw [Bool.eq_iff_iff]
         simp only [decide_eq_true_eq,okSplit,bne_iff_ne,ne_eq,tmod_zero_iff]
         constructor
         ·
          intro h6;exact ⟨hp,by omega,Or.inr ⟨by omega,by omega,by omega,Or.inr h6⟩⟩
         ·
          intro ⟨_,_,h6⟩ h7
          rcases h6 with h6|⟨_,_,_,h6⟩
          ·
           omega
          ·
           rcases h6 with h6|h6
           ·
            exact h5 h6
           ·
            exact h6 h7
       ·
        rw [if_neg h4',decide_eq_false]
        rw [okSplit];intro ⟨_,_,h5⟩;omega
      ·
       rw [if_neg h4,decide_eq_false]
       rw [okSplit];intro ⟨_,_,h5⟩;omega
  ·
   rw [decide_eq_false h1,if_neg (by simp),jt,decide_eq_false]
   rw [okSplit];intro ⟨_,h5,_⟩;omega
 ·
  rw [h]
  simp only [Option.bind_some]
  rw [if_neg (by simp),jt,decide_eq_false]
  intro ⟨h1,_⟩;exact hp h1

def bOk (p:Int) (x:S28):Bool:=decide (PM.Ok p ⟨x.f0,x.f1,x.f2⟩)
theorem rdB (l:List S28) (i:Nat) (h:i<l.length):rd_T28 l (i:Int)=l[i]'h:=by
 unfold rd_T28;simp [List.getD_eq_getElem?_getD,h]

theorem l01Code_eq (p:Int) (l:List S28) (hl:l.length≤1000):∃ K,∀ k,K≤k→spec_l01Code.f k p l=some (if Pr p∧l.all (bOk p)=true then 0 else 1):=by
 rcases prime_cases p with ⟨h,hp⟩|⟨h,hp⟩
 ·
  have hp:Pr p:=hp
  have go:∀ (d i k:Nat),i+d=l.length→d+34≤k→spec_l01Code.l0 k p l i=some (if (l.drop i).all (bOk p)=true then 0 else 1):=by
   intro d
   induction d with
   | zero=>
    intro i k hi hk
    obtain ⟨k,rfl⟩:∃ m,k=m+1:=⟨k - 1,by omega⟩
    simp only [spec_l01Code.l0]
    rw [if_neg (by omega),List.drop_eq_nil_of_le (by omega)];rfl
   | succ d ih=>
    intro i k hi hk
    obtain ⟨k,rfl⟩:∃ m,k=m+1:=⟨k - 1,by omega⟩
    simp only [spec_l01Code.l0]
    rw [if_pos (by omega),if_pos (by omega),rdB l i (by omega),l01Is_eq _ _ _ _ k (by omega),all_drop (bOk p) l i (by omega),w64 (by omega) (by omega),show ((i:Int)+1)=((i+1:Nat):Int) from by omega,ih (i+1) k (by omega) (by omega)]
    simp only [Option.bind_some]
    show _=some (if (decide (PM.Ok _ _) && _)=true then _ else _)
    by_cases h:PM.Ok p ⟨(l[i]'(by omega)).f0,(l[i]'(by omega)).f1,(l[i]'(by omega)).f2⟩
    ·
     rw [decide_eq_true h,decide_eq_true ⟨hp,h⟩];simp
    ·
     rw [decide_eq_false h,decide_eq_false (fun g=>h g.2)];simp
  refine ⟨l.length+34,fun k hk=>?_⟩
  unfold spec_l01Code.f
  rw [h]
  simp only [Option.bind_some,if_true]
  have:=go l.length 0 k (by omega) (by omega)
  rw [show ((0:Nat):Int)=0 from rfl,List.drop_zero] at this
  rw [this]
  by_cases g:l.all (bOk p)=true
  ·
   rw [if_pos g,if_pos ⟨hp,g⟩]
  ·
   rw [if_neg g,if_neg (fun z=>g z.2)]
 ·
  refine ⟨0,fun k _=>?_⟩
  unfold spec_l01Code.f
  rw [h]
  simp only [Option.bind_some]
  rw [if_neg (by simp),if_neg (fun z=>hp z.1)]

theorem mul_bd2 {a b:Int} (A B:Int) (h1 : -A≤a) (h2:a≤A) (h3 : -B≤b) (h4:b≤B) : -(A*B)≤a*b∧a*b≤A*B:=by
 have hA:0≤A:=by omega
 have hB:0≤B:=by omega
 have h:(a*b).natAbs≤A.natAbs*B.natAbs:=by
  rw [Int.natAbs_mul];exact Nat.mul_le_mul (by omega) (by omega)
 rw [← Int.natAbs_mul] at h
 have:0≤A*B:=Int.mul_nonneg hA hB
 omega
theorem mn_min (a b:Int):mn a b=min a b:=by unfold mn;split <;> omega
theorem mx_max (a b:Int):mx a b=max a b:=by unfold mx;split <;> omega
theorem okb {p lv top dn:Int} (h:PM.Ok p ⟨lv,top,dn⟩) : -6≤lv∧lv≤6∧0≤dn∧dn≤6∧0≤top:=by
 unfold PM.Ok at h;simp only at h;omega
theorem mark_bd12 {p lv top dn:Int} (hp:Pr p) (h:PM.Ok p ⟨lv,top,dn⟩):0≤PM.mark p ⟨lv,top,dn⟩∧PM.mark p ⟨lv,top,dn⟩≤13841287201:=by
 have hb:=okb h
 have:=PM.mark_bd hp h
 have:=pw_bd12 p (lv+6) hp (by omega)
 simp only at *;omega

theorem mark_eq {p lv top dn:Int} (hp:Pr p) (h:PM.Ok p ⟨lv,top,dn⟩):∀ k,30≤k→impl_mark.f k p lv top dn=some (PM.mark p ⟨lv,top,dn⟩):=by
 intro k hk
 have hb:=okb h
 have hm:=mark_bd12 hp h
 unfold impl_mark.f
 rw [w64 (n:=6 - dn) (by omega) (by omega),power_eq p _ hp (by omega) k hk]
 simp only [Option.bind_some]
 unfold PM.mark at hm ⊢
 simp only at hm ⊢
 rw [w64 (by omega) (by omega)]

theorem u64w (n:Int):IntKind.u64.wrap n=n % 18446744073709551616:=by rw [IntKind.wrap_u64]
theorem u64s {n:Int} (h0:0≤n) (h1:n<18446744073709551616):IntKind.u64.wrap n=n:=by rw [u64w];omega
theorem and_low {a:Int} (h0:0≤a) (h1:a<18446744073709551616):Go.bits .and .u64 a 4294967295=a % 4294967296:=by
 obtain ⟨n,rfl⟩:=Int.eq_ofNat_of_zero_le h0
 rw [show (4294967295:Int)=((4294967295:Nat):Int) from rfl,Go.bits_and_u64_nat n 4294967295 (by omega) (by omega)]
 rw [show (4294967295:Nat)=2 ^ 32 - 1 from rfl,Nat.and_two_pow_sub_one_eq_mod]
 omega
theorem or_sum {a b:Int} (s:Nat) (h0:0≤a) (h1:0≤b) (h2:b<2 ^ s) (h3:a*2 ^ s<18446744073709551616) (hs:s≤63):Go.bits .or .u64 (a*2 ^ s) b=a*2 ^ s+b:=by
 obtain ⟨n,rfl⟩:=Int.eq_ofNat_of_zero_le h0
 obtain ⟨m,rfl⟩:=Int.eq_ofNat_of_zero_le h1
 have e2:m<2 ^ s:=by
  have:((2 ^ s:Nat):Int)=(2:Int) ^ s:=by simp
  omega
 have e3:(2:Nat) ^ s≤2 ^ 63:=Nat.pow_le_pow_right (by omega) hs
 have e4:((n*2 ^ s:Nat):Int)=(n:Int)*2 ^ s:=by simp
 rw [← e4] at h3 ⊢
 rw [Go.bits_or_u64_nat _ _ (by omega) (by omega),Nat.mul_comm,← Nat.two_pow_add_eq_or_of_lt e2]
 omega
theorem bitLen_bd:∀ (x:Nat),x≠0→x<2 ^ 64→1≤Lib.bitLen x∧2 ^ (Lib.bitLen x - 1)≤x∧x<2 ^ Lib.bitLen x:=by
 intro x
 induction x using Nat.strongRecOn with
 | _ x ih=>
  intro h0 h1
  rw [Lib.bitLen_half x h0 h1]
  by_cases h2:x / 2=0
  ·
   rw [h2,show Lib.bitLen 0=0 from rfl]
   have:x=1:=by omega
   subst this;exact ⟨by omega,by decide,by decide⟩
  ·
   obtain ⟨a,b,c⟩:=ih (x / 2) (by omega) h2 (by omega)
   obtain ⟨l,hl⟩:∃ l,Lib.bitLen (x / 2)=l+1:=⟨Lib.bitLen (x / 2) - 1,by omega⟩
   rw [hl] at b c ⊢
   rw [show 1+(l+1) - 1=(l+1 - 1)+1 by omega,show 1+(l+1)=(l+1)+1 by omega,Nat.pow_succ,Nat.pow_succ]
   omega
theorem div_l0 {yN s y1 y0 U u un0:Int} (D:Dg U u y1 y0):∀ (m:Nat) (q r:Int) (k:Nat),2*m+3≤k→4294967296≤r+m*2147483648→0≤r→r<4294967296→r=U - q*y1→dig U u y1 y0≤q→q≤4294967297→∃ k',k≤k'+(2*m+3)∧bits_Div64.l0 k yN s y1 y0 U u un0 q r=bits_Div64.j2 k' yN s y1 y0 U u un0 (dig U u y1 y0):=by
 intro m
 induction m with
 | zero=>intro q r k _ h _ h2;omega
 | succ m ih=>
  intro q r k hk hm h0 h1 hr hq hq2
  have hn:=D.nn
  have Da:=D.a;have Db:=D.b;have Dc:=D.c;have Dd:=D.d;have Dg:=D.g;have Dh:=D.h
  obtain ⟨k,rfl⟩:∃ j,k=j+2:=⟨k - 2,by omega⟩
  have e:bits_Div64.l0 (k+2) yN s y1 y0 U u un0 q r=bits_Div64.j1 (k+1) yN s y1 y0 U u un0 q r (decide (dig U u y1 y0<q)):=by
   rw [show k+2=(k+1)+1 from rfl,bits_Div64.l0]
   by_cases hB:q≥4294967296
   ·
    rw [if_pos hB,decide_eq_true (by have:=D.top;omega)]
   ·
    rw [if_neg hB]
    have hc:=D.cond hr
    have b1:q*y0≤4294967295*4294967295:=Int.mul_le_mul (by omega) (by omega) (by omega) (by omega)
    have b0:0≤q*y0:=Int.mul_nonneg (by omega) (by omega)
    rw [u64s (n:=q*y0) b0 (by omega),u64s (n:=4294967296*r) (by omega) (by omega),u64s (n:=4294967296*r+u) (by omega) (by omega)]
    rw [decide_eq_decide.mpr hc.symm]
  rw [e,bits_Div64.j1]
  by_cases hc:dig U u y1 y0<q
  ·
   rw [decide_eq_true hc,if_pos rfl,u64s (n:=r+y1) (by omega) (by omega),u64s (n:=q - 1) (by omega) (by omega)]
   have hr':r+y1=U - (q - 1)*y1:=by rw [Int.sub_mul];omega
   by_cases hb:r+y1≥4294967296
   ·
    rw [if_pos hb]
    have:=D.brk hr' hb (by omega)
    exact ⟨k,by omega,by rw [show q - 1=dig U u y1 y0 by omega]⟩
   ·
    rw [if_neg hb]
    obtain ⟨k',a,b⟩:=ih (q - 1) (r+y1) k (by omega) (by omega) (by omega) (by omega) hr' (by omega) (by omega)
    exact ⟨k',by omega,b⟩
  ·
   rw [decide_eq_false hc,if_neg (by simp)]
   exact ⟨k,by omega,by rw [show q=dig U u y1 y0 by omega]⟩
theorem div_l1 {yN s y1 y0 R un0 q1:Int} (hs:0≤s) (D:Dg R un0 y1 y0):∀ (m:Nat) (q r:Int) (k:Nat),2*m+3≤k→4294967296≤r+m*2147483648→0≤r→r<4294967296→r=R - q*y1→dig R un0 y1 y0≤q→q≤4294967297→bits_Div64.l1 k yN s y1 y0 un0 q1 r R q=some (IntKind.u64.wrap ((IntKind.u64.wrap (q1*4294967296))+dig R un0 y1 y0),shr .u64 (IntKind.u64.wrap ((IntKind.u64.wrap ((IntKind.u64.wrap (R*4294967296))+un0)) - (IntKind.u64.wrap (dig R un0 y1 y0*yN)))) s):=by
 intro m
 induction m with
 | zero=>intro q r k _ h _ h2;omega
 | succ m ih=>
  intro q r k hk hm h0 h1 hr hq hq2
  have hn:=D.nn
  have Da:=D.a;have Db:=D.b;have Dc:=D.c;have Dd:=D.d;have Dg:=D.g;have Dh:=D.h
  obtain ⟨k,rfl⟩:∃ j,k=j+2:=⟨k - 2,by omega⟩
  have e:bits_Div64.l1 (k+2) yN s y1 y0 un0 q1 r R q=bits_Div64.j4 (k+1) yN s y1 y0 un0 q1 r R q (decide (dig R un0 y1 y0<q)):=by
   rw [show k+2=(k+1)+1 from rfl,bits_Div64.l1]
   by_cases hB:q≥4294967296
   ·
    rw [if_pos hB,decide_eq_true (by have:=D.top;omega)]
   ·
    rw [if_neg hB]
    have hc:=D.cond hr
    have b1:q*y0≤4294967295*4294967295:=Int.mul_le_mul (by omega) (by omega) (by omega) (by omega)
    have b0:0≤q*y0:=Int.mul_nonneg (by omega) (by omega)
    rw [u64s (n:=q*y0) b0 (by omega),u64s (n:=4294967296*r) (by omega) (by omega),u64s (n:=4294967296*r+un0) (by omega) (by omega)]
    rw [decide_eq_decide.mpr hc.symm]
  rw [e,bits_Div64.j4]
  by_cases hc:dig R un0 y1 y0<q
  ·
   rw [decide_eq_true hc,if_pos rfl,u64s (n:=r+y1) (by omega) (by omega),u64s (n:=q - 1) (by omega) (by omega)]
   have hr':r+y1=R - (q - 1)*y1:=by rw [Int.sub_mul];omega
   by_cases hb:r+y1≥4294967296
   ·
    rw [if_pos hb,if_pos hs]
    have:=D.brk hr' hb (by omega)
    rw [show q - 1=dig R un0 y1 y0 by omega]
   ·
    rw [if_neg hb]
    exact ih (q - 1) (r+y1) k (by omega) (by omega) (by omega) (by omega) hr' (by omega) (by omega)
  ·
   rw [decide_eq_false hc,if_neg (by simp),if_pos hs,show q=dig R un0 y1 y0 by omega]
theorem wr_sub (a b:Int):IntKind.u64.wrap (IntKind.u64.wrap a - IntKind.u64.wrap b)=IntKind.u64.wrap (a - b):=by
 simp only [u64w];omega
theorem wr_add (a b:Int):IntKind.u64.wrap (IntKind.u64.wrap a+b)=IntKind.u64.wrap (a+b):=by
 simp only [u64w];omega
theorem div64_eq {hi lo y:Int} (h0:0≤hi) (h1:hi<y) (h2:y<18446744073709551616) (h3:0≤lo) (h4:lo<18446744073709551616):∀ k,40≤k→bits_Div64.f k hi lo y=some ((hi*18446744073709551616+lo) / y,(hi*18446744073709551616+lo) % y):=by
 intro k hk
 unfold bits_Div64.f
 rw [if_neg (by omega),if_neg (by omega)]
 by_cases hz:hi=0
 ·
  subst hz
  rw [if_pos rfl,Int.tdiv_eq_ediv_of_nonneg h3,Int.tmod_eq_emod_of_nonneg h3]
  have a1:=Int.ediv_nonneg h3 (show 0≤y by omega)
  have a2:=Int.ediv_le_self y h3
  rw [u64s a1 (by omega),show (0:Int)*18446744073709551616+lo=lo by omega]
 ·
  rw [if_neg hz]
  have hb:=bitLen_bd y.toNat (by omega) (by omega)
  have hle:Lib.bitLen y.toNat≤64:=by
   rcases Nat.lt_or_ge 64 (Lib.bitLen y.toNat) with h|h
   ·
    have:=Nat.pow_le_pow_right (show 0<2 by omega) (show 64≤Lib.bitLen y.toNat - 1 by omega)
    omega
   ·
    exact h
  unfold bits_LeadingZeros64.f
  rw [if_pos (by omega)]
  simp only [Option.bind_some]
  obtain ⟨s,hs⟩:∃ s:Nat,s=64 - Lib.bitLen y.toNat:=⟨_,rfl⟩
  rw [show (64 - (Lib.bitLen y.toNat:Int))=(s:Int) by omega,u64s (n:=(s:Int)) (by omega) (by omega),u64s (n:=64 - (s:Int)) (by omega) (by omega),if_pos (by omega),if_pos (by omega)]
  have hs63:s≤63:=by omega
  obtain ⟨P,hP⟩:∃ P:Int,P=2 ^ s:=⟨_,rfl⟩
  obtain ⟨Q,hQ⟩:∃ Q:Int,Q=2 ^ (64 - s):=⟨_,rfl⟩
  have hPQ:P*Q=18446744073709551616:=by
   rw [hP,hQ,← Int.pow_add,show s+(64 - s)=64 by omega];decide
  have hP0:0<P:=by rw [hP];exact Int.pow_pos (by omega)
  have hQ0:0<Q:=by rw [hQ];exact Int.pow_pos (by omega)
  have hyP:9223372036854775808≤y*P∧y*P<18446744073709551616:=by
   have e1:y=((y.toNat:Nat):Int):=by omega
   have e2:y*P=((y.toNat*2 ^ s:Nat):Int):=by
    rw [hP]
    conv=>lhs;rw [e1]
    simp
   have e3:2 ^ (Lib.bitLen y.toNat - 1)*2 ^ s≤y.toNat*2 ^ s:=Nat.mul_le_mul_right _ hb.2.1
   have e4:y.toNat*2 ^ s<2 ^ (Lib.bitLen y.toNat)*2 ^ s:=Nat.mul_lt_mul_of_pos_right hb.2.2 (Nat.pow_pos (by omega))
   rw [← Nat.pow_add,show Lib.bitLen y.toNat - 1+s=63 by omega] at e3
   rw [← Nat.pow_add,show Lib.bitLen y.toNat+s=64 by omega] at e4
   rw [e2];omega
  have sh:∀ x:Int,shl .u64 x (s:Int)=(x*P) % 18446744073709551616:=by
   intro x;unfold shl
   rw [show IntKind.u64.bits=64 from rfl,Int.toNat_natCast,Nat.min_eq_left (by omega),u64w,hP]
  have sr:∀ x:Int,shr .u64 x (64 - (s:Int))=x / Q:=by
   intro x;unfold shr
   rw [show IntKind.u64.bits=64 from rfl,show (64 - (s:Int)).toNat=64 - s by omega,Nat.min_eq_left (by omega),hQ]
  have sr2:∀ x:Int,shr .u64 x (s:Int)=x / P:=by
   intro x;unfold shr
   rw [show IntKind.u64.bits=64 from rfl,Int.toNat_natCast,Nat.min_eq_left (by omega),hP]
  have hhi:hi*P<y*P:=Int.mul_lt_mul_of_pos_right h1 hP0
  have hhi0:0≤hi*P:=Int.mul_nonneg h0 (by omega)
  have hhi1:hi*P≤y*P - P:=by
   have:=Int.mul_le_mul_of_nonneg_right (show hi≤y - 1 by omega) (Int.le_of_lt hP0)
   rw [Int.sub_mul] at this;omega
  have hlQ0:0≤lo / Q:=Int.ediv_nonneg h3 (by omega)
  have hlQ:lo / Q<P:=by rw [Int.ediv_lt_iff_lt_mul hQ0];omega
  rw [sh,sh,sh,sr,Int.emod_eq_of_lt (a:=y*P) (by omega) hyP.2,Int.emod_eq_of_lt (a:=hi*P) hhi0 (by omega)]
  have hor:Go.bits .or .u64 (hi*P) (lo / Q)=hi*P+lo / Q:=by
   rw [hP] at hlQ hhi hyP ⊢
   exact or_sum s h0 hlQ0 hlQ (by omega) hs63
  rw [hor,and_low (a:=y*P) (by omega) hyP.2,and_low (Int.emod_nonneg _ (by omega)) (Int.emod_lt_of_pos _ (by omega))]
  obtain ⟨L,hL⟩:∃ L,L=(lo*P) % 18446744073709551616:=⟨_,rfl⟩
  obtain ⟨U,hU⟩:∃ U,U=hi*P+lo / Q:=⟨_,rfl⟩
  have hL0:0≤L:=by rw [hL];exact Int.emod_nonneg _ (by omega)
  have hL1:L<18446744073709551616:=by rw [hL];exact Int.emod_lt_of_pos _ (by omega)
  rw [← hL,← hU]
  obtain ⟨yN,hyN⟩:∃ yN,yN=y*P:=⟨_,rfl⟩
  rw [← hyN] at hyP hhi hhi1 ⊢
  obtain ⟨y1,hy1⟩:∃ y1,y1=yN / 4294967296:=⟨_,rfl⟩
  obtain ⟨y0,hy0⟩:∃ y0,y0=yN % 4294967296:=⟨_,rfl⟩
  obtain ⟨u1,hu1⟩:∃ u1,u1=L / 4294967296:=⟨_,rfl⟩
  obtain ⟨u0,hu0⟩:∃ u0,u0=L % 4294967296:=⟨_,rfl⟩
  rw [← hy1,← hy0,← hu1,← hu0]
  have hyy:y1*4294967296+y0=yN:=by omega
  have D1:Dg U u1 y1 y0:=⟨by omega,by omega,by omega,by omega,by omega,by omega,by omega,by omega⟩
  have hy1p:0<y1:=by omega
  have hU0:0≤U:=by omega
  obtain ⟨st1,st2⟩:=D1.start
  have em1:=Int.mul_ediv_add_emod U y1
  have em2:=Int.emod_nonneg U (b:=y1) (by omega)
  have em3:=Int.emod_lt_of_pos U hy1p
  have hq0:=Int.ediv_nonneg hU0 (Int.le_of_lt hy1p)
  rw [Int.tdiv_eq_ediv_of_nonneg hU0,u64s (n:=U / y1) hq0 (by omega)]
  have hqy:U / y1*y1=U - U % y1:=by rw [Int.mul_comm];omega
  have hqn:=Int.mul_nonneg hq0 (Int.le_of_lt hy1p)
  rw [u64s (n:=U / y1*y1) (by omega) (by omega),u64s (n:=U - U / y1*y1) (by omega) (by omega),if_neg (by omega)]
  obtain ⟨k',hk',e⟩:=div_l0 (yN:=yN) (s:=(s:Int)) (un0:=u0) D1 2 (U / y1) (U - U / y1*y1) k (by omega) (by omega) (by omega) (by omega) rfl st1 st2
  rw [e]
  obtain ⟨k',rfl⟩:∃ j,k'=j+1:=⟨k' - 1,by omega⟩
  rw [bits_Div64.j2,if_neg (by omega)]
  have hT:=D1.nn
  have hTt:=D1.top
  have hrem:=D1.rem
  rw [hyy] at hrem
  obtain ⟨R,hR⟩:∃ R,R=U*4294967296+u1 - dig U u1 y1 y0*yN:=⟨_,rfl⟩
  have hW:IntKind.u64.wrap ((IntKind.u64.wrap ((IntKind.u64.wrap (U*4294967296))+u1)) - (IntKind.u64.wrap (dig U u1 y1 y0*yN)))=R:=by
   rw [wr_add,wr_sub,← hR,u64s (by omega) (by omega)]
  rw [hW]
  rw [← hR] at hrem
  have D2:Dg R u0 y1 y0:=⟨by omega,by omega,by omega,by omega,by omega,by omega,by omega,by omega⟩
  obtain ⟨st3,st4⟩:=D2.start
  have en1:=Int.mul_ediv_add_emod R y1
  have en2:=Int.emod_nonneg R (b:=y1) (by omega)
  have en3:=Int.emod_lt_of_pos R hy1p
  have hq3:=Int.ediv_nonneg hrem.1 (Int.le_of_lt hy1p)
  rw [Int.tdiv_eq_ediv_of_nonneg hrem.1,u64s (n:=R / y1) hq3 (by omega)]
  have hqz:R / y1*y1=R - R % y1:=by rw [Int.mul_comm];omega
  have hqm:=Int.mul_nonneg hq3 (Int.le_of_lt hy1p)
  rw [u64s (n:=R / y1*y1) (by omega) (by omega),u64s (n:=R - R / y1*y1) (by omega) (by omega)]
  rw [div_l1 (by omega) D2 2 (R / y1) (R - R / y1*y1) k' (by omega) (by omega) (by omega) (by omega) rfl st3 st4]
  have hT2:=D2.nn
  have hTt2:=D2.top
  have hrem2:=D2.rem
  rw [hyy] at hrem2
  obtain ⟨R2,hR2⟩:∃ R2,R2=R*4294967296+u0 - dig R u0 y1 y0*yN:=⟨_,rfl⟩
  have hW2:IntKind.u64.wrap ((IntKind.u64.wrap ((IntKind.u64.wrap (R*4294967296))+u0)) - (IntKind.u64.wrap (dig R u0 y1 y0*yN)))=R2:=by
   rw [wr_add,wr_sub,← hR2,u64s (by omega) (by omega)]
  rw [hW2,sr2]
  rw [← hR2] at hrem2
  have h2d:=two_digits hR hR2
  rw [show u1*4294967296+u0=L by omega,hyN] at h2d
  rw [hyN] at hrem2
  obtain ⟨f1,f2⟩:=normal hP0 hQ0 hPQ hU hL h2d hrem2.1 hrem2.2
  rw [u64s (n:=dig U u1 y1 y0*4294967296) (by omega) (by omega),u64s (by omega) (by omega),f1,f2]

theorem power_eq2 (p n:Int) (hp:Pr p) (h:n≤62) (h1:pw p n≤4611686018427387904) (h0 : -9223372036854775808≤n):∀ k,70≤k→impl_power.f k p n=some (pw p n):=by
 have hp2:=hp.pos
 have hle:∀ j:Int,j≤n→1≤pw p j∧pw p j≤4611686018427387904:=fun j hj=>by
  have:=pw_le hp hj;have:=pw_pos2 hp j;omega
 have go:∀ (d k:Nat) (out j:Int),n=j+d→0≤j→d<k→out=pw p j→impl_power.l0 k p out n j=some (pw p n):=by
  intro d
  induction d with
  | zero=>
   intro k out j hn hj hk ho
   obtain ⟨k,rfl⟩:∃ m,k=m+1:=⟨k - 1,by omega⟩
   simp only [impl_power.l0]
   rw [if_neg (by omega),ho]
   congr 2;omega
  | succ d ih=>
   intro k out j hn hj hk ho
   obtain ⟨k,rfl⟩:∃ m,k=m+1:=⟨k - 1,by omega⟩
   simp only [impl_power.l0]
   have hb:=hle (j+1) (by omega)
   have hs1:=pw_succ p j hj
   rw [if_pos (by omega),w64 (n:=j+1) (by omega) (by omega),ho,← hs1,w64 (by omega) (by omega),ih k _ (j+1) (by omega) (by omega) (by omega) rfl]
 intro k hk
 unfold impl_power.f
 by_cases h1:n≤0
 ·
  obtain ⟨k,rfl⟩:∃ m,k=m+1:=⟨k - 1,by omega⟩
  simp only [impl_power.l0]
  rw [if_neg (by omega)]
  simp [pw,show n.toNat=0 by omega]
 ·
  rw [go n.toNat k 1 0 (by omega) (by omega) (by omega) (by simp [pw])]

theorem l01Power_eq2 (p n:Int) (hp:Pr p) (h:n≤62) (h1:pw p n≤4611686018427387904) (h0 : -9223372036854775808≤n):∀ k,70≤k→spec_l01Power.f k p n=some (pw p n):=by
 have hp2:=hp.pos
 have hle:∀ j:Int,j≤n→1≤pw p j∧pw p j≤4611686018427387904:=fun j hj=>by
  have:=pw_le hp hj;have:=pw_pos2 hp j;omega
 have go:∀ (d k:Nat) (m out j:Int),m=d→n=j+d→0≤j→d<k→out=pw p j→spec_l01Power.l0 k p m out=some (pw p n):=by
  intro d
  induction d with
  | zero=>
   intro k m out j hm hn hj hk ho
   obtain ⟨k,rfl⟩:∃ m,k=m+1:=⟨k - 1,by omega⟩
   simp only [spec_l01Power.l0]
   rw [if_neg (by omega),ho]
   congr 2;omega
  | succ d ih=>
   intro k m out j hm hn hj hk ho
   obtain ⟨k,rfl⟩:∃ m,k=m+1:=⟨k - 1,by omega⟩
   simp only [spec_l01Power.l0]
   have hb:=hle (j+1) (by omega)
   have hs1:=pw_succ p j hj
   rw [if_pos (by omega),w64 (n:=m - 1) (by omega) (by omega),ho,← hs1,w64 (by omega) (by omega),ih k (m - 1) _ (j+1) (by omega) (by omega) (by omega) (by omega) rfl]
 intro k hk
 unfold spec_l01Power.f
 by_cases h1:n≤0
 ·
  obtain ⟨k,rfl⟩:∃ m,k=m+1:=⟨k - 1,by omega⟩
  simp only [spec_l01Power.l0]
  rw [if_neg (by omega)]
  simp [pw,show n.toNat=0 by omega]
 ·
  rw [go n.toNat k n 1 0 (by omega) (by omega) (by omega) (by omega) (by simp [pw])]

theorem tmod_fix (a m:Int) (hm:0<m):(a.tmod m+m).tmod m=a % m∧-m<a.tmod m∧a.tmod m<m:=by
 have h1:=Int.tmod_lt_of_pos a hm
 have h2:=Int.lt_tmod_of_pos a hm
 have h3:=Int.mul_tdiv_add_tmod a m
 refine ⟨?_,h2,h1⟩
 rw [Int.tmod_eq_emod_of_nonneg (by omega)]
 rw [show a.tmod m+m=a+m*(1 - a.tdiv m) by rw [Int.mul_sub];omega,Int.add_mul_emod_self_left]
theorem em_mul (a b m:Int):(a % m*b) % m=a*b % m:=by rw [Int.mul_emod,Int.emod_emod,← Int.mul_emod]
theorem emb (a m:Int) (hm:0<m):0≤a % m∧a % m<m:=⟨Int.emod_nonneg _ (by omega),Int.emod_lt_of_pos _ hm⟩

theorem mod_eq (a m:Int) (hm:0<m) (h2:m≤4611686018427387904):impl_mod.f a m=some (a % m):=by
 obtain ⟨e,h3,h4⟩:=tmod_fix a m hm
 unfold impl_mod.f
 rw [if_neg (by omega),w64 (by omega) (by omega),e]

theorem times_eq (a b m:Int) (hm:0<m) (h2:m≤4611686018427387904):∀ k,40≤k→impl_times.f k a b m=some (a*b % m):=by
 intro k hk
 obtain ⟨ha0,ha1⟩:=emb a m hm
 obtain ⟨hb0,hb1⟩:=emb b m hm
 unfold impl_times.f
 rw [mod_eq a m hm h2,mod_eq b m hm h2]
 simp only [Option.bind_some]
 rw [u64s ha0 (by omega),u64s hb0 (by omega),u64s (n:=m) (by omega) (by omega)]
 unfold bits_Mul64.f
 rw [if_pos (by omega)]
 simp only [Option.bind_some]
 obtain ⟨P,hP⟩:∃ P,P=a % m*(b % m):=⟨_,rfl⟩
 have hP0:0≤P:=by rw [hP];exact Int.mul_nonneg ha0 hb0
 rw [← hP]
 have hq:0≤P / 18446744073709551616:=Int.ediv_nonneg hP0 (by omega)
 rw [if_neg (by omega),Int.tmod_eq_emod_of_nonneg hq]
 obtain ⟨c0,c1⟩:=emb (P / 18446744073709551616) m hm
 obtain ⟨d0,d1⟩:=emb P 18446744073709551616 (by omega)
 rw [div64_eq c0 c1 (by omega) d0 d1 k hk]
 simp only [Option.bind_some]
 have e:(P / 18446744073709551616 % m*18446744073709551616+P % 18446744073709551616) % m=a*b % m:=by
  rw [Int.add_emod,em_mul,← Int.add_emod,show P / 18446744073709551616*18446744073709551616+P % 18446744073709551616=P by omega,hP,← Int.mul_emod]
 rw [e]
 obtain ⟨f0,f1⟩:=emb (a*b) m hm
 rw [w64 (by omega) (by omega)]

theorem l01MulMod_eq (a b m:Int) (hm:0<m) (h2:m≤13841287201):spec_l01MulMod.f a b m=some (a*b % m):=by
 obtain ⟨e1,h3,h4⟩:=tmod_fix a m hm
 obtain ⟨e2,h5,h6⟩:=tmod_fix b m hm
 obtain ⟨ha0,ha1⟩:=emb a m hm
 obtain ⟨hb0,hb1⟩:=emb b m hm
 unfold spec_l01MulMod.f
 rw [if_neg (by omega),w64 (n:=a.tmod m+m) (by omega) (by omega),w64 (n:=b.tmod m+m) (by omega) (by omega),e1,e2]
 have em:a*b % m=(a % m)*(b % m) % m:=Int.mul_emod a b m
 rw [em]
 generalize a % m=x at *
 generalize b % m=y at *
 rw [Int.tdiv_eq_ediv_of_nonneg hb0,Int.tmod_eq_emod_of_nonneg hb0]
 have m1:=mul_bd2 (a:=x) (b:=y / 1000000) 13841287201 13842 (by omega) (by omega) (by omega) (by omega)
 have m2:=mul_bd2 (a:=x) (b:=y % 1000000) 13841287201 1000000 (by omega) (by omega) (by omega) (by omega)
 have n1:0≤x*(y / 1000000):=Int.mul_nonneg ha0 (by omega)
 have n2:0≤x*(y % 1000000):=Int.mul_nonneg ha0 (by omega)
 rw [w64 (n:=y / 1000000) (by omega) (by omega),w64 (n:=x*(y / 1000000)) (by omega) (by omega),Int.tmod_eq_emod_of_nonneg n1,w64 (n:=x*(y % 1000000)) (by omega) (by omega),Int.tmod_eq_emod_of_nonneg n2]
 obtain ⟨c0,c1⟩:=emb (x*(y / 1000000)) m hm
 obtain ⟨d0,d1⟩:=emb (x*(y % 1000000)) m hm
 rw [w64 (n:=x*(y / 1000000) % m*1000000) (by omega) (by omega),Int.tmod_eq_emod_of_nonneg (a:=x*(y / 1000000) % m*1000000) (by omega)]
 obtain ⟨f0,f1⟩:=emb (x*(y / 1000000) % m*1000000) m hm
 rw [w64 (by omega) (by omega),Int.tmod_eq_emod_of_nonneg (a:=x*(y / 1000000) % m*1000000 % m+x*(y % 1000000) % m) (by omega)]
 rw [em_mul,← Int.add_emod]
 congr 2
 have:y=y / 1000000*1000000+y % 1000000:=by omega
 conv=>rhs;rw [this]
 rw [Int.mul_add,Int.mul_assoc]

theorem inverse_eq (n m:Int) (hm:0<m) (h2:m≤1099511627776):∀ k,m.toNat+4≤k→impl_inverse.f k n m=some (inv n m):=by
 have go:∀ (j:Nat) (n a b x y:Int) (k:Nat),Inv n m a b x y→b<j→a≤m→b≤m→x.natAbs≤m→y.natAbs≤m→j<k→impl_inverse.l0 k m a b x y=some (invF j a b x y % m):=by
  intro j
  induction j with
  | zero=>intro n a b x y k h hb;have:=h.b0;omega
  | succ j ih=>
   intro n a b x y k h hb ham hbm hx hy hk
   obtain ⟨k,rfl⟩:∃ i,k=i+1:=⟨k - 1,by omega⟩
   have a0:=h.a0;have b0:=h.b0
   simp only [impl_inverse.l0,invF]
   by_cases z:b=0
   ·
    rw [if_pos z,if_pos z]
    rw [mod_eq x m hm (by omega)];rfl
   ·
    rw [if_neg z,if_neg z]
    have hb1:0<b:=by omega
    obtain ⟨i1,i2,i3,i4⟩:=h.bd
    obtain ⟨i5,i6⟩:=i4 hb1
    have hs:=h.step z
    obtain ⟨j1,j2,j3,j4⟩:=hs.bd
    have hy':=j2 hb1
    have hq:0≤a / b:=Int.ediv_nonneg a0 b0
    have hq2:=Int.ediv_le_self b a0
    have hr:a - a / b*b=a % b:=by rw [Int.emod_def,Int.mul_comm b]
    obtain ⟨r0,r1⟩:=emb a b hb1
    have hay:(a / b*y).natAbs≤m:=by
     rw [Int.natAbs_mul]
     have:((a / b).natAbs*y.natAbs:Nat)=a / b*(y.natAbs:Int):=by
      rw [Int.natCast_mul,Int.natAbs_of_nonneg hq]
     omega
    rw [Int.tdiv_eq_ediv_of_nonneg a0,w64 (n:=a / b) (by omega) (by omega),w64 (n:=a / b*b) (by omega) (by omega),w64 (n:=a - a / b*b) (by omega) (by omega),w64 (n:=a / b*y) (by omega) (by omega),w64 (n:=x - a / b*y) (by omega) (by omega)]
    exact ih n b (a - a / b*b) y (x - a / b*y) k hs (by omega) hbm (by omega) hy (by omega) (by omega)
 intro k hk
 obtain ⟨h0,h1⟩:=emb n m hm
 unfold impl_inverse.f inv
 rw [mod_eq n m hm (by omega)]
 simp only [Option.bind_some]
 exact go (m.toNat+2) (n % m) (n % m) m 1 0 k (Inv.start h0 (by omega)) (by omega) (by omega) (by omega) (by omega) (by omega) (by omega)

theorem l01InvMod_eq (n m:Int) (hm:0<m) (h2:m≤1099511627776):∀ k,m.toNat+4≤k→spec_l01InvMod.f k n m=some (inv n m):=by
 have go:∀ (j:Nat) (n a b x y:Int) (k:Nat),Inv n m a b x y→b<j→a≤m→b≤m→x.natAbs≤m→y.natAbs≤m→j<k→spec_l01InvMod.l0 k m a b x y=some (invF j a b x y % m):=by
  intro j
  induction j with
  | zero=>intro n a b x y k h hb;have:=h.b0;omega
  | succ j ih=>
   intro n a b x y k h hb ham hbm hx hy hk
   obtain ⟨k,rfl⟩:∃ i,k=i+1:=⟨k - 1,by omega⟩
   have a0:=h.a0;have b0:=h.b0
   simp only [spec_l01InvMod.l0,invF]
   by_cases z:b=0
   ·
    rw [if_pos z,if_pos z]
    obtain ⟨e,h3,h4⟩:=tmod_fix x m hm
    rw [if_neg (by omega),w64 (by omega) (by omega),e]
   ·
    rw [if_neg z,if_neg z]
    have hb1:0<b:=by omega
    obtain ⟨i1,i2,i3,i4⟩:=h.bd
    obtain ⟨i5,i6⟩:=i4 hb1
    have hs:=h.step z
    obtain ⟨j1,j2,j3,j4⟩:=hs.bd
    have hy':=j2 hb1
    have hq:0≤a / b:=Int.ediv_nonneg a0 b0
    have hq2:=Int.ediv_le_self b a0
    have hr:a - a / b*b=a % b:=by rw [Int.emod_def,Int.mul_comm b]
    obtain ⟨r0,r1⟩:=emb a b hb1
    have hay:(a / b*y).natAbs≤m:=by
     rw [Int.natAbs_mul]
     have:((a / b).natAbs*y.natAbs:Nat)=a / b*(y.natAbs:Int):=by
      rw [Int.natCast_mul,Int.natAbs_of_nonneg hq]
     omega
    rw [Int.tdiv_eq_ediv_of_nonneg a0,w64 (n:=a / b) (by omega) (by omega),w64 (n:=a / b*b) (by omega) (by omega),w64 (n:=a - a / b*b) (by omega) (by omega),w64 (n:=a / b*y) (by omega) (by omega),w64 (n:=x - a / b*y) (by omega) (by omega)]
    exact ih n b (a - a / b*b) y (x - a / b*y) k hs (by omega) hbm (by omega) hy (by omega) (by omega)
 intro k hk
 obtain ⟨h0,h1⟩:=emb n m hm
 unfold spec_l01InvMod.f inv
 obtain ⟨e,h3,h4⟩:=tmod_fix n m hm
 rw [if_neg (by omega),w64 (by omega) (by omega),e]
 exact go (m.toNat+2) (n % m) (n % m) m 1 0 k (Inv.start h0 (by omega)) (by omega) (by omega) (by omega) (by omega) (by omega) (by omega)

theorem pwvl {p n:Int} (hp:Pr p) (h:n≠0):0<pw p (vl p n)∧pw p (vl p n)≤(n.natAbs:Int):=by
 refine ⟨pw_pos2 hp _,?_⟩
 have:=Int.le_of_dvd (by omega) (Int.dvd_natAbs.mpr (pw_vl_dvd hp h))
 exact this
theorem un_div {p n:Int} (hp:Pr p) (h:n≠0):n.tdiv (pw p (vl p n))=un p n:=by
 unfold un;rw [vz_of_ne h,Int.tdiv_eq_ediv_of_dvd (pw_vl_dvd hp h)]
theorem un_bd {p n:Int} (hp:Pr p) (h:n≠0):(un p n).natAbs≤n.natAbs:=by
 obtain ⟨e,_⟩:=un_spec hp h
 have h1:=pwvl hp h
 have:n.natAbs=(pw p (vl p n)).natAbs*(un p n).natAbs:=by rw [← Int.natAbs_mul,← e]
 rw [this]
 exact Nat.le_mul_of_pos_left _ (by omega)

theorem unit_eq (p n:Int) (hp:Pr p) (h:n≠0) (hb:n.natAbs≤4611686018427387904):∀ k,70≤k→impl_unit.f k p n=some (un p n):=by
 intro k hk
 have h1:=pwvl hp h
 have h2:=vl_le63 hp h (by omega)
 have h3:=vl_le hp h (k:=63) (by
  have:(2:Nat) ^ 63=9223372036854775808:=by decide
  omega)
 have h4:=un_bd hp h
 unfold impl_unit.f
 rw [valuation_eq p n hp (by omega) k hk,vz_of_ne h]
 simp only [Option.bind_some]
 rw [power_eq2 p _ hp (by omega) (by omega) (by omega) k hk]
 simp only [Option.bind_some]
 rw [if_neg (by omega),un_div hp h,w64 (by omega) (by omega)]

def enc:Option PM.Ball→Int × Int × Int × Bool
 | none=>(0,0,0,false)
 | some b=>(b.lv,b.top,b.dn,true)
def encC (c:Int):Option PM.Ball→Int × Int × Int × Int
 | none=>(0,0,0,c)
 | some b=>(b.lv,b.top,b.dn,0)

theorem isLevel_eq' (n:Int):impl_isLevel.f n=some (decide (PM.inLv n)):=by
 unfold impl_isLevel.f PM.inLv
 congr 1
 by_cases h1:n≥-6 <;> by_cases h2:n≤6 <;> simp [h1,h2] <;> omega
theorem ofMark_eq {p lv x:Int} (hp:Pr p):∀ k,70≤k→impl_ofMark.f k p lv x=some (enc (if PM.inLv lv then some (PM.mk p lv (x % pw p (lv+6))) else none)):=by
 intro k hk
 unfold impl_ofMark.f
 rw [isLevel_eq']
 simp only [Option.bind_some]
 by_cases hl:PM.inLv lv
 ·
  have hl':=hl
  unfold PM.inLv at hl'
  have hb:=pw_bd12 p (lv+6) hp (by omega)
  obtain ⟨r0,r1⟩:=emb x (pw p (lv+6)) (by omega)
  rw [decide_eq_true hl,if_pos rfl,if_pos hl,w64 (n:=lv+6) (by omega) (by omega),power_eq p _ hp (by omega) k (by omega)]
  simp only [Option.bind_some]
  rw [mod_eq x _ (by omega) (by omega)]
  simp only [Option.bind_some]
  generalize x % pw p (lv+6)=y at *
  rw [valuation_eq p y hp (by omega) k hk]
  simp only [Option.bind_some]
  have hz:0≤vz p y∧vz p y≤1000:=by
   refine ⟨PM.vz_nonneg _ _,?_⟩
   unfold vz
   by_cases y0:y=0
   ·
    rw [if_pos y0];omega
   ·
    rw [if_neg y0];have:=vl_le63 hp y0 (by omega);omega
  simp only [mx_max]
  rw [w64 (n:=6 - vz p y) (by omega) (by omega),w64 (n:=6 - max (6 - vz p y) 0) (by omega) (by omega),power_eq p _ hp (by omega) k (by omega)]
  simp only [Option.bind_some]
  have hq:=pw_bd6 p (6 - max (6 - vz p y) 0) hp (by omega)
  have hd:=Int.ediv_le_self (pw p (6 - max (6 - vz p y) 0)) r0
  have hd0:=Int.ediv_nonneg r0 (show 0≤pw p (6 - max (6 - vz p y) 0) by omega)
  rw [if_neg (by omega),Int.tdiv_eq_ediv_of_nonneg r0,w64 (by omega) (by omega)]
  simp only [enc,PM.mk]
 ·
  rw [decide_eq_false hl,if_neg (by simp),if_neg hl];rfl

theorem vz_bd {p n:Int} (hp:Pr p) (h:n.natAbs≤9223372036854775807):0≤vz p n∧vz p n≤1000:=by
 refine ⟨PM.vz_nonneg _ _,?_⟩
 unfold vz
 by_cases y0:n=0
 ·
  rw [if_pos y0];omega
 ·
  rw [if_neg y0];have:=vl_le63 hp y0 (by omega);omega
theorem ballAt_eq {p n d lv:Int} (hp:Pr p) (hd:d≠0) (hn:n.natAbs≤4611686018427387904) (hdb:d.natAbs≤4611686018427387904):∀ k,13841287300≤k→impl_ballAt.f k p n d lv=some (enc (PM.ballAt p n d lv)):=by
 intro k hk
 obtain ⟨k,rfl⟩:∃ j,k=j+1:=⟨k - 1,by omega⟩
 unfold impl_ballAt.f PM.ballAt
 rw [isLevel_eq']
 simp only [Option.bind_some]
 by_cases hl:PM.inLv lv
 ·
  have hl':=hl
  unfold PM.inLv at hl'
  have hb:=pw_bd12 p (lv+6) hp (by omega)
  have b1:=vz_bd hp (n:=n) (by omega)
  have b2:=vz_bd hp (n:=d) (by omega)
  rw [decide_eq_true hl,if_pos rfl,if_neg (fun z=>z hl),valuation_eq p n hp (by omega) _ (by omega),valuation_eq p d hp (by omega) _ (by omega)]
  simp only [Option.bind_some,impl_ballAt.j0]
  rw [w64 (n:=vz p n - vz p d) (by omega) (by omega)]
  by_cases z:n=0
  ·
   rw [if_pos z,if_pos trivial,if_pos (Or.inl z)];rfl
  ·
   rw [if_neg z]
   by_cases c:vz p n - vz p d≥lv
   ·
    rw [decide_eq_true c,if_pos rfl,if_pos (Or.inr c)];rfl
   ·
    rw [decide_eq_false c,if_neg (by simp),if_neg (show ¬ (n=0∨lv≤vz p n - vz p d) from fun y=>y.elim z c)]
    by_cases e:vz p n - vz p d < -6
    ·
     rw [if_pos e,if_pos e];rfl
    ·
     rw [if_neg e,if_neg e,w64 (n:=lv+6) (by omega) (by omega),w64 (n:=vz p n - vz p d+6) (by omega) (by omega),power_eq p (lv+6) hp (by omega) k (by omega),unit_eq p n hp z hn k (by omega),unit_eq p d hp hd hdb k (by omega)]
     simp only [Option.bind_some]
     rw [inverse_eq _ _ (by omega) (by omega) k (by omega)]
     simp only [Option.bind_some]
     rw [times_eq _ _ _ (by omega) (by omega) k (by omega)]
     simp only [Option.bind_some]
     rw [power_eq p (vz p n - vz p d+6) hp (by omega) k (by omega)]
     simp only [Option.bind_some]
     rw [times_eq _ _ _ (by omega) (by omega) k (by omega)]
     simp only [Option.bind_some]
     rw [ofMark_eq hp k (by omega),if_pos hl,Int.emod_emod]
     rfl
 ·
  rw [decide_eq_false hl,if_neg (by simp),if_pos hl];rfl

theorem l01Of_eq {p n d lv:Int} (hp:Pr p) (hd:d≠0) (hn:n.natAbs≤4611686018427387904) (hdb:d.natAbs≤4611686018427387904):∀ k,13841287300≤k→spec_l01Of.f k p n d lv=some (enc (PM.lOf p n d lv)):=by
 intro k hk
 unfold spec_l01Of.f PM.lOf
 rw [in_eq]
 simp only [Option.bind_some]
 by_cases hl:PM.inLv lv
 ·
  have hl':=hl
  unfold PM.inLv at hl'
  rw [decide_eq_true hl',if_pos rfl,if_neg (show ¬ ¬ PM.inLv lv from fun z=>z hl)]
  by_cases z:n=0
  ·
   rw [if_pos z,if_pos z];rfl
  ·
   have v1:=vl_le63 hp z (by omega)
   have v2:=vl_le63 hp hd (by omega)
   have v3:=vl_le hp z (k:=63) (by
    have:(2:Nat) ^ 63=9223372036854775808:=by decide
    omega)
   have v4:=vl_le hp hd (k:=63) (by
    have:(2:Nat) ^ 63=9223372036854775808:=by decide
    omega)
   rw [if_neg z,if_neg z,val_eq p n hp z (by omega) k (by omega),val_eq p d hp hd (by omega) k (by omega),vz_of_ne z,vz_of_ne hd]
   simp only [Option.bind_some,mx_max]
   rw [w64 (n:=(vl p n:Int) - vl p d) (by omega) (by omega),w64 (n:=(vl p d:Int) - vl p n) (by omega) (by omega)]
   by_cases c:lv≤(vl p n:Int) - vl p d
   ·
    rw [if_pos c,if_pos c];rfl
   ·
    rw [if_neg c,if_neg c]
    by_cases e:max ((vl p d:Int) - vl p n) 0>6
    ·
     rw [if_pos e,if_pos e];rfl
    ·
     rw [if_neg e,if_neg (show ¬ 6<max ((vl p d:Int) - vl p n) 0 from e)]
     have hb:=pw_bd12 p (lv+max ((vl p d:Int) - vl p n) 0) hp (by omega)
     have p1:=pwvl hp z
     have p2:=pwvl hp hd
     have u1:=un_bd hp z
     have u2:=un_bd hp hd
     rw [w64 (n:=lv+max ((vl p d:Int) - vl p n) 0) (by omega) (by omega),l01Power_eq p _ hp (by omega) (by omega) k (by omega),l01Power_eq2 p (vl p n) hp (by omega) (by omega) (by omega) k (by omega),l01Power_eq2 p (vl p d) hp (by omega) (by omega) (by omega) k (by omega)]
     simp only [Option.bind_some]
     rw [if_neg (by omega),if_neg (by omega),un_div hp z,un_div hp hd,w64 (n:=un p n) (by omega) (by omega),w64 (n:=un p d) (by omega) (by omega),l01InvMod_eq _ _ (by omega) (by omega) k (by omega)]
     simp only [Option.bind_some]
     rw [l01MulMod_eq _ _ _ (by omega) (by omega),l01Power_eq p (max ((vl p n:Int) - vl p d) 0) hp (by omega) (by omega) k (by omega)]
     simp only [Option.bind_some]
     rw [l01MulMod_eq _ _ _ (by omega) (by omega)]
     rfl
 ·
  rw [decide_eq_false (show ¬ (-6≤lv∧lv≤6) from hl),if_neg (by simp),if_pos hl];rfl
theorem lOf_eq_ballAt {p n d lv:Int} (hp:Pr p) (hd:d≠0):PM.lOf p n d lv=PM.ballAt p n d lv:=(PM.ballAt_eq_lOf hp hd).symm

theorem up_eq {p lv top dn:Int} (hp:Pr p) (h:PM.Ok p ⟨lv,top,dn⟩):∀ k,70≤k→impl_parent.f k p lv top dn=some (enc (PM.about p (lv - 1) (PM.mark p ⟨lv,top,dn⟩))):=by
 intro k hk
 have hb:=okb h
 unfold impl_parent.f
 rw [mark_eq hp h k (by omega)]
 simp only [Option.bind_some]
 rw [w64 (n:=lv - 1) (by omega) (by omega),ofMark_eq hp k hk]
 rfl

/-- the next ball by a number: 0 for the parent -/
def nb (p:Int) (b:PM.Ball) (k:Int):Option PM.Ball:=if k=0 then PM.about p (b.lv - 1) (PM.mark p b) else PM.about p (b.lv+1) (PM.mark p b+(k - 1)*pw p (b.lv+6))
theorem dets {a b c d:Int} (ha:a.natAbs≤1000) (hb:b.natAbs≤1000) (hc:c.natAbs≤1000) (hd:d.natAbs≤1000):wrap64 (wrap64 (a*d) - wrap64 (b*c))=a*d - b*c∧(a*d - b*c).natAbs≤2000000:=by
 have h1:(a*d).natAbs≤1000000:=by rw [Int.natAbs_mul];have:=Nat.mul_le_mul ha hd;omega
 have h2:(b*c).natAbs≤1000000:=by rw [Int.natAbs_mul];have:=Nat.mul_le_mul hb hc;omega
 rw [w64 (n:=a*d) (by omega) (by omega),w64 (n:=b*c) (by omega) (by omega),w64 (by omega) (by omega)]
 exact ⟨rfl,by omega⟩
theorem l04Is_eq (a b c d:Int):spec_l04Is.f a b c d=some (decide (PM.isM a b c d)):=by
 unfold spec_l04Is.f
 congr 1
 rw [Bool.eq_iff_iff]
 simp only [decide_eq_true_eq]
 unfold PM.isM
 constructor
 ·
  rintro ⟨h1,h2,h3,h4,h5⟩
  rw [(dets (a:=a) (b:=b) (c:=c) (d:=d) (by omega) (by omega) (by omega) (by omega)).1] at h5
  exact ⟨⟨h1,h2,h3,h4⟩,h5⟩
 ·
  rintro ⟨⟨h1,h2,h3,h4⟩,h5⟩
  refine ⟨h1,h2,h3,h4,?_⟩
  rw [(dets (a:=a) (b:=b) (c:=c) (d:=d) (by omega) (by omega) (by omega) (by omega)).1]
  exact h5

theorem IsMatrix_eq (a b c d:Int):∃ K,∀ k,K≤k→impl_IsMatrix.f k a b c d=some (decide (PM.isM a b c d)):=by
 obtain ⟨K,hw⟩:=within_eq 1000 (by omega) (by omega) [a,b,c,d] (by simp)
 have ew:allB 1000 [a,b,c,d]=decide ((-1000≤a∧a≤1000)∧(-1000≤b∧b≤1000)∧(-1000≤c∧c≤1000)∧(-1000≤d∧d≤1000)):=by simp [allB]
 refine ⟨K,fun k hk=>?_⟩
 unfold impl_IsMatrix.f
 rw [hw k hk,ew]
 simp only [Option.bind_some]
 by_cases h:(-1000≤a∧a≤1000)∧(-1000≤b∧b≤1000)∧(-1000≤c∧c≤1000)∧(-1000≤d∧d≤1000)
 ·
  rw [decide_eq_true h,if_pos rfl]
  unfold impl_determinant.f
  simp only [Option.bind_some]
  rw [(dets (a:=a) (b:=b) (c:=c) (d:=d) (by omega) (by omega) (by omega) (by omega)).1]
  congr 1
  rw [Bool.eq_iff_iff]
  simp only [bne_iff_ne,decide_eq_true_eq]
  unfold PM.isM
  exact ⟨fun z=>⟨h,z⟩,fun z=>z.2⟩
 ·
  rw [decide_eq_false h,if_neg (by simp),decide_eq_false]
  exact fun z=>h z.1

def mOk (x:S26):Bool:=decide (PM.isM x.f0.f0 x.f0.f1 x.f1.f0 x.f1.f1)
theorem rdM (l:List S26) (i:Nat) (h:i<l.length):rd_T26 l (i:Int)=l[i]'h:=by
 unfold rd_T26;simp [List.getD_eq_getElem?_getD,h]
theorem areMatrices_eq (l:List S26) (hl:l.length≤10000000):∃ K,∀ k,K≤k→impl_areMatrices.f k l=some (l.all mOk):=by
 have go:∀ (d i:Nat),i+d=l.length→∃ K,∀ k,K≤k→impl_areMatrices.l0 k l l.length i=some ((l.drop i).all mOk):=by
  intro d
  induction d with
  | zero=>
   intro i hi
   refine ⟨1,fun k hk=>?_⟩
   obtain ⟨k,rfl⟩:∃ m,k=m+1:=⟨k - 1,by omega⟩
   simp only [impl_areMatrices.l0]
   rw [if_neg (by omega),List.drop_eq_nil_of_le (by omega)];rfl
  | succ d ih=>
   intro i hi
   obtain ⟨K1,h1⟩:=ih (i+1) (by omega)
   obtain ⟨K2,h2⟩:=IsMatrix_eq (l[i]'(by omega)).f0.f0 (l[i]'(by omega)).f0.f1 (l[i]'(by omega)).f1.f0 (l[i]'(by omega)).f1.f1
   refine ⟨K1+K2+1,fun k hk=>?_⟩
   obtain ⟨k,rfl⟩:∃ m,k=m+1:=⟨k - 1,by omega⟩
   simp only [impl_areMatrices.l0]
   rw [if_pos (by omega),if_pos (by omega),if_pos (by omega),rdM l i (by omega),h2 k (by omega),all_drop mOk l i (by omega),w64 (by omega) (by omega),show ((i:Int)+1)=((i+1:Nat):Int) from by omega,h1 k (by omega)]
   simp only [Option.bind_some]
   show _=some (decide (PM.isM _ _ _ _) && _)
   by_cases h:PM.isM (l[i]'(by omega)).f0.f0 (l[i]'(by omega)).f0.f1 (l[i]'(by omega)).f1.f0 (l[i]'(by omega)).f1.f1
   ·
    rw [decide_eq_true h];simp
   ·
    rw [decide_eq_false h];simp
 obtain ⟨K,h⟩:=go l.length 0 (by omega)
 exact ⟨K,fun k hk=>by have:=h k hk;simpa [impl_areMatrices.f] using this⟩
theorem areM2 (a b c d e f g h:Int):∃ K,∀ k,K≤k→impl_areMatrices.f k [⟨⟨a,b⟩,⟨c,d⟩⟩,⟨⟨e,f⟩,⟨g,h⟩⟩]=some (decide (PM.isM a b c d∧PM.isM e f g h)):=by
 obtain ⟨K,hK⟩:=areMatrices_eq [⟨⟨a,b⟩,⟨c,d⟩⟩,⟨⟨e,f⟩,⟨g,h⟩⟩] (by simp)
 refine ⟨K,fun k hk=>?_⟩
 rw [hK k hk]
 simp [mOk,Bool.decide_and]

/-- the reduced matrix, and whether it fits -/
def redT (a b c d:Int):Int × Int × Int × Int × Bool:=((PM.red a b c d).1,(PM.red a b c d).2.1,(PM.red a b c d).2.2.1,(PM.red a b c d).2.2.2,decide (PM.isM (PM.red a b c d).1 (PM.red a b c d).2.1 (PM.red a b c d).2.2.1 (PM.red a b c d).2.2.2))
theorem gcd_le (a b:Int):Int.gcd a b≤a.natAbs+b.natAbs:=by
 by_cases h:a=0
 ·
  subst h;simp
 ·
  have:Int.gcd a b≤a.natAbs:=Nat.le_of_dvd (by omega) (Nat.gcd_dvd_left _ _)
  omega

theorem by_eq (a b:Int) {g:Int} (hg:g.natAbs≤4611686018427387904):impl_reduced.by_ a b g=g*PM.sg a b:=by
 unfold impl_reduced.by_ impl_reduced.nb PM.sg
 by_cases h:a<0∨(a=0∧b<0)
 ·
  rw [decide_eq_true h,if_pos rfl,if_pos h,w64 (by omega) (by omega)];omega
 ·
  rw [decide_eq_false h,if_neg (by simp),if_neg h];omega
theorem reduced_eq {a b c d:Int} (ha:a.natAbs≤4000000) (hb:b.natAbs≤4000000) (hc:c.natAbs≤4000000) (hd:d.natAbs≤4000000) (h:a*d - b*c≠0):∃ K,∀ k,K≤k→impl_reduced.f k a b c d=some (redT a b c d):=by
 have l1:=gcd_le a b
 have l2:=gcd_le c d
 obtain ⟨K1,h1⟩:=gcd_eq a b (by omega) (by omega)
 obtain ⟨K2,h2⟩:=gcd_eq c d (by omega) (by omega)
 obtain ⟨K3,h3⟩:=gcd_eq (Int.gcd a b:Int) (Int.gcd c d:Int) (by omega) (by omega)
 obtain ⟨K4,h4⟩:=IsMatrix_eq (PM.red a b c d).1 (PM.red a b c d).2.1 (PM.red a b c d).2.2.1 (PM.red a b c d).2.2.2
 have l3:=gcd_le (Int.gcd a b:Int) (Int.gcd c d:Int)
 refine ⟨K1+K2+K3+K4,fun k hk=>?_⟩
 unfold impl_reduced.f
 rw [h1 k (by omega)]
 simp only [Option.bind_some]
 rw [h2 k (by omega)]
 simp only [Option.bind_some]
 rw [h3 k (by omega)]
 simp only [Option.bind_some]
 rw [by_eq a b (by omega),show (Int.gcd (Int.gcd a b:Int) (Int.gcd c d:Int):Int)*PM.sg a b=PM.by4 a b c d from rfl]
 unfold impl_reduced.g
 have q:∀ x:Int,x.natAbs≤4000000→wrap64 (x.tdiv (PM.by4 a b c d))=x.tdiv (PM.by4 a b c d):=fun x hx=>by
  have:=PM.tdiv_abs_le x (PM.by4 a b c d)
  exact w64 (by omega) (by omega)
 rw [if_neg (PM.by4_ne h),q a ha,q b hb,q c hc,q d hd]
 have h5:=h4 k (by omega)
 unfold PM.red at h5
 simp only at h5
 rw [h5]
 rfl
theorem reduce_eq {a b c d:Int} (h:PM.isM a b c d):∃ K,∀ k,K≤k→impl_reduce.f k a b c d=some (PM.red a b c d):=by
 have hb:=PM.isM_bd h
 obtain ⟨K,hK⟩:=reduced_eq (a:=a) (b:=b) (c:=c) (d:=d) (by omega) (by omega) (by omega) (by omega) h.2
 refine ⟨K,fun k hk=>?_⟩
 unfold impl_reduce.f
 rw [hK k hk];rfl

theorem prods {a b c d e f g h:Int} (h1:PM.isM a b c d) (h2:PM.isM e f g h):wrap64 (wrap64 (a*e)+wrap64 (b*g))=a*e+b*g∧(a*e+b*g).natAbs≤2000000:=by
 have b1:=PM.isM_bd h1
 have b2:=PM.isM_bd h2
 have x1:(a*e).natAbs≤1000000:=by rw [Int.natAbs_mul];have:=Nat.mul_le_mul b1.1 b2.1;omega
 have x2:(b*g).natAbs≤1000000:=by rw [Int.natAbs_mul];have:=Nat.mul_le_mul b1.2.1 b2.2.2.1;omega
 rw [w64 (n:=a*e) (by omega) (by omega),w64 (n:=b*g) (by omega) (by omega),w64 (by omega) (by omega)]
 exact ⟨rfl,by omega⟩
theorem isM_swapR {a b c d:Int} (h:PM.isM a b c d):PM.isM c d a b:=by
 unfold PM.isM at *
 refine ⟨by omega,?_⟩
 have:=h.2
 rw [Int.mul_comm c b,Int.mul_comm d a];omega
theorem isM_swapC {a b c d:Int} (h:PM.isM a b c d):PM.isM b a d c:=by
 unfold PM.isM at *
 refine ⟨by omega,?_⟩
 have:=h.2
 omega
/-- the product, not yet reduced -/
def pr4 (a b c d e f g h:Int):Int × Int × Int × Int × Bool:=redT (a*e+b*g) (a*f+b*h) (c*e+d*g) (c*f+d*h)
theorem prod_all {a b c d e f g h:Int} (h1:PM.isM a b c d) (h2:PM.isM e f g h) :
  (wrap64 (wrap64 (a*e)+wrap64 (b*g))=a*e+b*g∧(a*e+b*g).natAbs≤2000000)∧(wrap64 (wrap64 (a*f)+wrap64 (b*h))=a*f+b*h∧(a*f+b*h).natAbs≤2000000)∧(wrap64 (wrap64 (c*e)+wrap64 (d*g))=c*e+d*g∧(c*e+d*g).natAbs≤2000000)∧(wrap64 (wrap64 (c*f)+wrap64 (d*h))=c*f+d*h∧(c*f+d*h).natAbs≤2000000)∧(a*e+b*g)*(c*f+d*h) - (a*f+b*h)*(c*e+d*g)≠0:=
 ⟨prods h1 h2,prods h1 (isM_swapC h2),prods (isM_swapR h1) h2,prods (isM_swapR h1) (isM_swapC h2),by rw [PM.det_mul];exact Int.mul_ne_zero h1.2 h2.2⟩
theorem product_eq {a b c d e f g h:Int} (h1:PM.isM a b c d) (h2:PM.isM e f g h):∃ K,∀ k,K≤k→impl_product.f k a b c d e f g h=some (pr4 a b c d e f g h):=by
 obtain ⟨p1,p2,p3,p4,p5⟩:=prod_all h1 h2
 obtain ⟨K,hK⟩:=reduced_eq (by omega) (by omega) (by omega) (by omega) p5
 refine ⟨K,fun k hk=>?_⟩
 unfold impl_product.f
 rw [p1.1,p2.1,p3.1,p4.1,hK k hk];rfl

theorem isM_inv {a b c d:Int} (h:PM.isM a b c d):PM.isM d (-b) (-c) a:=by
 unfold PM.isM at *
 refine ⟨by omega,?_⟩
 have:=h.2
 rw [Int.neg_mul_neg,Int.mul_comm d a];exact this
theorem inverted_eq {a b c d:Int} (h:PM.isM a b c d):∃ K,∀ k,K≤k→impl_inverted.f k a b c d=some (PM.red d (-b) (-c) a):=by
 have hb:=PM.isM_bd h
 obtain ⟨K,hK⟩:=reduce_eq (isM_inv h)
 refine ⟨K,fun k hk=>?_⟩
 unfold impl_inverted.f
 rw [w64 (n:=-b) (by omega) (by omega),w64 (n:=-c) (by omega) (by omega),hK k hk];rfl

theorem l04Code_eq (p a b c d:Int) (l:List S28) (hl:l.length≤1000):∃ K,∀ k,K≤k→spec_l04Code.f k p a b c d l=some (if (Pr p∧l.all (bOk p)=true)∧PM.isM a b c d then 0 else 1):=by
 obtain ⟨K,h⟩:=l01Code_eq p l hl
 refine ⟨K,fun k hk=>?_⟩
 unfold spec_l04Code.f
 rw [h k hk,l04Is_eq]
 simp only [Option.bind_some]
 by_cases c1:Pr p∧l.all (bOk p)=true
 ·
  rw [if_pos c1,if_pos rfl]
  by_cases c2:PM.isM a b c d
  ·
   rw [decide_eq_true c2,if_pos (show (Pr p∧l.all (bOk p)=true)∧PM.isM a b c d from ⟨c1,c2⟩)];rfl
  ·
   rw [decide_eq_false c2,if_neg (show ¬ ((Pr p∧l.all (bOk p)=true)∧PM.isM a b c d) from fun z=>c2 z.2)];simp
 ·
  rw [if_neg c1,if_neg (show ¬ ((Pr p∧l.all (bOk p)=true)∧PM.isM a b c d) from fun z=>c1 z.1),if_neg (by omega)]
theorem l04Code_b (p a b c d lv top dn:Int):∃ K,∀ k,K≤k→spec_l04Code.f k p a b c d [⟨lv,top,dn⟩]=some (if (Pr p∧PM.Ok p ⟨lv,top,dn⟩)∧PM.isM a b c d then 0 else 1):=by
 obtain ⟨K,h⟩:=l04Code_eq p a b c d [⟨lv,top,dn⟩] (by simp)
 refine ⟨K,fun k hk=>?_⟩
 rw [h k hk]
 have e:((Pr p∧([(⟨lv,top,dn⟩:S28)].all (bOk p)=true))∧PM.isM a b c d)↔((Pr p∧PM.Ok p ⟨lv,top,dn⟩)∧PM.isM a b c d):=by simp [bOk]
 by_cases q:(Pr p∧PM.Ok p ⟨lv,top,dn⟩)∧PM.isM a b c d
 ·
  rw [if_pos (e.mpr q),if_pos q]
 ·
  rw [if_neg (fun z=>q (e.mp z)),if_neg q]

/-- the end of a fraction, and whether it fits -/
def endF (n d:Int):Int × Int × Bool:=if d=0 then (1,0,true) else
 (n.tdiv ((Int.gcd n d:Int)*(if d<0 then -1 else 1)),d.tdiv ((Int.gcd n d:Int)*(if d<0 then -1 else 1)),decide (isE (n.tdiv ((Int.gcd n d:Int)*(if d<0 then -1 else 1))) (d.tdiv ((Int.gcd n d:Int)*(if d<0 then -1 else 1)))))
theorem end_low {n d:Int} (hd:d≠0):isE (n.tdiv ((Int.gcd n d:Int)*(if d<0 then -1 else 1))) (d.tdiv ((Int.gcd n d:Int)*(if d<0 then -1 else 1)))↔
  (d.tdiv ((Int.gcd n d:Int)*(if d<0 then -1 else 1))≤1000000∧(n.tdiv ((Int.gcd n d:Int)*(if d<0 then -1 else 1))).natAbs≤1000000):=by
 have g0:0<Int.gcd n d:=by
  rcases Nat.eq_zero_or_pos (Int.gcd n d) with h|h
  ·
   exact absurd (Int.gcd_eq_zero_iff.mp h).2 hd
  ·
   exact h
 have dn:(Int.gcd n d:Int) ∣ n:=Int.gcd_dvd_left ..
 have dd:(Int.gcd n d:Int) ∣ d:=Int.gcd_dvd_right ..
 have hg:=Int.gcd_ediv_gcd_ediv_gcd (i:=n) (j:=d) g0
 generalize hG:Int.gcd n d=G at *
 have en:n.tdiv (G:Int)=n / G:=Int.tdiv_eq_ediv_of_dvd dn
 have ed:d.tdiv (G:Int)=d / G:=Int.tdiv_eq_ediv_of_dvd dd
 have key:∀ s:Int,(s=1∨s = -1)→s*d>0→(isE (n.tdiv ((G:Int)*s)) (d.tdiv ((G:Int)*s))↔(d.tdiv ((G:Int)*s)≤1000000∧(n.tdiv ((G:Int)*s)).natAbs≤1000000)):=by
  intro s hs hp
  rw [PM.tdiv_sg n _ s hs,PM.tdiv_sg d _ s hs,en,ed]
  have e3:G*(d / G)=d:=Int.mul_ediv_cancel' dd
  have hpos:1≤d / G*s:=by
   refine Decidable.byContradiction fun h=>?_
   have h2:d / G*s≤0:=by omega
   have h3:(G:Int)*(d / G*s)≤0:=Int.mul_nonpos_of_nonneg_of_nonpos (by omega) h2
   rw [← Int.mul_assoc,e3,Int.mul_comm] at h3
   omega
  have hgs:Int.gcd (n / G*s) (d / G*s)=1:=by
   rcases hs with rfl|rfl
   ·
    simpa using hg
   ·
    simpa using hg
  unfold isE
  constructor
  ·
   rintro (h|h)
   ·
    omega
   ·
    omega
  ·
   rintro ⟨h1,h2⟩
   exact Or.inr ⟨hpos,h1,by omega,by omega,hgs⟩
 by_cases h:d<0
 ·
  rw [if_pos h];exact key (-1) (Or.inr rfl) (by omega)
 ·
  rw [if_neg h];exact key 1 (Or.inl rfl) (by omega)
theorem endF_pre {n d:Int} (hd:d≠0) (hn:n.natAbs≤4611686018427387904) (hdb:d.natAbs≤4611686018427387904) :
  (if d<0 then wrap64 (-(Int.gcd n d:Int)) else (Int.gcd n d:Int))=(Int.gcd n d:Int)*(if d<0 then -1 else 1)∧(Int.gcd n d:Int)*(if d<0 then -1 else 1)≠0∧(∀ x:Int,x.natAbs≤4611686018427387904→wrap64 (x.tdiv ((Int.gcd n d:Int)*(if d<0 then -1 else 1)))=x.tdiv ((Int.gcd n d:Int)*(if d<0 then -1 else 1))):=by
 have g0:0<Int.gcd n d:=by
  rcases Nat.eq_zero_or_pos (Int.gcd n d) with h|h
  ·
   exact absurd (Int.gcd_eq_zero_iff.mp h).2 hd
  ·
   exact h
 have g1:Int.gcd n d≤d.natAbs:=by rw [Int.gcd_comm];exact Nat.le_of_dvd (by omega) (Nat.gcd_dvd_left _ _)
 refine ⟨?_,?_,fun x hx=>?_⟩
 ·
  by_cases h:d<0
  ·
   rw [if_pos h,if_pos h,w64 (by omega) (by omega)];omega
  ·
   rw [if_neg h,if_neg h];omega
 ·
  by_cases h:d<0
  ·
   rw [if_pos h];omega
  ·
   rw [if_neg h];omega
 ·
  have:=PM.tdiv_abs_le x ((Int.gcd n d:Int)*(if d<0 then -1 else 1))
  exact w64 (by omega) (by omega)

theorem endAt_eq {n d:Int} (hn:n.natAbs≤4611686018427387904) (hdb:d.natAbs≤4611686018427387904):∃ K,∀ k,K≤k→impl_endAt.f k n d=some (endF n d):=by
 by_cases z:d=0
 ·
  refine ⟨0,fun k _=>?_⟩
  unfold impl_endAt.f endF
  rw [if_pos z,if_pos z]
 ·
  obtain ⟨K1,h1⟩:=gcd_eq n d (by omega) (by omega)
  obtain ⟨q1,q2,q3⟩:=endF_pre z hn hdb
  obtain ⟨K2,h2⟩:=IsEnd_eq (n.tdiv ((Int.gcd n d:Int)*(if d<0 then -1 else 1))) (d.tdiv ((Int.gcd n d:Int)*(if d<0 then -1 else 1)))
  refine ⟨K1+K2,fun k hk=>?_⟩
  unfold impl_endAt.f endF
  rw [if_neg z,if_neg z,h1 k (by omega)]
  simp only [Option.bind_some]
  have h2:=h2 k (by omega)
  have q3n:=q3 n hn
  have q3d:=q3 d hdb
  by_cases h:d<0
  ·
   simp only [if_pos h] at *
   rw [q1,if_neg q2,q3n,q3d,h2];rfl
  ·
   simp only [if_neg h,Int.mul_one] at *
   rw [if_neg q2,q3n,q3d,h2];rfl

theorem l01EndOf_eq {n d:Int} (hn:n.natAbs≤4611686018427387904) (hdb:d.natAbs≤4611686018427387904):∃ K,∀ k,K≤k→spec_l01EndOf.f k n d=some (endF n d):=by
 by_cases z:d=0
 ·
  refine ⟨0,fun k _=>?_⟩
  unfold spec_l01EndOf.f endF
  rw [if_pos z,if_pos z]
 ·
  obtain ⟨K1,h1⟩:=l01Gcd_eq n d (by omega) (by omega)
  obtain ⟨q1,q2,q3⟩:=endF_pre z hn hdb
  have hl:=end_low (n:=n) z
  refine ⟨K1,fun k hk=>?_⟩
  unfold spec_l01EndOf.f endF
  rw [if_neg z,if_neg z,h1 k (by omega)]
  simp only [Option.bind_some]
  have q3n:=q3 n hn
  have q3d:=q3 d hdb
  have b1:=PM.tdiv_abs_le n ((Int.gcd n d:Int)*(if d<0 then -1 else 1))
  by_cases h:d<0
  ·
   simp only [if_pos h] at *
   rw [q1,if_neg q2,q3n,q3d,mx_neg _ (by omega)]
   by_cases c:d.tdiv ((Int.gcd n d:Int) * -1)≤1000000
   ·
    rw [if_pos c]
    congr 3
    rw [Bool.eq_iff_iff];simp only [decide_eq_true_eq];rw [hl];omega
   ·
    rw [if_neg c,decide_eq_false (fun y=>c (hl.mp y).1)]
  ·
   simp only [if_neg h,Int.mul_one] at *
   rw [if_neg q2,q3n,q3d,mx_neg _ (by omega)]
   by_cases c:d.tdiv (Int.gcd n d:Int)≤1000000
   ·
    rw [if_pos c]
    congr 3
    rw [Bool.eq_iff_iff];simp only [decide_eq_true_eq];rw [hl];omega
   ·
    rw [if_neg c,decide_eq_false (fun y=>c (hl.mp y).1)]

theorem mulN_bd {x y:Int} {X Y:Nat} (hx:x.natAbs≤X) (hy:y.natAbs≤Y):(x*y).natAbs≤X*Y:=by
 rw [Int.natAbs_mul];exact Nat.mul_le_mul hx hy
theorem lin_bd {a b n d:Int} (ha:a.natAbs≤1000) (hb:b.natAbs≤1000) (hn:n.natAbs≤1000000) (hd:d.natAbs≤1000000):wrap64 (wrap64 (a*n)+wrap64 (b*d))=a*n+b*d∧(a*n+b*d).natAbs≤2000000000:=by
 have h1:=mulN_bd ha hn
 have h2:=mulN_bd hb hd
 rw [w64 (n:=a*n) (by omega) (by omega),w64 (n:=b*d) (by omega) (by omega),w64 (by omega) (by omega)]
 exact ⟨rfl,by omega⟩
theorem isE_abs {n d:Int} (h:isE n d):n.natAbs≤1000000∧d.natAbs≤1000000:=by unfold isE at h;omega
def mvE (a b c d n m:Int):Int × Int × Bool:=endF (a*n+b*m) (c*n+d*m)
theorem moveEnd_eq {a b c d n m:Int} (h:PM.isM a b c d) (he:isE n m):∃ K,∀ k,K≤k→impl_moveEnd.f k a b c d n m=some (mvE a b c d n m):=by
 have hb:=PM.isM_bd h
 have hE:=isE_abs he
 obtain ⟨e1,e2⟩:=lin_bd hb.1 hb.2.1 hE.1 hE.2
 obtain ⟨e3,e4⟩:=lin_bd hb.2.2.1 hb.2.2.2 hE.1 hE.2
 obtain ⟨K,hK⟩:=endAt_eq (n:=a*n+b*m) (d:=c*n+d*m) (by omega) (by omega)
 refine ⟨K,fun k hk=>?_⟩
 unfold impl_moveEnd.f
 rw [e1,e3,hK k hk];rfl
theorem l04End_eq {a b c d n m:Int} (h:PM.isM a b c d) (he:isE n m):∃ K,∀ k,K≤k→spec_l04End.f k a b c d n m=some (mvE a b c d n m):=by
 have hb:=PM.isM_bd h
 have hE:=isE_abs he
 obtain ⟨e1,e2⟩:=lin_bd hb.1 hb.2.1 hE.1 hE.2
 obtain ⟨e3,e4⟩:=lin_bd hb.2.2.1 hb.2.2.2 hE.1 hE.2
 obtain ⟨K,hK⟩:=l01EndOf_eq (n:=a*n+b*m) (d:=c*n+d*m) (by omega) (by omega)
 refine ⟨K,fun k hk=>?_⟩
 unfold spec_l04End.f
 rw [e1,e3,hK k hk];rfl

theorem mvlin {c T d S:Int} (hc:c.natAbs≤1000) (hd:d.natAbs≤1000) (hT:T.natAbs≤13841287201) (hS:S.natAbs≤13841287201) :
  wrap64 (wrap64 (c*T)+wrap64 (d*S))=c*T+d*S∧wrap64 (c*T)=c*T∧(c*T).natAbs≤13841287201000∧(c*T+d*S).natAbs≤27682574402000:=by
 have h1:(c*T).natAbs≤1000*13841287201:=by rw [Int.natAbs_mul];exact Nat.mul_le_mul hc hT
 have h2:(d*S).natAbs≤1000*13841287201:=by rw [Int.natAbs_mul];exact Nat.mul_le_mul hd hS
 rw [w64 (n:=c*T) (by omega) (by omega),w64 (n:=d*S) (by omega) (by omega),w64 (by omega) (by omega)]
 exact ⟨rfl,rfl,by omega,by omega⟩
theorem mvF_bd {p a b c d P T S:Int} (ha:a.natAbs≤1000) (hb:b.natAbs≤1000) (hc:c.natAbs≤1000) (hd:d.natAbs≤1000) (hP:P.natAbs≤13841287201) (hT:T.natAbs≤13841287201) (hS:S.natAbs≤13841287201) :
  (PM.mvF p a b c d P T S).1.natAbs≤27682574402000∧(PM.mvF p a b c d P T S).2.natAbs≤27682574402000:=by
 have h1:=mvlin ha hb hT hS
 have h2:=mvlin hc hd hT hS
 have h3:=mvlin (d:=0) (S:=0) ha (by simp) hP (by simp)
 have h4:=mvlin (d:=0) (S:=0) hc (by simp) hP (by simp)
 unfold PM.mvF
 split
 ·
  exact ⟨by simp only;omega,by simp only;omega⟩
 ·
  exact ⟨by simp only;omega,by simp only;omega⟩

set_option maxHeartbeats 1600000 in
theorem moveBall_eq {p a b c d lv top dn:Int} (hp:Pr p) (hm:PM.isM a b c d) (ho:PM.Ok p ⟨lv,top,dn⟩):∀ k,13841287400≤k→impl_moveBall.f k p a b c d lv top dn=some (enc (PM.moveB p a b c d ⟨lv,top,dn⟩)):=by
 intro k hk
 obtain ⟨k,rfl⟩:∃ j,k=j+1:=⟨k - 1,by omega⟩
 have hb:=PM.isM_bd hm
 obtain ⟨m0,m1⟩:=PM.mark_bd hp ho
 have hlv:=ho.1
 have hlv2:=ho.2.1
 simp only at hlv hlv2 m1
 have b1:=pw_bd12 p (lv+6) hp (by omega)
 have b2:=pw_bd12 p 6 hp (by omega)
 unfold impl_moveBall.f
 rw [mark_eq hp ho _ (by omega),power_eq p 6 hp (by omega) _ (by omega),w64 (n:=lv+6) (by omega) (by omega),power_eq p (lv+6) hp (by omega) _ (by omega)]
 simp only [Option.bind_some]
 unfold PM.moveB
 simp only
 obtain ⟨P,hP⟩:∃ P,P=pw p (lv+6):=⟨_,rfl⟩
 obtain ⟨S,hS⟩:∃ S,S=pw p 6:=⟨_,rfl⟩
 obtain ⟨T,hT⟩:∃ T,T=PM.mark p ⟨lv,top,dn⟩:=⟨_,rfl⟩
 rw [← hP,← hS,← hT]
 rw [← hP] at b1 m1
 rw [← hS] at b2
 rw [← hT] at m0 m1
 have hbd:=mvF_bd (p:=p) (P:=P) (T:=T) (S:=S) hb.1 hb.2.1 hb.2.2.1 hb.2.2.2 (by omega) (by omega) (by omega)
 have hne:=PM.mvF_ne (p:=p) (P:=P) (T:=T) (S:=S) hm.2 (by omega) (by omega)
 obtain ⟨l1,_,_,l1b⟩:=mvlin (T:=T) (S:=S) hb.1 hb.2.1 (by omega) (by omega)
 obtain ⟨l2,_,_,l2b⟩:=mvlin (T:=T) (S:=S) hb.2.2.1 hb.2.2.2 (by omega) (by omega)
 obtain ⟨_,l3,l3b,_⟩:=mvlin (T:=P) (S:=0) (d:=0) hb.1 (by simp) (by omega) (by simp)
 obtain ⟨_,l4,l4b,_⟩:=mvlin (T:=P) (S:=0) (d:=0) hb.2.2.1 (by simp) (by omega) (by simp)
 rw [l1,l2,l3,l4,valuation_eq p _ hp (by omega) _ (by omega),valuation_eq p _ hp (by omega) _ (by omega)]
 simp only [Option.bind_some]
 have hsel:(if vz p (c*T+d*S)>vz p (c*P) then impl_moveBall.j0 (k+1) p a b c d lv top dn (a*P) (c*P) else impl_moveBall.j0 (k+1) p a b c d lv top dn (a*T+b*S) (c*T+d*S))=impl_moveBall.j0 (k+1) p a b c d lv top dn (PM.mvF p a b c d P T S).1 (PM.mvF p a b c d P T S).2:=by
  unfold PM.mvF at hne ⊢
  by_cases z:c*T+d*S=0
  ·
   rw [if_pos (Or.inl z)] at hne ⊢
   have hne':c*P≠0:=hne
   have hu:=vl_le63 hp hne' (by omega)
   rw [z,show vz p 0=1000 by simp [vz],vz_of_ne hne',if_pos (by omega)]
  ·
   have hv:=vl_le63 hp z (by omega)
   rw [vz_of_ne z]
   by_cases y:c*P=0
   ·
    rw [y,show vz p 0=1000 by simp [vz],if_neg (by omega),if_neg (show ¬ (c*T+d*S=0∨((0:Int)≠0∧vl p 0<vl p (c*T+d*S))) from fun h=>h.elim z (fun h=>h.1 rfl))]
   ·
    rw [vz_of_ne y]
    by_cases q:vl p (c*P)<vl p (c*T+d*S)
    ·
     rw [if_pos (by omega),if_pos (Or.inr ⟨y,q⟩)]
    ·
     rw [if_neg (by omega),if_neg (show ¬ (c*T+d*S=0∨(c*P≠0∧vl p (c*P)<vl p (c*T+d*S))) from fun h=>h.elim z (fun h=>q h.2))]
 rw [hsel]
 generalize PM.mvF p a b c d P T S=F at *
 obtain ⟨e1,e2⟩:=dets hb.1 hb.2.1 hb.2.2.1 hb.2.2.2
 have v1:=vl_le63 hp hm.2 (by omega)
 have v2:=vl_le63 hp hne (by omega)
 simp only [impl_moveBall.j0]
 unfold impl_determinant.f
 simp only [Option.bind_some]
 rw [e1,valuation_eq p _ hp (by omega) _ (by omega),valuation_eq p _ hp (by omega) _ (by omega),vz_of_ne hm.2,vz_of_ne hne]
 simp only [Option.bind_some]
 rw [w64 (n:=(vl p (a*d - b*c):Int)+lv) (by omega) (by omega),w64 (n:=(vl p (a*d - b*c):Int)+lv+12) (by omega) (by omega),w64 (n:=2*(vl p F.2:Int)) (by omega) (by omega),w64 (n:=(vl p (a*d - b*c):Int)+lv+12 - 2*(vl p F.2:Int)) (by omega) (by omega),ballAt_eq hp hne (by omega) (by omega) k (by omega)]
 rfl

set_option maxHeartbeats 1600000 in
theorem l04Move_eq {p a b c d lv top dn:Int} (hp:Pr p) (hm:PM.isM a b c d) (ho:PM.Ok p ⟨lv,top,dn⟩):∀ k,13841287400≤k→spec_l04Move.f k p a b c d lv top dn=some (enc (PM.moveB p a b c d ⟨lv,top,dn⟩)):=by
 intro k hk
 obtain ⟨k,rfl⟩:∃ j,k=j+1+1:=⟨k - 2,by omega⟩
 have hb:=PM.isM_bd hm
 obtain ⟨t,ht⟩:∃ t,t=max dn (-lv):=⟨_,rfl⟩
 rw [PM.moveB_ref (t:=t) hp hm.2 ho ht]
 obtain ⟨o1,o2,o3,o4,o5⟩:=ho
 simp only at o1 o2 o3 o4 o5 ⊢
 have b1:=pw_bd12 p (lv+t) hp (by omega)
 have b2:=pw_bd12 p t hp (by omega)
 have b3:=pw_bd12 p (t - dn) hp (by omega)
 have hTb:0≤top*pw p (t - dn)∧top*pw p (t - dn)≤13841287201:=by
  rcases o5 with ⟨_,z,_⟩|⟨g,h0,h1,_⟩
  ·
   rw [z];simp
  ·
   refine ⟨Int.mul_nonneg h0 (by omega),?_⟩
   have h2:top*pw p (t - dn)≤pw p (lv+dn)*pw p (t - dn):=Int.mul_le_mul_of_nonneg_right (by omega) (by omega)
   rw [← PM.pw_add (by omega) (by omega),show lv+dn+(t - dn)=lv+t by omega] at h2
   omega
 unfold spec_l04Move.f
 simp only [mx_max]
 rw [w64 (n:=-lv) (by omega) (by omega),← ht,w64 (n:=lv+t) (by omega) (by omega),w64 (n:=t - dn) (by omega) (by omega),l01Power_eq p (lv+t) hp (by omega) (by omega) _ (by omega),l01Power_eq p t hp (by omega) (by omega) _ (by omega),l01Power_eq p (t - dn) hp (by omega) (by omega) _ (by omega)]
 simp only [Option.bind_some]
 rw [w64 (n:=top*pw p (t - dn)) (by omega) (by omega)]
 obtain ⟨P,hP⟩:∃ P,P=pw p (lv+t):=⟨_,rfl⟩
 obtain ⟨S,hS⟩:∃ S,S=pw p t:=⟨_,rfl⟩
 obtain ⟨T,hT⟩:∃ T,T=top*pw p (t - dn):=⟨_,rfl⟩
 rw [← hP,← hS,← hT]
 rw [← hP] at b1
 rw [← hS] at b2
 rw [← hT] at hTb
 have hbd:=mvF_bd (p:=p) (P:=P) (T:=T) (S:=S) hb.1 hb.2.1 hb.2.2.1 hb.2.2.2 (by omega) (by omega) (by omega)
 have hne:=PM.mvF_ne (p:=p) (P:=P) (T:=T) (S:=S) hm.2 (by omega) (by omega)
 obtain ⟨l1,_,_,l1b⟩:=mvlin (T:=T) (S:=S) hb.1 hb.2.1 (by omega) (by omega)
 obtain ⟨l2,_,_,l2b⟩:=mvlin (T:=T) (S:=S) hb.2.2.1 hb.2.2.2 (by omega) (by omega)
 obtain ⟨_,l3,l3b,_⟩:=mvlin (T:=P) (S:=0) (d:=0) hb.1 (by simp) (by omega) (by simp)
 obtain ⟨_,l4,l4b,_⟩:=mvlin (T:=P) (S:=0) (d:=0) hb.2.2.1 (by simp) (by omega) (by simp)
 simp only [l1,l2,l3,l4]
 have htb:0≤t∧t≤6:=by omega
 clear o5 ht hP hS hT
 have hend:spec_l04Move.j1 (k+1) p t a b c d lv top dn (PM.mvF p a b c d P T S).1 (PM.mvF p a b c d P T S).2=some (enc (PM.ballAt p (PM.mvF p a b c d P T S).1 (PM.mvF p a b c d P T S).2 ((vl p (a*d - b*c):Int)+lv+2*t - 2*vl p (PM.mvF p a b c d P T S).2))):=by
  generalize PM.mvF p a b c d P T S=F at *
  obtain ⟨e1,e2⟩:=dets hb.1 hb.2.1 hb.2.2.1 hb.2.2.2
  have v1:=vl_le63 hp hm.2 (by omega)
  have v2:=vl_le63 hp hne (by omega)
  simp only [spec_l04Move.j1]
  unfold spec_l04Det.f
  simp only [Option.bind_some]
  rw [e1,val_eq p _ hp hm.2 (by omega) _ (by omega),val_eq p _ hp hne (by omega) _ (by omega)]
  simp only [Option.bind_some]
  rw [w64 (n:=(vl p (a*d - b*c):Int)+lv) (by omega) (by omega),w64 (n:=2*t) (by omega) (by omega),w64 (n:=(vl p (a*d - b*c):Int)+lv+2*t) (by omega) (by omega),w64 (n:=2*(vl p F.2:Int)) (by omega) (by omega),w64 (n:=(vl p (a*d - b*c):Int)+lv+2*t - 2*(vl p F.2:Int)) (by omega) (by omega),l01Of_eq hp hne (by omega) (by omega) k (by omega),lOf_eq_ballAt hp hne]
  rfl
 rw [← hend]
 unfold PM.mvF at hne ⊢
 by_cases z:c*T+d*S=0
 ·
  rw [if_pos z,if_pos (Or.inl z)]
  simp only [spec_l04Move.j0]
  rw [if_pos trivial]
 ·
  rw [if_neg z]
  by_cases y:c*P=0
  ·
   rw [if_pos y,if_neg (show ¬ (c*T+d*S=0∨(c*P≠0∧vl p (c*P)<vl p (c*T+d*S))) from fun h=>h.elim z (fun h=>h.1 y))]
   simp only [spec_l04Move.j0]
   rw [if_neg (by simp)]
  ·
   rw [if_neg y,val_eq p _ hp z (by omega) _ (by omega),val_eq p _ hp y (by omega) _ (by omega),Option.bind_some,Option.bind_some]
   simp only [spec_l04Move.j0]
   by_cases q:vl p (c*P)<vl p (c*T+d*S)
   ·
    rw [decide_eq_true (by omega),if_pos rfl,if_pos (Or.inr ⟨y,q⟩)]
   ·
    rw [decide_eq_false (by omega),if_neg (by simp),if_neg (show ¬ (c*T+d*S=0∨(c*P≠0∧vl p (c*P)<vl p (c*T+d*S))) from fun h=>h.elim z (fun h=>q h.2))]

theorem joinLevel_eq {p l1 t1 d1 l2 t2 d2:Int} (hp:Pr p) (hb:PM.Ok p ⟨l1,t1,d1⟩) (hc:PM.Ok p ⟨l2,t2,d2⟩):∀ k,100≤k→impl_joinLevel.f k p l1 t1 d1 l2 t2 d2=some (PM.jl p ⟨l1,t1,d1⟩ ⟨l2,t2,d2⟩):=by
 intro k hk
 obtain ⟨m0,m1⟩:=PM.mark_bd hp hb
 obtain ⟨m2,m3⟩:=PM.mark_bd hp hc
 have b1:=pw_bd12 p (l1+6) hp (by have:=hb.2.1;simp only at this;omega)
 have b2:=pw_bd12 p (l2+6) hp (by have:=hc.2.1;simp only at this;omega)
 simp only at m1 m3
 unfold impl_joinLevel.f
 rw [mark_eq hp hb k (by omega),mark_eq hp hc k (by omega)]
 simp only [Option.bind_some]
 rw [w64 (n:=PM.mark p ⟨l1,t1,d1⟩ - PM.mark p ⟨l2,t2,d2⟩) (by omega) (by omega),valuation_eq p _ hp (by omega) k (by omega)]
 simp only [Option.bind_some,mn_min]
 have hz:=PM.vz_nonneg p (PM.mark p ⟨l1,t1,d1⟩ - PM.mark p ⟨l2,t2,d2⟩)
 have hz2:vz p (PM.mark p ⟨l1,t1,d1⟩ - PM.mark p ⟨l2,t2,d2⟩)≤1000:=by
  unfold vz
  by_cases z:PM.mark p ⟨l1,t1,d1⟩ - PM.mark p ⟨l2,t2,d2⟩=0
  ·
   rw [if_pos z];omega
  ·
   rw [if_neg z];have:=vl_le63 hp z (by omega);omega
 rw [w64 (by omega) (by omega)]
 rfl
theorem distance_fin {p:Int} {b c:PM.Ball} (hb:PM.Ok p b) (hc:PM.Ok p c):wrap64 (wrap64 (b.lv+c.lv) - wrap64 (2*PM.jl p b c))=PM.dist p b c:=by
 obtain ⟨j1,j2,j3⟩:=PM.jl_bd p hb hc
 have h1:=hb.2.1
 have h2:=hc.2.1
 have h3:=hb.1
 have h4:=hc.1
 rw [w64 (n:=b.lv+c.lv) (by omega) (by omega),w64 (n:=2*PM.jl p b c) (by omega) (by omega),w64 (by omega) (by omega)]
 rfl

theorem distance_eq {p l1 t1 d1 l2 t2 d2:Int} (hp:Pr p) (hb:PM.Ok p ⟨l1,t1,d1⟩) (hc:PM.Ok p ⟨l2,t2,d2⟩):∀ k,100≤k→impl_distance.f k p l1 t1 d1 l2 t2 d2=some (PM.dist p ⟨l1,t1,d1⟩ ⟨l2,t2,d2⟩):=by
 intro k hk
 unfold impl_distance.f
 rw [joinLevel_eq hp hb hc k hk]
 simp only [Option.bind_some]
 exact congrArg some (distance_fin hb hc)

theorem prime_dec (p:Int):spec_l01Prime.f p=some (decide (Pr p)):=by
 rcases prime_cases p with ⟨h,h2⟩|⟨h,h2⟩
 ·
  rw [h,decide_eq_true (show Pr p from h2)]
 ·
  rw [h,decide_eq_false (show ¬ Pr p from h2)]
def Byt (l:List Int):Prop:=∀ x,x ∈ l→0≤x∧x≤255
theorem rd_byte {l:List Int} (hb:Byt l) {i:Int} (h0:0≤i) (h1:i<(l.length:Int)):0≤rd l i∧rd l i≤255:=by
 obtain ⟨n,rfl⟩:=Int.eq_ofNat_of_zero_le h0
 have hn:n<l.length:=by omega
 have h2:=rd_nat l n hn
 rw [List.getElem?_eq_getElem hn] at h2
 rw [← Option.some.inj h2]
 exact hb _ (List.getElem_mem _)
theorem and_bd {x:Int} (h0:0≤x) (h1:x<18446744073709551616):0≤Go.bits .and .u64 x 17179869183∧Go.bits .and .u64 x 17179869183≤17179869183:=by
 obtain ⟨n,rfl⟩:=Int.eq_ofNat_of_zero_le h0
 have h:=Go.bits_and_u64_nat n 17179869183 (by omega) (by omega)
 have e:((17179869183:Nat):Int)=17179869183:=rfl
 rw [e] at h
 rw [h]
 have:=Nat.and_le_right (n:=n) (m:=17179869183)
 omega
theorem u64_bd (n:Int):0≤IntKind.u64.wrap n / 8388608∧IntKind.u64.wrap n / 8388608<18446744073709551616:=by
 rw [IntKind.wrap_u64];omega
theorem tmod_bd {x n:Int} (h0:0≤x) (h1:1≤n):0≤Int.tmod x n∧Int.tmod x n<n:=by
 rw [Int.tmod_eq_emod_of_nonneg h0]
 exact ⟨Int.emod_nonneg _ (by omega),Int.emod_lt_of_pos _ (by omega)⟩
theorem next_ok {l:List Int} (hb:Byt l) (hl:l.length≤4096) {t:Int} (h n:Int) (ht:0≤t):∃ r t' h',spec_l01Next.f l t h n=some (r,t',h')∧0≤t'∧(n<1→r=0)∧(1≤n→0≤r∧r<n):=by
 unfold spec_l01Next.f
 by_cases c:n<1
 ·
  rw [if_pos c];exact ⟨_,_,_,rfl,ht,fun _=>rfl,fun z=>by omega⟩
 ·
  rw [if_neg c]
  have hu:=u64_bd (IntKind.u64.wrap (h*6364136223846793005)+1442695040888963407)
  have ha:=and_bd hu.1 hu.2
  by_cases d:t<(l.length:Int)
  ·
   have hr:=rd_byte hb ht d
   rw [if_pos d,if_pos ht,if_neg (by omega)]
   refine ⟨_,_,_,rfl,by rw [w64 (n:=t+1) (by omega) (by omega)];omega,fun z=>by omega,fun z=>?_⟩
   refine tmod_bd ?_ z
   rw [w64 (n:=Go.bits .and .u64 _ 17179869183) (by omega) (by omega),w64 (n:=rd l t) (by omega) (by omega),w64 (by omega) (by omega)]
   omega
  ·
   rw [if_neg d,if_neg (by omega)]
   refine ⟨_,_,_,rfl,ht,fun z=>by omega,fun z=>?_⟩
   refine tmod_bd ?_ z
   rw [w64 (n:=Go.bits .and .u64 _ 17179869183) (by omega) (by omega)]
   omega
theorem from_ok (l:List Int) (hl:l.length≤4096):∃ h,∀ k,l.length+1≤k→spec_l01From.f k l=some (l,0,h):=by
 have go:∀ (d i:Nat) (x:Int),i+d=l.length→∃ h,∀ k,d+1≤k→spec_l01From.l0 k l (i:Int) l 0 x=some (l,0,h):=by
  intro d
  induction d with
  | zero=>
   intro i x hi
   refine ⟨x,fun k hk=>?_⟩
   obtain ⟨k,rfl⟩:∃ m,k=m+1:=⟨k - 1,by omega⟩
   simp only [spec_l01From.l0]
   rw [if_neg (by omega)]
  | succ d ih=>
   intro i x hi
   obtain ⟨h,e⟩:=ih (i+1) (IntKind.u64.wrap ((IntKind.u64.wrap ((IntKind.u64.wrap (x*1099511628211))+(IntKind.u64.wrap (rd l (i:Int)))))+71)) (by omega)
   refine ⟨h,fun k hk=>?_⟩
   obtain ⟨k,rfl⟩:∃ m,k=m+1:=⟨k - 1,by omega⟩
   simp only [spec_l01From.l0]
   rw [if_pos (by omega),if_pos (by omega),if_pos (by omega),w64 (n:=(i:Int)+1) (by omega) (by omega),show (i:Int)+1=((i+1:Nat):Int) by omega]
   exact e k (by omega)
 obtain ⟨h,e⟩:=go l.length 0 (IntKind.u64.wrap (12527+(IntKind.u64.wrap ((l.length:Int))))) (by omega)
 exact ⟨h,fun k hk=>e k (by omega)⟩

theorem rd_mem (q:List Int) {r:Int} (h0:0≤r) (h1:r<(q.length:Int)):rd q r ∈ q:=by
 obtain ⟨n,rfl⟩:=Int.eq_ofNat_of_zero_le h0
 have hn:n<q.length:=by omega
 have h2:=rd_nat q n hn
 rw [List.getElem?_eq_getElem hn] at h2
 rw [← Option.some.inj h2]
 exact List.getElem_mem _
theorem pick_in {l:List Int} (hb:Byt l) (hl:l.length≤4096) {t:Int} (h:Int) (ht:0≤t) (q:List Int) (hq:1≤q.length):∃ r t' h',spec_l01Pick.f l t h q=some (r,t',h')∧0≤t'∧r ∈ q:=by
 obtain ⟨r,t',h',e,ht',_,hr⟩:=next_ok hb hl h (q.length:Int) ht
 have:=hr (by omega)
 unfold spec_l01Pick.f
 rw [e]
 simp only [Option.bind_some]
 rw [if_pos (by omega),if_pos (by omega)]
 exact ⟨_,_,_,rfl,ht',rd_mem q this.1 this.2⟩
theorem prime_ok {l:List Int} (hb:Byt l) (hl:l.length≤4096) {t:Int} (h:Int) (ht:0≤t):∃ p t' h',spec_l01DrawPrime.f l t h=some (p,t',h')∧0≤t'∧Pr p:=by
 obtain ⟨r,t',h',e,ht',hr⟩:=pick_in hb hl h ht [2,2,3,3,5,7] (by simp)
 unfold spec_l01DrawPrime.f
 rw [e]
 refine ⟨r,t',h',rfl,ht',?_⟩
 simp at hr
 unfold Pr;omega

theorem draw_ok {l:List Int} (hb:Byt l) (hl:l.length≤4096) {t p:Int} (hp:Pr p) (h:Int) (ht:0≤t):∃ b1 b2 b3 t' h',(∀ k,13841287400≤k→spec_l01Draw.f k l t h p=some (b1,b2,b3,t',h'))∧0≤t':=by
 obtain ⟨r1,t1,h1,e1,ht1,_,_⟩:=next_ok hb hl h 13 ht
 obtain ⟨r2,t2,h2,e2,ht2,_⟩:=pick_in hb hl h1 ht1 [0,1,2,3,wrap64 (r1 - 6)] (by simp)
 obtain ⟨r3,t3,h3,e3,ht3,_,_⟩:=next_ok hb hl h2 6 ht2
 obtain ⟨r4,t4,h4,e4,ht4,_,c4⟩:=next_ok hb hl h3 20 ht3
 obtain ⟨r5,t5,h5,e5,ht5,_,c5⟩:=next_ok hb hl h4 2000000 ht4
 obtain ⟨r6,t6,h6,e6,ht6,c6⟩:=pick_in hb hl h5 ht5 [wrap64 (r4 - 10),wrap64 (r5 - 1000000)] (by simp)
 obtain ⟨r7,t7,h7,e7,ht7,_,c7⟩:=next_ok hb hl h6 7 ht6
 obtain ⟨r8,t8,h8,e8,ht8,c8⟩:=pick_in hb hl h7 ht7 [0,0,1,2,r7] (by simp)
 have c4:=c4 (by omega)
 have c5:=c5 (by omega)
 have c7:=c7 (by omega)
 rw [w64 (n:=r4 - 10) (by omega) (by omega),w64 (n:=r5 - 1000000) (by omega) (by omega)] at e6
 have b6 : -1000000≤r6∧r6≤1000000:=by
  rw [w64 (n:=r4 - 10) (by omega) (by omega),w64 (n:=r5 - 1000000) (by omega) (by omega)] at c6
  simp at c6;omega
 have b8:0≤r8∧r8≤6:=by simp at c8;omega
 by_cases z:r3=0
 ·
  refine ⟨r2,0,0,t3,h3,fun k hk=>?_,ht3⟩
  unfold spec_l01Draw.f
  rw [e1];simp only [Option.bind_some];rw [e2];simp only [Option.bind_some];rw [e3];simp only [Option.bind_some];rw [if_pos z]
 ·
  have hq:=pw_pos2 hp r8
  have hq2:pw p r8≤117649:=by
   have:=pw_le hp b8.2
   have h6:pw p 6≤117649:=by unfold Pr at hp;rcases hp with rfl|rfl|rfl|rfl <;> decide
   omega
  obtain ⟨o,ho⟩:∃ o,enc (PM.lOf p r6 (pw p r8) r2)=o:=⟨_,rfl⟩
  refine ⟨if o.2.2.2=true then o.1 else r2,if o.2.2.2=true then o.2.1 else 0,if o.2.2.2=true then o.2.2.1 else 0,t8,h8,fun k hk=>?_,ht8⟩
  unfold spec_l01Draw.f
  rw [e1];simp only [Option.bind_some];rw [e2];simp only [Option.bind_some];rw [e3];simp only [Option.bind_some];rw [if_neg z,e4];simp only [Option.bind_some];rw [e5];simp only [Option.bind_some]
  rw [w64 (n:=r4 - 10) (by omega) (by omega),w64 (n:=r5 - 1000000) (by omega) (by omega),e6];simp only [Option.bind_some];rw [e7];simp only [Option.bind_some];rw [e8];simp only [Option.bind_some]
  rw [l01Power_eq p r8 hp (by omega) (by omega) k (by omega)];simp only [Option.bind_some]
  rw [l01Of_eq hp (by omega) (by omega) (by omega) k (by omega),ho];simp only [Option.bind_some]
  by_cases q:o.2.2.2=true
  ·
   rw [if_pos q,if_pos q,if_pos q,if_pos q]
  ·
   rw [if_neg q,if_neg q,if_neg q,if_neg q]
theorem bad_ok {l:List Int} (hb:Byt l) (hl:l.length≤4096) {t:Int} (h:Int) (ht:0≤t) (a1 a2 a3:Int):∃ b1 b2 b3 t' h',spec_l01Bad.f l t h a1 a2 a3=some (b1,b2,b3,t',h')∧0≤t':=by
 obtain ⟨r1,t1,h1,e1,ht1,_,_⟩:=next_ok hb hl h 40 ht
 obtain ⟨r2,t2,h2,e2,ht2,_⟩:=pick_in hb hl h1 ht1 [(-7),7,wrap64 (a1 - 1),1099511627776] (by simp)
 obtain ⟨r3,t3,h3,e3,ht3,_⟩:=pick_in hb hl h1 ht1 [(-1),wrap64 (a2*7),1099511627776] (by simp)
 obtain ⟨r4,t4,h4,e4,ht4,_⟩:=pick_in hb hl h1 ht1 [(-1),wrap64 (a3+1),7] (by simp)
 unfold spec_l01Bad.f
 rw [e1];simp only [Option.bind_some]
 by_cases z0:r1=0
 ·
  rw [if_pos z0,e2];exact ⟨_,_,_,_,_,rfl,ht2⟩
 rw [if_neg z0]
 by_cases z1:r1=1
 ·
  rw [if_pos z1,e3];exact ⟨_,_,_,_,_,rfl,ht3⟩
 rw [if_neg z1]
 by_cases z2:r1=2
 ·
  rw [if_pos z2,e4];exact ⟨_,_,_,_,_,rfl,ht4⟩
 ·
  rw [if_neg z2];exact ⟨_,_,_,_,_,rfl,ht1⟩
theorem spoil_ok {l:List Int} (hb:Byt l) (hl:l.length≤4096) {t:Int} (h:Int) (ht:0≤t):∃ p b1 b2 b3 t' h',(∀ k,13841287400≤k→spec_l01Spoil.f k l t h=some (p,b1,b2,b3,t',h'))∧0≤t':=by
 obtain ⟨p,t1,h1,e1,ht1,hp⟩:=prime_ok hb hl h ht
 obtain ⟨a1,a2,a3,t2,h2,e2,ht2⟩:=draw_ok hb hl hp h1 ht1
 obtain ⟨b1,b2,b3,t3,h3,e3,ht3⟩:=bad_ok hb hl h2 ht2 a1 a2 a3
 obtain ⟨r,t4,h4,e4,ht4,_,_⟩:=next_ok hb hl h3 40 ht3
 obtain ⟨q,t5,h5,e5,ht5,_⟩:=pick_in hb hl h4 ht4 [0,1,4,11,(-3)] (by simp)
 have key:∀ k,13841287400≤k→spec_l01Spoil.f k l t h=(if r=0 then some (q,b1,b2,b3,t5,h5) else some (p,b1,b2,b3,t4,h4)):=fun k hk=>by
  unfold spec_l01Spoil.f
  rw [e1];simp only [Option.bind_some];rw [e2 k hk];simp only [Option.bind_some];rw [e3];simp only [Option.bind_some];rw [e4];simp only [Option.bind_some];rw [e5];simp only [Option.bind_some]
 by_cases z:r=0
 ·
  exact ⟨q,b1,b2,b3,t5,h5,fun k hk=>by rw [key k hk,if_pos z],ht5⟩
 ·
  exact ⟨p,b1,b2,b3,t4,h4,fun k hk=>by rw [key k hk,if_neg z],ht4⟩

theorem pr2:Pr 2:=Or.inl rfl
theorem pr3:Pr 3:=Or.inr (Or.inl rfl)
theorem drawEnd_ok {l:List Int} (hb:Byt l) (hl:l.length≤4096) {t:Int} (h:Int) (ht:0≤t):∃ K n d t' h',(∀ k,K≤k→spec_l01DrawEnd.f k l t h=some (n,d,t',h'))∧0≤t':=by
 obtain ⟨r0,t0,h0,e0,ht0,_,_⟩:=next_ok hb hl h 30 ht
 have key:∀ c:Bool,∃ K n d t' h',(∀ k,K≤k→spec_l01DrawEnd.j0 k r0 c l t0 h0=some (n,d,t',h'))∧0≤t':=by
  intro c
  by_cases c1:c=true
  ·
   refine ⟨1,1,0,t0,h0,fun k hk=>?_,ht0⟩
   obtain ⟨k,rfl⟩:∃ m,k=m+1:=⟨k - 1,by omega⟩
   simp only [spec_l01DrawEnd.j0];rw [if_pos c1]
  by_cases c2:r0=2
  ·
   obtain ⟨a,t1,h1,e1,ht1,_⟩:=pick_in hb hl h0 ht0 [2,0,1000001] (by simp)
   obtain ⟨b,t2,h2,e2,ht2,_⟩:=pick_in hb hl h1 ht1 [0,4,(-1)] (by simp)
   refine ⟨1,a,b,t2,h2,fun k hk=>?_,ht2⟩
   obtain ⟨k,rfl⟩:∃ m,k=m+1:=⟨k - 1,by omega⟩
   simp only [spec_l01DrawEnd.j0];rw [if_neg c1,if_pos c2,e1];simp only [Option.bind_some];rw [e2];rfl
  obtain ⟨r1,t1,h1,e1,ht1,_,c1'⟩:=next_ok hb hl h0 20 ht0
  obtain ⟨r2,t2,h2,e2,ht2,_,c2'⟩:=next_ok hb hl h1 200 ht1
  obtain ⟨r3,t3,h3,e3,ht3,_,c3'⟩:=next_ok hb hl h2 2000001 ht2
  have c1':=c1' (by omega)
  have c2':=c2' (by omega)
  have c3':=c3' (by omega)
  obtain ⟨n,t4,h4,e4,ht4,c4⟩:=pick_in hb hl h3 ht3 [wrap64 (r1 - 10),wrap64 (r2 - 100),wrap64 (r3 - 1000000)] (by simp)
  have bn : -1000000≤n∧n≤1000001:=by
   rw [w64 (n:=r1 - 10) (by omega) (by omega),w64 (n:=r2 - 100) (by omega) (by omega),w64 (n:=r3 - 1000000) (by omega) (by omega)] at c4
   simp at c4;omega
  obtain ⟨r5,t5,h5,e5,ht5,_,c5⟩:=next_ok hb hl h4 20 ht4
  obtain ⟨r6,t6,h6,e6,ht6,_,c6⟩:=next_ok hb hl h5 8 ht5
  obtain ⟨r7,t7,h7,e7,ht7,_,c7⟩:=next_ok hb hl h6 6 ht6
  obtain ⟨r8,t8,h8,e8,ht8,_,c8⟩:=next_ok hb hl h7 1000000 ht7
  have c5:=c5 (by omega)
  have c6:=c6 (by omega)
  have c7:=c7 (by omega)
  have c8:=c8 (by omega)
  obtain ⟨d,t9,h9,e9,ht9,c9⟩:=pick_in hb hl h8 ht8 [1,1,wrap64 (1+r5),pw 2 r6,pw 3 r7,wrap64 (1+r8)] (by simp)
  have bd:d.natAbs≤4611686018427387904:=by
   have p6:=pw_le pr2 (show r6≤7 by omega)
   have p7:=pw_le pr3 (show r7≤5 by omega)
   have q6:=pw_pos2 pr2 r6
   have q7:=pw_pos2 pr3 r7
   rw [show pw 2 7=128 by decide] at p6
   rw [show pw 3 5=243 by decide] at p7
   rw [w64 (n:=1+r5) (by omega) (by omega),w64 (n:=1+r8) (by omega) (by omega)] at c9
   simp at c9;omega
  obtain ⟨K,hK⟩:=l01EndOf_eq (n:=n) (d:=d) (by omega) bd
  refine ⟨K+40,(endF n d).1,(endF n d).2.1,t9,h9,fun k hk=>?_,ht9⟩
  obtain ⟨k,rfl⟩:∃ m,k=m+1:=⟨k - 1,by omega⟩
  simp only [spec_l01DrawEnd.j0];rw [if_neg c1,if_neg c2,e1];simp only [Option.bind_some];rw [e2];simp only [Option.bind_some];rw [e3];simp only [Option.bind_some];rw [e4];simp only [Option.bind_some];rw [e5];simp only [Option.bind_some];rw [e6];simp only [Option.bind_some]
  rw [l01Power_eq 2 r6 pr2 (by omega) (by omega) k (by omega)];simp only [Option.bind_some];rw [e7];simp only [Option.bind_some]
  rw [l01Power_eq 3 r7 pr3 (by omega) (by omega) k (by omega)];simp only [Option.bind_some];rw [e8];simp only [Option.bind_some];rw [e9];simp only [Option.bind_some]
  rw [hK k (by omega)];rfl
 obtain ⟨K1,n1,d1,t1,h1,e1,ht1⟩:=key (r0 == 0)
 obtain ⟨K2,n2,d2,t2,h2,e2,ht2⟩:=key (r0 == 1)
 by_cases z:r0=0
 ·
  refine ⟨K1,n1,d1,t1,h1,fun k hk=>?_,ht1⟩
  unfold spec_l01DrawEnd.f
  rw [e0];simp only [Option.bind_some];rw [if_pos z];exact e1 k hk
 ·
  refine ⟨K2,n2,d2,t2,h2,fun k hk=>?_,ht2⟩
  unfold spec_l01DrawEnd.f
  rw [e0];simp only [Option.bind_some];rw [if_neg z];exact e2 k hk

theorem TreeDistance_eq {p l1 t1 d1 l2 t2 d2:Int} (hp:Pr p) (hb:PM.Ok p ⟨l1,t1,d1⟩) (hc:PM.Ok p ⟨l2,t2,d2⟩):∀ k,200≤k→impl_TreeDistance.f k p l1 t1 d1 l2 t2 d2=some (PM.dist p ⟨l1,t1,d1⟩ ⟨l2,t2,d2⟩,0):=by
 intro k hk
 obtain ⟨k,rfl⟩:∃ m,k=m+1+1+1:=⟨k - 3,by omega⟩
 have r0:rd_T28 [(⟨l1,t1,d1⟩:S28),⟨l2,t2,d2⟩] 0=⟨l1,t1,d1⟩:=rfl
 have r1:rd_T28 [(⟨l1,t1,d1⟩:S28),⟨l2,t2,d2⟩] 1=⟨l2,t2,d2⟩:=rfl
 unfold impl_TreeDistance.f impl_areBalls.f
 simp only [impl_areBalls.l0]
 rw [if_pos (by simp),if_pos (by omega),if_pos (by simp),r0,IsBall_eq p l1 t1 d1 _ (by omega),decide_eq_true ⟨hp,hb⟩]
 simp only [Option.bind_some,if_true]
 rw [w64 (n:=(0:Int)+1) (by omega) (by omega),show (0:Int)+1=1 from rfl,if_pos (by simp),if_pos (by omega),if_pos (by simp),r1,IsBall_eq p l2 t2 d2 _ (by omega),decide_eq_true ⟨hp,hc⟩]
 simp only [Option.bind_some,if_true]
 rw [w64 (n:=(1:Int)+1) (by omega) (by omega),if_neg (by simp),isPrime_eq,prime_dec,decide_eq_true hp]
 simp only [Option.bind_some,if_true]
 rw [distance_eq hp hb hc _ (by omega)]
 rfl

theorem l04J2_ok {l:List Int} (hb:Byt l) (hl:l.length≤4096) {t:Int} (h:Int) (ht:0≤t) (x0 x1 x2 x3:Int):∃ m0 m1 m2 m3 t' h',(∀ k,1≤k→spec_l04Draw.j2 k l t h x0 x1 x2 x3=some (m0,m1,m2,m3,t',h'))∧0≤t':=by
 obtain ⟨r,t1,h1,e1,ht1,_,_⟩:=next_ok hb hl h 40 ht
 have key:∀ k,1≤k→spec_l04Draw.j2 k l t h x0 x1 x2 x3=(if r=0 then some (1001,x1,x2,x3,t1,h1) else (if r=1 then some (x0,x1,x0,x1,t1,h1) else some (x0,x1,x2,x3,t1,h1))):=fun k hk=>by
  obtain ⟨k,rfl⟩:∃ m,k=m+1:=⟨k - 1,by omega⟩
  simp only [spec_l04Draw.j2];rw [e1];simp only [Option.bind_some]
 by_cases z:r=0
 ·
  exact ⟨_,_,_,_,_,_,fun k hk=>by rw [key k hk,if_pos z],ht1⟩
 by_cases z1:r=1
 ·
  exact ⟨_,_,_,_,_,_,fun k hk=>by rw [key k hk,if_neg z,if_pos z1],ht1⟩
 ·
  exact ⟨_,_,_,_,_,_,fun k hk=>by rw [key k hk,if_neg z,if_neg z1],ht1⟩
theorem l04J1_ok {l:List Int} (hb:Byt l) (hl:l.length≤4096) {t:Int} (h:Int) (ht:0≤t) (x0 x1 x2 x3:Int):∃ m0 m1 m2 m3 t' h',(∀ k,2≤k→spec_l04Draw.j1 k l t h x0 x1 x2 x3=some (m0,m1,m2,m3,t',h'))∧0≤t':=by
 obtain ⟨r,t0,h0,e0,ht0,_,_⟩:=next_ok hb hl h 9 ht
 by_cases z0:r=0
 ·
  obtain ⟨a,t1,h1,e1,ht1,_⟩:=pick_in hb hl h0 ht0 [2,3,4,5,9] (by simp)
  obtain ⟨b,t2,h2,e2,ht2,_,_⟩:=next_ok hb hl h1 5 ht1
  obtain ⟨m0,m1,m2,m3,t',h',e,ht'⟩:=l04J2_ok hb hl h2 ht2 a (wrap64 (b - 2)) 0 1
  refine ⟨m0,m1,m2,m3,t',h',fun k hk=>?_,ht'⟩
  obtain ⟨k,rfl⟩:∃ m,k=m+1:=⟨k - 1,by omega⟩
  simp only [spec_l04Draw.j1];rw [e0];simp only [Option.bind_some];rw [if_pos z0,e1];simp only [Option.bind_some];rw [e2];simp only [Option.bind_some];exact e k (by omega)
 by_cases z1:r=1
 ·
  obtain ⟨a,t1,h1,e1,ht1,_⟩:=pick_in hb hl h0 ht0 [2,3,4,7,1] (by simp)
  obtain ⟨m0,m1,m2,m3,t',h',e,ht'⟩:=l04J2_ok hb hl h1 ht1 1 0 0 a
  refine ⟨m0,m1,m2,m3,t',h',fun k hk=>?_,ht'⟩
  obtain ⟨k,rfl⟩:∃ m,k=m+1:=⟨k - 1,by omega⟩
  simp only [spec_l04Draw.j1];rw [e0];simp only [Option.bind_some];rw [if_neg z0,if_pos z1,e1];simp only [Option.bind_some];exact e k (by omega)
 by_cases z2:r=2
 ·
  obtain ⟨a,t1,h1,e1,ht1,_⟩:=pick_in hb hl h0 ht0 [1,(-1),2,3] (by simp)
  obtain ⟨m0,m1,m2,m3,t',h',e,ht'⟩:=l04J2_ok hb hl h1 ht1 0 a 1 0
  refine ⟨m0,m1,m2,m3,t',h',fun k hk=>?_,ht'⟩
  obtain ⟨k,rfl⟩:∃ m,k=m+1:=⟨k - 1,by omega⟩
  simp only [spec_l04Draw.j1];rw [e0];simp only [Option.bind_some];rw [if_neg z0,if_neg z1,if_pos z2,e1];simp only [Option.bind_some];exact e k (by omega)
 by_cases z3:r=3
 ·
  obtain ⟨a,t1,h1,e1,ht1,_,_⟩:=next_ok hb hl h0 2001 ht0
  obtain ⟨b,t2,h2,e2,ht2,_,_⟩:=next_ok hb hl h1 9 ht1
  obtain ⟨c,t3,h3,e3,ht3,_,_⟩:=next_ok hb hl h2 9 ht2
  obtain ⟨d,t4,h4,e4,ht4,_,_⟩:=next_ok hb hl h3 2001 ht3
  obtain ⟨m0,m1,m2,m3,t',h',e,ht'⟩:=l04J2_ok hb hl h4 ht4 (wrap64 (a - 1000)) b c (wrap64 (d - 1000))
  refine ⟨m0,m1,m2,m3,t',h',fun k hk=>?_,ht'⟩
  obtain ⟨k,rfl⟩:∃ m,k=m+1:=⟨k - 1,by omega⟩
  simp only [spec_l04Draw.j1];rw [e0];simp only [Option.bind_some];rw [if_neg z0,if_neg z1,if_neg z2,if_pos z3,e1];simp only [Option.bind_some];rw [e2];simp only [Option.bind_some];rw [e3];simp only [Option.bind_some];rw [e4];simp only [Option.bind_some];exact e k (by omega)
 by_cases z4:r=4
 ·
  obtain ⟨a,t1,h1,e1,ht1,_,_⟩:=next_ok hb hl h0 7 ht0
  obtain ⟨m0,m1,m2,m3,t',h',e,ht'⟩:=l04J2_ok hb hl h1 ht1 1 (wrap64 (a - 3)) 0 1
  refine ⟨m0,m1,m2,m3,t',h',fun k hk=>?_,ht'⟩
  obtain ⟨k,rfl⟩:∃ m,k=m+1:=⟨k - 1,by omega⟩
  simp only [spec_l04Draw.j1];rw [e0];simp only [Option.bind_some];rw [if_neg z0,if_neg z1,if_neg z2,if_neg z3,if_pos z4,e1];simp only [Option.bind_some];exact e k (by omega)
 ·
  obtain ⟨m0,m1,m2,m3,t',h',e,ht'⟩:=l04J2_ok hb hl h0 ht0 x0 x1 x2 x3
  refine ⟨m0,m1,m2,m3,t',h',fun k hk=>?_,ht'⟩
  obtain ⟨k,rfl⟩:∃ m,k=m+1:=⟨k - 1,by omega⟩
  simp only [spec_l04Draw.j1];rw [e0];simp only [Option.bind_some];rw [if_neg z0,if_neg z1,if_neg z2,if_neg z3,if_neg z4];exact e k (by omega)
theorem l04Draw_ok {l:List Int} (hb:Byt l) (hl:l.length≤4096) {t:Int} (h:Int) (ht:0≤t):∃ m0 m1 m2 m3 t' h',(∀ k,20≤k→spec_l04Draw.f k l t h=some (m0,m1,m2,m3,t',h'))∧0≤t':=by
 have go:∀ (w:Nat) (x4 t h x0 x1 x2 x3:Int),0≤t→0≤x4→x4≤5→5 - x4=w→∃ m0 m1 m2 m3 t' h',(∀ k,w+3≤k→spec_l04Draw.l0 k x4 l t h x0 x1 x2 x3=some (m0,m1,m2,m3,t',h'))∧0≤t':=by
  intro w
  induction w with
  | zero=>
   intro x4 t h x0 x1 x2 x3 ht h0 h5 hw
   obtain ⟨m0,m1,m2,m3,t',h',e,ht'⟩:=l04J1_ok hb hl h ht x0 x1 x2 x3
   refine ⟨m0,m1,m2,m3,t',h',fun k hk=>?_,ht'⟩
   obtain ⟨k,rfl⟩:∃ m,k=m+1:=⟨k - 1,by omega⟩
   simp only [spec_l04Draw.l0];rw [if_neg (by omega)];exact e k (by omega)
  | succ w ih=>
   intro x4 t h x0 x1 x2 x3 ht h0 h5 hw
   obtain ⟨a,t1,h1,e1,ht1,_,_⟩:=next_ok hb hl h 11 ht
   obtain ⟨b,t2,h2,e2,ht2,_,_⟩:=next_ok hb hl h1 11 ht1
   obtain ⟨c,t3,h3,e3,ht3,_,_⟩:=next_ok hb hl h2 11 ht2
   obtain ⟨d,t4,h4,e4,ht4,_,_⟩:=next_ok hb hl h3 11 ht3
   obtain ⟨q,hq⟩:∃ q,spec_l04Det.f (wrap64 (a - 5)) (wrap64 (b - 5)) (wrap64 (c - 5)) (wrap64 (d - 5))=some q:=⟨_,rfl⟩
   obtain ⟨m0,m1,m2,m3,t',h',e,ht'⟩:=ih (x4+1) t4 h4 (wrap64 (a - 5)) (wrap64 (b - 5)) (wrap64 (c - 5)) (wrap64 (d - 5)) ht4 (by omega) (by omega) (by omega)
   obtain ⟨n0,n1,n2,n3,u',i',e',hu'⟩:=l04J1_ok hb hl h4 ht4 (wrap64 (a - 5)) (wrap64 (b - 5)) (wrap64 (c - 5)) (wrap64 (d - 5))
   by_cases z:q=0
   ·
    refine ⟨m0,m1,m2,m3,t',h',fun k hk=>?_,ht'⟩
    obtain ⟨k,rfl⟩:∃ m,k=m+1:=⟨k - 1,by omega⟩
    simp only [spec_l04Draw.l0];rw [if_pos (by omega),e1];simp only [Option.bind_some];rw [e2];simp only [Option.bind_some];rw [e3];simp only [Option.bind_some];rw [e4];simp only [Option.bind_some];rw [hq];simp only [Option.bind_some];rw [if_pos z,w64 (n:=x4+1) (by omega) (by omega)];exact e k (by omega)
   ·
    refine ⟨n0,n1,n2,n3,u',i',fun k hk=>?_,hu'⟩
    obtain ⟨k,rfl⟩:∃ m,k=m+1:=⟨k - 1,by omega⟩
    simp only [spec_l04Draw.l0];rw [if_pos (by omega),e1];simp only [Option.bind_some];rw [e2];simp only [Option.bind_some];rw [e3];simp only [Option.bind_some];rw [e4];simp only [Option.bind_some];rw [hq];simp only [Option.bind_some];rw [if_neg z];exact e' k (by omega)
 obtain ⟨m0,m1,m2,m3,t',h',e,ht'⟩:=go 5 0 t h 0 0 0 0 ht (by omega) (by omega) (by omega)
 exact ⟨m0,m1,m2,m3,t',h',fun k hk=>by unfold spec_l04Draw.f;exact e k (by omega),ht'⟩
theorem l04With_ok {l:List Int} (hb:Byt l) (hl:l.length≤4096):∃ p a b c d lv top dn,∀ k,13841287400+l.length≤k→spec_l04With.f k l=some (p,a,b,c,d,lv,top,dn):=by
 obtain ⟨h0,e0⟩:=from_ok l hl
 obtain ⟨p,lv,top,dn,t1,h1,e1,ht1⟩:=spoil_ok hb hl h0 (Int.le_refl 0)
 obtain ⟨r,t2,h2,e2,ht2,_,_⟩:=next_ok hb hl h1 3 ht1
 obtain ⟨a,b,c,d,t3,h3,e3,ht3⟩:=l04Draw_ok hb hl h2 ht2
 have key:∀ k,13841287400+l.length≤k→spec_l04With.f k l=(if r=0 then some (p,a,b,c,d,0,0,0) else some (p,a,b,c,d,lv,top,dn)):=fun k hk=>by
  unfold spec_l04With.f
  rw [e0 k (by omega)];simp only [Option.bind_some];rw [e1 k (by omega)];simp only [Option.bind_some];rw [e2];simp only [Option.bind_some];rw [e3 k (by omega)];rfl
 by_cases z:r=0
 ·
  exact ⟨p,a,b,c,d,0,0,0,fun k hk=>by rw [key k hk,if_pos z]⟩
 ·
  exact ⟨p,a,b,c,d,lv,top,dn,fun k hk=>by rw [key k hk,if_neg z]⟩

namespace MB

def res (p a b c d lv top dn:Int):Int × Int × Int × Int:=if (Pr p∧PM.Ok p ⟨lv,top,dn⟩)∧PM.isM a b c d then encC 3 (PM.moveB p a b c d ⟨lv,top,dn⟩) else (0,0,0,1)
theorem spec_res (p a b c d lv top dn:Int):∃ K,∀ k,K≤k→spec_MoveBall.f k p a b c d lv top dn=some (res p a b c d lv top dn):=by
 obtain ⟨K,h⟩:=l04Code_b p a b c d lv top dn
 refine ⟨K+13841287400,fun k hk=>?_⟩
 unfold spec_MoveBall.f res
 rw [h k (by omega)]
 simp only [Option.bind_some]
 by_cases q:(Pr p∧PM.Ok p ⟨lv,top,dn⟩)∧PM.isM a b c d
 ·
  rw [if_pos q,if_pos q,if_pos rfl,l04Move_eq q.1.1 q.2 q.1.2 k (by omega)]
  simp only [Option.bind_some]
  cases PM.moveB p a b c d ⟨lv,top,dn⟩ <;> simp [enc,encC]
 ·
  rw [if_neg q,if_neg q,if_neg (by omega)]
theorem impl_res (p a b c d lv top dn:Int):∃ K,∀ k,K≤k→impl_MoveBall.f k p a b c d lv top dn=some (res p a b c d lv top dn):=by
 obtain ⟨K,h⟩:=IsMatrix_eq a b c d
 refine ⟨K+13841287402,fun k hk=>?_⟩
 obtain ⟨k,rfl⟩:∃ j,k=j+1:=⟨k - 1,by omega⟩
 unfold impl_MoveBall.f res
 rw [IsBall_eq p lv top dn _ (by omega)]
 simp only [Option.bind_some]
 by_cases q:Pr p∧PM.Ok p ⟨lv,top,dn⟩
 ·
  rw [decide_eq_true q,if_pos rfl,h _ (by omega)]
  simp only [Option.bind_some,impl_MoveBall.j0]
  by_cases m:PM.isM a b c d
  ·
   rw [decide_eq_true m,if_neg (by simp),if_pos (show (Pr p∧PM.Ok p ⟨lv,top,dn⟩)∧PM.isM a b c d from ⟨q,m⟩),moveBall_eq q.1 m q.2 k (by omega)]
   simp only [Option.bind_some]
   cases PM.moveB p a b c d ⟨lv,top,dn⟩ <;> simp [enc,encC,impl_fitted.f]
  ·
   rw [decide_eq_false m,if_pos (by simp),if_neg (fun z=>m z.2)]
 ·
  rw [decide_eq_false q,if_neg (by simp),if_neg (fun z=>q z.1)]
  simp [impl_MoveBall.j0]
end MB
namespace ME

def fin (x:Int × Int × Bool):Int × Int × Int:=if x.2.2=true then (x.1,x.2.1,0) else (0,0,3)
def res (a b c d n m:Int):Int × Int × Int:=if PM.isM a b c d∧isE n m then fin (mvE a b c d n m) else (0,0,1)
theorem spec_res (a b c d n m:Int):∃ K,∀ k,K≤k→spec_MoveEnd.f k a b c d n m=some (res a b c d n m):=by
 obtain ⟨K0,h0⟩:=l01End_eq n m
 unfold spec_MoveEnd.f res
 by_cases h1:PM.isM a b c d
 ·
  by_cases h2:isE n m
  ·
   obtain ⟨K1,hK1⟩:=l04End_eq h1 h2
   refine ⟨K0+K1+1,fun k hk=>?_⟩
   obtain ⟨k,rfl⟩:∃ m,k=m+1:=⟨k - 1,by omega⟩
   rw [l04Is_eq,h0 _ (by omega),decide_eq_true h1,decide_eq_true h2,if_pos ⟨h1,h2⟩]
   simp only [Option.bind_some,if_true,spec_MoveEnd.j0]
   rw [if_neg (by simp),hK1 k (by omega)]
   simp only [Option.bind_some]
   unfold fin
   by_cases q:(mvE a b c d n m).2.2=true
   ·
    rw [if_pos q,if_pos q]
   ·
    rw [if_neg q,if_neg q]
  ·
   refine ⟨K0+1,fun k hk=>?_⟩
   obtain ⟨k,rfl⟩:∃ m,k=m+1:=⟨k - 1,by omega⟩
   rw [l04Is_eq,h0 _ (by omega),decide_eq_true h1,decide_eq_false h2,if_neg (fun z=>h2 z.2)]
   simp [spec_MoveEnd.j0]
 ·
  refine ⟨1,fun k hk=>?_⟩
  obtain ⟨k,rfl⟩:∃ m,k=m+1:=⟨k - 1,by omega⟩
  rw [l04Is_eq,decide_eq_false h1,if_neg (fun z=>h1 z.1)]
  simp [spec_MoveEnd.j0]
theorem impl_res (a b c d n m:Int):∃ K,∀ k,K≤k→impl_MoveEnd.f k a b c d n m=some (res a b c d n m):=by
 obtain ⟨K0,h0⟩:=IsEnd_eq n m
 obtain ⟨K2,h2'⟩:=IsMatrix_eq a b c d
 unfold impl_MoveEnd.f res
 by_cases h1:PM.isM a b c d
 ·
  by_cases h2:isE n m
  ·
   obtain ⟨K1,hK1⟩:=moveEnd_eq h1 h2
   refine ⟨K0+K1+K2+1,fun k hk=>?_⟩
   obtain ⟨k,rfl⟩:∃ m,k=m+1:=⟨k - 1,by omega⟩
   rw [h2' _ (by omega),h0 _ (by omega),decide_eq_true h1,decide_eq_true h2,if_pos ⟨h1,h2⟩]
   simp only [Option.bind_some,if_true,impl_MoveEnd.j0]
   rw [if_neg (by simp),hK1 k (by omega)]
   simp only [Option.bind_some]
   unfold fin impl_fittedEnd.f
   by_cases q:(mvE a b c d n m).2.2=true
   ·
    rw [if_pos q,if_pos q];rfl
   ·
    rw [if_neg q,if_neg q];rfl
  ·
   refine ⟨K0+K2+1,fun k hk=>?_⟩
   obtain ⟨k,rfl⟩:∃ m,k=m+1:=⟨k - 1,by omega⟩
   rw [h2' _ (by omega),h0 _ (by omega),decide_eq_true h1,decide_eq_false h2,if_neg (fun z=>h2 z.2)]
   simp [impl_MoveEnd.j0]
 ·
  refine ⟨K2+1,fun k hk=>?_⟩
  obtain ⟨k,rfl⟩:∃ m,k=m+1:=⟨k - 1,by omega⟩
  rw [h2' _ (by omega),decide_eq_false h1,if_neg (fun z=>h1 z.1)]
  simp [impl_MoveEnd.j0]
end ME
namespace IM
def res (a b c d:Int):Int × Int × Int × Int × Int:=if PM.isM a b c d then ((PM.red d (-b) (-c) a).1,(PM.red d (-b) (-c) a).2.1,(PM.red d (-b) (-c) a).2.2.1,(PM.red d (-b) (-c) a).2.2.2,0) else (0,0,0,0,1)
theorem impl_res (a b c d:Int):∃ K,∀ k,K≤k→impl_InverseMatrix.f k a b c d=some (res a b c d):=by
 obtain ⟨K1,h1⟩:=IsMatrix_eq a b c d
 unfold impl_InverseMatrix.f res
 by_cases h:PM.isM a b c d
 ·
  obtain ⟨K,hK⟩:=inverted_eq h
  refine ⟨K+K1,fun k hk=>?_⟩
  rw [h1 k (by omega),decide_eq_true h,if_pos h]
  simp only [Option.bind_some,if_true]
  rw [hK k (by omega)];rfl
 ·
  refine ⟨K1,fun k hk=>?_⟩
  rw [h1 k (by omega),decide_eq_false h,if_neg h]
  simp
end IM
namespace MM
def fin (x:Int × Int × Int × Int × Bool):Int × Int × Int × Int × Int:=if x.2.2.2.2=true then (x.1,x.2.1,x.2.2.1,x.2.2.2.1,0) else (0,0,0,0,3)
def res (a b c d e f g h:Int):Int × Int × Int × Int × Int:=if PM.isM a b c d∧PM.isM e f g h then fin (pr4 a b c d e f g h) else (0,0,0,0,1)
theorem impl_res (a b c d e f g h:Int):∃ K,∀ k,K≤k→impl_MultiplyMatrices.f k a b c d e f g h=some (res a b c d e f g h):=by
 obtain ⟨K0,h0⟩:=areM2 a b c d e f g h
 unfold impl_MultiplyMatrices.f res
 by_cases h1:PM.isM a b c d∧PM.isM e f g h
 ·
  obtain ⟨K1,hK1⟩:=product_eq h1.1 h1.2
  refine ⟨K0+K1,fun k hk=>?_⟩
  rw [h0 k (by omega),decide_eq_true h1,if_pos h1]
  simp only [Option.bind_some,if_true]
  rw [hK1 k (by omega)]
  simp only [Option.bind_some]
  unfold fin impl_fittedMatrix.f
  by_cases q:(pr4 a b c d e f g h).2.2.2.2=true
  ·
   rw [if_pos q,if_pos q];rfl
  ·
   rw [if_neg q,if_neg q];rfl
 ·
  refine ⟨K0,fun k hk=>?_⟩
  rw [h0 k (by omega),decide_eq_false h1,if_neg h1]
  simp
end MM

theorem zeroB {p:Int}:PM.Ok p ⟨0,0,0⟩:=by
 unfold PM.Ok
 refine ⟨by decide,by decide,by decide,by decide,Or.inl ⟨by decide,rfl,rfl⟩⟩
theorem end_unique {n m x y:Int} (h:isE n m) (e:x*m=y*n) (hz:¬ (x=0∧y=0)):endF x y=(n,m,true):=by
 unfold endF
 rcases h with ⟨h1,h2⟩|⟨h1,h2,h3,h4,h5⟩
 ·
  subst h1 h2
  have:y=0:=by omega
  rw [if_pos this]
 ·
  have hm:m≠0:=by omega
  have hd:m ∣ y:=by
   have:m ∣ n*y:=⟨x,by rw [Int.mul_comm n y,← e,Int.mul_comm]⟩
   exact PM.dvd_of_dvd_mul_right_of_gcd_one this (by rw [Int.gcd_comm];exact h5)
  obtain ⟨q,rfl⟩:=hd
  have hx:x=q*n:=by
   have:m*x=m*(q*n):=by rw [Int.mul_comm m x,e,Int.mul_assoc]
   exact Int.eq_of_mul_eq_mul_left hm this
  subst hx
  have hq:q≠0:=fun z=>hz (by subst z;simp)
  have hy:m*q≠0:=Int.mul_ne_zero hm hq
  rw [if_neg hy]
  have hg:(Int.gcd (q*n) (m*q):Int)=q.natAbs:=by
   rw [Int.mul_comm m q,Int.gcd_mul_left,h5];simp
  have hs:(Int.gcd (q*n) (m*q):Int)*(if m*q<0 then -1 else 1)=q:=by
   rw [hg]
   rcases Int.lt_or_le q 0 with z|z
   ·
    rw [if_pos (Int.mul_neg_of_pos_of_neg (by omega) z)];omega
   ·
    rw [if_neg (by have:=Int.mul_nonneg (show 0≤m by omega) z;omega)];omega
  rw [hs,Int.mul_tdiv_cancel_left _ hq,Int.mul_tdiv_cancel _ hq]
  rw [decide_eq_true (show isE n m from Or.inr ⟨h1,h2,h3,h4,h5⟩)]
theorem endF_scale (x y:Int) (hz:¬ (x=0∧y=0)):∃ s,s≠0∧x=s*(endF x y).1∧y=s*(endF x y).2.1:=by
 unfold endF
 by_cases h:y=0
 ·
  rw [if_pos h];exact ⟨x,fun z=>hz ⟨z,h⟩,by simp,by simp [h]⟩
 ·
  rw [if_neg h]
  have hg:(Int.gcd x y:Int)≠0:=by
   intro z
   have:Int.gcd x y=0:=by omega
   exact h (Int.gcd_eq_zero_iff.mp this).2
  have d1:(Int.gcd x y:Int) ∣ x:=Int.gcd_dvd_left ..
  have d2:(Int.gcd x y:Int) ∣ y:=Int.gcd_dvd_right ..
  generalize (Int.gcd x y:Int)=G at *
  have key:∀ s:Int,(s=1∨s = -1)→∃ S,S≠0∧x=S*x.tdiv (G*s)∧y=S*y.tdiv (G*s):=by
   intro s hs
   have c1:G*s ∣ x:=by rcases hs with rfl|rfl <;> simpa using d1
   have c2:G*s ∣ y:=by rcases hs with rfl|rfl <;> simpa using d2
   exact ⟨G*s,Int.mul_ne_zero hg (by omega),(Int.mul_tdiv_cancel' c1).symm,(Int.mul_tdiv_cancel' c2).symm⟩
  by_cases z:y<0
  ·
   rw [if_pos z];exact key (-1) (Or.inr rfl)
  ·
   rw [if_neg z];exact key 1 (Or.inl rfl)
theorem end_back {a b c d n m:Int} (h:PM.isM a b c d) (he:isE n m):mvE (PM.red d (-b) (-c) a).1 (PM.red d (-b) (-c) a).2.1 (PM.red d (-b) (-c) a).2.2.1 (PM.red d (-b) (-c) a).2.2.2 (mvE a b c d n m).1 (mvE a b c d n m).2.1=(n,m,true):=by
 have hdet:a*d - b*c≠0:=h.2
 have hdet':d*a - -b * -c≠0:=by intro z;apply hdet;grind
 obtain ⟨e1,e2,e3,e4⟩:=PM.red_back d (-b) (-c) a
 have ht:=PM.by4_ne hdet'
 generalize PM.by4 d (-b) (-c) a=t at *
 generalize PM.red d (-b) (-c) a=R at *
 obtain ⟨r1,r2,r3,r4⟩:=R
 simp only at e1 e2 e3 e4 ⊢
 have hnm:¬ (n=0∧m=0):=by unfold isE at he;omega
 have f1:d*(a*n+b*m) + -b*(c*n+d*m)=(a*d - b*c)*n:=by grind
 have f2 : -c*(a*n+b*m)+a*(c*n+d*m)=(a*d - b*c)*m:=by grind
 have hz:¬ (a*n+b*m=0∧c*n+d*m=0):=by
  rintro ⟨z1,z2⟩
  rw [z1,z2] at f1 f2
  simp only [Int.mul_zero,Int.add_zero] at f1 f2
  exact hnm ⟨(Int.mul_eq_zero.mp f1.symm).resolve_left hdet,(Int.mul_eq_zero.mp f2.symm).resolve_left hdet⟩
 obtain ⟨s,hs,g1,g2⟩:=endF_scale _ _ hz
 unfold mvE
 generalize endF (a*n+b*m) (c*n+d*m)=E at *
 obtain ⟨N,D,o⟩:=E
 simp only at g1 g2 ⊢
 rw [g1,g2] at f1 f2
 have k1:t*s*(r1*N+r2*D)=(a*d - b*c)*n:=by rw [← f1,e1,e2];grind
 have k2:t*s*(r3*N+r4*D)=(a*d - b*c)*m:=by rw [← f2,e3,e4];grind
 have hts:=Int.mul_ne_zero ht hs
 refine end_unique he ?_ ?_
 ·
  have:t*s*((r1*N+r2*D)*m)=t*s*((r3*N+r4*D)*n):=by
   rw [← Int.mul_assoc,k1,← Int.mul_assoc,k2];grind
  exact Int.eq_of_mul_eq_mul_left hts this
 ·
  rintro ⟨z1,z2⟩
  rw [z1,Int.mul_zero] at k1
  rw [z2,Int.mul_zero] at k2
  exact hnm ⟨(Int.mul_eq_zero.mp k1.symm).resolve_left hdet,(Int.mul_eq_zero.mp k2.symm).resolve_left hdet⟩
theorem mb_some {p a b c d:Int} {x y:PM.Ball} (hp:Pr p) (hx:PM.Ok p x) (hm:PM.isM a b c d) (h:PM.moveB p a b c d x=some y):MB.res p a b c d x.lv x.top x.dn=(y.lv,y.top,y.dn,0):=by
 unfold MB.res
 rw [if_pos (show (Pr p∧PM.Ok p ⟨x.lv,x.top,x.dn⟩)∧PM.isM a b c d from ⟨⟨hp,hx⟩,hm⟩),show PM.moveB p a b c d ⟨x.lv,x.top,x.dn⟩=some y from h];rfl
theorem mb_zero {p a b c d lv top dn:Int} (h:(MB.res p a b c d lv top dn).2.2.2=0):(Pr p∧PM.Ok p ⟨lv,top,dn⟩)∧PM.isM a b c d∧∃ y,PM.moveB p a b c d ⟨lv,top,dn⟩=some y∧PM.Ok p y∧MB.res p a b c d lv top dn=(y.lv,y.top,y.dn,0):=by
 unfold MB.res at h ⊢
 by_cases c0:(Pr p∧PM.Ok p ⟨lv,top,dn⟩)∧PM.isM a b c d
 ·
  rw [if_pos c0] at h ⊢
  cases hy:PM.moveB p a b c d ⟨lv,top,dn⟩ with
  | none=>rw [hy] at h;simp [encC] at h
  | some y=>exact ⟨c0.1,c0.2,y,rfl,PM.moveB_ok c0.1.1 c0.2.2 hy,rfl⟩
 ·
  rw [if_neg c0] at h;simp at h
theorem mb_not {p a b c d lv top dn:Int} (h:(MB.res p a b c d lv top dn).2.2.2≠0):(MB.res p a b c d lv top dn).1=0∧(MB.res p a b c d lv top dn).2.1=0∧(MB.res p a b c d lv top dn).2.2.1=0:=by
 unfold MB.res at h ⊢
 by_cases c0:(Pr p∧PM.Ok p ⟨lv,top,dn⟩)∧PM.isM a b c d
 ·
  rw [if_pos c0] at h ⊢
  cases hy:PM.moveB p a b c d ⟨lv,top,dn⟩ with
  | none=>exact ⟨rfl,rfl,rfl⟩
  | some y=>rw [hy] at h;exact absurd rfl h
 ·
  rw [if_neg c0];exact ⟨rfl,rfl,rfl⟩
theorem ParentOf_eq {p lv top dn:Int} (hp:Pr p) (ho:PM.Ok p ⟨lv,top,dn⟩):∀ k,100≤k→impl_ParentOf.f k p lv top dn=some (encC 3 (PM.about p (lv - 1) (PM.mark p ⟨lv,top,dn⟩))):=by
 intro k hk
 unfold impl_ParentOf.f
 rw [IsBall_eq p lv top dn k (by omega),decide_eq_true (show Pr p∧PM.Ok p ⟨lv,top,dn⟩ from ⟨hp,ho⟩)]
 simp only [Option.bind_some,if_true]
 rw [up_eq hp ho k (by omega)]
 simp only [Option.bind_some]
 cases PM.about p (lv - 1) (PM.mark p ⟨lv,top,dn⟩) <;> simp [enc,encC,impl_fitted.f]
theorem tail_ok {p a b c d e f g h:Int} {x y:PM.Ball} (hp:Pr p) (hx:PM.Ok p x) (hy:PM.Ok p y) (hm:PM.isM e f g h) (hv:PM.moveB p e f g h x=some y):∃ K,∀ k,K≤k→((impl_MoveBall.f k p a b c d y.lv y.top y.dn).bind fun bt704=>((impl_MultiplyMatrices.f k a b c d e f g h).bind fun bt709=>((impl_MoveBall.f k p bt709.1 bt709.2.1 bt709.2.2.1 bt709.2.2.2.1 x.lv x.top x.dn).bind fun bt715=>(if bt704.2.2.2=0 then (if bt709.2.2.2.2=0 then (if bt715.2.2.2=0 then (some (bt715.1 == bt704.1 && (bt715.2.1 == bt704.2.1 && (bt715.2.2.1 == bt704.2.2.1)))) else (some false)) else (some true)) else (some true)))))=some true:=by
 obtain ⟨K1,e1⟩:=MB.impl_res p a b c d y.lv y.top y.dn
 obtain ⟨K2,e2⟩:=MM.impl_res a b c d e f g h
 obtain ⟨K3,e3⟩:=MB.impl_res p (MM.res a b c d e f g h).1 (MM.res a b c d e f g h).2.1 (MM.res a b c d e f g h).2.2.1 (MM.res a b c d e f g h).2.2.2.1 x.lv x.top x.dn
 refine ⟨K1+K2+K3,fun k hk=>?_⟩
 rw [e1 k (by omega)];simp only [Option.bind_some];rw [e2 k (by omega)];simp only [Option.bind_some];rw [e3 k (by omega)];simp only [Option.bind_some]
 by_cases c1:(MB.res p a b c d y.lv y.top y.dn).2.2.2=0
 ·
  obtain ⟨_,hm1,z,hz,oz,r1⟩:=mb_zero c1
  rw [if_pos c1]
  by_cases c2:(MM.res a b c d e f g h).2.2.2.2=0
  ·
   rw [if_pos c2]
   have hd1:a*d - b*c≠0:=hm1.2
   have hd2:e*h - f*g≠0:=hm.2
   have hdp:(a*e+b*g)*(c*f+d*h) - (a*f+b*h)*(c*e+d*g)≠0:=by rw [PM.det_mul];exact Int.mul_ne_zero hd1 hd2
   have hr:MM.res a b c d e f g h=((PM.red (a*e+b*g) (a*f+b*h) (c*e+d*g) (c*f+d*h)).1,(PM.red (a*e+b*g) (a*f+b*h) (c*e+d*g) (c*f+d*h)).2.1,(PM.red (a*e+b*g) (a*f+b*h) (c*e+d*g) (c*f+d*h)).2.2.1,(PM.red (a*e+b*g) (a*f+b*h) (c*e+d*g) (c*f+d*h)).2.2.2,0)∧PM.isM (PM.red (a*e+b*g) (a*f+b*h) (c*e+d*g) (c*f+d*h)).1 (PM.red (a*e+b*g) (a*f+b*h) (c*e+d*g) (c*f+d*h)).2.1 (PM.red (a*e+b*g) (a*f+b*h) (c*e+d*g) (c*f+d*h)).2.2.1 (PM.red (a*e+b*g) (a*f+b*h) (c*e+d*g) (c*f+d*h)).2.2.2:=by
    unfold MM.res at c2 ⊢
    rw [if_pos ⟨hm1,hm⟩] at c2 ⊢
    unfold MM.fin pr4 redT at c2 ⊢
    by_cases q:PM.isM (PM.red (a*e+b*g) (a*f+b*h) (c*e+d*g) (c*f+d*h)).1 (PM.red (a*e+b*g) (a*f+b*h) (c*e+d*g) (c*f+d*h)).2.1 (PM.red (a*e+b*g) (a*f+b*h) (c*e+d*g) (c*f+d*h)).2.2.1 (PM.red (a*e+b*g) (a*f+b*h) (c*e+d*g) (c*f+d*h)).2.2.2
    ·
     simp only [decide_eq_true q,if_true];exact ⟨trivial,q⟩
    ·
     simp only [decide_eq_false q] at c2;simp at c2
   obtain ⟨b1,b2,b3,b4⟩:=PM.red_back (a*e+b*g) (a*f+b*h) (c*e+d*g) (c*f+d*h)
   have hv3:=PM.moveB_prod hp hd1 hd2 (PM.by4_ne hdp) b1 b2 b3 b4 hx hv hz
   have r3:=mb_some hp hx hr.2 hv3
   rw [hr.1]
   simp only
   rw [r3,r1]
   simp
  ·
   rw [if_neg c2]
 ·
  rw [if_neg c1]
theorem FnMoves:laws_FnMoves.Pure:=by
 intro l _ _ hw
 have hb:Byt l:=fun x hx=>by
  have:=hw x hx
  simp [Lit.wf,IntKind.min,IntKind.max,IntKind.bits,IntKind.signed] at this;omega
 by_cases hl:(l.length:Int)>4096
 ·
  exact ⟨0,by unfold laws_FnMoves.f laws_big.f;rw [decide_eq_true hl];simp⟩
 have hl2:l.length≤4096:=by omega
 obtain ⟨p,a,b,c,d,lv,top,dn,e0⟩:=l04With_ok hb hl2
 obtain ⟨K1,e1⟩:=MB.impl_res p a b c d lv top dn
 obtain ⟨K2,e2⟩:=MB.spec_res p a b c d lv top dn
 obtain ⟨K3,a2,b2,c2,d2,n,m,e3⟩:∃ K a2 b2 c2 d2 n m,∀ k,K≤k→spec_DrawMoveEnd.f k l=some (a2,b2,c2,d2,n,m):=by
  obtain ⟨h0,f0⟩:=from_ok l hl2
  obtain ⟨m0,m1,m2,m3,t1,h1,f1,ht1⟩:=l04Draw_ok hb hl2 h0 (Int.le_refl 0)
  obtain ⟨K,n,d,t2,h2,f2,ht2⟩:=drawEnd_ok hb hl2 h1 ht1
  refine ⟨K+100+l.length,m0,m1,m2,m3,n,d,fun k hk=>?_⟩
  unfold spec_DrawMoveEnd.f
  rw [f0 k (by omega)];simp only [Option.bind_some];rw [f1 k (by omega)];simp only [Option.bind_some];rw [f2 k (by omega)];rfl
 obtain ⟨K4,e4⟩:=ME.impl_res a2 b2 c2 d2 n m
 obtain ⟨K5,e5⟩:=ME.spec_res a2 b2 c2 d2 n m
 -- the balls
 have balls:∃ K,∀ k,K≤k→laws_FnMoves.j2 k p (MB.res p a b c d lv top dn).2.2.2 a b c d lv top dn (MB.res p a b c d lv top dn).1 (MB.res p a b c d lv top dn).2.1 (MB.res p a b c d lv top dn).2.2.1 a2 b2 c2 d2=some true:=by
  by_cases z:(MB.res p a b c d lv top dn).2.2.2=0
  ·
   obtain ⟨⟨hp,ho⟩,hm,y,hy,oy,r1⟩:=mb_zero z
   have hdet:a*d - b*c≠0:=hm.2
   have hdet':d*a - -b * -c≠0:=by intro w;apply hdet;grind
   obtain ⟨i1,i2,i3,i4⟩:=PM.red_back d (-b) (-c) a
   have hback:=PM.moveB_back hp hdet (PM.by4_ne hdet') i1 i2 i3 i4 ho hy
   have hinv:PM.isM (PM.red d (-b) (-c) a).1 (PM.red d (-b) (-c) a).2.1 (PM.red d (-b) (-c) a).2.2.1 (PM.red d (-b) (-c) a).2.2.2:=(PM.red_isM hdet').mpr (PM.red_small (isM_inv hm))
   obtain ⟨Ki,ei⟩:=IM.impl_res a b c d
   obtain ⟨Kb,eb⟩:=MB.impl_res p (PM.red d (-b) (-c) a).1 (PM.red d (-b) (-c) a).2.1 (PM.red d (-b) (-c) a).2.2.1 (PM.red d (-b) (-c) a).2.2.2 y.lv y.top y.dn
   have rb:MB.res p (PM.red d (-b) (-c) a).1 (PM.red d (-b) (-c) a).2.1 (PM.red d (-b) (-c) a).2.2.1 (PM.red d (-b) (-c) a).2.2.2 y.lv y.top y.dn=(lv,top,dn,0):=mb_some hp oy hinv hback
   have ri:IM.res a b c d=((PM.red d (-b) (-c) a).1,(PM.red d (-b) (-c) a).2.1,(PM.red d (-b) (-c) a).2.2.1,(PM.red d (-b) (-c) a).2.2.2,0):=by unfold IM.res;rw [if_pos hm]
   obtain ⟨Kt,et⟩:=tail_ok (a:=a2) (b:=b2) (c:=c2) (d:=d2) hp ho oy hm hy
   have third:∃ K,∀ k,K≤k→laws_FnMoves.j3 k p false a b c d lv top dn y.lv y.top y.dn a2 b2 c2 d2=some true:=by
    cases hq:PM.about p (lv - 1) (PM.mark p ⟨lv,top,dn⟩) with
    | none=>
     refine ⟨Kt+200,fun k hk=>?_⟩
     obtain ⟨k,rfl⟩:∃ m,k=m+1:=⟨k - 1,by omega⟩
     simp only [laws_FnMoves.j3]
     rw [if_neg (by simp),ParentOf_eq hp ho _ (by omega),hq]
     simp only [Option.bind_some,encC]
     rw [if_neg (by omega)]
     exact et k (by omega)
    | some q=>
     have oq:=(PM.about_spec hp hq).1
     have hdq:PM.dist p ⟨lv,top,dn⟩ q=1:=PM.dist_one (k:=0) hp ho (by unfold PM.nbr;rw [if_pos rfl];exact hq) oq
     obtain ⟨Kq,eq⟩:=MB.impl_res p a b c d q.lv q.top q.dn
     cases hz:PM.moveB p a b c d q with
     | none=>
      have rq:MB.res p a b c d q.lv q.top q.dn=(0,0,0,3):=by
       unfold MB.res
       rw [if_pos (show (Pr p∧PM.Ok p ⟨q.lv,q.top,q.dn⟩)∧PM.isM a b c d from ⟨⟨hp,oq⟩,hm⟩),show PM.moveB p a b c d ⟨q.lv,q.top,q.dn⟩=none from hz];rfl
      refine ⟨Kt+Kq+300,fun k hk=>?_⟩
      obtain ⟨k,rfl⟩:∃ m,k=m+1+1:=⟨k - 2,by omega⟩
      simp only [laws_FnMoves.j3]
      rw [if_neg (by simp),ParentOf_eq hp ho _ (by omega),hq]
      simp only [Option.bind_some,encC,if_true]
      rw [eq _ (by omega),rq]
      simp only [Option.bind_some]
      rw [TreeDistance_eq (l1:=y.lv) (t1:=y.top) (d1:=y.dn) hp oy zeroB _ (by omega)]
      simp only [Option.bind_some]
      rw [if_neg (by omega)]
      simp only [laws_FnMoves.j4]
      rw [if_neg (by simp)]
      exact et k (by omega)
     | some z=>
      have oz:=PM.moveB_ok hp hdet hz
      have rq:=mb_some hp oq hm hz
      have hdz:=PM.moveB_dist hp hdet ho oq hy hz
      refine ⟨Kt+Kq+300,fun k hk=>?_⟩
      obtain ⟨k,rfl⟩:∃ m,k=m+1+1:=⟨k - 2,by omega⟩
      simp only [laws_FnMoves.j3]
      rw [if_neg (by simp),ParentOf_eq hp ho _ (by omega),hq]
      simp only [Option.bind_some,encC,if_true]
      rw [eq _ (by omega),rq]
      simp only [Option.bind_some,if_true]
      rw [TreeDistance_eq (l1:=y.lv) (t1:=y.top) (d1:=y.dn) (l2:=z.lv) (t2:=z.top) (d2:=z.dn) hp oy oz _ (by omega)]
      simp only [Option.bind_some,if_true]
      rw [show PM.dist p ⟨y.lv,y.top,y.dn⟩ ⟨z.lv,z.top,z.dn⟩=1 from hdz.trans hdq]
      simp only [laws_FnMoves.j4]
      rw [if_neg (by simp)]
      exact et k (by omega)
   obtain ⟨K3',e3'⟩:=third
   refine ⟨Ki+Kb+K3'+200,fun k hk=>?_⟩
   obtain ⟨k,rfl⟩:∃ m,k=m+1:=⟨k - 1,by omega⟩
   rw [r1]
   simp only [laws_FnMoves.j2,if_true]
   rw [ei _ (by omega),ri]
   simp only [Option.bind_some]
   rw [eb _ (by omega),rb]
   simp only [Option.bind_some,if_true,beq_self_eq_true,Bool.not_true,Bool.or_false,Bool.false_eq_true,if_false]
   rw [IsBall_eq p y.lv y.top y.dn _ (by omega),decide_eq_true (show Pr p∧PM.Ok p ⟨y.lv,y.top,y.dn⟩ from ⟨hp,oy⟩)]
   simp only [Option.bind_some,Bool.not_true]
   exact e3' k (by omega)
  ·
   obtain ⟨z1,z2,z3⟩:=mb_not z
   refine ⟨1,fun k hk=>?_⟩
   obtain ⟨k,rfl⟩:∃ m,k=m+1:=⟨k - 1,by omega⟩
   simp only [laws_FnMoves.j2]
   rw [if_neg z,z1,z2,z3];rfl
 obtain ⟨Kj,ej⟩:=balls
 have ends:∃ K,∀ k,K≤k→laws_FnMoves.j1 k p (MB.res p a b c d lv top dn).2.2.2 (ME.res a2 b2 c2 d2 n m).2.2 false a b c d lv top dn (MB.res p a b c d lv top dn).1 (MB.res p a b c d lv top dn).2.1 (MB.res p a b c d lv top dn).2.2.1 a2 b2 c2 d2 n m (ME.res a2 b2 c2 d2 n m).1 (ME.res a2 b2 c2 d2 n m).2.1=some true:=by
  by_cases z:(ME.res a2 b2 c2 d2 n m).2.2=0
  ·
   have hc:(PM.isM a2 b2 c2 d2∧isE n m)∧ME.res a2 b2 c2 d2 n m=((mvE a2 b2 c2 d2 n m).1,(mvE a2 b2 c2 d2 n m).2.1,0)∧(mvE a2 b2 c2 d2 n m).2.2=true:=by
    unfold ME.res at z ⊢
    by_cases q:PM.isM a2 b2 c2 d2∧isE n m
    ·
     rw [if_pos q] at z ⊢
     unfold ME.fin at z ⊢
     by_cases r:(mvE a2 b2 c2 d2 n m).2.2=true
     ·
      rw [if_pos r];exact ⟨q,rfl,r⟩
     ·
      rw [if_neg r] at z;simp at z
    ·
     rw [if_neg q] at z;simp at z
   obtain ⟨⟨hm,he⟩,hr,hf⟩:=hc
   have hdet:a2*d2 - b2*c2≠0:=hm.2
   have hdet':d2*a2 - -b2 * -c2≠0:=by intro w;apply hdet;grind
   have hinv:PM.isM (PM.red d2 (-b2) (-c2) a2).1 (PM.red d2 (-b2) (-c2) a2).2.1 (PM.red d2 (-b2) (-c2) a2).2.2.1 (PM.red d2 (-b2) (-c2) a2).2.2.2:=(PM.red_isM hdet').mpr (PM.red_small (isM_inv hm))
   obtain ⟨Ki,ei⟩:=IM.impl_res a2 b2 c2 d2
   have ri:IM.res a2 b2 c2 d2=((PM.red d2 (-b2) (-c2) a2).1,(PM.red d2 (-b2) (-c2) a2).2.1,(PM.red d2 (-b2) (-c2) a2).2.2.1,(PM.red d2 (-b2) (-c2) a2).2.2.2,0):=by unfold IM.res;rw [if_pos hm]
   have hE:isE (mvE a2 b2 c2 d2 n m).1 (mvE a2 b2 c2 d2 n m).2.1:=by
    unfold mvE endF at hf ⊢
    by_cases y:c2*n+d2*m=0
    ·
     rw [if_pos y];exact Or.inl ⟨rfl,rfl⟩
    ·
     rw [if_neg y] at hf ⊢;exact of_decide_eq_true hf
   obtain ⟨Kb,eb⟩:=ME.impl_res (PM.red d2 (-b2) (-c2) a2).1 (PM.red d2 (-b2) (-c2) a2).2.1 (PM.red d2 (-b2) (-c2) a2).2.2.1 (PM.red d2 (-b2) (-c2) a2).2.2.2 (mvE a2 b2 c2 d2 n m).1 (mvE a2 b2 c2 d2 n m).2.1
   have rb:ME.res (PM.red d2 (-b2) (-c2) a2).1 (PM.red d2 (-b2) (-c2) a2).2.1 (PM.red d2 (-b2) (-c2) a2).2.2.1 (PM.red d2 (-b2) (-c2) a2).2.2.2 (mvE a2 b2 c2 d2 n m).1 (mvE a2 b2 c2 d2 n m).2.1=(n,m,0):=by
    unfold ME.res
    rw [if_pos ⟨hinv,hE⟩,end_back hm he];rfl
   refine ⟨Ki+Kb+Kj+5,fun k hk=>?_⟩
   obtain ⟨k,rfl⟩:∃ m,k=m+1:=⟨k - 1,by omega⟩
   simp only [laws_FnMoves.j1]
   rw [if_neg (by simp),if_pos z,ei _ (by omega),ri,hr]
   simp only [Option.bind_some]
   rw [eb _ (by omega),rb]
   simp only [Option.bind_some,if_true,beq_self_eq_true,Bool.not_true,Bool.or_false,Bool.false_eq_true,if_false]
   exact ej k (by omega)
  ·
   refine ⟨Kj+5,fun k hk=>?_⟩
   obtain ⟨k,rfl⟩:∃ m,k=m+1:=⟨k - 1,by omega⟩
   simp only [laws_FnMoves.j1]
   rw [if_neg (by simp),if_neg z]
   exact ej k (by omega)
 obtain ⟨Ke,ee⟩:=ends
 refine ⟨13841287400+l.length+K1+K2+K3+K4+K5+Ke+10+1,?_⟩
 unfold laws_FnMoves.f laws_big.f
 rw [decide_eq_false hl]
 simp only [Option.bind_some]
 rw [if_neg (by simp)]
 unfold spec_DrawMoveBall.f
 rw [e0 _ (by omega)];simp only [Option.bind_some]
 rw [e1 _ (by omega),e2 _ (by omega)];simp only [Option.bind_some,if_true,beq_self_eq_true,Bool.not_true,Bool.or_false]
 simp only [laws_FnMoves.j0]
 rw [if_neg (by simp),e3 _ (by omega)];simp only [Option.bind_some]
 rw [e4 _ (by omega),e5 _ (by omega)];simp only [Option.bind_some,if_true,beq_self_eq_true,Bool.not_true,Bool.or_false]
 exact ee _ (by omega)

end Go.Proofs.Ytlpmefmaplhfdaa.Pure
