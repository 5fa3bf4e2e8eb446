/- What the law FnTranslations says of the printed functions holds for every code: it answers true. -/
import Derived.Test.YtlpmefmaplhfdaaQLFnTranslations
import Derived.Test.YtlpmefmaplhfdaaMath
import Derived.Laws.Bits64b
import Derived.Lib.BitFns
set_option linter.unusedVariables false
set_option linter.unusedSimpArgs false
namespace Go.Proofs.Ytlpmefmaplhfdaa.Pure
open Go.RowKit Go.Proofs.Ytlpmefmaplhfdaa.PAll Go.Proofs.YtlpmefmaplhfdaaW.PrintWords Go.Proofs.YtlpmefmaplhfdaaW.PrintLast PM

theorem w64 {n:Int} (h1 : -9223372036854775808≤n) (h2:n≤9223372036854775807):wrap64 n=n:=by unfold wrap64;omega
theorem rd_nat (l:List Int) (i:Nat) (h:i<l.length):l[i]?=some (rd l (i:Int)):=by
 unfold rd;simp [List.getD_eq_getElem?_getD,h]

theorem prime_cases (p:Int):(spec_l01Prime.f p=some true∧(p=2∨p=3∨p=5∨p=7))∨(spec_l01Prime.f p=some false∧¬ (p=2∨p=3∨p=5∨p=7)):=by
 unfold spec_l01Prime.f
 by_cases h2:p=2
 ·
  simp [h2]
 by_cases h3:p=3
 ·
  simp [h3]
 by_cases h5:p=5
 ·
  simp [h5]
 by_cases h7:p=7
 ·
  simp [h7]
 ·
  simp [h2,h3,h5,h7]

theorem isPrime_eq (p:Int):impl_isPrime.f p=spec_l01Prime.f p:=rfl

theorem in_eq (n a b:Int):spec_l01In.f n a b=some (decide (a≤n∧n≤b)):=by
 unfold spec_l01In.f
 by_cases h:a≤n
 ·
  rw [if_pos h];simp [h]
 ·
  rw [if_neg (by omega)];simp [h]

/-- all numbers of a list have absolute values of at most so much -/
def allB (m:Int) (l:List Int):Bool:=l.all fun x=>decide (-m≤x∧x≤m)
theorem allB_drop (m:Int) (l:List Int) (i:Nat) (h:i<l.length):allB m (l.drop i)=(decide (-m≤rd l i∧rd l i≤m) && allB m (l.drop (i+1))):=by
 have h1:=rd_nat l i h
 rw [List.getElem?_eq_getElem h] at h1
 rw [List.drop_eq_getElem_cons h,Option.some.inj h1];rfl
theorem within_eq (m:Int) (hm:0≤m) (hm2:m≤1000000000000000000) (l:List Int) (hl:l.length≤1048576):∃ K,∀ k,K≤k→impl_within.f k m l=some (allB m l):=by
 have go:∀ (d k i:Nat),i+d=l.length→d<k→impl_within.l0 k m l l.length i=some (allB m (l.drop i)):=by
  intro d
  induction d with
  | zero=>
   intro k i h2 h3
   obtain ⟨k,rfl⟩:∃ m,k=m+1:=⟨k - 1,by omega⟩
   simp only [impl_within.l0]
   rw [if_neg (by omega),List.drop_eq_nil_of_le (by omega)];rfl
  | succ d ih=>
   intro k i h2 h3
   obtain ⟨k,rfl⟩:∃ m,k=m+1:=⟨k - 1,by omega⟩
   simp only [impl_within.l0]
   rw [if_pos (by omega),if_pos (by omega),if_pos (by omega),allB_drop _ _ _ (by omega),w64 (n:=-m) (by omega) (by omega),w64 (by omega) (by omega)]
   have:=ih k (i+1) (by omega) (by omega)
   rw [show ((i:Int)+1)=((i+1:Nat):Int) from by omega,this]
   by_cases h:rd l (i:Int) < -m
   ·
    rw [if_pos h,decide_eq_false (by omega)];rfl
   ·
    rw [if_neg h]
    by_cases h':rd l (i:Int)>m
    ·
     rw [if_pos h',decide_eq_false (by omega)];rfl
    ·
     rw [if_neg h',decide_eq_true (by omega)];rfl
 exact ⟨l.length+1,fun k hk=>by
  have:=go l.length k 0 (by omega) (by omega)
  simpa [impl_within.f] using this⟩

theorem all_drop {α:Type} (P:α→Bool) (l:List α) (i:Nat) (h:i<l.length):(l.drop i).all P=(P (l[i]'h) && (l.drop (i+1)).all P):=by
 rw [List.drop_eq_getElem_cons h];rfl
theorem tmod_zero_iff (n p:Int):n.tmod p=0↔p ∣ n:=Int.dvd_iff_tmod_eq_zero.symm

theorem val_eq (p n:Int) (hp:Pr p) (hn:n≠0) (hb:n.natAbs≤9223372036854775807):∀ k,70≤k→spec_l01Val.f k p n=some (vl p n:Int):=by
 have hp2:=hp.pos
 have go:∀ (v k:Nat) (n s:Int),n≠0→n.natAbs≤9223372036854775807→vl p n=v→v<k→0≤s→s+v≤1000000→spec_l01Val.l0 k p n s=some (s+v):=by
  intro v
  induction v with
  | zero=>
   intro k n s hn hb hv hk h0 h1
   obtain ⟨k,rfl⟩:∃ m,k=m+1:=⟨k - 1,by omega⟩
   simp only [spec_l01Val.l0]
   rw [if_neg (by omega),if_neg (by rw [tmod_zero_iff];exact (vl_zero_iff hp hn).1 hv)]
   simp
  | succ v ih=>
   intro k n s hn hb hv hk h0 h1
   obtain ⟨k,rfl⟩:∃ m,k=m+1:=⟨k - 1,by omega⟩
   have hd:p ∣ n:=Decidable.byContradiction fun h=>by have:=(vl_zero_iff hp hn).2 h;omega
   obtain ⟨g1,g2,g3⟩:=vl_step hp hn hd
   simp only [spec_l01Val.l0]
   rw [if_neg (by omega),if_pos (by rw [tmod_zero_iff];exact hd),w64 (n:=n.tdiv p) (by omega) (by omega),w64 (n:=s+1) (by omega) (by omega),ih k _ _ g1 (by omega) (by omega) (by omega) (by omega) (by omega)]
   congr 1;omega
 intro k hk
 have hle:=vl_le63 hp hn (by omega)
 unfold spec_l01Val.f
 rw [go (vl p n) k n 0 hn hb rfl (by omega) (by omega) (by omega)]
 congr 1;omega

theorem valuation_eq (p n:Int) (hp:Pr p) (hb:n.natAbs≤9223372036854775807):∀ k,70≤k→impl_valuation.f k p n=some (vz p n):=by
 have hp2:=hp.pos
 have go:∀ (v k:Nat) (n s:Int),n≠0→n.natAbs≤9223372036854775807→vl p n=v→v<k→0≤s→s+v≤1000000→impl_valuation.l0 k p n s=some (s+v):=by
  intro v
  induction v with
  | zero=>
   intro k n s hn hb hv hk h0 h1
   obtain ⟨k,rfl⟩:∃ m,k=m+1:=⟨k - 1,by omega⟩
   simp only [impl_valuation.l0]
   rw [if_neg (by omega),if_neg (by rw [tmod_zero_iff];exact (vl_zero_iff hp hn).1 hv)]
   simp
  | succ v ih=>
   intro k n s hn hb hv hk h0 h1
   obtain ⟨k,rfl⟩:∃ m,k=m+1:=⟨k - 1,by omega⟩
   have hd:p ∣ n:=Decidable.byContradiction fun h=>by have:=(vl_zero_iff hp hn).2 h;omega
   obtain ⟨g1,g2,g3⟩:=vl_step hp hn hd
   simp only [impl_valuation.l0]
   rw [if_neg (by omega),if_pos (by rw [tmod_zero_iff];exact hd),w64 (n:=n.tdiv p) (by omega) (by omega),w64 (n:=s+1) (by omega) (by omega),ih k _ _ g1 (by omega) (by omega) (by omega) (by omega) (by omega)]
   congr 1;omega
 intro k hk
 unfold impl_valuation.f vz
 by_cases h0:n=0
 ·
  rw [if_pos h0,if_pos h0]
 ·
  have hle:=vl_le63 hp h0 (by omega)
  rw [if_neg h0,if_neg h0,go (vl p n) k n 0 h0 hb rfl (by omega) (by omega) (by omega)]
  congr 1;omega

theorem pw_bd (p k:Int) (hp:Pr p) (h:k≤20):1≤pw p k∧pw p k≤79792266297612001:=by
 have h1:=pw_pos2 hp k
 have h2:=pw_le hp h
 have h3:pw p 20≤79792266297612001:=by
  rcases hp with rfl|rfl|rfl|rfl <;> decide +kernel
 omega
theorem pw_bd12 (p k:Int) (hp:Pr p) (h:k≤12):1≤pw p k∧pw p k≤13841287201:=by
 have h1:=pw_pos2 hp k
 have h2:=pw_le hp h
 have h3:pw p 12≤13841287201:=by
  rcases hp with rfl|rfl|rfl|rfl <;> decide +kernel
 omega
theorem pw_bd6 (p k:Int) (hp:Pr p) (h:k≤6):1≤pw p k∧pw p k≤117649:=by
 have h1:=pw_pos2 hp k
 have h2:=pw_le hp h
 have h3:pw p 6≤117649:=by
  rcases hp with rfl|rfl|rfl|rfl <;> decide +kernel
 omega
theorem pw_succ (p k:Int) (h:0≤k):pw p (k+1)=pw p k*p:=by
 rw [pw_add h (by omega),pw_one]

theorem l01Power_eq (p n:Int) (hp:Pr p) (h:n≤20) (h0 : -9223372036854775808≤n):∀ k,30≤k→spec_l01Power.f k p n=some (pw p n):=by
 have hp2:=hp.pos
 have go:∀ (d k:Nat) (n out j:Int),n=d→0≤j→j+d≤20→d<k→out=pw p j→spec_l01Power.l0 k p n out=some (pw p (j+d)):=by
  intro d
  induction d with
  | zero=>
   intro k n out j hn hj hs hk ho
   obtain ⟨k,rfl⟩:∃ m,k=m+1:=⟨k - 1,by omega⟩
   simp only [spec_l01Power.l0]
   rw [if_neg (by omega),ho];simp
  | succ d ih=>
   intro k n out j hn hj hs hk ho
   obtain ⟨k,rfl⟩:∃ m,k=m+1:=⟨k - 1,by omega⟩
   simp only [spec_l01Power.l0]
   have hb:=pw_bd p (j+1) hp (by omega)
   have hs1:=pw_succ p j hj
   rw [if_pos (by omega),w64 (n:=n - 1) (by omega) (by omega),ho,← hs1,w64 (by omega) (by omega),ih k (n - 1) _ (j+1) (by omega) (by omega) (by omega) (by omega) rfl]
   congr 2;omega
 intro k hk
 unfold spec_l01Power.f
 by_cases h1:n≤0
 ·
  obtain ⟨k,rfl⟩:∃ m,k=m+1:=⟨k - 1,by omega⟩
  simp only [spec_l01Power.l0]
  rw [if_neg (by omega)]
  simp [pw,show n.toNat=0 by omega]
 ·
  rw [go n.toNat k n 1 0 (by omega) (by omega) (by omega) (by omega) (by simp [pw])]
  congr 2;omega

theorem power_eq (p n:Int) (hp:Pr p) (h:n≤20):∀ k,30≤k→impl_power.f k p n=some (pw p n):=by
 have hp2:=hp.pos
 have go:∀ (d k:Nat) (n out j:Int),n=j+d→0≤j→n≤20→d<k→out=pw p j→impl_power.l0 k p out n j=some (pw p n):=by
  intro d
  induction d with
  | zero=>
   intro k n out j hn hj hs hk ho
   obtain ⟨k,rfl⟩:∃ m,k=m+1:=⟨k - 1,by omega⟩
   simp only [impl_power.l0]
   rw [if_neg (by omega),ho]
   congr 2;omega
  | succ d ih=>
   intro k n out j hn hj hs hk ho
   obtain ⟨k,rfl⟩:∃ m,k=m+1:=⟨k - 1,by omega⟩
   simp only [impl_power.l0]
   have hb:=pw_bd p (j+1) hp (by omega)
   have hs1:=pw_succ p j hj
   rw [if_pos (by omega),w64 (n:=j+1) (by omega) (by omega),ho,← hs1,w64 (by omega) (by omega),ih k n _ (j+1) (by omega) (by omega) (by omega) (by omega) rfl]
 intro k hk
 unfold impl_power.f
 by_cases h1:n≤0
 ·
  obtain ⟨k,rfl⟩:∃ m,k=m+1:=⟨k - 1,by omega⟩
  simp only [impl_power.l0]
  rw [if_neg (by omega)]
  simp [pw,show n.toNat=0 by omega]
 ·
  rw [go n.toNat k n 1 0 (by omega) (by omega) (by omega) (by omega) (by simp [pw])]

theorem mx_neg (a:Int) (h:a.natAbs≤9223372036854775807):mx a (wrap64 (-a))=(a.natAbs:Int):=by
 rw [w64 (by omega) (by omega)];unfold mx;split <;> omega
theorem gcd_tmod (a b:Int):Int.gcd b (a.tmod b)=Int.gcd a b:=by
 have h:=Int.gcd_add_mul_left_right b (a.tmod b) (a.tdiv b)
 rw [Int.tmod_add_mul_tdiv] at h
 rw [Int.gcd_comm a b];exact h.symm

theorem gcd_eq (a b:Int) (ha:a.natAbs≤9223372036854775807) (hb:b.natAbs≤9223372036854775807):∃ K,∀ k,K≤k→impl_gcd.f k a b=some (Int.gcd a b:Int):=by
 have go:∀ (d k:Nat) (a b:Int),a.natAbs≤9223372036854775807→b.natAbs≤9223372036854775807→b.natAbs≤d→d<k→impl_gcd.l0 k a b=some (Int.gcd a b:Int):=by
  intro d
  induction d with
  | zero=>
   intro k a b ha hb0 hb hk
   obtain ⟨k,rfl⟩:∃ m,k=m+1:=⟨k - 1,by omega⟩
   obtain rfl:b=0:=by omega
   simp only [impl_gcd.l0]
   rw [if_pos trivial,mx_neg a ha,Int.gcd_zero_right]
  | succ d ih=>
   intro k a b ha hb0 hb hk
   obtain ⟨k,rfl⟩:∃ m,k=m+1:=⟨k - 1,by omega⟩
   simp only [impl_gcd.l0]
   by_cases h:b=0
   ·
    rw [if_pos h,mx_neg a ha,h,Int.gcd_zero_right]
   ·
    rw [if_neg h,ih k b (a.tmod b) hb0 (by
     have:(a.tmod b).natAbs<b.natAbs:=by rw [Int.natAbs_tmod];exact Nat.mod_lt _ (by omega)
     omega) (by
     have:(a.tmod b).natAbs<b.natAbs:=by rw [Int.natAbs_tmod];exact Nat.mod_lt _ (by omega)
     omega) (by omega),gcd_tmod]
 exact ⟨b.natAbs+1,fun k hk=>by unfold impl_gcd.f;exact go b.natAbs k a b ha hb (Nat.le_refl _) (by omega)⟩

theorem okSplit (p:Int) (lv top dn:Int):PM.Ok p ⟨lv,top,dn⟩↔(-6≤lv∧lv≤6∧0≤dn∧dn≤6)∧((lv+dn≤0∧top=0∧dn=0)∨(0<lv+dn∧0≤top∧top<pw p (lv+dn)∧(dn=0∨¬ p ∣ top))):=by
 unfold PM.Ok;simp only;constructor
 ·
  intro ⟨a,b,c,d,e⟩;exact ⟨⟨a,b,c,d⟩,e⟩
 ·
  intro ⟨⟨a,b,c,d⟩,e⟩;exact ⟨a,b,c,d,e⟩
theorem l01Is_eq (p lv top dn:Int):∀ k,32≤k→spec_l01Is.f k p lv top dn=some (decide (Pr p∧PM.Ok p ⟨lv,top,dn⟩)):=by
 intro k hk
 obtain ⟨k,rfl⟩:∃ m,k=m+1:=⟨k - 1,by omega⟩
 have jt:spec_l01Is.j0 (k+1) p true lv top dn=some false:=by simp [spec_l01Is.j0]
 unfold spec_l01Is.f
 rcases prime_cases p with ⟨h,hp⟩|⟨h,hp⟩
 ·
  have hp:Pr p:=hp
  rw [h,in_eq,in_eq]
  simp only [Option.bind_some,if_true]
  by_cases h1 : -6≤lv∧lv≤6
  ·
   rw [decide_eq_true h1,if_pos rfl]
   by_cases h2:0≤dn∧dn≤6
   ·
    rw [decide_eq_true h2]
    simp only [Bool.not_true,spec_l01Is.j0]
    rw [if_neg (by simp),w64 (by omega) (by omega)]
    by_cases h3:lv+dn≤0
    ·
     rw [if_pos h3]
     by_cases h4:top=0
     ·
      rw [if_pos h4]
      congr 1;rw [Bool.eq_iff_iff]
      simp only [decide_eq_true_eq,okSplit,beq_iff_eq]
      constructor
      ·
       intro h5;exact ⟨hp,⟨by omega,Or.inl ⟨h3,h4,h5⟩⟩⟩
      ·
       intro ⟨_,_,h5⟩;omega
     ·
      rw [if_neg h4,decide_eq_false]
      rw [okSplit];intro ⟨_,_,h5⟩;omega
    ·
     rw [if_neg h3,l01Power_eq p _ hp (by omega) (by omega) k (by omega)]
     have hb:=pw_bd12 p (lv+dn) hp (by omega)
     simp only [Option.bind_some]
     rw [in_eq,w64 (by omega) (by omega)]
     simp only [Option.bind_some]
     by_cases h4:0≤top∧top≤pw p (lv+dn) - 1
     ·
      rw [decide_eq_true h4,if_pos rfl]
      by_cases h5:dn=0
      ·
       rw [if_pos h5,decide_eq_true]
       rw [okSplit];exact ⟨hp,by omega,Or.inr ⟨by omega,by omega,by omega,Or.inl h5⟩⟩
      ·
       have hp2:=hp.pos
       rw [if_neg h5,if_neg (by omega)]
       congr 1;rw [Bool.eq_iff_iff]
       simp only [decide_eq_true_eq,okSplit,bne_iff_ne,ne_eq,tmod_zero_iff]
       constructor
       ·
        intro h6;exact ⟨hp,by omega,Or.inr ⟨by omega,by omega,by omega,Or.inr h6⟩⟩
       ·
        intro ⟨_,_,h6⟩ h7
        rcases h6 with h6|⟨_,_,_,h6⟩
        ·
         omega
        ·
         rcases h6 with h6|h6
         ·
          exact h5 h6
         ·
          exact h6 h7
     ·
      rw [decide_eq_false h4,if_neg (by simp),decide_eq_false]
      rw [okSplit];intro ⟨_,_,h5⟩;omega
   ·
    rw [decide_eq_false h2,Bool.not_false,jt,decide_eq_false]
    rw [okSplit];intro ⟨_,h5,_⟩;omega
  ·
   rw [decide_eq_false h1,if_neg (by simp),jt,decide_eq_false]
   rw [okSplit];intro ⟨_,h5,_⟩;omega
 ·
  rw [h]
  simp only [Option.bind_some]
  rw [if_neg (by simp),jt,decide_eq_false]
  intro ⟨h1,_⟩;exact hp h1

theorem isLevel_eq (n:Int):impl_isLevel.f n=some (decide (-6≤n∧n≤6)):=by
 unfold impl_isLevel.f
 by_cases h : -6≤n
 ·
  rw [if_pos h];simp [h]
 ·
  rw [if_neg (by omega)];simp [h]
theorem IsBall_eq (p lv top dn:Int):∀ k,32≤k→impl_IsBall.f k p lv top dn=some (decide (Pr p∧PM.Ok p ⟨lv,top,dn⟩)):=by
 intro k hk
 obtain ⟨k,rfl⟩:∃ m,k=m+1:=⟨k - 1,by omega⟩
 have jt:impl_IsBall.j0 (k+1) p true lv top dn=some false:=by simp [impl_IsBall.j0]
 unfold impl_IsBall.f
 rw [isPrime_eq]
 rcases prime_cases p with ⟨h,hp⟩|⟨h,hp⟩
 ·
  have hp:Pr p:=hp
  rw [h,isLevel_eq]
  simp only [Option.bind_some,if_true]
  by_cases h1 : -6≤lv∧lv≤6
  ·
   rw [decide_eq_true h1,if_pos rfl]
   by_cases h2:dn<0
   ·
    rw [if_pos h2,jt,decide_eq_false]
    rw [okSplit];intro ⟨_,h5,_⟩;omega
   ·
    rw [if_neg h2]
    by_cases h2':dn>6
    ·
     rw [decide_eq_true h2',jt,decide_eq_false]
     rw [okSplit];intro ⟨_,h5,_⟩;omega
    ·
     rw [decide_eq_false h2']
     simp only [impl_IsBall.j0]
     rw [if_neg (by simp),w64 (by omega) (by omega)]
     by_cases h3:lv+dn≤0
     ·
      rw [if_pos h3]
      by_cases h4:top=0
      ·
       rw [if_pos h4]
       congr 1;rw [Bool.eq_iff_iff]
       simp only [decide_eq_true_eq,okSplit,beq_iff_eq]
       constructor
       ·
        intro h5;exact ⟨hp,⟨by omega,Or.inl ⟨h3,h4,h5⟩⟩⟩
       ·
        intro ⟨_,_,h5⟩;omega
      ·
       rw [if_neg h4,decide_eq_false]
       rw [okSplit];intro ⟨_,_,h5⟩;omega
     ·
      rw [if_neg h3]
      have hb:=pw_bd12 p (lv+dn) hp (by omega)
      by_cases h4:top≥0
      ·
       rw [if_pos h4,power_eq p _ hp (by omega) k (by omega)]
       simp only [Option.bind_some]
       by_cases h4':top<pw p (lv+dn)
       ·
        rw [if_pos h4']
        by_cases h5:dn=0
        ·
         rw [if_pos h5,decide_eq_true]
         rw [okSplit];exact ⟨hp,by omega,Or.inr ⟨by omega,by omega,by omega,Or.inl h5⟩⟩
        ·
         have hp2:=hp.pos
         rw [if_neg h5,if_neg (by omega)]
         congr 1;rw [Bool.eq_iff_iff]
         simp only [decide_eq_true_eq,okSplit,bne_iff_ne,ne_eq,tmod_zero_iff]
         constructor
         ·
          intro h6;exact ⟨hp,by omega,Or.inr ⟨by omega,by omega,by omega,Or.inr h6⟩⟩
         ·
          intro ⟨_,_,h6⟩ h7
          rcases h6 with h6|⟨_,_,_,h6⟩
          ·
           omega
          ·
           rcases h6 with h6|h6
           ·
            exact h5 h6
           ·
            exact h6 h7
       ·
        rw [if_neg h4',decide_eq_false]
        rw [okSplit];intro ⟨_,_,h5⟩;omega
      ·
       rw [if_neg h4,decide_eq_false]
       rw [okSplit];intro ⟨_,_,h5⟩;omega
  ·
   rw [decide_eq_false h1,if_neg (by simp),jt,decide_eq_false]
   rw [okSplit];intro ⟨_,h5,_⟩;omega
 ·
  rw [h]
  simp only [Option.bind_some]
  rw [if_neg (by simp),jt,decide_eq_false]
  intro ⟨h1,_⟩;exact hp h1

def bOk (p:Int) (x:S28):Bool:=decide (PM.Ok p ⟨x.f0,x.f1,x.f2⟩)
theorem rdB (l:List S28) (i:Nat) (h:i<l.length):rd_T28 l (i:Int)=l[i]'h:=by
 unfold rd_T28;simp [List.getD_eq_getElem?_getD,h]

theorem l01Code_eq (p:Int) (l:List S28) (hl:l.length≤1000):∃ K,∀ k,K≤k→spec_l01Code.f k p l=some (if Pr p∧l.all (bOk p)=true then 0 else 1):=by
 rcases prime_cases p with ⟨h,hp⟩|⟨h,hp⟩
 ·
  have hp:Pr p:=hp
  have go:∀ (d i k:Nat),i+d=l.length→d+34≤k→spec_l01Code.l0 k p l i=some (if (l.drop i).all (bOk p)=true then 0 else 1):=by
   intro d
   induction d with
   | zero=>
    intro i k hi hk
    obtain ⟨k,rfl⟩:∃ m,k=m+1:=⟨k - 1,by omega⟩
    simp only [spec_l01Code.l0]
    rw [if_neg (by omega),List.drop_eq_nil_of_le (by omega)];rfl
   | succ d ih=>
    intro i k hi hk
    obtain ⟨k,rfl⟩:∃ m,k=m+1:=⟨k - 1,by omega⟩
    simp only [spec_l01Code.l0]
    rw [if_pos (by omega),if_pos (by omega),rdB l i (by omega),l01Is_eq _ _ _ _ k (by omega),all_drop (bOk p) l i (by omega),w64 (by omega) (by omega),show ((i:Int)+1)=((i+1:Nat):Int) from by omega,ih (i+1) k (by omega) (by omega)]
    simp only [Option.bind_some]
    show _=some (if (decide (PM.Ok _ _) && _)=true then _ else _)
    by_cases h:PM.Ok p ⟨(l[i]'(by omega)).f0,(l[i]'(by omega)).f1,(l[i]'(by omega)).f2⟩
    ·
     rw [decide_eq_true h,decide_eq_true ⟨hp,h⟩];simp
    ·
     rw [decide_eq_false h,decide_eq_false (fun g=>h g.2)];simp
  refine ⟨l.length+34,fun k hk=>?_⟩
  unfold spec_l01Code.f
  rw [h]
  simp only [Option.bind_some,if_true]
  have:=go l.length 0 k (by omega) (by omega)
  rw [show ((0:Nat):Int)=0 from rfl,List.drop_zero] at this
  rw [this]
  by_cases g:l.all (bOk p)=true
  ·
   rw [if_pos g,if_pos ⟨hp,g⟩]
  ·
   rw [if_neg g,if_neg (fun z=>g z.2)]
 ·
  refine ⟨0,fun k _=>?_⟩
  unfold spec_l01Code.f
  rw [h]
  simp only [Option.bind_some]
  rw [if_neg (by simp),if_neg (fun z=>hp z.1)]

theorem mul_bd2 {a b:Int} (A B:Int) (h1 : -A≤a) (h2:a≤A) (h3 : -B≤b) (h4:b≤B) : -(A*B)≤a*b∧a*b≤A*B:=by
 have hA:0≤A:=by omega
 have hB:0≤B:=by omega
 have h:(a*b).natAbs≤A.natAbs*B.natAbs:=by
  rw [Int.natAbs_mul];exact Nat.mul_le_mul (by omega) (by omega)
 rw [← Int.natAbs_mul] at h
 have:0≤A*B:=Int.mul_nonneg hA hB
 omega
theorem mn_min (a b:Int):mn a b=min a b:=by unfold mn;split <;> omega
theorem mx_max (a b:Int):mx a b=max a b:=by unfold mx;split <;> omega
theorem okb {p lv top dn:Int} (h:PM.Ok p ⟨lv,top,dn⟩) : -6≤lv∧lv≤6∧0≤dn∧dn≤6∧0≤top:=by
 unfold PM.Ok at h;simp only at h;omega
theorem ok_top {p lv top dn:Int} (hp:Pr p) (h:PM.Ok p ⟨lv,top,dn⟩):0≤top∧top≤13841287201:=by
 have hb:=okb h
 have:=pw_bd12 p (lv+dn) hp (by omega)
 unfold PM.Ok at h;simp only at h;omega
theorem mark_bd12 {p lv top dn:Int} (hp:Pr p) (h:PM.Ok p ⟨lv,top,dn⟩):0≤PM.mark p ⟨lv,top,dn⟩∧PM.mark p ⟨lv,top,dn⟩≤13841287201:=by
 have hb:=okb h
 have:=PM.mark_bd hp h
 have:=pw_bd12 p (lv+6) hp (by omega)
 simp only at *;omega

theorem mark_eq {p lv top dn:Int} (hp:Pr p) (h:PM.Ok p ⟨lv,top,dn⟩):∀ k,30≤k→impl_mark.f k p lv top dn=some (PM.mark p ⟨lv,top,dn⟩):=by
 intro k hk
 have hb:=okb h
 have hm:=mark_bd12 hp h
 unfold impl_mark.f
 rw [w64 (n:=6 - dn) (by omega) (by omega),power_eq p _ hp (by omega) k hk]
 simp only [Option.bind_some]
 unfold PM.mark at hm ⊢
 simp only at hm ⊢
 rw [w64 (by omega) (by omega)]

theorem u64w (n:Int):IntKind.u64.wrap n=n % 18446744073709551616:=by rw [IntKind.wrap_u64]
theorem u64s {n:Int} (h0:0≤n) (h1:n<18446744073709551616):IntKind.u64.wrap n=n:=by rw [u64w];omega
theorem and_low {a:Int} (h0:0≤a) (h1:a<18446744073709551616):Go.bits .and .u64 a 4294967295=a % 4294967296:=by
 obtain ⟨n,rfl⟩:=Int.eq_ofNat_of_zero_le h0
 rw [show (4294967295:Int)=((4294967295:Nat):Int) from rfl,Go.bits_and_u64_nat n 4294967295 (by omega) (by omega)]
 rw [show (4294967295:Nat)=2 ^ 32 - 1 from rfl,Nat.and_two_pow_sub_one_eq_mod]
 omega
theorem or_sum {a b:Int} (s:Nat) (h0:0≤a) (h1:0≤b) (h2:b<2 ^ s) (h3:a*2 ^ s<18446744073709551616) (hs:s≤63):Go.bits .or .u64 (a*2 ^ s) b=a*2 ^ s+b:=by
 obtain ⟨n,rfl⟩:=Int.eq_ofNat_of_zero_le h0
 obtain ⟨m,rfl⟩:=Int.eq_ofNat_of_zero_le h1
 have e2:m<2 ^ s:=by
  have:((2 ^ s:Nat):Int)=(2:Int) ^ s:=by simp
  omega
 have e3:(2:Nat) ^ s≤2 ^ 63:=Nat.pow_le_pow_right (by omega) hs
 have e4:((n*2 ^ s:Nat):Int)=(n:Int)*2 ^ s:=by simp
 rw [← e4] at h3 ⊢
 rw [Go.bits_or_u64_nat _ _ (by omega) (by omega),Nat.mul_comm,← Nat.two_pow_add_eq_or_of_lt e2]
 omega
theorem bitLen_bd:∀ (x:Nat),x≠0→x<2 ^ 64→1≤Lib.bitLen x∧2 ^ (Lib.bitLen x - 1)≤x∧x<2 ^ Lib.bitLen x:=by
 intro x
 induction x using Nat.strongRecOn with
 | _ x ih=>
  intro h0 h1
  rw [Lib.bitLen_half x h0 h1]
  by_cases h2:x / 2=0
  ·
   rw [h2,show Lib.bitLen 0=0 from rfl]
   have:x=1:=by omega
   subst this;exact ⟨by omega,by decide,by decide⟩
  ·
   obtain ⟨a,b,c⟩:=ih (x / 2) (by omega) h2 (by omega)
   obtain ⟨l,hl⟩:∃ l,Lib.bitLen (x / 2)=l+1:=⟨Lib.bitLen (x / 2) - 1,by omega⟩
   rw [hl] at b c ⊢
   rw [show 1+(l+1) - 1=(l+1 - 1)+1 by omega,show 1+(l+1)=(l+1)+1 by omega,Nat.pow_succ,Nat.pow_succ]
   omega
theorem div_l0 {yN s y1 y0 U u un0:Int} (D:Dg U u y1 y0):∀ (m:Nat) (q r:Int) (k:Nat),2*m+3≤k→4294967296≤r+m*2147483648→0≤r→r<4294967296→r=U - q*y1→dig U u y1 y0≤q→q≤4294967297→∃ k',k≤k'+(2*m+3)∧bits_Div64.l0 k yN s y1 y0 U u un0 q r=bits_Div64.j2 k' yN s y1 y0 U u un0 (dig U u y1 y0):=by
 intro m
 induction m with
 | zero=>intro q r k _ h _ h2;omega
 | succ m ih=>
  intro q r k hk hm h0 h1 hr hq hq2
  have hn:=D.nn
  have Da:=D.a;have Db:=D.b;have Dc:=D.c;have Dd:=D.d;have Dg:=D.g;have Dh:=D.h
  obtain ⟨k,rfl⟩:∃ j,k=j+2:=⟨k - 2,by omega⟩
  have e:bits_Div64.l0 (k+2) yN s y1 y0 U u un0 q r=bits_Div64.j1 (k+1) yN s y1 y0 U u un0 q r (decide (dig U u y1 y0<q)):=by
   rw [show k+2=(k+1)+1 from rfl,bits_Div64.l0]
   by_cases hB:q≥4294967296
   ·
    rw [if_pos hB,decide_eq_true (by have:=D.top;omega)]
   ·
    rw [if_neg hB]
    have hc:=D.cond hr
    have b1:q*y0≤4294967295*4294967295:=Int.mul_le_mul (by omega) (by omega) (by omega) (by omega)
    have b0:0≤q*y0:=Int.mul_nonneg (by omega) (by omega)
    rw [u64s (n:=q*y0) b0 (by omega),u64s (n:=4294967296*r) (by omega) (by omega),u64s (n:=4294967296*r+u) (by omega) (by omega)]
    rw [decide_eq_decide.mpr hc.symm]
  rw [e,bits_Div64.j1]
  by_cases hc:dig U u y1 y0<q
  ·
   rw [decide_eq_true hc,if_pos rfl,u64s (n:=r+y1) (by omega) (by omega),u64s (n:=q - 1) (by omega) (by omega)]
   have hr':r+y1=U - (q - 1)*y1:=by rw [Int.sub_mul];omega
   by_cases hb:r+y1≥4294967296
   ·
    rw [if_pos hb]
    have:=D.brk hr' hb (by omega)
    exact ⟨k,by omega,by rw [show q - 1=dig U u y1 y0 by omega]⟩
   ·
    rw [if_neg hb]
    obtain ⟨k',a,b⟩:=ih (q - 1) (r+y1) k (by omega) (by omega) (by omega) (by omega) hr' (by omega) (by omega)
    exact ⟨k',by omega,b⟩
  ·
   rw [decide_eq_false hc,if_neg (by simp)]
   exact ⟨k,by omega,by rw [show q=dig U u y1 y0 by omega]⟩
theorem div_l1 {yN s y1 y0 R un0 q1:Int} (hs:0≤s) (D:Dg R un0 y1 y0):∀ (m:Nat) (q r:Int) (k:Nat),2*m+3≤k→4294967296≤r+m*2147483648→0≤r→r<4294967296→r=R - q*y1→dig R un0 y1 y0≤q→q≤4294967297→bits_Div64.l1 k yN s y1 y0 un0 q1 r R q=some (IntKind.u64.wrap ((IntKind.u64.wrap (q1*4294967296))+dig R un0 y1 y0),shr .u64 (IntKind.u64.wrap ((IntKind.u64.wrap ((IntKind.u64.wrap (R*4294967296))+un0)) - (IntKind.u64.wrap (dig R un0 y1 y0*yN)))) s):=by
 intro m
 induction m with
 | zero=>intro q r k _ h _ h2;omega
 | succ m ih=>
  intro q r k hk hm h0 h1 hr hq hq2
  have hn:=D.nn
  have Da:=D.a;have Db:=D.b;have Dc:=D.c;have Dd:=D.d;have Dg:=D.g;have Dh:=D.h
  obtain ⟨k,rfl⟩:∃ j,k=j+2:=⟨k - 2,by omega⟩
  have e:bits_Div64.l1 (k+2) yN s y1 y0 un0 q1 r R q=bits_Div64.j4 (k+1) yN s y1 y0 un0 q1 r R q (decide (dig R un0 y1 y0<q)):=by
   rw [show k+2=(k+1)+1 from rfl,bits_Div64.l1]
   by_cases hB:q≥4294967296
   ·
    rw [if_pos hB,decide_eq_true (by have:=D.top;omega)]
   ·
    rw [if_neg hB]
    have hc:=D.cond hr
    have b1:q*y0≤4294967295*4294967295:=Int.mul_le_mul (by omega) (by omega) (by omega) (by omega)
    have b0:0≤q*y0:=Int.mul_nonneg (by omega) (by omega)
    rw [u64s (n:=q*y0) b0 (by omega),u64s (n:=4294967296*r) (by omega) (by omega),u64s (n:=4294967296*r+un0) (by omega) (by omega)]
    rw [decide_eq_decide.mpr hc.symm]
  rw [e,bits_Div64.j4]
  by_cases hc:dig R un0 y1 y0<q
  ·
   rw [decide_eq_true hc,if_pos rfl,u64s (n:=r+y1) (by omega) (by omega),u64s (n:=q - 1) (by omega) (by omega)]
   have hr':r+y1=R - (q - 1)*y1:=by rw [Int.sub_mul];omega
   by_cases hb:r+y1≥4294967296
   ·
    rw [if_pos hb,if_pos hs]
    have:=D.brk hr' hb (by omega)
    rw [show q - 1=dig R un0 y1 y0 by omega]
   ·
    rw [if_neg hb]
    exact ih (q - 1) (r+y1) k (by omega) (by omega) (by omega) (by omega) hr' (by omega) (by omega)
  ·
   rw [decide_eq_false hc,if_neg (by simp),if_pos hs,show q=dig R un0 y1 y0 by omega]
theorem wr_sub (a b:Int):IntKind.u64.wrap (IntKind.u64.wrap a - IntKind.u64.wrap b)=IntKind.u64.wrap (a - b):=by
 simp only [u64w];omega
theorem wr_add (a b:Int):IntKind.u64.wrap (IntKind.u64.wrap a+b)=IntKind.u64.wrap (a+b):=by
 simp only [u64w];omega
theorem div64_eq {hi lo y:Int} (h0:0≤hi) (h1:hi<y) (h2:y<18446744073709551616) (h3:0≤lo) (h4:lo<18446744073709551616):∀ k,40≤k→bits_Div64.f k hi lo y=some ((hi*18446744073709551616+lo) / y,(hi*18446744073709551616+lo) % y):=by
 intro k hk
 unfold bits_Div64.f
 rw [if_neg (by omega),if_neg (by omega)]
 by_cases hz:hi=0
 ·
  subst hz
  rw [if_pos rfl,Int.tdiv_eq_ediv_of_nonneg h3,Int.tmod_eq_emod_of_nonneg h3]
  have a1:=Int.ediv_nonneg h3 (show 0≤y by omega)
  have a2:=Int.ediv_le_self y h3
  rw [u64s a1 (by omega),show (0:Int)*18446744073709551616+lo=lo by omega]
 ·
  rw [if_neg hz]
  have hb:=bitLen_bd y.toNat (by omega) (by omega)
  have hle:Lib.bitLen y.toNat≤64:=by
   rcases Nat.lt_or_ge 64 (Lib.bitLen y.toNat) with h|h
   ·
    have:=Nat.pow_le_pow_right (show 0<2 by omega) (show 64≤Lib.bitLen y.toNat - 1 by omega)
    omega
   ·
    exact h
  unfold bits_LeadingZeros64.f
  rw [if_pos (by omega)]
  simp only [Option.bind_some]
  obtain ⟨s,hs⟩:∃ s:Nat,s=64 - Lib.bitLen y.toNat:=⟨_,rfl⟩
  rw [show (64 - (Lib.bitLen y.toNat:Int))=(s:Int) by omega,u64s (n:=(s:Int)) (by omega) (by omega),u64s (n:=64 - (s:Int)) (by omega) (by omega),if_pos (by omega),if_pos (by omega)]
  have hs63:s≤63:=by omega
  obtain ⟨P,hP⟩:∃ P:Int,P=2 ^ s:=⟨_,rfl⟩
  obtain ⟨Q,hQ⟩:∃ Q:Int,Q=2 ^ (64 - s):=⟨_,rfl⟩
  have hPQ:P*Q=18446744073709551616:=by
   rw [hP,hQ,← Int.pow_add,show s+(64 - s)=64 by omega];decide
  have hP0:0<P:=by rw [hP];exact Int.pow_pos (by omega)
  have hQ0:0<Q:=by rw [hQ];exact Int.pow_pos (by omega)
  have hyP:9223372036854775808≤y*P∧y*P<18446744073709551616:=by
   have e1:y=((y.toNat:Nat):Int):=by omega
   have e2:y*P=((y.toNat*2 ^ s:Nat):Int):=by
    rw [hP]
    conv=>lhs;rw [e1]
    simp
   have e3:2 ^ (Lib.bitLen y.toNat - 1)*2 ^ s≤y.toNat*2 ^ s:=Nat.mul_le_mul_right _ hb.2.1
   have e4:y.toNat*2 ^ s<2 ^ (Lib.bitLen y.toNat)*2 ^ s:=Nat.mul_lt_mul_of_pos_right hb.2.2 (Nat.pow_pos (by omega))
   rw [← Nat.pow_add,show Lib.bitLen y.toNat - 1+s=63 by omega] at e3
   rw [← Nat.pow_add,show Lib.bitLen y.toNat+s=64 by omega] at e4
   rw [e2];omega
  have sh:∀ x:Int,shl .u64 x (s:Int)=(x*P) % 18446744073709551616:=by
   intro x;unfold shl
   rw [show IntKind.u64.bits=64 from rfl,Int.toNat_natCast,Nat.min_eq_left (by omega),u64w,hP]
  have sr:∀ x:Int,shr .u64 x (64 - (s:Int))=x / Q:=by
   intro x;unfold shr
   rw [show IntKind.u64.bits=64 from rfl,show (64 - (s:Int)).toNat=64 - s by omega,Nat.min_eq_left (by omega),hQ]
  have sr2:∀ x:Int,shr .u64 x (s:Int)=x / P:=by
   intro x;unfold shr
   rw [show IntKind.u64.bits=64 from rfl,Int.toNat_natCast,Nat.min_eq_left (by omega),hP]
  have hhi:hi*P<y*P:=Int.mul_lt_mul_of_pos_right h1 hP0
  have hhi0:0≤hi*P:=Int.mul_nonneg h0 (by omega)
  have hhi1:hi*P≤y*P - P:=by
   have:=Int.mul_le_mul_of_nonneg_right (show hi≤y - 1 by omega) (Int.le_of_lt hP0)
   rw [Int.sub_mul] at this;omega
  have hlQ0:0≤lo / Q:=Int.ediv_nonneg h3 (by omega)
  have hlQ:lo / Q<P:=by rw [Int.ediv_lt_iff_lt_mul hQ0];omega
  rw [sh,sh,sh,sr,Int.emod_eq_of_lt (a:=y*P) (by omega) hyP.2,Int.emod_eq_of_lt (a:=hi*P) hhi0 (by omega)]
  have hor:Go.bits .or .u64 (hi*P) (lo / Q)=hi*P+lo / Q:=by
   rw [hP] at hlQ hhi hyP ⊢
   exact or_sum s h0 hlQ0 hlQ (by omega) hs63
  rw [hor,and_low (a:=y*P) (by omega) hyP.2,and_low (Int.emod_nonneg _ (by omega)) (Int.emod_lt_of_pos _ (by omega))]
  obtain ⟨L,hL⟩:∃ L,L=(lo*P) % 18446744073709551616:=⟨_,rfl⟩
  obtain ⟨U,hU⟩:∃ U,U=hi*P+lo / Q:=⟨_,rfl⟩
  have hL0:0≤L:=by rw [hL];exact Int.emod_nonneg _ (by omega)
  have hL1:L<18446744073709551616:=by rw [hL];exact Int.emod_lt_of_pos _ (by omega)
  rw [← hL,← hU]
  obtain ⟨yN,hyN⟩:∃ yN,yN=y*P:=⟨_,rfl⟩
  rw [← hyN] at hyP hhi hhi1 ⊢
  obtain ⟨y1,hy1⟩:∃ y1,y1=yN / 4294967296:=⟨_,rfl⟩
  obtain ⟨y0,hy0⟩:∃ y0,y0=yN % 4294967296:=⟨_,rfl⟩
  obtain ⟨u1,hu1⟩:∃ u1,u1=L / 4294967296:=⟨_,rfl⟩
  obtain ⟨u0,hu0⟩:∃ u0,u0=L % 4294967296:=⟨_,rfl⟩
  rw [← hy1,← hy0,← hu1,← hu0]
  have hyy:y1*4294967296+y0=yN:=by omega
  have D1:Dg U u1 y1 y0:=⟨by omega,by omega,by omega,by omega,by omega,by omega,by omega,by omega⟩
  have hy1p:0<y1:=by omega
  have hU0:0≤U:=by omega
  obtain ⟨st1,st2⟩:=D1.start
  have em1:=Int.mul_ediv_add_emod U y1
  have em2:=Int.emod_nonneg U (b:=y1) (by omega)
  have em3:=Int.emod_lt_of_pos U hy1p
  have hq0:=Int.ediv_nonneg hU0 (Int.le_of_lt hy1p)
  rw [Int.tdiv_eq_ediv_of_nonneg hU0,u64s (n:=U / y1) hq0 (by omega)]
  have hqy:U / y1*y1=U - U % y1:=by rw [Int.mul_comm];omega
  have hqn:=Int.mul_nonneg hq0 (Int.le_of_lt hy1p)
  rw [u64s (n:=U / y1*y1) (by omega) (by omega),u64s (n:=U - U / y1*y1) (by omega) (by omega),if_neg (by omega)]
  obtain ⟨k',hk',e⟩:=div_l0 (yN:=yN) (s:=(s:Int)) (un0:=u0) D1 2 (U / y1) (U - U / y1*y1) k (by omega) (by omega) (by omega) (by omega) rfl st1 st2
  rw [e]
  obtain ⟨k',rfl⟩:∃ j,k'=j+1:=⟨k' - 1,by omega⟩
  rw [bits_Div64.j2,if_neg (by omega)]
  have hT:=D1.nn
  have hTt:=D1.top
  have hrem:=D1.rem
  rw [hyy] at hrem
  obtain ⟨R,hR⟩:∃ R,R=U*4294967296+u1 - dig U u1 y1 y0*yN:=⟨_,rfl⟩
  have hW:IntKind.u64.wrap ((IntKind.u64.wrap ((IntKind.u64.wrap (U*4294967296))+u1)) - (IntKind.u64.wrap (dig U u1 y1 y0*yN)))=R:=by
   rw [wr_add,wr_sub,← hR,u64s (by omega) (by omega)]
  rw [hW]
  rw [← hR] at hrem
  have D2:Dg R u0 y1 y0:=⟨by omega,by omega,by omega,by omega,by omega,by omega,by omega,by omega⟩
  obtain ⟨st3,st4⟩:=D2.start
  have en1:=Int.mul_ediv_add_emod R y1
  have en2:=Int.emod_nonneg R (b:=y1) (by omega)
  have en3:=Int.emod_lt_of_pos R hy1p
  have hq3:=Int.ediv_nonneg hrem.1 (Int.le_of_lt hy1p)
  rw [Int.tdiv_eq_ediv_of_nonneg hrem.1,u64s (n:=R / y1) hq3 (by omega)]
  have hqz:R / y1*y1=R - R % y1:=by rw [Int.mul_comm];omega
  have hqm:=Int.mul_nonneg hq3 (Int.le_of_lt hy1p)
  rw [u64s (n:=R / y1*y1) (by omega) (by omega),u64s (n:=R - R / y1*y1) (by omega) (by omega)]
  rw [div_l1 (by omega) D2 2 (R / y1) (R - R / y1*y1) k' (by omega) (by omega) (by omega) (by omega) rfl st3 st4]
  have hT2:=D2.nn
  have hTt2:=D2.top
  have hrem2:=D2.rem
  rw [hyy] at hrem2
  obtain ⟨R2,hR2⟩:∃ R2,R2=R*4294967296+u0 - dig R u0 y1 y0*yN:=⟨_,rfl⟩
  have hW2:IntKind.u64.wrap ((IntKind.u64.wrap ((IntKind.u64.wrap (R*4294967296))+u0)) - (IntKind.u64.wrap (dig R u0 y1 y0*yN)))=R2:=by
   rw [wr_add,wr_sub,← hR2,u64s (by omega) (by omega)]
  rw [hW2,sr2]
  rw [← hR2] at hrem2
  have h2d:=two_digits hR hR2
  rw [show u1*4294967296+u0=L by omega,hyN] at h2d
  rw [hyN] at hrem2
  obtain ⟨f1,f2⟩:=normal hP0 hQ0 hPQ hU hL h2d hrem2.1 hrem2.2
  rw [u64s (n:=dig U u1 y1 y0*4294967296) (by omega) (by omega),u64s (by omega) (by omega),f1,f2]

theorem power_eq2 (p n:Int) (hp:Pr p) (h:n≤62) (h1:pw p n≤4611686018427387904) (h0 : -9223372036854775808≤n):∀ k,70≤k→impl_power.f k p n=some (pw p n):=by
 have hp2:=hp.pos
 have hle:∀ j:Int,j≤n→1≤pw p j∧pw p j≤4611686018427387904:=fun j hj=>by
  have:=pw_le hp hj;have:=pw_pos2 hp j;omega
 have go:∀ (d k:Nat) (out j:Int),n=j+d→0≤j→d<k→out=pw p j→impl_power.l0 k p out n j=some (pw p n):=by
  intro d
  induction d with
  | zero=>
   intro k out j hn hj hk ho
   obtain ⟨k,rfl⟩:∃ m,k=m+1:=⟨k - 1,by omega⟩
   simp only [impl_power.l0]
   rw [if_neg (by omega),ho]
   congr 2;omega
  | succ d ih=>
   intro k out j hn hj hk ho
   obtain ⟨k,rfl⟩:∃ m,k=m+1:=⟨k - 1,by omega⟩
   simp only [impl_power.l0]
   have hb:=hle (j+1) (by omega)
   have hs1:=pw_succ p j hj
   rw [if_pos (by omega),w64 (n:=j+1) (by omega) (by omega),ho,← hs1,w64 (by omega) (by omega),ih k _ (j+1) (by omega) (by omega) (by omega) rfl]
 intro k hk
 unfold impl_power.f
 by_cases h1:n≤0
 ·
  obtain ⟨k,rfl⟩:∃ m,k=m+1:=⟨k - 1,by omega⟩
  simp only [impl_power.l0]
  rw [if_neg (by omega)]
  simp [pw,show n.toNat=0 by omega]
 ·
  rw [go n.toNat k 1 0 (by omega) (by omega) (by omega) (by simp [pw])]

theorem l01Power_eq2 (p n:Int) (hp:Pr p) (h:n≤62) (h1:pw p n≤4611686018427387904) (h0 : -9223372036854775808≤n):∀ k,70≤k→spec_l01Power.f k p n=some (pw p n):=by
 have hp2:=hp.pos
 have hle:∀ j:Int,j≤n→1≤pw p j∧pw p j≤4611686018427387904:=fun j hj=>by
  have:=pw_le hp hj;have:=pw_pos2 hp j;omega
 have go:∀ (d k:Nat) (m out j:Int),m=d→n=j+d→0≤j→d<k→out=pw p j→spec_l01Power.l0 k p m out=some (pw p n):=by
  intro d
  induction d with
  | zero=>
   intro k m out j hm hn hj hk ho
   obtain ⟨k,rfl⟩:∃ m,k=m+1:=⟨k - 1,by omega⟩
   simp only [spec_l01Power.l0]
   rw [if_neg (by omega),ho]
   congr 2;omega
  | succ d ih=>
   intro k m out j hm hn hj hk ho
   obtain ⟨k,rfl⟩:∃ m,k=m+1:=⟨k - 1,by omega⟩
   simp only [spec_l01Power.l0]
   have hb:=hle (j+1) (by omega)
   have hs1:=pw_succ p j hj
   rw [if_pos (by omega),w64 (n:=m - 1) (by omega) (by omega),ho,← hs1,w64 (by omega) (by omega),ih k (m - 1) _ (j+1) (by omega) (by omega) (by omega) (by omega) rfl]
 intro k hk
 unfold spec_l01Power.f
 by_cases h1:n≤0
 ·
  obtain ⟨k,rfl⟩:∃ m,k=m+1:=⟨k - 1,by omega⟩
  simp only [spec_l01Power.l0]
  rw [if_neg (by omega)]
  simp [pw,show n.toNat=0 by omega]
 ·
  rw [go n.toNat k n 1 0 (by omega) (by omega) (by omega) (by omega) (by simp [pw])]

theorem tmod_fix (a m:Int) (hm:0<m):(a.tmod m+m).tmod m=a % m∧-m<a.tmod m∧a.tmod m<m:=by
 have h1:=Int.tmod_lt_of_pos a hm
 have h2:=Int.lt_tmod_of_pos a hm
 have h3:=Int.mul_tdiv_add_tmod a m
 refine ⟨?_,h2,h1⟩
 rw [Int.tmod_eq_emod_of_nonneg (by omega)]
 rw [show a.tmod m+m=a+m*(1 - a.tdiv m) by rw [Int.mul_sub];omega,Int.add_mul_emod_self_left]
theorem em_mul (a b m:Int):(a % m*b) % m=a*b % m:=by rw [Int.mul_emod,Int.emod_emod,← Int.mul_emod]
theorem emb (a m:Int) (hm:0<m):0≤a % m∧a % m<m:=⟨Int.emod_nonneg _ (by omega),Int.emod_lt_of_pos _ hm⟩

theorem mod_eq (a m:Int) (hm:0<m) (h2:m≤4611686018427387904):impl_mod.f a m=some (a % m):=by
 obtain ⟨e,h3,h4⟩:=tmod_fix a m hm
 unfold impl_mod.f
 rw [if_neg (by omega),w64 (by omega) (by omega),e]

theorem times_eq (a b m:Int) (hm:0<m) (h2:m≤4611686018427387904):∀ k,40≤k→impl_times.f k a b m=some (a*b % m):=by
 intro k hk
 obtain ⟨ha0,ha1⟩:=emb a m hm
 obtain ⟨hb0,hb1⟩:=emb b m hm
 unfold impl_times.f
 rw [mod_eq a m hm h2,mod_eq b m hm h2]
 simp only [Option.bind_some]
 rw [u64s ha0 (by omega),u64s hb0 (by omega),u64s (n:=m) (by omega) (by omega)]
 unfold bits_Mul64.f
 rw [if_pos (by omega)]
 simp only [Option.bind_some]
 obtain ⟨P,hP⟩:∃ P,P=a % m*(b % m):=⟨_,rfl⟩
 have hP0:0≤P:=by rw [hP];exact Int.mul_nonneg ha0 hb0
 rw [← hP]
 have hq:0≤P / 18446744073709551616:=Int.ediv_nonneg hP0 (by omega)
 rw [if_neg (by omega),Int.tmod_eq_emod_of_nonneg hq]
 obtain ⟨c0,c1⟩:=emb (P / 18446744073709551616) m hm
 obtain ⟨d0,d1⟩:=emb P 18446744073709551616 (by omega)
 rw [div64_eq c0 c1 (by omega) d0 d1 k hk]
 simp only [Option.bind_some]
 have e:(P / 18446744073709551616 % m*18446744073709551616+P % 18446744073709551616) % m=a*b % m:=by
  rw [Int.add_emod,em_mul,← Int.add_emod,show P / 18446744073709551616*18446744073709551616+P % 18446744073709551616=P by omega,hP,← Int.mul_emod]
 rw [e]
 obtain ⟨f0,f1⟩:=emb (a*b) m hm
 rw [w64 (by omega) (by omega)]

theorem l01MulMod_eq (a b m:Int) (hm:0<m) (h2:m≤13841287201):spec_l01MulMod.f a b m=some (a*b % m):=by
 obtain ⟨e1,h3,h4⟩:=tmod_fix a m hm
 obtain ⟨e2,h5,h6⟩:=tmod_fix b m hm
 obtain ⟨ha0,ha1⟩:=emb a m hm
 obtain ⟨hb0,hb1⟩:=emb b m hm
 unfold spec_l01MulMod.f
 rw [if_neg (by omega),w64 (n:=a.tmod m+m) (by omega) (by omega),w64 (n:=b.tmod m+m) (by omega) (by omega),e1,e2]
 have em:a*b % m=(a % m)*(b % m) % m:=Int.mul_emod a b m
 rw [em]
 generalize a % m=x at *
 generalize b % m=y at *
 rw [Int.tdiv_eq_ediv_of_nonneg hb0,Int.tmod_eq_emod_of_nonneg hb0]
 have m1:=mul_bd2 (a:=x) (b:=y / 1000000) 13841287201 13842 (by omega) (by omega) (by omega) (by omega)
 have m2:=mul_bd2 (a:=x) (b:=y % 1000000) 13841287201 1000000 (by omega) (by omega) (by omega) (by omega)
 have n1:0≤x*(y / 1000000):=Int.mul_nonneg ha0 (by omega)
 have n2:0≤x*(y % 1000000):=Int.mul_nonneg ha0 (by omega)
 rw [w64 (n:=y / 1000000) (by omega) (by omega),w64 (n:=x*(y / 1000000)) (by omega) (by omega),Int.tmod_eq_emod_of_nonneg n1,w64 (n:=x*(y % 1000000)) (by omega) (by omega),Int.tmod_eq_emod_of_nonneg n2]
 obtain ⟨c0,c1⟩:=emb (x*(y / 1000000)) m hm
 obtain ⟨d0,d1⟩:=emb (x*(y % 1000000)) m hm
 rw [w64 (n:=x*(y / 1000000) % m*1000000) (by omega) (by omega),Int.tmod_eq_emod_of_nonneg (a:=x*(y / 1000000) % m*1000000) (by omega)]
 obtain ⟨f0,f1⟩:=emb (x*(y / 1000000) % m*1000000) m hm
 rw [w64 (by omega) (by omega),Int.tmod_eq_emod_of_nonneg (a:=x*(y / 1000000) % m*1000000 % m+x*(y % 1000000) % m) (by omega)]
 rw [em_mul,← Int.add_emod]
 congr 2
 have:y=y / 1000000*1000000+y % 1000000:=by omega
 conv=>rhs;rw [this]
 rw [Int.mul_add,Int.mul_assoc]

theorem inverse_eq (n m:Int) (hm:0<m) (h2:m≤1099511627776):∀ k,m.toNat+4≤k→impl_inverse.f k n m=some (inv n m):=by
 have go:∀ (j:Nat) (n a b x y:Int) (k:Nat),Inv n m a b x y→b<j→a≤m→b≤m→x.natAbs≤m→y.natAbs≤m→j<k→impl_inverse.l0 k m a b x y=some (invF j a b x y % m):=by
  intro j
  induction j with
  | zero=>intro n a b x y k h hb;have:=h.b0;omega
  | succ j ih=>
   intro n a b x y k h hb ham hbm hx hy hk
   obtain ⟨k,rfl⟩:∃ i,k=i+1:=⟨k - 1,by omega⟩
   have a0:=h.a0;have b0:=h.b0
   simp only [impl_inverse.l0,invF]
   by_cases z:b=0
   ·
    rw [if_pos z,if_pos z]
    rw [mod_eq x m hm (by omega)];rfl
   ·
    rw [if_neg z,if_neg z]
    have hb1:0<b:=by omega
    obtain ⟨i1,i2,i3,i4⟩:=h.bd
    obtain ⟨i5,i6⟩:=i4 hb1
    have hs:=h.step z
    obtain ⟨j1,j2,j3,j4⟩:=hs.bd
    have hy':=j2 hb1
    have hq:0≤a / b:=Int.ediv_nonneg a0 b0
    have hq2:=Int.ediv_le_self b a0
    have hr:a - a / b*b=a % b:=by rw [Int.emod_def,Int.mul_comm b]
    obtain ⟨r0,r1⟩:=emb a b hb1
    have hay:(a / b*y).natAbs≤m:=by
     rw [Int.natAbs_mul]
     have:((a / b).natAbs*y.natAbs:Nat)=a / b*(y.natAbs:Int):=by
      rw [Int.natCast_mul,Int.natAbs_of_nonneg hq]
     omega
    rw [Int.tdiv_eq_ediv_of_nonneg a0,w64 (n:=a / b) (by omega) (by omega),w64 (n:=a / b*b) (by omega) (by omega),w64 (n:=a - a / b*b) (by omega) (by omega),w64 (n:=a / b*y) (by omega) (by omega),w64 (n:=x - a / b*y) (by omega) (by omega)]
    exact ih n b (a - a / b*b) y (x - a / b*y) k hs (by omega) hbm (by omega) hy (by omega) (by omega)
 intro k hk
 obtain ⟨h0,h1⟩:=emb n m hm
 unfold impl_inverse.f inv
 rw [mod_eq n m hm (by omega)]
 simp only [Option.bind_some]
 exact go (m.toNat+2) (n % m) (n % m) m 1 0 k (Inv.start h0 (by omega)) (by omega) (by omega) (by omega) (by omega) (by omega) (by omega)

theorem l01InvMod_eq (n m:Int) (hm:0<m) (h2:m≤1099511627776):∀ k,m.toNat+4≤k→spec_l01InvMod.f k n m=some (inv n m):=by
 have go:∀ (j:Nat) (n a b x y:Int) (k:Nat),Inv n m a b x y→b<j→a≤m→b≤m→x.natAbs≤m→y.natAbs≤m→j<k→spec_l01InvMod.l0 k m a b x y=some (invF j a b x y % m):=by
  intro j
  induction j with
  | zero=>intro n a b x y k h hb;have:=h.b0;omega
  | succ j ih=>
   intro n a b x y k h hb ham hbm hx hy hk
   obtain ⟨k,rfl⟩:∃ i,k=i+1:=⟨k - 1,by omega⟩
   have a0:=h.a0;have b0:=h.b0
   simp only [spec_l01InvMod.l0,invF]
   by_cases z:b=0
   ·
    rw [if_pos z,if_pos z]
    obtain ⟨e,h3,h4⟩:=tmod_fix x m hm
    rw [if_neg (by omega),w64 (by omega) (by omega),e]
   ·
    rw [if_neg z,if_neg z]
    have hb1:0<b:=by omega
    obtain ⟨i1,i2,i3,i4⟩:=h.bd
    obtain ⟨i5,i6⟩:=i4 hb1
    have hs:=h.step z
    obtain ⟨j1,j2,j3,j4⟩:=hs.bd
    have hy':=j2 hb1
    have hq:0≤a / b:=Int.ediv_nonneg a0 b0
    have hq2:=Int.ediv_le_self b a0
    have hr:a - a / b*b=a % b:=by rw [Int.emod_def,Int.mul_comm b]
    obtain ⟨r0,r1⟩:=emb a b hb1
    have hay:(a / b*y).natAbs≤m:=by
     rw [Int.natAbs_mul]
     have:((a / b).natAbs*y.natAbs:Nat)=a / b*(y.natAbs:Int):=by
      rw [Int.natCast_mul,Int.natAbs_of_nonneg hq]
     omega
    rw [Int.tdiv_eq_ediv_of_nonneg a0,w64 (n:=a / b) (by omega) (by omega),w64 (n:=a / b*b) (by omega) (by omega),w64 (n:=a - a / b*b) (by omega) (by omega),w64 (n:=a / b*y) (by omega) (by omega),w64 (n:=x - a / b*y) (by omega) (by omega)]
    exact ih n b (a - a / b*b) y (x - a / b*y) k hs (by omega) hbm (by omega) hy (by omega) (by omega)
 intro k hk
 obtain ⟨h0,h1⟩:=emb n m hm
 unfold spec_l01InvMod.f inv
 obtain ⟨e,h3,h4⟩:=tmod_fix n m hm
 rw [if_neg (by omega),w64 (by omega) (by omega),e]
 exact go (m.toNat+2) (n % m) (n % m) m 1 0 k (Inv.start h0 (by omega)) (by omega) (by omega) (by omega) (by omega) (by omega) (by omega)

theorem pwvl {p n:Int} (hp:Pr p) (h:n≠0):0<pw p (vl p n)∧pw p (vl p n)≤(n.natAbs:Int):=by
 refine ⟨pw_pos2 hp _,?_⟩
 have:=Int.le_of_dvd (by omega) (Int.dvd_natAbs.mpr (pw_vl_dvd hp h))
 exact this
theorem un_div {p n:Int} (hp:Pr p) (h:n≠0):n.tdiv (pw p (vl p n))=un p n:=by
 unfold un;rw [vz_of_ne h,Int.tdiv_eq_ediv_of_dvd (pw_vl_dvd hp h)]
theorem un_bd {p n:Int} (hp:Pr p) (h:n≠0):(un p n).natAbs≤n.natAbs:=by
 obtain ⟨e,_⟩:=un_spec hp h
 have h1:=pwvl hp h
 have:n.natAbs=(pw p (vl p n)).natAbs*(un p n).natAbs:=by rw [← Int.natAbs_mul,← e]
 rw [this]
 exact Nat.le_mul_of_pos_left _ (by omega)

theorem unit_eq (p n:Int) (hp:Pr p) (h:n≠0) (hb:n.natAbs≤4611686018427387904):∀ k,70≤k→impl_unit.f k p n=some (un p n):=by
 intro k hk
 have h1:=pwvl hp h
 have h2:=vl_le63 hp h (by omega)
 have h3:=vl_le hp h (k:=63) (by
  have:(2:Nat) ^ 63=9223372036854775808:=by decide
  omega)
 have h4:=un_bd hp h
 unfold impl_unit.f
 rw [valuation_eq p n hp (by omega) k hk,vz_of_ne h]
 simp only [Option.bind_some]
 rw [power_eq2 p _ hp (by omega) (by omega) (by omega) k hk]
 simp only [Option.bind_some]
 rw [if_neg (by omega),un_div hp h,w64 (by omega) (by omega)]

def enc:Option PM.Ball→Int × Int × Int × Bool
 | none=>(0,0,0,false)
 | some b=>(b.lv,b.top,b.dn,true)
def encC (c:Int):Option PM.Ball→Int × Int × Int × Int
 | none=>(0,0,0,c)
 | some b=>(b.lv,b.top,b.dn,0)

theorem isLevel_eq' (n:Int):impl_isLevel.f n=some (decide (PM.inLv n)):=by
 unfold impl_isLevel.f PM.inLv
 congr 1
 by_cases h1:n≥-6 <;> by_cases h2:n≤6 <;> simp [h1,h2] <;> omega
theorem ofMark_eq {p lv x:Int} (hp:Pr p):∀ k,70≤k→impl_ofMark.f k p lv x=some (enc (if PM.inLv lv then some (PM.mk p lv (x % pw p (lv+6))) else none)):=by
 intro k hk
 unfold impl_ofMark.f
 rw [isLevel_eq']
 simp only [Option.bind_some]
 by_cases hl:PM.inLv lv
 ·
  have hl':=hl
  unfold PM.inLv at hl'
  have hb:=pw_bd12 p (lv+6) hp (by omega)
  obtain ⟨r0,r1⟩:=emb x (pw p (lv+6)) (by omega)
  rw [decide_eq_true hl,if_pos rfl,if_pos hl,w64 (n:=lv+6) (by omega) (by omega),power_eq p _ hp (by omega) k (by omega)]
  simp only [Option.bind_some]
  rw [mod_eq x _ (by omega) (by omega)]
  simp only [Option.bind_some]
  generalize x % pw p (lv+6)=y at *
  rw [valuation_eq p y hp (by omega) k hk]
  simp only [Option.bind_some]
  have hz:0≤vz p y∧vz p y≤1000:=by
   refine ⟨PM.vz_nonneg _ _,?_⟩
   unfold vz
   by_cases y0:y=0
   ·
    rw [if_pos y0];omega
   ·
    rw [if_neg y0];have:=vl_le63 hp y0 (by omega);omega
  simp only [mx_max]
  rw [w64 (n:=6 - vz p y) (by omega) (by omega),w64 (n:=6 - max (6 - vz p y) 0) (by omega) (by omega),power_eq p _ hp (by omega) k (by omega)]
  simp only [Option.bind_some]
  have hq:=pw_bd6 p (6 - max (6 - vz p y) 0) hp (by omega)
  have hd:=Int.ediv_le_self (pw p (6 - max (6 - vz p y) 0)) r0
  have hd0:=Int.ediv_nonneg r0 (show 0≤pw p (6 - max (6 - vz p y) 0) by omega)
  rw [if_neg (by omega),Int.tdiv_eq_ediv_of_nonneg r0,w64 (by omega) (by omega)]
  simp only [enc,PM.mk]
 ·
  rw [decide_eq_false hl,if_neg (by simp),if_neg hl];rfl

theorem vz_bd {p n:Int} (hp:Pr p) (h:n.natAbs≤9223372036854775807):0≤vz p n∧vz p n≤1000:=by
 refine ⟨PM.vz_nonneg _ _,?_⟩
 unfold vz
 by_cases y0:n=0
 ·
  rw [if_pos y0];omega
 ·
  rw [if_neg y0];have:=vl_le63 hp y0 (by omega);omega
theorem ballAt_eq {p n d lv:Int} (hp:Pr p) (hd:d≠0) (hn:n.natAbs≤4611686018427387904) (hdb:d.natAbs≤4611686018427387904):∀ k,13841287300≤k→impl_ballAt.f k p n d lv=some (enc (PM.ballAt p n d lv)):=by
 intro k hk
 obtain ⟨k,rfl⟩:∃ j,k=j+1:=⟨k - 1,by omega⟩
 unfold impl_ballAt.f PM.ballAt
 rw [isLevel_eq']
 simp only [Option.bind_some]
 by_cases hl:PM.inLv lv
 ·
  have hl':=hl
  unfold PM.inLv at hl'
  have hb:=pw_bd12 p (lv+6) hp (by omega)
  have b1:=vz_bd hp (n:=n) (by omega)
  have b2:=vz_bd hp (n:=d) (by omega)
  rw [decide_eq_true hl,if_pos rfl,if_neg (fun z=>z hl),valuation_eq p n hp (by omega) _ (by omega),valuation_eq p d hp (by omega) _ (by omega)]
  simp only [Option.bind_some,impl_ballAt.j0]
  rw [w64 (n:=vz p n - vz p d) (by omega) (by omega)]
  by_cases z:n=0
  ·
   rw [if_pos z,if_pos trivial,if_pos (Or.inl z)];rfl
  ·
   rw [if_neg z]
   by_cases c:vz p n - vz p d≥lv
   ·
    rw [decide_eq_true c,if_pos rfl,if_pos (Or.inr c)];rfl
   ·
    rw [decide_eq_false c,if_neg (by simp),if_neg (show ¬ (n=0∨lv≤vz p n - vz p d) from fun y=>y.elim z c)]
    by_cases e:vz p n - vz p d < -6
    ·
     rw [if_pos e,if_pos e];rfl
    ·
     rw [if_neg e,if_neg e,w64 (n:=lv+6) (by omega) (by omega),w64 (n:=vz p n - vz p d+6) (by omega) (by omega),power_eq p (lv+6) hp (by omega) k (by omega),unit_eq p n hp z hn k (by omega),unit_eq p d hp hd hdb k (by omega)]
     simp only [Option.bind_some]
     rw [inverse_eq _ _ (by omega) (by omega) k (by omega)]
     simp only [Option.bind_some]
     rw [times_eq _ _ _ (by omega) (by omega) k (by omega)]
     simp only [Option.bind_some]
     rw [power_eq p (vz p n - vz p d+6) hp (by omega) k (by omega)]
     simp only [Option.bind_some]
     rw [times_eq _ _ _ (by omega) (by omega) k (by omega)]
     simp only [Option.bind_some]
     rw [ofMark_eq hp k (by omega),if_pos hl,Int.emod_emod]
     rfl
 ·
  rw [decide_eq_false hl,if_neg (by simp),if_pos hl];rfl

theorem l01Of_eq {p n d lv:Int} (hp:Pr p) (hd:d≠0) (hn:n.natAbs≤4611686018427387904) (hdb:d.natAbs≤4611686018427387904):∀ k,13841287300≤k→spec_l01Of.f k p n d lv=some (enc (PM.lOf p n d lv)):=by
 intro k hk
 unfold spec_l01Of.f PM.lOf
 rw [in_eq]
 simp only [Option.bind_some]
 by_cases hl:PM.inLv lv
 ·
  have hl':=hl
  unfold PM.inLv at hl'
  rw [decide_eq_true hl',if_pos rfl,if_neg (show ¬ ¬ PM.inLv lv from fun z=>z hl)]
  by_cases z:n=0
  ·
   rw [if_pos z,if_pos z];rfl
  ·
   have v1:=vl_le63 hp z (by omega)
   have v2:=vl_le63 hp hd (by omega)
   have v3:=vl_le hp z (k:=63) (by
    have:(2:Nat) ^ 63=9223372036854775808:=by decide
    omega)
   have v4:=vl_le hp hd (k:=63) (by
    have:(2:Nat) ^ 63=9223372036854775808:=by decide
    omega)
   rw [if_neg z,if_neg z,val_eq p n hp z (by omega) k (by omega),val_eq p d hp hd (by omega) k (by omega),vz_of_ne z,vz_of_ne hd]
   simp only [Option.bind_some,mx_max]
   rw [w64 (n:=(vl p n:Int) - vl p d) (by omega) (by omega),w64 (n:=(vl p d:Int) - vl p n) (by omega) (by omega)]
   by_cases c:lv≤(vl p n:Int) - vl p d
   ·
    rw [if_pos c,if_pos c];rfl
   ·
    rw [if_neg c,if_neg c]
    by_cases e:max ((vl p d:Int) - vl p n) 0>6
    ·
     rw [if_pos e,if_pos e];rfl
    ·
     rw [if_neg e,if_neg (show ¬ 6<max ((vl p d:Int) - vl p n) 0 from e)]
     have hb:=pw_bd12 p (lv+max ((vl p d:Int) - vl p n) 0) hp (by omega)
     have p1:=pwvl hp z
     have p2:=pwvl hp hd
     have u1:=un_bd hp z
     have u2:=un_bd hp hd
     rw [w64 (n:=lv+max ((vl p d:Int) - vl p n) 0) (by omega) (by omega),l01Power_eq p _ hp (by omega) (by omega) k (by omega),l01Power_eq2 p (vl p n) hp (by omega) (by omega) (by omega) k (by omega),l01Power_eq2 p (vl p d) hp (by omega) (by omega) (by omega) k (by omega)]
     simp only [Option.bind_some]
     rw [if_neg (by omega),if_neg (by omega),un_div hp z,un_div hp hd,w64 (n:=un p n) (by omega) (by omega),w64 (n:=un p d) (by omega) (by omega),l01InvMod_eq _ _ (by omega) (by omega) k (by omega)]
     simp only [Option.bind_some]
     rw [l01MulMod_eq _ _ _ (by omega) (by omega),l01Power_eq p (max ((vl p n:Int) - vl p d) 0) hp (by omega) (by omega) k (by omega)]
     simp only [Option.bind_some]
     rw [l01MulMod_eq _ _ _ (by omega) (by omega)]
     rfl
 ·
  rw [decide_eq_false (show ¬ (-6≤lv∧lv≤6) from hl),if_neg (by simp),if_pos hl];rfl
theorem lOf_eq_ballAt {p n d lv:Int} (hp:Pr p) (hd:d≠0):PM.lOf p n d lv=PM.ballAt p n d lv:=(PM.ballAt_eq_lOf hp hd).symm

theorem up_eq {p lv top dn:Int} (hp:Pr p) (h:PM.Ok p ⟨lv,top,dn⟩):∀ k,70≤k→impl_parent.f k p lv top dn=some (enc (PM.about p (lv - 1) (PM.mark p ⟨lv,top,dn⟩))):=by
 intro k hk
 have hb:=okb h
 unfold impl_parent.f
 rw [mark_eq hp h k (by omega)]
 simp only [Option.bind_some]
 rw [w64 (n:=lv - 1) (by omega) (by omega),ofMark_eq hp k hk]
 rfl

theorem down_eq {p lv top dn a:Int} (hp:Pr p) (h:PM.Ok p ⟨lv,top,dn⟩) (ha:0≤a∧a≤7):∀ k,70≤k→impl_child.f k p lv top dn a=some (enc (PM.about p (lv+1) (PM.mark p ⟨lv,top,dn⟩+a*pw p (lv+6)))):=by
 intro k hk
 have hb:=okb h
 have hm:=mark_bd12 hp h
 have hq:=pw_bd12 p (lv+6) hp (by omega)
 have m1:=mul_bd2 (a:=a) (b:=pw p (lv+6)) 7 13841287201 (by omega) (by omega) (by omega) (by omega)
 unfold impl_child.f
 rw [mark_eq hp h k (by omega),w64 (n:=lv+6) (by omega) (by omega),power_eq p _ hp (by omega) k (by omega)]
 simp only [Option.bind_some]
 rw [w64 (n:=lv+1) (by omega) (by omega),w64 (n:=a*pw p (lv+6)) (by omega) (by omega),w64 (by omega) (by omega),ofMark_eq hp k hk]
 rfl

theorem specUp_eq {p lv top dn:Int} (hp:Pr p) (h:PM.Ok p ⟨lv,top,dn⟩):∀ k,13841287300≤k→spec_l01Parent.f k p lv top dn=some (enc (PM.about p (lv - 1) (PM.mark p ⟨lv,top,dn⟩))):=by
 intro k hk
 have hb:=okb h
 have ht:=ok_top hp h
 have h6:=pw_bd6 p dn hp (by omega)
 unfold spec_l01Parent.f
 rw [l01Power_eq p dn hp (by omega) (by omega) k (by omega)]
 simp only [Option.bind_some]
 rw [w64 (n:=lv - 1) (by omega) (by omega),l01Of_eq hp (by omega) (by omega) (by omega) k hk,lOf_eq_ballAt hp (by omega),show PM.ballAt p top (pw p dn) (lv - 1)=_ from PM.parent_is hp h (lv - 1)]
 rfl

theorem about_out {p l x:Int} (h:¬ PM.inLv l):PM.about p l x=none:=by unfold PM.about;rw [if_neg h]
theorem specDown_eq {p lv top dn a:Int} (hp:Pr p) (h:PM.Ok p ⟨lv,top,dn⟩) (ha:0≤a∧a≤7):∀ k,13841287300≤k→spec_l01Child.f k p lv top dn a=some (enc (PM.about p (lv+1) (PM.mark p ⟨lv,top,dn⟩+a*pw p (lv+6)))):=by
 intro k hk
 have hb:=okb h
 have ht:=ok_top hp h
 have h6:=pw_bd6 p dn hp (by omega)
 unfold spec_l01Child.f
 by_cases c:lv=6
 ·
  rw [if_pos c,about_out (by unfold PM.inLv;omega)];rfl
 ·
  rw [if_neg c,l01Power_eq p dn hp (by omega) (by omega) k (by omega)]
  simp only [Option.bind_some]
  by_cases g:lv≥0
  ·
   have hl:=pw_bd6 p lv hp (by omega)
   have m1:=mul_bd2 (a:=a) (b:=pw p dn) 7 117649 (by omega) (by omega) (by omega) (by omega)
   have m2:=mul_bd2 (a:=a*pw p dn) (b:=pw p lv) 823543 117649 (by omega) (by omega) (by omega) (by omega)
   rw [if_pos g,l01Power_eq p lv hp (by omega) (by omega) k (by omega)]
   simp only [Option.bind_some]
   rw [w64 (n:=a*pw p dn) (by omega) (by omega),w64 (n:=a*pw p dn*pw p lv) (by omega) (by omega),w64 (n:=top+a*pw p dn*pw p lv) (by omega) (by omega),w64 (n:=lv+1) (by omega) (by omega)]
   rw [l01Of_eq hp (by omega) (by omega) (by omega) k hk,lOf_eq_ballAt hp (by omega),show PM.ballAt p (top+a*pw p dn*pw p lv) (pw p dn) (lv+1)=_ from PM.child_hi hp h a (lv+1) g]
   rfl
  ·
   have hl:=pw_bd6 p (-lv) hp (by omega)
   rw [if_neg g,w64 (n:=-lv) (by omega) (by omega),l01Power_eq p (-lv) hp (by omega) (by omega) k (by omega)]
   simp only [Option.bind_some]
   rw [if_neg (by omega),if_neg (by omega)]
   obtain ⟨e,f,d,hd,he,hf,e0,e1,f0,f1⟩:∃ e f d:Int,d=mx (pw p dn) (pw p (-lv))∧d=pw p dn*e∧d=pw p (-lv)*f∧0≤e∧e≤117649∧0≤f∧f≤117649:=by
    rw [mx_max]
    rcases Int.le_total dn (-lv) with y|y
    ·
     have:=pw_le hp y
     obtain ⟨z,hz⟩:=pw_dvd (p:=p) y
     have z0:0≤z:=by
      rcases Int.lt_or_le z 0 with w|w
      ·
       have:=Int.mul_neg_of_pos_of_neg (show 0<pw p dn by omega) w;omega
      ·
       exact w
     have z1:z≤pw p dn*z:=by
      have:=Int.mul_le_mul_of_nonneg_right (show 1≤pw p dn by omega) z0;omega
     exact ⟨z,1,pw p (-lv),by omega,hz,by omega,z0,by omega,by omega,by omega⟩
    ·
     have:=pw_le hp y
     obtain ⟨z,hz⟩:=pw_dvd (p:=p) y
     have z0:0≤z:=by
      rcases Int.lt_or_le z 0 with w|w
      ·
       have:=Int.mul_neg_of_pos_of_neg (show 0<pw p (-lv) by omega) w;omega
      ·
       exact w
     have z1:z≤pw p (-lv)*z:=by
      have:=Int.mul_le_mul_of_nonneg_right (show 1≤pw p (-lv) by omega) z0;omega
     exact ⟨1,z,pw p dn,by omega,by omega,hz,by omega,by omega,z0,by omega⟩
   rw [← hd]
   have hdp:0<d∧d≤117649:=by rw [hd,mx_max];omega
   have q1:d.tdiv (pw p dn)=e:=by rw [he];exact Int.mul_tdiv_cancel_left _ (by omega)
   have q2:d.tdiv (pw p (-lv))=f:=by rw [hf];exact Int.mul_tdiv_cancel_left _ (by omega)
   have m1:=mul_bd2 (a:=top) (b:=e) 13841287201 117649 (by omega) (by omega) (by omega) (by omega)
   have m2:=mul_bd2 (a:=a) (b:=f) 7 117649 (by omega) (by omega) (by omega) (by omega)
   rw [q1,q2,w64 (n:=e) (by omega) (by omega),w64 (n:=f) (by omega) (by omega),w64 (n:=top*e) (by omega) (by omega),w64 (n:=a*f) (by omega) (by omega),w64 (n:=top*e+a*f) (by omega) (by omega),w64 (n:=lv+1) (by omega) (by omega)]
   rw [l01Of_eq hp (by omega) (by omega) (by omega) k hk,lOf_eq_ballAt hp (by omega),show PM.ballAt p (top*e+a*f) d (lv+1)=_ from PM.child_lo hp h a (lv+1) d e f (show -6≤lv by omega) (show lv<0 by omega) he hf (by omega)]
   rfl

/-- the next ball by a number: 0 for the parent -/
def nb (p:Int) (b:PM.Ball) (k:Int):Option PM.Ball:=if k=0 then PM.about p (b.lv - 1) (PM.mark p b) else PM.about p (b.lv+1) (PM.mark p b+(k - 1)*pw p (b.lv+6))
theorem neighbour_eq {p lv top dn i:Int} (hp:Pr p) (h:PM.Ok p ⟨lv,top,dn⟩) (hi:0≤i∧i≤8):∀ k,70≤k→impl_neighbour.f k p lv top dn i=some (enc (nb p ⟨lv,top,dn⟩ i)):=by
 intro k hk
 unfold impl_neighbour.f nb
 by_cases z:i=0
 ·
  rw [if_pos z,if_pos z,up_eq hp h k hk];rfl
 ·
  rw [if_neg z,if_neg z,w64 (n:=i - 1) (by omega) (by omega),down_eq hp h (by omega) k hk];rfl

theorem dets {a b c d:Int} (ha:a.natAbs≤1000) (hb:b.natAbs≤1000) (hc:c.natAbs≤1000) (hd:d.natAbs≤1000):wrap64 (wrap64 (a*d) - wrap64 (b*c))=a*d - b*c∧(a*d - b*c).natAbs≤2000000:=by
 have h1:(a*d).natAbs≤1000000:=by rw [Int.natAbs_mul];have:=Nat.mul_le_mul ha hd;omega
 have h2:(b*c).natAbs≤1000000:=by rw [Int.natAbs_mul];have:=Nat.mul_le_mul hb hc;omega
 rw [w64 (n:=a*d) (by omega) (by omega),w64 (n:=b*c) (by omega) (by omega),w64 (by omega) (by omega)]
 exact ⟨rfl,by omega⟩
theorem l04Is_eq (a b c d:Int):spec_l04Is.f a b c d=some (decide (PM.isM a b c d)):=by
 unfold spec_l04Is.f
 congr 1
 rw [Bool.eq_iff_iff]
 simp only [decide_eq_true_eq]
 unfold PM.isM
 constructor
 ·
  rintro ⟨h1,h2,h3,h4,h5⟩
  rw [(dets (a:=a) (b:=b) (c:=c) (d:=d) (by omega) (by omega) (by omega) (by omega)).1] at h5
  exact ⟨⟨h1,h2,h3,h4⟩,h5⟩
 ·
  rintro ⟨⟨h1,h2,h3,h4⟩,h5⟩
  refine ⟨h1,h2,h3,h4,?_⟩
  rw [(dets (a:=a) (b:=b) (c:=c) (d:=d) (by omega) (by omega) (by omega) (by omega)).1]
  exact h5

theorem IsMatrix_eq (a b c d:Int):∃ K,∀ k,K≤k→impl_IsMatrix.f k a b c d=some (decide (PM.isM a b c d)):=by
 obtain ⟨K,hw⟩:=within_eq 1000 (by omega) (by omega) [a,b,c,d] (by simp)
 have ew:allB 1000 [a,b,c,d]=decide ((-1000≤a∧a≤1000)∧(-1000≤b∧b≤1000)∧(-1000≤c∧c≤1000)∧(-1000≤d∧d≤1000)):=by simp [allB]
 refine ⟨K,fun k hk=>?_⟩
 unfold impl_IsMatrix.f
 rw [hw k hk,ew]
 simp only [Option.bind_some]
 by_cases h:(-1000≤a∧a≤1000)∧(-1000≤b∧b≤1000)∧(-1000≤c∧c≤1000)∧(-1000≤d∧d≤1000)
 ·
  rw [decide_eq_true h,if_pos rfl]
  unfold impl_determinant.f
  simp only [Option.bind_some]
  rw [(dets (a:=a) (b:=b) (c:=c) (d:=d) (by omega) (by omega) (by omega) (by omega)).1]
  congr 1
  rw [Bool.eq_iff_iff]
  simp only [bne_iff_ne,decide_eq_true_eq]
  unfold PM.isM
  exact ⟨fun z=>⟨h,z⟩,fun z=>z.2⟩
 ·
  rw [decide_eq_false h,if_neg (by simp),decide_eq_false]
  exact fun z=>h z.1

/-- the reduced matrix, and whether it fits -/
def redT (a b c d:Int):Int × Int × Int × Int × Bool:=((PM.red a b c d).1,(PM.red a b c d).2.1,(PM.red a b c d).2.2.1,(PM.red a b c d).2.2.2,decide (PM.isM (PM.red a b c d).1 (PM.red a b c d).2.1 (PM.red a b c d).2.2.1 (PM.red a b c d).2.2.2))
theorem gcd_le (a b:Int):Int.gcd a b≤a.natAbs+b.natAbs:=by
 by_cases h:a=0
 ·
  subst h;simp
 ·
  have:Int.gcd a b≤a.natAbs:=Nat.le_of_dvd (by omega) (Nat.gcd_dvd_left _ _)
  omega

theorem by_eq (a b:Int) {g:Int} (hg:g.natAbs≤4611686018427387904):impl_reduced.by_ a b g=g*PM.sg a b:=by
 unfold impl_reduced.by_ impl_reduced.nb PM.sg
 by_cases h:a<0∨(a=0∧b<0)
 ·
  rw [decide_eq_true h,if_pos rfl,if_pos h,w64 (by omega) (by omega)];omega
 ·
  rw [decide_eq_false h,if_neg (by simp),if_neg h];omega
theorem reduced_eq {a b c d:Int} (ha:a.natAbs≤4000000) (hb:b.natAbs≤4000000) (hc:c.natAbs≤4000000) (hd:d.natAbs≤4000000) (h:a*d - b*c≠0):∃ K,∀ k,K≤k→impl_reduced.f k a b c d=some (redT a b c d):=by
 have l1:=gcd_le a b
 have l2:=gcd_le c d
 obtain ⟨K1,h1⟩:=gcd_eq a b (by omega) (by omega)
 obtain ⟨K2,h2⟩:=gcd_eq c d (by omega) (by omega)
 obtain ⟨K3,h3⟩:=gcd_eq (Int.gcd a b:Int) (Int.gcd c d:Int) (by omega) (by omega)
 obtain ⟨K4,h4⟩:=IsMatrix_eq (PM.red a b c d).1 (PM.red a b c d).2.1 (PM.red a b c d).2.2.1 (PM.red a b c d).2.2.2
 have l3:=gcd_le (Int.gcd a b:Int) (Int.gcd c d:Int)
 refine ⟨K1+K2+K3+K4,fun k hk=>?_⟩
 unfold impl_reduced.f
 rw [h1 k (by omega)]
 simp only [Option.bind_some]
 rw [h2 k (by omega)]
 simp only [Option.bind_some]
 rw [h3 k (by omega)]
 simp only [Option.bind_some]
 rw [by_eq a b (by omega),show (Int.gcd (Int.gcd a b:Int) (Int.gcd c d:Int):Int)*PM.sg a b=PM.by4 a b c d from rfl]
 unfold impl_reduced.g
 have q:∀ x:Int,x.natAbs≤4000000→wrap64 (x.tdiv (PM.by4 a b c d))=x.tdiv (PM.by4 a b c d):=fun x hx=>by
  have:=PM.tdiv_abs_le x (PM.by4 a b c d)
  exact w64 (by omega) (by omega)
 rw [if_neg (PM.by4_ne h),q a ha,q b hb,q c hc,q d hd]
 have h5:=h4 k (by omega)
 unfold PM.red at h5
 simp only at h5
 rw [h5]
 rfl
theorem reduce_eq {a b c d:Int} (h:PM.isM a b c d):∃ K,∀ k,K≤k→impl_reduce.f k a b c d=some (PM.red a b c d):=by
 have hb:=PM.isM_bd h
 obtain ⟨K,hK⟩:=reduced_eq (a:=a) (b:=b) (c:=c) (d:=d) (by omega) (by omega) (by omega) (by omega) h.2
 refine ⟨K,fun k hk=>?_⟩
 unfold impl_reduce.f
 rw [hK k hk];rfl

theorem isM_inv {a b c d:Int} (h:PM.isM a b c d):PM.isM d (-b) (-c) a:=by
 unfold PM.isM at *
 refine ⟨by omega,?_⟩
 have:=h.2
 rw [Int.neg_mul_neg,Int.mul_comm d a];exact this
theorem inverted_eq {a b c d:Int} (h:PM.isM a b c d):∃ K,∀ k,K≤k→impl_inverted.f k a b c d=some (PM.red d (-b) (-c) a):=by
 have hb:=PM.isM_bd h
 obtain ⟨K,hK⟩:=reduce_eq (isM_inv h)
 refine ⟨K,fun k hk=>?_⟩
 unfold impl_inverted.f
 rw [w64 (n:=-b) (by omega) (by omega),w64 (n:=-c) (by omega) (by omega),hK k hk];rfl

theorem l04Code_eq (p a b c d:Int) (l:List S28) (hl:l.length≤1000):∃ K,∀ k,K≤k→spec_l04Code.f k p a b c d l=some (if (Pr p∧l.all (bOk p)=true)∧PM.isM a b c d then 0 else 1):=by
 obtain ⟨K,h⟩:=l01Code_eq p l hl
 refine ⟨K,fun k hk=>?_⟩
 unfold spec_l04Code.f
 rw [h k hk,l04Is_eq]
 simp only [Option.bind_some]
 by_cases c1:Pr p∧l.all (bOk p)=true
 ·
  rw [if_pos c1,if_pos rfl]
  by_cases c2:PM.isM a b c d
  ·
   rw [decide_eq_true c2,if_pos (show (Pr p∧l.all (bOk p)=true)∧PM.isM a b c d from ⟨c1,c2⟩)];rfl
  ·
   rw [decide_eq_false c2,if_neg (show ¬ ((Pr p∧l.all (bOk p)=true)∧PM.isM a b c d) from fun z=>c2 z.2)];simp
 ·
  rw [if_neg c1,if_neg (show ¬ ((Pr p∧l.all (bOk p)=true)∧PM.isM a b c d) from fun z=>c1 z.1),if_neg (by omega)]
theorem l04Code_b (p a b c d lv top dn:Int):∃ K,∀ k,K≤k→spec_l04Code.f k p a b c d [⟨lv,top,dn⟩]=some (if (Pr p∧PM.Ok p ⟨lv,top,dn⟩)∧PM.isM a b c d then 0 else 1):=by
 obtain ⟨K,h⟩:=l04Code_eq p a b c d [⟨lv,top,dn⟩] (by simp)
 refine ⟨K,fun k hk=>?_⟩
 rw [h k hk]
 have e:((Pr p∧([(⟨lv,top,dn⟩:S28)].all (bOk p)=true))∧PM.isM a b c d)↔((Pr p∧PM.Ok p ⟨lv,top,dn⟩)∧PM.isM a b c d):=by simp [bOk]
 by_cases q:(Pr p∧PM.Ok p ⟨lv,top,dn⟩)∧PM.isM a b c d
 ·
  rw [if_pos (e.mpr q),if_pos q]
 ·
  rw [if_neg (fun z=>q (e.mp z)),if_neg q]

/-- the length and the kind -/
def lenK (p a b c d:Int):Int × Int:=
 if a+d≠0∧2*(vl p (a+d):Int)<vl p (a*d - b*c) then ((vl p (a*d - b*c):Int) - 2*vl p (a+d),2) else (0,(vl p (a*d - b*c):Int) % 2)
theorem l04Kind_eq {p a b c d:Int} (hp:Pr p) (h:PM.isM a b c d):∀ k,70≤k→spec_l04Kind.f k p a b c d=some ((lenK p a b c d).2,(lenK p a b c d).1):=by
 intro k hk
 have hb:=PM.isM_bd h
 obtain ⟨e1,e2⟩:=dets hb.1 hb.2.1 hb.2.2.1 hb.2.2.2
 have hv:=vl_le63 hp h.2 (by omega)
 unfold spec_l04Kind.f spec_l04Det.f
 simp only [Option.bind_some]
 rw [e1,val_eq p _ hp h.2 (by omega) k hk]
 simp only [Option.bind_some]
 rw [w64 (n:=a+d) (by omega) (by omega),Int.tmod_eq_emod_of_nonneg (by omega)]
 unfold lenK
 obtain ⟨R,hR⟩:∃ R:Int,(vl p (a*d - b*c):Int) % 2=R:=⟨_,rfl⟩
 rw [hR]
 clear hR
 by_cases z:a+d=0
 ·
  generalize vl p (a*d - b*c)=V at *
  rw [if_pos z,if_neg (fun y=>y.1 z)]
 ·
  have hs:=vl_le63 hp z (by omega)
  rw [if_neg z,val_eq p _ hp z (by omega) k hk,Option.bind_some,Option.bind_some]
  rw [w64 (n:=2*(vl p (a+d):Int)) (by omega) (by omega)]
  generalize vl p (a*d - b*c)=V at *
  generalize vl p (a+d)=W at *
  by_cases q:2*(W:Int)<V
  ·
   obtain ⟨X,hX⟩:∃ X:Int,(V:Int) - 2*(W:Int)=X:=⟨_,rfl⟩
   have e:wrap64 ((V:Int) - 2*(W:Int))=X:=by rw [w64 (by omega) (by omega)];exact hX
   rw [if_pos q,if_pos ⟨z,q⟩,e,hX]
  ·
   rw [if_neg q,if_neg (fun y=>q y.2)]
theorem lengthOf_eq {p a b c d:Int} (hp:Pr p) (h:PM.isM a b c d):∀ k,70≤k→impl_lengthOf.f k p a b c d=some (lenK p a b c d):=by
 intro k hk
 have hb:=PM.isM_bd h
 obtain ⟨e1,e2⟩:=dets hb.1 hb.2.1 hb.2.2.1 hb.2.2.2
 have hv:=vl_le63 hp h.2 (by omega)
 unfold impl_lengthOf.f impl_determinant.f
 simp only [Option.bind_some]
 rw [e1,valuation_eq p _ hp (by omega) k hk,w64 (n:=a+d) (by omega) (by omega),valuation_eq p (a+d) hp (by omega) k hk]
 simp only [Option.bind_some]
 rw [vz_of_ne h.2,Int.tmod_eq_emod_of_nonneg (by omega)]
 unfold lenK
 have fin:(if (vl p (a*d - b*c):Int) % 2=0 then some ((0:Int),(0:Int)) else some (0,1))=some (0,(vl p (a*d - b*c):Int) % 2):=by
  by_cases q:(vl p (a*d - b*c):Int) % 2=0
  ·
   rw [if_pos q,q]
  ·
   rw [if_neg q,show (vl p (a*d - b*c):Int) % 2=1 by omega]
 by_cases z:a+d=0
 ·
  rw [z]
  rw [show vz p 0=1000 by simp [vz],w64 (n:=2*1000) (by omega) (by omega),if_neg (by omega),fin,if_neg (fun y=>y.1 rfl)]
 ·
  have hs:=vl_le63 hp z (by omega)
  rw [vz_of_ne z,w64 (n:=2*(vl p (a+d):Int)) (by omega) (by omega)]
  by_cases q:2*(vl p (a+d):Int)<vl p (a*d - b*c)
  ·
   rw [if_pos q,if_pos ⟨z,q⟩,w64 (by omega) (by omega)]
  ·
   rw [if_neg q,fin,if_neg (fun y=>q y.2)]

theorem mvlin {c T d S:Int} (hc:c.natAbs≤1000) (hd:d.natAbs≤1000) (hT:T.natAbs≤13841287201) (hS:S.natAbs≤13841287201) :
  wrap64 (wrap64 (c*T)+wrap64 (d*S))=c*T+d*S∧wrap64 (c*T)=c*T∧(c*T).natAbs≤13841287201000∧(c*T+d*S).natAbs≤27682574402000:=by
 have h1:(c*T).natAbs≤1000*13841287201:=by rw [Int.natAbs_mul];exact Nat.mul_le_mul hc hT
 have h2:(d*S).natAbs≤1000*13841287201:=by rw [Int.natAbs_mul];exact Nat.mul_le_mul hd hS
 rw [w64 (n:=c*T) (by omega) (by omega),w64 (n:=d*S) (by omega) (by omega),w64 (by omega) (by omega)]
 exact ⟨rfl,rfl,by omega,by omega⟩
theorem mvF_bd {p a b c d P T S:Int} (ha:a.natAbs≤1000) (hb:b.natAbs≤1000) (hc:c.natAbs≤1000) (hd:d.natAbs≤1000) (hP:P.natAbs≤13841287201) (hT:T.natAbs≤13841287201) (hS:S.natAbs≤13841287201) :
  (PM.mvF p a b c d P T S).1.natAbs≤27682574402000∧(PM.mvF p a b c d P T S).2.natAbs≤27682574402000:=by
 have h1:=mvlin ha hb hT hS
 have h2:=mvlin hc hd hT hS
 have h3:=mvlin (d:=0) (S:=0) ha (by simp) hP (by simp)
 have h4:=mvlin (d:=0) (S:=0) hc (by simp) hP (by simp)
 unfold PM.mvF
 split
 ·
  exact ⟨by simp only;omega,by simp only;omega⟩
 ·
  exact ⟨by simp only;omega,by simp only;omega⟩

set_option maxHeartbeats 1600000 in
theorem moveBall_eq {p a b c d lv top dn:Int} (hp:Pr p) (hm:PM.isM a b c d) (ho:PM.Ok p ⟨lv,top,dn⟩):∀ k,13841287400≤k→impl_moveBall.f k p a b c d lv top dn=some (enc (PM.moveB p a b c d ⟨lv,top,dn⟩)):=by
 intro k hk
 obtain ⟨k,rfl⟩:∃ j,k=j+1:=⟨k - 1,by omega⟩
 have hb:=PM.isM_bd hm
 obtain ⟨m0,m1⟩:=PM.mark_bd hp ho
 have hlv:=ho.1
 have hlv2:=ho.2.1
 simp only at hlv hlv2 m1
 have b1:=pw_bd12 p (lv+6) hp (by omega)
 have b2:=pw_bd12 p 6 hp (by omega)
 unfold impl_moveBall.f
 rw [mark_eq hp ho _ (by omega),power_eq p 6 hp (by omega) _ (by omega),w64 (n:=lv+6) (by omega) (by omega),power_eq p (lv+6) hp (by omega) _ (by omega)]
 simp only [Option.bind_some]
 unfold PM.moveB
 simp only
 obtain ⟨P,hP⟩:∃ P,P=pw p (lv+6):=⟨_,rfl⟩
 obtain ⟨S,hS⟩:∃ S,S=pw p 6:=⟨_,rfl⟩
 obtain ⟨T,hT⟩:∃ T,T=PM.mark p ⟨lv,top,dn⟩:=⟨_,rfl⟩
 rw [← hP,← hS,← hT]
 rw [← hP] at b1 m1
 rw [← hS] at b2
 rw [← hT] at m0 m1
 have hbd:=mvF_bd (p:=p) (P:=P) (T:=T) (S:=S) hb.1 hb.2.1 hb.2.2.1 hb.2.2.2 (by omega) (by omega) (by omega)
 have hne:=PM.mvF_ne (p:=p) (P:=P) (T:=T) (S:=S) hm.2 (by omega) (by omega)
 obtain ⟨l1,_,_,l1b⟩:=mvlin (T:=T) (S:=S) hb.1 hb.2.1 (by omega) (by omega)
 obtain ⟨l2,_,_,l2b⟩:=mvlin (T:=T) (S:=S) hb.2.2.1 hb.2.2.2 (by omega) (by omega)
 obtain ⟨_,l3,l3b,_⟩:=mvlin (T:=P) (S:=0) (d:=0) hb.1 (by simp) (by omega) (by simp)
 obtain ⟨_,l4,l4b,_⟩:=mvlin (T:=P) (S:=0) (d:=0) hb.2.2.1 (by simp) (by omega) (by simp)
 rw [l1,l2,l3,l4,valuation_eq p _ hp (by omega) _ (by omega),valuation_eq p _ hp (by omega) _ (by omega)]
 simp only [Option.bind_some]
 have hsel:(if vz p (c*T+d*S)>vz p (c*P) then impl_moveBall.j0 (k+1) p a b c d lv top dn (a*P) (c*P) else impl_moveBall.j0 (k+1) p a b c d lv top dn (a*T+b*S) (c*T+d*S))=impl_moveBall.j0 (k+1) p a b c d lv top dn (PM.mvF p a b c d P T S).1 (PM.mvF p a b c d P T S).2:=by
  unfold PM.mvF at hne ⊢
  by_cases z:c*T+d*S=0
  ·
   rw [if_pos (Or.inl z)] at hne ⊢
   have hne':c*P≠0:=hne
   have hu:=vl_le63 hp hne' (by omega)
   rw [z,show vz p 0=1000 by simp [vz],vz_of_ne hne',if_pos (by omega)]
  ·
   have hv:=vl_le63 hp z (by omega)
   rw [vz_of_ne z]
   by_cases y:c*P=0
   ·
    rw [y,show vz p 0=1000 by simp [vz],if_neg (by omega),if_neg (show ¬ (c*T+d*S=0∨((0:Int)≠0∧vl p 0<vl p (c*T+d*S))) from fun h=>h.elim z (fun h=>h.1 rfl))]
   ·
    rw [vz_of_ne y]
    by_cases q:vl p (c*P)<vl p (c*T+d*S)
    ·
     rw [if_pos (by omega),if_pos (Or.inr ⟨y,q⟩)]
    ·
     rw [if_neg (by omega),if_neg (show ¬ (c*T+d*S=0∨(c*P≠0∧vl p (c*P)<vl p (c*T+d*S))) from fun h=>h.elim z (fun h=>q h.2))]
 rw [hsel]
 generalize PM.mvF p a b c d P T S=F at *
 obtain ⟨e1,e2⟩:=dets hb.1 hb.2.1 hb.2.2.1 hb.2.2.2
 have v1:=vl_le63 hp hm.2 (by omega)
 have v2:=vl_le63 hp hne (by omega)
 simp only [impl_moveBall.j0]
 unfold impl_determinant.f
 simp only [Option.bind_some]
 rw [e1,valuation_eq p _ hp (by omega) _ (by omega),valuation_eq p _ hp (by omega) _ (by omega),vz_of_ne hm.2,vz_of_ne hne]
 simp only [Option.bind_some]
 rw [w64 (n:=(vl p (a*d - b*c):Int)+lv) (by omega) (by omega),w64 (n:=(vl p (a*d - b*c):Int)+lv+12) (by omega) (by omega),w64 (n:=2*(vl p F.2:Int)) (by omega) (by omega),w64 (n:=(vl p (a*d - b*c):Int)+lv+12 - 2*(vl p F.2:Int)) (by omega) (by omega),ballAt_eq hp hne (by omega) (by omega) k (by omega)]
 rfl

set_option maxHeartbeats 1600000 in
theorem l04Move_eq {p a b c d lv top dn:Int} (hp:Pr p) (hm:PM.isM a b c d) (ho:PM.Ok p ⟨lv,top,dn⟩):∀ k,13841287400≤k→spec_l04Move.f k p a b c d lv top dn=some (enc (PM.moveB p a b c d ⟨lv,top,dn⟩)):=by
 intro k hk
 obtain ⟨k,rfl⟩:∃ j,k=j+1+1:=⟨k - 2,by omega⟩
 have hb:=PM.isM_bd hm
 obtain ⟨t,ht⟩:∃ t,t=max dn (-lv):=⟨_,rfl⟩
 rw [PM.moveB_ref (t:=t) hp hm.2 ho ht]
 obtain ⟨o1,o2,o3,o4,o5⟩:=ho
 simp only at o1 o2 o3 o4 o5 ⊢
 have b1:=pw_bd12 p (lv+t) hp (by omega)
 have b2:=pw_bd12 p t hp (by omega)
 have b3:=pw_bd12 p (t - dn) hp (by omega)
 have hTb:0≤top*pw p (t - dn)∧top*pw p (t - dn)≤13841287201:=by
  rcases o5 with ⟨_,z,_⟩|⟨g,h0,h1,_⟩
  ·
   rw [z];simp
  ·
   refine ⟨Int.mul_nonneg h0 (by omega),?_⟩
   have h2:top*pw p (t - dn)≤pw p (lv+dn)*pw p (t - dn):=Int.mul_le_mul_of_nonneg_right (by omega) (by omega)
   rw [← PM.pw_add (by omega) (by omega),show lv+dn+(t - dn)=lv+t by omega] at h2
   omega
 unfold spec_l04Move.f
 simp only [mx_max]
 rw [w64 (n:=-lv) (by omega) (by omega),← ht,w64 (n:=lv+t) (by omega) (by omega),w64 (n:=t - dn) (by omega) (by omega),l01Power_eq p (lv+t) hp (by omega) (by omega) _ (by omega),l01Power_eq p t hp (by omega) (by omega) _ (by omega),l01Power_eq p (t - dn) hp (by omega) (by omega) _ (by omega)]
 simp only [Option.bind_some]
 rw [w64 (n:=top*pw p (t - dn)) (by omega) (by omega)]
 obtain ⟨P,hP⟩:∃ P,P=pw p (lv+t):=⟨_,rfl⟩
 obtain ⟨S,hS⟩:∃ S,S=pw p t:=⟨_,rfl⟩
 obtain ⟨T,hT⟩:∃ T,T=top*pw p (t - dn):=⟨_,rfl⟩
 rw [← hP,← hS,← hT]
 rw [← hP] at b1
 rw [← hS] at b2
 rw [← hT] at hTb
 have hbd:=mvF_bd (p:=p) (P:=P) (T:=T) (S:=S) hb.1 hb.2.1 hb.2.2.1 hb.2.2.2 (by omega) (by omega) (by omega)
 have hne:=PM.mvF_ne (p:=p) (P:=P) (T:=T) (S:=S) hm.2 (by omega) (by omega)
 obtain ⟨l1,_,_,l1b⟩:=mvlin (T:=T) (S:=S) hb.1 hb.2.1 (by omega) (by omega)
 obtain ⟨l2,_,_,l2b⟩:=mvlin (T:=T) (S:=S) hb.2.2.1 hb.2.2.2 (by omega) (by omega)
 obtain ⟨_,l3,l3b,_⟩:=mvlin (T:=P) (S:=0) (d:=0) hb.1 (by simp) (by omega) (by simp)
 obtain ⟨_,l4,l4b,_⟩:=mvlin (T:=P) (S:=0) (d:=0) hb.2.2.1 (by simp) (by omega) (by simp)
 simp only [l1,l2,l3,l4]
 have htb:0≤t∧t≤6:=by omega
 clear o5 ht hP hS hT
 have hend:spec_l04Move.j1 (k+1) p t a b c d lv top dn (PM.mvF p a b c d P T S).1 (PM.mvF p a b c d P T S).2=some (enc (PM.ballAt p (PM.mvF p a b c d P T S).1 (PM.mvF p a b c d P T S).2 ((vl p (a*d - b*c):Int)+lv+2*t - 2*vl p (PM.mvF p a b c d P T S).2))):=by
  generalize PM.mvF p a b c d P T S=F at *
  obtain ⟨e1,e2⟩:=dets hb.1 hb.2.1 hb.2.2.1 hb.2.2.2
  have v1:=vl_le63 hp hm.2 (by omega)
  have v2:=vl_le63 hp hne (by omega)
  simp only [spec_l04Move.j1]
  unfold spec_l04Det.f
  simp only [Option.bind_some]
  rw [e1,val_eq p _ hp hm.2 (by omega) _ (by omega),val_eq p _ hp hne (by omega) _ (by omega)]
  simp only [Option.bind_some]
  rw [w64 (n:=(vl p (a*d - b*c):Int)+lv) (by omega) (by omega),w64 (n:=2*t) (by omega) (by omega),w64 (n:=(vl p (a*d - b*c):Int)+lv+2*t) (by omega) (by omega),w64 (n:=2*(vl p F.2:Int)) (by omega) (by omega),w64 (n:=(vl p (a*d - b*c):Int)+lv+2*t - 2*(vl p F.2:Int)) (by omega) (by omega),l01Of_eq hp hne (by omega) (by omega) k (by omega),lOf_eq_ballAt hp hne]
  rfl
 rw [← hend]
 unfold PM.mvF at hne ⊢
 by_cases z:c*T+d*S=0
 ·
  rw [if_pos z,if_pos (Or.inl z)]
  simp only [spec_l04Move.j0]
  rw [if_pos trivial]
 ·
  rw [if_neg z]
  by_cases y:c*P=0
  ·
   rw [if_pos y,if_neg (show ¬ (c*T+d*S=0∨(c*P≠0∧vl p (c*P)<vl p (c*T+d*S))) from fun h=>h.elim z (fun h=>h.1 y))]
   simp only [spec_l04Move.j0]
   rw [if_neg (by simp)]
  ·
   rw [if_neg y,val_eq p _ hp z (by omega) _ (by omega),val_eq p _ hp y (by omega) _ (by omega),Option.bind_some,Option.bind_some]
   simp only [spec_l04Move.j0]
   by_cases q:vl p (c*P)<vl p (c*T+d*S)
   ·
    rw [decide_eq_true (by omega),if_pos rfl,if_pos (Or.inr ⟨y,q⟩)]
   ·
    rw [decide_eq_false (by omega),if_neg (by simp),if_neg (show ¬ (c*T+d*S=0∨(c*P≠0∧vl p (c*P)<vl p (c*T+d*S))) from fun h=>h.elim z (fun h=>q h.2))]

theorem joinLevel_eq {p l1 t1 d1 l2 t2 d2:Int} (hp:Pr p) (hb:PM.Ok p ⟨l1,t1,d1⟩) (hc:PM.Ok p ⟨l2,t2,d2⟩):∀ k,100≤k→impl_joinLevel.f k p l1 t1 d1 l2 t2 d2=some (PM.jl p ⟨l1,t1,d1⟩ ⟨l2,t2,d2⟩):=by
 intro k hk
 obtain ⟨m0,m1⟩:=PM.mark_bd hp hb
 obtain ⟨m2,m3⟩:=PM.mark_bd hp hc
 have b1:=pw_bd12 p (l1+6) hp (by have:=hb.2.1;simp only at this;omega)
 have b2:=pw_bd12 p (l2+6) hp (by have:=hc.2.1;simp only at this;omega)
 simp only at m1 m3
 unfold impl_joinLevel.f
 rw [mark_eq hp hb k (by omega),mark_eq hp hc k (by omega)]
 simp only [Option.bind_some]
 rw [w64 (n:=PM.mark p ⟨l1,t1,d1⟩ - PM.mark p ⟨l2,t2,d2⟩) (by omega) (by omega),valuation_eq p _ hp (by omega) k (by omega)]
 simp only [Option.bind_some,mn_min]
 have hz:=PM.vz_nonneg p (PM.mark p ⟨l1,t1,d1⟩ - PM.mark p ⟨l2,t2,d2⟩)
 have hz2:vz p (PM.mark p ⟨l1,t1,d1⟩ - PM.mark p ⟨l2,t2,d2⟩)≤1000:=by
  unfold vz
  by_cases z:PM.mark p ⟨l1,t1,d1⟩ - PM.mark p ⟨l2,t2,d2⟩=0
  ·
   rw [if_pos z];omega
  ·
   rw [if_neg z];have:=vl_le63 hp z (by omega);omega
 rw [w64 (by omega) (by omega)]
 rfl
theorem distance_fin {p:Int} {b c:PM.Ball} (hb:PM.Ok p b) (hc:PM.Ok p c):wrap64 (wrap64 (b.lv+c.lv) - wrap64 (2*PM.jl p b c))=PM.dist p b c:=by
 obtain ⟨j1,j2,j3⟩:=PM.jl_bd p hb hc
 have h1:=hb.2.1
 have h2:=hc.2.1
 have h3:=hb.1
 have h4:=hc.1
 rw [w64 (n:=b.lv+c.lv) (by omega) (by omega),w64 (n:=2*PM.jl p b c) (by omega) (by omega),w64 (by omega) (by omega)]
 rfl

theorem distance_eq {p l1 t1 d1 l2 t2 d2:Int} (hp:Pr p) (hb:PM.Ok p ⟨l1,t1,d1⟩) (hc:PM.Ok p ⟨l2,t2,d2⟩):∀ k,100≤k→impl_distance.f k p l1 t1 d1 l2 t2 d2=some (PM.dist p ⟨l1,t1,d1⟩ ⟨l2,t2,d2⟩):=by
 intro k hk
 unfold impl_distance.f
 rw [joinLevel_eq hp hb hc k hk]
 simp only [Option.bind_some]
 exact congrArg some (distance_fin hb hc)

set_option maxHeartbeats 1600000 in
theorem l02Join_eq {p l1 t1 d1 l2 t2 d2:Int} (hp:Pr p) (hb:PM.Ok p ⟨l1,t1,d1⟩) (hc:PM.Ok p ⟨l2,t2,d2⟩):∀ k,100≤k→spec_l02Join.f k p l1 t1 d1 l2 t2 d2=some (PM.jl p ⟨l1,t1,d1⟩ ⟨l2,t2,d2⟩):=by
 intro k hk
 rw [PM.jl_ref hp hb hc]
 have tb:∀ {l t d m:Int},PM.Ok p ⟨l,t,d⟩→d≤m→m≤6→0≤t*pw p (m - d)∧t*pw p (m - d)≤13841287201:=by
  intro l t d m ho h1 h2
  obtain ⟨o1,o2,o3,o4,o5⟩:=ho
  simp only at o1 o2 o3 o4 o5
  have hq:=pw_bd12 p (m - d) hp (by omega)
  rcases o5 with ⟨_,z,_⟩|⟨g,h0,h1',_⟩
  ·
   rw [z];simp
  ·
   refine ⟨Int.mul_nonneg h0 (by omega),?_⟩
   have h2:t*pw p (m - d)≤pw p (l+d)*pw p (m - d):=Int.mul_le_mul_of_nonneg_right (by omega) (by omega)
   rw [← PM.pw_add (by omega) (by omega),show l+d+(m - d)=l+m by omega] at h2
   have:=pw_bd12 p (l+m) hp (by omega)
   omega
 have b3:=hb.2.2.1
 have b4:=hb.2.2.2.1
 have c3:=hc.2.2.1
 have c4:=hc.2.2.2.1
 simp only at b3 b4 c3 c4 ⊢
 have h1:=tb hb (m:=max d1 d2) (by omega) (by omega)
 have h2:=tb hc (m:=max d1 d2) (by omega) (by omega)
 clear tb
 unfold spec_l02Join.f spec_l02Valuation.f
 simp only [mx_max,mn_min]
 obtain ⟨M,hM⟩:∃ M,M=max d1 d2:=⟨_,rfl⟩
 rw [← hM] at h1 h2 ⊢
 rw [w64 (n:=M - d1) (by omega) (by omega),w64 (n:=M - d2) (by omega) (by omega),l01Power_eq p (M - d1) hp (by omega) (by omega) k (by omega),l01Power_eq p (M - d2) hp (by omega) (by omega) k (by omega)]
 simp only [Option.bind_some]
 rw [w64 (n:=t1*pw p (M - d1)) (by omega) (by omega),w64 (n:=t2*pw p (M - d2)) (by omega) (by omega),w64 (n:=t1*pw p (M - d1) - t2*pw p (M - d2)) (by omega) (by omega)]
 have hD:(t1*pw p (M - d1) - t2*pw p (M - d2)).natAbs≤9223372036854775807:=by omega
 generalize t1*pw p (M - d1) - t2*pw p (M - d2)=D at *
 by_cases z:D=0
 ·
  rw [if_pos z,if_pos z]
  simp only [Option.bind_some]
  rw [if_neg (by simp)]
 ·
  rw [if_neg z,if_neg z,val_eq p D hp z hD k (by omega)]
  have hv:=vl_le63 hp z (by omega)
  simp only [Option.bind_some,if_true]
  rw [w64 (by omega) (by omega)]

theorem l02Distance_eq {p l1 t1 d1 l2 t2 d2:Int} (hp:Pr p) (hb:PM.Ok p ⟨l1,t1,d1⟩) (hc:PM.Ok p ⟨l2,t2,d2⟩):∀ k,100≤k→spec_l02Distance.f k p l1 t1 d1 l2 t2 d2=some (PM.dist p ⟨l1,t1,d1⟩ ⟨l2,t2,d2⟩):=by
 intro k hk
 unfold spec_l02Distance.f
 rw [l02Join_eq hp hb hc k hk]
 simp only [Option.bind_some]
 exact congrArg some (distance_fin hb hc)

def enB (b:PM.Ball):S28:=⟨b.lv,b.top,b.dn⟩
theorem children_go {p:Int} {b:PM.Ball} (hp:Pr p) (hb:PM.Ok p b):∀ (c:Nat) (i:Int) (acc:List S28) (k:Nat),0≤i→i+c=p→acc.length+c≤1000→13841287400+c≤k→spec_l02Children.l0 k p acc i b.lv b.top b.dn=some (match PM.someN p b c (i+1) with|none=>([],false)|some l=>(acc ++ l.map enB,true)):=by
 have hpl:=hp.le
 intro c
 induction c with
 | zero=>
  intro i acc k h0 h1 h2 hk
  obtain ⟨k,rfl⟩:∃ m,k=m+1:=⟨k - 1,by omega⟩
  simp only [spec_l02Children.l0]
  rw [if_neg (by omega)]
  simp [PM.someN]
 | succ c ih=>
  intro i acc k h0 h1 h2 hk
  obtain ⟨k,rfl⟩:∃ m,k=m+1:=⟨k - 1,by omega⟩
  simp only [spec_l02Children.l0]
  rw [if_pos (by omega),specDown_eq hp hb (by omega) k (by omega)]
  simp only [Option.bind_some]
  have hY:PM.about p (b.lv+1) (PM.mark p ⟨b.lv,b.top,b.dn⟩+i*pw p (b.lv+6))=PM.nbr p b (i+1):=by
   unfold PM.nbr;rw [if_neg (by omega),show i+1 - 1=i by omega]
  rw [hY,PM.someN]
  cases hy:PM.nbr p b (i+1) with
  | none=>rw [if_neg (by simp [enc])];rfl
  | some y=>
   rw [if_pos (by simp [enc]),if_pos (by omega),w64 (n:=i+1) (by omega) (by omega),ih (i+1) _ k (by omega) (by omega) (by simp;omega) (by omega)]
   simp only [Option.bind_some]
   cases PM.someN p b c (i+1+1) with
   | none=>rfl
   | some l=>simp [enB,enc]
theorem near_eq {p:Int} {b:PM.Ball} (hp:Pr p) (hb:PM.Ok p b):∀ k,13841287500≤k→(∀ l,PM.nbrs p b=some l→spec_l02Near.f k p b.lv b.top b.dn=some (l.map enB,true))∧(PM.nbrs p b=none→∃ m,spec_l02Near.f k p b.lv b.top b.dn=some (m,false)):=by
 intro k hk
 have hpl:=hp.le
 have hpp:=hp.pos
 have hc:=children_go hp hb p.toNat 0 [] k (by omega) (by omega) (by simp;omega) (by omega)
 have hY:PM.about p (b.lv - 1) (PM.mark p ⟨b.lv,b.top,b.dn⟩)=PM.nbr p b 0:=by
  unfold PM.nbr;rw [if_pos rfl]
 unfold spec_l02Near.f spec_l02Children.f
 rw [specUp_eq hp hb k (by omega),hc,hY]
 simp only [Option.bind_some]
 have hn:PM.nbrs p b=(PM.nbr p b 0).bind fun y=>(PM.someN p b p.toNat (0+1)).map fun l=>y :: l:=rfl
 rw [hn]
 cases hy:PM.nbr p b 0 with
 | none=>
  refine ⟨fun l h=>by simp at h,fun _=>?_⟩
  cases hs:PM.someN p b p.toNat (0+1) with
  | none=>simp [enc]
  | some l=>
   have:=PM.someN_len _ _ _ hs
   simp [enc];omega
 | some y=>
  cases hs:PM.someN p b p.toNat (0+1) with
  | none=>exact ⟨fun l h=>by simp at h,fun _=>by simp [enc]⟩
  | some l=>
   have:=PM.someN_len _ _ _ hs
   refine ⟨fun m h=>?_,fun h=>by simp at h⟩
   simp only [Option.bind_some,Option.map_some,Option.some.injEq] at h
   subst h
   simp only [enc]
   rw [if_pos (by simp;omega)]
   simp [enB]

theorem rdBn (l:List PM.Ball) (pre:List PM.Ball) (x:PM.Ball):rd_T28 ((pre ++ x :: l).map enB) ((pre.length:Nat):Int)=enB x:=by
 simp [rd_T28]
theorem sphere_l2 {p r n1:Int} {b:PM.Ball} (hp:Pr p) (hb:PM.Ok p b) (cur:List S28) (i:Int) (R:List S28 × Int) (K:Nat):∀ (suf pre:List PM.Ball) (acc:List S28),(∀ y,y ∈ suf→PM.Ok p y)→pre.length+suf.length≤1000→acc.length+suf.length≤1000000→(∀ k,K≤k→spec_SphereAround.l1 k p r cur n1 (acc ++ (suf.filter (fun y=>decide (PM.dist p b y=n1))).map enB) (wrap64 (i+1)) b.lv b.top b.dn=some R)→∀ k,K+suf.length+101≤k→spec_SphereAround.l2 k p r cur n1 acc i ((pre ++ suf).map enB) ((pre.length:Nat):Int) b.lv b.top b.dn=some R:=by
 intro suf
 induction suf with
 | nil=>
  intro pre acc ho h1 h2 H k hk
  obtain ⟨k,rfl⟩:∃ m,k=m+1:=⟨k - 1,by omega⟩
  simp only [spec_SphereAround.l2]
  rw [if_neg (by simp)]
  have:=H k (by omega)
  simpa using this
 | cons y suf ih=>
  intro pre acc ho h1 h2 H k hk
  simp only [List.length_cons] at h1 h2 hk
  obtain ⟨k,rfl⟩:∃ m,k=m+1:=⟨k - 1,by omega⟩
  have oy:=ho y List.mem_cons_self
  simp only [spec_SphereAround.l2]
  rw [if_pos (by simp;omega),if_pos (by omega),rdBn suf pre y,w64 (n:=(pre.length:Int)+1) (by omega) (by omega)]
  show ((spec_l02Distance.f k p b.lv b.top b.dn y.lv y.top y.dn).bind _)=_
  rw [l02Distance_eq hp hb oy k (by omega)]
  simp only [Option.bind_some]
  have e1:(pre ++ y :: suf)=((pre ++ [y]) ++ suf):=by simp
  have e2:(pre.length:Int)+1=(((pre ++ [y]).length:Nat):Int):=by simp
  show (if PM.dist p b y=n1 then _ else _)=_
  by_cases q:PM.dist p b y=n1
  ·
   rw [if_pos q,if_pos (by omega),e1,e2]
   refine ih (pre ++ [y]) _ (fun z hz=>ho z (List.mem_cons_of_mem _ hz)) (by simp;omega) (by simp;omega) (fun k hk=>?_) k (by omega)
   have:=H k hk
   rw [List.filter_cons_of_pos (by simpa using q)] at this
   simpa [enB,List.append_assoc] using this
  ·
   rw [if_neg q,e1,e2]
   refine ih (pre ++ [y]) _ (fun z hz=>ho z (List.mem_cons_of_mem _ hz)) (by simp;omega) (by omega) (fun k hk=>?_) k (by omega)
   have:=H k hk
   rwa [List.filter_cons_of_neg (by simpa using q)] at this
theorem sphere_l1 {p r n:Int} {b:PM.Ball} (hp:Pr p) (hb:PM.Ok p b) (hn:0≤n∧n≤10) (R:List S28 × Int) (K:Nat) (hK:13841287600≤K):∀ (suf pre:List PM.Ball) (acc:List S28),(∀ y,y ∈ suf→PM.Ok p y)→pre.length+suf.length≤100000→acc.length+8*suf.length≤900000→(∀ l,PM.nextS p b n suf=some l→∀ k,K≤k→spec_SphereAround.l0 k p r (acc ++ l.map enB) (wrap64 ((n+1)+1)) b.lv b.top b.dn=some R)→(PM.nextS p b n suf=none→R=([],3))→∀ k,K+200*suf.length+1≤k→spec_SphereAround.l1 k p r ((pre ++ suf).map enB) (n+1) acc ((pre.length:Nat):Int) b.lv b.top b.dn=some R:=by
 have hpl:=hp.le
 have hpp:=hp.pos
 intro suf
 induction suf with
 | nil=>
  intro pre acc ho h1 h2 H Hn k hk
  obtain ⟨k,rfl⟩:∃ m,k=m+1:=⟨k - 1,by omega⟩
  simp only [spec_SphereAround.l1]
  rw [if_neg (by simp)]
  have:=H [] rfl k (by omega)
  simpa using this
 | cons x suf ih=>
  intro pre acc ho h1 h2 H Hn k hk
  simp only [List.length_cons] at h1 h2 hk
  obtain ⟨k,rfl⟩:∃ m,k=m+1:=⟨k - 1,by omega⟩
  have ox:=ho x List.mem_cons_self
  simp only [spec_SphereAround.l1]
  rw [if_pos (by simp;omega),if_pos (by omega),rdBn suf pre x]
  show ((spec_l02Near.f k p x.lv x.top x.dn).bind _)=_
  obtain ⟨n1,n2⟩:=near_eq hp ox k (by omega)
  cases hm:PM.nbrs p x with
  | none=>
   obtain ⟨m,e⟩:=n2 hm
   rw [e]
   simp only [Option.bind_some]
   rw [if_neg (by simp),Hn (by unfold PM.nextS;rw [hm];rfl)]
  | some m=>
   rw [n1 m hm]
   simp only [Option.bind_some]
   rw [if_pos trivial]
   have ml:=PM.someN_len _ _ _ hm
   have e1:(pre ++ x :: suf)=((pre ++ [x]) ++ suf):=by simp
   have flen:(m.filter (fun y=>decide (PM.dist p b y=n+1))).length≤m.length:=List.length_filter_le ..
   refine sphere_l2 hp hb _ (pre.length:Int) R (K+200*suf.length+1) m [] acc (fun y hy=>by
    obtain ⟨j,_,_,j3⟩:=PM.someN_mem _ _ _ hm y hy
    exact PM.nbr_ok hp j3) (by simp;omega) (by omega) (fun k hk=>?_) k (by omega)
   rw [w64 (n:=(pre.length:Int)+1) (by omega) (by omega),e1,show (pre.length:Int)+1=(((pre ++ [x]).length:Nat):Int) by simp]
   refine ih (pre ++ [x]) _ (fun z hz=>ho z (List.mem_cons_of_mem _ hz)) (by simp;omega) (by simp;omega) (fun l hl k hk=>?_) (fun h=>?_) k (by omega)
   ·
    have:=H _ (show PM.nextS p b n (x :: suf)=some (m.filter (fun y=>decide (PM.dist p b y=n+1)) ++ l) by unfold PM.nextS;rw [hm,Option.bind_some,hl];rfl) k hk
    simpa [List.append_assoc] using this
   ·
    exact Hn (by unfold PM.nextS;rw [hm,Option.bind_some,h];rfl)
theorem nextS_len {p n:Int} {b:PM.Ball} (hp:Pr p):∀ (l r:List PM.Ball),PM.nextS p b n l=some r→r.length≤8*l.length
 | [],r,h=>by obtain rfl:=Option.some.inj h;simp
 | x :: l,r,h=>by
  have hpl:=hp.le
  unfold PM.nextS at h
  obtain ⟨m,e1,e2⟩:=Option.bind_eq_some_iff.mp h
  obtain ⟨s,e3,rfl⟩:=Option.map_eq_some_iff.mp e2
  have ml:=PM.someN_len _ _ _ e1
  have flen:(m.filter (fun y=>decide (PM.dist p b y=n+1))).length≤m.length:=List.length_filter_le ..
  have:=nextS_len hp l s e3
  simp only [List.length_append,List.length_cons];omega
theorem sph_len {p:Int} {b:PM.Ball} (hp:Pr p):∀ (n:Nat) (l:List PM.Ball),PM.sph p b n=some l→l.length≤8 ^ n
 | 0,l,h=>by obtain rfl:=Option.some.inj h;simp
 | n+1,l,h=>by
  unfold PM.sph at h
  obtain ⟨m,e1,e2⟩:=Option.bind_eq_some_iff.mp h
  have:=sph_len hp n m e1
  have:=nextS_len hp m l e2
  rw [Nat.pow_succ];omega
theorem sph_none {p:Int} {b:PM.Ball} (n:Nat) (h:PM.sph p b n=none):∀ d:Nat,PM.sph p b (n+d)=none
 | 0=>h
 | d+1=>by show (PM.sph p b (n+d)).bind _=none;rw [sph_none n h d];rfl
def sphR (p:Int) (b:PM.Ball) (r:Nat):List S28 × Int:=match PM.sph p b r with
 | none=>([],3)
 | some l=>(l.map enB,0)
theorem sphere_l0 {p:Int} {b:PM.Ball} (hp:Pr p) (hb:PM.Ok p b) (r:Nat) (hr:r≤4):∀ (d n:Nat) (l:List PM.Ball),n+d=r→PM.sph p b n=some l→∀ k,13841287600+1000000*d+1≤k→spec_SphereAround.l0 k p (r:Int) (l.map enB) ((n:Int)+1) b.lv b.top b.dn=some (sphR p b r):=by
 intro d
 induction d with
 | zero=>
  intro n l hn hl k hk
  obtain ⟨k,rfl⟩:∃ m,k=m+1:=⟨k - 1,by omega⟩
  simp only [spec_SphereAround.l0]
  rw [if_neg (by omega)]
  obtain rfl:n=r:=by omega
  unfold sphR;rw [hl]
 | succ d ih=>
  intro n l hn hl k hk
  obtain ⟨k,rfl⟩:∃ m,k=m+1:=⟨k - 1,by omega⟩
  have hlen:l.length≤4096:=Nat.le_trans (sph_len hp n l hl) (Nat.le_trans (Nat.pow_le_pow_right (by decide) (show n≤4 by omega)) (by decide))
  simp only [spec_SphereAround.l0]
  rw [if_pos (by omega)]
  obtain ⟨B,hB⟩:∃ B:Nat,B=13841287600+1000000*d+1:=⟨_,rfl⟩
  have hB2:13841287600≤B:=by
   clear ih hk
   rw [hB,Nat.add_assoc];exact Nat.le_add_right _ _
  have:=sphere_l1 (r:=(r:Int)) (n:=(n:Int)) hp hb (by omega) (sphR p b r) B hB2 l [] [] (fun y hy=>(PM.sph_mem hp hb n l hl y hy).1) (by simp;omega) (by simp;omega) (fun l' h' k hk=>by
   rw [w64 (n:=(n:Int)+1+1) (by omega) (by omega),List.nil_append]
   exact ih (n+1) l' (by omega) (by show (PM.sph p b n).bind _=_;rw [hl];exact h') k (by omega)) (fun h'=>by
   have e:PM.sph p b (n+1)=none:=by show (PM.sph p b n).bind _=_;rw [hl];exact h'
   have:=sph_none (n+1) e d
   rw [show n+1+d=r by omega] at this
   unfold sphR;rw [this]) k (by omega)
  simpa using this
theorem sphereAround_eq {p:Int} {b:PM.Ball} (hp:Pr p) (hb:PM.Ok p b) (r:Nat) (hr:r≤4):∃ K,∀ k,K≤k→spec_SphereAround.f k p b.lv b.top b.dn (r:Int)=some (sphR p b r):=by
 obtain ⟨K,h⟩:=l01Code_eq p [enB b] (by simp)
 refine ⟨K+13841287600+1000000*r+10,fun k hk=>?_⟩
 obtain ⟨k,rfl⟩:∃ m,k=m+1:=⟨k - 1,by omega⟩
 obtain ⟨k,rfl⟩:∃ m,k=m+1:=⟨k - 1,by omega⟩
 have e:[enB b].all (bOk p)=true:=by
  simp only [List.all_cons,List.all_nil,Bool.and_true,bOk,decide_eq_true_iff];exact hb
 unfold spec_SphereAround.f
 show ((spec_l01Code.f (k+1+1) p [enB b]).bind _)=_
 rw [h _ (by omega),if_pos ⟨hp,e⟩]
 simp only [Option.bind_some]
 rw [if_pos trivial,in_eq,decide_eq_true (show (0:Int)≤(r:Int)∧(r:Int)≤4 by omega)]
 simp only [Option.bind_some,spec_SphereAround.j0,spec_SphereAround.j1]
 rw [if_neg (by simp),if_pos trivial]
 exact sphere_l0 hp hb r hr r 0 [b] (by omega) rfl k (by omega)

theorem someNeighbours_go {p:Int} {b:PM.Ball} (hp:Pr p) (hb:PM.Ok p b):∀ (c:Nat) (i:Int) (acc:List S28) (k:Nat),0≤i→i+c=p+1→acc.length+c≤1000→75+c≤k→impl_someNeighbours.l0 k p acc i b.lv b.top b.dn=some (match PM.someN p b c i with|none=>([],false)|some l=>(acc ++ l.map enB,true)):=by
 have hpl:=hp.le
 intro c
 induction c with
 | zero=>
  intro i acc k h0 h1 h2 hk
  obtain ⟨k,rfl⟩:∃ m,k=m+1:=⟨k - 1,by omega⟩
  simp only [impl_someNeighbours.l0]
  rw [if_neg (by omega)]
  simp [PM.someN]
 | succ c ih=>
  intro i acc k h0 h1 h2 hk
  obtain ⟨k,rfl⟩:∃ m,k=m+1:=⟨k - 1,by omega⟩
  simp only [impl_someNeighbours.l0]
  rw [if_pos (by omega),neighbour_eq hp hb (by omega) k (by omega),show nb p ⟨b.lv,b.top,b.dn⟩ i=PM.nbr p b i from rfl,PM.someN]
  simp only [Option.bind_some]
  cases hy:PM.nbr p b i with
  | none=>rw [if_neg (by simp [enc])];rfl
  | some y=>
   rw [if_pos (by simp [enc]),if_pos (by omega),w64 (n:=i+1) (by omega) (by omega),ih (i+1) _ k (by omega) (by omega) (by simp;omega) (by omega)]
   simp only [Option.bind_some]
   cases PM.someN p b c (i+1) with
   | none=>rfl
   | some l=>simp [enB,enc]
theorem someNeighbours_eq {p:Int} {b:PM.Ball} (hp:Pr p) (hb:PM.Ok p b):∀ k,200≤k→impl_someNeighbours.f k p b.lv b.top b.dn 0=some (match PM.nbrs p b with|none=>([],false)|some l=>(l.map enB,true)):=by
 intro k hk
 have hpl:=hp.le
 have hpp:=hp.pos
 have:=someNeighbours_go hp hb (p.toNat+1) 0 [] k (by omega) (by omega) (by simp;omega) (by omega)
 unfold impl_someNeighbours.f
 rw [this];rfl

def outs (p:Int) (b:PM.Ball) (n:Nat):List (List S28):=(List.range (n+1)).map fun i=>(sphR p b i).1
theorem outs_len (p:Int) (b:PM.Ball) (n:Nat):(outs p b n).length=n+1:=by simp [outs]
theorem outs_succ (p:Int) (b:PM.Ball) (n:Nat):outs p b (n+1)=outs p b n ++ [(sphR p b (n+1)).1]:=by
 unfold outs;rw [List.range_succ (n:=n+1),List.map_append];rfl
theorem outs_get (p:Int) (b:PM.Ball) (n i:Nat) (h:i≤n):rd_L5 (outs p b n) (i:Int)=(sphR p b i).1:=by
 unfold rd_L5 outs
 rw [Int.toNat_natCast,List.getD_eq_getElem?_getD,List.getElem?_map,List.getElem?_range (by omega)];rfl
theorem isph_l2 {p r n:Int} {b:PM.Ball} (hp:Pr p) (hb:PM.Ok p b) (X:List (List S28)) (cur:List S28) (cl i:Int) (R:List (List S28) × Bool) (K:Nat):∀ (suf pre:List PM.Ball) (acc:List S28),(∀ y,y ∈ suf→PM.Ok p y∧(PM.dist p b y>n↔PM.dist p b y=n+1))→pre.length+suf.length≤1000→acc.length+suf.length≤1000000→(∀ k,K≤k→impl_spheres.l1 k p X n (acc ++ (suf.filter (fun y=>decide (PM.dist p b y=n+1))).map enB) r n cur cl (wrap64 (i+1)) b.lv b.top b.dn=some R)→∀ k,K+suf.length+101≤k→impl_spheres.l2 k p X n acc r n cur cl i ((pre ++ suf).map enB) (((pre ++ suf).map enB).length:Int) ((pre.length:Nat):Int) b.lv b.top b.dn=some R:=by
 intro suf
 induction suf with
 | nil=>
  intro pre acc ho h1 h2 H k hk
  obtain ⟨k,rfl⟩:∃ m,k=m+1:=⟨k - 1,by omega⟩
  simp only [impl_spheres.l2]
  rw [if_neg (by simp)]
  have:=H k (by omega)
  simpa using this
 | cons y suf ih=>
  intro pre acc ho h1 h2 H k hk
  simp only [List.length_cons] at h1 h2 hk
  obtain ⟨k,rfl⟩:∃ m,k=m+1:=⟨k - 1,by omega⟩
  obtain ⟨oy,hy⟩:=ho y List.mem_cons_self
  simp only [impl_spheres.l2]
  rw [if_pos (by simp;omega),if_pos (by omega),if_pos (by simp;omega),rdBn suf pre y,w64 (n:=(pre.length:Int)+1) (by omega) (by omega)]
  show ((impl_distance.f k p b.lv b.top b.dn y.lv y.top y.dn).bind _)=_
  rw [distance_eq hp hb oy k (by omega)]
  simp only [Option.bind_some]
  have e1:(pre ++ y :: suf)=((pre ++ [y]) ++ suf):=by simp
  have e2:(pre.length:Int)+1=(((pre ++ [y]).length:Nat):Int):=by simp
  show (if PM.dist p b y>n then _ else _)=_
  by_cases q:PM.dist p b y>n
  ·
   have q2:=hy.mp q
   rw [if_pos q,if_pos (by omega),e1,e2]
   refine ih (pre ++ [y]) _ (fun z hz=>ho z (List.mem_cons_of_mem _ hz)) (by simp;omega) (by simp;omega) (fun k hk=>?_) k (by omega)
   have:=H k hk
   rw [List.filter_cons_of_pos (by simpa using q2)] at this
   simpa [enB,List.append_assoc] using this
  ·
   have q2:¬ PM.dist p b y=n+1:=fun z=>q (hy.mpr z)
   rw [if_neg q,e1,e2]
   refine ih (pre ++ [y]) _ (fun z hz=>ho z (List.mem_cons_of_mem _ hz)) (by simp;omega) (by omega) (fun k hk=>?_) k (by omega)
   have:=H k hk
   rwa [List.filter_cons_of_neg (by simpa using q2)] at this
theorem isph_l1 {p r n:Int} {b:PM.Ball} (hp:Pr p) (hb:PM.Ok p b) (hn:0≤n∧n≤10) (X:List (List S28)) (hX:X.length≤1000) (R:List (List S28) × Bool) (K:Nat) (hK:200≤K):∀ (suf pre:List PM.Ball) (acc:List S28),(∀ y,y ∈ suf→PM.Ok p y∧PM.dist p b y=n)→pre.length+suf.length≤100000→acc.length+8*suf.length≤900000→(∀ l,PM.nextS p b n suf=some l→∀ k,K≤k→impl_spheres.l0 k p (X ++ [acc ++ l.map enB]) r (wrap64 (n+1)) b.lv b.top b.dn=some R)→(PM.nextS p b n suf=none→R=([],false))→∀ k,K+200*suf.length+1≤k→impl_spheres.l1 k p X n acc r n ((pre ++ suf).map enB) (((pre ++ suf).map enB).length:Int) ((pre.length:Nat):Int) b.lv b.top b.dn=some R:=by
 have hpl:=hp.le
 have hpp:=hp.pos
 intro suf
 induction suf with
 | nil=>
  intro pre acc ho h1 h2 H Hn k hk
  obtain ⟨k,rfl⟩:∃ m,k=m+1:=⟨k - 1,by omega⟩
  simp only [impl_spheres.l1]
  rw [if_neg (by simp),if_pos (by omega)]
  have:=H [] rfl k (by omega)
  simpa using this
 | cons x suf ih=>
  intro pre acc ho h1 h2 H Hn k hk
  simp only [List.length_cons] at h1 h2 hk
  obtain ⟨k,rfl⟩:∃ m,k=m+1:=⟨k - 1,by omega⟩
  obtain ⟨ox,dx⟩:=ho x List.mem_cons_self
  simp only [impl_spheres.l1]
  rw [if_pos (by simp;omega),if_pos (by omega),if_pos (by simp;omega),rdBn suf pre x]
  show ((impl_someNeighbours.f k p x.lv x.top x.dn 0).bind _)=_
  rw [someNeighbours_eq hp ox k (by omega)]
  simp only [Option.bind_some]
  cases hm:PM.nbrs p x with
  | none=>
   simp only
   rw [if_neg (by simp),Hn (by unfold PM.nextS;rw [hm];rfl)]
  | some m=>
   simp only
   rw [if_pos trivial]
   have ml:=PM.someN_len _ _ _ hm
   have e1:(pre ++ x :: suf)=((pre ++ [x]) ++ suf):=by simp
   have flen:(m.filter (fun y=>decide (PM.dist p b y=n+1))).length≤m.length:=List.length_filter_le ..
   refine isph_l2 hp hb X _ _ (pre.length:Int) R (K+200*suf.length+1) m [] acc (fun y hy=>by
    obtain ⟨j,_,_,j3⟩:=PM.someN_mem _ _ _ hm y hy
    exact ⟨PM.nbr_ok hp j3,PM.beyond hp hb ox dx j3⟩) (by simp;omega) (by omega) (fun k hk=>?_) k (by omega)
   rw [w64 (n:=(pre.length:Int)+1) (by omega) (by omega),e1,show (pre.length:Int)+1=(((pre ++ [x]).length:Nat):Int) by simp]
   refine ih (pre ++ [x]) _ (fun z hz=>ho z (List.mem_cons_of_mem _ hz)) (by simp;omega) (by simp;omega) (fun l hl k hk=>?_) (fun h=>?_) k (by omega)
   ·
    have:=H _ (show PM.nextS p b n (x :: suf)=some (m.filter (fun y=>decide (PM.dist p b y=n+1)) ++ l) by unfold PM.nextS;rw [hm,Option.bind_some,hl];rfl) k hk
    simpa [List.append_assoc] using this
   ·
    exact Hn (by unfold PM.nextS;rw [hm,Option.bind_some,h];rfl)
def sphsR (p:Int) (b:PM.Ball) (r:Nat):List (List S28) × Bool:=match PM.sph p b r with
 | none=>([],false)
 | some _=>(outs p b r,true)
theorem isph_l0 {p:Int} {b:PM.Ball} (hp:Pr p) (hb:PM.Ok p b) (r:Nat) (hr:r≤4):∀ (d n:Nat) (l:List PM.Ball),n+d=r→PM.sph p b n=some l→∀ k,1000+1000000*d+1≤k→impl_spheres.l0 k p (outs p b n) (r:Int) (n:Int) b.lv b.top b.dn=some (sphsR p b r):=by
 intro d
 induction d with
 | zero=>
  intro n l hn hl k hk
  obtain ⟨k,rfl⟩:∃ m,k=m+1:=⟨k - 1,by omega⟩
  simp only [impl_spheres.l0]
  rw [if_neg (by omega)]
  obtain rfl:n=r:=by omega
  unfold sphsR;rw [hl]
 | succ d ih=>
  intro n l hn hl k hk
  obtain ⟨k,rfl⟩:∃ m,k=m+1:=⟨k - 1,by omega⟩
  have hlen:l.length≤4096:=Nat.le_trans (sph_len hp n l hl) (Nat.le_trans (Nat.pow_le_pow_right (by decide) (show n≤4 by omega)) (by decide))
  have hg:rd_L5 (outs p b n) (n:Int)=l.map enB:=by
   rw [outs_get p b n n (Nat.le_refl _)];unfold sphR;rw [hl]
  simp only [impl_spheres.l0]
  rw [if_pos (by omega),if_pos (by omega),if_pos (by rw [outs_len];omega),hg]
  obtain ⟨B,hB⟩:∃ B:Nat,B=1000+1000000*d+1:=⟨_,rfl⟩
  have hB2:200≤B:=by
   clear ih hk
   omega
  have:=isph_l1 (r:=(r:Int)) (n:=(n:Int)) hp hb (by omega) (outs p b n) (by rw [outs_len];omega) (sphsR p b r) B hB2 l [] [] (fun y hy=>by
   obtain ⟨o,e⟩:=PM.sph_mem hp hb n l hl y hy
   exact ⟨o,e⟩) (by simp;omega) (by simp;omega) (fun l' h' k hk=>by
   have hs:PM.sph p b (n+1)=some l':=by show (PM.sph p b n).bind _=_;rw [hl];exact h'
   rw [w64 (n:=(n:Int)+1) (by omega) (by omega),List.nil_append]
   have e:outs p b n ++ [l'.map enB]=outs p b (n+1):=by rw [outs_succ];unfold sphR;rw [hs]
   rw [e,show (n:Int)+1=((n+1:Nat):Int) by omega]
   exact ih (n+1) l' (by omega) hs k (by omega)) (fun h'=>by
   have e:PM.sph p b (n+1)=none:=by show (PM.sph p b n).bind _=_;rw [hl];exact h'
   have:=sph_none (n+1) e d
   rw [show n+1+d=r by omega] at this
   unfold sphsR;rw [this]) k (by omega)
  simpa using this
theorem spheres_eq {p:Int} {b:PM.Ball} (hp:Pr p) (hb:PM.Ok p b) (r:Nat) (hr:r≤4):∀ k,5000000≤k→impl_spheres.f k p b.lv b.top b.dn (r:Int)=some (sphsR p b r):=by
 intro k hk
 unfold impl_spheres.f
 exact isph_l0 hp hb r hr r 0 [b] (by omega) rfl k (by omega)
def nearF (p a b c d e:Int):List PM.Ball→Option (List PM.Ball)
 | []=>some []
 | x :: l=>(PM.moveB p a b c d x).bind fun y=>(nearF p a b c d e l).map fun r=>if PM.dist p x y=e then x :: r else r
theorem nearF_len (p a b c d e:Int):∀ (l r:List PM.Ball),nearF p a b c d e l=some r→r.length≤l.length
 | [],r,h=>by obtain rfl:=Option.some.inj h;simp
 | x :: l,r,h=>by
  unfold nearF at h
  obtain ⟨y,_,h2⟩:=Option.bind_eq_some_iff.mp h
  obtain ⟨s,h3,rfl⟩:=Option.map_eq_some_iff.mp h2
  have:=nearF_len p a b c d e l s h3
  split <;> simp <;> omega
def nearG (p a b c d e:Int) (o:PM.Ball):Nat→Nat→Option (List PM.Ball)
 | 0,n=>(PM.sph p o n).bind (nearF p a b c d e)
 | q+1,n=>((PM.sph p o n).bind (nearF p a b c d e)).bind fun l=>(nearG p a b c d e o q (n+1)).map fun r=>l ++ r
def nearR (acc:List S28):Option (List PM.Ball)→List S28 × Int
 | none=>([],3)
 | some l=>(acc ++ l.map enB,0)
theorem near_spec1 {p a b c d e r n:Int} {o:PM.Ball} (hp:Pr p) (hm:PM.isM a b c d) (R:List S28 × Int) (K:Nat) (hn:0≤n∧n≤10):∀ (suf pre:List PM.Ball) (acc:List S28),(∀ y,y ∈ suf→PM.Ok p y)→pre.length+suf.length≤100000→acc.length+suf.length≤1000000→(∀ l,nearF p a b c d e suf=some l→∀ k,K≤k→spec_l04Near.l0 k p r e (acc ++ l.map enB) (n+1) a b c d o.lv o.top o.dn=some R)→(nearF p a b c d e suf=none→R=([],3))→∀ k,K+13841287400+suf.length+1≤k→spec_l04Near.l1 k p r e acc n ((pre ++ suf).map enB) ((pre.length:Nat):Int) a b c d o.lv o.top o.dn=some R:=by
 intro suf
 induction suf with
 | nil=>
  intro pre acc ho h1 h2 H Hn k hk
  obtain ⟨k,rfl⟩:∃ m,k=m+1:=⟨k - 1,by omega⟩
  simp only [spec_l04Near.l1]
  rw [if_neg (by simp),w64 (n:=n+1) (by omega) (by omega)]
  have:=H [] rfl k (by omega)
  simpa using this
 | cons x suf ih=>
  intro pre acc ho h1 h2 H Hn k hk
  simp only [List.length_cons] at h1 h2 hk
  obtain ⟨k,rfl⟩:∃ m,k=m+1:=⟨k - 1,by omega⟩
  have ox:=ho x List.mem_cons_self
  simp only [spec_l04Near.l1]
  rw [if_pos (by simp;omega),if_pos (by omega),rdBn suf pre x,w64 (n:=(pre.length:Int)+1) (by omega) (by omega)]
  show ((spec_l04Move.f k p a b c d x.lv x.top x.dn).bind _)=_
  rw [l04Move_eq hp hm ox k (by omega)]
  simp only [Option.bind_some]
  have e1:(pre ++ x :: suf)=((pre ++ [x]) ++ suf):=by simp
  have e2:(pre.length:Int)+1=(((pre ++ [x]).length:Nat):Int):=by simp
  have ex:(⟨x.lv,x.top,x.dn⟩:PM.Ball)=x:=rfl
  rw [ex]
  cases hy:PM.moveB p a b c d x with
  | none=>
   rw [if_neg (by simp [enc]),Hn (by unfold nearF;rw [hy];rfl)]
  | some y=>
   have oy:=PM.moveB_ok hp hm.2 hy
   rw [if_pos (by simp [enc])]
   show ((spec_l02Distance.f k p x.lv x.top x.dn y.lv y.top y.dn).bind _)=_
   rw [l02Distance_eq (l1:=x.lv) (t1:=x.top) (d1:=x.dn) (l2:=y.lv) (t2:=y.top) (d2:=y.dn) hp ox oy k (by omega)]
   simp only [Option.bind_some]
   have hf:∀ l,nearF p a b c d e suf=some l→nearF p a b c d e (x :: suf)=some (if PM.dist p x y=e then x :: l else l):=fun l h=>by
    unfold nearF;rw [hy,Option.bind_some,h];rfl
   have hf0:nearF p a b c d e suf=none→nearF p a b c d e (x :: suf)=none:=fun h=>by
    unfold nearF;rw [hy,Option.bind_some,h];rfl
   show (if PM.dist p x y=e then _ else _)=_
   by_cases g:PM.dist p x y=e
   ·
    rw [if_pos g,if_pos (by omega),e1,e2]
    refine ih (pre ++ [x]) _ (fun z hz=>ho z (List.mem_cons_of_mem _ hz)) (by simp;omega) (by simp;omega) (fun l hl k hk=>?_) (fun h=>Hn (hf0 h)) k (by omega)
    have:=H _ (hf l hl) k hk
    rw [if_pos g] at this
    simpa [enB,List.append_assoc] using this
   ·
    rw [if_neg g,e1,e2]
    refine ih (pre ++ [x]) _ (fun z hz=>ho z (List.mem_cons_of_mem _ hz)) (by simp;omega) (by omega) (fun l hl k hk=>?_) (fun h=>Hn (hf0 h)) k (by omega)
    have:=H _ (hf l hl) k hk
    rwa [if_neg g] at this
theorem sph4 {p:Int} {o:PM.Ball} (hp:Pr p) (ho:PM.Ok p o) {n:Nat} {l:List PM.Ball} (hn:n≤4) (h:PM.sph p o n=some l):(∀ x,x ∈ l→PM.Ok p x)∧l.length≤4096:=
 ⟨fun x hx=>(PM.sph_mem hp ho _ l h x hx).1,Nat.le_trans (sph_len hp _ l h) (Nat.le_trans (Nat.pow_le_pow_right (by decide) hn) (by decide))⟩
theorem near_spec0 {p a b c d e:Int} {o:PM.Ball} (hp:Pr p) (hm:PM.isM a b c d) (hb:PM.Ok p o) (r:Nat) (hr:r≤4):∀ (q n:Nat) (acc:List S28),n+q=r→(acc.length:Int)+5000*((q:Int)+1)≤900000→∃ K,∀ k,K≤k→spec_l04Near.l0 k p (r:Int) e acc (n:Int) a b c d o.lv o.top o.dn=some (nearR acc (nearG p a b c d e o q n)):=by
 intro q
 induction q with
 | zero=>
  intro n acc hn hl
  obtain ⟨K,hK⟩:=sphereAround_eq hp hb n (by omega)
  refine ⟨K+13841400000,fun k hk=>?_⟩
  obtain ⟨k,rfl⟩:∃ m,k=m+1:=⟨k - 1,by omega⟩
  simp only [spec_l04Near.l0]
  rw [if_pos (by omega),hK k (by omega)]
  simp only [Option.bind_some]
  unfold sphR nearG
  cases e1:PM.sph p o n with
  | none=>rw [if_neg (by simp)];rfl
  | some l=>
   obtain ⟨lo,ll⟩:=sph4 hp hb (by omega) e1
   rw [if_pos rfl,Option.bind_some]
   have:=near_spec1 (r:=(r:Int)) (n:=(n:Int)) (o:=o) hp hm (nearR acc (nearF p a b c d e l)) 1 (by omega) l [] acc lo (by simp;omega) (by omega) (fun l' h' k hk=>by
    obtain ⟨k,rfl⟩:∃ m,k=m+1:=⟨k - 1,by omega⟩
    simp only [spec_l04Near.l0]
    rw [if_neg (by omega),h'];rfl) (fun h'=>by rw [h'];rfl) k (by omega)
   simpa using this
 | succ q ih=>
  intro n acc hn hl
  obtain ⟨K,hK⟩:=sphereAround_eq hp hb n (by omega)
  unfold nearG
  cases e1:PM.sph p o n with
  | none=>
   refine ⟨K+1,fun k hk=>?_⟩
   obtain ⟨k,rfl⟩:∃ m,k=m+1:=⟨k - 1,by omega⟩
   simp only [spec_l04Near.l0]
   rw [if_pos (by omega),hK k (by omega)]
   simp only [Option.bind_some]
   unfold sphR;rw [e1];simp only
   rw [if_neg (by simp)];rfl
  | some l=>
   obtain ⟨lo,ll⟩:=sph4 hp hb (by omega) e1
   cases e2:nearF p a b c d e l with
   | none=>
    refine ⟨K+13841400000,fun k hk=>?_⟩
    obtain ⟨k,rfl⟩:∃ m,k=m+1:=⟨k - 1,by omega⟩
    simp only [spec_l04Near.l0]
    rw [if_pos (by omega),hK k (by omega)]
    simp only [Option.bind_some]
    unfold sphR;rw [e1];simp only
    rw [if_pos trivial]
    have:=near_spec1 (r:=(r:Int)) (n:=(n:Int)) (o:=o) (e:=e) hp hm ([],3) 1 (by omega) l [] acc lo (by simp;omega) (by omega) (fun l' h' k hk=>by rw [e2] at h';cases h') (fun _=>rfl) k (by omega)
    simpa [nearR,e2] using this
   | some l1=>
    have hl1:=nearF_len p a b c d e l l1 e2
    obtain ⟨K2,hK2⟩:=ih (n+1) (acc ++ l1.map enB) (by omega) (by simp;omega)
    refine ⟨K+K2+13841400000,fun k hk=>?_⟩
    obtain ⟨k,rfl⟩:∃ m,k=m+1:=⟨k - 1,by omega⟩
    simp only [spec_l04Near.l0]
    rw [if_pos (by omega),hK k (by omega)]
    simp only [Option.bind_some]
    unfold sphR;rw [e1];simp only
    rw [if_pos trivial]
    have:=near_spec1 (r:=(r:Int)) (n:=(n:Int)) (o:=o) (e:=e) hp hm (nearR (acc ++ l1.map enB) (nearG p a b c d e o q (n+1))) K2 (by omega) l [] acc lo (by simp;omega) (by omega) (fun l' h' k hk=>by
     rw [e2] at h'
     obtain rfl:=Option.some.inj h'
     rw [show (n:Int)+1=((n+1:Nat):Int) by omega]
     exact hK2 k hk) (fun h'=>by rw [e2] at h';cases h') k (by omega)
    rw [List.nil_append] at this
    rw [show spec_l04Near.l1 k p (r:Int) e acc (n:Int) (l.map enB) 0 a b c d o.lv o.top o.dn=_ from this,e2,Option.bind_some]
    cases nearG p a b c d e o q (n+1) with
    | none=>rfl
    | some m=>simp [nearR]
theorem near_impl1 {p a b c d e i:Int} (hp:Pr p) (hm:PM.isM a b c d) (X:List (List S28)) (xl:Int) (R:List S28 × Int) (K:Nat) (hi:0≤i∧i≤10):∀ (suf pre:List PM.Ball) (acc:List S28),(∀ y,y ∈ suf→PM.Ok p y)→pre.length+suf.length≤100000→acc.length+suf.length≤1000000→(∀ l,nearF p a b c d e suf=some l→∀ k,K≤k→impl_nearBalls.l0 k p e (acc ++ l.map enB) X xl (i+1) a b c d=some R)→(nearF p a b c d e suf=none→R=([],3))→∀ k,K+13841287400+suf.length+1≤k→impl_nearBalls.l1 k p e acc X xl i ((pre ++ suf).map enB) (((pre ++ suf).map enB).length:Int) ((pre.length:Nat):Int) a b c d=some R:=by
 intro suf
 induction suf with
 | nil=>
  intro pre acc ho h1 h2 H Hn k hk
  obtain ⟨k,rfl⟩:∃ m,k=m+1:=⟨k - 1,by omega⟩
  simp only [impl_nearBalls.l1]
  rw [if_neg (by simp),w64 (n:=i+1) (by omega) (by omega)]
  have:=H [] rfl k (by omega)
  simpa using this
 | cons x suf ih=>
  intro pre acc ho h1 h2 H Hn k hk
  simp only [List.length_cons] at h1 h2 hk
  obtain ⟨k,rfl⟩:∃ m,k=m+1:=⟨k - 1,by omega⟩
  have ox:=ho x List.mem_cons_self
  simp only [impl_nearBalls.l1]
  rw [if_pos (by simp;omega),if_pos (by omega),if_pos (by simp;omega),rdBn suf pre x,w64 (n:=(pre.length:Int)+1) (by omega) (by omega)]
  show ((impl_moveBall.f k p a b c d x.lv x.top x.dn).bind _)=_
  rw [moveBall_eq hp hm ox k (by omega)]
  simp only [Option.bind_some]
  have e1:(pre ++ x :: suf)=((pre ++ [x]) ++ suf):=by simp
  have e2:(pre.length:Int)+1=(((pre ++ [x]).length:Nat):Int):=by simp
  have ex:(⟨x.lv,x.top,x.dn⟩:PM.Ball)=x:=rfl
  rw [ex]
  cases hy:PM.moveB p a b c d x with
  | none=>
   rw [if_neg (by simp [enc]),Hn (by unfold nearF;rw [hy];rfl)]
  | some y=>
   have oy:=PM.moveB_ok hp hm.2 hy
   rw [if_pos (by simp [enc])]
   show ((impl_distance.f k p x.lv x.top x.dn y.lv y.top y.dn).bind _)=_
   rw [distance_eq (l1:=x.lv) (t1:=x.top) (d1:=x.dn) (l2:=y.lv) (t2:=y.top) (d2:=y.dn) hp ox oy k (by omega)]
   simp only [Option.bind_some]
   have hf:∀ l,nearF p a b c d e suf=some l→nearF p a b c d e (x :: suf)=some (if PM.dist p x y=e then x :: l else l):=fun l h=>by
    unfold nearF;rw [hy,Option.bind_some,h];rfl
   have hf0:nearF p a b c d e suf=none→nearF p a b c d e (x :: suf)=none:=fun h=>by
    unfold nearF;rw [hy,Option.bind_some,h];rfl
   show (if PM.dist p x y=e then _ else _)=_
   by_cases g:PM.dist p x y=e
   ·
    rw [if_pos g,if_pos (by omega),e1,e2]
    refine ih (pre ++ [x]) _ (fun z hz=>ho z (List.mem_cons_of_mem _ hz)) (by simp;omega) (by simp;omega) (fun l hl k hk=>?_) (fun h=>Hn (hf0 h)) k (by omega)
    have:=H _ (hf l hl) k hk
    rw [if_pos g] at this
    simpa [enB,List.append_assoc] using this
   ·
    rw [if_neg g,e1,e2]
    refine ih (pre ++ [x]) _ (fun z hz=>ho z (List.mem_cons_of_mem _ hz)) (by simp;omega) (by omega) (fun l hl k hk=>?_) (fun h=>Hn (hf0 h)) k (by omega)
    have:=H _ (hf l hl) k hk
    rwa [if_neg g] at this
theorem sph_le {p:Int} {o:PM.Ball} {r n:Nat} {l:List PM.Ball} (h:PM.sph p o r=some l) (hn:n≤r):∃ m,PM.sph p o n=some m:=by
 cases e:PM.sph p o n with
 | some m=>exact ⟨m,rfl⟩
 | none=>
  have:=sph_none n e (r - n)
  rw [show n+(r - n)=r by omega,h] at this;cases this
theorem near_impl0 {p a b c d e:Int} {o:PM.Ball} (hp:Pr p) (hm:PM.isM a b c d) (hb:PM.Ok p o) (r:Nat) (hr:r≤4) {lr:List PM.Ball} (hs:PM.sph p o r=some lr):∀ (q n:Nat) (acc:List S28),n+q=r→(acc.length:Int)+5000*((q:Int)+1)≤900000→∀ k,13841400000*(q+1)≤k→impl_nearBalls.l0 k p e acc (outs p o r) ((outs p o r).length:Int) (n:Int) a b c d=some (nearR acc (nearG p a b c d e o q n)):=by
 intro q
 induction q with
 | zero=>
  intro n acc hn hl k hk
  obtain ⟨k,rfl⟩:∃ m,k=m+1:=⟨k - 1,by omega⟩
  obtain ⟨l,e1⟩:=sph_le hs (show n≤r by omega)
  obtain ⟨lo,ll⟩:=sph4 hp hb (by omega) e1
  have hg:rd_L5 (outs p o r) (n:Int)=l.map enB:=by
   rw [outs_get p o r n (by omega)];unfold sphR;rw [e1]
  simp only [impl_nearBalls.l0]
  rw [if_pos (by rw [outs_len];omega),if_pos (by omega),if_pos (by rw [outs_len];omega),hg]
  unfold nearG
  rw [e1,Option.bind_some]
  have:=near_impl1 (i:=(n:Int)) (e:=e) hp hm (outs p o r) ((outs p o r).length:Int) (nearR acc (nearF p a b c d e l)) 1 (by omega) l [] acc lo (by simp;omega) (by omega) (fun l' h' k hk=>by
   obtain ⟨k,rfl⟩:∃ m,k=m+1:=⟨k - 1,by omega⟩
   simp only [impl_nearBalls.l0]
   rw [if_neg (by rw [outs_len];omega),h'];rfl) (fun h'=>by rw [h'];rfl) k (by omega)
  simpa using this
 | succ q ih=>
  intro n acc hn hl k hk
  obtain ⟨k,rfl⟩:∃ m,k=m+1:=⟨k - 1,by omega⟩
  obtain ⟨B,hB⟩:∃ B:Nat,B=13841400000*(q+1):=⟨_,rfl⟩
  have hkB:B+13841400000≤k+1:=by rw [hB,← Nat.mul_succ];exact hk
  rw [← hB] at ih
  clear hk hB
  obtain ⟨l,e1⟩:=sph_le hs (show n≤r by omega)
  obtain ⟨lo,ll⟩:=sph4 hp hb (by omega) e1
  have hg:rd_L5 (outs p o r) (n:Int)=l.map enB:=by
   rw [outs_get p o r n (by omega)];unfold sphR;rw [e1]
  simp only [impl_nearBalls.l0]
  rw [if_pos (by rw [outs_len];omega),if_pos (by omega),if_pos (by rw [outs_len];omega),hg]
  unfold nearG
  rw [e1,Option.bind_some]
  cases e2:nearF p a b c d e l with
  | none=>
   have:=near_impl1 (i:=(n:Int)) (e:=e) hp hm (outs p o r) ((outs p o r).length:Int) ([],3) 1 (by omega) l [] acc lo (by simp;omega) (by omega) (fun l' h' k hk=>by rw [e2] at h';cases h') (fun _=>rfl) k (by omega)
   simpa [nearR] using this
  | some l1=>
   have hl1:=nearF_len p a b c d e l l1 e2
   have:=near_impl1 (i:=(n:Int)) (e:=e) hp hm (outs p o r) ((outs p o r).length:Int) (nearR (acc ++ l1.map enB) (nearG p a b c d e o q (n+1))) B (by omega) l [] acc lo (by simp;omega) (by omega) (fun l' h' k hk=>by
    rw [e2] at h'
    obtain rfl:=Option.some.inj h'
    rw [show (n:Int)+1=((n+1:Nat):Int) by omega]
    exact ih (n+1) _ (by omega) (by simp;omega) k hk) (fun h'=>by rw [e2] at h';cases h') k (by omega)
   rw [List.nil_append] at this
   rw [show impl_nearBalls.l1 k p e acc (outs p o r) ((outs p o r).length:Int) (n:Int) (l.map enB) ((l.map enB).length:Int) 0 a b c d=_ from this,Option.bind_some]
   cases nearG p a b c d e o q (n+1) with
   | none=>rfl
   | some m=>simp [nearR]
theorem nearG_none {p a b c d e:Int} {o:PM.Ball}:∀ (q n:Nat),PM.sph p o (n+q)=none→nearG p a b c d e o q n=none:=by
 intro q
 induction q with
 | zero=>intro n h;unfold nearG;rw [show n+0=n from rfl] at h;rw [h];rfl
 | succ q ih=>
  intro n h
  unfold nearG
  rw [ih (n+1) (by rw [show n+1+q=n+(q+1) by omega];exact h)]
  cases (PM.sph p o n).bind (nearF p a b c d e) <;> rfl
theorem nearG_len {p a b c d e:Int} {o:PM.Ball} (hp:Pr p) (hb:PM.Ok p o):∀ (q n:Nat) (l:List PM.Ball),n+q≤4→nearG p a b c d e o q n=some l→l.length≤4096*(q+1):=by
 intro q
 induction q with
 | zero=>
  intro n l hn h
  unfold nearG at h
  obtain ⟨m,h1,h2⟩:=Option.bind_eq_some_iff.mp h
  have:=(sph4 hp hb (by omega) h1).2
  have:=nearF_len _ _ _ _ _ _ m l h2
  omega
 | succ q ih=>
  intro n l hn h
  unfold nearG at h
  obtain ⟨m,h1,h2⟩:=Option.bind_eq_some_iff.mp h
  obtain ⟨s,h3,rfl⟩:=Option.map_eq_some_iff.mp h2
  obtain ⟨t,h4,h5⟩:=Option.bind_eq_some_iff.mp h1
  have:=(sph4 hp hb (by omega) h4).2
  have:=nearF_len _ _ _ _ _ _ t m h5
  have:=ih (n+1) s (by omega) h3
  rw [List.length_append];omega
theorem l04Near_eq {p a b c d e:Int} {o:PM.Ball} (hp:Pr p) (hm:PM.isM a b c d) (hb:PM.Ok p o) {r:Int} (hr:0≤r∧r≤3):∃ K,∀ k,K≤k→spec_l04Near.f k p a b c d o.lv o.top o.dn r e=some (nearR [] (nearG p a b c d e o r.toNat 0)):=by
 obtain ⟨K,h⟩:=near_spec0 (e:=e) hp hm hb r.toNat (by omega) r.toNat 0 [] (by omega) (by simp;omega)
 refine ⟨K,fun k hk=>?_⟩
 have:=h k hk
 rw [Int.toNat_of_nonneg hr.1] at this
 unfold spec_l04Near.f
 exact this
theorem nearBalls_eq {p a b c d e:Int} {o:PM.Ball} (hp:Pr p) (hm:PM.isM a b c d) (hb:PM.Ok p o) {r:Int} (hr:0≤r∧r≤3):∃ K,∀ k,K≤k→impl_nearBalls.f k p a b c d o.lv o.top o.dn r e=some (nearR [] (nearG p a b c d e o r.toNat 0)):=by
 refine ⟨13841400000*(r.toNat+1)+5000000,fun k hk=>?_⟩
 have hs:=spheres_eq hp hb r.toNat (by omega) k (by omega)
 rw [Int.toNat_of_nonneg hr.1] at hs
 unfold impl_nearBalls.f
 rw [hs]
 simp only [Option.bind_some]
 unfold sphsR
 cases e1:PM.sph p o r.toNat with
 | none=>simp only;rw [if_neg (by simp),nearG_none r.toNat 0 (by rw [Nat.zero_add];exact e1)];rfl
 | some l=>
  simp only
  rw [if_pos trivial]
  exact near_impl0 hp hm hb r.toNat (by omega) e1 r.toNat 0 [] (by omega) (by simp;omega) k (by omega)
theorem nearCode_eq (p a b c d lv top dn r:Int):∃ K,∀ k,K≤k→impl_nearCode.f k p a b c d lv top dn r=some (if (Pr p∧PM.Ok p ⟨lv,top,dn⟩)∧PM.isM a b c d then (if 0≤r∧r≤3 then 0 else 2) else 1):=by
 obtain ⟨K,h⟩:=IsMatrix_eq a b c d
 refine ⟨K+13841287402,fun k hk=>?_⟩
 obtain ⟨k,rfl⟩:∃ j,k=j+1:=⟨k - 1,by omega⟩
 unfold impl_nearCode.f
 rw [IsBall_eq p lv top dn _ (by omega)]
 simp only [Option.bind_some]
 by_cases q:Pr p∧PM.Ok p ⟨lv,top,dn⟩
 ·
  rw [decide_eq_true q,if_pos rfl,h _ (by omega)]
  simp only [Option.bind_some,impl_nearCode.j0]
  by_cases m:PM.isM a b c d
  ·
   rw [decide_eq_true m,if_neg (by simp),if_pos (show (Pr p∧PM.Ok p ⟨lv,top,dn⟩)∧PM.isM a b c d from ⟨q,m⟩)]
   by_cases g:0≤r∧r≤3
   ·
    rw [if_pos g,if_neg (by omega),if_neg (by omega)]
   ·
    rw [if_neg g]
    by_cases g2:r<0
    ·
     rw [if_pos g2]
    ·
     rw [if_neg g2,if_pos (by omega)]
  ·
   rw [decide_eq_false m,if_pos (by simp),if_neg (fun z=>m z.2)]
 ·
  rw [decide_eq_false q,if_neg (by simp),if_neg (fun z=>q z.1)]
  simp [impl_nearCode.j0]
theorem near_len {p a b c d e:Int} {o:PM.Ball} (hp:Pr p) (hb:PM.Ok p o) {r:Int} (hr:0≤r∧r≤3):(nearR [] (nearG p a b c d e o r.toNat 0)).1.length≤100000:=by
 cases h:nearG p a b c d e o r.toNat 0 with
 | none=>simp [nearR]
 | some l=>
  have:=nearG_len hp hb r.toNat 0 l (by omega) h
  simp [nearR];omega
def Byt (l:List Int):Prop:=∀ x,x ∈ l→0≤x∧x≤255
theorem rd_byte {l:List Int} (hb:Byt l) {i:Int} (h0:0≤i) (h1:i<(l.length:Int)):0≤rd l i∧rd l i≤255:=by
 obtain ⟨n,rfl⟩:=Int.eq_ofNat_of_zero_le h0
 have hn:n<l.length:=by omega
 have h2:=rd_nat l n hn
 rw [List.getElem?_eq_getElem hn] at h2
 rw [← Option.some.inj h2]
 exact hb _ (List.getElem_mem _)
theorem and_bd {x:Int} (h0:0≤x) (h1:x<18446744073709551616):0≤Go.bits .and .u64 x 17179869183∧Go.bits .and .u64 x 17179869183≤17179869183:=by
 obtain ⟨n,rfl⟩:=Int.eq_ofNat_of_zero_le h0
 have h:=Go.bits_and_u64_nat n 17179869183 (by omega) (by omega)
 have e:((17179869183:Nat):Int)=17179869183:=rfl
 rw [e] at h
 rw [h]
 have:=Nat.and_le_right (n:=n) (m:=17179869183)
 omega
theorem u64_bd (n:Int):0≤IntKind.u64.wrap n / 8388608∧IntKind.u64.wrap n / 8388608<18446744073709551616:=by
 rw [IntKind.wrap_u64];omega
theorem tmod_bd {x n:Int} (h0:0≤x) (h1:1≤n):0≤Int.tmod x n∧Int.tmod x n<n:=by
 rw [Int.tmod_eq_emod_of_nonneg h0]
 exact ⟨Int.emod_nonneg _ (by omega),Int.emod_lt_of_pos _ (by omega)⟩
theorem next_ok {l:List Int} (hb:Byt l) (hl:l.length≤4096) {t:Int} (h n:Int) (ht:0≤t):∃ r t' h',spec_l01Next.f l t h n=some (r,t',h')∧0≤t'∧(n<1→r=0)∧(1≤n→0≤r∧r<n):=by
 unfold spec_l01Next.f
 by_cases c:n<1
 ·
  rw [if_pos c];exact ⟨_,_,_,rfl,ht,fun _=>rfl,fun z=>by omega⟩
 ·
  rw [if_neg c]
  have hu:=u64_bd (IntKind.u64.wrap (h*6364136223846793005)+1442695040888963407)
  have ha:=and_bd hu.1 hu.2
  by_cases d:t<(l.length:Int)
  ·
   have hr:=rd_byte hb ht d
   rw [if_pos d,if_pos ht,if_neg (by omega)]
   refine ⟨_,_,_,rfl,by rw [w64 (n:=t+1) (by omega) (by omega)];omega,fun z=>by omega,fun z=>?_⟩
   refine tmod_bd ?_ z
   rw [w64 (n:=Go.bits .and .u64 _ 17179869183) (by omega) (by omega),w64 (n:=rd l t) (by omega) (by omega),w64 (by omega) (by omega)]
   omega
  ·
   rw [if_neg d,if_neg (by omega)]
   refine ⟨_,_,_,rfl,ht,fun z=>by omega,fun z=>?_⟩
   refine tmod_bd ?_ z
   rw [w64 (n:=Go.bits .and .u64 _ 17179869183) (by omega) (by omega)]
   omega
theorem from_ok (l:List Int) (hl:l.length≤4096):∃ h,∀ k,l.length+1≤k→spec_l01From.f k l=some (l,0,h):=by
 have go:∀ (d i:Nat) (x:Int),i+d=l.length→∃ h,∀ k,d+1≤k→spec_l01From.l0 k l (i:Int) l 0 x=some (l,0,h):=by
  intro d
  induction d with
  | zero=>
   intro i x hi
   refine ⟨x,fun k hk=>?_⟩
   obtain ⟨k,rfl⟩:∃ m,k=m+1:=⟨k - 1,by omega⟩
   simp only [spec_l01From.l0]
   rw [if_neg (by omega)]
  | succ d ih=>
   intro i x hi
   obtain ⟨h,e⟩:=ih (i+1) (IntKind.u64.wrap ((IntKind.u64.wrap ((IntKind.u64.wrap (x*1099511628211))+(IntKind.u64.wrap (rd l (i:Int)))))+71)) (by omega)
   refine ⟨h,fun k hk=>?_⟩
   obtain ⟨k,rfl⟩:∃ m,k=m+1:=⟨k - 1,by omega⟩
   simp only [spec_l01From.l0]
   rw [if_pos (by omega),if_pos (by omega),if_pos (by omega),w64 (n:=(i:Int)+1) (by omega) (by omega),show (i:Int)+1=((i+1:Nat):Int) by omega]
   exact e k (by omega)
 obtain ⟨h,e⟩:=go l.length 0 (IntKind.u64.wrap (12527+(IntKind.u64.wrap ((l.length:Int))))) (by omega)
 exact ⟨h,fun k hk=>e k (by omega)⟩

theorem rd_mem (q:List Int) {r:Int} (h0:0≤r) (h1:r<(q.length:Int)):rd q r ∈ q:=by
 obtain ⟨n,rfl⟩:=Int.eq_ofNat_of_zero_le h0
 have hn:n<q.length:=by omega
 have h2:=rd_nat q n hn
 rw [List.getElem?_eq_getElem hn] at h2
 rw [← Option.some.inj h2]
 exact List.getElem_mem _
theorem pick_in {l:List Int} (hb:Byt l) (hl:l.length≤4096) {t:Int} (h:Int) (ht:0≤t) (q:List Int) (hq:1≤q.length):∃ r t' h',spec_l01Pick.f l t h q=some (r,t',h')∧0≤t'∧r ∈ q:=by
 obtain ⟨r,t',h',e,ht',_,hr⟩:=next_ok hb hl h (q.length:Int) ht
 have:=hr (by omega)
 unfold spec_l01Pick.f
 rw [e]
 simp only [Option.bind_some]
 rw [if_pos (by omega),if_pos (by omega)]
 exact ⟨_,_,_,rfl,ht',rd_mem q this.1 this.2⟩
theorem prime_ok {l:List Int} (hb:Byt l) (hl:l.length≤4096) {t:Int} (h:Int) (ht:0≤t):∃ p t' h',spec_l01DrawPrime.f l t h=some (p,t',h')∧0≤t'∧Pr p:=by
 obtain ⟨r,t',h',e,ht',hr⟩:=pick_in hb hl h ht [2,2,3,3,5,7] (by simp)
 unfold spec_l01DrawPrime.f
 rw [e]
 refine ⟨r,t',h',rfl,ht',?_⟩
 simp at hr
 unfold Pr;omega

theorem draw_ok {l:List Int} (hb:Byt l) (hl:l.length≤4096) {t p:Int} (hp:Pr p) (h:Int) (ht:0≤t):∃ b1 b2 b3 t' h',(∀ k,13841287400≤k→spec_l01Draw.f k l t h p=some (b1,b2,b3,t',h'))∧0≤t':=by
 obtain ⟨r1,t1,h1,e1,ht1,_,_⟩:=next_ok hb hl h 13 ht
 obtain ⟨r2,t2,h2,e2,ht2,_⟩:=pick_in hb hl h1 ht1 [0,1,2,3,wrap64 (r1 - 6)] (by simp)
 obtain ⟨r3,t3,h3,e3,ht3,_,_⟩:=next_ok hb hl h2 6 ht2
 obtain ⟨r4,t4,h4,e4,ht4,_,c4⟩:=next_ok hb hl h3 20 ht3
 obtain ⟨r5,t5,h5,e5,ht5,_,c5⟩:=next_ok hb hl h4 2000000 ht4
 obtain ⟨r6,t6,h6,e6,ht6,c6⟩:=pick_in hb hl h5 ht5 [wrap64 (r4 - 10),wrap64 (r5 - 1000000)] (by simp)
 obtain ⟨r7,t7,h7,e7,ht7,_,c7⟩:=next_ok hb hl h6 7 ht6
 obtain ⟨r8,t8,h8,e8,ht8,c8⟩:=pick_in hb hl h7 ht7 [0,0,1,2,r7] (by simp)
 have c4:=c4 (by omega)
 have c5:=c5 (by omega)
 have c7:=c7 (by omega)
 rw [w64 (n:=r4 - 10) (by omega) (by omega),w64 (n:=r5 - 1000000) (by omega) (by omega)] at e6
 have b6 : -1000000≤r6∧r6≤1000000:=by
  rw [w64 (n:=r4 - 10) (by omega) (by omega),w64 (n:=r5 - 1000000) (by omega) (by omega)] at c6
  simp at c6;omega
 have b8:0≤r8∧r8≤6:=by simp at c8;omega
 by_cases z:r3=0
 ·
  refine ⟨r2,0,0,t3,h3,fun k hk=>?_,ht3⟩
  unfold spec_l01Draw.f
  rw [e1];simp only [Option.bind_some];rw [e2];simp only [Option.bind_some];rw [e3];simp only [Option.bind_some];rw [if_pos z]
 ·
  have hq:=pw_pos2 hp r8
  have hq2:pw p r8≤117649:=by
   have:=pw_le hp b8.2
   have h6:pw p 6≤117649:=by unfold Pr at hp;rcases hp with rfl|rfl|rfl|rfl <;> decide
   omega
  obtain ⟨o,ho⟩:∃ o,enc (PM.lOf p r6 (pw p r8) r2)=o:=⟨_,rfl⟩
  refine ⟨if o.2.2.2=true then o.1 else r2,if o.2.2.2=true then o.2.1 else 0,if o.2.2.2=true then o.2.2.1 else 0,t8,h8,fun k hk=>?_,ht8⟩
  unfold spec_l01Draw.f
  rw [e1];simp only [Option.bind_some];rw [e2];simp only [Option.bind_some];rw [e3];simp only [Option.bind_some];rw [if_neg z,e4];simp only [Option.bind_some];rw [e5];simp only [Option.bind_some]
  rw [w64 (n:=r4 - 10) (by omega) (by omega),w64 (n:=r5 - 1000000) (by omega) (by omega),e6];simp only [Option.bind_some];rw [e7];simp only [Option.bind_some];rw [e8];simp only [Option.bind_some]
  rw [l01Power_eq p r8 hp (by omega) (by omega) k (by omega)];simp only [Option.bind_some]
  rw [l01Of_eq hp (by omega) (by omega) (by omega) k (by omega),ho];simp only [Option.bind_some]
  by_cases q:o.2.2.2=true
  ·
   rw [if_pos q,if_pos q,if_pos q,if_pos q]
  ·
   rw [if_neg q,if_neg q,if_neg q,if_neg q]
theorem bad_ok {l:List Int} (hb:Byt l) (hl:l.length≤4096) {t:Int} (h:Int) (ht:0≤t) (a1 a2 a3:Int):∃ b1 b2 b3 t' h',spec_l01Bad.f l t h a1 a2 a3=some (b1,b2,b3,t',h')∧0≤t':=by
 obtain ⟨r1,t1,h1,e1,ht1,_,_⟩:=next_ok hb hl h 40 ht
 obtain ⟨r2,t2,h2,e2,ht2,_⟩:=pick_in hb hl h1 ht1 [(-7),7,wrap64 (a1 - 1),1099511627776] (by simp)
 obtain ⟨r3,t3,h3,e3,ht3,_⟩:=pick_in hb hl h1 ht1 [(-1),wrap64 (a2*7),1099511627776] (by simp)
 obtain ⟨r4,t4,h4,e4,ht4,_⟩:=pick_in hb hl h1 ht1 [(-1),wrap64 (a3+1),7] (by simp)
 unfold spec_l01Bad.f
 rw [e1];simp only [Option.bind_some]
 by_cases z0:r1=0
 ·
  rw [if_pos z0,e2];exact ⟨_,_,_,_,_,rfl,ht2⟩
 rw [if_neg z0]
 by_cases z1:r1=1
 ·
  rw [if_pos z1,e3];exact ⟨_,_,_,_,_,rfl,ht3⟩
 rw [if_neg z1]
 by_cases z2:r1=2
 ·
  rw [if_pos z2,e4];exact ⟨_,_,_,_,_,rfl,ht4⟩
 ·
  rw [if_neg z2];exact ⟨_,_,_,_,_,rfl,ht1⟩
theorem spoil_ok {l:List Int} (hb:Byt l) (hl:l.length≤4096) {t:Int} (h:Int) (ht:0≤t):∃ p b1 b2 b3 t' h',(∀ k,13841287400≤k→spec_l01Spoil.f k l t h=some (p,b1,b2,b3,t',h'))∧0≤t':=by
 obtain ⟨p,t1,h1,e1,ht1,hp⟩:=prime_ok hb hl h ht
 obtain ⟨a1,a2,a3,t2,h2,e2,ht2⟩:=draw_ok hb hl hp h1 ht1
 obtain ⟨b1,b2,b3,t3,h3,e3,ht3⟩:=bad_ok hb hl h2 ht2 a1 a2 a3
 obtain ⟨r,t4,h4,e4,ht4,_,_⟩:=next_ok hb hl h3 40 ht3
 obtain ⟨q,t5,h5,e5,ht5,_⟩:=pick_in hb hl h4 ht4 [0,1,4,11,(-3)] (by simp)
 have key:∀ k,13841287400≤k→spec_l01Spoil.f k l t h=(if r=0 then some (q,b1,b2,b3,t5,h5) else some (p,b1,b2,b3,t4,h4)):=fun k hk=>by
  unfold spec_l01Spoil.f
  rw [e1];simp only [Option.bind_some];rw [e2 k hk];simp only [Option.bind_some];rw [e3];simp only [Option.bind_some];rw [e4];simp only [Option.bind_some];rw [e5];simp only [Option.bind_some]
 by_cases z:r=0
 ·
  exact ⟨q,b1,b2,b3,t5,h5,fun k hk=>by rw [key k hk,if_pos z],ht5⟩
 ·
  exact ⟨p,b1,b2,b3,t4,h4,fun k hk=>by rw [key k hk,if_neg z],ht4⟩

theorem l04J2_ok {l:List Int} (hb:Byt l) (hl:l.length≤4096) {t:Int} (h:Int) (ht:0≤t) (x0 x1 x2 x3:Int):∃ m0 m1 m2 m3 t' h',(∀ k,1≤k→spec_l04Draw.j2 k l t h x0 x1 x2 x3=some (m0,m1,m2,m3,t',h'))∧0≤t':=by
 obtain ⟨r,t1,h1,e1,ht1,_,_⟩:=next_ok hb hl h 40 ht
 have key:∀ k,1≤k→spec_l04Draw.j2 k l t h x0 x1 x2 x3=(if r=0 then some (1001,x1,x2,x3,t1,h1) else (if r=1 then some (x0,x1,x0,x1,t1,h1) else some (x0,x1,x2,x3,t1,h1))):=fun k hk=>by
  obtain ⟨k,rfl⟩:∃ m,k=m+1:=⟨k - 1,by omega⟩
  simp only [spec_l04Draw.j2];rw [e1];simp only [Option.bind_some]
 by_cases z:r=0
 ·
  exact ⟨_,_,_,_,_,_,fun k hk=>by rw [key k hk,if_pos z],ht1⟩
 by_cases z1:r=1
 ·
  exact ⟨_,_,_,_,_,_,fun k hk=>by rw [key k hk,if_neg z,if_pos z1],ht1⟩
 ·
  exact ⟨_,_,_,_,_,_,fun k hk=>by rw [key k hk,if_neg z,if_neg z1],ht1⟩
theorem l04J1_ok {l:List Int} (hb:Byt l) (hl:l.length≤4096) {t:Int} (h:Int) (ht:0≤t) (x0 x1 x2 x3:Int):∃ m0 m1 m2 m3 t' h',(∀ k,2≤k→spec_l04Draw.j1 k l t h x0 x1 x2 x3=some (m0,m1,m2,m3,t',h'))∧0≤t':=by
 obtain ⟨r,t0,h0,e0,ht0,_,_⟩:=next_ok hb hl h 9 ht
 by_cases z0:r=0
 ·
  obtain ⟨a,t1,h1,e1,ht1,_⟩:=pick_in hb hl h0 ht0 [2,3,4,5,9] (by simp)
  obtain ⟨b,t2,h2,e2,ht2,_,_⟩:=next_ok hb hl h1 5 ht1
  obtain ⟨m0,m1,m2,m3,t',h',e,ht'⟩:=l04J2_ok hb hl h2 ht2 a (wrap64 (b - 2)) 0 1
  refine ⟨m0,m1,m2,m3,t',h',fun k hk=>?_,ht'⟩
  obtain ⟨k,rfl⟩:∃ m,k=m+1:=⟨k - 1,by omega⟩
  simp only [spec_l04Draw.j1];rw [e0];simp only [Option.bind_some];rw [if_pos z0,e1];simp only [Option.bind_some];rw [e2];simp only [Option.bind_some];exact e k (by omega)
 by_cases z1:r=1
 ·
  obtain ⟨a,t1,h1,e1,ht1,_⟩:=pick_in hb hl h0 ht0 [2,3,4,7,1] (by simp)
  obtain ⟨m0,m1,m2,m3,t',h',e,ht'⟩:=l04J2_ok hb hl h1 ht1 1 0 0 a
  refine ⟨m0,m1,m2,m3,t',h',fun k hk=>?_,ht'⟩
  obtain ⟨k,rfl⟩:∃ m,k=m+1:=⟨k - 1,by omega⟩
  simp only [spec_l04Draw.j1];rw [e0];simp only [Option.bind_some];rw [if_neg z0,if_pos z1,e1];simp only [Option.bind_some];exact e k (by omega)
 by_cases z2:r=2
 ·
  obtain ⟨a,t1,h1,e1,ht1,_⟩:=pick_in hb hl h0 ht0 [1,(-1),2,3] (by simp)
  obtain ⟨m0,m1,m2,m3,t',h',e,ht'⟩:=l04J2_ok hb hl h1 ht1 0 a 1 0
  refine ⟨m0,m1,m2,m3,t',h',fun k hk=>?_,ht'⟩
  obtain ⟨k,rfl⟩:∃ m,k=m+1:=⟨k - 1,by omega⟩
  simp only [spec_l04Draw.j1];rw [e0];simp only [Option.bind_some];rw [if_neg z0,if_neg z1,if_pos z2,e1];simp only [Option.bind_some];exact e k (by omega)
 by_cases z3:r=3
 ·
  obtain ⟨a,t1,h1,e1,ht1,_,_⟩:=next_ok hb hl h0 2001 ht0
  obtain ⟨b,t2,h2,e2,ht2,_,_⟩:=next_ok hb hl h1 9 ht1
  obtain ⟨c,t3,h3,e3,ht3,_,_⟩:=next_ok hb hl h2 9 ht2
  obtain ⟨d,t4,h4,e4,ht4,_,_⟩:=next_ok hb hl h3 2001 ht3
  obtain ⟨m0,m1,m2,m3,t',h',e,ht'⟩:=l04J2_ok hb hl h4 ht4 (wrap64 (a - 1000)) b c (wrap64 (d - 1000))
  refine ⟨m0,m1,m2,m3,t',h',fun k hk=>?_,ht'⟩
  obtain ⟨k,rfl⟩:∃ m,k=m+1:=⟨k - 1,by omega⟩
  simp only [spec_l04Draw.j1];rw [e0];simp only [Option.bind_some];rw [if_neg z0,if_neg z1,if_neg z2,if_pos z3,e1];simp only [Option.bind_some];rw [e2];simp only [Option.bind_some];rw [e3];simp only [Option.bind_some];rw [e4];simp only [Option.bind_some];exact e k (by omega)
 by_cases z4:r=4
 ·
  obtain ⟨a,t1,h1,e1,ht1,_,_⟩:=next_ok hb hl h0 7 ht0
  obtain ⟨m0,m1,m2,m3,t',h',e,ht'⟩:=l04J2_ok hb hl h1 ht1 1 (wrap64 (a - 3)) 0 1
  refine ⟨m0,m1,m2,m3,t',h',fun k hk=>?_,ht'⟩
  obtain ⟨k,rfl⟩:∃ m,k=m+1:=⟨k - 1,by omega⟩
  simp only [spec_l04Draw.j1];rw [e0];simp only [Option.bind_some];rw [if_neg z0,if_neg z1,if_neg z2,if_neg z3,if_pos z4,e1];simp only [Option.bind_some];exact e k (by omega)
 ·
  obtain ⟨m0,m1,m2,m3,t',h',e,ht'⟩:=l04J2_ok hb hl h0 ht0 x0 x1 x2 x3
  refine ⟨m0,m1,m2,m3,t',h',fun k hk=>?_,ht'⟩
  obtain ⟨k,rfl⟩:∃ m,k=m+1:=⟨k - 1,by omega⟩
  simp only [spec_l04Draw.j1];rw [e0];simp only [Option.bind_some];rw [if_neg z0,if_neg z1,if_neg z2,if_neg z3,if_neg z4];exact e k (by omega)
theorem l04Draw_ok {l:List Int} (hb:Byt l) (hl:l.length≤4096) {t:Int} (h:Int) (ht:0≤t):∃ m0 m1 m2 m3 t' h',(∀ k,20≤k→spec_l04Draw.f k l t h=some (m0,m1,m2,m3,t',h'))∧0≤t':=by
 have go:∀ (w:Nat) (x4 t h x0 x1 x2 x3:Int),0≤t→0≤x4→x4≤5→5 - x4=w→∃ m0 m1 m2 m3 t' h',(∀ k,w+3≤k→spec_l04Draw.l0 k x4 l t h x0 x1 x2 x3=some (m0,m1,m2,m3,t',h'))∧0≤t':=by
  intro w
  induction w with
  | zero=>
   intro x4 t h x0 x1 x2 x3 ht h0 h5 hw
   obtain ⟨m0,m1,m2,m3,t',h',e,ht'⟩:=l04J1_ok hb hl h ht x0 x1 x2 x3
   refine ⟨m0,m1,m2,m3,t',h',fun k hk=>?_,ht'⟩
   obtain ⟨k,rfl⟩:∃ m,k=m+1:=⟨k - 1,by omega⟩
   simp only [spec_l04Draw.l0];rw [if_neg (by omega)];exact e k (by omega)
  | succ w ih=>
   intro x4 t h x0 x1 x2 x3 ht h0 h5 hw
   obtain ⟨a,t1,h1,e1,ht1,_,_⟩:=next_ok hb hl h 11 ht
   obtain ⟨b,t2,h2,e2,ht2,_,_⟩:=next_ok hb hl h1 11 ht1
   obtain ⟨c,t3,h3,e3,ht3,_,_⟩:=next_ok hb hl h2 11 ht2
   obtain ⟨d,t4,h4,e4,ht4,_,_⟩:=next_ok hb hl h3 11 ht3
   obtain ⟨q,hq⟩:∃ q,spec_l04Det.f (wrap64 (a - 5)) (wrap64 (b - 5)) (wrap64 (c - 5)) (wrap64 (d - 5))=some q:=⟨_,rfl⟩
   obtain ⟨m0,m1,m2,m3,t',h',e,ht'⟩:=ih (x4+1) t4 h4 (wrap64 (a - 5)) (wrap64 (b - 5)) (wrap64 (c - 5)) (wrap64 (d - 5)) ht4 (by omega) (by omega) (by omega)
   obtain ⟨n0,n1,n2,n3,u',i',e',hu'⟩:=l04J1_ok hb hl h4 ht4 (wrap64 (a - 5)) (wrap64 (b - 5)) (wrap64 (c - 5)) (wrap64 (d - 5))
   by_cases z:q=0
   ·
    refine ⟨m0,m1,m2,m3,t',h',fun k hk=>?_,ht'⟩
    obtain ⟨k,rfl⟩:∃ m,k=m+1:=⟨k - 1,by omega⟩
    simp only [spec_l04Draw.l0];rw [if_pos (by omega),e1];simp only [Option.bind_some];rw [e2];simp only [Option.bind_some];rw [e3];simp only [Option.bind_some];rw [e4];simp only [Option.bind_some];rw [hq];simp only [Option.bind_some];rw [if_pos z,w64 (n:=x4+1) (by omega) (by omega)];exact e k (by omega)
   ·
    refine ⟨n0,n1,n2,n3,u',i',fun k hk=>?_,hu'⟩
    obtain ⟨k,rfl⟩:∃ m,k=m+1:=⟨k - 1,by omega⟩
    simp only [spec_l04Draw.l0];rw [if_pos (by omega),e1];simp only [Option.bind_some];rw [e2];simp only [Option.bind_some];rw [e3];simp only [Option.bind_some];rw [e4];simp only [Option.bind_some];rw [hq];simp only [Option.bind_some];rw [if_neg z];exact e' k (by omega)
 obtain ⟨m0,m1,m2,m3,t',h',e,ht'⟩:=go 5 0 t h 0 0 0 0 ht (by omega) (by omega) (by omega)
 exact ⟨m0,m1,m2,m3,t',h',fun k hk=>by unfold spec_l04Draw.f;exact e k (by omega),ht'⟩
theorem l04With_ok {l:List Int} (hb:Byt l) (hl:l.length≤4096):∃ p a b c d lv top dn,∀ k,13841287400+l.length≤k→spec_l04With.f k l=some (p,a,b,c,d,lv,top,dn):=by
 obtain ⟨h0,e0⟩:=from_ok l hl
 obtain ⟨p,lv,top,dn,t1,h1,e1,ht1⟩:=spoil_ok hb hl h0 (Int.le_refl 0)
 obtain ⟨r,t2,h2,e2,ht2,_,_⟩:=next_ok hb hl h1 3 ht1
 obtain ⟨a,b,c,d,t3,h3,e3,ht3⟩:=l04Draw_ok hb hl h2 ht2
 have key:∀ k,13841287400+l.length≤k→spec_l04With.f k l=(if r=0 then some (p,a,b,c,d,0,0,0) else some (p,a,b,c,d,lv,top,dn)):=fun k hk=>by
  unfold spec_l04With.f
  rw [e0 k (by omega)];simp only [Option.bind_some];rw [e1 k (by omega)];simp only [Option.bind_some];rw [e2];simp only [Option.bind_some];rw [e3 k (by omega)];rfl
 by_cases z:r=0
 ·
  exact ⟨p,a,b,c,d,0,0,0,fun k hk=>by rw [key k hk,if_pos z]⟩
 ·
  exact ⟨p,a,b,c,d,lv,top,dn,fun k hk=>by rw [key k hk,if_neg z]⟩

theorem balls9_eq (l:List S28) (hl:l.length≤2000000000000):∀ k,l.length+1≤k→laws_balls9.f k l l=some true:=by
 have go:∀ (d k i:Nat),i+d=l.length→d<k→laws_balls9.l0 k l l i=some true:=by
  intro d
  induction d with
  | zero=>
   intro k i h2 h3
   obtain ⟨k,rfl⟩:∃ m,k=m+1:=⟨k - 1,by omega⟩
   simp only [laws_balls9.l0]
   rw [if_neg (by omega)]
  | succ d ih=>
   intro k i h2 h3
   obtain ⟨k,rfl⟩:∃ m,k=m+1:=⟨k - 1,by omega⟩
   simp only [laws_balls9.l0]
   rw [if_pos (by omega),if_pos (by omega),if_pos (by omega),w64 (by omega) (by omega)]
   simp only [beq_self_eq_true,Bool.not_true,Bool.or_false]
   rw [if_neg (by simp)]
   exact ih k (i+1) (by omega) (by omega)
 intro k hk
 unfold laws_balls9.f
 rw [if_pos rfl]
 exact go l.length k 0 (by omega) (by omega)

theorem rdB9 (l:List S28) (i:Nat) (x:S28) (h:l[i]?=some x):rd_T28 l (i:Int)=x:=by
 obtain ⟨hi,e⟩:=List.getElem?_eq_some_iff.mp h
 rw [show rd_T28 l (i:Int)=l[i]'hi by simp [rd_T28,hi]];exact e

namespace MB

def res (p a b c d lv top dn:Int):Int × Int × Int × Int:=if (Pr p∧PM.Ok p ⟨lv,top,dn⟩)∧PM.isM a b c d then encC 3 (PM.moveB p a b c d ⟨lv,top,dn⟩) else (0,0,0,1)
theorem impl_res (p a b c d lv top dn:Int):∃ K,∀ k,K≤k→impl_MoveBall.f k p a b c d lv top dn=some (res p a b c d lv top dn):=by
 obtain ⟨K,h⟩:=IsMatrix_eq a b c d
 refine ⟨K+13841287402,fun k hk=>?_⟩
 obtain ⟨k,rfl⟩:∃ j,k=j+1:=⟨k - 1,by omega⟩
 unfold impl_MoveBall.f res
 rw [IsBall_eq p lv top dn _ (by omega)]
 simp only [Option.bind_some]
 by_cases q:Pr p∧PM.Ok p ⟨lv,top,dn⟩
 ·
  rw [decide_eq_true q,if_pos rfl,h _ (by omega)]
  simp only [Option.bind_some,impl_MoveBall.j0]
  by_cases m:PM.isM a b c d
  ·
   rw [decide_eq_true m,if_neg (by simp),if_pos (show (Pr p∧PM.Ok p ⟨lv,top,dn⟩)∧PM.isM a b c d from ⟨q,m⟩),moveBall_eq q.1 m q.2 k (by omega)]
   simp only [Option.bind_some]
   cases PM.moveB p a b c d ⟨lv,top,dn⟩ <;> simp [enc,encC,impl_fitted.f]
  ·
   rw [decide_eq_false m,if_pos (by simp),if_neg (fun z=>m z.2)]
 ·
  rw [decide_eq_false q,if_neg (by simp),if_neg (fun z=>q z.1)]
  simp [impl_MoveBall.j0]
end MB
namespace IM
def res (a b c d:Int):Int × Int × Int × Int × Int:=if PM.isM a b c d then ((PM.red d (-b) (-c) a).1,(PM.red d (-b) (-c) a).2.1,(PM.red d (-b) (-c) a).2.2.1,(PM.red d (-b) (-c) a).2.2.2,0) else (0,0,0,0,1)
theorem impl_res (a b c d:Int):∃ K,∀ k,K≤k→impl_InverseMatrix.f k a b c d=some (res a b c d):=by
 obtain ⟨K1,h1⟩:=IsMatrix_eq a b c d
 unfold impl_InverseMatrix.f res
 by_cases h:PM.isM a b c d
 ·
  obtain ⟨K,hK⟩:=inverted_eq h
  refine ⟨K+K1,fun k hk=>?_⟩
  rw [h1 k (by omega),decide_eq_true h,if_pos h]
  simp only [Option.bind_some,if_true]
  rw [hK k (by omega)];rfl
 ·
  refine ⟨K1,fun k hk=>?_⟩
  rw [h1 k (by omega),decide_eq_false h,if_neg h]
  simp
end IM
namespace DP

def fin (p lv top dn:Int):Option PM.Ball→Int × Int
 | none=>(0,3)
 | some b=>(PM.dist p ⟨lv,top,dn⟩ b,0)
def res (p a b c d lv top dn:Int):Int × Int:=if (Pr p∧PM.Ok p ⟨lv,top,dn⟩)∧PM.isM a b c d then fin p lv top dn (PM.moveB p a b c d ⟨lv,top,dn⟩) else (0,1)
theorem spec_res (p a b c d lv top dn:Int):∃ K,∀ k,K≤k→spec_DisplacementOf.f k p a b c d lv top dn=some (res p a b c d lv top dn):=by
 obtain ⟨K,h⟩:=l04Code_b p a b c d lv top dn
 refine ⟨K+13841287400,fun k hk=>?_⟩
 unfold spec_DisplacementOf.f res
 rw [h k (by omega)]
 simp only [Option.bind_some]
 by_cases q:(Pr p∧PM.Ok p ⟨lv,top,dn⟩)∧PM.isM a b c d
 ·
  rw [if_pos q,if_pos q,if_pos rfl,l04Move_eq q.1.1 q.2 q.1.2 k (by omega)]
  simp only [Option.bind_some]
  cases hy:PM.moveB p a b c d ⟨lv,top,dn⟩ with
  | none=>simp [enc,fin]
  | some y=>
   have ho:=PM.moveB_ok q.1.1 q.2.2 hy
   simp only [enc,fin,if_true]
   rw [l02Distance_eq (l2:=y.lv) (t2:=y.top) (d2:=y.dn) q.1.1 q.1.2 ho k (by omega)];rfl
 ·
  rw [if_neg q,if_neg q,if_neg (by omega)]
theorem impl_res (p a b c d lv top dn:Int):∃ K,∀ k,K≤k→impl_DisplacementOf.f k p a b c d lv top dn=some (res p a b c d lv top dn):=by
 obtain ⟨K,h⟩:=IsMatrix_eq a b c d
 refine ⟨K+13841287402,fun k hk=>?_⟩
 obtain ⟨k,rfl⟩:∃ j,k=j+1:=⟨k - 1,by omega⟩
 unfold impl_DisplacementOf.f impl_MoveBall.f res
 rw [IsBall_eq p lv top dn _ (by omega)]
 simp only [Option.bind_some]
 by_cases q:Pr p∧PM.Ok p ⟨lv,top,dn⟩
 ·
  rw [decide_eq_true q,if_pos rfl,h _ (by omega)]
  simp only [Option.bind_some,impl_MoveBall.j0]
  by_cases m:PM.isM a b c d
  ·
   rw [decide_eq_true m,if_neg (by simp),if_pos (show (Pr p∧PM.Ok p ⟨lv,top,dn⟩)∧PM.isM a b c d from ⟨q,m⟩),moveBall_eq q.1 m q.2 k (by omega)]
   simp only [Option.bind_some]
   cases hy:PM.moveB p a b c d ⟨lv,top,dn⟩ with
   | none=>simp [enc,fin,impl_fitted.f]
   | some y=>
    have ho:=PM.moveB_ok q.1 m.2 hy
    simp only [enc,fin,impl_fitted.f,if_true,Option.bind_some]
    rw [distance_eq (l2:=y.lv) (t2:=y.top) (d2:=y.dn) q.1 q.2 ho _ (by omega)];rfl
  ·
   rw [decide_eq_false m,if_pos (by simp),if_neg (fun z=>m z.2)]
   simp
 ·
  rw [decide_eq_false q,if_neg (by simp),if_neg (fun z=>q z.1)]
  simp [impl_MoveBall.j0]
end DP
namespace LO

def res (p a b c d:Int):Int × Int:=if Pr p∧PM.isM a b c d then ((lenK p a b c d).1,0) else (0,1)
theorem spec_res (p a b c d:Int):∃ K,∀ k,K≤k→spec_LengthOf.f k p a b c d=some (res p a b c d):=by
 obtain ⟨K,h⟩:=l04Code_eq p a b c d [] (by simp)
 refine ⟨K+70,fun k hk=>?_⟩
 unfold spec_LengthOf.f res
 rw [h k (by omega)]
 simp only [Option.bind_some,List.all_nil,and_true]
 by_cases q:Pr p∧PM.isM a b c d
 ·
  rw [if_pos q,if_pos q,if_pos rfl,l04Kind_eq q.1 q.2 k (by omega)];rfl
 ·
  rw [if_neg q,if_neg q,if_neg (by omega)]
theorem impl_res (p a b c d:Int):∃ K,∀ k,K≤k→impl_LengthOf.f k p a b c d=some (res p a b c d):=by
 obtain ⟨K,h⟩:=IsMatrix_eq a b c d
 refine ⟨K+70,fun k hk=>?_⟩
 unfold impl_LengthOf.f res
 rw [isPrime_eq]
 rcases prime_cases p with ⟨g,hp⟩|⟨g,hp⟩
 ·
  have hp:Pr p:=hp
  rw [g,h k (by omega)]
  simp only [Option.bind_some,if_true]
  by_cases q:PM.isM a b c d
  ·
   rw [decide_eq_true q,if_pos (show Pr p∧PM.isM a b c d from ⟨hp,q⟩),if_pos rfl,lengthOf_eq hp q k (by omega)];rfl
  ·
   rw [decide_eq_false q,if_neg (show ¬ (Pr p∧PM.isM a b c d) from fun z=>q z.2)];simp
 ·
  rw [g,if_neg (show ¬ (Pr p∧PM.isM a b c d) from fun z=>hp z.1)];simp
end LO
namespace KO

def res (p a b c d:Int):Int × Int:=if Pr p∧PM.isM a b c d then ((lenK p a b c d).2,0) else (0,1)
theorem spec_res (p a b c d:Int):∃ K,∀ k,K≤k→spec_KindOf.f k p a b c d=some (res p a b c d):=by
 obtain ⟨K,h⟩:=l04Code_eq p a b c d [] (by simp)
 refine ⟨K+70,fun k hk=>?_⟩
 unfold spec_KindOf.f res
 rw [h k (by omega)]
 simp only [Option.bind_some,List.all_nil,and_true]
 by_cases q:Pr p∧PM.isM a b c d
 ·
  rw [if_pos q,if_pos q,if_pos rfl,l04Kind_eq q.1 q.2 k (by omega)];rfl
 ·
  rw [if_neg q,if_neg q,if_neg (by omega)]
theorem impl_res (p a b c d:Int):∃ K,∀ k,K≤k→impl_KindOf.f k p a b c d=some (res p a b c d):=by
 obtain ⟨K,h⟩:=IsMatrix_eq a b c d
 refine ⟨K+70,fun k hk=>?_⟩
 unfold impl_KindOf.f res
 rw [isPrime_eq]
 rcases prime_cases p with ⟨g,hp⟩|⟨g,hp⟩
 ·
  have hp:Pr p:=hp
  rw [g,h k (by omega)]
  simp only [Option.bind_some,if_true]
  by_cases q:PM.isM a b c d
  ·
   rw [decide_eq_true q,if_pos (show Pr p∧PM.isM a b c d from ⟨hp,q⟩),if_pos rfl,lengthOf_eq hp q k (by omega)];rfl
  ·
   rw [decide_eq_false q,if_neg (show ¬ (Pr p∧PM.isM a b c d) from fun z=>q z.2)];simp
 ·
  rw [g,if_neg (show ¬ (Pr p∧PM.isM a b c d) from fun z=>hp z.1)];simp
end KO
namespace FB

def res (p a b c d lv top dn r:Int):List S28 × Int:=if (Pr p∧PM.Ok p ⟨lv,top,dn⟩)∧PM.isM a b c d then (if 0≤r∧r≤3 then nearR [] (nearG p a b c d 0 ⟨lv,top,dn⟩ r.toNat 0) else ([],2)) else ([],1)
theorem res_len (p a b c d lv top dn r:Int):(res p a b c d lv top dn r).1.length≤100000:=by
 unfold res
 by_cases q:(Pr p∧PM.Ok p ⟨lv,top,dn⟩)∧PM.isM a b c d
 ·
  rw [if_pos q]
  by_cases g:0≤r∧r≤3
  ·
   rw [if_pos g];exact near_len q.1.1 q.1.2 g
  ·
   rw [if_neg g];simp
 ·
  rw [if_neg q];simp
theorem spec_res (p a b c d lv top dn r:Int):∃ K,∀ k,K≤k→spec_FixedBalls.f k p a b c d lv top dn r=some (res p a b c d lv top dn r):=by
 obtain ⟨K,h⟩:=l04Code_b p a b c d lv top dn
 by_cases q:(Pr p∧PM.Ok p ⟨lv,top,dn⟩)∧PM.isM a b c d
 ·
  by_cases g:0≤r∧r≤3
  ·
   obtain ⟨K2,h2⟩:=l04Near_eq (e:=0) q.1.1 q.2 q.1.2 g
   refine ⟨K+K2+2,fun k hk=>?_⟩
   obtain ⟨k,rfl⟩:∃ j,k=j+1:=⟨k - 1,by omega⟩
   unfold spec_FixedBalls.f res
   rw [h _ (by omega)]
   simp only [Option.bind_some]
   rw [if_pos q,if_pos q,if_pos rfl,in_eq,decide_eq_true g,if_pos g]
   simp only [Option.bind_some,spec_FixedBalls.j0]
   rw [if_neg (by simp),if_pos trivial]
   rw [show spec_l04Near.f k p a b c d lv top dn r 0=_ from h2 k (by omega)]
   rfl
  ·
   refine ⟨K+2,fun k hk=>?_⟩
   obtain ⟨k,rfl⟩:∃ j,k=j+1:=⟨k - 1,by omega⟩
   unfold spec_FixedBalls.f res
   rw [h _ (by omega)]
   simp only [Option.bind_some]
   rw [if_pos q,if_pos q,if_pos rfl,in_eq,decide_eq_false g,if_neg g]
   simp only [Option.bind_some,spec_FixedBalls.j0]
   rw [if_pos (by simp),if_neg (by omega)]
 ·
  refine ⟨K+2,fun k hk=>?_⟩
  obtain ⟨k,rfl⟩:∃ j,k=j+1:=⟨k - 1,by omega⟩
  unfold spec_FixedBalls.f res
  rw [h _ (by omega)]
  simp only [Option.bind_some]
  rw [if_neg q,if_neg q,if_neg (by omega)]
  simp only [spec_FixedBalls.j0]
  rw [if_neg (by simp),if_neg (by omega)]
theorem impl_res (p a b c d lv top dn r:Int):∃ K,∀ k,K≤k→impl_FixedBalls.f k p a b c d lv top dn r=some (res p a b c d lv top dn r):=by
 obtain ⟨K,h⟩:=nearCode_eq p a b c d lv top dn r
 by_cases q:(Pr p∧PM.Ok p ⟨lv,top,dn⟩)∧PM.isM a b c d
 ·
  by_cases g:0≤r∧r≤3
  ·
   obtain ⟨K2,h2⟩:=nearBalls_eq (e:=0) q.1.1 q.2 q.1.2 g
   refine ⟨K+K2+2,fun k hk=>?_⟩
   unfold impl_FixedBalls.f res
   rw [h _ (by omega)]
   simp only [Option.bind_some]
   rw [if_pos q,if_pos q,if_pos g,if_pos g,if_pos rfl]
   rw [show impl_nearBalls.f k p a b c d lv top dn r 0=_ from h2 k (by omega)]
   rfl
  ·
   refine ⟨K+2,fun k hk=>?_⟩
   unfold impl_FixedBalls.f res
   rw [h _ (by omega)]
   simp only [Option.bind_some]
   rw [if_pos q,if_pos q,if_neg g,if_neg g,if_neg (by omega)]
 ·
  refine ⟨K+2,fun k hk=>?_⟩
  unfold impl_FixedBalls.f res
  rw [h _ (by omega)]
  simp only [Option.bind_some]
  rw [if_neg q,if_neg q,if_neg (by omega)]

end FB
namespace AB

def res (p a b c d lv top dn r:Int):List S28 × Int:=if (Pr p∧PM.Ok p ⟨lv,top,dn⟩)∧PM.isM a b c d then (if 0≤r∧r≤3 then (if (lenK p a b c d).2=2 then nearR [] (nearG p a b c d (lenK p a b c d).1 ⟨lv,top,dn⟩ r.toNat 0) else ([],5)) else ([],2)) else ([],1)
theorem res_len (p a b c d lv top dn r:Int):(res p a b c d lv top dn r).1.length≤100000:=by
 unfold res
 by_cases q:(Pr p∧PM.Ok p ⟨lv,top,dn⟩)∧PM.isM a b c d
 ·
  rw [if_pos q]
  by_cases g:0≤r∧r≤3
  ·
   rw [if_pos g]
   by_cases s:(lenK p a b c d).2=2
   ·
    rw [if_pos s];exact near_len q.1.1 q.1.2 g
   ·
    rw [if_neg s];simp
  ·
   rw [if_neg g];simp
 ·
  rw [if_neg q];simp
theorem spec_res (p a b c d lv top dn r:Int):∃ K,∀ k,K≤k→spec_AxisBalls.f k p a b c d lv top dn r=some (res p a b c d lv top dn r):=by
 obtain ⟨K,h⟩:=l04Code_b p a b c d lv top dn
 by_cases q:(Pr p∧PM.Ok p ⟨lv,top,dn⟩)∧PM.isM a b c d
 ·
  by_cases g:0≤r∧r≤3
  ·
   obtain ⟨K2,h2⟩:=l04Near_eq (e:=(lenK p a b c d).1) q.1.1 q.2 q.1.2 g
   refine ⟨K+K2+80,fun k hk=>?_⟩
   obtain ⟨k,rfl⟩:∃ j,k=j+1+1:=⟨k - 2,by omega⟩
   unfold spec_AxisBalls.f res
   rw [h _ (by omega)]
   simp only [Option.bind_some]
   rw [if_pos q,if_pos q,if_pos rfl,in_eq,decide_eq_true g,if_pos g]
   simp only [Option.bind_some,spec_AxisBalls.j0,spec_AxisBalls.j1]
   rw [if_neg (by simp),if_pos trivial,l04Kind_eq q.1.1 q.2 k (by omega)]
   simp only [Option.bind_some]
   by_cases s:(lenK p a b c d).2=2
   ·
    rw [if_pos s,if_pos s]
    rw [show spec_l04Near.f k p a b c d lv top dn r (lenK p a b c d).1=_ from h2 k (by omega)]
    rfl
   ·
    rw [if_neg s,if_neg s]
  ·
   refine ⟨K+2,fun k hk=>?_⟩
   obtain ⟨k,rfl⟩:∃ j,k=j+1+1:=⟨k - 2,by omega⟩
   unfold spec_AxisBalls.f res
   rw [h _ (by omega)]
   simp only [Option.bind_some]
   rw [if_pos q,if_pos q,if_pos rfl,in_eq,decide_eq_false g,if_neg g]
   simp only [Option.bind_some,spec_AxisBalls.j0,spec_AxisBalls.j1]
   rw [if_pos (by simp),if_neg (by omega)]
 ·
  refine ⟨K+2,fun k hk=>?_⟩
  obtain ⟨k,rfl⟩:∃ j,k=j+1+1:=⟨k - 2,by omega⟩
  unfold spec_AxisBalls.f res
  rw [h _ (by omega)]
  simp only [Option.bind_some]
  rw [if_neg q,if_neg q,if_neg (by omega)]
  simp only [spec_AxisBalls.j0,spec_AxisBalls.j1]
  rw [if_neg (by simp),if_neg (by omega)]
theorem impl_res (p a b c d lv top dn r:Int):∃ K,∀ k,K≤k→impl_AxisBalls.f k p a b c d lv top dn r=some (res p a b c d lv top dn r):=by
 obtain ⟨K,h⟩:=nearCode_eq p a b c d lv top dn r
 by_cases q:(Pr p∧PM.Ok p ⟨lv,top,dn⟩)∧PM.isM a b c d
 ·
  by_cases g:0≤r∧r≤3
  ·
   obtain ⟨K2,h2⟩:=nearBalls_eq (e:=(lenK p a b c d).1) q.1.1 q.2 q.1.2 g
   refine ⟨K+K2+80,fun k hk=>?_⟩
   unfold impl_AxisBalls.f res
   rw [h _ (by omega)]
   simp only [Option.bind_some]
   rw [if_pos q,if_pos q,if_pos g,if_pos g,if_pos rfl,lengthOf_eq q.1.1 q.2 k (by omega)]
   simp only [Option.bind_some]
   by_cases s:(lenK p a b c d).2=2
   ·
    rw [if_pos s,if_pos s]
    rw [show impl_nearBalls.f k p a b c d lv top dn r (lenK p a b c d).1=_ from h2 k (by omega)]
    rfl
   ·
    rw [if_neg s,if_neg s]
  ·
   refine ⟨K+2,fun k hk=>?_⟩
   unfold impl_AxisBalls.f res
   rw [h _ (by omega)]
   simp only [Option.bind_some]
   rw [if_pos q,if_pos q,if_neg g,if_neg g,if_neg (by omega)]
 ·
  refine ⟨K+2,fun k hk=>?_⟩
  unfold impl_AxisBalls.f res
  rw [h _ (by omega)]
  simp only [Option.bind_some]
  rw [if_neg q,if_neg q,if_neg (by omega)]

end AB

theorem near_mem {p a b c d e:Int}:∀ (l r:List PM.Ball),nearF p a b c d e l=some r→(∀ y,y ∈ l→PM.Ok p y)→∀ x,x ∈ r→PM.Ok p x∧∃ y,PM.moveB p a b c d x=some y∧PM.dist p x y=e
 | [],r,h,_,x,hx=>by obtain rfl:=Option.some.inj h;cases hx
 | z :: l,r,h,ho,x,hx=>by
  unfold nearF at h
  obtain ⟨y,h1,h2⟩:=Option.bind_eq_some_iff.mp h
  obtain ⟨s,h3,rfl⟩:=Option.map_eq_some_iff.mp h2
  have ih:=near_mem l s h3 (fun y hy=>ho y (List.mem_cons_of_mem _ hy))
  by_cases g:PM.dist p z y=e
  ·
   rw [if_pos g] at hx
   rcases List.mem_cons.mp hx with rfl|hx
   ·
    exact ⟨ho _ List.mem_cons_self,y,h1,g⟩
   ·
    exact ih x hx
  ·
   rw [if_neg g] at hx;exact ih x hx
theorem nearG_mem {p a b c d e:Int} {o:PM.Ball} (hp:Pr p) (ho:PM.Ok p o):∀ (q n:Nat) (L:List PM.Ball),nearG p a b c d e o q n=some L→∀ x,x ∈ L→PM.Ok p x∧∃ y,PM.moveB p a b c d x=some y∧PM.dist p x y=e
 | 0,n,L,h,x,hx=>by
  unfold nearG at h
  obtain ⟨l,h1,h2⟩:=Option.bind_eq_some_iff.mp h
  exact near_mem l L h2 (fun y hy=>(PM.sph_mem hp ho _ l h1 y hy).1) x hx
 | q+1,n,L,h,x,hx=>by
  unfold nearG at h
  obtain ⟨r,h1,h2⟩:=Option.bind_eq_some_iff.mp h
  obtain ⟨l,h3,h4⟩:=Option.bind_eq_some_iff.mp h1
  obtain ⟨s,h5,rfl⟩:=Option.map_eq_some_iff.mp h2
  rcases List.mem_append.mp hx with hx|hx
  ·
   exact near_mem l r h4 (fun y hy=>(PM.sph_mem hp ho _ l h3 y hy).1) x hx
  ·
   exact nearG_mem hp ho q (n+1) s h5 x hx
theorem nearR_at {p a b c d e:Int} {o:PM.Ball} (hp:Pr p) (ho:PM.Ok p o) (q n i:Nat) {z:S28} (h:(nearR [] (nearG p a b c d e o q n)).1[i]?=some z):∃ x,z=enB x∧PM.Ok p x∧∃ y,PM.moveB p a b c d x=some y∧PM.dist p x y=e:=by
 cases hL:nearG p a b c d e o q n with
 | none=>rw [hL] at h;simp [nearR] at h
 | some L=>
  rw [hL] at h
  simp only [nearR,List.nil_append,List.getElem?_map] at h
  obtain ⟨x,hx,rfl⟩:=Option.map_eq_some_iff.mp h
  obtain ⟨o1,o2⟩:=nearG_mem hp ho q n L hL x (List.mem_of_getElem? hx)
  exact ⟨x,rfl,o1,o2⟩
theorem FB_at {p a b c d lv top dn r:Int} {i:Nat} (hi:i<(FB.res p a b c d lv top dn r).1.length):∃ x,(FB.res p a b c d lv top dn r).1[i]?=some (enB x)∧Pr p∧PM.isM a b c d∧PM.Ok p x∧PM.moveB p a b c d x=some x:=by
 obtain ⟨z,hz⟩:∃ z,(FB.res p a b c d lv top dn r).1[i]?=some z:=⟨_,List.getElem?_eq_getElem hi⟩
 unfold FB.res at hz hi ⊢
 by_cases q:(Pr p∧PM.Ok p ⟨lv,top,dn⟩)∧PM.isM a b c d
 ·
  rw [if_pos q] at hz hi ⊢
  by_cases g:0≤r∧r≤3
  ·
   rw [if_pos g] at hz hi ⊢
   obtain ⟨x,rfl,o1,y,o2,o3⟩:=nearR_at q.1.1 q.1.2 _ _ _ hz
   have oy:=PM.moveB_ok q.1.1 q.2.2 o2
   have:x=y:=(PM.dist_zero q.1.1 o1 oy).mp o3
   subst this
   exact ⟨x,hz,q.1.1,q.2,o1,o2⟩
  ·
   rw [if_neg g] at hi;simp at hi
 ·
  rw [if_neg q] at hi;simp at hi
theorem AB_at {p a b c d lv top dn r:Int} {i:Nat} (hi:i<(AB.res p a b c d lv top dn r).1.length):∃ x,(AB.res p a b c d lv top dn r).1[i]?=some (enB x)∧Pr p∧PM.isM a b c d∧PM.Ok p x∧∃ y,PM.moveB p a b c d x=some y∧PM.dist p x y=(lenK p a b c d).1:=by
 obtain ⟨z,hz⟩:∃ z,(AB.res p a b c d lv top dn r).1[i]?=some z:=⟨_,List.getElem?_eq_getElem hi⟩
 unfold AB.res at hz hi ⊢
 by_cases q:(Pr p∧PM.Ok p ⟨lv,top,dn⟩)∧PM.isM a b c d
 ·
  rw [if_pos q] at hz hi ⊢
  by_cases g:0≤r∧r≤3
  ·
   rw [if_pos g] at hz hi ⊢
   by_cases s:(lenK p a b c d).2=2
   ·
    rw [if_pos s] at hz hi ⊢
    obtain ⟨x,rfl,o1,o2⟩:=nearR_at q.1.1 q.1.2 _ _ _ hz
    exact ⟨x,hz,q.1.1,q.2,o1,o2⟩
   ·
    rw [if_neg s] at hi;simp at hi
  ·
   rw [if_neg g] at hi;simp at hi
 ·
  rw [if_neg q] at hi;simp at hi
theorem lenK_inv {p a b c d:Int} (hp:Pr p) (h:PM.isM a b c d):lenK p (PM.red d (-b) (-c) a).1 (PM.red d (-b) (-c) a).2.1 (PM.red d (-b) (-c) a).2.2.1 (PM.red d (-b) (-c) a).2.2.2=lenK p a b c d:=by
 have hdet:a*d - b*c≠0:=h.2
 have hdet':d*a - -b * -c≠0:=by intro z;apply hdet;grind
 have hr:=PM.red_det hdet'
 obtain ⟨e1,e2,e3,e4⟩:=PM.red_back d (-b) (-c) a
 have ht:=PM.by4_ne hdet'
 generalize PM.by4 d (-b) (-c) a=t at *
 generalize PM.red d (-b) (-c) a=R at *
 obtain ⟨r1,r2,r3,r4⟩:=R
 simp only at e1 e2 e3 e4 hr ⊢
 have ed:a*d - b*c=t*(t*(r1*r4 - r2*r3)):=by
  have:a*d - b*c=d*a - -b * -c:=by grind
  rw [this,e1,e2,e3,e4];grind
 have es:a+d=t*(r1+r4):=by rw [e1,e4];grind
 unfold lenK
 have vd:vl p (a*d - b*c)=vl p t+(vl p t+vl p (r1*r4 - r2*r3)):=by
  rw [ed,PM.vl_mul hp ht (Int.mul_ne_zero ht hr),PM.vl_mul hp ht hr]
 rw [vd]
 by_cases z:r1+r4=0
 ·
  have z':a+d=0:=by rw [es,z,Int.mul_zero]
  rw [if_neg (fun y=>y.1 z),if_neg (fun y=>y.1 z')]
  generalize vl p t=T at *
  generalize vl p (r1*r4 - r2*r3)=V at *
  rw [show (((T+(T+V):Nat):Int)) % 2=(V:Int) % 2 by omega]
 ·
  have z':a+d≠0:=by rw [es];exact Int.mul_ne_zero ht z
  have vs:vl p (a+d)=vl p t+vl p (r1+r4):=by rw [es,PM.vl_mul hp ht z]
  rw [vs]
  generalize vl p t=T at *
  generalize vl p (r1*r4 - r2*r3)=V at *
  generalize vl p (r1+r4)=W at *
  by_cases q:2*(W:Int)<V
  ·
   rw [if_pos ⟨z,q⟩,if_pos ⟨z',by omega⟩]
   rw [show (((T+(T+V):Nat):Int)) - 2*((T+W:Nat):Int)=(V:Int) - 2*(W:Int) by omega]
  ·
   rw [if_neg (fun y=>q y.2),if_neg (fun y=>q (by omega))]
   rw [show (((T+(T+V):Nat):Int)) % 2=(V:Int) % 2 by omega]
theorem lenK_cases (p a b c d:Int):((lenK p a b c d).2=2∧0<(lenK p a b c d).1∧(lenK p a b c d).1=(vl p (a*d - b*c):Int) - 2*vl p (a+d)∧a+d≠0)∨((lenK p a b c d).1=0∧(lenK p a b c d).2=(vl p (a*d - b*c):Int) % 2):=by
 unfold lenK
 by_cases q:a+d≠0∧2*(vl p (a+d):Int)<vl p (a*d - b*c)
 ·
  rw [if_pos q];exact Or.inl ⟨rfl,by simp only;omega,rfl,q.1⟩
 ·
  rw [if_neg q];exact Or.inr ⟨rfl,rfl⟩
theorem LO_ok {p a b c d:Int} (hp:Pr p) (h:PM.isM a b c d):LO.res p a b c d=((lenK p a b c d).1,0)∧KO.res p a b c d=((lenK p a b c d).2,0):=by
 unfold LO.res KO.res
 rw [if_pos ⟨hp,h⟩,if_pos ⟨hp,h⟩];exact ⟨rfl,rfl⟩
theorem last_ok (p a b c d lv top dn:Int):∃ K,∀ k,K≤k→laws_FnTranslations.j7 k p (DP.res p a b c d lv top dn).1 (DP.res p a b c d lv top dn).2 a b c d=some true:=by
 obtain ⟨K1,e1⟩:=LO.impl_res p a b c d
 obtain ⟨K2,e2⟩:=KO.impl_res p a b c d
 refine ⟨K1+K2+1,fun k hk=>?_⟩
 obtain ⟨k,rfl⟩:∃ m,k=m+1:=⟨k - 1,by omega⟩
 simp only [laws_FnTranslations.j7]
 unfold DP.res
 by_cases q:(Pr p∧PM.Ok p ⟨lv,top,dn⟩)∧PM.isM a b c d
 ·
  rw [if_pos q]
  cases hy:PM.moveB p a b c d ⟨lv,top,dn⟩ with
  | none=>simp [DP.fin]
  | some y=>
   obtain ⟨d0,⟨u,d1⟩,d2⟩:=PM.moveB_disp q.1.1 q.2.2 q.1.2 hy
   obtain ⟨l1,l2⟩:=LO_ok q.1.1 q.2
   rw [show DP.fin p lv top dn (some y)=(PM.dist p ⟨lv,top,dn⟩ y,0) from rfl]
   simp only [if_true]
   rw [e1 k (by omega),e2 k (by omega),l1,l2]
   simp only [Option.bind_some,if_true]
   have hv:=vl_le63 q.1.1 q.2.2 (by have:=PM.det_bd q.2;omega)
   have oy:=PM.moveB_ok q.1.1 q.2.2 hy
   have db:PM.dist p ⟨lv,top,dn⟩ y≤24:=by
    have b1:=PM.jl_bd p q.1.2 oy
    have b2:=q.1.2.2.1
    have b3:=oy.2.1
    unfold PM.dist
    simp only at b2 ⊢;omega
   rcases lenK_cases p a b c d with ⟨k2,k1,ke,kt⟩|⟨k1,k2⟩
   ·
    have d2:=d2 kt
    rw [k2,if_neg (by omega)]
    rw [ke] at k1 ⊢
    rw [if_pos (by omega),w64 (by omega) (by omega),Int.tmod_eq_emod_of_nonneg (by omega)]
    simp only [Option.some.injEq,beq_iff_eq]
    omega
   ·
    rw [k1,k2]
    by_cases o:(vl p (a*d - b*c):Int) % 2=1
    ·
     rw [if_pos o,if_pos (by omega),w64 (by omega) (by omega),Int.tmod_eq_emod_of_nonneg (by omega)]
     simp only [Option.some.injEq,beq_iff_eq]
     omega
    ·
     rw [if_neg o,if_pos (by omega),w64 (by omega) (by omega),Int.tmod_eq_emod_of_nonneg (by omega)]
     simp only [Option.some.injEq,beq_iff_eq]
     omega
 ·
  rw [if_neg q];simp
theorem FnTranslations:laws_FnTranslations.Pure:=by
 intro l _ _ hw
 have hb:Byt l:=fun x hx=>by
  have:=hw x hx
  simp [Lit.wf,IntKind.min,IntKind.max,IntKind.bits,IntKind.signed] at this;omega
 by_cases hl:(l.length:Int)>4096
 ·
  exact ⟨0,by unfold laws_FnTranslations.f laws_big.f;rw [decide_eq_true hl];simp⟩
 have hl2:l.length≤4096:=by omega
 obtain ⟨p,a,b,c,d,lv,top,dn,e0⟩:=l04With_ok hb hl2
 obtain ⟨K1,e1⟩:=DP.impl_res p a b c d lv top dn
 obtain ⟨K2,e2⟩:=DP.spec_res p a b c d lv top dn
 obtain ⟨K3,e3⟩:=LO.impl_res p a b c d
 obtain ⟨K4,e4⟩:=LO.spec_res p a b c d
 obtain ⟨K5,e5⟩:=KO.impl_res p a b c d
 obtain ⟨K6,e6⟩:=KO.spec_res p a b c d
 obtain ⟨K7,q,f,g,h,i,l2,t2,d2,r,e7⟩:∃ K q f g h i l2 t2 d2 r,∀ k,K≤k→spec_DrawFixedBalls.f k l=some (q,f,g,h,i,l2,t2,d2,r):=by
  obtain ⟨h0,f0⟩:=from_ok l hl2
  obtain ⟨r,t1,h1,f1,ht1,_⟩:=pick_in hb hl2 h0 (Int.le_refl 0) [0,1,1,2,2,3,4] (by simp)
  obtain ⟨s,t2,h2,f2,ht2,_,_⟩:=next_ok hb hl2 h1 2 ht1
  have key:∀ k,13841287400+l.length≤k→spec_DrawFixedBalls.f k l=(if p>3 then (if s=0 then some (p,a,b,c,d,0,0,0,mn r 2) else some (p,a,b,c,d,lv,top,dn,mn r 2)) else (if s=0 then some (p,a,b,c,d,0,0,0,r) else some (p,a,b,c,d,lv,top,dn,r))):=fun k hk=>by
   unfold spec_DrawFixedBalls.f
   rw [f0 k (by omega)];simp only [Option.bind_some];rw [e0 k (by omega)];simp only [Option.bind_some];rw [f1];simp only [Option.bind_some];rw [f2];simp only [Option.bind_some]
  by_cases c1:p>3
  ·
   by_cases c2:s=0
   ·
    exact ⟨_,p,a,b,c,d,0,0,0,mn r 2,fun k hk=>by rw [key k hk,if_pos c1,if_pos c2]⟩
   ·
    exact ⟨_,p,a,b,c,d,lv,top,dn,mn r 2,fun k hk=>by rw [key k hk,if_pos c1,if_neg c2]⟩
  ·
   by_cases c2:s=0
   ·
    exact ⟨_,p,a,b,c,d,0,0,0,r,fun k hk=>by rw [key k hk,if_neg c1,if_pos c2]⟩
   ·
    exact ⟨_,p,a,b,c,d,lv,top,dn,r,fun k hk=>by rw [key k hk,if_neg c1,if_neg c2]⟩
 obtain ⟨K8,e8⟩:=FB.impl_res q f g h i l2 t2 d2 r
 obtain ⟨K9,e9⟩:=FB.spec_res q f g h i l2 t2 d2 r
 obtain ⟨Ka,ea⟩:=AB.impl_res q f g h i l2 t2 d2 r
 obtain ⟨Kb,eb⟩:=AB.spec_res q f g h i l2 t2 d2 r
 have hFl:=FB.res_len q f g h i l2 t2 d2 r
 have hAl:=AB.res_len q f g h i l2 t2 d2 r
 obtain ⟨Kc,ec⟩:=last_ok p a b c d lv top dn
 -- inverses
 have inv:∃ K,∀ k,K≤k→laws_FnTranslations.l1 (k+1) p (DP.res p a b c d lv top dn).1 (DP.res p a b c d lv top dn).2 p (LO.res p a b c d).1 (LO.res p a b c d).2 (KO.res p a b c d).1 q (AB.res q f g h i l2 t2 d2 r).1 ((AB.res q f g h i l2 t2 d2 r).1.length:Int) a b c d a b c d f g h i=some true:=by
  by_cases z:(LO.res p a b c d).2=0
  ·
   have hc:Pr p∧PM.isM a b c d:=by
    unfold LO.res at z
    by_cases w:Pr p∧PM.isM a b c d
    ·
     exact w
    ·
     rw [if_neg w] at z;simp at z
   obtain ⟨hp,hm⟩:=hc
   obtain ⟨l1,l2'⟩:=LO_ok hp hm
   have hdet':d*a - -b * -c≠0:=by intro w;apply hm.2;grind
   have hinv:PM.isM (PM.red d (-b) (-c) a).1 (PM.red d (-b) (-c) a).2.1 (PM.red d (-b) (-c) a).2.2.1 (PM.red d (-b) (-c) a).2.2.2:=(PM.red_isM hdet').mpr (PM.red_small (isM_inv hm))
   obtain ⟨m1,m2⟩:=LO_ok hp hinv
   rw [lenK_inv hp hm] at m1 m2
   obtain ⟨Ki,ei⟩:=IM.impl_res a b c d
   have ri:IM.res a b c d=((PM.red d (-b) (-c) a).1,(PM.red d (-b) (-c) a).2.1,(PM.red d (-b) (-c) a).2.2.1,(PM.red d (-b) (-c) a).2.2.2,0):=by unfold IM.res;rw [if_pos hm]
   obtain ⟨Kx,ex⟩:=LO.impl_res p (PM.red d (-b) (-c) a).1 (PM.red d (-b) (-c) a).2.1 (PM.red d (-b) (-c) a).2.2.1 (PM.red d (-b) (-c) a).2.2.2
   obtain ⟨Ky,ey⟩:=KO.impl_res p (PM.red d (-b) (-c) a).1 (PM.red d (-b) (-c) a).2.1 (PM.red d (-b) (-c) a).2.2.1 (PM.red d (-b) (-c) a).2.2.2
   have hk:(((lenK p a b c d).2 == 2) != decide ((lenK p a b c d).1>0))=false:=by
    rcases lenK_cases p a b c d with ⟨k2,k1,_,_⟩|⟨k1,k2⟩
    ·
     rw [k2,decide_eq_true k1];rfl
    ·
     rw [k1,k2]
     have:((vl p (a*d - b*c):Int) % 2 == 2)=false:=by rw [beq_eq_false_iff_ne];omega
     rw [this];rfl
   refine ⟨Ki+Kx+Ky+Kc,fun k hk'=>?_⟩
   simp only [laws_FnTranslations.l1]
   rw [if_neg (by omega),if_pos z,ei k (by omega),ri]
   simp only [Option.bind_some]
   rw [ex k (by omega),ey k (by omega),m1,m2,l1,l2']
   simp only [Option.bind_some,if_true,hk,Bool.false_eq_true,if_false]
   exact ec k (by omega)
  ·
   refine ⟨Kc,fun k hk'=>?_⟩
   simp only [laws_FnTranslations.l1]
   rw [if_neg (by omega),if_neg z]
   exact ec k (by omega)
 obtain ⟨Kd,ed⟩:=inv
 have hA:∃ K,∀ (w n k:Nat),n+w=(AB.res q f g h i l2 t2 d2 r).1.length→K+w≤k→laws_FnTranslations.l1 k p (DP.res p a b c d lv top dn).1 (DP.res p a b c d lv top dn).2 p (LO.res p a b c d).1 (LO.res p a b c d).2 (KO.res p a b c d).1 q (AB.res q f g h i l2 t2 d2 r).1 (n:Int) a b c d a b c d f g h i=some true:=by
  by_cases z:(AB.res q f g h i l2 t2 d2 r).1.length=0
  ·
   refine ⟨Kd+1,fun w n k hn hk=>?_⟩
   obtain ⟨k,rfl⟩:∃ m,k=m+1:=⟨k - 1,by omega⟩
   have:=ed k (by omega)
   rwa [show ((AB.res q f g h i l2 t2 d2 r).1.length:Int)=(n:Int) by omega] at this
  ·
   obtain ⟨_,_,hq,hm,_⟩:=AB_at (p:=q) (a:=f) (b:=g) (c:=h) (d:=i) (lv:=l2) (top:=t2) (dn:=d2) (r:=r) (i:=0) (by omega)
   obtain ⟨KL,eL⟩:=LO.impl_res q f g h i
   obtain ⟨rL,_⟩:=LO_ok hq hm
   -- one bound for all balls
   have all:∃ K,∀ n,n<(AB.res q f g h i l2 t2 d2 r).1.length→∃ x,(AB.res q f g h i l2 t2 d2 r).1[n]?=some (enB x)∧∀ k,K≤k→impl_DisplacementOf.f k q f g h i x.lv x.top x.dn=some ((lenK q f g h i).1,0):=by
    obtain ⟨KM,hM⟩:=IsMatrix_eq f g h i
    refine ⟨KM+13841287402,fun n hn=>?_⟩
    obtain ⟨x,hx,_,_,ox,y,hy,hd⟩:=AB_at hn
    refine ⟨x,hx,fun k hk=>?_⟩
    obtain ⟨k,rfl⟩:∃ j,k=j+1:=⟨k - 1,by omega⟩
    have oy:=PM.moveB_ok hq hm.2 hy
    unfold impl_DisplacementOf.f impl_MoveBall.f
    rw [IsBall_eq q x.lv x.top x.dn _ (by omega),decide_eq_true (show Pr q∧PM.Ok q ⟨x.lv,x.top,x.dn⟩ from ⟨hq,ox⟩)]
    simp only [Option.bind_some,if_true]
    rw [hM _ (by omega),decide_eq_true hm]
    simp only [Option.bind_some,impl_MoveBall.j0]
    rw [if_neg (by simp),moveBall_eq (lv:=x.lv) (top:=x.top) (dn:=x.dn) hq hm ox k (by omega),show PM.moveB q f g h i ⟨x.lv,x.top,x.dn⟩=some y from hy]
    simp only [enc,impl_fitted.f,if_true,Option.bind_some]
    rw [distance_eq (l1:=x.lv) (t1:=x.top) (d1:=x.dn) (l2:=y.lv) (t2:=y.top) (d2:=y.dn) hq ox oy _ (by omega)]
    simp only [Option.bind_some]
    rw [show PM.dist q ⟨x.lv,x.top,x.dn⟩ ⟨y.lv,y.top,y.dn⟩=_ from hd]
   obtain ⟨KA,eA⟩:=all
   refine ⟨Kd+KL+KA+1,fun w=>?_⟩
   induction w with
   | zero=>
    intro n k hn hk
    obtain ⟨k,rfl⟩:∃ m,k=m+1:=⟨k - 1,by omega⟩
    have:=ed k (by omega)
    rwa [show ((AB.res q f g h i l2 t2 d2 r).1.length:Int)=(n:Int) by omega] at this
   | succ w ih=>
    intro n k hn hk
    obtain ⟨k,rfl⟩:∃ m,k=m+1:=⟨k - 1,by omega⟩
    obtain ⟨x,hx,ex⟩:=eA n (by omega)
    simp only [laws_FnTranslations.l1]
    rw [if_pos (by omega),if_pos (by omega),rdB9 _ _ _ hx]
    simp only [enB]
    rw [ex k (by omega),eL k (by omega),rL]
    simp only [Option.bind_some,if_true]
    rw [w64 (n:=(n:Int)+1) (by omega) (by omega),show (n:Int)+1=((n+1:Nat):Int) by omega]
    exact ih (n+1) k (by omega) (by omega)
 obtain ⟨Ke,ee⟩:=hA
 have hF:∃ K,∀ (w n k:Nat),n+w=(FB.res q f g h i l2 t2 d2 r).1.length→K+w≤k→laws_FnTranslations.l0 k p (DP.res p a b c d lv top dn).1 (DP.res p a b c d lv top dn).2 p (LO.res p a b c d).1 (LO.res p a b c d).2 (KO.res p a b c d).1 q (FB.res q f g h i l2 t2 d2 r).1 (AB.res q f g h i l2 t2 d2 r).1 (n:Int) a b c d a b c d f g h i=some true:=by
  have all:∃ K,∀ n,n<(FB.res q f g h i l2 t2 d2 r).1.length→∃ x,(FB.res q f g h i l2 t2 d2 r).1[n]?=some (enB x)∧∀ k,K≤k→impl_MoveBall.f k q f g h i x.lv x.top x.dn=some (x.lv,x.top,x.dn,0):=by
   obtain ⟨KM,hM⟩:=IsMatrix_eq f g h i
   refine ⟨KM+13841287402,fun n hn=>?_⟩
   obtain ⟨x,hx,hq,hm,ox,hy⟩:=FB_at hn
   refine ⟨x,hx,fun k hk=>?_⟩
   obtain ⟨k,rfl⟩:∃ j,k=j+1:=⟨k - 1,by omega⟩
   unfold impl_MoveBall.f
   rw [IsBall_eq q x.lv x.top x.dn _ (by omega),decide_eq_true (show Pr q∧PM.Ok q ⟨x.lv,x.top,x.dn⟩ from ⟨hq,ox⟩)]
   simp only [Option.bind_some,if_true]
   rw [hM _ (by omega),decide_eq_true hm]
   simp only [Option.bind_some,impl_MoveBall.j0]
   rw [if_neg (by simp),moveBall_eq (lv:=x.lv) (top:=x.top) (dn:=x.dn) hq hm ox k (by omega),show PM.moveB q f g h i ⟨x.lv,x.top,x.dn⟩=some x from hy]
   simp only [enc,impl_fitted.f,if_true,Option.bind_some]
  obtain ⟨KA,eA⟩:=all
  refine ⟨Ke+KA+(AB.res q f g h i l2 t2 d2 r).1.length+1,fun w=>?_⟩
  induction w with
  | zero=>
   intro n k hn hk
   obtain ⟨k,rfl⟩:∃ m,k=m+1:=⟨k - 1,by omega⟩
   simp only [laws_FnTranslations.l0]
   rw [if_neg (by omega)]
   exact ee (AB.res q f g h i l2 t2 d2 r).1.length 0 k (by omega) (by omega)
  | succ w ih=>
   intro n k hn hk
   obtain ⟨k,rfl⟩:∃ m,k=m+1:=⟨k - 1,by omega⟩
   obtain ⟨x,hx,ex⟩:=eA n (by omega)
   simp only [laws_FnTranslations.l0]
   rw [if_pos (by omega),if_pos (by omega),rdB9 _ _ _ hx]
   simp only [enB]
   rw [ex k (by omega)]
   simp only [Option.bind_some,if_true,beq_self_eq_true,Bool.not_true,Bool.or_false,Bool.false_eq_true,if_false]
   rw [w64 (n:=(n:Int)+1) (by omega) (by omega),show (n:Int)+1=((n+1:Nat):Int) by omega]
   exact ih (n+1) k (by omega) (by omega)
 obtain ⟨Kf,ef⟩:=hF
 refine ⟨13841287400+l.length+K1+K2+K3+K4+K5+K6+K7+K8+K9+Ka+Kb+Kf+(FB.res q f g h i l2 t2 d2 r).1.length+(AB.res q f g h i l2 t2 d2 r).1.length+10+1+1+1+1+1,?_⟩
 unfold laws_FnTranslations.f laws_big.f
 rw [decide_eq_false hl]
 simp only [Option.bind_some]
 rw [if_neg (by simp)]
 unfold spec_DrawDisplacementOf.f
 rw [e0 _ (by omega)];simp only [Option.bind_some]
 rw [e1 _ (by omega),e2 _ (by omega)];simp only [Option.bind_some,if_true,bne_self_eq_false]
 simp only [laws_FnTranslations.j0]
 rw [if_neg (by simp)]
 unfold spec_DrawLengthOf.f
 rw [e0 _ (by omega)];simp only [Option.bind_some]
 rw [e3 _ (by omega),e4 _ (by omega)];simp only [Option.bind_some,if_true,bne_self_eq_false]
 simp only [laws_FnTranslations.j1]
 rw [if_neg (by simp),e5 _ (by omega),e6 _ (by omega)];simp only [Option.bind_some,if_true,bne_self_eq_false]
 simp only [laws_FnTranslations.j2]
 rw [if_neg (by simp),e7 _ (by omega)];simp only [Option.bind_some]
 rw [e8 _ (by omega),e9 _ (by omega)];simp only [Option.bind_some,if_true]
 rw [balls9_eq _ (by omega) _ (by omega)];simp only [Option.bind_some]
 simp only [laws_FnTranslations.j3]
 rw [if_neg (by simp),ea _ (by omega),eb _ (by omega)];simp only [Option.bind_some,if_true]
 rw [balls9_eq _ (by omega) _ (by omega)];simp only [Option.bind_some]
 simp only [laws_FnTranslations.j4]
 rw [if_neg (by simp)]
 exact ef (FB.res q f g h i l2 t2 d2 r).1.length 0 _ (by omega) (by omega)

end Go.Proofs.Ytlpmefmaplhfdaa.Pure
