/- Plain mathematics: valuations, powers, balls told by their marks. -/
namespace PM
/-- the primes of the program -/
def Pr (p:Int):Prop:=p=2∨p=3∨p=5∨p=7
instance (p:Int):Decidable (Pr p):=by unfold Pr;infer_instance
theorem Pr.pos {p:Int} (h:Pr p):2≤p:=by unfold Pr at h;omega
theorem Pr.le {p:Int} (h:Pr p):p≤7:=by unfold Pr at h;omega

theorem pw_pos {p:Int} (h:Pr p) (k:Nat):0<p ^ k:=Int.pow_pos (by have:=h.pos;omega)
theorem pow_mono {p:Int} (h:1≤p) {a b:Nat} (hab:a≤b):p ^ a≤p ^ b:=by
 obtain ⟨c,rfl⟩:=Nat.exists_eq_add_of_le hab
 rw [Int.pow_add]
 have h1:0<p ^ a:=Int.pow_pos (by omega)
 have h2:0<p ^ c:=Int.pow_pos (by omega)
 have:p ^ a*1≤p ^ a*p ^ c:=Int.mul_le_mul_of_nonneg_left (by omega) (by omega)
 omega
theorem pow_dvd_pow {p:Int} {a b:Nat} (hab:a≤b):p ^ a ∣ p ^ b:=by
 obtain ⟨c,rfl⟩:=Nat.exists_eq_add_of_le hab
 rw [Int.pow_add];exact Int.dvd_mul_right ..

theorem gcd_one {p:Int} (hp:Pr p) {a:Int} (h:¬ p ∣ a):Int.gcd p a=1:=by
 have h1:(Int.gcd p a:Int) ∣ p:=Int.gcd_dvd_left ..
 have h2:(Int.gcd p a:Int) ∣ a:=Int.gcd_dvd_right ..
 have h3:Int.gcd p a≠0:=by
  intro h0;rw [h0] at h1;have:=Int.zero_dvd.1 h1;have:=hp.pos;omega
 have h4:(Int.gcd p a:Int)≤p:=Int.le_of_dvd (by have:=hp.pos;omega) h1
 generalize hg:Int.gcd p a=g at *
 have hc:g=1∨(g:Int)=p:=by
  unfold Pr at hp
  rcases hp with rfl|rfl|rfl|rfl <;> 
   (have:g≤7:=by omega) <;>
   (match g,this with
    | 0,_=>omega|1,_=>omega|2,_=>omega|3,_=>omega|4,_=>omega|5,_=>omega|6,_=>omega|7,_=>omega)
 rcases hc with h|hc
 ·
  exact h
 ·
  rw [hc] at h2;exact absurd h2 h

theorem dvd_of_dvd_mul_right_of_gcd_one {a b c:Int} (h:a ∣ b*c) (hg:Int.gcd a b=1):a ∣ c:=by
 have h1:a.natAbs ∣ b.natAbs*c.natAbs:=by rw [← Int.natAbs_mul];exact Int.natAbs_dvd_natAbs.2 h
 have h2:a.natAbs ∣ c.natAbs:=Nat.Coprime.dvd_of_dvd_mul_left (n:=c.natAbs) (m:=b.natAbs) (k:=a.natAbs) hg h1
 exact Int.natAbs_dvd_natAbs.1 h2

theorem prime_dvd_mul {p:Int} (hp:Pr p) {a b:Int} (h:p ∣ a*b):p ∣ a∨p ∣ b:=by
 by_cases ha:p ∣ a
 ·
  exact Or.inl ha
 ·
  exact Or.inr (dvd_of_dvd_mul_right_of_gcd_one h (gcd_one hp ha))

theorem not_dvd_mul {p:Int} (hp:Pr p) {a b:Int} (ha:¬ p ∣ a) (hb:¬ p ∣ b):¬ p ∣ a*b:=fun h=>(prime_dvd_mul hp h).elim ha hb

theorem pow_dvd_mul_unit {p:Int} (hp:Pr p) {u:Int} (hu:¬ p ∣ u):∀ (k:Nat) {a:Int},p ^ k ∣ a*u→p ^ k ∣ a
 | 0,a,_=>by simp
 | k+1,a,h=>by
  have h1:p ∣ a*u:=Int.dvd_trans ⟨p ^ k,by rw [Int.pow_succ,Int.mul_comm]⟩ h
  rcases prime_dvd_mul hp h1 with ⟨c,rfl⟩|h2
  ·
   have h3:p ^ k ∣ c*u:=by
    rw [Int.pow_succ,Int.mul_comm,Int.mul_assoc] at h
    exact Int.dvd_of_mul_dvd_mul_left (by have:=hp.pos;omega) h
   rw [Int.pow_succ,Int.mul_comm]
   exact Int.mul_dvd_mul_left _ (pow_dvd_mul_unit hp hu k h3)
  ·
   exact absurd h2 hu

theorem pow_mul_dvd_iff {p:Int} (hp:Pr p) (k j:Nat) {a:Int}:p ^ (k+j) ∣ p ^ j*a↔p ^ k ∣ a:=by
 rw [Nat.add_comm,Int.pow_add]
 exact Int.mul_dvd_mul_iff_left (by have:=pw_pos hp j;omega)

/-- valuation with fuel -/
def vF (p:Int):Nat→Int→Nat
 | 0,_=>0
 | k+1,n=>if p ∣ n then vF p k (n / p)+1 else 0
/-- the valuation of a number other than 0 -/
def vl (p n:Int):Nat:=vF p n.natAbs n

theorem vF_spec {p:Int} (hp:Pr p):∀ (k:Nat) (n:Int),n≠0→n.natAbs≤k→p ^ (vF p k n) ∣ n∧¬ p ^ (vF p k n+1) ∣ n
 | 0,n,h0,h=>by omega
 | k+1,n,h0,h=>by
  unfold vF
  split
  ·
   rename_i hd
   obtain ⟨c,rfl⟩:=hd
   have hp2:=hp.pos
   have hc:c≠0:=by intro h;subst h;simp at h0
   have e:p*c / p=c:=Int.mul_ediv_cancel_left _ (by omega)
   rw [e]
   have hle:c.natAbs≤k:=by
    have:(p*c).natAbs=p.natAbs*c.natAbs:=Int.natAbs_mul ..
    have:2*c.natAbs≤p.natAbs*c.natAbs:=Nat.mul_le_mul_right _ (by omega)
    omega
   obtain ⟨h1,h2⟩:=vF_spec hp k c hc hle
   constructor
   ·
    rw [Int.pow_succ,Int.mul_comm];exact Int.mul_dvd_mul_left _ h1
   ·
    intro h3;apply h2
    rw [Int.pow_succ,Int.mul_comm] at h3
    exact Int.dvd_of_mul_dvd_mul_left (by omega) h3
  ·
   rename_i hd
   exact ⟨by simp,by simpa [Int.pow_one] using hd⟩

theorem vl_dvd {p:Int} (hp:Pr p) {n:Int} (h:n≠0):p ^ (vl p n) ∣ n:=(vF_spec hp _ n h (Nat.le_refl _)).1
theorem vl_not {p:Int} (hp:Pr p) {n:Int} (h:n≠0):¬ p ^ (vl p n+1) ∣ n:=(vF_spec hp _ n h (Nat.le_refl _)).2
theorem le_vl_iff {p:Int} (hp:Pr p) {n:Int} (h:n≠0) (k:Nat):k≤vl p n↔p ^ k ∣ n:=by
 constructor
 ·
  intro hk;exact Int.dvd_trans (pow_dvd_pow hk) (vl_dvd hp h)
 ·
  intro hk
  refine Decidable.byContradiction fun hlt=>vl_not hp h ?_
  exact Int.dvd_trans (pow_dvd_pow (by omega)) hk
theorem vl_unique {p:Int} (hp:Pr p) {n:Int} (h:n≠0) {k:Nat} (h1:p ^ k ∣ n) (h2:¬ p ^ (k+1) ∣ n):vl p n=k:=by
 have a:=(le_vl_iff hp h k).2 h1
 have b:¬ (k+1≤vl p n):=fun hh=>h2 ((le_vl_iff hp h (k+1)).1 hh)
 omega
/-- n = p^v u, u no multiple of p -/
theorem vl_split {p:Int} (hp:Pr p) {n:Int} (h:n≠0):∃ u,n=p ^ (vl p n)*u∧¬ p ∣ u∧u≠0:=by
 obtain ⟨u,hu⟩:=vl_dvd hp h
 refine ⟨u,hu,?_,?_⟩
 ·
  intro ⟨c,hc⟩
  exact vl_not hp h ⟨c,by rw [Int.pow_succ,Int.mul_assoc,← hc];exact hu⟩
 ·
  intro h0;subst h0;simp at hu;exact h hu
theorem vl_of_split {p:Int} (hp:Pr p) {u:Int} (hu:¬ p ∣ u) (k:Nat):vl p (p ^ k*u)=k:=by
 have hk:=pw_pos hp k
 have hu0:u≠0:=by intro h;subst h;simp at hu
 apply vl_unique hp
 ·
  exact Int.mul_ne_zero (by omega) hu0
 ·
  exact Int.dvd_mul_right ..
 ·
  intro h
  have:p ^ (1+k) ∣ p ^ k*u:=by rw [Nat.add_comm];exact h
  rw [pow_mul_dvd_iff hp 1 k] at this
  rw [Int.pow_one] at this;exact hu this
theorem vl_mul {p:Int} (hp:Pr p) {a b:Int} (ha:a≠0) (hb:b≠0):vl p (a*b)=vl p a+vl p b:=by
 obtain ⟨u,hu,hu1,_⟩:=vl_split hp ha
 obtain ⟨v,hv,hv1,_⟩:=vl_split hp hb
 have:a*b=p ^ (vl p a+vl p b)*(u*v):=by
  rw [Int.pow_add];conv=>lhs;rw [hu,hv]
  grind
 rw [this]
 exact vl_of_split hp (not_dvd_mul hp hu1 hv1) _
theorem vl_pow {p:Int} (hp:Pr p) (k:Nat):vl p (p ^ k)=k:=by
 have:=vl_of_split hp (u:=1) (by intro h;have:=Int.le_of_dvd (by omega) h;have:=hp.pos;omega) k
 simpa using this
theorem vl_neg (p:Int) (n:Int) (hp:Pr p):vl p (-n)=vl p n:=by
 by_cases h:n=0
 ·
  subst h;rfl
 ·
  apply vl_unique hp (by omega)
  ·
   exact (Int.dvd_neg).2 (vl_dvd hp h)
  ·
   intro h2;exact vl_not hp h ((Int.dvd_neg).1 h2)
theorem vl_zero_iff {p:Int} (hp:Pr p) {n:Int} (h:n≠0):vl p n=0↔¬ p ∣ n:=by
 have:=le_vl_iff hp h 1
 rw [Int.pow_one] at this
 constructor
 ·
  intro h0 h1;have:=this.2 h1;omega
 ·
  intro h1;rcases Nat.eq_zero_or_pos (vl p n) with h|h2
  ·
   exact h
  ·
   exact absurd (this.1 h2) h1
theorem vl_lt_of_abs {p:Int} (hp:Pr p) {n:Int} (h:n≠0) {k:Nat} (hk:n.natAbs<p ^ k):vl p n<k:=by
 refine Decidable.byContradiction fun hlt=>?_
 have h1:=(le_vl_iff hp h k).1 (by omega)
 have h2:p ^ k ∣ (n.natAbs:Int):=Int.dvd_natAbs.2 h1
 have h3:=Int.le_of_dvd (by omega) h2
 omega
end PM
namespace PM
/-- the power as the program has it: 1 for an exponent below 0 -/
def pw (p k:Int):Int:=p ^ k.toNat
theorem pw_pos2 {p:Int} (hp:Pr p) (k:Int):0<pw p k:=pw_pos hp _
theorem pw_add {p:Int} {a b:Int} (ha:0≤a) (hb:0≤b):pw p (a+b)=pw p a*pw p b:=by
 unfold pw;rw [← Int.pow_add];congr 1;omega
theorem pw_dvd {p:Int} {a b:Int} (h:a≤b):pw p a ∣ pw p b:=pow_dvd_pow (by omega)
theorem pw_le {p:Int} (hp:Pr p) {a b:Int} (h:a≤b):pw p a≤pw p b:=pow_mono (by have:=hp.pos;omega) (by omega)
theorem pw_zero (p:Int):pw p 0=1:=by simp [pw]
theorem pw_one (p:Int):pw p 1=p:=by simp [pw,Int.pow_one]
theorem pw_mul_dvd_iff {p:Int} (hp:Pr p) {k j:Int} (hk:0≤k) (hj:0≤j) {a:Int}:pw p (k+j) ∣ pw p j*a↔pw p k ∣ a:=by
 unfold pw;rw [show (k+j).toNat=k.toNat+j.toNat from by omega];exact pow_mul_dvd_iff hp _ _
/-- the valuation as the program has it: 1000 for 0 -/
def vz (p n:Int):Int:=if n=0 then 1000 else (vl p n:Int)
theorem vz_nonneg (p n:Int):0≤vz p n:=by unfold vz;split <;> omega
theorem vz_of_ne {p n:Int} (h:n≠0):vz p n=(vl p n:Int):=by simp [vz,h]
theorem pw_vl_dvd {p:Int} (hp:Pr p) {n:Int} (h:n≠0):pw p (vl p n) ∣ n:=by
 have:=vl_dvd hp h;simpa [pw] using this
theorem le_vl_iff' {p:Int} (hp:Pr p) {n:Int} (h:n≠0) {k:Int} (hk:0≤k):k≤(vl p n:Int)↔pw p k ∣ n:=by
 have:=le_vl_iff hp h k.toNat;unfold pw;rw [← this];omega

/-- a ball of level lv with Top and Down -/
structure Ball where
 lv:Int
 top:Int
 dn:Int
deriving DecidableEq
def Ok (p:Int) (b:Ball):Prop:=
 -6≤b.lv∧b.lv≤6∧0≤b.dn∧b.dn≤6∧
 ((b.lv+b.dn≤0∧b.top=0∧b.dn=0)∨(0<b.lv+b.dn∧0≤b.top∧b.top<pw p (b.lv+b.dn)∧(b.dn=0∨¬ p ∣ b.top)))
instance (p:Int) (b:Ball):Decidable (Ok p b):=by unfold Ok;infer_instance
/-- the centre times p^6 -/
def mark (p:Int) (b:Ball):Int:=b.top*pw p (6 - b.dn)
/-- the ball of a level with a mark -/
def mk (p lv x:Int):Ball:=
 let d:=max (6 - vz p x) 0
 ⟨lv,x / pw p (6 - d),d⟩

theorem mark_bd {p:Int} (hp:Pr p) {b:Ball} (h:Ok p b):0≤mark p b∧mark p b<pw p (b.lv+6):=by
 obtain ⟨h1,h2,h3,h4,h5⟩:=h
 unfold mark
 have hpos:=pw_pos2 hp (6 - b.dn)
 rcases h5 with ⟨h5,h6,h7⟩|⟨h5,h6,h7,h8⟩
 ·
  rw [h6];simp;exact pw_pos2 hp _
 ·
  constructor
  ·
   exact Int.mul_nonneg h6 (by omega)
  ·
   have:pw p (b.lv+6)=pw p (b.lv+b.dn)*pw p (6 - b.dn):=by
    rw [← pw_add (by omega) (by omega)];congr 1;omega
   rw [this]
   exact Int.mul_lt_mul_of_pos_right h7 hpos

theorem vz_mul_pw {p:Int} (hp:Pr p) {u:Int} (hu:¬ p ∣ u) {k:Int} (hk:0≤k):vz p (u*pw p k)=k:=by
 have hpos:=pw_pos2 hp k
 have hu0:u≠0:=by intro h;subst h;simp at hu
 rw [vz_of_ne (Int.mul_ne_zero hu0 (by omega)),Int.mul_comm]
 unfold pw;rw [vl_of_split hp hu];omega

theorem mk_mark {p:Int} (hp:Pr p) {b:Ball} (h:Ok p b):mk p b.lv (mark p b)=b:=by
 obtain ⟨lv,top,dn⟩:=b
 obtain ⟨h1,h2,h3,h4,h5⟩:=h
 simp only at h1 h2 h3 h4 h5
 unfold mk mark
 simp only
 have hpos:=pw_pos2 hp (6 - dn)
 by_cases h0:top=0
 ·
  subst h0
  have hd:dn=0:=by
   rcases h5 with ⟨_,_,h7⟩|⟨_,_,_,h8⟩
   ·
    exact h7
   ·
    rcases h8 with h8|h8
    ·
     exact h8
    ·
     simp at h8
  subst hd
  simp only [vz,if_true,Int.zero_mul,Int.zero_ediv]
  rw [show max ((6:Int) - 1000) 0=0 from by omega]
 ·
  rcases h5 with ⟨_,h6,_⟩|⟨h5,h6,h7,h8⟩
  ·
   exact absurd h6 h0
  ·
   rcases h8 with h8|h8
   ·
    subst h8
    have hm:max (6 - vz p (top*pw p (6 - 0))) 0=0:=by
     have hne:top*pw p (6 - 0)≠0:=Int.mul_ne_zero h0 (by omega)
     have:(6:Int)≤vl p (top*pw p (6 - 0)):=by
      rw [le_vl_iff' hp hne (by omega)]
      exact Int.dvd_mul_left ..
     rw [vz_of_ne hne];omega
    rw [hm]
    rw [Int.mul_ediv_cancel _ (by omega)]
   ·
    rw [vz_mul_pw hp h8 (by omega)]
    have hm:max (6 - (6 - dn)) 0=dn:=by omega
    rw [hm,Int.mul_ediv_cancel _ (by omega)]

theorem ok_mk {p:Int} (hp:Pr p) {lv x:Int} (h1 : -6≤lv) (h2:lv≤6) (h3:0≤x) (h4:x<pw p (lv+6)):Ok p (mk p lv x)∧mark p (mk p lv x)=x:=by
 unfold mk mark Ok
 simp only
 by_cases h0:x=0
 ·
  subst h0
  simp only [vz,if_true,Int.zero_ediv]
  rw [show max ((6:Int) - 1000) 0=0 from by omega]
  refine ⟨⟨h1,h2,by omega,by omega,?_⟩,by simp⟩
  by_cases h:lv≤0
  ·
   exact Or.inl ⟨by omega,by simp⟩
  ·
   exact Or.inr ⟨by omega,by omega,pw_pos2 hp _,Or.inl rfl⟩
 ·
  have hv:=vz_of_ne (p:=p) h0
  by_cases h6:6≤vz p x
  ·
   have hm:max (6 - vz p x) 0=0:=by omega
   rw [hm]
   have hd:pw p 6 ∣ x:=by rw [← le_vl_iff' hp h0 (by omega)];omega
   have hp6:=pw_pos2 hp 6
   have hlv:0<lv:=by
    refine Decidable.byContradiction fun hn=>?_
    have:=Int.le_of_dvd (by omega) hd
    have:=pw_le hp (a:=lv+6) (b:=6) (by omega)
    omega
   have hq:x / pw p 6*pw p 6=x:=Int.ediv_mul_cancel hd
   refine ⟨⟨h1,h2,by omega,by omega,Or.inr ⟨by omega,?_,?_,Or.inl rfl⟩⟩,?_⟩
   ·
    exact Int.ediv_nonneg h3 (by simpa using Int.le_of_lt hp6)
   ·
    simp only [Int.sub_zero,Int.add_zero]
    rw [pw_add (by omega) (by omega)] at h4
    rw [Int.ediv_lt_iff_lt_mul hp6];exact h4
   ·
    simpa using hq
  ·
   have hm:max (6 - vz p x) 0=6 - vz p x:=by omega
   rw [hm]
   have e6:6 - (6 - vz p x)=vz p x:=by omega
   rw [e6]
   have hvn:=vz_nonneg p x
   have hpp:=pw_pos2 hp (vz p x)
   have hd:pw p (vz p x) ∣ x:=by rw [hv];exact pw_vl_dvd hp h0
   have hq:x / pw p (vz p x)*pw p (vz p x)=x:=Int.ediv_mul_cancel hd
   have hlt:vz p x<lv+6:=by
    refine Decidable.byContradiction fun hn=>?_
    have:=Int.le_of_dvd (by omega) hd
    have:=pw_le hp (a:=lv+6) (b:=vz p x) (by omega)
    omega
   refine ⟨⟨h1,h2,by omega,by omega,Or.inr ⟨by omega,?_,?_,Or.inr ?_⟩⟩,hq⟩
   ·
    exact Int.ediv_nonneg h3 (Int.le_of_lt hpp)
   ·
    rw [Int.ediv_lt_iff_lt_mul hpp,← pw_add (by omega) (by omega)]
    rw [show lv+(6 - vz p x)+vz p x=lv+6 from by omega];exact h4
   ·
    intro ⟨c,hc⟩
    have:pw p (vz p x+1) ∣ x:=by
     rw [pw_add hvn (by omega),pw_one]
     rw [hc] at hq
     exact ⟨c,by rw [← hq];grind⟩
    rw [← le_vl_iff' hp h0 (by omega)] at this
    omega

theorem ball_ext_mark {p:Int} (hp:Pr p) {b c:Ball} (hb:Ok p b) (hc:Ok p c) (hl:b.lv=c.lv) (hm:mark p b=mark p c):b=c:=by
 rw [← mk_mark hp hb,← mk_mark hp hc,hl,hm]

/-- r is the mark, up to p^(lv+6), of the fraction num / den -/
def Res (p lv num den r:Int):Prop:=0≤r∧r<pw p (lv+6)∧pw p (lv+6+vl p den) ∣ num*pw p 6 - r*den

theorem res_unique {p:Int} (hp:Pr p) {lv num den r s:Int} (hlv : -6≤lv) (hd:den≠0) (hr:Res p lv num den r) (hs:Res p lv num den s):r=s:=by
 obtain ⟨r1,r2,r3⟩:=hr
 obtain ⟨s1,s2,s3⟩:=hs
 have h1:=Int.dvd_sub r3 s3
 obtain ⟨u,hu,hu1,_⟩:=vl_split hp hd
 have h2:num*pw p 6 - r*den - (num*pw p 6 - s*den)=pw p (vl p den)*((s - r)*u):=by
  have:den=pw p (vl p den)*u:=by simpa [pw] using hu
  generalize pw p (vl p den)=q at *
  subst this;grind
 rw [h2,pw_mul_dvd_iff hp (by omega) (by omega)] at h1
 have h3:pw p (lv+6) ∣ s - r:=pow_dvd_mul_unit hp hu1 _ h1
 have h4:s - r=0:=by
  refine Decidable.byContradiction fun hne=>?_
  have h5:pw p (lv+6) ∣ ((s - r).natAbs:Int):=Int.dvd_natAbs.2 h3
  have:=Int.le_of_dvd (by omega) h5
  omega
 omega
end PM
namespace PM
/-- Euclid's way to the inverse, as the program goes it -/
def invF:Nat→Int→Int→Int→Int→Int
 | 0,_,_,x,_=>x
 | k+1,a,b,x,y=>if b=0 then x else invF k b (a - a / b*b) y (x - a / b*y)

/-- what holds on the way: congruence and size -/
structure Inv (n m a b x y:Int):Prop where
 a0:0≤a
 b0:0≤b
 ca:m ∣ a - x*n
 cb:m ∣ b - y*n
 sg:(0≤x∧y≤0)∨(x≤0∧0≤y)
 sz:a*(y.natAbs:Int)+b*(x.natAbs:Int)=m

theorem Inv.step {n m a b x y:Int} (h:Inv n m a b x y) (hb:b≠0):Inv n m b (a - a / b*b) y (x - a / b*y):=by
 obtain ⟨a0,b0,ca,cb,sg,sz⟩:=h
 have hq:0≤a / b:=Int.ediv_nonneg a0 b0
 have hr:a - a / b*b=a % b:=by rw [Int.emod_def,Int.mul_comm b]
 have hr0:0≤a % b:=Int.emod_nonneg _ hb
 refine ⟨b0,by omega,cb,?_,?_,?_⟩
 ·
  have:=Int.dvd_sub ca (Int.dvd_mul_of_dvd_right (b:=a / b) cb)
  have e:a - x*n - a / b*(b - y*n)=a - a / b*b - (x - a / b*y)*n:=by grind
  rwa [e] at this
 ·
  rcases sg with ⟨h1,h2⟩|⟨h1,h2⟩
  ·
   refine Or.inr ⟨h2,?_⟩
   have:a / b*y≤0:=Int.mul_nonpos_of_nonneg_of_nonpos hq h2
   omega
  ·
   refine Or.inl ⟨h2,?_⟩
   have:0≤a / b*y:=Int.mul_nonneg hq h2
   omega
 ·
  rcases sg with ⟨h1,h2⟩|⟨h1,h2⟩
  ·
   have h3:a / b*y≤0:=Int.mul_nonpos_of_nonneg_of_nonpos hq h2
   rw [Int.natAbs_of_nonneg (show 0≤x - a / b*y by omega)]
   rw [Int.ofNat_natAbs_of_nonpos h2] at sz ⊢
   rw [Int.natAbs_of_nonneg h1] at sz
   grind
  ·
   have h3:0≤a / b*y:=Int.mul_nonneg hq h2
   rw [Int.ofNat_natAbs_of_nonpos (show x - a / b*y≤0 by omega)]
   rw [Int.natAbs_of_nonneg h2] at sz ⊢
   rw [Int.ofNat_natAbs_of_nonpos h1] at sz
   grind

theorem Inv.start {n m:Int} (hn:0≤n) (hm:0≤m):Inv n m n m 1 0:=
 ⟨hn,hm,by simp,by simp,Or.inl ⟨by omega,by omega⟩,by simp⟩

theorem Inv.bd {n m a b x y:Int} (h:Inv n m a b x y):(0<b→x.natAbs≤m)∧(0<a→y.natAbs≤m)∧a≤max n a∧(0<b→0≤a / b*(y.natAbs:Int)∧a / b*(y.natAbs:Int)≤m):=by
 obtain ⟨a0,b0,ca,cb,sg,sz⟩:=h
 have h1:0≤a*(y.natAbs:Int):=Int.mul_nonneg a0 (by omega)
 have h2:0≤b*(x.natAbs:Int):=Int.mul_nonneg b0 (by omega)
 refine ⟨fun hb=>?_,fun ha=>?_,by omega,fun hb=>?_⟩
 ·
  have:1*(x.natAbs:Int)≤b*(x.natAbs:Int):=Int.mul_le_mul_of_nonneg_right (by omega) (by omega)
  omega
 ·
  have:1*(y.natAbs:Int)≤a*(y.natAbs:Int):=Int.mul_le_mul_of_nonneg_right (by omega) (by omega)
  omega
 ·
  have hq:0≤a / b:=Int.ediv_nonneg a0 b0
  have hle:a / b≤a:=Int.ediv_le_self _ a0
  have:a / b*(y.natAbs:Int)≤a*(y.natAbs:Int):=Int.mul_le_mul_of_nonneg_right hle (by omega)
  exact ⟨Int.mul_nonneg hq (by omega),by omega⟩

theorem invF_spec {n m:Int}:∀ (k:Nat) (a b x y:Int),Inv n m a b x y→b<k→m ∣ (Int.gcd a b:Int) - invF k a b x y*n
 | 0,a,b,x,y,h,hk=>by have:=h.b0;omega
 | k+1,a,b,x,y,h,hk=>by
  unfold invF
  split
  ·
   rename_i hb;subst hb
   have:=h.ca
   rw [Int.gcd_zero_right,Int.natAbs_of_nonneg h.a0];exact this
  ·
   rename_i hb
   have h2:=h.step hb
   have h3:a - a / b*b=a % b:=by rw [Int.emod_def,Int.mul_comm b]
   have hlt:a % b<b:=Int.emod_lt_of_pos _ (by have:=h.b0;omega)
   have:=invF_spec k b (a - a / b*b) y (x - a / b*y) h2 (by omega)
   rw [h3] at this ⊢
   have e:Int.gcd b (a % b)=Int.gcd a b:=by
    rw [Int.gcd_comm a b]
    unfold Int.gcd
    rw [show (a % b).natAbs=a.natAbs % b.natAbs from Int.natAbs_emod_of_nonneg h.a0 b]
    rw [Nat.gcd_comm b.natAbs,← Nat.gcd_rec,Nat.gcd_comm]
   rwa [e] at this
end PM
namespace PM
/-- the inverse as the program has it -/
def inv (n m:Int):Int:=invF (m.toNat+2) (n % m) m 1 0 % m
theorem inv_spec {n m:Int} (hm:0<m) (hg:Int.gcd n m=1):m ∣ 1 - inv n m*n:=by
 have h0:0≤n % m:=Int.emod_nonneg _ (by omega)
 have h:=invF_spec (n:=n % m) (m:=m) (m.toNat+2) (n % m) m 1 0 (Inv.start h0 (by omega)) (by omega)
 have e:Int.gcd (n % m) m=1:=by
  rw [← hg]
  have:=Int.gcd_add_mul_left_left m (n % m) (n / m)
  rw [Int.emod_add_mul_ediv] at this
  exact this.symm
 rw [e] at h
 unfold inv
 generalize invF (m.toNat+2) (n % m) m 1 0=r at *
 have h1:m ∣ r - r % m:=Int.dvd_self_sub_emod
 have h2:m ∣ n - n % m:=Int.dvd_self_sub_emod
 obtain ⟨c,hc⟩:=h
 obtain ⟨d,hd⟩:=h1
 obtain ⟨e,he⟩:=h2
 refine ⟨c - r*e+d*n,?_⟩
 have:(1:Int)=m*c+r*(n % m):=by have:=hc;simp at this;omega
 have hn:n % m=n - m*e:=by omega
 have hr:r % m=r - m*d:=by omega
 rw [hr]
 rw [hn] at this
 grind
/-- a number without its factors p -/
def un (p n:Int):Int:=n / pw p (vz p n)
theorem un_spec {p n:Int} (hp:Pr p) (h:n≠0):n=pw p (vl p n)*un p n∧¬ p ∣ un p n:=by
 obtain ⟨u,hu,hu1,_⟩:=vl_split hp h
 have hk:=pw_pos hp (vl p n)
 have e:un p n=u:=by
  unfold un pw;rw [vz_of_ne h];simp only [Int.toNat_natCast]
  conv=>lhs;lhs;rw [hu]
  exact Int.mul_ediv_cancel_left _ (by omega)
 rw [e];exact ⟨by simpa [pw] using hu,hu1⟩
theorem gcd_pw {p u:Int} (hp:Pr p) (hu:¬ p ∣ u) (k:Int):Int.gcd u (pw p k)=1:=by
 have:=gcd_one hp hu
 rw [Int.gcd_comm] at this
 exact Int.gcd_pow_right_of_gcd_eq_one this
/-- whether a fraction has a ball at each level -/
def Fits (p num den:Int):Prop:=num=0∨-6≤vz p num - vz p den
instance (p num den:Int):Decidable (Fits p num den):=by unfold Fits;infer_instance
def inLv (n:Int):Prop:=-6≤n∧n≤6
instance (n:Int):Decidable (inLv n):=by unfold inLv;infer_instance
/-- impl.ballAt -/
def ballAt (p num den lv:Int):Option Ball:=
 if ¬ inLv lv then none else
 if num=0∨lv≤vz p num - vz p den then some ⟨lv,0,0⟩ else
 if vz p num - vz p den < -6 then none else
 some (mk p lv ((un p num*inv (un p den) (pw p (lv+6))) % pw p (lv+6)*pw p (vz p num - vz p den+6) % pw p (lv+6)))
/-- spec.l01Of -/
def lOf (p num den lv:Int):Option Ball:=
 if ¬ inLv lv then none else
 if num=0 then some ⟨lv,0,0⟩ else
 if lv≤vz p num - vz p den then some ⟨lv,0,0⟩ else
 if 6<max (vz p den - vz p num) 0 then none else
 let d:=max (vz p den - vz p num) 0
 some ⟨lv,(un p num*inv (un p den) (pw p (lv+d))) % pw p (lv+d)*pw p (max (vz p num - vz p den) 0) % pw p (lv+d),d⟩

/-- what a ball of a fraction is -/
def IsBallOf (p num den lv:Int):Option Ball→Prop
 | none=>¬ inLv lv∨¬ Fits p num den
 | some b=>inLv lv∧Fits p num den∧Ok p b∧b.lv=lv∧Res p lv num den (mark p b)

theorem IsBallOf.unique {p num den lv:Int} (hp:Pr p) (hd:den≠0) {a b:Option Ball} (ha:IsBallOf p num den lv a) (hb:IsBallOf p num den lv b):a=b:=by
 cases a with
 | none=>cases b with
  | none=>rfl
  | some b=>obtain ⟨h1,h2,_⟩:=hb;rcases ha with ha|ha <;> contradiction
 | some a=>cases b with
  | none=>obtain ⟨h1,h2,_⟩:=ha;rcases hb with hb|hb <;> contradiction
  | some b=>
   obtain ⟨h1,h2,h3,h4,h5⟩:=ha
   obtain ⟨g1,g2,g3,g4,g5⟩:=hb
   rw [ball_ext_mark hp h3 g3 (by omega) (res_unique hp h1.1 hd h5 g5)]

theorem zero_ball {p num den lv:Int} (hp:Pr p) (hl:inLv lv) (h:num=0∨lv≤vz p num - vz p den) (hd:den≠0):IsBallOf p num den lv (some ⟨lv,0,0⟩):=by
 refine ⟨hl,?_,?_,rfl,?_,?_,?_⟩
 ·
  rcases h with h|h
  ·
   exact Or.inl h
  ·
   exact Or.inr (by have:=hl.1;omega)
 ·
  refine ⟨hl.1,hl.2,by simp,by simp,?_⟩
  by_cases h0:lv≤0
  ·
   exact Or.inl ⟨by simpa using h0,rfl,rfl⟩
  ·
   exact Or.inr ⟨by simp;omega,by simp,pw_pos2 hp _,Or.inl rfl⟩
 ·
  simp [mark]
 ·
  simp [mark];exact pw_pos2 hp _
 ·
  simp only [mark,Int.zero_mul,Int.sub_zero]
  by_cases h0:num=0
  ·
   subst h0;simp
  ·
   have h1:lv≤vz p num - vz p den:=h.resolve_left h0
   rw [vz_of_ne h0,vz_of_ne hd] at h1
   have h2:pw p (vl p num) ∣ num:=pw_vl_dvd hp h0
   have h3:pw p (vl p num+6) ∣ num*pw p 6:=by
    rw [pw_add (by omega) (by omega)];exact Int.mul_dvd_mul_right _ h2
   exact Int.dvd_trans (pw_dvd (by omega)) h3

/-- the number modulo m that is num / den, both units -/
theorem quot_spec {p u v:Int} (hp:Pr p) (hv:¬ p ∣ v) (k:Int) (c:Int):pw p k ∣ u*c - (u*inv v (pw p k) % pw p k*c % pw p k)*v:=by
 have hm:=pw_pos2 hp k
 have h1:=inv_spec hm (gcd_pw hp hv k)
 generalize pw p k=m at *
 generalize inv v m=i at *
 have h2:m ∣ u*i % m*c - u*i % m*c % m:=Int.dvd_self_sub_emod
 have h3:m ∣ u*i - u*i % m:=Int.dvd_self_sub_emod
 obtain ⟨a,ha⟩:=h1
 obtain ⟨b,hb⟩:=h2
 obtain ⟨d,hd⟩:=h3
 refine ⟨u*c*a+b*v+d*c*v,?_⟩
 have e1:u*i % m*c % m=u*i % m*c - m*b:=by omega
 have e2:u*i % m=u*i - m*d:=by omega
 rw [e1,e2]
 have:i*v=1 - m*a:=by omega
 grind

theorem ballAt_is {p num den lv:Int} (hp:Pr p) (hd:den≠0):IsBallOf p num den lv (ballAt p num den lv):=by
 unfold ballAt
 by_cases hl:inLv lv
 ·
  rw [if_neg (by simpa using hl)]
  by_cases h1:num=0∨lv≤vz p num - vz p den
  ·
   rw [if_pos h1];exact zero_ball hp hl h1 hd
  ·
   rw [if_neg h1]
   have hn:num≠0:=fun h=>h1 (Or.inl h)
   by_cases h2:vz p num - vz p den < -6
   ·
    rw [if_pos h2]
    refine Or.inr fun hf=>?_
    rcases hf with hf|hf
    ·
     exact hn hf
    ·
     omega
   ·
    rw [if_neg h2]
    have hl1:=hl.1
    have hm:=pw_pos2 hp (lv+6)
    have hx:=quot_spec hp (u:=un p num) (un_spec hp hd).2 (lv+6) (pw p (vz p num - vz p den+6))
    have hx0:=Int.emod_nonneg (un p num*inv (un p den) (pw p (lv+6)) % pw p (lv+6)*pw p (vz p num - vz p den+6)) (b:=pw p (lv+6)) (by omega)
    have hx1:=Int.emod_lt_of_pos (un p num*inv (un p den) (pw p (lv+6)) % pw p (lv+6)*pw p (vz p num - vz p den+6)) hm
    generalize un p num*inv (un p den) (pw p (lv+6)) % pw p (lv+6)*pw p (vz p num - vz p den+6) % pw p (lv+6)=x at *
    have hok:=ok_mk hp hl.1 hl.2 hx0 hx1
    refine ⟨hl,Or.inr (by omega),hok.1,rfl,?_⟩
    rw [hok.2]
    refine ⟨hx0,hx1,?_⟩
    have e1:=(un_spec hp hn).1
    have e2:=(un_spec hp hd).1
    have e3:num*pw p 6=pw p (vl p den)*(un p num*pw p (vz p num - vz p den+6)):=by
     have:pw p (vl p num)*pw p 6=pw p (vl p den)*pw p (vz p num - vz p den+6):=by
      rw [vz_of_ne hn,vz_of_ne hd] at *
      rw [← pw_add (by omega) (by omega),← pw_add (by omega) (by omega)];congr 1;omega
     conv=>lhs;rw [e1]
     grind
    have e4:num*pw p 6 - x*den=pw p (vl p den)*(un p num*pw p (vz p num - vz p den+6) - x*un p den):=by
     rw [e3];conv=>lhs;rhs;rw [e2]
     grind
    rw [e4,pw_mul_dvd_iff hp (by omega) (by omega)]
    exact hx
 ·
  rw [if_pos hl];exact Or.inl hl

theorem lOf_is {p num den lv:Int} (hp:Pr p) (hd:den≠0):IsBallOf p num den lv (lOf p num den lv):=by
 unfold lOf
 by_cases hl:inLv lv
 ·
  rw [if_neg (by simpa using hl)]
  by_cases hn:num=0
  ·
   rw [if_pos hn];exact zero_ball hp hl (Or.inl hn) hd
  ·
   rw [if_neg hn]
   by_cases h1:lv≤vz p num - vz p den
   ·
    rw [if_pos h1];exact zero_ball hp hl (Or.inr h1) hd
   ·
    rw [if_neg h1]
    by_cases h2:6<max (vz p den - vz p num) 0
    ·
     rw [if_pos h2]
     refine Or.inr fun hf=>?_
     rcases hf with hf|hf
     ·
      exact hn hf
     ·
      omega
    ·
     rw [if_neg h2]
     simp only
     obtain ⟨d,hdd⟩:∃ d,max (vz p den - vz p num) 0=d:=⟨_,rfl⟩
     obtain ⟨f,hff⟩:∃ f,max (vz p num - vz p den) 0=f:=⟨_,rfl⟩
     rw [hdd,hff]
     have hl1:=hl.1
     have hl2:=hl.2
     have hm:=pw_pos2 hp (lv+d)
     have hx:=quot_spec hp (u:=un p num) (un_spec hp hd).2 (lv+d) (pw p f)
     have hx0:=Int.emod_nonneg (un p num*inv (un p den) (pw p (lv+d)) % pw p (lv+d)*pw p f) (b:=pw p (lv+d)) (by omega)
     have hx1:=Int.emod_lt_of_pos (un p num*inv (un p den) (pw p (lv+d)) % pw p (lv+d)*pw p f) hm
     generalize un p num*inv (un p den) (pw p (lv+d)) % pw p (lv+d)*pw p f % pw p (lv+d)=x at *
     have e1:=(un_spec hp hn)
     have e2:=(un_spec hp hd)
     refine ⟨hl,Or.inr (by omega),⟨hl1,hl2,by simp only;omega,by simp only;omega,Or.inr ⟨by simp only;omega,hx0,hx1,?_⟩⟩,rfl,?_⟩
     ·
      by_cases h0:d=0
      ·
       exact Or.inl h0
      ·
       refine Or.inr fun hdx=>?_
       have hf0:f=0:=by omega
       subst hf0
       rw [pw_zero,Int.mul_one] at hx
       have hpm:p ∣ pw p (lv+d):=by
        have:=pw_dvd (p:=p) (a:=1) (b:=lv+d) (by omega)
        rwa [pw_one] at this
       have h3:=Int.dvd_trans hpm hx
       have h4:p ∣ un p num:=(Int.dvd_iff_dvd_of_dvd_sub h3).2 (Int.dvd_mul_of_dvd_left hdx)
       exact e1.2 h4
     ·
      have hbd:0≤x*pw p (6 - d)∧x*pw p (6 - d)<pw p (lv+6):=by
       have hq:=pw_pos2 hp (6 - d)
       constructor
       ·
        exact Int.mul_nonneg hx0 (by omega)
       ·
        have:pw p (lv+6)=pw p (lv+d)*pw p (6 - d):=by
         rw [← pw_add (by omega) (by omega)];congr 1;omega
        rw [this];exact Int.mul_lt_mul_of_pos_right hx1 hq
      refine ⟨hbd.1,hbd.2,?_⟩
      unfold mark
      simp only
      have e3:num*pw p 6=pw p (6 - d+vl p den)*(un p num*pw p f):=by
       have:pw p (vl p num)*pw p 6=pw p (6 - d+vl p den)*pw p f:=by
        rw [vz_of_ne hn,vz_of_ne hd] at *
        rw [← pw_add (by omega) (by omega),← pw_add (by omega) (by omega)];congr 1;omega
       conv=>lhs;rw [e1.1]
       grind
      have e4:num*pw p 6 - x*pw p (6 - d)*den=pw p (6 - d+vl p den)*(un p num*pw p f - x*un p den):=by
       rw [e3]
       conv=>lhs;rhs;rw [e2.1]
       rw [pw_add (by omega) (by omega)]
       grind
      rw [e4,show lv+6+(vl p den:Int)=(lv+d)+(6 - d+vl p den) from by omega,pw_mul_dvd_iff hp (by omega) (by omega)]
      exact hx
 ·
  rw [if_pos hl];exact Or.inl hl

theorem ballAt_eq_lOf {p num den lv:Int} (hp:Pr p) (hd:den≠0):ballAt p num den lv=lOf p num den lv:=
 (ballAt_is hp hd).unique hp hd (lOf_is hp hd)
end PM
namespace PM
theorem vl_one {p:Int} (hp:Pr p):vl p p=1:=by
 have:=vl_pow hp 1;rwa [Int.pow_one] at this
theorem vl_step {p n:Int} (hp:Pr p) (h:n≠0) (hd:p ∣ n):n.tdiv p≠0∧vl p n=vl p (n.tdiv p)+1∧(n.tdiv p).natAbs≤n.natAbs:=by
 have hp2:=hp.pos
 obtain ⟨c,rfl⟩:=hd
 have e:(p*c).tdiv p=c:=Int.mul_tdiv_cancel_left c (by omega)
 have hc:c≠0:=by intro h0;subst h0;simp at h
 rw [e]
 refine ⟨hc,by rw [vl_mul hp (by omega) hc,vl_one hp];omega,?_⟩
 rw [Int.natAbs_mul]
 have:1*c.natAbs≤p.natAbs*c.natAbs:=Nat.mul_le_mul_right _ (by omega)
 omega
theorem vl_le {p n:Int} (hp:Pr p) (h:n≠0) {k:Nat} (hk:n.natAbs<2 ^ k):vl p n<k:=by
 refine vl_lt_of_abs hp h ?_
 have h1:(2:Int) ^ k≤p ^ k:=by
  have hp2:=hp.pos
  clear hk
  induction k with
  | zero=>simp
  | succ k ih=>
   rw [Int.pow_succ,Int.pow_succ]
   have h0:(0:Int)<2 ^ k:=Int.pow_pos (by omega)
   have a:=Int.mul_le_mul_of_nonneg_left hp2 (Int.le_of_lt h0)
   have b:=Int.mul_le_mul_of_nonneg_right ih (show (0:Int)≤p by omega)
   omega
 have h2:((2 ^ k:Nat):Int)=(2:Int) ^ k:=by simp
 omega
theorem vl_le63 {p n:Int} (hp:Pr p) (h:n≠0) (hk:n.natAbs≤9223372036854775808):vl p n≤63:=by
 have:=vl_le hp h (k:=64) (by
  have:(2:Nat) ^ 64=18446744073709551616:=by decide
  omega)
 omega
/-- an end: a fraction in lowest terms with parts of at most 10^6, or 1 / 0 -/
def isE (n d:Int):Prop:=(d=0∧n=1)∨(1≤d∧d≤1000000∧-1000000≤n∧n≤1000000∧Int.gcd n d=1)
instance (n d:Int):Decidable (isE n d):=by unfold isE;infer_instance
end PM
namespace PM
theorem ultr {p a b c:Int} (hp:Pr p) (hc:c≠0) (e:a - b=c) (k:Nat) (ha:a=0∨k≤vl p a) (hb:b=0∨k≤vl p b):k≤vl p c:=by
 rw [le_vl_iff hp hc,← e]
 have g:∀ x:Int,(x=0∨k≤vl p x)→p ^ k ∣ x:=by
  intro x h
  by_cases z:x=0
  ·
   subst z;exact Int.dvd_zero _
  ·
   exact (le_vl_iff hp z k).mp (h.resolve_left z)
 exact Int.dvd_sub (g a ha) (g b hb)
theorem ultr_lt {p a b c:Int} (hp:Pr p) (hc:c≠0) (e:a - b=c) (hb:b≠0) (h:a=0∨vl p b<vl p a):vl p c=vl p b:=by
 have h1:=ultr hp hc e (vl p b) (h.imp id Nat.le_of_lt) (Or.inr (Nat.le_refl _))
 have h2:¬ vl p b+1≤vl p c:=by
  intro h3
  have:=ultr (a:=a) (b:=c) (c:=b) hp hb (by omega) (vl p b+1) (h.imp id (fun z=>z)) (Or.inr h3)
  omega
 omega
/-- the difference of an end and a ball's mark, over both denominators -/
def dv (p x num den:Int):Int:=num*pw p 6 - x*den
/-- the level at which the way to an end turns -/
def turn (p lv x num den:Int):Int:=if dv p x num den=0 then lv else min lv ((vl p (dv p x num den):Int) - vl p den - 6)
def cr (n1 d1 n2 d2:Int):Int:=n1*d2 - n2*d1
theorem turn_le (p lv x n d:Int):turn p lv x n d≤lv:=by
 unfold turn;split <;> omega
theorem dv_cr (p x n1 d1 n2 d2:Int):dv p x n1 d1*d2 - dv p x n2 d2*d1=pw p 6*cr n1 d1 n2 d2:=by
 unfold dv cr
 simp only [Int.sub_mul,Int.mul_sub]
 rw [show n1*pw p 6*d2=pw p 6*(n1*d2) by rw [Int.mul_comm n1,Int.mul_assoc],show n2*pw p 6*d1=pw p 6*(n2*d1) by rw [Int.mul_comm n2,Int.mul_assoc],show x*d2*d1=x*d1*d2 by rw [Int.mul_assoc,Int.mul_assoc,Int.mul_comm d2]]
 omega
theorem vl_pw {p:Int} (hp:Pr p) (k:Int) (h:0≤k):(vl p (pw p k):Int)=k:=by
 unfold pw;rw [vl_pow hp];omega
theorem gap_turn {p lv x n1 d1 n2 d2:Int} (hp:Pr p) (h1:d1≠0) (h2:d2≠0) (hc:cr n1 d1 n2 d2≠0) :
  (turn p lv x n1 d1=turn p lv x n2 d2→turn p lv x n1 d1≤(vl p (cr n1 d1 n2 d2):Int) - vl p d1 - vl p d2)∧
  (turn p lv x n2 d2<turn p lv x n1 d1→(vl p (cr n1 d1 n2 d2):Int) - vl p d1 - vl p d2=turn p lv x n2 d2)∧
  (turn p lv x n1 d1<turn p lv x n2 d2→(vl p (cr n1 d1 n2 d2):Int) - vl p d1 - vl p d2=turn p lv x n1 d1):=by
 have e:=dv_cr p x n1 d1 n2 d2
 have hq:pw p 6≠0:=by have:=pw_pos2 hp 6;omega
 have hC:pw p 6*cr n1 d1 n2 d2≠0:=Int.mul_ne_zero hq hc
 have eC:(vl p (pw p 6*cr n1 d1 n2 d2):Int)=6+vl p (cr n1 d1 n2 d2):=by
  rw [vl_mul hp hq hc];have:=vl_pw hp 6 (by omega);omega
 have ea:dv p x n1 d1≠0→vl p (dv p x n1 d1*d2)=vl p (dv p x n1 d1)+vl p d2:=fun z=>vl_mul hp z h2
 have eb:dv p x n2 d2≠0→vl p (dv p x n2 d2*d1)=vl p (dv p x n2 d2)+vl p d1:=fun z=>vl_mul hp z h1
 have za:dv p x n1 d1=0→dv p x n1 d1*d2=0:=fun z=>by rw [z,Int.zero_mul]
 have zb:dv p x n2 d2=0→dv p x n2 d2*d1=0:=fun z=>by rw [z,Int.zero_mul]
 have na:dv p x n1 d1≠0→dv p x n1 d1*d2≠0:=fun z=>Int.mul_ne_zero z h2
 have nb:dv p x n2 d2≠0→dv p x n2 d2*d1≠0:=fun z=>Int.mul_ne_zero z h1
 have both:¬ (dv p x n1 d1=0∧dv p x n2 d2=0):=by
  rintro ⟨u,v⟩;rw [za u,zb v] at e;omega
 have e':dv p x n2 d2*d1 - dv p x n1 d1*d2 = - (pw p 6*cr n1 d1 n2 d2):=by omega
 have hC' : - (pw p 6*cr n1 d1 n2 d2)≠0:=by omega
 have eN:=vl_neg p (pw p 6*cr n1 d1 n2 d2) hp
 refine ⟨fun h=>?_,fun h=>?_,fun h=>?_⟩
 ·
  unfold turn at h ⊢
  by_cases u:dv p x n1 d1=0
  ·
   have v:dv p x n2 d2≠0:=fun v=>both ⟨u,v⟩
   rw [if_pos u] at h ⊢;rw [if_neg v] at h
   have:=ultr hp hC e (vl p (dv p x n2 d2*d1)) (Or.inl (za u)) (Or.inr (Nat.le_refl _))
   have:=eb v;omega
  ·
   by_cases v:dv p x n2 d2=0
   ·
    rw [if_neg u] at h ⊢;rw [if_pos v] at h
    have:=ultr hp hC e (vl p (dv p x n1 d1*d2)) (Or.inr (Nat.le_refl _)) (Or.inl (zb v))
    have:=ea u;omega
   ·
    rw [if_neg u] at h ⊢;rw [if_neg v] at h
    have:=ultr hp hC e (min (vl p (dv p x n1 d1*d2)) (vl p (dv p x n2 d2*d1))) (Or.inr (by omega)) (Or.inr (by omega))
    have:=ea u;have:=eb v;omega
 ·
  unfold turn at h ⊢
  by_cases v:dv p x n2 d2=0
  ·
   rw [if_pos v] at h;exfalso;split at h <;> omega
  ·
   rw [if_neg v] at h ⊢
   by_cases u:dv p x n1 d1=0
   ·
    rw [if_pos u] at h
    have:=ultr_lt hp hC e (nb v) (Or.inl (za u));have:=eb v;omega
   ·
    rw [if_neg u] at h
    have:=ultr_lt hp hC e (nb v) (Or.inr (by have:=ea u;have:=eb v;omega));have:=eb v;omega
 ·
  unfold turn at h ⊢
  by_cases v:dv p x n1 d1=0
  ·
   rw [if_pos v] at h;exfalso;split at h <;> omega
  ·
   rw [if_neg v] at h ⊢
   by_cases u:dv p x n2 d2=0
   ·
    rw [if_pos u] at h
    have:=ultr_lt hp hC' e' (na v) (Or.inl (zb u));have:=ea v;omega
   ·
    rw [if_neg u] at h
    have:=ultr_lt hp hC' e' (na v) (Or.inr (by have:=eb u;have:=ea v;omega));have:=ea v;omega
/-- the level of a line's nearest ball, and the end that it holds -/
theorem dv_down {p:Int} (_:Pr p) {b:Ball} (h:Ok p b) (n d:Int):dv p (mark p b) n d=pw p (6 - b.dn)*(n*pw p b.dn - b.top*d):=by
 have hd:0≤b.dn∧b.dn≤6:=by unfold Ok at h;omega
 unfold dv mark
 rw [show (6:Int)=(6 - b.dn)+b.dn by omega,pw_add (by omega) (by omega),show (6 - b.dn+b.dn - b.dn)=6 - b.dn by omega,Int.mul_sub]
 rw [show n*(pw p (6 - b.dn)*pw p b.dn)=pw p (6 - b.dn)*(n*pw p b.dn) by rw [← Int.mul_assoc,Int.mul_comm n,Int.mul_assoc],show b.top*pw p (6 - b.dn)*d=pw p (6 - b.dn)*(b.top*d) by rw [Int.mul_comm b.top,Int.mul_assoc]]
theorem turn_down {p:Int} (hp:Pr p) {b:Ball} (h:Ok p b) (n d:Int):turn p b.lv (mark p b) n d=if n*pw p b.dn - b.top*d=0 then b.lv else min b.lv ((vl p (n*pw p b.dn - b.top*d):Int) - vl p d - b.dn):=by
 have hd:0≤b.dn∧b.dn≤6:=by unfold Ok at h;omega
 unfold turn
 rw [dv_down hp h]
 have hq:pw p (6 - b.dn)≠0:=by have:=pw_pos2 hp (6 - b.dn);omega
 by_cases z:n*pw p b.dn - b.top*d=0
 ·
  rw [z,if_pos (by simp),if_pos rfl]
 ·
  rw [if_neg (Int.mul_ne_zero hq z),if_neg z,vl_mul hp hq z]
  have:=vl_pw hp (6 - b.dn) (by omega)
  omega
end PM
namespace PM
theorem mulN (q y1 y0:Int):q*(y1*4294967296+y0)=(q*y1)*4294967296+q*y0:=by rw [Int.mul_add,Int.mul_assoc]
/-- the true digit -/
def dig (U u y1 y0:Int):Int:=(U*4294967296+u) / (y1*4294967296+y0)
structure Dg (U u y1 y0:Int):Prop where
 a:2147483648≤y1
 b:y1<4294967296
 c:0≤y0
 d:y0<4294967296
 e:0≤U
 f:U<y1*4294967296+y0
 g:0≤u
 h:u<4294967296
theorem Dg.lt {U u y1 y0:Int} (D:Dg U u y1 y0) (q:Int):dig U u y1 y0<q↔U*4294967296+u<(q*y1)*4294967296+q*y0:=by
 obtain ⟨a,b,c,d,e,f,g,h⟩:=D
 rw [← mulN];exact Int.ediv_lt_iff_lt_mul (by omega)
theorem Dg.nn {U u y1 y0:Int} (D:Dg U u y1 y0):0≤dig U u y1 y0:=by
 obtain ⟨a,b,c,d,e,f,g,h⟩:=D
 exact Int.ediv_nonneg (by omega) (by omega)
theorem Dg.cond {U u y1 y0:Int} (D:Dg U u y1 y0) {q r:Int} (hr:r=U - q*y1):dig U u y1 y0<q↔q*y0>4294967296*r+u:=by
 rw [D.lt];omega
theorem Dg.top {U u y1 y0:Int} (D:Dg U u y1 y0):dig U u y1 y0<4294967296:=by
 rw [D.lt];obtain ⟨a,b,c,d,e,f,g,h⟩:=D;omega
theorem Dg.brk {U u y1 y0:Int} (D:Dg U u y1 y0) {q r:Int} (hr:r=U - q*y1) (h1:4294967296≤r) (h2:q≤4294967296):¬ dig U u y1 y0<q:=by
 rw [D.lt];obtain ⟨a,b,c,d,e,f,g,h⟩:=D
 have:=Int.mul_le_mul_of_nonneg_right h2 c
 omega
theorem Dg.start {U u y1 y0:Int} (D:Dg U u y1 y0):dig U u y1 y0≤U / y1∧U / y1≤4294967297:=by
 have hn:=D.nn
 have hl:=(Int.not_lt.mpr (Int.le_refl (dig U u y1 y0)))
 rw [D.lt] at hl
 obtain ⟨a,b,c,d,e,f,g,h⟩:=D
 have hm:=Int.mul_nonneg hn c
 constructor
 ·
  rw [Int.le_ediv_iff_mul_le (by omega)];omega
 ·
  have:U / y1<4294967298:=by rw [Int.ediv_lt_iff_lt_mul (by omega)];omega
  omega
theorem Dg.rem {U u y1 y0:Int} (D:Dg U u y1 y0):0≤U*4294967296+u - dig U u y1 y0*(y1*4294967296+y0)∧U*4294967296+u - dig U u y1 y0*(y1*4294967296+y0)<y1*4294967296+y0:=by
 obtain ⟨a,b,c,d,e,f,g,h⟩:=D
 unfold dig
 have h1:=Int.emod_nonneg (U*4294967296+u) (b:=y1*4294967296+y0) (by omega)
 have h2:=Int.emod_lt_of_pos (U*4294967296+u) (b:=y1*4294967296+y0) (by omega)
 have h3:=Int.mul_ediv_add_emod (U*4294967296+u) (y1*4294967296+y0)
 rw [Int.mul_comm] at h3
 omega
/-- the two digits together -/
theorem two_digits {U yN u1 u0 q1 R q0 R2:Int} (h1:R=U*4294967296+u1 - q1*yN) (h2:R2=R*4294967296+u0 - q0*yN) :
  R2=U*18446744073709551616+(u1*4294967296+u0) - (q1*4294967296+q0)*yN:=by
 subst h1;subst h2
 rw [Int.add_mul,show q1*4294967296*yN=(q1*yN)*4294967296 by rw [Int.mul_assoc,Int.mul_comm 4294967296,← Int.mul_assoc]]
 omega
/-- normalised: both sides times 2^s -/
theorem normal {hi lo y P Q q R2 U L:Int} (hP:0<P) (_:0<Q) (hPQ:P*Q=18446744073709551616) (hU:U=hi*P+lo / Q) (hL:L=(lo*P) % 18446744073709551616)
  (hR:R2=U*18446744073709551616+L - q*(y*P)) (h0:0≤R2) (h1:R2<y*P) :
  q=(hi*18446744073709551616+lo) / y∧R2 / P=(hi*18446744073709551616+lo) % y:=by
 have e1:(lo*P) / 18446744073709551616=lo / Q:=by
  rw [← hPQ,Int.mul_comm lo];exact Int.mul_ediv_mul_of_pos _ _ hP
 have e2:=Int.mul_ediv_add_emod (lo*P) 18446744073709551616
 have e3:U*18446744073709551616+L=(hi*18446744073709551616+lo)*P:=by
  rw [hU,hL,← e1,Int.add_mul,Int.add_mul,show hi*18446744073709551616*P=hi*P*18446744073709551616 by rw [Int.mul_assoc,Int.mul_comm 18446744073709551616,← Int.mul_assoc]]
  omega
 have e4:R2=(hi*18446744073709551616+lo - q*y)*P:=by
  rw [hR,e3,Int.sub_mul,Int.mul_assoc]
 have n0:0≤hi*18446744073709551616+lo - q*y:=by
  rcases Int.lt_or_le (hi*18446744073709551616+lo - q*y) 0 with h|h
  ·
   have:=Int.mul_neg_of_neg_of_pos h hP;omega
  ·
   exact h
 have n1:hi*18446744073709551616+lo - q*y<y:=by
  rw [e4] at h1
  exact Int.lt_of_mul_lt_mul_right h1 (Int.le_of_lt hP)
 have e5:R2 / P=hi*18446744073709551616+lo - q*y:=by rw [e4];exact Int.mul_ediv_cancel _ (by omega)
 have hy:0<y:=by omega
 have e6:hi*18446744073709551616+lo=(hi*18446744073709551616+lo - q*y)+y*q:=by rw [Int.mul_comm y];omega
 refine ⟨?_,?_⟩
 ·
  rw [e6,Int.add_mul_ediv_left _ _ (by omega),Int.ediv_eq_zero_of_lt n0 n1];omega
 ·
  rw [e5]
  conv=>rhs;rw [e6,Int.add_mul_emod_self_left]
  exact (Int.emod_eq_of_lt n0 n1).symm
end PM
namespace PM
/-- the ball of a level about a mark -/
def about (p lv x:Int):Option Ball:=if inLv lv then some (mk p lv (x % pw p (lv+6))) else none
theorem near_le {p lv x n d:Int} {l:Int} (h:l≤turn p lv x n d):dv p x n d=0∨l+6+vl p d≤(vl p (dv p x n d):Int):=by
 unfold turn at h
 by_cases z:dv p x n d=0
 ·
  exact Or.inl z
 ·
  rw [if_neg z] at h;right;omega
/-- a ball at or above the turning of an end's way holds the end -/
theorem about_eq {p x n d l:Int} (hp:Pr p) (hd:d≠0) (h:dv p x n d=0∨l+6+vl p d≤(vl p (dv p x n d):Int)):ballAt p n d l=about p l x:=by
 refine IsBallOf.unique hp hd (ballAt_is hp hd) ?_
 unfold about
 by_cases hl:inLv l
 ·
  rw [if_pos hl]
  have hl':=hl
  unfold inLv at hl'
  have hq:=pw_pos2 hp (l+6)
  have r0:=Int.emod_nonneg x (b:=pw p (l+6)) (by omega)
  have r1:=Int.emod_lt_of_pos x hq
  obtain ⟨o1,o2⟩:=ok_mk hp hl'.1 hl'.2 r0 r1
  have hdiv:pw p (l+6+vl p d) ∣ dv p x n d:=by
   rcases h with h|h
   ·
    rw [h];exact Int.dvd_zero _
   ·
    by_cases z:dv p x n d=0
    ·
     rw [z];exact Int.dvd_zero _
    ·
     exact (le_vl_iff' hp z (by omega)).mp h
  refine ⟨hl,?_,o1,rfl,?_⟩
  ·
   unfold Fits
   by_cases hn:n=0
   ·
    exact Or.inl hn
   ·
    right
    rw [vz_of_ne hn,vz_of_ne hd]
    have h6:pw p 6≠0:=by have:=pw_pos2 hp 6;omega
    have e1:(vl p (n*pw p 6):Int)=vl p n+6:=by
     rw [vl_mul hp hn h6];have:=vl_pw hp 6 (by omega);omega
    have hnp:n*pw p 6≠0:=Int.mul_ne_zero hn h6
    have hd2:pw p (vl p d) ∣ n*pw p 6:=by
     have a1:pw p (vl p d) ∣ dv p x n d:=Int.dvd_trans (pw_dvd (by omega)) hdiv
     have a2:pw p (vl p d) ∣ x*d:=Int.dvd_mul_of_dvd_right (pw_vl_dvd hp hd)
     have:=Int.dvd_add a1 a2
     rwa [show dv p x n d+x*d=n*pw p 6 by unfold dv;omega] at this
    have:=(le_vl_iff' hp hnp (show (0:Int)≤(vl p d:Int) by omega)).mpr hd2
    omega
  ·
   rw [o2]
   refine ⟨r0,r1,?_⟩
   have a1:pw p (l+6) ∣ x - x % pw p (l+6):=Int.dvd_self_sub_emod
   have a2:pw p (l+6+vl p d) ∣ (x - x % pw p (l+6))*d:=by
    rw [pw_add (by omega) (by omega)];exact Int.mul_dvd_mul a1 (pw_vl_dvd hp hd)
   have:=Int.dvd_add hdiv a2
   rwa [show dv p x n d+(x - x % pw p (l+6))*d=n*pw p 6 - x % pw p (l+6)*d by unfold dv;rw [Int.sub_mul];omega] at this
 ·
  rw [if_neg hl];exact Or.inl hl
end PM
namespace PM
theorem mark_pw {p:Int} {b:Ball} (h:Ok p b):mark p b*pw p b.dn=b.top*pw p 6:=by
 have hd:0≤b.dn∧b.dn≤6:=by unfold Ok at h;omega
 unfold mark
 rw [Int.mul_assoc,← pw_add (by omega) (by omega),show 6 - b.dn+b.dn=6 by omega]
theorem parent_is {p:Int} (hp:Pr p) {b:Ball} (h:Ok p b) (l:Int):ballAt p b.top (pw p b.dn) l=about p l (mark p b):=by
 have hq:=pw_pos2 hp b.dn
 refine about_eq hp (by omega) (Or.inl ?_)
 unfold dv;have:=mark_pw h;omega
theorem child_hi {p:Int} (hp:Pr p) {b:Ball} (h:Ok p b) (a l:Int) (hl:0≤b.lv):ballAt p (b.top+a*pw p b.dn*pw p b.lv) (pw p b.dn) l=about p l (mark p b+a*pw p (b.lv+6)):=by
 have hq:=pw_pos2 hp b.dn
 refine about_eq hp (by omega) (Or.inl ?_)
 unfold dv
 have:=mark_pw h
 rw [Int.add_mul,Int.add_mul,pw_add hl (by omega)]
 have e:a*pw p b.dn*pw p b.lv*pw p 6=a*(pw p b.lv*pw p 6)*pw p b.dn:=by
  simp only [Int.mul_assoc];congr 1
  rw [Int.mul_comm (pw p b.dn),Int.mul_assoc]
 omega
theorem child_lo {p:Int} (hp:Pr p) {b:Ball} (h:Ok p b) (a l d e f:Int) (hl : -6≤b.lv) (hl2:b.lv<0) (hd:d=pw p b.dn*e) (he:d=pw p (-b.lv)*f) (hd0:d≠0):ballAt p (b.top*e+a*f) d l=about p l (mark p b+a*pw p (b.lv+6)):=by
 refine about_eq hp hd0 (Or.inl ?_)
 unfold dv
 have hm:=mark_pw h
 have e1:pw p 6=pw p (b.lv+6)*pw p (-b.lv):=by rw [← pw_add (by omega) (by omega)];congr 1;omega
 rw [Int.add_mul,Int.add_mul]
 have a1:b.top*e*pw p 6=mark p b*d:=by
  rw [hd,← Int.mul_assoc,hm,Int.mul_assoc,Int.mul_assoc,Int.mul_comm e]
 have a2:a*f*pw p 6=a*pw p (b.lv+6)*d:=by
  rw [he,e1,Int.mul_assoc,Int.mul_assoc];congr 1
  rw [Int.mul_comm f,Int.mul_assoc]
 omega
end PM
namespace PM
def g4 (a b c d:Int):Int:=(Int.gcd (Int.gcd a b) (Int.gcd c d):Int)
/-- the sign of the first number that is not 0, of the first row -/
def sg (a b:Int):Int:=if a<0∨(a=0∧b<0) then -1 else 1
theorem tdiv_sg (x g s:Int) (hs:s=1∨s = -1):x.tdiv (g*s)=x.tdiv g*s:=by
 rcases hs with rfl|rfl
 ·
  simp
 ·
  simp [Int.mul_neg,Int.tdiv_neg]
theorem tdiv_abs_le (x g:Int):(x.tdiv g).natAbs≤x.natAbs:=by
 rw [Int.natAbs_tdiv];exact Nat.div_le_self _ _
end PM
namespace PM
end PM
namespace PM
/-- the level of the join of two balls; their distance -/
def jl (p:Int) (b c:Ball):Int:=min (min b.lv c.lv) (vz p (mark p b - mark p c) - 6)
def dist (p:Int) (b c:Ball):Int:=b.lv+c.lv - 2*jl p b c
theorem jl_bd (p:Int) {b c:Ball} (hb:Ok p b) (hc:Ok p c) : -6≤jl p b c∧jl p b c≤b.lv∧jl p b c≤c.lv:=by
 have:=vz_nonneg p (mark p b - mark p c)
 obtain ⟨b1,_⟩:=hb
 obtain ⟨c1,_⟩:=hc
 unfold jl;omega
end PM
namespace PM
theorem le_jl {p l:Int} (hp:Pr p) {b c:Ball} (hb:Ok p b) (_hc:Ok p c) (hl : -6≤l):l≤jl p b c↔(l≤b.lv∧l≤c.lv∧pw p (l+6) ∣ mark p b - mark p c):=by
 have b2:=hb.2.1
 unfold jl vz
 by_cases z:mark p b - mark p c=0
 ·
  rw [if_pos z]
  constructor
  ·
   intro h;refine ⟨by omega,by omega,?_⟩;rw [z];exact Int.dvd_zero _
  ·
   rintro ⟨h1,h2,_⟩;omega
 ·
  rw [if_neg z,← le_vl_iff' hp z (k:=l+6) (by omega)];omega
theorem ball_ext {p:Int} (hp:Pr p) {b c:Ball} (hb:Ok p b) (hc:Ok p c) (h1:b.lv=c.lv) (h2:mark p b=mark p c):b=c:=by
 rw [← mk_mark hp hb,← mk_mark hp hc,h1,h2]
theorem jl_comm (p:Int) (b c:Ball):jl p b c=jl p c b:=by
 have e:vz p (mark p b - mark p c)=vz p (mark p c - mark p b):=by
  unfold vz
  by_cases z:mark p b - mark p c=0
  ·
   rw [if_pos z,if_pos (by omega)]
  ·
   rw [if_neg z,if_neg (by omega)]
   rw [show mark p c - mark p b = -(mark p b - mark p c) by omega]
   unfold vl
   have:∀ (k:Nat) (n:Int),vF p k (-n)=vF p k n:=by
    intro k
    induction k with
    | zero=>intro n;rfl
    | succ k ih=>
     intro n
     unfold vF
     by_cases d:p ∣ n
     ·
      rw [if_pos d,if_pos ((Int.dvd_neg).2 d)]
      obtain ⟨c,rfl⟩:=d
      by_cases h0:p=0
      ·
       subst h0;simp
      ·
       rw [← Int.mul_neg,Int.mul_ediv_cancel_left _ h0,Int.mul_ediv_cancel_left _ h0,ih]
     ·
      rw [if_neg d,if_neg (fun h=>d ((Int.dvd_neg).1 h))]
   rw [this,Int.natAbs_neg]
 unfold jl;rw [e];omega
theorem jl_self {p:Int} {b:Ball} (hb:Ok p b):jl p b b=b.lv:=by
 have:=hb.2.1
 unfold jl vz
 rw [if_pos (by omega)];omega
theorem dist_comm (p:Int) (b c:Ball):dist p b c=dist p c b:=by
 unfold dist;rw [jl_comm];omega
theorem dist_zero {p:Int} (hp:Pr p) {b c:Ball} (hb:Ok p b) (hc:Ok p c):dist p b c=0↔b=c:=by
 constructor
 ·
  intro h
  have hbd:=jl_bd p hb hc
  unfold dist at h
  have h1:b.lv=c.lv:=by omega
  have:=(le_jl hp hb hc (l:=b.lv) (by have:=hb.1;omega)).1 (by omega)
  have m1:=mark_bd hp hb
  have m2:=mark_bd hp hc
  refine ball_ext hp hb hc h1 ?_
  rw [← h1] at m2
  rw [← Int.emod_eq_of_lt m1.1 m1.2,← Int.emod_eq_of_lt m2.1 m2.2]
  exact Int.emod_eq_emod_iff_emod_sub_eq_zero.2 (Int.emod_eq_zero_of_dvd this.2.2)
 ·
  rintro rfl;unfold dist;rw [jl_self hb];omega
theorem dist_nonneg {p:Int} {b c:Ball} (hb:Ok p b) (hc:Ok p c):0≤dist p b c:=by
 have:=jl_bd p hb hc;unfold dist;omega
theorem about_spec {p l x:Int} {b:Ball} (hp:Pr p) (h:about p l x=some b):Ok p b∧b.lv=l∧inLv l∧mark p b=x % pw p (l+6):=by
 unfold about at h
 by_cases hl:inLv l
 ·
  rw [if_pos hl] at h
  obtain rfl:=Option.some.inj h
  have hl':=hl
  unfold inLv at hl'
  have hq:=pw_pos2 hp (l+6)
  obtain ⟨o1,o2⟩:=ok_mk hp hl'.1 hl'.2 (Int.emod_nonneg x (b:=pw p (l+6)) (by omega)) (Int.emod_lt_of_pos x hq)
  exact ⟨o1,rfl,hl,o2⟩
 ·
  rw [if_neg hl] at h;cases h
/-- y lies right above x: joins of y -/
theorem jl_up {p:Int} (hp:Pr p) {x y c:Ball} (hx:Ok p x) (hy:Ok p y) (hc:Ok p c) (h1:y.lv≤x.lv) (h2:pw p (y.lv+6) ∣ mark p y - mark p x):jl p y c=min (jl p x c) y.lv:=by
 have b1:=jl_bd p hy hc
 have b2:=jl_bd p hx hc
 have y1:=hy.1
 have key:∀ l,-6≤l→(l≤jl p y c↔l≤min (jl p x c) y.lv):=by
  intro l hl
  have e:=le_jl hp hy hc hl
  have f:=le_jl hp hx hc hl
  constructor
  ·
   intro h
   obtain ⟨a1,a2,a3⟩:=e.1 h
   have d:pw p (l+6) ∣ mark p y - mark p x:=Int.dvd_trans (pw_dvd (by omega)) h2
   have:pw p (l+6) ∣ mark p x - mark p c:=by
    have:=Int.dvd_sub a3 d
    rwa [show mark p y - mark p c - (mark p y - mark p x)=mark p x - mark p c by omega] at this
   have:=f.2 ⟨by omega,a2,this⟩
   omega
  ·
   intro h
   obtain ⟨a1,a2,a3⟩:=f.1 (by omega)
   have d:pw p (l+6) ∣ mark p y - mark p x:=Int.dvd_trans (pw_dvd (by omega)) h2
   have:pw p (l+6) ∣ mark p y - mark p c:=by
    have:=Int.dvd_add d a3
    rwa [show mark p y - mark p x+(mark p x - mark p c)=mark p y - mark p c by omega] at this
   exact e.2 ⟨by omega,a2,this⟩
 have k1:=(key (jl p y c) (by omega)).1 (by omega)
 have k2:=(key (min (jl p x c) y.lv) (by omega)).2 (by omega)
 omega
/-- the neighbour with a number: 0 for the parent -/
def nbr (p:Int) (b:Ball) (k:Int):Option Ball:=if k=0 then about p (b.lv - 1) (mark p b) else about p (b.lv+1) (mark p b+(k - 1)*pw p (b.lv+6))
theorem nbr_up {p:Int} (hp:Pr p) {b y:Ball} (h:nbr p b 0=some y):Ok p y∧y.lv=b.lv - 1∧pw p (y.lv+6) ∣ mark p y - mark p b:=by
 unfold nbr at h
 rw [if_pos rfl] at h
 obtain ⟨h1,h2,_,h4⟩:=about_spec hp h
 refine ⟨h1,h2,?_⟩
 rw [h4,h2]
 have:=Int.dvd_self_sub_emod (x:=mark p b) (m:=pw p (b.lv - 1+6))
 rw [show mark p b % pw p (b.lv - 1+6) - mark p b = -(mark p b - mark p b % pw p (b.lv - 1+6)) by omega]
 exact Int.dvd_neg.2 this
theorem nbr_down {p k:Int} (hp:Pr p) {b y:Ball} (_hb:Ok p b) (hk:k≠0) (h:nbr p b k=some y):Ok p y∧y.lv=b.lv+1∧pw p (b.lv+6) ∣ mark p b - mark p y∧pw p (y.lv+6) ∣ mark p y - (mark p b+(k - 1)*pw p (b.lv+6)):=by
 unfold nbr at h
 rw [if_neg hk] at h
 obtain ⟨h1,h2,_,h4⟩:=about_spec hp h
 have t:pw p (y.lv+6) ∣ mark p y - (mark p b+(k - 1)*pw p (b.lv+6)):=by
  rw [h4,h2]
  have:=Int.dvd_self_sub_emod (x:=mark p b+(k - 1)*pw p (b.lv+6)) (m:=pw p (b.lv+1+6))
  generalize mark p b+(k - 1)*pw p (b.lv+6)=X at this ⊢
  rw [show X % pw p (b.lv+1+6) - X = -(X - X % pw p (b.lv+1+6)) by omega]
  exact Int.dvd_neg.2 this
 refine ⟨h1,h2,?_,t⟩
 have t2:pw p (b.lv+6) ∣ mark p y - (mark p b+(k - 1)*pw p (b.lv+6)):=Int.dvd_trans (pw_dvd (by omega)) t
 have t3:=Int.dvd_add t2 (Int.dvd_mul_of_dvd_right (b:=k - 1) (Int.dvd_refl (pw p (b.lv+6))))
 rw [show mark p y - (mark p b+(k - 1)*pw p (b.lv+6))+(k - 1)*pw p (b.lv+6) = -(mark p b - mark p y) by omega] at t3
 exact Int.dvd_neg.1 t3
/-- a neighbour is nearer by one or farther by one -/
theorem dist_nbr {p k:Int} (hp:Pr p) {b c y:Ball} (hb:Ok p b) (hc:Ok p c) (h:nbr p b k=some y):dist p y c=dist p b c+1∨dist p y c=dist p b c - 1:=by
 have b1:=jl_bd p hb hc
 by_cases hk:k=0
 ·
  subst hk
  obtain ⟨o,l,d⟩:=nbr_up hp h
  have:=jl_up hp hb o hc (by omega) d
  unfold dist;omega
 ·
  obtain ⟨o,l,d,_⟩:=nbr_down hp hb hk h
  have:=jl_up hp o hb hc (by omega) d
  have b2:=jl_bd p o hc
  unfold dist;omega
/-- the number of the neighbour toward c -/
def tow (p:Int) (b c:Ball):Int:=if jl p b c<b.lv then 0 else (mark p c - mark p b) / pw p (b.lv+6) % p+1
theorem tow_bd {p:Int} (hp:Pr p) (b c:Ball):0≤tow p b c∧tow p b c≤p:=by
 have:=hp.pos
 unfold tow
 split
 ·
  omega
 ·
  have:=Int.emod_nonneg ((mark p c - mark p b) / pw p (b.lv+6)) (b:=p) (by omega)
  have:=Int.emod_lt_of_pos ((mark p c - mark p b) / pw p (b.lv+6)) (b:=p) (by omega)
  omega
/-- a neighbour is nearer just when its number is the number toward c -/
theorem dist_tow {p k:Int} (hp:Pr p) {b c y:Ball} (hb:Ok p b) (hc:Ok p c) (hn:b≠c) (h0:0≤k) (hk:k≤p) (h:nbr p b k=some y):dist p y c<dist p b c↔k=tow p b c:=by
 have hp2:=hp.pos
 have b1:=jl_bd p hb hc
 unfold tow
 have lb:=hb.1
 by_cases z:k=0
 ·
  subst z
  obtain ⟨o,l,d⟩:=nbr_up hp h
  have e:=jl_up hp hb o hc (by omega) d
  by_cases g:jl p b c<b.lv
  ·
   rw [if_pos g];unfold dist;omega
  ·
   rw [if_neg g]
   have:=Int.emod_nonneg ((mark p c - mark p b) / pw p (b.lv+6)) (b:=p) (by omega)
   unfold dist;omega
 ·
  obtain ⟨o,l,d,t⟩:=nbr_down hp hb z h
  have e:=jl_up hp o hb hc (by omega) d
  have b2:=jl_bd p o hc
  by_cases g:jl p b c<b.lv
  ·
   rw [if_pos g];unfold dist;omega
  ·
   rw [if_neg g]
   have hj:=(le_jl hp hb hc (l:=b.lv) lb).1 (by omega)
   obtain ⟨q,hq⟩:=hj.2.2
   have hP:=pw_pos2 hp (b.lv+6)
   have hcl:b.lv<c.lv:=by
    rcases Int.lt_or_le b.lv c.lv with w|w
    ·
     exact w
    ·
     refine absurd ((dist_zero hp hb hc).1 ?_) hn
     unfold dist;omega
   rw [show mark p c - mark p b=pw p (b.lv+6)*(-q) by rw [Int.mul_neg];omega,Int.mul_ediv_cancel_left _ (by omega)]
   have hs:=le_jl hp o hc (l:=y.lv) (by omega)
   have e7:pw p (y.lv+6)=pw p (b.lv+6)*p:=by
    rw [l,show b.lv+1+6=(b.lv+6)+1 by omega,pw_add (by omega) (by omega)];congr 1;show p ^ 1=p;rw [Int.pow_succ,Int.pow_zero,Int.one_mul]
   have hw:pw p (y.lv+6) ∣ mark p y - mark p c↔p ∣ (k - 1)+q:=by
    constructor
    ·
     intro w
     have:=Int.dvd_sub w t
     rw [show mark p y - mark p c - (mark p y - (mark p b+(k - 1)*pw p (b.lv+6)))=pw p (b.lv+6)*((k - 1)+q) by rw [Int.mul_add,← hq,Int.mul_comm (pw p (b.lv+6)) (k - 1)];omega,e7] at this
     exact Int.dvd_of_mul_dvd_mul_left (by omega) this
    ·
     intro w
     have:pw p (y.lv+6) ∣ pw p (b.lv+6)*((k - 1)+q):=by rw [e7];exact Int.mul_dvd_mul_left _ w
     have:=Int.dvd_add t this
     rwa [show mark p y - (mark p b+(k - 1)*pw p (b.lv+6))+pw p (b.lv+6)*((k - 1)+q)=mark p y - mark p c by rw [Int.mul_add,← hq,Int.mul_comm (pw p (b.lv+6)) (k - 1)];omega] at this
   have hm:p ∣ (k - 1)+q↔k = -q % p+1:=by
    constructor
    ·
     rintro ⟨s,hs⟩
     have : -q=(k - 1)+p*(-s):=by rw [Int.mul_neg];omega
     rw [this,Int.add_mul_emod_self_left,Int.emod_eq_of_lt (by omega) (by omega)];omega
    ·
     intro w
     have:=Int.mul_ediv_add_emod (-q) p
     refine ⟨-(-q / p),?_⟩
     rw [Int.mul_neg];omega
   rw [← hm,← hw]
   unfold dist
   constructor
   ·
    intro w
    exact (hs.1 (by omega)).2.2
   ·
    intro w
    have:=hs.2 ⟨by omega,by omega,w⟩
    omega
end PM
namespace PM
theorem dist_one {p k:Int} (hp:Pr p) {b y:Ball} (hb:Ok p b) (h:nbr p b k=some y) (hy:Ok p y):dist p b y=1:=by
 have:=dist_nbr hp hb hb h
 have z:=(dist_zero hp hb hb).2 rfl
 have:=dist_nonneg hy hb
 rw [dist_comm];omega
theorem nbr_ok {p k:Int} {b c:Ball} (hp:Pr p) (h:nbr p b k=some c):Ok p c:=by
 unfold nbr at h
 by_cases z:k=0
 ·
  rw [if_pos z] at h;exact (about_spec hp h).1
 ·
  rw [if_neg z] at h;exact (about_spec hp h).1
/-- toward another ball there is a neighbour -/
theorem nbr_tow {p:Int} (hp:Pr p) {b c:Ball} (hb:Ok p b) (hc:Ok p c) (hn:b≠c):∃ y,nbr p b (tow p b c)=some y∧Ok p y∧dist p y c=dist p b c - 1∧dist p b y=1:=by
 have bd:=jl_bd p hb hc
 have hs:∃ y,nbr p b (tow p b c)=some y:=by
  unfold tow
  have hb2:=hb.2.1
  have hc2:=hc.2.1
  have hp2:=hp.pos
  by_cases g:jl p b c<b.lv
  ·
   rw [if_pos g];unfold nbr about;rw [if_pos rfl,if_pos (show inLv (b.lv - 1) by unfold inLv;omega)];exact ⟨_,rfl⟩
  ·
   rw [if_neg g]
   have hcl:b.lv<c.lv:=by
    rcases Int.lt_or_le b.lv c.lv with w|w
    ·
     exact w
    ·
     refine absurd ((dist_zero hp hb hc).1 ?_) hn
     unfold dist;omega
   have:=Int.emod_nonneg ((mark p c - mark p b) / pw p (b.lv+6)) (b:=p) (by omega)
   unfold nbr about;rw [if_neg (by omega),if_pos (show inLv (b.lv+1) by unfold inLv;omega)];exact ⟨_,rfl⟩
 obtain ⟨y,hy⟩:=hs
 have oy:=nbr_ok hp hy
 have tb:=tow_bd hp b c
 have:=(dist_tow hp hb hc hn tb.1 tb.2 hy).2 rfl
 have d:=dist_nbr hp hb hc hy
 exact ⟨y,hy,oy,by omega,dist_one hp hb hy oy⟩
/-- the number of a neighbour -/
theorem nbr_iff {p k:Int} (hp:Pr p) {b c:Ball} (hb:Ok p b) (hc:Ok p c) (h1:dist p b c=1) (h0:0≤k) (hk:k≤p):nbr p b k=some c↔k=tow p b c:=by
 have hn:b≠c:=by
  rintro rfl;have:=(dist_zero hp hb hb).2 rfl;omega
 constructor
 ·
  intro h
  refine (dist_tow hp hb hc hn h0 hk h).1 ?_
  have:=(dist_zero hp hc hc).2 rfl
  omega
 ·
  rintro rfl
  obtain ⟨y,hy,oy,d,_⟩:=nbr_tow hp hb hc hn
  rw [hy,(dist_zero hp oy hc).1 (by omega)]
/-- the ball of a lesser level with a ball -/
def ab (p n:Int) (x:Ball):Ball:=mk p n (mark p x % pw p (n+6))
theorem ab_spec {p n:Int} (hp:Pr p) {x:Ball} (hx:Ok p x) (h0 : -6≤n) (h1:n≤x.lv):Ok p (ab p n x)∧(ab p n x).lv=n∧∀ c,Ok p c→jl p (ab p n x) c=min (jl p x c) n:=by
 have hq:=pw_pos2 hp (n+6)
 obtain ⟨o1,o2⟩:=ok_mk hp h0 (show n≤6 by have:=hx.2.1;omega) (Int.emod_nonneg (mark p x) (b:=pw p (n+6)) (by omega)) (Int.emod_lt_of_pos (mark p x) hq)
 refine ⟨o1,rfl,fun c hc=>?_⟩
 refine jl_up hp hx o1 hc h1 ?_
 show pw p (n+6) ∣ mark p (mk p n (mark p x % pw p (n+6))) - mark p x
 rw [o2]
 have:=Int.dvd_self_sub_emod (x:=mark p x) (m:=pw p (n+6))
 generalize mark p x=X at this ⊢
 rw [show X % pw p (n+6) - X = -(X - X % pw p (n+6)) by omega]
 exact Int.dvd_neg.2 this
theorem ab_dist {p n:Int} (hp:Pr p) {x c:Ball} (hx:Ok p x) (hc:Ok p c) (h0 : -6≤n) (h1:n≤x.lv):dist p (ab p n x) c=n+c.lv - 2*min (jl p x c) n:=by
 obtain ⟨_,e,h⟩:=ab_spec hp hx h0 h1
 unfold dist;rw [h c hc,e]
end PM
namespace PM
/-- a way of neighbours that never turns back leads away by one each step -/
theorem dist_way {p:Int} (hp:Pr p) (x:Nat→Ball) (k:Nat→Int) (h0:Ok p (x 0)):∀ n:Nat,(∀ i,i<n→0≤k i∧k i≤p∧nbr p (x i) (k i)=some (x (i+1)))→(∀ i,i+1<n→x (i+2)≠x i)→Ok p (x n)∧dist p (x n) (x 0)=n∧(∀ m,n=m+1→Ok p (x m)∧dist p (x m) (x 0)=m∧dist p (x n) (x m)=1):=by
 intro n
 induction n with
 | zero=>intro _ _;exact ⟨h0,by have:=(dist_zero hp h0 h0).2 rfl;omega,fun m h=>by omega⟩
 | succ n ih=>
  intro hk hb
  obtain ⟨o,d,hm⟩:=ih (fun i hi=>hk i (by omega)) (fun i hi=>hb i (by omega))
  obtain ⟨k0,k1,k2⟩:=hk n (by omega)
  have o1:=nbr_ok hp k2
  have one:=dist_one hp o k2 o1
  refine ⟨o1,?_,fun m e=>?_⟩
  ·
   have dd:=dist_nbr hp o h0 k2
   rcases Nat.eq_zero_or_pos n with z|z
   ·
    subst z;have:=dist_nonneg o1 h0;omega
   ·
    obtain ⟨m,rfl⟩:∃ m,n=m+1:=⟨n - 1,by omega⟩
    obtain ⟨om,dm,d1⟩:=hm m rfl
    have hne:x (m+1)≠x 0:=fun q=>by have:=(dist_zero hp o h0).2 q;omega
    rcases dd with dd|dd
    ·
     omega
    ·
     exfalso
     have e1:=(dist_tow hp o h0 hne k0 k1 k2).1 (by omega)
     have tb:=tow_bd hp (x (m+1)) (x m)
     have e2:=(nbr_iff hp o om d1 tb.1 tb.2).2 rfl
     have e3:=(dist_tow hp o h0 hne tb.1 tb.2 e2).1 (by omega)
     rw [e1,← e3,e2] at k2
     exact hb m (by omega) (Option.some.inj k2).symm
  ·
   obtain rfl:n=m:=by omega
   exact ⟨o,d,by rw [dist_comm];exact one⟩
end PM
namespace PM
/-- the number of the neighbour on the way to an end -/
def brP (p lv x n d:Int):Int:=if d=0∨turn p lv x n d<lv then 0 else 1+(dv p x n d / pw p (lv+6+vl p d))*inv (un p d) p % p
def held (p l x n d:Int):Prop:=pw p (l+6+vl p d) ∣ dv p x n d
theorem held_turn {p l x n d:Int} (hp:Pr p) (hl : -6≤l):¬ turn p l x n d<l↔held p l x n d:=by
 unfold turn held
 by_cases z:dv p x n d=0
 ·
  rw [if_pos z,z];exact ⟨fun _=>Int.dvd_zero _,fun _=>by omega⟩
 ·
  rw [if_neg z,← le_vl_iff' hp z (k:=l+6+vl p d) (by omega)];omega
theorem brP_bd {p lv x n d:Int} (hp:Pr p):0≤brP p lv x n d∧brP p lv x n d≤p:=by
 have hpp:=hp.pos
 unfold brP
 by_cases c:d=0∨turn p lv x n d<lv
 ·
  rw [if_pos c];omega
 ·
  rw [if_neg c]
  have:=Int.emod_nonneg ((dv p x n d / pw p (lv+6+vl p d))*inv (un p d) p) (b:=p) (by omega)
  have:=Int.emod_lt_of_pos ((dv p x n d / pw p (lv+6+vl p d))*inv (un p d) p) (b:=p) (by omega)
  omega
theorem alg1 (q i u A:Int):q*(1 - i*u)+A*u=q - (q*i - A)*u:=by grind
theorem alg2 (s P V U D:Int) (h:V*U=D):s*P*D=P*V*(s*U):=by subst h;grind
/-- the child on the way to an end holds it -/
theorem brP_held {p n d:Int} (hp:Pr p) {b y:Ball} (hb:Ok p b) (h0:brP p b.lv (mark p b) n d≠0) (h:nbr p b (brP p b.lv (mark p b) n d)=some y):d≠0∧y.lv=b.lv+1∧held p y.lv (mark p y) n d:=by
 obtain ⟨o,l,_,t⟩:=nbr_down hp hb h0 h
 have lb:=hb.1
 have hpp:=hp.pos
 have hc:¬ (d=0∨turn p b.lv (mark p b) n d<b.lv):=fun c=>h0 (by unfold brP;rw [if_pos c])
 have hd:d≠0:=fun e=>hc (Or.inl e)
 refine ⟨hd,l,?_⟩
 have hh:=(held_turn hp (n:=n) (d:=d) lb).1 (fun e=>hc (Or.inr e))
 obtain ⟨q,hq⟩:=hh
 have hP:=pw_pos2 hp (b.lv+6+vl p d)
 have ek:brP p b.lv (mark p b) n d - 1=q*inv (un p d) p % p:=by
  unfold brP;rw [if_neg hc,hq,Int.mul_ediv_cancel_left _ (by omega)];omega
 rw [ek] at t
 obtain ⟨eu,nu⟩:=un_spec hp hd
 have hinv:=inv_spec (n:=un p d) (m:=p) (by omega) (by rw [Int.gcd_comm];exact gcd_one hp nu)
 -- q - s u is a multiple of p
 have e1:=Int.mul_ediv_add_emod (q*inv (un p d) p) p
 have d1:p ∣ q - (q*inv (un p d) p % p)*un p d:=by
  have a1:p ∣ q*(1 - inv (un p d) p*un p d):=Int.dvd_mul_of_dvd_right hinv
  have a2:p ∣ p*(q*inv (un p d) p / p)*un p d:=by rw [Int.mul_assoc];exact Int.dvd_mul_right ..
  have:=Int.dvd_add a1 a2
  have e2:q*inv (un p d) p % p=q*inv (un p d) p - p*(q*inv (un p d) p / p):=by omega
  rw [e2]
  generalize p*(q*inv (un p d) p / p)=A at *
  rwa [show q*(1 - inv (un p d) p*un p d)+A*un p d=q - (q*inv (un p d) p - A)*un p d from alg1 ..] at this
 generalize q*inv (un p d) p % p=s at *
 unfold held
 have e7:pw p (y.lv+6+vl p d)=pw p (b.lv+6+vl p d)*p:=by
  rw [l,show b.lv+1+6+(vl p d:Int)=(b.lv+6+vl p d)+1 by omega,pw_add (by omega) (by omega)];congr 1;show p ^ 1=p;rw [Int.pow_succ,Int.pow_zero,Int.one_mul]
 obtain ⟨r,hr⟩:=t
 have evl:pw p (vl p d)*un p d=d:=eu.symm
 have b1:pw p (y.lv+6+vl p d) ∣ (mark p y - (mark p b+s*pw p (b.lv+6)))*d:=by
  rw [hr,pw_add (by omega) (by omega)]
  exact Int.mul_dvd_mul (Int.dvd_mul_right ..) (pw_vl_dvd hp hd)
 have b2:pw p (y.lv+6+vl p d) ∣ pw p (b.lv+6+vl p d)*(q - s*un p d):=by
  rw [e7];exact Int.mul_dvd_mul_left _ d1
 have:=Int.dvd_sub b2 b1
 have e8:s*pw p (b.lv+6)*d=pw p (b.lv+6+vl p d)*(s*un p d):=by
  rw [show pw p (b.lv+6+vl p d)=pw p (b.lv+6)*pw p (vl p d) from pw_add (by omega) (by omega)]
  exact alg2 _ _ _ _ _ evl
 have e9:pw p (b.lv+6+vl p d)*(q - s*un p d) - (mark p y - (mark p b+s*pw p (b.lv+6)))*d=dv p (mark p y) n d:=by
  rw [Int.mul_sub,← hq,← e8];unfold dv
  rw [Int.sub_mul,Int.add_mul];omega
 rwa [e9] at this
/-- the way to an end never turns back -/
theorem noback {p n d:Int} (hp:Pr p) {b y z:Ball} (hb:Ok p b) (h:nbr p b (brP p b.lv (mark p b) n d)=some y) (h2:nbr p y (brP p y.lv (mark p y) n d)=some z):z≠b:=by
 intro e
 have oy:=nbr_ok hp h
 have ly:=oy.1
 have lb:=hb.1
 by_cases k0:brP p b.lv (mark p b) n d=0
 ·
  rw [k0] at h
  obtain ⟨_,l1,_⟩:=nbr_up hp h
  by_cases k1:brP p y.lv (mark p y) n d=0
  ·
   rw [k1] at h2
   obtain ⟨_,l2,_⟩:=nbr_up hp h2
   rw [e] at l2;omega
  ·
   obtain ⟨hd,l2,hh⟩:=brP_held hp oy k1 h2
   rw [e] at hh
   have:=(held_turn hp lb).2 hh
   have c:¬ (d=0∨turn p b.lv (mark p b) n d<b.lv):=fun c=>by rcases c with c|c <;> contradiction
   unfold brP at k0
   rw [if_neg c] at k0
   have:=Int.emod_nonneg ((dv p (mark p b) n d / pw p (b.lv+6+vl p d))*inv (un p d) p) (b:=p) (by have:=hp.pos;omega)
   omega
 ·
  obtain ⟨hd,l1,hh⟩:=brP_held hp hb k0 h
  have:=(held_turn hp ly).2 hh
  have c:¬ (d=0∨turn p y.lv (mark p y) n d<y.lv):=fun c=>by rcases c with c|c <;> contradiction
  have k1:brP p y.lv (mark p y) n d≠0:=by
   unfold brP
   rw [if_neg c]
   have:=Int.emod_nonneg ((dv p (mark p y) n d / pw p (y.lv+6+vl p d))*inv (un p d) p) (b:=p) (by have:=hp.pos;omega)
   omega
  obtain ⟨_,l2,_⟩:=nbr_down hp oy k1 h2
  rw [e] at l2;omega
end PM
namespace PM
theorem brP_zero {p l x n d:Int} (hp:Pr p) (hl : -6≤l):brP p l x n d=0↔(d=0∨¬ held p l x n d):=by
 have hpp:=hp.pos
 have ht:=held_turn (x:=x) (n:=n) (d:=d) hp hl
 unfold brP
 have:=Int.emod_nonneg ((dv p x n d / pw p (l+6+vl p d))*inv (un p d) p) (b:=p) (by omega)
 by_cases c:d=0∨turn p l x n d<l
 ·
  rw [if_pos c]
  refine ⟨fun _=>?_,fun _=>rfl⟩
  rcases c with c|c
  ·
   exact Or.inl c
  ·
   exact Or.inr (fun h=>ht.2 h c)
 ·
  rw [if_neg c]
  refine ⟨fun _=>by omega,fun h=>?_⟩
  exfalso
  rcases h with h|h
  ·
   exact c (Or.inl h)
  ·
   exact h (ht.1 (fun w=>c (Or.inr w)))
theorem alg3 (L V1 U1 V2 U2 q1 q2 d1 d2:Int) (h1:V1*U1=d1) (h2:V2*U2=d2):L*V1*V2*(q1*U2 - q2*U1)=L*V1*q1*d2 - L*V2*q2*d1:=by subst h1;subst h2;grind
/-- two ends held by a ball lie in one child just when they lie nearer than its level -/
theorem same_child {p l x n1 d1 n2 d2:Int} (hp:Pr p) (hl : -6≤l) (h1:d1≠0) (h2:d2≠0) (hc:cr n1 d1 n2 d2≠0) (a1:held p l x n1 d1) (a2:held p l x n2 d2):brP p l x n1 d1=brP p l x n2 d2↔l+1≤(vl p (cr n1 d1 n2 d2):Int) - vl p d1 - vl p d2:=by
 have hpp:=hp.pos
 have c1:¬ (d1=0∨turn p l x n1 d1<l):=fun c=>by
  rcases c with c|c
  ·
   exact h1 c
  ·
   exact (held_turn hp hl).2 a1 c
 have c2:¬ (d2=0∨turn p l x n2 d2<l):=fun c=>by
  rcases c with c|c
  ·
   exact h2 c
  ·
   exact (held_turn hp hl).2 a2 c
 obtain ⟨q1,e1⟩:=a1
 obtain ⟨q2,e2⟩:=a2
 have P1:=pw_pos2 hp (l+6+vl p d1)
 have P2:=pw_pos2 hp (l+6+vl p d2)
 obtain ⟨u1,w1⟩:=un_spec hp h1
 obtain ⟨u2,w2⟩:=un_spec hp h2
 have i1:=inv_spec (n:=un p d1) (m:=p) (by omega) (by rw [Int.gcd_comm];exact gcd_one hp w1)
 have i2:=inv_spec (n:=un p d2) (m:=p) (by omega) (by rw [Int.gcd_comm];exact gcd_one hp w2)
 have key:brP p l x n1 d1=brP p l x n2 d2↔p ∣ q1*un p d2 - q2*un p d1:=by
  unfold brP
  rw [if_neg c1,if_neg c2,e1,e2,Int.mul_ediv_cancel_left _ (by omega),Int.mul_ediv_cancel_left _ (by omega)]
  generalize un p d1=U1 at *
  generalize un p d2=U2 at *
  generalize inv U1 p=I1 at *
  generalize inv U2 p=I2 at *
  constructor
  ·
   intro h
   have h':p ∣ q1*I1 - q2*I2:=Int.dvd_of_emod_eq_zero (Int.emod_eq_emod_iff_emod_sub_eq_zero.1 (by omega))
   have b1:p ∣ (q1*I1 - q2*I2)*(U1*U2):=Int.dvd_mul_of_dvd_left h'
   have b2:p ∣ (1 - I1*U1)*(q1*U2):=Int.dvd_mul_of_dvd_left i1
   have b3:p ∣ (1 - I2*U2)*(q2*U1):=Int.dvd_mul_of_dvd_left i2
   have:=Int.dvd_sub (Int.dvd_add b1 b2) b3
   rwa [show (q1*I1 - q2*I2)*(U1*U2)+(1 - I1*U1)*(q1*U2) - (1 - I2*U2)*(q2*U1)=q1*U2 - q2*U1 by grind] at this
  ·
   intro h
   have b1:p ∣ (q1*U2 - q2*U1)*(I1*I2):=Int.dvd_mul_of_dvd_left h
   have b2:p ∣ (1 - I2*U2)*(q1*I1):=Int.dvd_mul_of_dvd_left i2
   have b3:p ∣ (1 - I1*U1)*(q2*I2):=Int.dvd_mul_of_dvd_left i1
   have:=Int.dvd_sub (Int.dvd_add b1 b2) b3
   rw [show (q1*U2 - q2*U1)*(I1*I2)+(1 - I2*U2)*(q1*I1) - (1 - I1*U1)*(q2*I2)=q1*I1 - q2*I2 by grind] at this
   rw [Int.emod_eq_emod_iff_emod_sub_eq_zero.2 (Int.emod_eq_zero_of_dvd this)]
 rw [key]
 have e:=dv_cr p x n1 d1 n2 d2
 have h6:=pw_pos2 hp 6
 have hL:(0:Int)<pw p (l+6):=pw_pos2 hp _
 -- the cross number over the powers
 have e3:pw p (l+6)*pw p (vl p d1)*pw p (vl p d2)*(q1*un p d2 - q2*un p d1)=pw p 6*cr n1 d1 n2 d2:=by
  rw [e1,e2,show pw p (l+6+vl p d1)=pw p (l+6)*pw p (vl p d1) from pw_add (by omega) (by omega),show pw p (l+6+vl p d2)=pw p (l+6)*pw p (vl p d2) from pw_add (by omega) (by omega)] at e
  rw [← e]
  exact alg3 _ _ _ _ _ _ _ _ _ u1.symm u2.symm
 have hN:q1*un p d2 - q2*un p d1≠0:=by
  intro z;rw [z,Int.mul_zero] at e3
  exact Int.mul_ne_zero (by omega) hc e3.symm
 have v:=congrArg (vl p) e3
 have k1:=pw_pos2 hp (vl p d1)
 have k2:=pw_pos2 hp (vl p d2)
 rw [vl_mul hp (Int.mul_ne_zero (Int.mul_ne_zero (by omega) (by omega)) (by omega)) hN,vl_mul hp (Int.mul_ne_zero (by omega) (by omega)) (by omega),vl_mul hp (by omega) (by omega),vl_mul hp (by omega) hc] at v
 have z1:=vl_pw hp (l+6) (by omega)
 have z2:=vl_pw hp (vl p d1) (by omega)
 have z3:=vl_pw hp (vl p d2) (by omega)
 have z4:=vl_pw hp 6 (by omega)
 have:=le_vl_iff' hp hN (k:=1) (by omega)
 rw [show pw p 1=p by show p ^ 1=p;rw [Int.pow_succ,Int.pow_zero,Int.one_mul]] at this
 rw [← this]
 omega
end PM
namespace PM
instance (p l x n d:Int):Decidable (held p l x n d):=by unfold held;infer_instance
theorem le_turn {p l' L x n d:Int} (hp:Pr p) (hl:0≤l'+6+vl p d):l'≤turn p L x n d↔l'≤L∧pw p (l'+6+vl p d) ∣ dv p x n d:=by
 unfold turn
 by_cases z:dv p x n d=0
 ·
  rw [if_pos z,z];exact ⟨fun h=>⟨h,Int.dvd_zero _⟩,fun h=>h.1⟩
 ·
  rw [if_neg z,← le_vl_iff' hp z hl];omega
/-- the turning seen from the ball above at a level -/
theorem turn_up {p L x y M n d:Int} (hp:Pr p) (hL : -6≤L) (hM:L≤M) (h:pw p (L+6) ∣ y - x) (hd:d≠0):turn p L y n d=min (turn p M x n d) L:=by
 have hdv:pw p (L+6+vl p d) ∣ (y - x)*d:=by
  rw [pw_add (by omega) (by omega)];exact Int.mul_dvd_mul h (pw_vl_dvd hp hd)
 have key:∀ l':Int,0≤l'+6+vl p d→(l'≤turn p L y n d↔l'≤min (turn p M x n d) L):=by
  intro l' hl
  have a:=le_turn (L:=L) (x:=y) (n:=n) hp hl
  have b:=le_turn (L:=M) (x:=x) (n:=n) hp hl
  by_cases z:l'≤L
  ·
   have hk:pw p (l'+6+vl p d) ∣ (y - x)*d:=Int.dvd_trans (pw_dvd (by omega)) hdv
   have e:dv p x n d=dv p y n d+(y - x)*d:=by unfold dv;rw [Int.sub_mul];omega
   have i:pw p (l'+6+vl p d) ∣ dv p y n d↔pw p (l'+6+vl p d) ∣ dv p x n d:=by
    rw [e];exact (Int.dvd_add_left hk).symm
   rw [a,i];constructor
   ·
    rintro ⟨h1,h2⟩;have:=b.2 ⟨by omega,h2⟩;omega
   ·
    intro h1;exact ⟨z,(b.1 (by omega)).2⟩
  ·
   have:=turn_le p L y n d;omega
 have low:∀ K z:Int,L≤K→-6 - (vl p d:Int)≤turn p K z n d:=by
  intro K z hK
  refine (le_turn hp (by omega)).2 ⟨by omega,?_⟩
  rw [show -6 - (vl p d:Int)+6+vl p d=0 by omega,pw_zero];exact Int.one_dvd _
 have l1:=low L y (by omega)
 have l2:=low M x hM
 have k1:=(key (turn p L y n d) (by omega)).1 (by omega)
 have k2:=(key (min (turn p M x n d) L) (by omega)).2 (by omega)
 omega
def gapP (p n1 d1 n2 d2:Int):Int:=(vl p (cr n1 d1 n2 d2):Int) - vl p d1 - vl p d2
/-- the steps from a ball to the line of two ends -/
def stepsP (p l x n1 d1 n2 d2:Int):Int:=
 if d1=0 then l - turn p l x n2 d2
 else if d2=0 then l - turn p l x n1 d1
 else if turn p l x n1 d1=turn p l x n2 d2 then l - turn p l x n1 d1+gapP p n1 d1 n2 d2 - turn p l x n1 d1
 else l - max (turn p l x n1 d1) (turn p l x n2 d2)
/-- a ball is on a line just when it has no step to go -/
theorem on_line {p l x n1 d1 n2 d2:Int} (hp:Pr p) (hl : -6≤l) (hz:¬ (d1=0∧d2=0)) (hc:d1≠0→d2≠0→cr n1 d1 n2 d2≠0):brP p l x n1 d1≠brP p l x n2 d2↔stepsP p l x n1 d1 n2 d2=0:=by
 have z1:=brP_zero (x:=x) (n:=n1) (d:=d1) hp hl
 have z2:=brP_zero (x:=x) (n:=n2) (d:=d2) hp hl
 have t1:=turn_le p l x n1 d1
 have t2:=turn_le p l x n2 d2
 have h1:=held_turn (x:=x) (n:=n1) (d:=d1) hp hl
 have h2:=held_turn (x:=x) (n:=n2) (d:=d2) hp hl
 unfold stepsP
 by_cases c1:d1=0
 ·
  have c2:d2≠0:=fun e=>hz ⟨c1,e⟩
  rw [if_pos c1,z1.2 (Or.inl c1)]
  constructor
  ·
   intro h
   have:¬ turn p l x n2 d2<l:=h2.2 (Decidable.byContradiction fun w=>h (z2.2 (Or.inr w)).symm)
   omega
  ·
   intro h e
   rcases z2.1 e.symm with w|w
   ·
    exact c2 w
   ·
    exact w (h2.1 (by omega))
 ·
  rw [if_neg c1]
  by_cases c2:d2=0
  ·
   rw [if_pos c2,z2.2 (Or.inl c2)]
   constructor
   ·
    intro h
    have:¬ turn p l x n1 d1<l:=h1.2 (Decidable.byContradiction fun w=>h (z1.2 (Or.inr w)))
    omega
   ·
    intro h e
    rcases z1.1 e with w|w
    ·
     exact c1 w
    ·
     exact w (h1.1 (by omega))
  ·
   rw [if_neg c2]
   obtain ⟨g1,g2,g3⟩:=gap_turn (lv:=l) (x:=x) hp c1 c2 (hc c1 c2)
   by_cases e:turn p l x n1 d1=turn p l x n2 d2
   ·
    rw [if_pos e]
    have g:=g1 e
    unfold gapP
    by_cases w:turn p l x n1 d1<l
    ·
     rw [z1.2 (Or.inr fun q=>h1.2 q w),z2.2 (Or.inr fun q=>h2.2 q (by omega))]
     constructor
     ·
      intro q;exact absurd rfl q
     ·
      intro q;omega
    ·
     have s:=same_child hp hl c1 c2 (hc c1 c2) (h1.1 w) (h2.1 (by omega))
     rw [Ne,s];omega
   ·
    rw [if_neg e]
    by_cases w1:turn p l x n1 d1<l
    ·
     rw [z1.2 (Or.inr fun q=>h1.2 q w1)]
     by_cases w2:turn p l x n2 d2<l
     ·
      rw [z2.2 (Or.inr fun q=>h2.2 q w2)]
      constructor
      ·
       intro q;exact absurd rfl q
      ·
       intro q;omega
     ·
      refine ⟨fun _=>by omega,fun _ q=>?_⟩
      rcases z2.1 q.symm with w|w
      ·
       exact c2 w
      ·
       exact w (h2.1 w2)
    ·
     have w2:turn p l x n2 d2<l:=by omega
     rw [z2.2 (Or.inr fun q=>h2.2 q w2)]
     refine ⟨fun _=>by omega,fun _ q=>?_⟩
     rcases z1.1 q with w|w
     ·
      exact c1 w
     ·
      exact w (h1.1 w1)
theorem stepsP_comm {p l x n1 d1 n2 d2:Int} (hp:Pr p) (hz:¬ (d1=0∧d2=0)):stepsP p l x n1 d1 n2 d2=stepsP p l x n2 d2 n1 d1:=by
 have e:cr n2 d2 n1 d1 = -(cr n1 d1 n2 d2):=by unfold cr;omega
 unfold stepsP gapP
 rw [e,vl_neg p _ hp]
 by_cases c1:d1=0
 ·
  have c2:d2≠0:=fun w=>hz ⟨c1,w⟩
  rw [if_pos c1,if_neg c2,if_pos c1]
 ·
  rw [if_neg c1]
  by_cases c2:d2=0
  ·
   rw [if_pos c2,if_pos c2]
  ·
   rw [if_neg c2,if_neg c2,if_neg c1]
   by_cases t:turn p l x n1 d1=turn p l x n2 d2
   ·
    rw [if_pos t,if_pos t.symm];omega
   ·
    rw [if_neg t,if_neg (fun w=>t w.symm)];omega
end PM
namespace PM
theorem about_above {p L:Int} {b y:Ball} (hp:Pr p) (h:about p L (mark p b)=some y):Ok p y∧y.lv=L∧pw p (L+6) ∣ mark p y - mark p b∧y=ab p L b:=by
 obtain ⟨o,l,i,m⟩:=about_spec hp h
 refine ⟨o,l,?_,?_⟩
 ·
  rw [m]
  have:=Int.dvd_self_sub_emod (x:=mark p b) (m:=pw p (L+6))
  generalize mark p b=X at this ⊢
  rw [show X % pw p (L+6) - X = -(X - X % pw p (L+6)) by omega]
  exact Int.dvd_neg.2 this
 ·
  unfold about at h;rw [if_pos i] at h
  exact (Option.some.inj h).symm
/-- the ball of a level about an end -/
theorem ballAt_held {p n d g:Int} {y:Ball} (hp:Pr p) (hd:d≠0) (h:ballAt p n d g=some y):Ok p y∧y.lv=g∧held p g (mark p y) n d:=by
 have:=ballAt_is (num:=n) (lv:=g) hp hd
 rw [h] at this
 obtain ⟨_,_,o,l,r⟩:=this
 exact ⟨o,l,r.2.2⟩
/-- the join of a ball and a ball about an end -/
theorem jl_held {p n d:Int} {b y:Ball} (hp:Pr p) (hb:Ok p b) (hy:Ok p y) (hd:d≠0) (h:held p y.lv (mark p y) n d):jl p b y=min (turn p b.lv (mark p b) n d) y.lv∧-6≤turn p b.lv (mark p b) n d:=by
 have ly:=hy.1
 have lb:=hb.1
 have bd:=jl_bd p hb hy
 have hv:=pw_pos2 hp (vl p d)
 obtain ⟨eu,nu⟩:=un_spec hp hd
 have e:dv p (mark p b) n d=dv p (mark p y) n d - (mark p b - mark p y)*d:=by unfold dv;rw [Int.sub_mul];omega
 have key:∀ l':Int,-6≤l'→(l'≤jl p b y↔l'≤min (turn p b.lv (mark p b) n d) y.lv):=by
  intro l' hl
  have a:=le_jl hp hb hy hl
  have t:=le_turn (l':=l') (L:=b.lv) (x:=mark p b) (n:=n) (d:=d) hp (by omega)
  by_cases z:l'≤y.lv
  ·
   have hk:pw p (l'+6+vl p d) ∣ dv p (mark p y) n d:=Int.dvd_trans (pw_dvd (by omega)) h
   have i:pw p (l'+6) ∣ mark p b - mark p y↔pw p (l'+6+vl p d) ∣ dv p (mark p b) n d:=by
    rw [e]
    have i1:pw p (l'+6+vl p d) ∣ dv p (mark p y) n d - (mark p b - mark p y)*d↔pw p (l'+6+vl p d) ∣ (mark p b - mark p y)*d:=by
     constructor
     ·
      intro w;have:=Int.dvd_sub hk w
      rwa [show dv p (mark p y) n d - (dv p (mark p y) n d - (mark p b - mark p y)*d)=(mark p b - mark p y)*d by omega] at this
     ·
      intro w;exact Int.dvd_sub hk w
    rw [i1]
    generalize mark p b - mark p y=X at *
    constructor
    ·
     intro w
     rw [show pw p (l'+6+vl p d)=pw p (l'+6)*pw p (vl p d) from pw_add (by omega) (by omega)]
     exact Int.mul_dvd_mul w (pw_vl_dvd hp hd)
    ·
     intro w
     by_cases x0:X=0
     ·
      rw [x0];exact Int.dvd_zero _
     ·
      have w2:pw p (l'+6+vl p d) ∣ X*d:=w
      have w3:=(le_vl_iff' hp (Int.mul_ne_zero x0 hd) (k:=l'+6+vl p d) (by omega)).2 w2
      rw [vl_mul hp x0 hd] at w3
      exact (le_vl_iff' hp x0 (k:=l'+6) (by omega)).1 (by omega)
   rw [a,i]
   constructor
   ·
    rintro ⟨h1,h2,h3⟩;have:=t.2 ⟨h1,h3⟩;omega
   ·
    intro h1;have:=t.1 (by omega);exact ⟨this.1,z,this.2⟩
  ·
   omega
 have t6 : -6≤turn p b.lv (mark p b) n d:=by
  have:=(key (-6) (by omega)).1 bd.1
  omega
 have k1:=(key (jl p b y) bd.1).1 (by omega)
 have k2:=(key (min (turn p b.lv (mark p b) n d) y.lv) (by omega)).2 (by omega)
 exact ⟨by omega,t6⟩
/-- the nearest ball of a line, if it fits -/
def nearP (p:Int) (b:Ball) (n1 d1 n2 d2:Int):Option Ball:=
 if d1=0 then about p (turn p b.lv (mark p b) n2 d2) (mark p b)
 else if d2=0 then about p (turn p b.lv (mark p b) n1 d1) (mark p b)
 else if turn p b.lv (mark p b) n1 d1=turn p b.lv (mark p b) n2 d2 then ballAt p n1 d1 (gapP p n1 d1 n2 d2)
 else about p (max (turn p b.lv (mark p b) n1 d1) (turn p b.lv (mark p b) n2 d2)) (mark p b)
theorem near_ok {p n1 d1 n2 d2:Int} {b y:Ball} (hp:Pr p) (hb:Ok p b) (hz:¬ (d1=0∧d2=0)) (hc:d1≠0→d2≠0→cr n1 d1 n2 d2≠0) (h:nearP p b n1 d1 n2 d2=some y):Ok p y∧dist p b y=stepsP p b.lv (mark p b) n1 d1 n2 d2∧stepsP p y.lv (mark p y) n1 d1 n2 d2=0:=by
 have lb:=hb.1
 have t1:=turn_le p b.lv (mark p b) n1 d1
 have t2:=turn_le p b.lv (mark p b) n2 d2
 have up:∀ L,L≤b.lv→about p L (mark p b)=some y→Ok p y∧y.lv=L∧dist p b y=b.lv - L∧∀ n d,d≠0→turn p L (mark p y) n d=min (turn p b.lv (mark p b) n d) L:=by
  intro L hL e
  obtain ⟨o,l,dv,ea⟩:=about_above hp e
  have l6:=o.1
  refine ⟨o,l,?_,fun n d hd=>turn_up hp (by omega) hL dv hd⟩
  rw [ea,dist_comm,ab_dist hp hb hb (by omega) hL,jl_self hb];omega
 unfold nearP at h
 unfold stepsP
 by_cases c1:d1=0
 ·
  have c2:d2≠0:=fun e=>hz ⟨c1,e⟩
  rw [if_pos c1] at h
  obtain ⟨o,l,dd,tt⟩:=up _ t2 h
  rw [if_pos c1,if_pos c1,l,tt n2 d2 c2]
  exact ⟨o,dd,by omega⟩
 ·
  rw [if_neg c1] at h
  rw [if_neg c1,if_neg c1]
  by_cases c2:d2=0
  ·
   rw [if_pos c2] at h
   obtain ⟨o,l,dd,tt⟩:=up _ t1 h
   rw [if_pos c2,if_pos c2,l,tt n1 d1 c1]
   exact ⟨o,dd,by omega⟩
  ·
   rw [if_neg c2] at h
   rw [if_neg c2,if_neg c2]
   obtain ⟨g1,g2,g3⟩:=gap_turn (lv:=b.lv) (x:=mark p b) hp c1 c2 (hc c1 c2)
   by_cases e:turn p b.lv (mark p b) n1 d1=turn p b.lv (mark p b) n2 d2
   ·
    rw [if_pos e] at h
    have g:=g1 e
    obtain ⟨o,l,hh⟩:=ballAt_held hp c1 h
    have ly:=o.1
    have hh':held p y.lv (mark p y) n1 d1:=by rw [l];exact hh
    obtain ⟨j,_⟩:=jl_held hp hb o c1 hh'
    have y1:=(held_turn hp ly).2 hh'
    have y1':=turn_le p y.lv (mark p y) n1 d1
    have y2':=turn_le p y.lv (mark p y) n2 d2
    obtain ⟨k1,k2,k3⟩:=gap_turn (lv:=y.lv) (x:=mark p y) hp c1 c2 (hc c1 c2)
    have eg:gapP p n1 d1 n2 d2=(vl p (cr n1 d1 n2 d2):Int) - vl p d1 - vl p d2:=rfl
    refine ⟨o,?_,?_⟩
    ·
     rw [if_pos e];unfold dist;rw [j];omega
    ·
     have:turn p y.lv (mark p y) n1 d1=turn p y.lv (mark p y) n2 d2:=by
      rcases Int.lt_or_le (turn p y.lv (mark p y) n2 d2) (turn p y.lv (mark p y) n1 d1) with w|w
      ·
       have:=k2 w;omega
      ·
       omega
     rw [if_pos this];omega
   ·
    rw [if_neg e] at h
    obtain ⟨o,l,dd,tt⟩:=up _ (by omega) h
    refine ⟨o,by rw [if_neg e];exact dd,?_⟩
    rw [l,tt n1 d1 c1,tt n2 d2 c2,if_neg (by omega)]
    omega
end PM
