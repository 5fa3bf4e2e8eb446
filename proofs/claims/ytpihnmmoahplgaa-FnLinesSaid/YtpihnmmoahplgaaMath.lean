/- Plain mathematics: valuations, powers, balls told by their marks. -/
namespace PM
def Pr (p:Int):Prop:=p=2∨p=3∨p=5∨p=7
instance (p:Int):Decidable (Pr p):=by unfold Pr;infer_instance
theorem Pr.pos {p:Int} (h:Pr p):2≤p:=by unfold Pr at h;omega
theorem Pr.le {p:Int} (h:Pr p):p≤7:=by unfold Pr at h;omega
theorem pw_pos {p:Int} (h:Pr p) (k:Nat):0<p ^ k:=Int.pow_pos (by have:=h.pos;omega)
theorem pow_mono {p:Int} (h:1≤p) {a b:Nat} (hab:a≤b):p ^ a≤p ^ b:=by
 obtain ⟨c,rfl⟩:=Nat.exists_eq_add_of_le hab
 rw [Int.pow_add]
 have h1:0<p ^ a:=Int.pow_pos (by omega)
 have h2:0<p ^ c:=Int.pow_pos (by omega)
 have:p ^ a*1≤p ^ a*p ^ c:=Int.mul_le_mul_of_nonneg_left (by omega) (by omega)
 omega
theorem fF {p:Int} {a b:Nat} (hab:a≤b):p ^ a ∣ p ^ b:=by
 obtain ⟨c,rfl⟩:=Nat.exists_eq_add_of_le hab
 rw [Int.pow_add];exact Int.dvd_mul_right ..
theorem gcd_one {p:Int} (hp:Pr p) {a:Int} (h:¬ p ∣ a):Int.gcd p a=1:=by
 have h1:(Int.gcd p a:Int) ∣ p:=Int.gcd_dvd_left ..
 have h2:(Int.gcd p a:Int) ∣ a:=Int.gcd_dvd_right ..
 have h3:Int.gcd p a≠0:=by
  intro h0;rw [h0] at h1;have:=Int.zero_dvd.1 h1;have:=hp.pos;omega
 have h4:(Int.gcd p a:Int)≤p:=Int.le_of_dvd (by have:=hp.pos;omega) h1
 generalize hg:Int.gcd p a=g at *
 have hc:g=1∨(g:Int)=p:=by
  unfold Pr at hp
  rcases hp with rfl|rfl|rfl|rfl <;> 
   (have:g≤7:=by omega) <;>
   (match g,this with
    | 0,_=>omega|1,_=>omega|2,_=>omega|3,_=>omega|4,_=>omega|5,_=>omega|6,_=>omega|7,_=>omega)
 rcases hc with h|hc
 ·
  exact h
 ·
  rw [hc] at h2;exact absurd h2 h
theorem dvd_of_dvd_mul_right_of_gcd_one {a b c:Int} (h:a ∣ b*c) (hg:Int.gcd a b=1):a ∣ c:=by
 have h1:a.natAbs ∣ b.natAbs*c.natAbs:=by rw [← Int.natAbs_mul];exact Int.natAbs_dvd_natAbs.2 h
 have h2:a.natAbs ∣ c.natAbs:=Nat.Coprime.dvd_of_dvd_mul_left (n:=c.natAbs) (m:=b.natAbs) (k:=a.natAbs) hg h1
 exact Int.natAbs_dvd_natAbs.1 h2
theorem fU {p:Int} (hp:Pr p) {a b:Int} (h:p ∣ a*b):p ∣ a∨p ∣ b:=by
 by_cases ha:p ∣ a
 ·
  exact Or.inl ha
 ·
  exact Or.inr (dvd_of_dvd_mul_right_of_gcd_one h (gcd_one hp ha))
theorem not_dvd_mul {p:Int} (hp:Pr p) {a b:Int} (ha:¬ p ∣ a) (hb:¬ p ∣ b):¬ p ∣ a*b:=fun h=>(fU hp h).elim ha hb
theorem eo {p:Int} (hp:Pr p) {u:Int} (hu:¬ p ∣ u):∀ (k:Nat) {a:Int},p ^ k ∣ a*u→p ^ k ∣ a
 | 0,a,_=>by simp
 | k+1,a,h=>by
  have h1:p ∣ a*u:=Int.dvd_trans ⟨p ^ k,by rw [Int.pow_succ,Int.mul_comm]⟩ h
  rcases fU hp h1 with ⟨c,rfl⟩|h2
  ·
   have h3:p ^ k ∣ c*u:=by
    rw [Int.pow_succ,Int.mul_comm,Int.mul_assoc] at h
    exact Int.dvd_of_mul_dvd_mul_left (by have:=hp.pos;omega) h
   rw [Int.pow_succ,Int.mul_comm]
   exact Int.mul_dvd_mul_left _ (eo hp hu k h3)
  ·
   exact absurd h2 hu
theorem ez {p:Int} (hp:Pr p) (k j:Nat) {a:Int}:p ^ (k+j) ∣ p ^ j*a↔p ^ k ∣ a:=by
 rw [Nat.add_comm,Int.pow_add]
 exact Int.mul_dvd_mul_iff_left (by have:=pw_pos hp j;omega)
def vF (p:Int):Nat→Int→Nat
 | 0,_=>0
 | k+1,n=>if p ∣ n then vF p k (n / p)+1 else 0
def vl (p n:Int):Nat:=vF p n.natAbs n
theorem vF_spec {p:Int} (hp:Pr p):∀ (k:Nat) (n:Int),n≠0→n.natAbs≤k→p ^ (vF p k n) ∣ n∧¬ p ^ (vF p k n+1) ∣ n
 | 0,n,h0,h=>by omega
 | k+1,n,h0,h=>by
  unfold vF
  split
  ·
   rename_i hd
   obtain ⟨c,rfl⟩:=hd
   have hp2:=hp.pos
   have hc:c≠0:=by intro h;subst h;simp at h0
   have e:p*c / p=c:=Int.mul_ediv_cancel_left _ (by omega)
   rw [e]
   have hle:c.natAbs≤k:=by
    have:(p*c).natAbs=p.natAbs*c.natAbs:=Int.natAbs_mul ..
    have:2*c.natAbs≤p.natAbs*c.natAbs:=Nat.mul_le_mul_right _ (by omega)
    omega
   obtain ⟨h1,h2⟩:=vF_spec hp k c hc hle
   constructor
   ·
    rw [Int.pow_succ,Int.mul_comm];exact Int.mul_dvd_mul_left _ h1
   ·
    intro h3;apply h2
    rw [Int.pow_succ,Int.mul_comm] at h3
    exact Int.dvd_of_mul_dvd_mul_left (by omega) h3
  ·
   rename_i hd
   exact ⟨by simp,by simpa [Int.pow_one] using hd⟩
theorem vl_dvd {p:Int} (hp:Pr p) {n:Int} (h:n≠0):p ^ (vl p n) ∣ n:=(vF_spec hp _ n h (Nat.le_refl _)).1
theorem vl_not {p:Int} (hp:Pr p) {n:Int} (h:n≠0):¬ p ^ (vl p n+1) ∣ n:=(vF_spec hp _ n h (Nat.le_refl _)).2
theorem ep {p:Int} (hp:Pr p) {n:Int} (h:n≠0) (k:Nat):k≤vl p n↔p ^ k ∣ n:=by
 constructor
 ·
  intro hk;exact Int.dvd_trans (fF hk) (vl_dvd hp h)
 ·
  intro hk
  refine Decidable.byContradiction fun hlt=>vl_not hp h ?_
  exact Int.dvd_trans (fF (by omega)) hk
theorem vl_unique {p:Int} (hp:Pr p) {n:Int} (h:n≠0) {k:Nat} (h1:p ^ k ∣ n) (h2:¬ p ^ (k+1) ∣ n):vl p n=k:=by
 have a:=(ep hp h k).2 h1
 have b:¬ (k+1≤vl p n):=fun hh=>h2 ((ep hp h (k+1)).1 hh)
 omega
theorem fZ {p:Int} (hp:Pr p) {n:Int} (h:n≠0):∃ u,n=p ^ (vl p n)*u∧¬ p ∣ u∧u≠0:=by
 obtain ⟨u,hu⟩:=vl_dvd hp h
 refine ⟨u,hu,?_,?_⟩
 ·
  intro ⟨c,hc⟩
  exact vl_not hp h ⟨c,by rw [Int.pow_succ,Int.mul_assoc,← hc];exact hu⟩
 ·
  intro h0;subst h0;simp at hu;exact h hu
theorem fC {p:Int} (hp:Pr p) {u:Int} (hu:¬ p ∣ u) (k:Nat):vl p (p ^ k*u)=k:=by
 have hk:=pw_pos hp k
 have hu0:u≠0:=by intro h;subst h;simp at hu
 apply vl_unique hp
 ·
  exact Int.mul_ne_zero (by omega) hu0
 ·
  exact Int.dvd_mul_right ..
 ·
  intro h
  have:p ^ (1+k) ∣ p ^ k*u:=by rw [Nat.add_comm];exact h
  rw [ez hp 1 k] at this
  rw [Int.pow_one] at this;exact hu this
theorem vl_mul {p:Int} (hp:Pr p) {a b:Int} (ha:a≠0) (hb:b≠0):vl p (a*b)=vl p a+vl p b:=by
 obtain ⟨u,hu,hu1,_⟩:=fZ hp ha
 obtain ⟨v,hv,hv1,_⟩:=fZ hp hb
 have:a*b=p ^ (vl p a+vl p b)*(u*v):=by
  rw [Int.pow_add];conv=>lhs;rw [hu,hv]
  grind
 rw [this]
 exact fC hp (not_dvd_mul hp hu1 hv1) _
theorem vl_pow {p:Int} (hp:Pr p) (k:Nat):vl p (p ^ k)=k:=by
 have:=fC hp (u:=1) (by intro h;have:=Int.le_of_dvd (by omega) h;have:=hp.pos;omega) k
 simpa using this
theorem vl_neg (p:Int) (n:Int) (hp:Pr p):vl p (-n)=vl p n:=by
 by_cases h:n=0
 ·
  subst h;rfl
 ·
  apply vl_unique hp (by omega)
  ·
   exact (Int.dvd_neg).2 (vl_dvd hp h)
  ·
   intro h2;exact vl_not hp h ((Int.dvd_neg).1 h2)
theorem eU {p:Int} (hp:Pr p) {n:Int} (h:n≠0):vl p n=0↔¬ p ∣ n:=by
 have:=ep hp h 1
 rw [Int.pow_one] at this
 constructor
 ·
  intro h0 h1;have:=this.2 h1;omega
 ·
  intro h1;rcases Nat.eq_zero_or_pos (vl p n) with h|h2
  ·
   exact h
  ·
   exact absurd (this.1 h2) h1
theorem vl_lt_of_abs {p:Int} (hp:Pr p) {n:Int} (h:n≠0) {k:Nat} (hk:n.natAbs<p ^ k):vl p n<k:=by
 refine Decidable.byContradiction fun hlt=>?_
 have h1:=(ep hp h k).1 (by omega)
 have h2:p ^ k ∣ (n.natAbs:Int):=Int.dvd_natAbs.2 h1
 have h3:=Int.le_of_dvd (by omega) h2
 omega
end PM
namespace PM
def pw (p k:Int):Int:=p ^ k.toNat
theorem cE {p:Int} (hp:Pr p) (k:Int):0<pw p k:=pw_pos hp _
theorem dV {p:Int} {a b:Int} (ha:0≤a) (hb:0≤b):pw p (a+b)=pw p a*pw p b:=by
 unfold pw;rw [← Int.pow_add];congr 1;omega
theorem pw_dvd {p:Int} {a b:Int} (h:a≤b):pw p a ∣ pw p b:=fF (by omega)
theorem fb {p:Int} (hp:Pr p) {a b:Int} (h:a≤b):pw p a≤pw p b:=pow_mono (by have:=hp.pos;omega) (by omega)
theorem pw_zero (p:Int):pw p 0=1:=by simp [pw]
theorem pw_one (p:Int):pw p 1=p:=by simp [pw,Int.pow_one]
theorem eQ {p:Int} (hp:Pr p) {k j:Int} (hk:0≤k) (hj:0≤j) {a:Int}:pw p (k+j) ∣ pw p j*a↔pw p k ∣ a:=by
 unfold pw;rw [show (k+j).toNat=k.toNat+j.toNat from by omega];exact ez hp _ _
def vz (p n:Int):Int:=if n=0 then 1000 else (vl p n:Int)
theorem vz_nonneg (p n:Int):0≤vz p n:=by unfold vz;split <;> omega
theorem b8 {p n:Int} (h:n≠0):vz p n=(vl p n:Int):=by simp [vz,h]
theorem dq {p:Int} (hp:Pr p) {n:Int} (h:n≠0):pw p (vl p n) ∣ n:=by
 have:=vl_dvd hp h;simpa [pw] using this
theorem cg {p:Int} (hp:Pr p) {n:Int} (h:n≠0) {k:Int} (hk:0≤k):k≤(vl p n:Int)↔pw p k ∣ n:=by
 have:=ep hp h k.toNat;unfold pw;rw [← this];omega
structure Ball where
 lv:Int
 top:Int
 dn:Int
deriving DecidableEq
def Ok (p:Int) (b:Ball):Prop:=
 -6≤b.lv∧b.lv≤6∧0≤b.dn∧b.dn≤6∧
 ((b.lv+b.dn≤0∧b.top=0∧b.dn=0)∨(0<b.lv+b.dn∧0≤b.top∧b.top<pw p (b.lv+b.dn)∧(b.dn=0∨¬ p ∣ b.top)))
instance (p:Int) (b:Ball):Decidable (Ok p b):=by unfold Ok;infer_instance
def mark (p:Int) (b:Ball):Int:=b.top*pw p (6 - b.dn)
def mk (p lv x:Int):Ball:=
 let d:=max (6 - vz p x) 0
 ⟨lv,x / pw p (6 - d),d⟩
theorem mark_bd {p:Int} (hp:Pr p) {b:Ball} (h:Ok p b):0≤mark p b∧mark p b<pw p (b.lv+6):=by
 obtain ⟨h1,h2,h3,h4,h5⟩:=h
 unfold mark
 have hpos:=cE hp (6 - b.dn)
 rcases h5 with ⟨h5,h6,h7⟩|⟨h5,h6,h7,h8⟩
 ·
  rw [h6];simp;exact cE hp _
 ·
  constructor
  ·
   exact Int.mul_nonneg h6 (by omega)
  ·
   have:pw p (b.lv+6)=pw p (b.lv+b.dn)*pw p (6 - b.dn):=by
    rw [← dV (by omega) (by omega)];congr 1;omega
   rw [this]
   exact Int.mul_lt_mul_of_pos_right h7 hpos
theorem vz_mul_pw {p:Int} (hp:Pr p) {u:Int} (hu:¬ p ∣ u) {k:Int} (hk:0≤k):vz p (u*pw p k)=k:=by
 have hpos:=cE hp k
 have hu0:u≠0:=by intro h;subst h;simp at hu
 rw [b8 (Int.mul_ne_zero hu0 (by omega)),Int.mul_comm]
 unfold pw;rw [fC hp hu];omega
theorem mk_mark {p:Int} (hp:Pr p) {b:Ball} (h:Ok p b):mk p b.lv (mark p b)=b:=by
 obtain ⟨lv,top,dn⟩:=b
 obtain ⟨h1,h2,h3,h4,h5⟩:=h
 simp only at h1 h2 h3 h4 h5
 unfold mk mark
 simp only
 have hpos:=cE hp (6 - dn)
 by_cases h0:top=0
 ·
  subst h0
  have hd:dn=0:=by
   rcases h5 with ⟨_,_,h7⟩|⟨_,_,_,h8⟩
   ·
    exact h7
   ·
    rcases h8 with h8|h8
    ·
     exact h8
    ·
     simp at h8
  subst hd
  simp only [vz,if_true,Int.zero_mul,Int.zero_ediv]
  rw [show max ((6:Int) - 1000) 0=0 from by omega]
 ·
  rcases h5 with ⟨_,h6,_⟩|⟨h5,h6,h7,h8⟩
  ·
   exact absurd h6 h0
  ·
   rcases h8 with h8|h8
   ·
    subst h8
    have hm:max (6 - vz p (top*pw p (6 - 0))) 0=0:=by
     have hne:top*pw p (6 - 0)≠0:=Int.mul_ne_zero h0 (by omega)
     have:(6:Int)≤vl p (top*pw p (6 - 0)):=by
      rw [cg hp hne (by omega)]
      exact Int.dvd_mul_left ..
     rw [b8 hne];omega
    rw [hm]
    rw [Int.mul_ediv_cancel _ (by omega)]
   ·
    rw [vz_mul_pw hp h8 (by omega)]
    have hm:max (6 - (6 - dn)) 0=dn:=by omega
    rw [hm,Int.mul_ediv_cancel _ (by omega)]
theorem ok_mk {p:Int} (hp:Pr p) {lv x:Int} (h1 : -6≤lv) (h2:lv≤6) (h3:0≤x) (h4:x<pw p (lv+6)):Ok p (mk p lv x)∧mark p (mk p lv x)=x:=by
 unfold mk mark Ok
 simp only
 by_cases h0:x=0
 ·
  subst h0
  simp only [vz,if_true,Int.zero_ediv]
  rw [show max ((6:Int) - 1000) 0=0 from by omega]
  refine ⟨⟨h1,h2,by omega,by omega,?_⟩,by simp⟩
  by_cases h:lv≤0
  ·
   exact Or.inl ⟨by omega,by simp⟩
  ·
   exact Or.inr ⟨by omega,by omega,cE hp _,Or.inl rfl⟩
 ·
  have hv:=b8 (p:=p) h0
  by_cases h6:6≤vz p x
  ·
   have hm:max (6 - vz p x) 0=0:=by omega
   rw [hm]
   have hd:pw p 6 ∣ x:=by rw [← cg hp h0 (by omega)];omega
   have hp6:=cE hp 6
   have hlv:0<lv:=by
    refine Decidable.byContradiction fun hn=>?_
    have:=Int.le_of_dvd (by omega) hd
    have:=fb hp (a:=lv+6) (b:=6) (by omega)
    omega
   have hq:x / pw p 6*pw p 6=x:=Int.ediv_mul_cancel hd
   refine ⟨⟨h1,h2,by omega,by omega,Or.inr ⟨by omega,?_,?_,Or.inl rfl⟩⟩,?_⟩
   ·
    exact Int.ediv_nonneg h3 (by simpa using Int.le_of_lt hp6)
   ·
    simp only [Int.sub_zero,Int.add_zero]
    rw [dV (by omega) (by omega)] at h4
    rw [Int.ediv_lt_iff_lt_mul hp6];exact h4
   ·
    simpa using hq
  ·
   have hm:max (6 - vz p x) 0=6 - vz p x:=by omega
   rw [hm]
   have e6:6 - (6 - vz p x)=vz p x:=by omega
   rw [e6]
   have hvn:=vz_nonneg p x
   have hpp:=cE hp (vz p x)
   have hd:pw p (vz p x) ∣ x:=by rw [hv];exact dq hp h0
   have hq:x / pw p (vz p x)*pw p (vz p x)=x:=Int.ediv_mul_cancel hd
   have hlt:vz p x<lv+6:=by
    refine Decidable.byContradiction fun hn=>?_
    have:=Int.le_of_dvd (by omega) hd
    have:=fb hp (a:=lv+6) (b:=vz p x) (by omega)
    omega
   refine ⟨⟨h1,h2,by omega,by omega,Or.inr ⟨by omega,?_,?_,Or.inr ?_⟩⟩,hq⟩
   ·
    exact Int.ediv_nonneg h3 (Int.le_of_lt hpp)
   ·
    rw [Int.ediv_lt_iff_lt_mul hpp,← dV (by omega) (by omega)]
    rw [show lv+(6 - vz p x)+vz p x=lv+6 from by omega];exact h4
   ·
    intro ⟨c,hc⟩
    have:pw p (vz p x+1) ∣ x:=by
     rw [dV hvn (by omega),pw_one]
     rw [hc] at hq
     exact ⟨c,by rw [← hq];grind⟩
    rw [← cg hp h0 (by omega)] at this
    omega
theorem ball_ext_mark {p:Int} (hp:Pr p) {b c:Ball} (hb:Ok p b) (hc:Ok p c) (hl:b.lv=c.lv) (hm:mark p b=mark p c):b=c:=by
 rw [← mk_mark hp hb,← mk_mark hp hc,hl,hm]
def Res (p lv num den r:Int):Prop:=0≤r∧r<pw p (lv+6)∧pw p (lv+6+vl p den) ∣ num*pw p 6 - r*den
theorem res_unique {p:Int} (hp:Pr p) {lv num den r s:Int} (hlv : -6≤lv) (hd:den≠0) (hr:Res p lv num den r) (hs:Res p lv num den s):r=s:=by
 obtain ⟨r1,r2,r3⟩:=hr
 obtain ⟨s1,s2,s3⟩:=hs
 have h1:=Int.dvd_sub r3 s3
 obtain ⟨u,hu,hu1,_⟩:=fZ hp hd
 have h2:num*pw p 6 - r*den - (num*pw p 6 - s*den)=pw p (vl p den)*((s - r)*u):=by
  have:den=pw p (vl p den)*u:=by simpa [pw] using hu
  generalize pw p (vl p den)=q at *
  subst this;grind
 rw [h2,eQ hp (by omega) (by omega)] at h1
 have h3:pw p (lv+6) ∣ s - r:=eo hp hu1 _ h1
 have h4:s - r=0:=by
  refine Decidable.byContradiction fun hne=>?_
  have h5:pw p (lv+6) ∣ ((s - r).natAbs:Int):=Int.dvd_natAbs.2 h3
  have:=Int.le_of_dvd (by omega) h5
  omega
 omega
end PM
namespace PM
def invF:Nat→Int→Int→Int→Int→Int
 | 0,_,_,x,_=>x
 | k+1,a,b,x,y=>if b=0 then x else invF k b (a - a / b*b) y (x - a / b*y)
structure Inv (n m a b x y:Int):Prop where
 a0:0≤a
 b0:0≤b
 ca:m ∣ a - x*n
 cb:m ∣ b - y*n
 sg:(0≤x∧y≤0)∨(x≤0∧0≤y)
 sz:a*(y.natAbs:Int)+b*(x.natAbs:Int)=m
theorem Inv.step {n m a b x y:Int} (h:Inv n m a b x y) (hb:b≠0):Inv n m b (a - a / b*b) y (x - a / b*y):=by
 obtain ⟨a0,b0,ca,cb,sg,sz⟩:=h
 have hq:0≤a / b:=Int.ediv_nonneg a0 b0
 have hr:a - a / b*b=a % b:=by rw [Int.emod_def,Int.mul_comm b]
 have hr0:0≤a % b:=Int.emod_nonneg _ hb
 refine ⟨b0,by omega,cb,?_,?_,?_⟩
 ·
  have:=Int.dvd_sub ca (Int.dvd_mul_of_dvd_right (b:=a / b) cb)
  have e:a - x*n - a / b*(b - y*n)=a - a / b*b - (x - a / b*y)*n:=by grind
  rwa [e] at this
 ·
  rcases sg with ⟨h1,h2⟩|⟨h1,h2⟩
  ·
   refine Or.inr ⟨h2,?_⟩
   have:a / b*y≤0:=Int.mul_nonpos_of_nonneg_of_nonpos hq h2
   omega
  ·
   refine Or.inl ⟨h2,?_⟩
   have:0≤a / b*y:=Int.mul_nonneg hq h2
   omega
 ·
  rcases sg with ⟨h1,h2⟩|⟨h1,h2⟩
  ·
   have h3:a / b*y≤0:=Int.mul_nonpos_of_nonneg_of_nonpos hq h2
   rw [Int.natAbs_of_nonneg (show 0≤x - a / b*y by omega)]
   rw [Int.ofNat_natAbs_of_nonpos h2] at sz ⊢
   rw [Int.natAbs_of_nonneg h1] at sz
   grind
  ·
   have h3:0≤a / b*y:=Int.mul_nonneg hq h2
   rw [Int.ofNat_natAbs_of_nonpos (show x - a / b*y≤0 by omega)]
   rw [Int.natAbs_of_nonneg h2] at sz ⊢
   rw [Int.ofNat_natAbs_of_nonpos h1] at sz
   grind
theorem Inv.start {n m:Int} (hn:0≤n) (hm:0≤m):Inv n m n m 1 0:=
 ⟨hn,hm,by simp,by simp,Or.inl ⟨by omega,by omega⟩,by simp⟩
theorem Inv.bd {n m a b x y:Int} (h:Inv n m a b x y):(0<b→x.natAbs≤m)∧(0<a→y.natAbs≤m)∧a≤max n a∧(0<b→0≤a / b*(y.natAbs:Int)∧a / b*(y.natAbs:Int)≤m):=by
 obtain ⟨a0,b0,ca,cb,sg,sz⟩:=h
 have h1:0≤a*(y.natAbs:Int):=Int.mul_nonneg a0 (by omega)
 have h2:0≤b*(x.natAbs:Int):=Int.mul_nonneg b0 (by omega)
 refine ⟨fun hb=>?_,fun ha=>?_,by omega,fun hb=>?_⟩
 ·
  have:1*(x.natAbs:Int)≤b*(x.natAbs:Int):=Int.mul_le_mul_of_nonneg_right (by omega) (by omega)
  omega
 ·
  have:1*(y.natAbs:Int)≤a*(y.natAbs:Int):=Int.mul_le_mul_of_nonneg_right (by omega) (by omega)
  omega
 ·
  have hq:0≤a / b:=Int.ediv_nonneg a0 b0
  have hle:a / b≤a:=Int.ediv_le_self _ a0
  have:a / b*(y.natAbs:Int)≤a*(y.natAbs:Int):=Int.mul_le_mul_of_nonneg_right hle (by omega)
  exact ⟨Int.mul_nonneg hq (by omega),by omega⟩
theorem invF_spec {n m:Int}:∀ (k:Nat) (a b x y:Int),Inv n m a b x y→b<k→m ∣ (Int.gcd a b:Int) - invF k a b x y*n
 | 0,a,b,x,y,h,hk=>by have:=h.b0;omega
 | k+1,a,b,x,y,h,hk=>by
  unfold invF
  split
  ·
   rename_i hb;subst hb
   have:=h.ca
   rw [Int.gcd_zero_right,Int.natAbs_of_nonneg h.a0];exact this
  ·
   rename_i hb
   have h2:=h.step hb
   have h3:a - a / b*b=a % b:=by rw [Int.emod_def,Int.mul_comm b]
   have hlt:a % b<b:=Int.emod_lt_of_pos _ (by have:=h.b0;omega)
   have:=invF_spec k b (a - a / b*b) y (x - a / b*y) h2 (by omega)
   rw [h3] at this ⊢
   have e:Int.gcd b (a % b)=Int.gcd a b:=by
    rw [Int.gcd_comm a b]
    unfold Int.gcd
    rw [show (a % b).natAbs=a.natAbs % b.natAbs from Int.natAbs_emod_of_nonneg h.a0 b]
    rw [Nat.gcd_comm b.natAbs,← Nat.gcd_rec,Nat.gcd_comm]
   rwa [e] at this
end PM
namespace PM
def inv (n m:Int):Int:=invF (m.toNat+2) (n % m) m 1 0 % m
theorem inv_spec {n m:Int} (hm:0<m) (hg:Int.gcd n m=1):m ∣ 1 - inv n m*n:=by
 have h0:0≤n % m:=Int.emod_nonneg _ (by omega)
 have h:=invF_spec (n:=n % m) (m:=m) (m.toNat+2) (n % m) m 1 0 (Inv.start h0 (by omega)) (by omega)
 have e:Int.gcd (n % m) m=1:=by
  rw [← hg]
  have:=Int.gcd_add_mul_left_left m (n % m) (n / m)
  rw [Int.emod_add_mul_ediv] at this
  exact this.symm
 rw [e] at h
 unfold inv
 generalize invF (m.toNat+2) (n % m) m 1 0=r at *
 have h1:m ∣ r - r % m:=Int.dvd_self_sub_emod
 have h2:m ∣ n - n % m:=Int.dvd_self_sub_emod
 obtain ⟨c,hc⟩:=h
 obtain ⟨d,hd⟩:=h1
 obtain ⟨e,he⟩:=h2
 refine ⟨c - r*e+d*n,?_⟩
 have:(1:Int)=m*c+r*(n % m):=by have:=hc;simp at this;omega
 have hn:n % m=n - m*e:=by omega
 have hr:r % m=r - m*d:=by omega
 rw [hr]
 rw [hn] at this
 grind
def un (p n:Int):Int:=n / pw p (vz p n)
theorem dx {p n:Int} (hp:Pr p) (h:n≠0):n=pw p (vl p n)*un p n∧¬ p ∣ un p n:=by
 obtain ⟨u,hu,hu1,_⟩:=fZ hp h
 have hk:=pw_pos hp (vl p n)
 have e:un p n=u:=by
  unfold un pw;rw [b8 h];simp only [Int.toNat_natCast]
  conv=>lhs;lhs;rw [hu]
  exact Int.mul_ediv_cancel_left _ (by omega)
 rw [e];exact ⟨by simpa [pw] using hu,hu1⟩
theorem gcd_pw {p u:Int} (hp:Pr p) (hu:¬ p ∣ u) (k:Int):Int.gcd u (pw p k)=1:=by
 have:=gcd_one hp hu
 rw [Int.gcd_comm] at this
 exact Int.gcd_pow_right_of_gcd_eq_one this
def Fits (p num den:Int):Prop:=num=0∨-6≤vz p num - vz p den
instance (p num den:Int):Decidable (Fits p num den):=by unfold Fits;infer_instance
def inLv (n:Int):Prop:=-6≤n∧n≤6
instance (n:Int):Decidable (inLv n):=by unfold inLv;infer_instance
def ballAt (p num den lv:Int):Option Ball:=
 if ¬ inLv lv then none else
 if num=0∨lv≤vz p num - vz p den then some ⟨lv,0,0⟩ else
 if vz p num - vz p den < -6 then none else
 some (mk p lv ((un p num*inv (un p den) (pw p (lv+6))) % pw p (lv+6)*pw p (vz p num - vz p den+6) % pw p (lv+6)))
def lOf (p num den lv:Int):Option Ball:=
 if ¬ inLv lv then none else
 if num=0 then some ⟨lv,0,0⟩ else
 if lv≤vz p num - vz p den then some ⟨lv,0,0⟩ else
 if 6<max (vz p den - vz p num) 0 then none else
 let d:=max (vz p den - vz p num) 0
 some ⟨lv,(un p num*inv (un p den) (pw p (lv+d))) % pw p (lv+d)*pw p (max (vz p num - vz p den) 0) % pw p (lv+d),d⟩
def eT (p num den lv:Int):Option Ball→Prop
 | none=>¬ inLv lv∨¬ Fits p num den
 | some b=>inLv lv∧Fits p num den∧Ok p b∧b.lv=lv∧Res p lv num den (mark p b)
theorem eT.unique {p num den lv:Int} (hp:Pr p) (hd:den≠0) {a b:Option Ball} (ha:eT p num den lv a) (hb:eT p num den lv b):a=b:=by
 cases a with
 | none=>cases b with
  | none=>rfl
  | some b=>obtain ⟨h1,h2,_⟩:=hb;rcases ha with ha|ha <;> contradiction
 | some a=>cases b with
  | none=>obtain ⟨h1,h2,_⟩:=ha;rcases hb with hb|hb <;> contradiction
  | some b=>
   obtain ⟨h1,h2,h3,h4,h5⟩:=ha
   obtain ⟨g1,g2,g3,g4,g5⟩:=hb
   rw [ball_ext_mark hp h3 g3 (by omega) (res_unique hp h1.1 hd h5 g5)]
theorem zero_ball {p num den lv:Int} (hp:Pr p) (hl:inLv lv) (h:num=0∨lv≤vz p num - vz p den) (hd:den≠0):eT p num den lv (some ⟨lv,0,0⟩):=by
 refine ⟨hl,?_,?_,rfl,?_,?_,?_⟩
 ·
  rcases h with h|h
  ·
   exact Or.inl h
  ·
   exact Or.inr (by have:=hl.1;omega)
 ·
  refine ⟨hl.1,hl.2,by simp,by simp,?_⟩
  by_cases h0:lv≤0
  ·
   exact Or.inl ⟨by simpa using h0,rfl,rfl⟩
  ·
   exact Or.inr ⟨by simp;omega,by simp,cE hp _,Or.inl rfl⟩
 ·
  simp [mark]
 ·
  simp [mark];exact cE hp _
 ·
  simp only [mark,Int.zero_mul,Int.sub_zero]
  by_cases h0:num=0
  ·
   subst h0;simp
  ·
   have h1:lv≤vz p num - vz p den:=h.resolve_left h0
   rw [b8 h0,b8 hd] at h1
   have h2:pw p (vl p num) ∣ num:=dq hp h0
   have h3:pw p (vl p num+6) ∣ num*pw p 6:=by
    rw [dV (by omega) (by omega)];exact Int.mul_dvd_mul_right _ h2
   exact Int.dvd_trans (pw_dvd (by omega)) h3
theorem quot_spec {p u v:Int} (hp:Pr p) (hv:¬ p ∣ v) (k:Int) (c:Int):pw p k ∣ u*c - (u*inv v (pw p k) % pw p k*c % pw p k)*v:=by
 have hm:=cE hp k
 have h1:=inv_spec hm (gcd_pw hp hv k)
 generalize pw p k=m at *
 generalize inv v m=i at *
 have h2:m ∣ u*i % m*c - u*i % m*c % m:=Int.dvd_self_sub_emod
 have h3:m ∣ u*i - u*i % m:=Int.dvd_self_sub_emod
 obtain ⟨a,ha⟩:=h1
 obtain ⟨b,hb⟩:=h2
 obtain ⟨d,hd⟩:=h3
 refine ⟨u*c*a+b*v+d*c*v,?_⟩
 have e1:u*i % m*c % m=u*i % m*c - m*b:=by omega
 have e2:u*i % m=u*i - m*d:=by omega
 rw [e1,e2]
 have:i*v=1 - m*a:=by omega
 grind
theorem fR {p num den lv:Int} (hp:Pr p) (hd:den≠0):eT p num den lv (ballAt p num den lv):=by
 unfold ballAt
 by_cases hl:inLv lv
 ·
  rw [if_neg (by simpa using hl)]
  by_cases h1:num=0∨lv≤vz p num - vz p den
  ·
   rw [if_pos h1];exact zero_ball hp hl h1 hd
  ·
   rw [if_neg h1]
   have hn:num≠0:=fun h=>h1 (Or.inl h)
   by_cases h2:vz p num - vz p den < -6
   ·
    rw [if_pos h2]
    refine Or.inr fun hf=>?_
    rcases hf with hf|hf
    ·
     exact hn hf
    ·
     omega
   ·
    rw [if_neg h2]
    have hl1:=hl.1
    have hm:=cE hp (lv+6)
    have hx:=quot_spec hp (u:=un p num) (dx hp hd).2 (lv+6) (pw p (vz p num - vz p den+6))
    have hx0:=Int.emod_nonneg (un p num*inv (un p den) (pw p (lv+6)) % pw p (lv+6)*pw p (vz p num - vz p den+6)) (b:=pw p (lv+6)) (by omega)
    have hx1:=Int.emod_lt_of_pos (un p num*inv (un p den) (pw p (lv+6)) % pw p (lv+6)*pw p (vz p num - vz p den+6)) hm
    generalize un p num*inv (un p den) (pw p (lv+6)) % pw p (lv+6)*pw p (vz p num - vz p den+6) % pw p (lv+6)=x at *
    have hok:=ok_mk hp hl.1 hl.2 hx0 hx1
    refine ⟨hl,Or.inr (by omega),hok.1,rfl,?_⟩
    rw [hok.2]
    refine ⟨hx0,hx1,?_⟩
    have e1:=(dx hp hn).1
    have e2:=(dx hp hd).1
    have e3:num*pw p 6=pw p (vl p den)*(un p num*pw p (vz p num - vz p den+6)):=by
     have:pw p (vl p num)*pw p 6=pw p (vl p den)*pw p (vz p num - vz p den+6):=by
      rw [b8 hn,b8 hd] at *
      rw [← dV (by omega) (by omega),← dV (by omega) (by omega)];congr 1;omega
     conv=>lhs;rw [e1]
     grind
    have e4:num*pw p 6 - x*den=pw p (vl p den)*(un p num*pw p (vz p num - vz p den+6) - x*un p den):=by
     rw [e3];conv=>lhs;rhs;rw [e2]
     grind
    rw [e4,eQ hp (by omega) (by omega)]
    exact hx
 ·
  rw [if_pos hl];exact Or.inl hl
theorem lOf_is {p num den lv:Int} (hp:Pr p) (hd:den≠0):eT p num den lv (lOf p num den lv):=by
 unfold lOf
 by_cases hl:inLv lv
 ·
  rw [if_neg (by simpa using hl)]
  by_cases hn:num=0
  ·
   rw [if_pos hn];exact zero_ball hp hl (Or.inl hn) hd
  ·
   rw [if_neg hn]
   by_cases h1:lv≤vz p num - vz p den
   ·
    rw [if_pos h1];exact zero_ball hp hl (Or.inr h1) hd
   ·
    rw [if_neg h1]
    by_cases h2:6<max (vz p den - vz p num) 0
    ·
     rw [if_pos h2]
     refine Or.inr fun hf=>?_
     rcases hf with hf|hf
     ·
      exact hn hf
     ·
      omega
    ·
     rw [if_neg h2]
     simp only
     obtain ⟨d,hdd⟩:∃ d,max (vz p den - vz p num) 0=d:=⟨_,rfl⟩
     obtain ⟨f,hff⟩:∃ f,max (vz p num - vz p den) 0=f:=⟨_,rfl⟩
     rw [hdd,hff]
     have hl1:=hl.1
     have hl2:=hl.2
     have hm:=cE hp (lv+d)
     have hx:=quot_spec hp (u:=un p num) (dx hp hd).2 (lv+d) (pw p f)
     have hx0:=Int.emod_nonneg (un p num*inv (un p den) (pw p (lv+d)) % pw p (lv+d)*pw p f) (b:=pw p (lv+d)) (by omega)
     have hx1:=Int.emod_lt_of_pos (un p num*inv (un p den) (pw p (lv+d)) % pw p (lv+d)*pw p f) hm
     generalize un p num*inv (un p den) (pw p (lv+d)) % pw p (lv+d)*pw p f % pw p (lv+d)=x at *
     have e1:=(dx hp hn)
     have e2:=(dx hp hd)
     refine ⟨hl,Or.inr (by omega),⟨hl1,hl2,by simp only;omega,by simp only;omega,Or.inr ⟨by simp only;omega,hx0,hx1,?_⟩⟩,rfl,?_⟩
     ·
      by_cases h0:d=0
      ·
       exact Or.inl h0
      ·
       refine Or.inr fun hdx=>?_
       have hf0:f=0:=by omega
       subst hf0
       rw [pw_zero,Int.mul_one] at hx
       have hpm:p ∣ pw p (lv+d):=by
        have:=pw_dvd (p:=p) (a:=1) (b:=lv+d) (by omega)
        rwa [pw_one] at this
       have h3:=Int.dvd_trans hpm hx
       have h4:p ∣ un p num:=(Int.dvd_iff_dvd_of_dvd_sub h3).2 (Int.dvd_mul_of_dvd_left hdx)
       exact e1.2 h4
     ·
      have hbd:0≤x*pw p (6 - d)∧x*pw p (6 - d)<pw p (lv+6):=by
       have hq:=cE hp (6 - d)
       constructor
       ·
        exact Int.mul_nonneg hx0 (by omega)
       ·
        have:pw p (lv+6)=pw p (lv+d)*pw p (6 - d):=by
         rw [← dV (by omega) (by omega)];congr 1;omega
        rw [this];exact Int.mul_lt_mul_of_pos_right hx1 hq
      refine ⟨hbd.1,hbd.2,?_⟩
      unfold mark
      simp only
      have e3:num*pw p 6=pw p (6 - d+vl p den)*(un p num*pw p f):=by
       have:pw p (vl p num)*pw p 6=pw p (6 - d+vl p den)*pw p f:=by
        rw [b8 hn,b8 hd] at *
        rw [← dV (by omega) (by omega),← dV (by omega) (by omega)];congr 1;omega
       conv=>lhs;rw [e1.1]
       grind
      have e4:num*pw p 6 - x*pw p (6 - d)*den=pw p (6 - d+vl p den)*(un p num*pw p f - x*un p den):=by
       rw [e3]
       conv=>lhs;rhs;rw [e2.1]
       rw [dV (by omega) (by omega)]
       grind
      rw [e4,show lv+6+(vl p den:Int)=(lv+d)+(6 - d+vl p den) from by omega,eQ hp (by omega) (by omega)]
      exact hx
 ·
  rw [if_pos hl];exact Or.inl hl
theorem ballAt_eq_lOf {p num den lv:Int} (hp:Pr p) (hd:den≠0):ballAt p num den lv=lOf p num den lv:=
 (fR hp hd).unique hp hd (lOf_is hp hd)
end PM
namespace PM
theorem vl_one {p:Int} (hp:Pr p):vl p p=1:=by
 have:=vl_pow hp 1;rwa [Int.pow_one] at this
theorem vl_step {p n:Int} (hp:Pr p) (h:n≠0) (hd:p ∣ n):n.tdiv p≠0∧vl p n=vl p (n.tdiv p)+1∧(n.tdiv p).natAbs≤n.natAbs:=by
 have hp2:=hp.pos
 obtain ⟨c,rfl⟩:=hd
 have e:(p*c).tdiv p=c:=Int.mul_tdiv_cancel_left c (by omega)
 have hc:c≠0:=by intro h0;subst h0;simp at h
 rw [e]
 refine ⟨hc,by rw [vl_mul hp (by omega) hc,vl_one hp];omega,?_⟩
 rw [Int.natAbs_mul]
 have:1*c.natAbs≤p.natAbs*c.natAbs:=Nat.mul_le_mul_right _ (by omega)
 omega
theorem vl_le {p n:Int} (hp:Pr p) (h:n≠0) {k:Nat} (hk:n.natAbs<2 ^ k):vl p n<k:=by
 refine vl_lt_of_abs hp h ?_
 have h1:(2:Int) ^ k≤p ^ k:=by
  have hp2:=hp.pos
  clear hk
  induction k with
  | zero=>simp
  | succ k ih=>
   rw [Int.pow_succ,Int.pow_succ]
   have h0:(0:Int)<2 ^ k:=Int.pow_pos (by omega)
   have a:=Int.mul_le_mul_of_nonneg_left hp2 (Int.le_of_lt h0)
   have b:=Int.mul_le_mul_of_nonneg_right ih (show (0:Int)≤p by omega)
   omega
 have h2:((2 ^ k:Nat):Int)=(2:Int) ^ k:=by simp
 omega
theorem ci {p n:Int} (hp:Pr p) (h:n≠0) (hk:n.natAbs≤9223372036854775808):vl p n≤63:=by
 have:=vl_le hp h (k:=64) (by
  have:(2:Nat) ^ 64=18446744073709551616:=by decide
  omega)
 omega
def isE (n d:Int):Prop:=(d=0∧n=1)∨(1≤d∧d≤1000000∧-1000000≤n∧n≤1000000∧Int.gcd n d=1)
instance (n d:Int):Decidable (isE n d):=by unfold isE;infer_instance
end PM
namespace PM
def dv (p x num den:Int):Int:=num*pw p 6 - x*den
def turn (p lv x num den:Int):Int:=if dv p x num den=0 then lv else min lv ((vl p (dv p x num den):Int) - vl p den - 6)
def cr (n1 d1 n2 d2:Int):Int:=n1*d2 - n2*d1
theorem dv_cr (p x n1 d1 n2 d2:Int):dv p x n1 d1*d2 - dv p x n2 d2*d1=pw p 6*cr n1 d1 n2 d2:=by
 unfold dv cr
 simp only [Int.sub_mul,Int.mul_sub]
 rw [show n1*pw p 6*d2=pw p 6*(n1*d2) by rw [Int.mul_comm n1,Int.mul_assoc],show n2*pw p 6*d1=pw p 6*(n2*d1) by rw [Int.mul_comm n2,Int.mul_assoc],show x*d2*d1=x*d1*d2 by rw [Int.mul_assoc,Int.mul_assoc,Int.mul_comm d2]]
 omega
theorem vl_pw {p:Int} (hp:Pr p) (k:Int) (h:0≤k):(vl p (pw p k):Int)=k:=by
 unfold pw;rw [vl_pow hp];omega
end PM
namespace PM
theorem mulN (q y1 y0:Int):q*(y1*4294967296+y0)=(q*y1)*4294967296+q*y0:=by rw [Int.mul_add,Int.mul_assoc]
def dig (U u y1 y0:Int):Int:=(U*4294967296+u) / (y1*4294967296+y0)
structure Dg (U u y1 y0:Int):Prop where
 a:2147483648≤y1
 b:y1<4294967296
 c:0≤y0
 d:y0<4294967296
 e:0≤U
 f:U<y1*4294967296+y0
 g:0≤u
 h:u<4294967296
theorem Dg.lt {U u y1 y0:Int} (D:Dg U u y1 y0) (q:Int):dig U u y1 y0<q↔U*4294967296+u<(q*y1)*4294967296+q*y0:=by
 obtain ⟨a,b,c,d,e,f,g,h⟩:=D
 rw [← mulN];exact Int.ediv_lt_iff_lt_mul (by omega)
theorem Dg.nn {U u y1 y0:Int} (D:Dg U u y1 y0):0≤dig U u y1 y0:=by
 obtain ⟨a,b,c,d,e,f,g,h⟩:=D
 exact Int.ediv_nonneg (by omega) (by omega)
theorem Dg.cond {U u y1 y0:Int} (D:Dg U u y1 y0) {q r:Int} (hr:r=U - q*y1):dig U u y1 y0<q↔q*y0>4294967296*r+u:=by
 rw [D.lt];omega
theorem Dg.top {U u y1 y0:Int} (D:Dg U u y1 y0):dig U u y1 y0<4294967296:=by
 rw [D.lt];obtain ⟨a,b,c,d,e,f,g,h⟩:=D;omega
theorem Dg.brk {U u y1 y0:Int} (D:Dg U u y1 y0) {q r:Int} (hr:r=U - q*y1) (h1:4294967296≤r) (h2:q≤4294967296):¬ dig U u y1 y0<q:=by
 rw [D.lt];obtain ⟨a,b,c,d,e,f,g,h⟩:=D
 have:=Int.mul_le_mul_of_nonneg_right h2 c
 omega
theorem Dg.start {U u y1 y0:Int} (D:Dg U u y1 y0):dig U u y1 y0≤U / y1∧U / y1≤4294967297:=by
 have hn:=D.nn
 have hl:=(Int.not_lt.mpr (Int.le_refl (dig U u y1 y0)))
 rw [D.lt] at hl
 obtain ⟨a,b,c,d,e,f,g,h⟩:=D
 have hm:=Int.mul_nonneg hn c
 constructor
 ·
  rw [Int.le_ediv_iff_mul_le (by omega)];omega
 ·
  have:U / y1<4294967298:=by rw [Int.ediv_lt_iff_lt_mul (by omega)];omega
  omega
theorem Dg.rem {U u y1 y0:Int} (D:Dg U u y1 y0):0≤U*4294967296+u - dig U u y1 y0*(y1*4294967296+y0)∧U*4294967296+u - dig U u y1 y0*(y1*4294967296+y0)<y1*4294967296+y0:=by
 obtain ⟨a,b,c,d,e,f,g,h⟩:=D
 unfold dig
 have h1:=Int.emod_nonneg (U*4294967296+u) (b:=y1*4294967296+y0) (by omega)
 have h2:=Int.emod_lt_of_pos (U*4294967296+u) (b:=y1*4294967296+y0) (by omega)
 have h3:=Int.mul_ediv_add_emod (U*4294967296+u) (y1*4294967296+y0)
 rw [Int.mul_comm] at h3
 omega
theorem two_digits {U yN u1 u0 q1 R q0 R2:Int} (h1:R=U*4294967296+u1 - q1*yN) (h2:R2=R*4294967296+u0 - q0*yN) :
  R2=U*18446744073709551616+(u1*4294967296+u0) - (q1*4294967296+q0)*yN:=by
 subst h1;subst h2
 rw [Int.add_mul,show q1*4294967296*yN=(q1*yN)*4294967296 by rw [Int.mul_assoc,Int.mul_comm 4294967296,← Int.mul_assoc]]
 omega
theorem normal {hi lo y P Q q R2 U L:Int} (hP:0<P) (_:0<Q) (hPQ:P*Q=18446744073709551616) (hU:U=hi*P+lo / Q) (hL:L=(lo*P) % 18446744073709551616)
  (hR:R2=U*18446744073709551616+L - q*(y*P)) (h0:0≤R2) (h1:R2<y*P) :
  q=(hi*18446744073709551616+lo) / y∧R2 / P=(hi*18446744073709551616+lo) % y:=by
 have e1:(lo*P) / 18446744073709551616=lo / Q:=by
  rw [← hPQ,Int.mul_comm lo];exact Int.mul_ediv_mul_of_pos _ _ hP
 have e2:=Int.mul_ediv_add_emod (lo*P) 18446744073709551616
 have e3:U*18446744073709551616+L=(hi*18446744073709551616+lo)*P:=by
  rw [hU,hL,← e1,Int.add_mul,Int.add_mul,show hi*18446744073709551616*P=hi*P*18446744073709551616 by rw [Int.mul_assoc,Int.mul_comm 18446744073709551616,← Int.mul_assoc]]
  omega
 have e4:R2=(hi*18446744073709551616+lo - q*y)*P:=by
  rw [hR,e3,Int.sub_mul,Int.mul_assoc]
 have n0:0≤hi*18446744073709551616+lo - q*y:=by
  rcases Int.lt_or_le (hi*18446744073709551616+lo - q*y) 0 with h|h
  ·
   have:=Int.mul_neg_of_neg_of_pos h hP;omega
  ·
   exact h
 have n1:hi*18446744073709551616+lo - q*y<y:=by
  rw [e4] at h1
  exact Int.lt_of_mul_lt_mul_right h1 (Int.le_of_lt hP)
 have e5:R2 / P=hi*18446744073709551616+lo - q*y:=by rw [e4];exact Int.mul_ediv_cancel _ (by omega)
 have hy:0<y:=by omega
 have e6:hi*18446744073709551616+lo=(hi*18446744073709551616+lo - q*y)+y*q:=by rw [Int.mul_comm y];omega
 refine ⟨?_,?_⟩
 ·
  rw [e6,Int.add_mul_ediv_left _ _ (by omega),Int.ediv_eq_zero_of_lt n0 n1];omega
 ·
  rw [e5]
  conv=>rhs;rw [e6,Int.add_mul_emod_self_left]
  exact (Int.emod_eq_of_lt n0 n1).symm
end PM
namespace PM
def about (p lv x:Int):Option Ball:=if inLv lv then some (mk p lv (x % pw p (lv+6))) else none
end PM
namespace PM
def g4 (a b c d:Int):Int:=(Int.gcd (Int.gcd a b) (Int.gcd c d):Int)
def sg (a b:Int):Int:=if a<0∨(a=0∧b<0) then -1 else 1
theorem tdiv_sg (x g s:Int) (hs:s=1∨s = -1):x.tdiv (g*s)=x.tdiv g*s:=by
 rcases hs with rfl|rfl
 ·
  simp
 ·
  simp [Int.mul_neg,Int.tdiv_neg]
theorem tdiv_abs_le (x g:Int):(x.tdiv g).natAbs≤x.natAbs:=by
 rw [Int.natAbs_tdiv];exact Nat.div_le_self _ _
end PM
namespace PM
def jl (p:Int) (b c:Ball):Int:=min (min b.lv c.lv) (vz p (mark p b - mark p c) - 6)
def dist (p:Int) (b c:Ball):Int:=b.lv+c.lv - 2*jl p b c
theorem jl_bd (p:Int) {b c:Ball} (hb:Ok p b) (hc:Ok p c) : -6≤jl p b c∧jl p b c≤b.lv∧jl p b c≤c.lv:=by
 have:=vz_nonneg p (mark p b - mark p c)
 obtain ⟨b1,_⟩:=hb
 obtain ⟨c1,_⟩:=hc
 unfold jl;omega
end PM
namespace PM
theorem le_jl {p l:Int} (hp:Pr p) {b c:Ball} (hb:Ok p b) (_hc:Ok p c) (hl : -6≤l):l≤jl p b c↔(l≤b.lv∧l≤c.lv∧pw p (l+6) ∣ mark p b - mark p c):=by
 have b2:=hb.2.1
 unfold jl vz
 by_cases z:mark p b - mark p c=0
 ·
  rw [if_pos z]
  constructor
  ·
   intro h;refine ⟨by omega,by omega,?_⟩;rw [z];exact Int.dvd_zero _
  ·
   rintro ⟨h1,h2,_⟩;omega
 ·
  rw [if_neg z,← cg hp z (k:=l+6) (by omega)];omega
theorem jl_comm (p:Int) (b c:Ball):jl p b c=jl p c b:=by
 have e:vz p (mark p b - mark p c)=vz p (mark p c - mark p b):=by
  unfold vz
  by_cases z:mark p b - mark p c=0
  ·
   rw [if_pos z,if_pos (by omega)]
  ·
   rw [if_neg z,if_neg (by omega)]
   rw [show mark p c - mark p b = -(mark p b - mark p c) by omega]
   unfold vl
   have:∀ (k:Nat) (n:Int),vF p k (-n)=vF p k n:=by
    intro k
    induction k with
    | zero=>intro n;rfl
    | succ k ih=>
     intro n
     unfold vF
     by_cases d:p ∣ n
     ·
      rw [if_pos d,if_pos ((Int.dvd_neg).2 d)]
      obtain ⟨c,rfl⟩:=d
      by_cases h0:p=0
      ·
       subst h0;simp
      ·
       rw [← Int.mul_neg,Int.mul_ediv_cancel_left _ h0,Int.mul_ediv_cancel_left _ h0,ih]
     ·
      rw [if_neg d,if_neg (fun h=>d ((Int.dvd_neg).1 h))]
   rw [this,Int.natAbs_neg]
 unfold jl;rw [e];omega
theorem dist_comm (p:Int) (b c:Ball):dist p b c=dist p c b:=by
 unfold dist;rw [jl_comm];omega
end PM
namespace PM
def ab (p n:Int) (x:Ball):Ball:=mk p n (mark p x % pw p (n+6))
end PM
namespace PM
def brP (p lv x n d:Int):Int:=if d=0∨turn p lv x n d<lv then 0 else 1+(dv p x n d / pw p (lv+6+vl p d))*inv (un p d) p % p
def held (p l x n d:Int):Prop:=pw p (l+6+vl p d) ∣ dv p x n d
theorem held_turn {p l x n d:Int} (hp:Pr p) (hl : -6≤l):¬ turn p l x n d<l↔held p l x n d:=by
 unfold turn held
 by_cases z:dv p x n d=0
 ·
  rw [if_pos z,z];exact ⟨fun _=>Int.dvd_zero _,fun _=>by omega⟩
 ·
  rw [if_neg z,← cg hp z (k:=l+6+vl p d) (by omega)];omega
end PM
namespace PM
theorem fg {p l x n d:Int} (hp:Pr p) (hl : -6≤l):brP p l x n d=0↔(d=0∨¬ held p l x n d):=by
 have hpp:=hp.pos
 have ht:=held_turn (x:=x) (n:=n) (d:=d) hp hl
 unfold brP
 have:=Int.emod_nonneg ((dv p x n d / pw p (l+6+vl p d))*inv (un p d) p) (b:=p) (by omega)
 by_cases c:d=0∨turn p l x n d<l
 ·
  rw [if_pos c]
  refine ⟨fun _=>?_,fun _=>rfl⟩
  rcases c with c|c
  ·
   exact Or.inl c
  ·
   exact Or.inr (fun h=>ht.2 h c)
 ·
  rw [if_neg c]
  refine ⟨fun _=>by omega,fun h=>?_⟩
  exfalso
  rcases h with h|h
  ·
   exact c (Or.inl h)
  ·
   exact h (ht.1 (fun w=>c (Or.inr w)))
theorem alg3 (L V1 U1 V2 U2 q1 q2 d1 d2:Int) (h1:V1*U1=d1) (h2:V2*U2=d2):L*V1*V2*(q1*U2 - q2*U1)=L*V1*q1*d2 - L*V2*q2*d1:=by subst h1;subst h2;grind
theorem same_child {p l x n1 d1 n2 d2:Int} (hp:Pr p) (hl : -6≤l) (h1:d1≠0) (h2:d2≠0) (hc:cr n1 d1 n2 d2≠0) (a1:held p l x n1 d1) (a2:held p l x n2 d2):brP p l x n1 d1=brP p l x n2 d2↔l+1≤(vl p (cr n1 d1 n2 d2):Int) - vl p d1 - vl p d2:=by
 have hpp:=hp.pos
 have c1:¬ (d1=0∨turn p l x n1 d1<l):=fun c=>by
  rcases c with c|c
  ·
   exact h1 c
  ·
   exact (held_turn hp hl).2 a1 c
 have c2:¬ (d2=0∨turn p l x n2 d2<l):=fun c=>by
  rcases c with c|c
  ·
   exact h2 c
  ·
   exact (held_turn hp hl).2 a2 c
 obtain ⟨q1,e1⟩:=a1
 obtain ⟨q2,e2⟩:=a2
 have P1:=cE hp (l+6+vl p d1)
 have P2:=cE hp (l+6+vl p d2)
 obtain ⟨u1,w1⟩:=dx hp h1
 obtain ⟨u2,w2⟩:=dx hp h2
 have i1:=inv_spec (n:=un p d1) (m:=p) (by omega) (by rw [Int.gcd_comm];exact gcd_one hp w1)
 have i2:=inv_spec (n:=un p d2) (m:=p) (by omega) (by rw [Int.gcd_comm];exact gcd_one hp w2)
 have key:brP p l x n1 d1=brP p l x n2 d2↔p ∣ q1*un p d2 - q2*un p d1:=by
  unfold brP
  rw [if_neg c1,if_neg c2,e1,e2,Int.mul_ediv_cancel_left _ (by omega),Int.mul_ediv_cancel_left _ (by omega)]
  generalize un p d1=U1 at *
  generalize un p d2=U2 at *
  generalize inv U1 p=I1 at *
  generalize inv U2 p=I2 at *
  constructor
  ·
   intro h
   have h':p ∣ q1*I1 - q2*I2:=Int.dvd_of_emod_eq_zero (Int.emod_eq_emod_iff_emod_sub_eq_zero.1 (by omega))
   have b1:p ∣ (q1*I1 - q2*I2)*(U1*U2):=Int.dvd_mul_of_dvd_left h'
   have b2:p ∣ (1 - I1*U1)*(q1*U2):=Int.dvd_mul_of_dvd_left i1
   have b3:p ∣ (1 - I2*U2)*(q2*U1):=Int.dvd_mul_of_dvd_left i2
   have:=Int.dvd_sub (Int.dvd_add b1 b2) b3
   rwa [show (q1*I1 - q2*I2)*(U1*U2)+(1 - I1*U1)*(q1*U2) - (1 - I2*U2)*(q2*U1)=q1*U2 - q2*U1 by grind] at this
  ·
   intro h
   have b1:p ∣ (q1*U2 - q2*U1)*(I1*I2):=Int.dvd_mul_of_dvd_left h
   have b2:p ∣ (1 - I2*U2)*(q1*I1):=Int.dvd_mul_of_dvd_left i2
   have b3:p ∣ (1 - I1*U1)*(q2*I2):=Int.dvd_mul_of_dvd_left i1
   have:=Int.dvd_sub (Int.dvd_add b1 b2) b3
   rw [show (q1*U2 - q2*U1)*(I1*I2)+(1 - I2*U2)*(q1*I1) - (1 - I1*U1)*(q2*I2)=q1*I1 - q2*I2 by grind] at this
   rw [Int.emod_eq_emod_iff_emod_sub_eq_zero.2 (Int.emod_eq_zero_of_dvd this)]
 rw [key]
 have e:=dv_cr p x n1 d1 n2 d2
 have h6:=cE hp 6
 have hL:(0:Int)<pw p (l+6):=cE hp _
 -- the cross number over the powers
 have e3:pw p (l+6)*pw p (vl p d1)*pw p (vl p d2)*(q1*un p d2 - q2*un p d1)=pw p 6*cr n1 d1 n2 d2:=by
  rw [e1,e2,show pw p (l+6+vl p d1)=pw p (l+6)*pw p (vl p d1) from dV (by omega) (by omega),show pw p (l+6+vl p d2)=pw p (l+6)*pw p (vl p d2) from dV (by omega) (by omega)] at e
  rw [← e]
  exact alg3 _ _ _ _ _ _ _ _ _ u1.symm u2.symm
 have hN:q1*un p d2 - q2*un p d1≠0:=by
  intro z;rw [z,Int.mul_zero] at e3
  exact Int.mul_ne_zero (by omega) hc e3.symm
 have v:=congrArg (vl p) e3
 have k1:=cE hp (vl p d1)
 have k2:=cE hp (vl p d2)
 rw [vl_mul hp (Int.mul_ne_zero (Int.mul_ne_zero (by omega) (by omega)) (by omega)) hN,vl_mul hp (Int.mul_ne_zero (by omega) (by omega)) (by omega),vl_mul hp (by omega) (by omega),vl_mul hp (by omega) hc] at v
 have z1:=vl_pw hp (l+6) (by omega)
 have z2:=vl_pw hp (vl p d1) (by omega)
 have z3:=vl_pw hp (vl p d2) (by omega)
 have z4:=vl_pw hp 6 (by omega)
 have:=cg hp hN (k:=1) (by omega)
 rw [show pw p 1=p by show p ^ 1=p;rw [Int.pow_succ,Int.pow_zero,Int.one_mul]] at this
 rw [← this]
 omega
end PM
namespace PM
instance (p l x n d:Int):Decidable (held p l x n d):=by unfold held;infer_instance
theorem le_turn {p l' L x n d:Int} (hp:Pr p) (hl:0≤l'+6+vl p d):l'≤turn p L x n d↔l'≤L∧pw p (l'+6+vl p d) ∣ dv p x n d:=by
 unfold turn
 by_cases z:dv p x n d=0
 ·
  rw [if_pos z,z];exact ⟨fun h=>⟨h,Int.dvd_zero _⟩,fun h=>h.1⟩
 ·
  rw [if_neg z,← cg hp z hl];omega
def gapP (p n1 d1 n2 d2:Int):Int:=(vl p (cr n1 d1 n2 d2):Int) - vl p d1 - vl p d2
end PM
namespace PM
theorem ballAt_held {p n d g:Int} {y:Ball} (hp:Pr p) (hd:d≠0) (h:ballAt p n d g=some y):Ok p y∧y.lv=g∧held p g (mark p y) n d:=by
 have:=fR (num:=n) (lv:=g) hp hd
 rw [h] at this
 obtain ⟨_,_,o,l,r⟩:=this
 exact ⟨o,l,r.2.2⟩
theorem jl_held {p n d:Int} {b y:Ball} (hp:Pr p) (hb:Ok p b) (hy:Ok p y) (hd:d≠0) (h:held p y.lv (mark p y) n d):jl p b y=min (turn p b.lv (mark p b) n d) y.lv∧-6≤turn p b.lv (mark p b) n d:=by
 have ly:=hy.1
 have lb:=hb.1
 have bd:=jl_bd p hb hy
 have hv:=cE hp (vl p d)
 obtain ⟨eu,nu⟩:=dx hp hd
 have e:dv p (mark p b) n d=dv p (mark p y) n d - (mark p b - mark p y)*d:=by unfold dv;rw [Int.sub_mul];omega
 have key:∀ l':Int,-6≤l'→(l'≤jl p b y↔l'≤min (turn p b.lv (mark p b) n d) y.lv):=by
  intro l' hl
  have a:=le_jl hp hb hy hl
  have t:=le_turn (l':=l') (L:=b.lv) (x:=mark p b) (n:=n) (d:=d) hp (by omega)
  by_cases z:l'≤y.lv
  ·
   have hk:pw p (l'+6+vl p d) ∣ dv p (mark p y) n d:=Int.dvd_trans (pw_dvd (by omega)) h
   have i:pw p (l'+6) ∣ mark p b - mark p y↔pw p (l'+6+vl p d) ∣ dv p (mark p b) n d:=by
    rw [e]
    have i1:pw p (l'+6+vl p d) ∣ dv p (mark p y) n d - (mark p b - mark p y)*d↔pw p (l'+6+vl p d) ∣ (mark p b - mark p y)*d:=by
     constructor
     ·
      intro w;have:=Int.dvd_sub hk w
      rwa [show dv p (mark p y) n d - (dv p (mark p y) n d - (mark p b - mark p y)*d)=(mark p b - mark p y)*d by omega] at this
     ·
      intro w;exact Int.dvd_sub hk w
    rw [i1]
    generalize mark p b - mark p y=X at *
    constructor
    ·
     intro w
     rw [show pw p (l'+6+vl p d)=pw p (l'+6)*pw p (vl p d) from dV (by omega) (by omega)]
     exact Int.mul_dvd_mul w (dq hp hd)
    ·
     intro w
     by_cases x0:X=0
     ·
      rw [x0];exact Int.dvd_zero _
     ·
      have w2:pw p (l'+6+vl p d) ∣ X*d:=w
      have w3:=(cg hp (Int.mul_ne_zero x0 hd) (k:=l'+6+vl p d) (by omega)).2 w2
      rw [vl_mul hp x0 hd] at w3
      exact (cg hp x0 (k:=l'+6) (by omega)).1 (by omega)
   rw [a,i]
   constructor
   ·
    rintro ⟨h1,h2,h3⟩;have:=t.2 ⟨h1,h3⟩;omega
   ·
    intro h1;have:=t.1 (by omega);exact ⟨this.1,z,this.2⟩
  ·
   omega
 have t6 : -6≤turn p b.lv (mark p b) n d:=by
  have:=(key (-6) (by omega)).1 bd.1
  omega
 have k1:=(key (jl p b y) bd.1).1 (by omega)
 have k2:=(key (min (turn p b.lv (mark p b) n d) y.lv) (by omega)).2 (by omega)
 exact ⟨by omega,t6⟩
end PM
namespace PM
theorem vl_pw6 {p:Int} (hp:Pr p):(vl p (pw p 6):Int)=6:=vl_pw hp 6 (by omega)
theorem held_swap {p l x n1 d1 n2 d2:Int} (hp:Pr p) (hd1:d1≠0) (hd2:d2≠0) (hl : -6≤l) (hc:n1*d2 - n2*d1≠0) (hg:l+vl p d1+vl p d2≤vl p (n1*d2 - n2*d1)) (h:held p l x n1 d1):held p l x n2 d2:=by
 unfold held dv at *
 by_cases y0:n2*pw p 6 - x*d2=0
 ·
  rw [y0];exact Int.dvd_zero _
 have e:d1*(n2*pw p 6 - x*d2)=d2*(n1*pw p 6 - x*d1) - pw p 6*(n1*d2 - n2*d1):=by
  rw [Int.mul_sub,Int.mul_sub,Int.mul_sub]
  have a1:d1*(n2*pw p 6)=pw p 6*(n2*d1):=by rw [← Int.mul_assoc,Int.mul_comm d1 n2,Int.mul_comm]
  have a2:d2*(n1*pw p 6)=pw p 6*(n1*d2):=by rw [← Int.mul_assoc,Int.mul_comm d2 n1,Int.mul_comm]
  have a3:d1*(x*d2)=d2*(x*d1):=by rw [← Int.mul_assoc,← Int.mul_assoc,Int.mul_comm d1 x,Int.mul_comm d2 x,Int.mul_assoc,Int.mul_assoc,Int.mul_comm d1 d2]
  rw [a1,a2,a3];omega
 have k1:pw p (l+6+vl p d1+vl p d2) ∣ d2*(n1*pw p 6 - x*d1):=by
  rw [dV (by omega) (by omega),Int.mul_comm]
  exact Int.mul_dvd_mul (dq hp hd2) h
 have k2:pw p (l+6+vl p d1+vl p d2) ∣ pw p 6*(n1*d2 - n2*d1):=by
  have hP:=cE hp 6
  refine (cg hp (Int.mul_ne_zero (by omega) hc) (by omega)).1 ?_
  rw [vl_mul hp (by omega) hc]
  have:=vl_pw6 hp
  omega
 have k3:pw p (l+6+vl p d1+vl p d2) ∣ d1*(n2*pw p 6 - x*d2):=by rw [e];exact Int.dvd_sub k1 k2
 have k4:=(cg hp (Int.mul_ne_zero hd1 y0) (by omega)).2 k3
 rw [vl_mul hp hd1 y0] at k4
 exact (cg hp y0 (by omega)).1 (by omega)
theorem fits_held {p l x n d:Int} (hp:Pr p) (hd:d≠0) (hl : -6≤l) (h:held p l x n d):Fits p n d:=by
 unfold Fits
 by_cases z:n=0
 ·
  exact Or.inl z
 right
 rw [b8 z,b8 hd]
 have hP:=cE hp 6
 unfold held dv at h
 have k1:pw p (vl p d) ∣ n*pw p 6 - x*d:=Int.dvd_trans (pw_dvd (by omega)) h
 have k2:pw p (vl p d) ∣ x*d:=Int.dvd_trans (dq hp hd) (Int.dvd_mul_left _ _)
 have k3:pw p (vl p d) ∣ n*pw p 6:=by
  have:=Int.dvd_add k1 k2
  rwa [show n*pw p 6 - x*d+x*d=n*pw p 6 by omega] at this
 have k4:=(cg hp (Int.mul_ne_zero z (by omega)) (by omega)).2 k3
 rw [vl_mul hp z (by omega)] at k4
 have:=vl_pw6 hp
 omega
theorem ballAt_swap {p g n1 d1 n2 d2:Int} (hp:Pr p) (hd1:d1≠0) (hd2:d2≠0) (hc:n1*d2 - n2*d1≠0) (hg:g+vl p d1+vl p d2≤vl p (n1*d2 - n2*d1)) {b:Ball} (h:ballAt p n1 d1 g=some b):ballAt p n2 d2 g=some b:=by
 refine eT.unique (lv:=g) hp hd2 (fR hp hd2) ?_
 have:=fR (num:=n1) (lv:=g) hp hd1
 rw [h] at this
 obtain ⟨i,f,o,l,r0,r1,r2⟩:=this
 have i':=i
 unfold inLv at i'
 have hh:held p g (mark p b) n2 d2:=held_swap hp hd1 hd2 i'.1 hc hg r2
 exact ⟨i,fits_held hp hd2 i'.1 hh,o,l,r0,r1,hh⟩
theorem ballAt_part {p g n1 d1 n2 d2:Int} (hp:Pr p) (hd1:d1≠0) (hd2:d2≠0) (hc:n1*d2 - n2*d1≠0) (hg:g+vl p d1+vl p d2≤vl p (n1*d2 - n2*d1)):ballAt p n1 d1 g=ballAt p n2 d2 g:=by
 have hc':n2*d1 - n1*d2≠0:=by omega
 have hg':g+vl p d2+vl p d1≤vl p (n2*d1 - n1*d2):=by
  rw [show n2*d1 - n1*d2 = -(n1*d2 - n2*d1) by omega,vl_neg p _ hp];omega
 cases e1:ballAt p n1 d1 g with
 | some b=>rw [ballAt_swap hp hd1 hd2 hc hg e1]
 | none=>
  cases e2:ballAt p n2 d2 g with
  | none=>rfl
  | some b=>rw [ballAt_swap hp hd2 hd1 hc' hg' e2] at e1;cases e1
end PM
namespace PM
theorem br_differ {p n1 d1 n2 d2:Int} {y:Ball} (hp:Pr p) (hy:Ok p y) (h:(d1≠0∧held p y.lv (mark p y) n1 d1)∨(d2≠0∧held p y.lv (mark p y) n2 d2)) (hg:d1≠0→d2≠0→cr n1 d1 n2 d2≠0∧gapP p n1 d1 n2 d2≤y.lv):brP p y.lv (mark p y) n1 d1≠brP p y.lv (mark p y) n2 d2:=by
 have hl : -6≤y.lv:=hy.1
 by_cases a1:d1≠0∧held p y.lv (mark p y) n1 d1
 ·
  by_cases a2:d2≠0∧held p y.lv (mark p y) n2 d2
  ·
   obtain ⟨g1,g2⟩:=hg a1.1 a2.1
   intro e
   have:=(same_child hp hl a1.1 a2.1 g1 a1.2 a2.2).1 e
   unfold gapP at g2
   omega
  ·
   have z:brP p y.lv (mark p y) n2 d2=0:=(fg hp hl).2 (by
    by_cases e:d2=0
    ·
     exact Or.inl e
    ·
     exact Or.inr fun q=>a2 ⟨e,q⟩)
   intro e
   rcases (fg hp hl).1 (e.trans z) with q|q
   ·
    exact a1.1 q
   ·
    exact q a1.2
 ·
  rcases h with h|a2
  ·
   exact absurd h a1
  have z:brP p y.lv (mark p y) n1 d1=0:=(fg hp hl).2 (by
   by_cases e:d1=0
   ·
    exact Or.inl e
   ·
    exact Or.inr fun q=>a1 ⟨e,q⟩)
  intro e
  rcases (fg hp hl).1 (e.symm.trans z) with q|q
  ·
   exact a2.1 q
  ·
   exact q a2.2
end PM
