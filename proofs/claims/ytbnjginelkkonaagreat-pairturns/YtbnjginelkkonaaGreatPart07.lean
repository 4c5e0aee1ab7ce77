/- T14 T15 T16 T17 T18 T19 T20 T21 T22 T23 -/
import Derived.Test.YtbnjginelkkonaaGreatPart06
set_option linter.all false
namespace Orq
open Orr Go
theorem Qmq (p:List Int) (t:Rat):Qh p t=((p.getD 0 0:Int):Rat)+t*Qh p.tail t:=by
  cases p with
  | nil=>show (0:Rat)=((0:Int):Rat)+t*0; grind
  | cons a p=>rfl
theorem Lx (p:List Int) (k:Nat):p.tail.getD k 0=p.getD (k+1) 0:=by
  cases p <;> simp
theorem Kw (c d:Int) (t:Rat):∀ (n:Nat) (p q r:List Int),p.length≤n→q.length≤n→r.length≤n→(∀ k,r.getD k 0=c*p.getD k 0+d*q.getD k 0)→Qh r t=(c:Rat)*Qh p t+(d:Rat)*Qh q t
  |
   0,p,q,r,hp,hq,hr,_=>by
   rw [List.eq_nil_of_length_eq_zero (Nat.le_zero.1 hp),List.eq_nil_of_length_eq_zero (Nat.le_zero.1 hq),List.eq_nil_of_length_eq_zero (Nat.le_zero.1 hr)]
   show (0:Rat)=_*0+_*0
   grind
  |
   n+1,p,q,r,hp,hq,hr,h=>by
   have ih:=Kw c d t n p.tail q.tail r.tail (by rw [List.length_tail]; omega) (by rw [List.length_tail]; omega) (by rw [List.length_tail]; omega) fun k=>by
     rw [Lx,Lx,Lx]; exact h (k+1)
   rw [Qmq p,Qmq q,Qmq r,ih,h 0]
   push_cast
   grind
theorem Qql {p q:List Int} (h:∀ k,p.getD k 0=q.getD k 0) (t:Rat):Qh p t=Qh q t:=by
  have:=Kw 1 0 t (max p.length q.length) q q p (Nat.le_max_right ..) (Nat.le_max_right ..) (Nat.le_max_left ..) fun k=>by rw [h k]; omega
  rw [this]
  push_cast
  grind
theorem H9 (p:List Int) (t:Rat):Qh (trim p) t=Qh p t:=Qql (Fi p) t
theorem V2 {p:List Int} {k:Nat} (h:p.length≤k):p.getD k 0=0:=by
  rw [List.getD_eq_getElem?_getD,List.getElem?_eq_none h]; rfl
theorem Qdw (p q:List Int) (k:Nat):(M9 p q).getD k 0=p.getD k 0+q.getD k 0:=by
  unfold M9
  rw [Yj]
  split
  · rfl
  · rename_i h; rw [V2 (p:=p) (by omega),V2 (p:=q) (by omega)]; rfl
theorem Ri (p q:List Int) (k:Nat):(Vn p q).getD k 0=p.getD k 0-q.getD k 0:=by
  unfold Vn
  rw [Yj]
  split
  · rfl
  · rename_i h; rw [V2 (p:=p) (by omega),V2 (p:=q) (by omega)]; rfl
theorem Yz (p:List Int) (c:Int) (k:Nat):(Qx p c).getD k 0=p.getD k 0*c:=by
  unfold Qx
  rw [Yj]
  split
  · rfl
  · rename_i h; rw [V2 (p:=p) (by omega),Int.zero_mul]
theorem Qtf (p:List Int) (k:Nat):(Ve p).getD k 0=-(p.getD k 0):=by
  unfold Ve
  rw [Yj]
  split
  · rfl
  · rename_i h; rw [V2 (p:=p) (by omega)]; rfl
theorem Ke (p:List Int) (k:Nat):(Zo p).getD k 0=p.getD (k+1) 0*((k+1:Nat):Int):=by
  unfold Zo
  rw [Yj]
  split
  · rfl
  · rename_i h; rw [V2 (p:=p) (by omega),Int.zero_mul]
theorem Qjr (p q:List Int) (t:Rat):Qh (M9 p q) t=Qh p t+Qh q t:=by
  have:=Kw 1 1 t (max (max p.length q.length) (M9 p q).length) p q (M9 p q) (by omega) (by omega) (by omega) fun k=>by rw [Qdw]; omega
  rw [this]; push_cast; grind
theorem Gb (p q:List Int) (t:Rat):Qh (Vn p q) t=Qh p t-Qh q t:=by
  have:=Kw 1 (-1) t (max (max p.length q.length) (Vn p q).length) p q (Vn p q) (by omega) (by omega) (by omega) fun k=>by rw [Ri]; omega
  rw [this]; push_cast; grind
theorem C6 (p:List Int) (t:Rat):Qh (Ve p) t=-Qh p t:=by
  have:=Kw (-1) 0 t (max p.length (Ve p).length) p p (Ve p) (by omega) (by omega) (by omega) fun k=>by rw [Qtf]; omega
  rw [this]; push_cast; grind
theorem Yb (p:List Int) (c:Int) (t:Rat):Qh (Qx p c) t=Qh p t*(c:Rat):=by
  have:=Kw c 0 t (max p.length (Qx p c).length) p p (Qx p c) (by omega) (by omega) (by omega) fun k=>by rw [Yz,Int.mul_comm]; omega
  rw [this]; push_cast; grind
theorem Qf6:∀ (l:List Int) (j:Nat) (v:Int) (t:Rat),j<l.length→Qh (l.set j v) t=Qh l t+((v:Rat)-((l.getD j 0:Int):Rat))*t^j
  | [],_,_,_,h=>by simp at h
  |
   a::l,0,v,t,_=>by
   show (v:Rat)+t*Qh l t=(a:Rat)+t*Qh l t+((v:Rat)-(a:Rat))*t^0
   rw [Rat.pow_zero]; grind
  |
   a::l,j+1,v,t,h=>by
   have ih:=Qf6 l j v t (by simpa using h)
   show (a:Rat)+t*Qh (l.set j v) t=(a:Rat)+t*Qh l t+((v:Rat)-((l.getD j 0:Int):Rat))*t^(j+1)
   rw [ih,Rat.pow_succ]; grind
theorem Qbc:∀ (l:List Int) (k:Nat) (t:Rat),k<l.length→Qh (l.take (k+1)) t=Qh (l.take k) t+((l.getD k 0:Int):Rat)*t^k
  | [],_,_,h=>by simp at h
  |
   a::l,0,t,_=>by
   show (a:Rat)+t*Qh (l.take 0) t=0+(a:Rat)*t^0
   rw [Rat.pow_zero,List.take_zero]
   show (a:Rat)+t*0=_
   grind
  |
   a::l,k+1,t,h=>by
   have ih:=Qbc l k t (by simpa using h)
   show (a:Rat)+t*Qh (l.take (k+1)) t=(a:Rat)+t*Qh (l.take k) t+((l.getD k 0:Int):Rat)*t^(k+1)
   rw [ih,Rat.pow_succ]; grind
theorem Qdz (n:Nat) (t:Rat):Qh (List.replicate n 0) t=0:=by
  induction n with
  | zero=>rfl
  |
   succ n ih =>
   show ((0:Int):Rat)+t*Qh (List.replicate n 0) t=0
   rw [ih]; push_cast; grind
theorem Qj8 (t:Rat) (i:Nat):∀ k,t^(i+k)=t^i*t^k
  | 0=>by rw [Nat.add_zero,Rat.pow_zero]; grind
  | k+1=>by rw [←Nat.add_assoc,Rat.pow_succ,Rat.pow_succ,Qj8 t i k]; grind
theorem Qjq (x:Int) (b:List Int) (i:Nat) (o:List Int) (t:Rat):∀ k,k≤b.length→i+k≤o.length→Qh (H5 x b i o k) t=Qh o t+(x:Rat)*t^i*Qh (b.take k) t
  |
   0,_,_=>by
   show Qh o t=Qh o t+(x:Rat)*t^i*0
   grind
  |
   k+1,h1,h2=>by
   have ih:=Qjq x b i o t k (by omega) (by omega)
   simp only [H5]
   rw [Qf6 _ _ _ _ (by rw [H6]; omega),ih,Qbc b k t (by omega)]
   have hp:t^(i+k)=t^i*t^k:=Qj8 t i k
   rw [hp]
   push_cast
   grind
theorem Qjp (a b o:List Int) (t:Rat):∀ i,i≤a.length→i+b.length≤o.length+1→Qh (Ku a b o i) t=Qh o t+Qh (a.take i) t*Qh b t
  |
   0,_,_=>by
   show Qh o t=Qh o t+0*Qh b t
   grind
  |
   i+1,h1,h2=>by
   have ih:=Qjp a b o t i (by omega) (by omega)
   simp only [Ku]
   rw [Qjq _ _ _ _ _ b.length (Nat.le_refl _) (by rw [Kv]; omega),ih,Qbc a i t (by omega),List.take_length]
   grind
theorem Za (a b:List Int) (t:Rat):Qh (Zi a b) t=Qh a t*Qh b t:=by
  unfold Zi
  split
  · rename_i h
    rcases h with h | h
    · rw [List.eq_nil_of_length_eq_zero h]; show (0:Rat)=0*_; grind
    · rw [List.eq_nil_of_length_eq_zero h]; show (0:Rat)=_*0; grind
  · rename_i h
    rw [H9,Qjp a b _ t a.length (Nat.le_refl _) (by rw [List.length_replicate]; omega),Qdz,List.take_length]
    grind
theorem Xo (z d:Int):(z:Rat) / (d:Rat)=Rat.divInt z d:=by
  by_cases h:d=0
  · subst h; simp; grind
  · rw [Rat.div_def]; exact (Rat.divInt_eq_div z d ▸ by rw [Rat.div_def])
theorem Qro (a:List Int) (n d:Int) (hd:(d:Rat)≠0):∀ k,k≤a.length→(((Vi a n d k).2:Int):Rat)=(d:Rat)^k∧(((Vi a n d k).1:Int):Rat)*d=(d:Rat)^k*Qh (a.drop (a.length-k)) ((n:Rat) / d)
  |
   0,_=>by
   refine ⟨by rw [Rat.pow_zero]; rfl,?_⟩
   rw [Nat.sub_zero,List.drop_length]
   show ((0:Int):Rat)*d=(d:Rat)^0*0
   push_cast; grind
  |
   k+1,hk=>by
   obtain ⟨h1,h2⟩:=Qro a n d hd k (by omega)
   have hi:a.length-1-k<a.length:=by omega
   have e1:a.drop (a.length-(k+1))=a.getD (a.length-1-k) 0::a.drop (a.length-k):=by
     rw [show a.length-(k+1)=a.length-1-k by omega,List.drop_eq_getElem_cons hi,show a.length-1-k+1=a.length-k by omega]
     congr 1
     rw [List.getD_eq_getElem?_getD,List.getElem?_eq_getElem hi]; rfl
   refine ⟨?_,?_⟩
   · show (((Vi a n d k).2*d:Int):Rat)=_
     rw [Rat.intCast_mul,h1,Rat.pow_succ]
   · rw [e1]
     show (((Vi a n d k).1*n+a.getD (a.length-1-k) 0*(Vi a n d k).2:Int):Rat)*d=_*(((a.getD (a.length-1-k) 0:Int):Rat)+(n:Rat) / d*Qh (a.drop (a.length-k)) ((n:Rat) / d))
     rw [Rat.intCast_add,Rat.intCast_mul,Rat.intCast_mul,h1,Rat.pow_succ]
     have h3:(n:Rat) / d*d=n:=by rw [Rat.div_mul_cancel hd]
     have h4:(d:Rat)^k*d*((n:Rat) / d*Qh (a.drop (a.length-k)) ((n:Rat) / d))=((n:Rat) / d*d)*((d:Rat)^k*Qh (a.drop (a.length-k)) ((n:Rat) / d)):=by grind
     have h5:(d:Rat)^k*d*(((a.getD (a.length-1-k) 0:Int):Rat)+(n:Rat) / d*Qh (a.drop (a.length-k)) ((n:Rat) / d))=(d:Rat)^k*d*((a.getD (a.length-1-k) 0:Int):Rat)+(d:Rat)^k*d*((n:Rat) / d*Qh (a.drop (a.length-k)) ((n:Rat) / d)):=by grind
     rw [h5,h4,h3,←h2]
     grind
theorem Qqq {d:Rat} (h:0<d):∀ k:Nat,0<d^k
  | 0=>by rw [Rat.pow_zero]; decide
  | k+1=>by rw [Rat.pow_succ]; exact Rat.mul_pos (Qqq h k) h
theorem Tt {x y:Rat} (h:0<y):Qp (y*x)=Qp x:=by
  unfold Qp
  have h1:y*x<0↔x<0:=by
    constructor
    · intro h2
      rcases Rat.le_total (a:=0) (b:=x) with h3 | h3
      · have:=Rat.mul_nonneg (Rat.le_of_lt h) h3; grind
      · rcases Rat.le_iff_lt_or_eq.1 h3 with h4 | h4
        · exact h4
        · rw [h4] at h2; grind
    · intro h2
      have:=Rat.mul_pos h (show 0 < -x by grind)
      grind
  have h2:0<y*x↔0<x:=by
    constructor
    · intro h2
      rcases Rat.le_total (a:=x) (b:=0) with h3 | h3
      · have:=Rat.mul_nonneg (Rat.le_of_lt h) (show 0≤-x by grind); grind
      · rcases Rat.le_iff_lt_or_eq.1 h3 with h4 | h4
        · exact h4
        · rw [←h4] at h2; grind
    · intro h2; exact Rat.mul_pos h h2
  simp only [h1,h2]
theorem Qwe (z:Int):Kk z 0=Qp (z:Rat):=by
  unfold Kk Qp
  have h1:((z:Int):Rat)<0↔z<0:=by
    have := @Rat.intCast_lt_intCast z 0; simpa using this
  have h2:0<((z:Int):Rat)↔0<z:=by
    have := @Rat.intCast_lt_intCast 0 z; simpa using this
  simp only [h1,h2]
theorem Kz (p:List Int) (q:Rat):Z4 p q=Qp (Qh p q):=by
  have hd0:(0:Rat)<((q.den:Int):Rat):=by
    have := @Rat.intCast_lt_intCast 0 (q.den:Int)
    rw [show ((0:Int):Rat)=0 from rfl] at this
    exact this.2 (den_pos q)
  have hd:((q.den:Int):Rat)≠0:=by intro h; rw [h] at hd0; exact absurd hd0 (by decide)
  obtain ⟨_,h⟩:=Qro p q.num q.den hd p.length (Nat.le_refl _)
  rw [Nat.sub_self,List.drop_zero,Xo,Rat.num_divInt_den] at h
  unfold Z4
  rw [Qwe,←Tt hd0,Rat.mul_comm]
  show Qp ((((Vi p q.num q.den p.length).1:Int):Rat)*_)=_
  rw [h,Tt (Qqq hd0 _)]
end Orq

namespace Orq
open Orr Go
def cz (p:List Int):List Rat:=p.map fun z:Int=>(z:Rat)
theorem Qg (t:Rat):∀ p,ev (cz p) t=Qh p t
  | []=>rfl
  | a::p=>by have:=Qg t p; simp only [cz,List.map_cons,ev,Qh] at *; rw [this]
theorem Vb:∀ (p:List Int) (k:Nat),(cz p).getD k 0=((p.getD k 0:Int):Rat)
  | [],k=>by simp [cz]
  | a::p,0=>by simp [cz]
  | a::p,k+1=>by have:=Vb p k; simp only [cz,List.map_cons,List.getD_cons_succ] at *; exact this
theorem Ui {p q:List Int} (h:∀ t,Qh p t=Qh q t) (k:Nat):p.getD k 0=q.getD k 0:=by
  have:=W4 (p:=cz p) (q:=cz q) (fun t=>by rw [Qg,Qg,h]) k
  rw [Vb,Vb] at this
  exact_mod_cast this
theorem Q47 {p q:List Int} (hp:Qi p) (hq:Qi q) (h:∀ k,p.getD k 0=q.getD k 0):p=q:=by
  have key:∀ {p q:List Int},Qi p→Qi q→(∀ k,p.getD k 0=q.getD k 0)→p.length≤q.length:=fun {p q} hp hq h=>by
    rcases Nat.lt_or_ge q.length p.length with e | e
    · have:=Xj hp (by omega)
      rw [h,List.getD_eq_getElem?_getD,List.getElem?_eq_none (by omega)] at this
      exact absurd rfl this
    · exact e
  exact Qaf (Nat.le_antisymm (key hp hq h) (key hq hp fun k=>(h k).symm)) fun j _=>h j
theorem Qqm {p q:List Int} (hp:Qi p) (hq:Qi q) (h:∀ t,Qh p t=Qh q t):p=q:=Q47 hp hq (Ui h)
theorem Q34 {p:List Int} (hp:Qi p) (h:∀ t,Qh p t=0):p=[]:=Qqm hp rfl fun t=>by rw [h]; rfl
theorem W6 {p:List Int} (h:p.length=0) (t:Rat):Qh p t=0:=by rw [List.eq_nil_of_length_eq_zero h]; rfl
theorem Qqk:∀ (p r:List Int) (t:Rat),(∀ k,r.getD k 0=p.getD (k+1) 0*((k+1:Nat):Int))→Qh r t=dv (cz p) t
  |
   [],r,t,h=>by
   rw [Qql (q:=[]) (fun k=>by rw [h]; simp) t]; rfl
  |
   a::p,r,t,h=>by
   have ih:=Qqk p (Zo p) t fun k=>Ke p k
   have e:Qh r t=Qh p t+t*Qh (Zo p) t:=by
     have:=Kw 1 1 t (max (max p.length (0::Zo p).length) r.length) p (0::Zo p) r (by omega) (by omega) (by omega) fun k=>by
       rw [h,List.getD_cons_succ]
       cases k with
       | zero=>simp
       | succ k=>rw [List.getD_cons_succ,Ke]; push_cast; grind
     rw [this]; simp only [Qh]; push_cast; grind
   rw [e,ih]
   show _=ev (cz p) t+t*dv (cz p) t
   rw [Qg]
theorem H8 (p:List Int) (t:Rat):Qh (Zo p) t=dv (cz p) t:=Qqk p _ t fun k=>Ke p k
theorem Aa {p:List Int} (hp:Qi p) (h:0<p.length):HD (cz p) (p.length-1):=by
  refine ⟨?_,fun k hk=>?_⟩
  · rw [Vb]
    have:=Xj hp h
    exact fun e=>this (by exact_mod_cast e)
  · rw [Vb,List.getD_eq_getElem?_getD,List.getElem?_eq_none (by omega)]; rfl
theorem E5 {p:List Int} (hp:Qi p) (h:0<p.length):¬∀ t,Qh p t=0:=fun h0=>by
  rw [Q34 hp h0] at h; exact absurd h (by simp)
theorem Vd {a b c:List Int} (ha:Qi a) (hb:Qi b) (hc:Qi c) (h:∀ t,Qh c t=Qh a t*Qh b t) (la:0<a.length) (lb:0<b.length):c.length=a.length+b.length-1:=by
  have h1:=Qau (Aa ha la) (Aa hb lb)
  have h2:HD (cz c) (a.length-1+(b.length-1)):=Q6a (fun t=>by rw [Qk,Qg,Qg,Qg,h]) h1
  have lc:0<c.length:=by
    rcases Nat.eq_zero_or_pos c.length with e | e
    · exact absurd (fun t=>by rw [Qg]; exact W6 e t) (Qpn h2)
    · exact e
  have:=Q6b (Aa hc lc) h2
  omega
theorem Qjy:∀ (n m:Nat),m≤n→2≤m→∃ P,2≤P∧P∣m∧∀ d,2≤d→d∣P→d=P
  | 0,m,h,h2=>by omega
  |
   n+1,m,h,h2=>by
   rcases Classical.em (∃ d,2≤d∧d<m∧d∣m) with ⟨d,d1,d2,d3⟩ | h0
   · obtain ⟨P,p1,p2,p3⟩:=Qjy n d (by omega) d1
     exact ⟨P,p1,Nat.dvd_trans p2 d3,p3⟩
   · refine ⟨m,h2,Nat.dvd_refl m,fun d d1 d2=>?_⟩
     rcases Nat.lt_or_eq_of_le (Nat.le_of_dvd (by omega) d2) with e | e
     · exact absurd ⟨d,d1,e,d2⟩ h0
     · exact e
theorem Qfd {P:Nat} (h2:2≤P) (hP:∀ d,2≤d→d∣P→d=P) {x y:Int} (h:(P:Int)∣x*y):(P:Int)∣x∨(P:Int)∣y:=by
  have h:=Int.natAbs_dvd_natAbs.2 h
  rw [Int.natAbs_mul,Int.natAbs_natCast] at h
  have hg:=Nat.gcd_dvd_left P x.natAbs
  rcases Nat.lt_or_ge (Nat.gcd P x.natAbs) 2 with e | e
  · right
    have h1:Nat.gcd P x.natAbs=1:=by
      have:=Nat.gcd_pos_of_pos_left x.natAbs (show 0<P by omega); omega
    have:=Nat.Coprime.dvd_of_dvd_mul_left h1 h
    exact Int.natAbs_dvd_natAbs.1 (by rwa [Int.natAbs_natCast])
  · left
    have:=hP _ e hg
    have h3:=Nat.gcd_dvd_right P x.natAbs
    rw [this] at h3
    exact Int.natAbs_dvd_natAbs.1 (by rwa [Int.natAbs_natCast])
def Qkx (P:Int) (l:List Int):Prop:=∀ k,P∣l.getD k 0
theorem D7 {P:Nat} (h2:2≤P) (hP:∀ d,2≤d→d∣P→d=P):∀ (n:Nat) (b h c:List Int),b.length+h.length≤n→(∀ t,Qh c t=Qh b t*Qh h t)→Qkx P c→Qkx P b∨Qkx P h
  | _,[],h,c,_,_,_=>.inl fun k=>by simp
  | _,x::b,[],c,_,_,_=>.inr fun k=>by simp
  | 0,x::b,y::h,c,hn,_,_=>by simp at hn
  |
   n+1,x::b,y::h,c,hn,hc,hd=>by
   simp only [List.length_cons] at hn
   by_cases hx:(P:Int)∣x
   · -- x h is taken away
     have e:∀ t,Qh (0::Zi b (y::h)) t=Qh (Vn c (Qx (y::h) x)) t:=fun t=>by
       rw [Gb,Yb,hc]; simp only [Qh]; rw [Za]; simp only [Qh]; push_cast; grind
     have hd':Qkx P (Zi b (y::h)):=fun k=>by
       have:=Ui e (k+1)
       rw [List.getD_cons_succ,Ri,Yz] at this
       rw [this]
       exact Int.dvd_sub (hd (k+1)) (Int.dvd_trans hx (Int.dvd_mul_left _ _))
     rcases D7 h2 hP n b (y::h) _ (by simp only [List.length_cons]; omega) (fun t=>Za _ _ t) hd' with h1 | h1
     · refine .inl fun k=>?_
       cases k with
       | zero=>rw [List.getD_cons_zero]; exact hx
       | succ k=>rw [List.getD_cons_succ]; exact h1 k
     · exact .inr h1
   · have h0:(P:Int)∣y:=by
       have e:c.getD 0 0=x*y:=by
         have:=Ui (p:=c) (q:=Zi (x::b) (y::h)) (fun t=>by rw [hc,Za]) 0
         have e2:=Ui (p:=Zi (x::b) (y::h)) (q:=M9 (Qx (y::h) x) (0::Zi b (y::h))) (fun t=>by
           rw [Qjr,Yb,Za]; simp only [Qh]; rw [Za]; simp only [Qh]; push_cast; grind) 0
         rw [this,e2,Qdw,Yz,List.getD_cons_zero,List.getD_cons_zero,Int.mul_comm]; omega
       have:=hd 0
       rw [e] at this
       rcases Qfd h2 hP this with h1 | h1
       · exact absurd h1 hx
       · exact h1
     have e:∀ t,Qh (0::Zi (x::b) h) t=Qh (Vn c (Qx (x::b) y)) t:=fun t=>by
       rw [Gb,Yb,hc]; simp only [Qh]; rw [Za]; simp only [Qh]; push_cast; grind
     have hd':Qkx P (Zi (x::b) h):=fun k=>by
       have:=Ui e (k+1)
       rw [List.getD_cons_succ,Ri,Yz] at this
       rw [this]
       exact Int.dvd_sub (hd (k+1)) (Int.dvd_trans h0 (Int.dvd_mul_left _ _))
     rcases D7 h2 hP n (x::b) h _ (by simp only [List.length_cons]; omega) (fun t=>Za _ _ t) hd' with h1 | h1
     · exact absurd (by have:=h1 0; rwa [List.getD_cons_zero] at this) hx
     · refine .inr fun k=>?_
       cases k with
       | zero=>rw [List.getD_cons_zero]; exact h0
       | succ k=>rw [List.getD_cons_succ]; exact h1 k
def Prm (b:List Int):Prop:=∀ d:Int,Qkx d b→d∣1
theorem Qxa {a b:List Int} (hb:Prm b):∀ (n:Nat) (c:Int) (h:List Int),c.natAbs≤n→c≠0→(∀ t,(c:Rat)*Qh a t=Qh b t*Qh h t)→∃ h',∀ t,Qh a t=Qh b t*Qh h' t
  | 0,c,h,hn,h0,_=>absurd (by omega) h0
  |
   n+1,c,h,hn,h0,hc=>by
   rcases Nat.lt_or_ge c.natAbs 2 with h1 | h1
   · refine ⟨Qx h c,fun t=>?_⟩
     have hcc:(c:Rat)*c=1:=by
       have:c*c=1:=by
         rcases (show c=1∨c=-1 by omega) with rfl | rfl <;> rfl
       have:=congrArg (fun z:Int=>(z:Rat)) this
       push_cast at this; exact this
     rw [Yb]
     have:=hc t
     have:Qh a t=(c:Rat)*((c:Rat)*Qh a t):=by
       have:(c:Rat)*((c:Rat)*Qh a t)=((c:Rat)*c)*Qh a t:=by grind
       rw [this,hcc]; grind
     rw [this,hc]; grind
   · obtain ⟨P,p1,p2,p3⟩:=Qjy c.natAbs c.natAbs (Nat.le_refl _) h1
     obtain ⟨d,hd⟩:∃ d,c=(P:Int)*d:=Int.ofNat_dvd_left.2 p2
     have hall:Qkx P (Qx a c):=fun k=>by
       rw [Yz,hd]; exact Int.dvd_trans (Int.dvd_mul_right _ _) (Int.dvd_mul_left _ _)
     have hP0:(P:Rat)≠0:=by
       have:((0:Nat):Rat)<(P:Rat):=Rat.natCast_lt_natCast.2 (by omega)
       grind
     rcases D7 p1 p3 _ b h (Qx a c) (Nat.le_refl _) (fun t=>by rw [Yb,Rat.mul_comm,hc]) hall with e | e
     · have:=hb P e
       have:=Int.natAbs_dvd_natAbs.2 this
       rw [Int.natAbs_natCast] at this
       have:=Nat.le_of_dvd (by decide) this
       exact absurd this (by show ¬P≤1; omega)
     · refine Qxa hb n d (h.map (· / (P:Int))) ?_ (fun e0=>h0 (by rw [hd,e0,Int.mul_zero])) fun t=>?_
       · rw [hd,Int.natAbs_mul,Int.natAbs_natCast] at hn h1
         have:2*d.natAbs≤P*d.natAbs:=Nat.mul_le_mul_right _ p1
         omega
       · have e1:Qh h t=(P:Rat)*Qh (h.map (· / (P:Int))) t:=by
           have:=Kw P 0 t (max h.length (h.map (· / (P:Int))).length) (h.map (· / (P:Int))) [] h (by omega) (by simp) (by omega) fun k=>by
             have:=e k
             have e2:(h.map (· / (P:Int))).getD k 0=h.getD k 0 / (P:Int):=by
               rw [List.getD_eq_getElem?_getD,List.getD_eq_getElem?_getD,List.getElem?_map]
               cases h[k]? <;> simp
             rw [e2,Int.mul_ediv_cancel' this]; simp
           rw [this]; simp only [Qh]; push_cast; grind
         have:=hc t
         rw [hd,e1] at this
         push_cast at this
         have h3:(P:Rat)*((d:Rat)*Qh a t)=(P:Rat)*(Qh b t*Qh (h.map (· / (P:Int))) t):=by grind
         have h4:=Rat.mul_eq_zero.1 (show (P:Rat)*((d:Rat)*Qh a t-Qh b t*Qh (h.map (· / (P:Int))) t)=0 by grind)
         rcases h4 with h4 | h4
         · exact absurd h4 hP0
         · grind
theorem Qcq:∀ u:List Rat,∃ c:Int,c≠0∧∃ h:List Int,∀ t,(c:Rat)*ev u t=Qh h t
  | []=>⟨1,by decide,[],fun t=>by simp only [ev,Qh]; grind⟩
  |
   a::u=>by
   obtain ⟨c,hc,h,hh⟩:=Qcq u
   refine ⟨c*(a.den:Int),Int.mul_ne_zero hc (by have:=a.den_nz; omega),(c*a.num)::Qx h (a.den:Int),fun t=>?_⟩
   have e:(a.den:Rat)*a=a.num:=by
     rw [Rat.mul_comm]
     have:(a.num:Rat) / (((a.den:Int)):Rat)=a:=by rw [Xo,Rat.num_divInt_den]
     have hd:(a.den:Rat)≠0:=by
       have:((0:Nat):Rat)<(a.den:Rat):=Rat.natCast_lt_natCast.2 a.den_pos
       grind
     have h2:(a.num:Rat) / (a.den:Rat)*(a.den:Rat)=a.num:=Rat.div_mul_cancel hd
     rw [show (a.num:Rat) / (a.den:Rat)=a from this] at h2; exact h2
   simp only [ev,Qh]
   rw [Yb,←hh]
   push_cast
   rw [←e]
   have e3:(((a.den:Int)):Rat)=(a.den:Rat):=rfl
   grind
theorem Qw9 {a b:List Int} (hb:Prm b) (h:Sj (cz b) (cz a)):∃ h',Qi h'∧∀ t,Qh a t=Qh b t*Qh h' t:=by
  obtain ⟨u,hu⟩:=h
  obtain ⟨c,hc,h,hh⟩:=Qcq u
  obtain ⟨h',e⟩:=Qxa hb c.natAbs c h (Nat.le_refl _) hc fun t=>by
    have:=hu t
    rw [Qg,Qg] at this
    rw [this,←hh]; grind
  exact ⟨trim h',Xw _,fun t=>by rw [H9,e]⟩
end Orq

namespace Orq
open Orr Go
def sd (x0:Rat):List Rat→List Rat
  | []=>[]
  | _::p=>Jw p (W8 x0 (sd x0 p))
theorem Qw1 (x0 x:Rat):∀ p,ev (sd x0 p) x=dq p x x0
  | []=>rfl
  | a::p=>by simp only [sd,dq]; rw [Zm,Zc,Qw1 x0 x p]
theorem Qnf (x0:Rat):∀ (g:List Rat) (n:Nat),(∀ j,n<j→g.getD j 0=0)→∀ j,n≤j→(sd x0 g).getD j 0=0
  | [],n,_,j,_=>by simp [sd]
  |
   a::p,0,h,j,_=>by
   have hp:∀ j,p.getD j 0=0:=fun j=>by have:=h (j+1) (by omega); rwa [List.getD_cons_succ] at this
   simp only [sd]
   rw [Xv,Ju,hp,Qnf x0 p 0 (fun j _=>hp j) j (Nat.zero_le _)]; grind
  |
   a::p,n+1,h,j,hj=>by
   have hp:∀ j,n<j→p.getD j 0=0:=fun j hj=>by have:=h (j+1) (by omega); rwa [List.getD_cons_succ] at this
   simp only [sd]
   rw [Xv,Ju,hp j (by omega),Qnf x0 p n hp j (by omega)]; grind
theorem Ql8 {K:Rat} (hK:0≤K):∀ (e:Nat) (g:List Rat) (pts:List Int) (M:Rat),pts.length=e+1→pts.Nodup→(∀ x∈pts,Qm (x:Rat)≤K)→(∀ k,e<k→g.getD k 0=0)→(∀ x∈pts,Qm (ev g (x:Rat))≤M)→∀ k,Qm (g.getD k 0)≤(2*K+3)^e*M
  | _,_,[],_,h,_,_,_,_=>by simp at h
  |
   0,g,x0::xs,M,_,_,_,hg,hM=>fun k=>by
   have h0:=hM x0 (by simp)
   rw [Rat.pow_zero]
   cases k with
   |
    zero =>
    have e:ev g (x0:Rat)=g.getD 0 0:=by
      cases g with
      | nil=>rfl
      |
       cons a p =>
       have hp:=Ue (p:=p) fun j=>by have:=hg (j+1) (by omega); rwa [List.getD_cons_succ] at this
       simp only [ev,hp,List.getD_cons_zero]; grind
    rw [←e]; grind
   |
    succ k =>
    rw [hg (k+1) (by omega),Xu]
    have:=Xg (ev g (x0:Rat)); grind
  |
   e+1,g,x0::xs,M,hl,hn,hb,hg,hM=>fun k=>by
   have hx0:=hb x0 (by simp)
   have hM0:=hM x0 (by simp)
   have hMn:0≤M:=Rat.le_trans (Xg _) hM0
   rw [List.nodup_cons] at hn
   have ih:=Ql8 hK e (sd x0 g) xs (2*M) (by simpa using hl) hn.2 (fun x hx=>hb x (by simp [hx])) (fun j hj=>Qnf _ g (e+1) hg j (by omega)) fun x hx=>by
     have h1:=hM x (by simp [hx])
     have h2:=Qcz (x:Rat) (x0:Rat) g
     rw [←Qw1] at h2
     have hne:x-x0≠0:=fun h=>hn.1 (by rw [show x0=x by omega]; exact hx)
     have h3:=Nz hne
     rw [Rat.intCast_sub] at h3
     have h4:Qm (ev g (x:Rat)-ev g (x0:Rat))≤2*M:=by
       have:=Jv (ev g (x:Rat)) (-ev g (x0:Rat))
       rw [U7,show ev g (x:Rat)+-ev g (x0:Rat)=ev g (x:Rat)-ev g (x0:Rat) by grind] at this
       clear hM hb hg; grind
     rw [h2,G0] at h4
     have h5:=Rat.mul_le_mul_of_nonneg_right h3 (Xg (ev (sd x0 g) x))
     clear hM hb hg; grind
   have e1:∀ t,ev g t=ev (Jw [ev g x0] (Jw (W8 (-x0) (sd x0 g)) (0::sd x0 g))) t:=fun t=>by
     have:=Qcz t (x0:Rat) g
     rw [←Qw1] at this
     simp only [Zm,Zc,ev]
     grind
   have hp1:1≤(2*K+3)^e:=(Mr (R:=2*K+3) (x:=0) (by grind) (by rw [Xu]; grind) e).2
   have hpM:=V4 (x:=(2*K+3)^e) (y:=M) (by grind) hMn
   have hpM1:=Rat.mul_le_mul_of_nonneg_right hp1 hMn
   rw [Rat.pow_succ,W4 e1 k,Xv,Xv,Ju]
   have a1:=ih k
   have a2:Qm (-(x0:Rat)*(sd (x0:Rat) g).getD k 0)≤K*((2*K+3)^e*(2*M)):=Zv (by rw [U7]; exact hx0) a1
   have fin:∀ u v w:Rat,Qm u≤M→Qm v≤K*((2*K+3)^e*(2*M))→Qm w≤(2*K+3)^e*(2*M)→Qm (u+(v+w))≤(2*K+3)^e*(2*K+3)*M:=fun u v w h1 h2 h3=>by
     have b1:=Jv u (v+w)
     have b2:=Jv v w
     clear ih e1 hM hb hg a1 a2; grind
   refine fin _ _ _ ?_ a2 ?_
   · cases k with
     | zero=>rw [List.getD_cons_zero]; exact hM0
     | succ k=>rw [List.getD_cons_succ,List.getD_nil,Xu]; exact hMn
   · cases k with
     | zero=>rw [List.getD_cons_zero,Xu]; clear ih e1 hM hb hg a1 a2 fin; grind
     | succ k=>rw [List.getD_cons_succ]; exact ih k
theorem Qzn {g:List Rat} {e:Nat} (hg:∀ k,e<k→g.getD k 0=0) (hz:¬∀ t,ev g t=0) {pts:List Int} (hn:pts.Nodup) (hr:∀ x∈pts,ev g (x:Rat)=0):pts.length≤e:=by
  rcases Nat.lt_or_ge e pts.length with h | h
  · exfalso
    obtain ⟨K,hK,hb⟩:∃ K:Rat,0≤K∧∀ x∈pts,Qm (x:Rat)≤K:=by
      clear hn hr h
      induction pts with
      | nil=>exact ⟨0,by decide,fun x hx=>by cases hx⟩
      |
       cons y pts ih =>
       obtain ⟨K,h1,h2⟩:=ih
       refine ⟨K+Qm (y:Rat),by have:=Xg (y:Rat); grind,fun x hx=>?_⟩
       have hy:=Xg (y:Rat)
       rcases List.mem_cons.1 hx with rfl | hx
       · grind
       · have:=h2 x hx; grind
    refine hz (Ue fun k=>?_)
    have:=Ql8 hK e g (pts.take (e+1)) 0 (by rw [List.length_take]; omega) (hn.sublist (List.take_sublist ..)) (fun x hx=>hb x (List.mem_of_mem_take hx)) hg (fun x hx=>by rw [hr x (List.mem_of_mem_take hx),Xu]; exact Rat.le_refl) k
    have h2:=Xg (g.getD k 0)
    exact Q4e (by grind)
  · exact h
def spots:List Int:=(List.range 19).map fun i:Nat=>(i:Int)-9
theorem spots_nd:spots.Nodup:=by decide
theorem Qkc:∀ x∈spots,x.natAbs≤9:=by decide
theorem Qai {α:Type} (p:α→Bool):∀ l:List α,(l.filter p).length+(l.filter fun x => !p x).length=l.length
  | []=>rfl
  |
   x::l=>by
   have:=Qai p l
   cases h:p x <;> simp [h] <;> omega
def geo:Nat→Nat
  | 0=>0
  | n+1=>1+9*geo n
theorem Qpe {B:Rat}:∀ (p:List Int),(∀ z∈p,Qm (z:Rat)≤B)→evB 9 (cz p)≤B*(geo p.length:Nat)
  | [],_=>by simp only [cz,List.map_nil,evB,geo,List.length_nil]; rw [show ((0:Nat):Rat)=0 from rfl]; grind
  |
   a::p,h=>by
   have h1:=Qpe p fun z hz=>h z (List.mem_cons_of_mem _ hz)
   have h2:=h a (List.mem_cons_self ..)
   simp only [cz,List.map_cons,evB,geo,List.length_cons] at *
   push_cast
   clear h; grind
theorem Qxi {m n:Nat} (h:m≤n):geo m≤geo n:=by
  induction h with
  | refl=>exact Nat.le_refl _
  | step h ih=>simp only [geo]; omega
def pz:List Int→Int→Int
  | [],_=>0
  | a::p,x=>a+x*pz p x
theorem Ba (x:Int):∀ p,Qh p (x:Rat)=((pz p x:Int):Rat)
  | []=>rfl
  | a::p=>by simp only [Qh,pz,Ba x p]; push_cast; rfl
theorem Jz (z:Int):Qm (z:Rat)=((z.natAbs:Nat):Rat):=by
  unfold Qm
  rcases Int.lt_or_le z 0 with h | h
  · have h1:(z:Rat)<((0:Int):Rat):=Rat.intCast_lt_intCast.2 h
    rw [if_pos (by simpa using h1)]
    have:(z.natAbs:Int)=-z:=by omega
    have:=congrArg (fun u:Int=>(u:Rat)) this
    push_cast at this
    exact this.symm
  · have h1:((0:Int):Rat)≤(z:Rat):=Rat.intCast_le_intCast.2 h
    have h1:(0:Rat)≤(z:Rat):=by simpa using h1
    rw [if_neg (by grind)]
    have:(z.natAbs:Int)=z:=by omega
    have:=congrArg (fun u:Int=>(u:Rat)) this
    exact this.symm
theorem S6 {p g h:List Int} {s:Nat} (hp:Bd s p) (hl:p.length≤10) (tp:Qi p) (tg:Qi g) (th:Qi h) (h0:p.length≠0) (e:∀ t,Qh p t=Qh g t*Qh h t):Bd (s+69) g:=by
  have lg:0<g.length:=by
    rcases Nat.eq_zero_or_pos g.length with e' | e'
    · exact absurd (fun t=>by rw [e,W6 e']; grind) (E5 tp (by omega))
    · exact e'
  have lh:0<h.length:=by
    rcases Nat.eq_zero_or_pos h.length with e' | e'
    · exact absurd (fun t=>by rw [e,W6 e']; grind) (E5 tp (by omega))
    · exact e'
  have hlen:=Vd tg th tp e lg lh
  obtain ⟨q,hq⟩:∃ q,q=spots.filter fun x => !decide (pz p x=0):=⟨_,rfl⟩
  have hr:(spots.filter fun x=>decide (pz p x=0)).length≤9:=by
    refine Qzn (g:=cz p) (e:=9) (fun k hk=>?_) (fun h=>E5 tp (by omega) fun t=>by rw [←Qg]; exact h t) (spots_nd.sublist List.filter_sublist) fun x hx=>?_
    · rw [Vb,List.getD_eq_getElem?_getD,List.getElem?_eq_none (by omega)]; rfl
    · have:=(List.mem_filter.1 hx).2
      rw [Qg,Ba,of_decide_eq_true this]; rfl
  have hc:=Qai (fun x=>decide (pz p x=0)) spots
  rw [←hq] at hc
  have hsl:spots.length=19:=by decide
  have hB:∀ z∈p,Qm (z:Rat)≤((2^s:Nat):Rat):=fun z hz=>by
    rw [Jz]
    have:=hp z hz
    rw [J3] at this
    exact Rat.natCast_le_natCast.2 (Nat.le_of_lt this)
  have key:=Ql8 (K:=9) (by decide) 9 (cz g) (q.take 10) (((2^s*435848050:Nat)):Rat) (by rw [List.length_take]; omega) ((spots_nd.sublist (by rw [hq]; exact List.filter_sublist)).sublist (List.take_sublist ..)) (fun x hx=>by
      have hx:=List.mem_of_mem_take hx
      rw [hq] at hx
      have:=Qkc x (List.mem_filter.1 hx).1
      rw [Jz]
      exact_mod_cast Rat.natCast_le_natCast.2 this) (fun k hk=>by rw [Vb,List.getD_eq_getElem?_getD,List.getElem?_eq_none (by omega)]; rfl) (fun x hx=>by
      have hx:=List.mem_of_mem_take hx
      rw [hq] at hx
      obtain ⟨hx1,hx2⟩:=List.mem_filter.1 hx
      have hne:pz p x≠0:=by simpa using hx2
      have e1:=e (x:Rat)
      rw [Ba,Ba,Ba] at e1
      have e2:pz p x=pz g x*pz h x:=by exact_mod_cast e1
      have hh:1≤(pz h x).natAbs:=by
        rcases Nat.eq_zero_or_pos (pz h x).natAbs with e' | e'
        · exact absurd (by rw [e2,Int.natAbs_eq_zero.1 e',Int.mul_zero]) hne
        · exact e'
      have h3:(pz g x).natAbs≤(pz p x).natAbs:=by
        rw [e2,Int.natAbs_mul]
        exact Nat.le_mul_of_pos_right _ hh
      rw [Qg,Ba,Jz]
      refine Rat.le_trans (Rat.natCast_le_natCast.2 h3) ?_
      rw [←Jz,←Ba,←Qg]
      refine Rat.le_trans (E6 (R:=9) (by
        have:=Qkc x hx1
        rw [Jz]
        exact_mod_cast Rat.natCast_le_natCast.2 this) _) ?_
      refine Rat.le_trans (Qpe p hB) ?_
      have:2^s*geo p.length≤2^s*435848050:=Nat.mul_le_mul_left _ (Nat.le_trans (Qxi hl) (by decide))
      have:=Rat.natCast_le_natCast.2 this
      push_cast at this ⊢
      exact this)
  refine Oc fun k=>?_
  have h1:=key k
  rw [Vb,Jz] at h1
  have e3:(2*(9:Rat)+3)^9*((2^s*435848050:Nat):Rat)=(((794280046581*(2^s*435848050)):Nat):Rat):=by
    rw [show (2*(9:Rat)+3)^9=794280046581 by grind]
    push_cast; rfl
  rw [e3] at h1
  have h2:=Rat.natCast_le_natCast.1 h1
  rw [J3]
  refine Nat.lt_of_le_of_lt h2 ?_
  have:794280046581*(2^s*435848050)=2^s*(794280046581*435848050):=by
    rw [Nat.mul_left_comm]
  rw [this,Nat.pow_add]
  exact Nat.mul_lt_mul_of_pos_left (by decide) (Nat.pow_pos (by decide))
end Orq

namespace Orq
open Orr Go
theorem Qwt {l:List Int} {d:Int} (h:∀ z∈l,d∣z):d∣((Xb l:Nat):Int):=by
  have key:∀ (l:List Int) (g:Nat),d.natAbs∣g→(∀ z∈l,d∣z)→d.natAbs∣l.foldl (fun g z=>Nat.gcd g z.natAbs) g:=by
    intro l
    induction l with
    | nil=>exact fun g h _=>h
    | cons z l ih=>exact fun g hg h=>ih _ (Nat.dvd_gcd hg (Int.natAbs_dvd_natAbs.2 (h z (List.mem_cons_self ..)))) fun u hu=>h u (List.mem_cons_of_mem _ hu)
  have:=key l 0 (Nat.dvd_zero _) h
  exact Int.natAbs_dvd_natAbs.1 (by rw [Int.natAbs_natCast]; exact this)
theorem Cj (p:List Int) (c:Int) (k:Nat):(p.map (· / c)).getD k 0=p.getD k 0 / c:=by
  rw [List.getD_eq_getElem?_getD,List.getD_eq_getElem?_getD,List.getElem?_map]
  cases p[k]? <;> simp
theorem Bb (p:List Int) (c:Int) (k:Nat):(Wi p c).getD k 0=p.getD k 0 / c:=by
  unfold Wi; rw [Fi,Cj]
theorem Qdy {p:List Int} {c:Int} (h:∀ z∈p,c∣z) (t:Rat):Qh p t=(c:Rat)*Qh (Wi p c) t:=by
  have:=Kw c 0 t (max p.length (Wi p c).length) (Wi p c) [] p (by omega) (by simp) (by omega) fun k=>by
    rw [Bb]
    have hd:c∣p.getD k 0:=by
      rw [List.getD_eq_getElem?_getD]
      cases e:p[k]? with
      | none=>exact Int.dvd_zero _
      | some z=>exact h z (List.mem_of_getElem? e)
    rw [Int.mul_ediv_cancel' hd]; simp
  rw [this]; simp only [Qh]; push_cast; grind
theorem Pd {c:Int} (h:c≠0):(c:Rat)≠0:=fun e=>h (by exact_mod_cast e)
theorem Tp {p q:List Int} {c:Rat} (tp:Qi p) (tq:Qi q) (hc:c≠0) (h:∀ t,Qh p t=c*Qh q t):p.length=q.length:=by
  have key:∀ {p q:List Int} {c:Rat},Qi p→Qi q→c≠0→(∀ t,Qh p t=c*Qh q t)→p.length≤q.length:=fun {p q c} tp tq hc h=>by
    rcases Nat.lt_or_ge q.length p.length with e | e
    · have h1:=Xj tp (by omega)
      have:=W4 (p:=cz p) (q:=W8 c (cz q)) (fun t=>by rw [Qg,Zc,Qg,h]) (p.length-1)
      rw [Vb,Ju,Vb,List.getD_eq_getElem?_getD (l:=q),List.getElem?_eq_none (by omega)] at this
      have:((p.getD (p.length-1) 0:Int):Rat)=0:=by rw [this]; simp
      exact absurd (by exact_mod_cast this) h1
    · exact e
  refine Nat.le_antisymm (key tp tq hc h) (key (c:=1 / c) tq tp (fun e=>?_) fun t=>?_)
  · have:=Rat.div_mul_cancel (a:=1) hc; rw [e] at this; grind
  · rw [h]; have:=Rat.div_mul_cancel (a:=1) hc; grind
theorem Ky {p:List Int} (tp:Qi p) (h:p.length≠0):Qi (Qo p)∧(Qo p).length=p.length∧Prm (Qo p)∧0<Qt (Qo p)∧(∀ s,Bd s p→Bd s (Qo p))∧Z9 p≠0∧∀ t,Qh p t=(Z9 p:Rat)*Qh (Qo p) t:=by
  have h0:=Qqn tp h
  have e:Qo p=Wi p (Z9 p):=by unfold Qo; rw [if_neg h]
  have h1:=Qdy (p:=p) (c:=Z9 p) C7
  have hl:=Tp tp (Tu p (Z9 p)) (Pd h0) h1
  have hcp:0<J8 p:=by
    have:=Pu tp h
    unfold J8 at this ⊢; omega
  rw [e]
  refine ⟨Tu _ _,hl.symm,fun d hd=>?_,?_,fun s hs=>Od hs _,h0,h1⟩
  · have h2:∀ z∈p,d*Z9 p∣z:=fun z hz=>by
      obtain ⟨i,hi⟩:=List.mem_iff_getElem?.1 hz
      have h3:=hd i
      rw [Bb,List.getD_eq_getElem?_getD,hi] at h3
      obtain ⟨k,hk⟩:=h3
      have h4:=C7 z hz
      refine ⟨k,?_⟩
      have:z / Z9 p*Z9 p=z:=Int.ediv_mul_cancel h4
      rw [←this]
      rw [show z / Z9 p=d*k from hk,Int.mul_right_comm]
    have h3:=Qwt h2
    have h4:Z9 p∣((Xb p:Nat):Int)∧((Xb p:Nat):Int)∣Z9 p:=by
      unfold Z9 J8; split
      · exact ⟨Int.neg_dvd.2 (Int.dvd_refl _),Int.dvd_neg.2 (Int.dvd_refl _)⟩
      · exact ⟨Int.dvd_refl _,Int.dvd_refl _⟩
    obtain ⟨k,hk⟩:=Int.dvd_trans h3 h4.2
    refine ⟨k,?_⟩
    have:Z9 p*(d*k)=Z9 p*1:=by rw [Int.mul_one,←Int.mul_assoc,Int.mul_comm (Z9 p) d,←hk]
    exact (Int.eq_of_mul_eq_mul_left h0 this).symm
  · have h2:Qt (Wi p (Z9 p))=Qt p / Z9 p:=by unfold Qt; rw [←hl,Bb]
    have h3:Z9 p∣Qt p:=C7 _ (Qa4 h)
    have h5:Qt p / Z9 p*Z9 p=Qt p:=Int.ediv_mul_cancel h3
    rw [h2]
    have h6:=U3 tp h
    rcases Int.lt_trichotomy (Qt p / Z9 p) 0 with e1 | e1 | e1
    · exfalso
      by_cases hn:Qt p<0
      · have:Z9 p=-J8 p:=by unfold Z9; rw [if_pos hn]
        have:0<Qt p / Z9 p*Z9 p:=Int.mul_pos_of_neg_of_neg e1 (by omega)
        omega
      · have:Z9 p=J8 p:=by unfold Z9; rw [if_neg hn]
        have:Qt p / Z9 p*Z9 p<0:=Int.mul_neg_of_neg_of_pos e1 (by omega)
        omega
    · rw [e1] at h5; omega
    · exact e1
theorem Qyu {r:List Int} (tr:Qi r):∃ c:Rat,0<c∧∀ t,Qh r t=c*Qh (Ng r) t:=by
  unfold Ng
  by_cases h:r.length=0
  · rw [if_pos h]; exact ⟨1,by decide,fun t=>by rw [W6 h,W6 rfl]; grind⟩
  · rw [if_neg h]
    have h1:0<J8 r:=by
      have:=Pu tr h
      unfold J8 at this ⊢; omega
    have h2:((0:Int):Rat)<(J8 r:Rat):=Rat.intCast_lt_intCast.2 h1
    exact ⟨J8 r,by simpa using h2,Qdy Fc⟩
theorem Pv (x:Int) (t:Rat):∀ i,Qh (mono i x) t=(x:Rat)*t^i
  | 0=>by simp only [mono,List.replicate_zero,List.nil_append,Qh,Rat.pow_zero]; grind
  |
   i+1=>by
   have ih:=Pv x t i
   simp only [mono,List.replicate_succ,List.cons_append,Qh] at *
   rw [ih,Rat.pow_succ]; push_cast; grind
theorem Qp5 (x:Int) (b:List Int) (i k:Nat):(Zi (trim (mono i x)) b).getD k 0=if i≤k then x*b.getD (k-i) 0 else 0:=by
  have e:∀ t,Qh (Zi (trim (mono i x)) b) t=Qh (List.replicate i 0++b.map (x * ·)) t:=fun t=>by
    rw [Za,H9,Pv]
    have h2:∀ i,Qh (List.replicate i 0++b.map (x * ·)) t=t^i*((x:Rat)*Qh b t):=fun i=>by
      induction i with
      |
       zero =>
       simp only [List.replicate_zero,List.nil_append,Rat.pow_zero]
       have:=Kw x 0 t (max b.length (b.map (x * ·)).length) b [] (b.map (x * ·)) (by omega) (by simp) (by omega) fun k=>by
         rw [List.getD_eq_getElem?_getD,List.getD_eq_getElem?_getD,List.getElem?_map]
         cases b[k]? <;> simp
       rw [this]; simp only [Qh]; push_cast; grind
      | succ i ih=>simp only [List.replicate_succ,List.cons_append,Qh,ih,Rat.pow_succ]; push_cast; grind
    rw [h2]; grind
  rw [Ui e k,List.getD_eq_getElem?_getD,List.getElem?_append,List.length_replicate]
  by_cases h:i≤k
  · rw [if_neg (by omega),if_pos h,List.getElem?_map,List.getD_eq_getElem?_getD]
    cases b[k-i]? <;> simp
  · rw [if_pos (by omega),if_neg h,List.getElem?_replicate,if_pos (by omega)]; rfl
theorem Qxz {p:List Int} {n:Nat} (tp:Qi p) (h:p.length≤n+1) (h0:p.getD n 0=0):p.length≤n:=by
  rcases Nat.lt_or_ge n p.length with e | e
  · have:=Xj tp (by omega)
    rw [show p.length-1=n by omega] at this
    exact absurd h0 this
  · exact e
theorem Q43 {b r:List Int} {i:Nat} (tr:Qi r) (h:r.length≤b.length+i) (hb:b.length≠0) {x:Int} (hx:x=if r.length=b.length+i then Qt r else 0):(str b (Qt b) i x r).length<b.length+i:=by
  have hl:=Qfu (c:=Qt b) (x:=x) (i:=i) (b:=b) (r:=r)
  have:=Qxz (p:=str b (Qt b) i x r) (n:=b.length+i-1) (Q9 _ _) (by omega) (by
    unfold str
    rw [Ri,Yz,Qp5,if_pos (by omega),hx,show b.length+i-1-i=b.length-1 by omega]
    split
    · rename_i he
      unfold Qt
      rw [he,Int.sub_eq_zero]
    · rw [List.getD_eq_getElem?_getD (l:=r),List.getElem?_eq_none (by omega)]; simp)
  omega
theorem Q9b (b r:List Int) (c:Int) (i:Nat) (x:Int) (t:Rat):(c:Rat)*Qh r t=(x:Rat)*t^i*Qh b t+Qh (str b c i x r) t:=by
  unfold str
  rw [Gb,Yb,Za,H9,Pv]; grind
theorem Qy0 (b:List Int) (c:Int):∀ (i:Nat) (q r:List Int),∃ X:List Rat,∀ t,((c^i:Int):Rat)*Qh r t=ev X t*Qh b t+Qh (psd b c i (q,r)).2 t
  | 0,q,r=>⟨[],fun t=>by simp only [psd,ev]; rw [Int.pow_zero]; push_cast; grind⟩
  |
   i+1,q,r=>by
   obtain ⟨x,hx⟩:∃ x,x=if r.length=b.length+i then Qt r else 0:=⟨_,rfl⟩
   obtain ⟨X,hX⟩:=Qy0 b c i (stq c i x q) (str b c i x r)
   obtain ⟨m,hm⟩:∃ m:List Rat,∀ t,ev m t=(x:Rat)*t^i:=⟨cz (mono i x),fun t=>by rw [Qg,Pv]⟩
   refine ⟨Jw (W8 ((c^i:Int):Rat) m) X,fun t=>?_⟩
   rw [Py hx,Zm,Zc,hm]
   have h1:=hX t
   have h2:=Q9b b r c i x t
   rw [Int.pow_succ]
   push_cast at h1 ⊢
   have:(c:Rat)^i*c*Qh r t=(c:Rat)^i*((c:Rat)*Qh r t):=by grind
   rw [this,h2]; grind
theorem Qqt {b:List Int} (hb:b.length≠0):∀ (i:Nat) (q r:List Int),Qi r→r.length<b.length+i→Qi (psd b (Qt b) i (q,r)).2∧(psd b (Qt b) i (q,r)).2.length<b.length
  | 0,q,r,tr,h=>⟨tr,h⟩
  |
   i+1,q,r,tr,h=>by
   rw [Py rfl]
   exact Qqt hb i _ _ (Q9 _ _) (Q43 tr (by omega) hb rfl)
theorem Qyz {b:List Int} {c:Int} {t:Nat} (hb:Bd t b) (hc:Ql c≤t):∀ (i u:Nat) (q r:List Int),i≤64→Bd u r→Bd (u+i*(t+8)) (psd b c i (q,r)).2
  | 0,u,q,r,_,h=>by simpa [psd] using h
  |
   i+1,u,q,r,hi,h=>by
   rw [Py rfl]
   have hx:Ql (if r.length=b.length+i then Qt r else 0)≤u:=by
     split
     · exact Vq h
     · rw [Vr]; exact Nat.zero_le _
   have:=Qyz hb hc i (u+t+8) (stq c i (if r.length=b.length+i then Qt r else 0) q) (str b c i (if r.length=b.length+i then Qt r else 0) r) (by omega) (Qk3 h hb hc hx (by omega))
   exact Qc this (by rw [Nat.succ_mul]; omega)
theorem Qbi {c:Int} (h:c<0):∀ k:Nat,(k % 2=1→c^k<0)∧(k % 2=0→0<c^k)
  | 0=>⟨fun h=>by omega,fun _=>by rw [Int.pow_zero]; decide⟩
  |
   k+1=>by
   obtain ⟨i1,i2⟩:=Qbi h k
   rw [Int.pow_succ]
   exact ⟨fun hk=>Int.mul_neg_of_pos_of_neg (i2 (by omega)) h,fun hk=>Int.mul_pos_of_neg_of_neg (i1 (by omega)) h⟩
theorem I0 {a b:List Int} (ta:Qi a) (tb:Qi b) (hb:b.length≠0) (hl:a.length≤60):Qi (X5 a b)∧(X5 a b).length<b.length∧(∀ s,Bd s a→Bd s b→Bd (s+(a.length+1-b.length)*(s+8)) (X5 a b)) ∧
    ∃ u v:Rat,0<u∧0<v∧∃ X:List Rat,∀ t,u*Qh a t=ev X t*Qh b t+v*Qh (X5 a b) t:=by
  obtain ⟨k,hk⟩:∃ k,k=a.length+1-b.length:=⟨_,rfl⟩
  have h1:Qi (Yw a b)∧(Yw a b).length<b.length:=Qqt hb _ _ _ ta (by omega)
  obtain ⟨X,hX⟩:=Qy0 b (Qt b) k [] a
  have hX:∀ t,(((Qt b)^k:Int):Rat)*Qh a t=ev X t*Qh b t+Qh (Yw a b) t:=by unfold Yw; rw [←hk]; exact hX
  have h2:=De (a:=a) (b:=b) (r:=Yw a b) (n:=(Yw a b).length) (s:=(Yw a b).foldl (fun m z=>m+Ql z) 0) h1.1 (Nat.le_refl _) (fun z hz=>by
    have key:∀ (l:List Int) (m:Nat),m≤l.foldl (fun m z=>m+Ql z) m∧∀ z∈l,Ql z≤l.foldl (fun m z=>m+Ql z) m:=by
      intro l
      induction l with
      | nil=>exact fun m=>⟨Nat.le_refl _,fun z hz=>by cases hz⟩
      |
       cons y l ih =>
       intro m
       obtain ⟨i1,i2⟩:=ih (m+Ql y)
       refine ⟨by simp only [List.foldl_cons]; omega,fun z hz=>?_⟩
       simp only [List.foldl_cons]
       rcases List.mem_cons.1 hz with rfl | hz
       · omega
       · exact i2 z hz
    exact (key _ 0).2 z hz)
  have h3:=Qbf (r:=Kf a b (Yw a b)) (n:=(Yw a b).length) h2.2.1 h2.2.2
  refine ⟨h3.1,by unfold X5; omega,fun s ha hbs=>?_,?_⟩
  · have h4:=Qyz (c:=Qt b) hbs (Vq hbs) k s [] a (by omega) ha
    have h5:=De (a:=a) (b:=b) (n:=(Yw a b).length) h1.1 (Nat.le_refl _) (show Bd (s+k*(s+8)) (Yw a b) by unfold Yw; rw [←hk]; exact h4)
    rw [←hk]
    exact (Qbf h5.2.1 h5.2.2).2.2
  · obtain ⟨v,vp,hv⟩:=Qyu h2.1
    have hc:=U3 tb hb
    by_cases ht:k % 2=1∧Qt b<0
    · have e1:Kf a b (Yw a b)=Ve (Yw a b):=by unfold Kf; rw [←hk,if_pos ht]
      have hneg:(Qt b)^k<0:=(Qbi ht.2 k).1 ht.1
      have h5:(((Qt b)^k:Int):Rat)<((0:Int):Rat):=Rat.intCast_lt_intCast.2 hneg
      have h5:(((Qt b)^k:Int):Rat)<0:=by simpa using h5
      refine ⟨-(((Qt b)^k:Int):Rat),v,by grind,vp,W8 (-1) X,fun t=>?_⟩
      have h6:=hX t
      have h7:=hv t
      rw [e1,C6] at h7
      show _=_+v*Qh (Ng (Kf a b (Yw a b))) t
      rw [e1,←h7,Zc]; grind
    · have e1:Kf a b (Yw a b)=Yw a b:=by unfold Kf; rw [←hk,if_neg ht]
      have hpos:0<(Qt b)^k:=by
        rcases Int.lt_or_lt_of_ne hc with h | h
        · exact (Qbi h k).2 (by omega)
        · exact Int.pow_pos h
      have h5:((0:Int):Rat)<(((Qt b)^k:Int):Rat):=Rat.intCast_lt_intCast.2 hpos
      refine ⟨(((Qt b)^k:Int):Rat),v,by simpa using h5,vp,X,fun t=>?_⟩
      have h7:=hv t
      show _=_+v*Qh (Ng (Kf a b (Yw a b))) t
      rw [←h7,e1,hX]
end Orq

namespace Orq
open Orr Go
theorem Fl {p:List Int} (h1:p.length≤64) (h2:Bd 16777216 p):chk p=some p:=by
  unfold chk
  rw [if_pos ⟨h1,List.all_eq_true.2 fun z hz=>Nat.ble_eq_true_of_le (h2 z hz)⟩]
theorem Qcx {a b:List Int} {g:List Rat} {c:Rat} (hc:c≠0) (h:∀ t,Qh a t=c*Qh b t):Sj g (cz a)↔Sj g (cz b):=by
  constructor
  · rintro ⟨u,hu⟩
    refine ⟨W8 (1 / c) u,fun t=>?_⟩
    have h1:=hu t
    rw [Qg,h] at h1
    rw [Qg,Zc]
    have h2:1 / c*c=1:=Rat.div_mul_cancel hc
    have:Qh b t=1 / c*(c*Qh b t):=by grind
    rw [this,h1]; grind
  · rintro ⟨u,hu⟩
    refine ⟨W8 c u,fun t=>?_⟩
    have h1:=hu t
    rw [Qg] at h1
    rw [Qg,Zc,h,h1]; grind
structure Gc (g a b:List Int):Prop where
  t:Qi g
  da:Sj (cz g) (cz a)
  db:Sj (cz g) (cz b)
  c:∃ U V,∀ t,Qh g t=ev U t*Qh a t+ev V t*Qh b t
  n:g.length≠0
theorem Gc.scale {g a b g' a' b':List Int} {x y z:Rat} (h:Gc g a b) (hx:x≠0) (hy:y≠0) (hz:z≠0) (tg:Qi g') (eg:∀ t,Qh g t=x*Qh g' t) (ea:∀ t,Qh a' t=y*Qh a t) (eb:∀ t,Qh b' t=z*Qh b t):Gc g' a' b':=by
  have hx1:1 / x*x=1:=Rat.div_mul_cancel hx
  have hy1:1 / y*y=1:=Rat.div_mul_cancel hy
  have hz1:1 / z*z=1:=Rat.div_mul_cancel hz
  have hg:∀ c,Sj (cz g) c→Sj (cz g') c:=fun c ⟨u,hu⟩=>⟨W8 x u,fun t=>by rw [hu,Qg,Qg,eg,Zc]; grind⟩
  obtain ⟨U,V,hc⟩:=h.c
  refine ⟨tg,hg _ ((Qcx hy ea).2 h.da),hg _ ((Qcx hz eb).2 h.db),⟨W8 (1 / x*(1 / y)) U,W8 (1 / x*(1 / z)) V,fun t=>?_⟩,?_⟩
  · have h1:=hc t
    have h2:Qh g' t=1 / x*Qh g t:=by rw [eg]; grind
    rw [h2,h1,Zc,Zc,ea,eb]
    generalize ev U t=u at *
    generalize ev V t=v at *
    grind
  · rw [←Tp h.t tg hx eg]; exact h.n
theorem Q8s:∀ d:Nat,1≤d→d+2≤3^d
  | 0,h=>by omega
  | 1,_=>by decide
  | d+2,_=>by have:=Q8s (d+1) (by omega); rw [Nat.pow_succ]; omega
theorem Qkm {k:Nat} {a b:List Int} (ta:Qi a) (tb:Qi b) (hb:b.length≠0) (hl:a.length≤60) (hbl:b.length≤60) (hr:Bd 16777216 (X5 a b)) (ih:∃ g,Et k b (X5 a b)=some g∧Gc g b (X5 a b)):∃ g,Et (k+1) a b=some g∧Gc g a b:=by
  obtain ⟨h1,h2,h3,u,v,up,vp,X,hX⟩:=I0 ta tb hb hl
  obtain ⟨g,e,hg⟩:=ih
  refine ⟨g,?_,?_⟩
  · simp only [Et]
    rw [if_neg hb,Fl (by omega) hr]; exact e
  · obtain ⟨U,V,hc⟩:=hg.c
    obtain ⟨y,hy⟩:=hg.da
    obtain ⟨z,hz⟩:=hg.db
    have hu:1 / u*u=1:=Zx up
    have hv:1 / v*v=1:=Zx vp
    refine ⟨hg.t,⟨W8 (1 / u) (Jw (Zq X y) (W8 v z)),fun t=>?_⟩,hg.da,⟨W8 (u / v) V,Jw U (W8 (-1 / v) (Zq V X)),fun t=>?_⟩,hg.n⟩
    · have a1:=hX t; have a2:=hy t; have a3:=hz t
      rw [Qg,Qg] at a2 a3
      rw [Qg,Qg,Zc,Zm,Qk,Zc]
      have:Qh a t=1 / u*(u*Qh a t):=by grind
      rw [this,a1,a2,a3]; grind
    · have a1:=hX t; have a2:=hc t
      rw [Zc,Zm,Zc,Qk,a2]
      have:Qh (X5 a b) t=1 / v*(v*Qh (X5 a b) t):=by grind
      rw [this,show v*Qh (X5 a b) t=u*Qh a t-ev X t*Qh b t by grind,Rat.div_def,Rat.div_def,Rat.div_def]
      grind
theorem Qrl {k:Nat} {a:List Int} (ta:Qi a) (ha:a.length≠0):∃ g,Et (k+1) a []=some g∧Gc g a [] :=
  ⟨a,rfl,ta,dvd_refl _,⟨[],fun t=>by simp only [cz,List.map_nil,ev]; grind⟩,⟨[1],[],fun t=>by rw [X7]; simp only [ev]; grind⟩,ha⟩
theorem Eu {s:Nat}:∀ (k:Nat) (a b:List Int),Qi a→Qi b→b.length<k→b.length<a.length→a.length≤60→Bd s a→Bd s b→(s+8)*3^(a.length-1)≤16777216→∃ g,Et k a b=some g∧Gc g a b
  | 0,_,_,_,_,h,_,_,_,_,_=>by omega
  |
   k+1,a,b,ta,tb,hk,hab,hl,ba,bb,hs=>by
   by_cases hb:b.length=0
   · rw [List.eq_nil_of_length_eq_zero hb]; exact Qrl ta (by omega)
   · obtain ⟨h1,h2,h3,_⟩:=I0 ta tb hb hl
     have h3:=h3 s ba bb
     obtain ⟨m,hm⟩:∃ m,m=a.length-b.length:=⟨_,rfl⟩
     have e1:a.length+1-b.length=m+1:=by omega
     rw [e1] at h3
     have e2:s+(m+1)*(s+8)+8=(m+2)*(s+8):=by
       rw [show m+2=(m+1)+1 by omega,Nat.succ_mul (m+1)]; omega
     have e3:(m+2)*(s+8)*3^(b.length-1)≤(s+8)*3^(a.length-1):=by
       rw [show a.length-1=m+(b.length-1) by omega,Nat.pow_add,←Nat.mul_assoc,Nat.mul_comm (s+8)]
       exact Nat.mul_le_mul_right _ (Nat.mul_le_mul_right _ (Q8s m (by omega)))
     have e4:s+(m+1)*(s+8)≤16777216:=by
       have:(m+2)*(s+8)≤(m+2)*(s+8)*3^(b.length-1):=Nat.le_mul_of_pos_right _ (Nat.pow_pos (by decide))
       omega
     refine Qkm ta tb hb hl (by omega) (Qc h3 e4) (Eu (s:=s+(m+1)*(s+8)) k b (X5 a b) tb h1 (by omega) h2 (by omega) (Qc bb (by omega)) h3 ?_)
     rw [e2]; omega
def Szz (n s:Nat):Prop:=n≤10∧2*(s+8)*3^(n-1)≤16777216
theorem Q0s {n s:Nat} (hz:Szz n s) {a b:List Int} (ta:Qi a) (tb:Qi b) (la:a.length≤n) (lb:b.length≤n) (ba:Bd s a) (bb:Bd s b) (h0:a.length≠0∨b.length≠0):∃ g,Et 66 a b=some g∧Gc g a b:=by
  obtain ⟨hn,hz⟩:=hz
  have hp:∀ l,l≤n→(s+8)*3^(l-1)≤8388608:=fun l hl=>by
    have:(s+8)*3^(l-1)≤(s+8)*3^(n-1):=Nat.mul_le_mul_left _ (Nat.pow_le_pow_right (by decide) (by omega))
    rw [Nat.mul_assoc] at hz; omega
  rcases Nat.lt_or_ge b.length a.length with h | h
  · exact Eu 66 a b ta tb (by omega) h (by omega) ba bb (by have:=hp a.length la; omega)
  · by_cases hb:b.length=0
    · rw [List.eq_nil_of_length_eq_zero hb]; exact Qrl ta (by omega)
    · obtain ⟨h1,h2,h3,_⟩:=I0 ta tb hb (by omega)
      have h3:=h3 s ba bb
      have h4:(a.length+1-b.length)*(s+8)≤1*(s+8):=Nat.mul_le_mul_right _ (by omega)
      have h5:=hp b.length lb
      have h6:(s+8)*1≤(s+8)*3^(b.length-1):=Nat.mul_le_mul_left _ (Nat.pow_pos (by decide))
      refine Qkm ta tb hb (by omega) (by omega) (Qc h3 (by omega)) (Eu (s:=2*s+8) 65 b (X5 a b) tb h1 (by omega) h2 (by omega) (Qc bb (by omega)) (Qc h3 (by omega)) ?_)
      rw [show 2*s+8+8=2*(s+8) by omega,Nat.mul_assoc]; omega
theorem Qd3:Qo []=[]:=rfl
theorem Db {a:List Int} (ta:Qi a):Qi (Qo a)∧(Qo a).length=a.length∧(∀ s,Bd s a→Bd s (Qo a))∧∃ c:Rat,c≠0∧∀ t,Qh a t=c*Qh (Qo a) t:=by
  by_cases h:a.length=0
  · rw [List.eq_nil_of_length_eq_zero h]
    exact ⟨rfl,rfl,fun s _=>Sp,1,by decide,fun t=>by rw [Qd3]; grind⟩
  · obtain ⟨h1,h2,h3,h4,h5,h6,h7⟩:=Ky ta h
    exact ⟨h1,h2,h5,_,Pd h6,h7⟩
theorem Bp {n s:Nat} (hz:Szz n s) {a b:List Int} (ta:Qi a) (tb:Qi b) (la:a.length≤n) (lb:b.length≤n) (ba:Bd s a) (bb:Bd s b) (h0:a.length≠0∨b.length≠0):∃ g,Pz a b=some g∧Gc g a b∧Prm g∧0<Qt g:=by
  obtain ⟨a1,a2,a3,x,xn,ax⟩:=Db ta
  obtain ⟨b1,b2,b3,y,yn,bx⟩:=Db tb
  obtain ⟨g,e,hg⟩:=Q0s hz a1 b1 (by omega) (by omega) (a3 s ba) (b3 s bb) (by omega)
  obtain ⟨g1,g2,g3,g4,g5,g6,g7⟩:=Ky hg.t hg.n
  refine ⟨Qo g,?_,hg.scale (Pd g6) xn yn g1 g7 ax bx,g3,g4⟩
  unfold Pz; rw [e]; rfl
theorem Qty {a:List Int} (ta:Qi a):Pz [] a=some (Qo (Qo a)):=by
  unfold Pz
  rw [Qd3]
  by_cases h:(Qo a).length=0
  · have e:Qo a=[]:=List.eq_nil_of_length_eq_zero h
    rw [e]; rfl
  · have e:X5 [] (Qo a)=[]:=by
      have e1:Yw [] (Qo a)=[]:=by unfold Yw; rw [show ([]:List Int).length+1-(Qo a).length=0 by simp; omega]; rfl
      unfold X5
      rw [e1]
      unfold Kf
      split <;> rfl
    have:Et 66 [] (Qo a)=some (Qo a):=by
      show (if (Qo a).length=0 then _ else _)=_
      rw [if_neg h,e]; rfl
    rw [this]; rfl
theorem Qxg {n s:Nat} (hz:Szz n s) {a b:List Int} (ta:Qi a) (tb:Qi b) (la:a.length≤n) (lb:b.length≤n) (ba:Bd s a) (bb:Bd s b) (h0:a.length≠0):∃ g,Qf9 a b=some g∧Gc g a b∧Prm g∧0<Qt g:=by
  obtain ⟨a1,a2,a3,x,xn,ax⟩:=Db ta
  obtain ⟨b1,b2,b3,y,yn,bx⟩:=Db a1
  obtain ⟨g,e,hg,h1,h2⟩:=Bp hz b1 tb (by omega) lb (b3 s (a3 s ba)) bb (by omega)
  refine ⟨g,?_,hg.scale (x:=1) (y:=x*y) (z:=1) (by decide) (fun h=>(Rat.mul_eq_zero.1 h).elim xn yn) (by decide) hg.t (fun t=>by grind) (fun t=>by rw [ax,bx]; grind) (fun t=>by grind),h1,h2⟩
  unfold Qf9
  rw [Qty ta]; exact e
theorem Qrj:∀ {p q:List Rat} {m n:Nat},HD p m→HD q n→(Zq p q).getD (m+n) 0=p.getD m 0*q.getD n 0
  | [],q,m,n,h,_=>absurd (by simp) h.1
  |
   a::p,q,0,n,h,h'=>by
   have h1:∀ k,p.getD k 0=0:=fun k=>by have:=h.2 (k+1) (by omega); rwa [List.getD_cons_succ] at this
   simp only [Zq]
   rw [Xv,Ju,List.getD_cons_zero,Nat.zero_add]
   cases n with
   | zero=>rw [List.getD_cons_zero]; grind
   | succ n=>rw [List.getD_cons_succ,Ab h1]; grind
  |
   a::p,q,m+1,n,h,h'=>by
   have ih:=Qrj (p:=p) (q:=q) (m:=m) ⟨by have:=h.1; rwa [List.getD_cons_succ] at this,fun k hk=>by have:=h.2 (k+1) (by omega); rwa [List.getD_cons_succ] at this⟩ h'
   simp only [Zq]
   rw [Xv,Ju,show m+1+n=(m+n)+1 by omega,List.getD_cons_succ,h'.2 _ (by omega),ih,List.getD_cons_succ]; grind
theorem Qi2 {a b c:List Int} (ta:Qi a) (tb:Qi b) (tc:Qi c) (h:∀ t,Qh c t=Qh a t*Qh b t) (la:0<a.length) (lb:0<b.length):Qt c=Qt a*Qt b:=by
  have h1:=Aa ta la
  have h2:=Aa tb lb
  have h3:=Qrj h1 h2
  have hl:=Vd ta tb tc h la lb
  rw [←W4 (p:=cz c) (fun t=>by rw [Qk,Qg,Qg,Qg,h]),Vb,Vb,Vb,show a.length-1+(b.length-1)=c.length-1 by omega] at h3
  unfold Qt; exact_mod_cast h3
theorem X8 {a b c:List Int} (tc:Qi c) (hc:c.length≠0) (h:∀ t,Qh c t=Qh a t*Qh b t):0<a.length∧0<b.length:=by
  constructor
  · rcases Nat.eq_zero_or_pos a.length with e | e
    · exact absurd (fun t=>by rw [h,W6 e]; grind) (E5 tc (by omega))
    · exact e
  · rcases Nat.eq_zero_or_pos b.length with e | e
    · exact absurd (fun t=>by rw [h,W6 e]; grind) (E5 tc (by omega))
    · exact e
theorem Qf8 {b:List Int} (tb:Qi b) (hb:b.length≠0):∀ (i:Nat) (a q h:List Int),Qi a→Qi h→(∀ t,Qh a t=Qh b t*Qh h t)→a.length<b.length+i→i≤q.length→(∀ j,j<i→q.getD j 0=0)→∃ q',Qf7 b i a q=some q'∧q'.length=q.length∧∀ t,Qh q' t=Qh q t+Qh h t
  |
   0,a,q,h,ta,th,e,hl,_,_=>by
   have ha:a.length=0:=by
     rcases Nat.eq_zero_or_pos a.length with e' | e'
     · exact e'
     · obtain ⟨p1,p2⟩:=X8 ta (by omega) e
       have:=Vd tb th ta e p1 p2; omega
   refine ⟨q,by simp only [Qf7]; rw [if_pos ha],rfl,fun t=>?_⟩
   have:∀ t,Qh h t=0:=fun t=>by
     have:=Qls (p:=cz b) (q:=cz h) (r:=[]) (fun h0=>E5 tb (by omega) fun t=>by rw [←Qg]; exact h0 t) (fun t=>by rw [Qg,Qg,←e,W6 ha]; simp only [ev]; grind) t
     rwa [Qg] at this
   rw [this]; grind
  |
   i+1,a,q,h,ta,th,e,hl,hq,h0=>by
   simp only [Qf7]
   by_cases hlt:a.length<b.length+i
   · rw [if_pos hlt]
     exact Qf8 tb hb i a q h ta th e hlt (by omega) fun j hj=>h0 j (by omega)
   · rw [if_neg hlt]
     obtain ⟨p1,p2⟩:=X8 ta (by omega) e
     have hln:=Vd tb th ta e p1 p2
     have hld:=Qi2 tb th ta e p1 p2
     have hlb:=U3 tb hb
     rw [hld,if_pos (Int.mul_emod_right _ _),Int.mul_ediv_cancel_left _ hlb]
     have hli:h.length=i+1:=by omega
     have e2:∀ t,Qh (Vn a (Zi (trim (mono i (Qt h))) b)) t=Qh b t*Qh (Vn h (mono i (Qt h))) t:=fun t=>by
       rw [Gb,Gb,Za,H9,e]; grind
     have hl2:(Vn a (Zi (trim (mono i (Qt h))) b)).length<b.length+i:=by
       have hl:=Qpz (i:=i) (x:=Qt h) (b:=b) (a:=a)
       unfold sta at hl
       have:=Qxz (p:=Vn a (Zi (trim (mono i (Qt h))) b)) (n:=b.length+i-1) (Q9 _ _) (by omega) (by
         rw [Ri,Qp5,if_pos (by omega),show b.length+i-1-i=b.length-1 by omega,show b.length+i-1=a.length-1 by omega]
         have:Qt a=a.getD (a.length-1) 0:=rfl
         rw [←this,hld]
         unfold Qt
         rw [Int.mul_comm,Int.sub_eq_zero])
       omega
     obtain ⟨q',h1,h2,h3⟩:=Qf8 tb hb i _ (q.set i (Qt h)) (Vn h (mono i (Qt h))) (Q9 _ _) (Q9 _ _) e2 hl2 (by simp; omega) fun j hj=>by
       rw [List.getD_eq_getElem?_getD,List.getElem?_set,if_neg (by omega),←List.getD_eq_getElem?_getD]
       exact h0 j (by omega)
     refine ⟨q',h1,by rw [h2,List.length_set],fun t=>?_⟩
     rw [h3,Qf6 q i _ t (by omega),h0 i (by omega),Gb,Pv]
     push_cast; grind
theorem Qzg {a b h:List Int} {s:Nat} (ta:Qi a) (tb:Qi b) (th:Qi h) (ha:a.length≠0) (la:a.length≤10) (ba:Bd s a) (hs:s+69≤16777216) (e:∀ t,Qh a t=Qh b t*Qh h t):Px a b=some h:=by
  obtain ⟨p1,p2⟩:=X8 ta ha e
  have hln:=Vd tb th ta e p1 p2
  obtain ⟨q,h1,h2,h3⟩:=Qf8 tb (by omega) (a.length+1-b.length) a (List.replicate (a.length+1-b.length) 0) h ta th e (by omega) (by simp) fun j _=>J1 _ _
  have h4:trim q=h:=Qqm (Xw _) th fun t=>by rw [H9,h3,Qdz]; grind
  unfold Px
  rw [if_neg (by omega),h1]
  show chk (trim q)=_
  rw [h4]
  exact Fl (by omega) (Qc (S6 ba la ta th tb ha fun t=>by rw [e]; grind) (by omega))
end Orq

namespace Orq
open Orr Go
structure Pr1 (p:List Int):Prop where
  t:Qi p
  m:Prm p
  l:0<Qt p
theorem Pr1.n {p:List Int} (h:Pr1 p):p.length≠0:=fun e=>by
  have:=h.l
  rw [List.eq_nil_of_length_eq_zero e] at this
  exact absurd this (by decide)
theorem Pr1.one {p:List Int} (h:Pr1 p) (hl:p.length<2):p=[1]:=by
  have hn:=h.n
  obtain ⟨c,rfl⟩:∃ c,p=[c]:=List.length_eq_one_iff.1 (by omega)
  have h1:=h.m c fun k=>by cases k <;> simp
  have h2:0<c:=h.l
  have:=Int.le_of_dvd (by decide) h1
  rw [show c=1 by omega]
theorem Q37 {p g h:List Int} (hp:Prm p) (e:∀ t,Qh p t=Qh g t*Qh h t):Prm h:=fun d hd=>by
  refine hp d fun k=>?_
  have:=Ui (p:=p) (q:=Zi g h) (fun t=>by rw [e,Za]) k
  rw [this]
  have e2:∀ t,Qh (Zi g h) t=(d:Rat)*Qh (Zi g (h.map (· / d))) t:=fun t=>by
    have h1:Qh h t=(d:Rat)*Qh (h.map (· / d)) t:=by
      have:=Kw d 0 t (max h.length (h.map (· / d)).length) (h.map (· / d)) [] h (by omega) (by simp) (by omega) fun k=>by
        rw [Cj,Int.mul_ediv_cancel' (hd k)]; simp
      rw [this]; simp only [Qh]; push_cast; grind
    rw [Za,Za,h1]; grind
  have:=Ui (p:=Zi g h) (q:=Qx (Zi g (h.map (· / d))) d) (fun t=>by rw [e2,Yb]; grind) k
  rw [this,Yz]; exact Int.dvd_mul_left _ _
theorem Q36 {p g h:List Int} (hp:Pr1 p) (hg:0<Qt g) (tg:Qi g) (th:Qi h) (e:∀ t,Qh p t=Qh g t*Qh h t):Pr1 h:=by
  obtain ⟨p1,p2⟩:=X8 hp.t hp.n e
  have:=Qi2 tg th hp.t e p1 p2
  refine ⟨th,Q37 hp.m e,?_⟩
  have hl:=hp.l
  rw [this] at hl
  rcases Int.lt_trichotomy (Qt h) 0 with h1 | h1 | h1
  · have:=Int.mul_neg_of_pos_of_neg hg h1; omega
  · rw [h1] at hl; omega
  · exact h1
structure Sqp (p g q:List Int):Prop where
  pp:Pr1 p
  pg:Pr1 g
  pq:Pr1 q
  e:∀ t,Qh p t=Qh g t*Qh q t
  c:∃ U V,∀ t,Qh g t=ev U t*Qh p t+ev V t*dv (cz p) t
  d:∃ z,∀ t,dv (cz p) t=Qh g t*ev z t
theorem Sqp.num {p g q:List Int} (h:Sqp p g q) {d:List Rat} (h1:Sj d (cz q)) (h2:Sj d (V5 (cz q))):∃ c:Rat,c≠0∧∀ t,ev d t=c:=by
  obtain ⟨U,V,hc⟩:=h.c
  have hpow:=sqf (k:=1) (a:=cz p) (g:=cz g) (q:=cz q) (d:=d) (U:=U) (V:=V) (by decide) (fun t=>by rw [Qg,Qg,Qg,h.e]) (fun t=>by rw [Qg,Qg,hc]; grind) h1 h2
  rcases Qat d with h3 | ⟨m,_,h3⟩
  · obtain ⟨u,hu⟩:=h1
    exact absurd (fun t=>by rw [←Qg,hu,h3]; grind) (E5 h.pq.t (by have:=h.pq.n; omega))
  · obtain rfl:=Qd1 h3 (Aa h.pg.t (by have:=h.pg.n; omega)) hpow
    refine ⟨d.getD 0 0,h3.1,fun t=>?_⟩
    cases d with
    | nil=>exact absurd (by simp) h3.1
    |
     cons c l =>
     have:=Ue (p:=l) fun k=>by have:=h3.2 (k+1) (by omega); rwa [List.getD_cons_succ] at this
     simp only [ev,this,List.getD_cons_zero]; grind
theorem Sqp.bez {p g q:List Int} (h:Sqp p g q):∃ X Y,∀ t,ev X t*ev (cz q) t+ev Y t*dv (cz q) t=1:=by
  obtain ⟨d,U,V,h1,h2,h3⟩:=Qxf (cz q) (V5 (cz q))
  obtain ⟨c,hc,hd⟩:=h.num h1 h2
  refine ⟨W8 (1 / c) U,W8 (1 / c) V,fun t=>?_⟩
  have h5:=h3 t
  rw [hd,Jd] at h5
  have h4:1 / c*c=1:=Rat.div_mul_cancel hc
  rw [Zc,Zc]
  have:1 / c*ev U t*ev (cz q) t+1 / c*ev V t*dv (cz q) t=1 / c*(ev U t*ev (cz q) t+ev V t*dv (cz q) t):=by grind
  rw [this,←h5,h4]
theorem Q0l {n s:Nat} (h:Szz n s):s≤8388600:=by
  have:2*(s+8)*1≤2*(s+8)*3^(n-1):=Nat.mul_le_mul_left _ (Nat.pow_pos (by decide))
  have:=h.2; omega
theorem Qk2 {s:Nat} {p:List Int} (h:Bd s p) (hl:p.length≤10):Bd (s+4) (Zo p):=A5 h (t:=4) (by omega)
theorem Qre {n s:Nat} (hz:Szz n (s+73)) {p:List Int} (pp:Pr1 p) (l2:2≤p.length) (lp:p.length≤n) (bp:Bd (s+69) p) {p0 h0:List Int} (b0:Bd s p0) (l0:p0.length≤10) (t0:Qi p0) (th0:Qi h0) (z0:p0.length≠0) (e0:∀ t,Qh p0 t=Qh h0 t*Qh p t) :
    ∃ g q,chk (Zo p)=some (Zo p)∧Pz p (Zo p)=some g∧Px p g=some q∧Sqp p g q∧g.length<p.length:=by
  have hn:=hz.1
  have hs:=Q0l hz
  have bd:=Qk2 bp (by omega)
  have ld:=Yx p
  have td:Qi (Zo p):=Q9 _ _
  obtain ⟨g,e1,hg,m,l⟩:=Bp hz pp.t td lp (by omega) (Qc bp (by omega)) bd (.inl pp.n)
  obtain ⟨q,tq,eq⟩:=Qw9 m hg.da
  have hdnz:(Zo p).length≠0:=fun h=>by
    have h1:=Ke p (p.length-2)
    rw [List.eq_nil_of_length_eq_zero h,show p.length-2+1=p.length-1 by omega] at h1
    have h2:p.getD (p.length-1) 0≠0:=Xj pp.t (by omega)
    rcases Int.mul_eq_zero.1 (h1.symm.trans (by simp)) with h3 | h3
    · exact h2 h3
    · omega
  have pg:Pr1 g:=⟨hg.t,m,l⟩
  have hql:=Qzg (s:=s+69) pp.t hg.t tq pp.n (by omega) bp (by omega) eq
  refine ⟨g,q,Fl (by omega) (Qc bd (by omega)),e1,hql,⟨pp,pg,Q36 pp l hg.t tq eq,eq,?_,?_⟩,?_⟩
  · obtain ⟨U,V,hc⟩:=hg.c
    exact ⟨U,V,fun t=>by rw [hc,H8]⟩
  · obtain ⟨z,hz⟩:=hg.db
    exact ⟨z,fun t=>by rw [←H8,←Qg,hz,Qg]⟩
  · obtain ⟨z,tz,ez⟩:=Qw9 m hg.db
    obtain ⟨q1,q2⟩:=X8 td hdnz ez
    have:=Vd hg.t tz td ez q1 q2
    omega
theorem Q31:Sqp [1] [1] [1]:=by
  have p1:Pr1 [1]:=⟨rfl,fun d hd=>by have:=hd 0; rwa [List.getD_cons_zero] at this,by decide⟩
  have e1:∀ t,Qh [1] t=1:=fun t=>by simp only [Qh]; push_cast; grind
  exact ⟨p1,p1,p1,fun t=>by rw [e1]; grind,⟨[1],[],fun t=>by rw [e1,X7]; simp only [ev]; grind⟩,⟨[],fun t=>by simp only [cz,List.map_cons,List.map_nil,dv,ev]; grind⟩⟩
structure Okp (n s:Nat) (p:List Int):Prop where
  z:Szz n (s+73)
  t:Qi p
  nz:p.length≠0
  l:p.length≤n
  b:Bd s p
theorem Okp.pr {n s:Nat} {p:List Int} (h:Okp n s p):Pr1 (Qo p)∧(Qo p).length=p.length∧Bd s (Qo p):=by
  obtain ⟨h1,h2,h3,h4,h5,_⟩:=Ky h.t h.nz
  exact ⟨⟨h1,h3,h4⟩,h2,h5 s h.b⟩
theorem Mx {n s:Nat} {p:List Int} (h:Okp n s p):∃ g q,Vf p=some q∧Sqp (Qo p) g q:=by
  obtain ⟨pp,hl,hb⟩:=h.pr
  have hn:=h.z.1
  have:=h.l
  unfold Vf
  by_cases h2:(Qo p).length<2
  · rw [if_pos h2,pp.one h2]; exact ⟨[1],[1],rfl,Q31⟩
  · rw [if_neg h2]
    obtain ⟨g,q,h3,h4,h5,h6,_⟩:=Qre h.z pp (by omega) (by omega) (Qc hb (by omega)) (p0:=Qo p) (h0:=[1]) hb (by omega) pp.t rfl pp.n fun t=>by simp only [Qh]; push_cast; grind
    exact ⟨g,q,by rw [h3]; show (Pz (Qo p) (Zo (Qo p))).bind _=_; rw [h4]; exact h5,h6⟩
inductive LW:List Int→List (List Int)→Prop
  | nil:LW [1] []
  | cons {g h w:List Int} {ws:List (List Int)} (hs:Sqp g h w) (hl:LW h ws):LW g (w::ws)
theorem Q8i {g:List Int} {ws:List (List Int)} (h:LW g ws):∀ t,Qh g t=ev (H7 (ws.map cz)) t:=by
  induction h with
  | nil=>intro t; simp only [List.map_nil,H7,Qh]; rw [X7]; push_cast; grind
  | cons hs hl ih=>intro t; simp only [List.map_cons,H7]; rw [Qk,Qg,hs.e,ih]; grind
theorem Qp4 {g:List Int} {w v:List Int} {ws:List (List Int)} (h:LW g (w::v::ws)):∃ f,Qi f∧∀ t,Qh w t=Qh f t*Qh v t:=by
  cases h with
  |
   @cons _ h _ _ hs hl =>
   cases hl with
   |
    @cons _ h2 _ _ hs2 hl2 =>
    obtain ⟨X,Y,hb⟩:=hs2.bez
    obtain ⟨z,hz⟩:=hs.d
    have hd:=Q40 (a:=cz g) (g:=cz h) (q:=cz w) (z:=z) (r:=cz v) (X:=X) (Y:=Y) (n:=h.length-1) (fun t=>by rw [Qg,Qg,Qg,hs.e]) (fun t=>by rw [hz,Qg]) (Aa hs.pg.t (by have:=hs.pg.n; omega)) hb
      ⟨Zq (cz h2) (cz w),fun t=>by rw [Qk,Qg,Qg,Qg,Qg,hs.e,hs2.e]; grind⟩
    obtain ⟨f,tf,ef⟩:=Qw9 hs2.pq.m hd
    exact ⟨f,tf,fun t=>by rw [ef]; grind⟩
theorem Qi4 {g w:List Int} {ws:List (List Int)} (h:LW g (w::ws)):∀ v∈w::ws,Pr1 v∧Sj (cz v) (cz w):=by
  have key:∀ (ws:List (List Int)) (g w:List Int),LW g (w::ws)→∀ v∈w::ws,Pr1 v∧Sj (cz v) (cz w):=by
    intro ws
    induction ws with
    |
     nil =>
     intro g w h v hv
     rw [List.mem_singleton.1 hv]
     cases h with
     | cons hs hl=>exact ⟨hs.pq,dvd_refl _⟩
    |
     cons u ws ih =>
     intro g w h v hv
     have hn:=Qp4 h
     cases h with
     |
      @cons _ h _ _ hs hl =>
      rcases List.mem_cons.1 hv with rfl | hv
      · exact ⟨hs.pq,dvd_refl _⟩
      · obtain ⟨i1,i2⟩:=ih h u hl v hv
        obtain ⟨f,_,hf⟩:=hn
        exact ⟨i1,dvd_trans i2 ⟨cz f,fun t=>by rw [Qg,Qg,Qg,hf]; grind⟩⟩
  exact key ws g w h
theorem lay_ok {n s:Nat} (hz:Szz n (s+73)) {p0:List Int} (b0:Bd s p0) (l0:p0.length≤10) (t0:Qi p0) (z0:p0.length≠0):∀ (k:Nat) (g h0:List Int),Pr1 g→g.length≤k→g.length≤n→Qi h0→(∀ t,Qh p0 t=Qh h0 t*Qh g t)→∃ ws,L9 k g=some ws∧LW g ws
  | 0,g,_,pg,hk,_,_,_=>absurd pg.n (by omega)
  |
   k+1,g,h0,pg,hk,hn,th0,e0=>by
   simp only [L9]
   by_cases h2:g.length<2
   · rw [if_pos h2,pg.one h2]; exact ⟨[],rfl,.nil⟩
   · rw [if_neg h2]
     have bg:Bd (s+69) g:=S6 b0 l0 t0 pg.t th0 z0 fun t=>by rw [e0]; grind
     obtain ⟨h,w,h3,h4,h5,h6,h7⟩:=Qre hz pg (by omega) hn bg b0 l0 t0 th0 z0 e0
     obtain ⟨ws,i1,i2⟩:=lay_ok hz b0 l0 t0 z0 k h (Zi h0 w) h6.pg (by omega) (by omega) (Z6 _ _) fun t=>by rw [e0,Za,h6.e]; grind
     refine ⟨w::ws,?_,.cons h6 i2⟩
     rw [h3]
     show (Pz g (Zo g)).bind _=_
     rw [h4]
     show (Px g h).bind _=_
     rw [h5]
     show (L9 k h).bind _=_
     rw [i1]; rfl
theorem Qw2 {s:Nat} {p0:List Int} (b0:Bd s p0) (l0:p0.length≤10) (t0:Qi p0) (z0:p0.length≠0) (hs:s+69+69≤16777216):∀ (ws:List (List Int)) (g h0:List Int),LW g ws→Qi h0→(∀ t,Qh p0 t=Qh h0 t*Qh g t)→∃ fs,Qb8 ws=some fs∧Lay (ws.map cz) (fs.map cz)∧∀ f∈fs,Qi f
  | [],g,_,_,_,_=>⟨[],rfl,trivial,fun f hf=>by cases hf⟩
  |
   [w],g,_,hl,_,_=>by
   cases hl with
   | cons hs hl=>exact ⟨[w],rfl,fun t=>rfl,fun f hf=>by rw [List.mem_singleton.1 hf]; exact hs.pq.t⟩
  |
   w::v::ws,g,h0,hl,th0,e0=>by
   obtain ⟨f,tf,ef⟩:=Qp4 hl
   cases hl with
   |
    @cons _ h _ _ hs1 hl =>
    have hpv:=(Qi4 hl v (List.mem_cons_self ..)).1
    obtain ⟨fs,i1,i2,i3⟩:=Qw2 b0 l0 t0 z0 hs (v::ws) h (Zi h0 w) hl (Z6 _ _) fun t=>by rw [e0,Za,hs1.e]; grind
    have ew:∀ t,Qh p0 t=Qh w t*Qh (Zi h0 h) t:=fun t=>by rw [e0,Za,hs1.e]; grind
    have bw:Bd (s+69) w:=S6 b0 l0 t0 hs1.pq.t (Z6 _ _) z0 ew
    obtain ⟨p1,p2⟩:=X8 t0 z0 ew
    have lw:=Vd hs1.pq.t (Z6 _ _) t0 ew p1 p2
    have hq:=Qzg (s:=s+69) hs1.pq.t hpv.t tf hs1.pq.n (by omega) bw hs fun t=>by rw [ef]; grind
    refine ⟨f::fs,?_,⟨fun t=>by rw [Qg,Qg,Qg,ef],i2⟩,fun x hx=>?_⟩
    · show (Px w v).bind _=_
      rw [hq]
      show (Qb8 (v::ws)).bind _=_
      rw [i1]; rfl
    · rcases List.mem_cons.1 hx with rfl | hx
      · exact tf
      · exact i3 x hx
def Vw:List (List Int)→List Int
  | []=>[1]
  | [f]=>f
  | f::_::l=>Zi f (Vw l)
theorem Qjg:∀ (fs:List (List Int)) (t:Rat),ev (Aw (fs.map cz)) t=Qh (Vw fs) t
  | [],t=>by simp only [List.map_nil,Aw,Vw,Qh]; rw [X7]; push_cast; grind
  | [f],t=>by simp only [List.map_cons,List.map_nil,Aw,Vw]; rw [Qg]
  | f::g::l,t=>by simp only [List.map_cons,Aw,Vw]; rw [Qk,Qg,Za,Qjg l]
theorem V0 (t:Rat):Qh [1] t=1:=by simp only [Qh]; push_cast; grind
theorem Qc4:∀ {w:List Int} {ws fs:List (List Int)},Lay ((w::ws).map cz) (fs.map cz)→(∀ f∈fs,Qi f)→(∀ v∈w::ws,Qi v)→∃ E,Qi E∧∀ t,Qh w t=Qh (Vw fs) t*Qh E t
  |
   w,[],[f],h,_,_=>⟨[1],rfl,fun t=>by
   have:=h t
   rw [Qg,Qg] at this
   rw [this,V0]; simp only [Vw]; grind⟩
  |
   w,[v],[f,f2],h,_,hw=>⟨v,hw v (by simp),fun t=>by
   have:=h.1 t
   rw [Qg,Qg,Qg] at this
   rw [this]; simp only [Vw]; rw [Za,V0]; grind⟩
  |
   w,v::x::l,f::f2::fs,h,hf,hw=>by
   obtain ⟨E,hE,e⟩:=Qc4 (w:=x) (ws:=l) (fs:=fs) h.2.2 (fun g hg=>hf g (by simp [hg])) (fun g hg=>hw g (by simp at hg ⊢; exact .inr (.inr hg)))
   refine ⟨Zi f2 E,Z6 _ _,fun t=>?_⟩
   have a1:=h.1 t
   have a2:=h.2.1 t
   rw [Qg,Qg,Qg] at a1 a2
   have e2:Qh (Vw (f::f2::fs)) t=Qh f t*Qh (Vw fs) t:=by simp only [Vw]; rw [Za]
   rw [a1,a2,e,e2,Za]; grind
  | w,[],[],h,_,_=>h.elim
  | w,[],_::_::_,h,_,_=>h.elim
  | w,[v],[],h,_,_=>h.elim
  | w,[v],[f],h,_,_=>h.2.elim
  | w,[v],_::_::_::_,h,_,_=>h.2.elim
  | w,v::x::l,[f],h,_,_=>h.2.elim
  | w,v::x::l,[],h,_,_=>h.elim
theorem Mp {s:Nat} {p0:List Int} (b0:Bd s p0) (l0:p0.length≤10) (t0:Qi p0) (z0:p0.length≠0) (hs:s+69≤16777216):∀ (fs:List (List Int)) (i:Nat) (a E:List Int),i % 2=0→Qi a→Qi E→(∀ f∈fs,Qi f)→(∀ t,Qh p0 t=Qh a t*Qh (Vw fs) t*Qh E t)→∃ o,C5 i a fs=some o∧Qi o∧∀ t,Qh o t=Qh a t*Qh (Vw fs) t
  | [],i,a,E,hi,ta,_,_,_=>⟨a,rfl,ta,fun t=>by simp only [Vw]; rw [V0]; grind⟩
  |
   [f],i,a,E,hi,ta,tE,tf,hE=>by
   have e1:∀ t,Qh p0 t=Qh (Zi a f) t*Qh E t:=fun t=>by rw [hE,Za]; rfl
   have b1:=S6 b0 l0 t0 (Z6 a f) tE z0 e1
   obtain ⟨p1,p2⟩:=X8 t0 z0 e1
   have hl:=Vd (Z6 a f) tE t0 e1 p1 p2
   refine ⟨Zi a f,?_,Z6 _ _,fun t=>by rw [Za]; rfl⟩
   simp only [C5]
   rw [if_pos hi,Fl (by omega) (Qc b1 (by omega))]; rfl
  |
   f::g::fs,i,a,E,hi,ta,tE,tf,hE=>by
   have e0:∀ t,Qh (Vw (f::g::fs)) t=Qh f t*Qh (Vw fs) t:=fun t=>by simp only [Vw]; rw [Za]
   have e1:∀ t,Qh p0 t=Qh (Zi a f) t*Qh (Zi (Vw fs) E) t:=fun t=>by rw [hE,e0,Za,Za]; grind
   have b1:=S6 b0 l0 t0 (Z6 a f) (Z6 _ _) z0 e1
   obtain ⟨p1,p2⟩:=X8 t0 z0 e1
   have hl:=Vd (Z6 a f) (Z6 _ _) t0 e1 p1 p2
   obtain ⟨o,o1,o2,o3⟩:=Mp b0 l0 t0 z0 hs fs (i+2) (Zi a f) E (by omega) (Z6 _ _) tE (fun x hx=>tf x (by simp [hx])) fun t=>by rw [hE,e0,Za]; grind
   refine ⟨o,?_,o2,fun t=>by rw [o3,e0,Za]; grind⟩
   have h1:C5 (i+1) (Zi a f) (g::fs)=C5 (i+2) (Zi a f) fs:=by
     show (if (i+1) % 2=0 then _ else _)=_
     rw [if_neg (by omega)]
   show (if i % 2=0 then (chk (Zi a f)).bind fun q=>C5 (i+1) q (g::fs) else _)=_
   rw [if_pos hi,Fl (by omega) (Qc b1 (by omega))]
   exact h1.trans o1
structure Parts (p q o:List Int):Prop where
  sq:∃ g,Sqp (Qo p) g q
  ws:∃ ws:List (List Int),(∀ w∈ws,Pr1 w∧Sj (cz w) (cz q))∧∀ t,Qh (Qo p) t=ev (H7 (ws.map cz)) t
  oq:Sj (cz o) (cz q)
  ot:Qi o
  oh:∃ h,Qi h∧∀ t,Qh (Qo p) t=Qh o t*Qh h t
  os:∃ S,∀ t,Qh (Qo p) t=Qh o t*(ev S t*ev S t)
theorem Qyi {n s:Nat} {p:List Int} (h:Okp n s p):∃ q o,Vf p=some q∧Qmt p=some o∧Parts p q o:=by
  obtain ⟨pp,hl,hb⟩:=h.pr
  have hn:=h.z.1
  have hpl:=h.l
  have hs:=Q0l h.z
  obtain ⟨g,q,hq,sq⟩:=Mx h
  obtain ⟨ws,w1,w2⟩:=lay_ok h.z hb (by omega) pp.t pp.n 66 (Qo p) [1] pp (by omega) (by omega) rfl fun t=>by rw [V0]; grind
  obtain ⟨fs,f1,f2,f3⟩:=Qw2 hb (by omega) pp.t pp.n (by omega) ws (Qo p) [1] w2 rfl fun t=>by rw [V0]; grind
  have hw:=Q8i w2
  -- the first layer is q
  have hfirst:(∀ w∈ws,Pr1 w∧Sj (cz w) (cz q))∧∃ E,Qi E∧∀ t,Qh q t=Qh (Vw fs) t*Qh E t:=by
    cases ws with
    |
     nil =>
     have e:fs=[]:=by
       cases fs with
       | nil=>rfl
       | cons f l=>exact f2.elim
     subst e
     exact ⟨(fun w hw=>by cases hw),q,sq.pq.t,fun t=>by simp only [Vw]; rw [V0]; grind⟩
    |
     cons w ws =>
     have hwq:w=q:=by
       have w3:(if (Qo p).length<2 then some [] else (chk (Zo (Qo p))).bind fun d=>(Pz (Qo p) d).bind fun h=>(Px (Qo p) h).bind fun w=>(L9 65 h).bind fun l=>some (w::l))=some (w::ws):=w1
       have hlen:¬(Qo p).length<2:=fun h2=>by
         rw [if_pos h2] at w3
         injection w3 with w3
         cases w3
       rw [if_neg hlen] at w3
       unfold Vf at hq
       rw [if_neg hlen] at hq
       obtain ⟨d,d1,w3⟩:=Option.bind_eq_some_iff.1 w3
       obtain ⟨h,d2,w3⟩:=Option.bind_eq_some_iff.1 w3
       obtain ⟨w',d3,w3⟩:=Option.bind_eq_some_iff.1 w3
       obtain ⟨l,d4,w3⟩:=Option.bind_eq_some_iff.1 w3
       rw [d1] at hq
       have hq:(Pz (Qo p) d).bind (fun g=>Px (Qo p) g)=some q:=hq
       rw [d2] at hq
       have hq:Px (Qo p) h=some q:=hq
       rw [d3] at hq
       injection hq with hq
       injection w3 with w3
       injection w3 with w3 _
       rw [←w3,hq]
     subst hwq
     have hall:=Qi4 w2
     exact ⟨hall,Qc4 f2 f3 fun v hv=>(hall v hv).1.t⟩
  obtain ⟨ha,E,tE,hE⟩:=hfirst
  obtain ⟨o,o1,o2,o3⟩:=Mp hb (by omega) pp.t pp.n (by omega) fs 0 [1] (Zi E g) rfl rfl (Z6 _ _) f3 fun t=>by rw [V0,Za,sq.e,hE]; grind
  have o3:∀ t,Qh o t=Qh (Vw fs) t:=fun t=>by rw [o3,V0]; grind
  refine ⟨q,o,hq,?_,⟨g,sq⟩,⟨ws,ha,hw⟩,⟨cz E,fun t=>by rw [Qg,Qg,Qg,hE,o3]⟩,o2,⟨Zi E g,Z6 _ _,fun t=>by rw [sq.e,hE,o3,Za]; grind⟩,?_⟩
  · unfold Qmt
    rw [if_neg pp.n,w1]
    show (Qb8 ws).bind _=_
    rw [f1]; exact o1
  · obtain ⟨S,hS⟩:=Qpw f2
    exact ⟨S,fun t=>by rw [hw,hS,Qjg,o3]⟩
theorem Qox {s:Nat}:∀ (k:Nat) (a b:List Int),Qi a→Qi b→b.length≠0→b.length<k→b.length<a.length→a.length≤60→Bd s a→Bd s b→(s+8)*3^(a.length-1)≤16777216→(∀ d,Sj d (cz a)→Sj d (cz b)→∃ c:Rat,c≠0∧∀ t,ev d t=c)→∃ l,chF k a b=some (b::l)∧SCl (cz a) (cz b) (l.map cz)
  | 0,_,_,_,_,_,h,_,_,_,_,_,_=>by omega
  |
   k+1,a,b,ta,tb,hb,hk,hab,hl,ba,bb,hs,hd=>by
   obtain ⟨h1,h2,h3,u,v,up,vp,X,hX⟩:=I0 ta tb hb hl
   have h3:=h3 s ba bb
   obtain ⟨m,hm⟩:∃ m,m=a.length-b.length:=⟨_,rfl⟩
   have e1:a.length+1-b.length=m+1:=by omega
   rw [e1] at h3
   have e2:s+(m+1)*(s+8)+8=(m+2)*(s+8):=by
     rw [show m+2=(m+1)+1 by omega,Nat.succ_mul (m+1)]; omega
   have e3:(m+2)*(s+8)*3^(b.length-1)≤(s+8)*3^(a.length-1):=by
     rw [show a.length-1=m+(b.length-1) by omega,Nat.pow_add,←Nat.mul_assoc,Nat.mul_comm (s+8)]
     exact Nat.mul_le_mul_right _ (Nat.mul_le_mul_right _ (Q8s m (by omega)))
   have e4:s+(m+1)*(s+8)≤16777216:=by
     have:(m+2)*(s+8)≤(m+2)*(s+8)*3^(b.length-1):=Nat.le_mul_of_pos_right _ (Nat.pow_pos (by decide))
     omega
   simp only [chF]
   rw [if_neg hb,Fl (by omega) (Qc h3 e4)]
   show ∃ l,((chF k b (Ve (X5 a b))).bind fun l=>some (b::l))=some (b::l)∧_
   have lneg:(Ve (X5 a b)).length≤(X5 a b).length:=Ph _
   by_cases hr:(X5 a b).length=0
   · have e:Ve (X5 a b)=[]:=List.eq_nil_of_length_eq_zero (by omega)
     rw [e]
     refine ⟨[],?_,?_⟩
     · obtain ⟨j,rfl⟩:∃ j,k=j+1:=⟨k-1,by omega⟩
       rfl
     · obtain ⟨c,hc,hcc⟩:=hd (cz b) ⟨W8 (1 / u) X,fun t=>by
         have:=hX t
         rw [W6 hr] at this
         have hu:1 / u*u=1:=Zx up
         rw [Qg,Qg,Zc]
         have:Qh a t=1 / u*(u*Qh a t):=by grind
         rw [this,hX,W6 hr]; grind⟩ (dvd_refl _)
       exact .base hc hcc
   · have tn:Qi (Ve (X5 a b)):=Q9 _ _
     have hn0:(Ve (X5 a b)).length≠0:=fun h0=>by
       have:=Tp (c:=-1) h1 tn (by decide) fun t=>by rw [C6]; grind
       omega
     obtain ⟨l,i1,i2⟩:=Qox (s:=s+(m+1)*(s+8)) k b (Ve (X5 a b)) tb tn hn0 (by omega) (by omega) (by omega) (Qc bb (by omega)) (A6 h3) (by rw [e2]; omega) fun d d1 d2=>by
       refine hd d ?_ d1
       obtain ⟨y,hy⟩:=d1
       obtain ⟨z,hz⟩:=d2
       have hu:1 / u*u=1:=Zx up
       refine ⟨W8 (1 / u) (Jw (Zq X y) (W8 (-v) z)),fun t=>?_⟩
       have a1:=hX t; have a2:=hy t; have a3:=hz t
       rw [Qg] at a2 a3
       rw [C6] at a3
       rw [Qg,Zc,Zm,Qk,Zc]
       have:Qh a t=1 / u*(u*Qh a t):=by grind
       rw [this,a1,a2,show Qh (X5 a b) t=-(ev d t*ev z t) by grind]; grind
     refine ⟨Ve (X5 a b)::l,by rw [i1]; rfl,?_⟩
     rw [List.map_cons]
     exact .step (q:=X) up vp (fun t=>by rw [Qg,Qg,Qg,hX,C6]; clear i2 i1 hd h3 hs; grind) i2
theorem Bn (x:Rat):∀ (l:List (List Int)) (n:Nat) (s:Int),(l.foldl (Yh fun p=>Z4 p x) (n,s)).1=n+tc x s (l.map cz)
  | [],n,s=>rfl
  |
   p::l,n,s=>by
   simp only [List.foldl_cons,List.map_cons,tc,Yh]
   rw [Kz,Qg]
   split
   · exact Bn x l n s
   · rw [Bn x l]
     split <;> omega
theorem Tv (l:List (List Int)) (x:Rat):Wa l x=vv (l.map cz) x:=by
  have:=Bn x l 0 0
  unfold Wa Ki vv
  rw [this]; omega
theorem Qwb {n s:Nat} (hz:Szz n (s+73)) {P g q:List Int} (sq:Sqp P g q) (lq:q.length≤n) (bq:Bd (s+69) q):∃ d,chk (Zo q)=some d∧∃ l,chF 66 q (Qo d)=some l∧As (cz q) ((q::l).map cz)∧(q.length<2→l=[]):=by
  have hn:=hz.1
  have hs:=Q0l hz
  have bd:=Qk2 bq (by omega)
  have ld:=Yx q
  refine ⟨Zo q,Fl (by omega) (Qc bd (by omega)),?_⟩
  have hq0:=sq.pq.n
  by_cases h2:q.length<2
  · have e:Qo (Zo q)=[]:=by rw [List.eq_nil_of_length_eq_zero (l:=Zo q) (by omega)]; rfl
    rw [e]
    refine ⟨[],rfl,.inl ⟨1,by decide,fun t=>?_,rfl⟩,fun _=>rfl⟩
    rw [Qg,sq.pq.one h2,V0]
  · have hdnz:(Zo q).length≠0:=fun h=>by
      have h1:=Ke q (q.length-2)
      rw [List.eq_nil_of_length_eq_zero h,show q.length-2+1=q.length-1 by omega] at h1
      have h3:q.getD (q.length-1) 0≠0:=Xj sq.pq.t (by omega)
      rcases Int.mul_eq_zero.1 (h1.symm.trans (by simp)) with h4 | h4
      · exact h3 h4
      · omega
    obtain ⟨p1,p2,p3,p4,p5,p6,p7⟩:=Ky (p:=Zo q) (Q9 _ _) hdnz
    have hdl:Qt (Zo q)=Qt q*((q.length-1:Nat):Int):=by
      have hld:(Zo q).length=q.length-1:=by
        rcases Nat.lt_or_ge (Zo q).length (q.length-1) with h | h
        · have h1:=Ke q (q.length-2)
          rw [List.getD_eq_getElem?_getD,List.getElem?_eq_none (by omega),show q.length-2+1=q.length-1 by omega] at h1
          have h3:q.getD (q.length-1) 0≠0:=Xj sq.pq.t (by omega)
          rcases Int.mul_eq_zero.1 (h1.symm.trans (by simp)) with h4 | h4
          · exact absurd h4 h3
          · omega
        · omega
      unfold Qt
      rw [hld,Ke,show q.length-1-1+1=q.length-1 by omega]
    have hfac:0<Z9 (Zo q):=by
      have hlp:0<Qt (Zo q):=by rw [hdl]; exact Int.mul_pos sq.pq.l (by omega)
      have hc:=Pu (p:=Zo q) (Q9 _ _) hdnz
      unfold Z9
      rw [if_neg (by omega)]
      unfold J8 at hc ⊢; omega
    have hfq:((0:Int):Rat)<(Z9 (Zo q):Rat):=Rat.intCast_lt_intCast.2 hfac
    have hfq:(0:Rat)<(Z9 (Zo q):Rat):=by simpa using hfq
    have hff:1 / (Z9 (Zo q):Rat)*(Z9 (Zo q):Rat)=1:=Zx hfq
    have hz2:=hz.2
    have hp3:(s+73+8)*3^(q.length-1)≤16777216:=by
      have:(s+73+8)*3^(q.length-1)≤(s+73+8)*3^(n-1):=Nat.mul_le_mul_left _ (Nat.pow_le_pow_right (by decide) (by omega))
      rw [Nat.mul_assoc] at hz2; omega
    obtain ⟨l,h3,h4⟩:=Qox (s:=s+73) 66 q (Qo (Zo q)) sq.pq.t p1 (by omega) (by omega) (by omega) (by omega) (Qc bq (by omega)) (p5 _ bd) hp3 fun d d1 d2=>sq.num d1 (by
      obtain ⟨z,hz⟩:=d2
      exact ⟨W8 (Z9 (Zo q)) z,fun t=>by
        have:=hz t
        rw [Qg] at this
        rw [Jd,←H8,p7,this,Zc]; grind⟩)
    refine ⟨Qo (Zo q)::l,h3,.inr ⟨cz (Qo (Zo q)),l.map cz,1 / (Z9 (Zo q):Rat),Fq (by decide) hfq,fun t=>?_,h4,rfl⟩,fun h=>absurd h h2⟩
    rw [Qg,←H8,p7 t]; grind
theorem chain_ok {n s:Nat} {p:List Int} (h:Okp n s p):∃ q l,Vf p=some q∧Hr p=some (q::l)∧As (cz q) ((q::l).map cz)∧(q.length<2→l=[]):=by
  obtain ⟨pp,hl,hb⟩:=h.pr
  have hn:=h.z.1
  have hpl:=h.l
  obtain ⟨g,q,hq,sq⟩:=Mx h
  have e1:∀ t,Qh (Qo p) t=Qh q t*Qh g t:=fun t=>by rw [sq.e]; grind
  obtain ⟨p1,p2⟩:=X8 pp.t pp.n e1
  have hll:=Vd sq.pq.t sq.pg.t pp.t e1 p1 p2
  obtain ⟨d,d1,l,d2,d3⟩:=Qwb h.z sq (by omega) (S6 hb (by omega) pp.t sq.pq.t sq.pg.t pp.n e1)
  refine ⟨q,l,hq,?_,d3⟩
  unfold Hr
  rw [hq]
  show (if q.length=0 then none else _)=_
  rw [if_neg sq.pq.n,d1]
  show (chF 66 q (Qo d)).bind _=_
  rw [d2]; rfl
end Orq

namespace Orq
open Orr Go
structure Gr (D M k:Nat) (q:Rat):Prop where
  u:∃ u:Int,q*((D*2^k:Nat):Rat)=(u:Rat)
  b:Qm q≤(M:Rat)
  d:0<D
theorem nat_pos {n:Nat} (h:0<n):(0:Rat)<(n:Rat):=by
  have:((0:Nat):Rat)<(n:Rat):=Rat.natCast_lt_natCast.2 h
  simpa using this
theorem Qdh {D M k:Nat} {q:Rat} (h:Gr D M k q):Gr D M (k+1) q:=by
  obtain ⟨u,hu⟩:=h.u
  refine ⟨⟨u*2,?_⟩,h.b,h.d⟩
  rw [Nat.pow_succ,←Nat.mul_assoc]
  push_cast at hu ⊢
  rw [←hu]; grind
theorem Qxm {D M k:Nat} {a b:Rat} (ha:Gr D M k a) (hb:Gr D M k b):Gr D M (k+1) ((a+b) / 2):=by
  obtain ⟨u,hu⟩:=ha.u
  obtain ⟨v,hv⟩:=hb.u
  have h2:(a+b) / 2*2=a+b:=Zx (by decide)
  refine ⟨⟨u+v,?_⟩,?_,ha.d⟩
  · rw [Nat.pow_succ,←Nat.mul_assoc]
    push_cast at hu hv ⊢
    rw [←hu,←hv]
    generalize (a+b) / 2=c at *
    generalize (D:Rat)*2^k=z at *
    have:c*(z*2)=(c*2)*z:=by grind
    rw [this,h2]; grind
  · have h3:=ha.b
    have h4:=hb.b
    rw [Y3] at *
    constructor <;> grind
theorem Q77 {D M k:Nat} {q:Rat} (h:Gr D M k q):q.den≤D*2^k:=by
  obtain ⟨u,hu⟩:=h.u
  have hp:0<D*2^k:=Nat.mul_pos h.d (Nat.pow_pos (by decide))
  have e:q=Rat.divInt u ((D*2^k:Nat):Int):=by
    rw [←Xo,←hu]
    have hz:=nat_pos hp
    rw [show ((((D*2^k:Nat):Int)):Rat)=((D*2^k:Nat):Rat) from rfl]
    rw [Rat.div_def]
    have:=Rat.mul_inv_cancel ((D*2^k:Nat):Rat) (by grind)
    generalize ((D*2^k:Nat):Rat)=z at *
    have:q*z*z⁻¹=q*(z*z⁻¹):=by grind
    rw [this,‹z*z⁻¹=1›]; grind
  rw [e,Rat.den_divInt,if_neg (by omega),Int.natAbs_natCast]
  exact Nat.div_le_self _ _
theorem Qa1 {a b k:Nat} {z:Int} (h:z.natAbs≤a*(b*2^k)):Ql z≤Ql (a:Int)+Ql (b:Int)+k:=by
  have h1:Ql (a:Int)≤Ql (a:Int):=Nat.le_refl _
  have h2:Ql (b:Int)≤Ql (b:Int):=Nat.le_refl _
  rw [J3] at h1 h2 ⊢
  rw [Int.natAbs_natCast] at h1 h2
  rw [Nat.pow_add,Nat.pow_add]
  have h3:a*b<2^Ql (a:Int)*2^Ql (b:Int):=Nat.mul_lt_mul_of_lt_of_le h1 (Nat.le_of_lt h2) (Nat.pow_pos (by decide))
  have h4:=Nat.mul_lt_mul_of_pos_right h3 (show 0<2^k from Nat.pow_pos (by decide))
  rw [←Nat.mul_assoc] at h; omega
theorem Qpm {D M k B:Nat} {q:Rat} (h:Gr D M k q) (hM:0<M) (hs:Ql (D:Int)+Ql (M:Int)+k≤B):Qs B q:=by
  have hd:=Q77 h
  have hden:=nat_pos q.den_pos
  have h1:(q.num.natAbs:Rat)≤((M*(D*2^k):Nat):Rat):=by
    have e:(q.num:Rat)=q*(q.den:Rat):=by
      have:(q.num:Rat) / (((q.den:Int)):Rat)=q:=by rw [Xo,Rat.num_divInt_den]
      have h2:(q.num:Rat) / (q.den:Rat)*(q.den:Rat)=q.num:=Rat.div_mul_cancel (by grind)
      rw [show (q.num:Rat) / (q.den:Rat)=q from this] at h2; exact h2.symm
    rw [←Jz,e]
    have h3:=Zv (x:=q) (y:=(q.den:Rat)) (b:=((D*2^k:Nat):Rat)) h.b (by
      have:Qm (q.den:Rat)=(q.den:Rat):=by unfold Qm; rw [if_neg (by grind)]
      rw [this]; exact Rat.natCast_le_natCast.2 hd)
    push_cast at h3 ⊢; exact h3
  have h1:=Rat.natCast_le_natCast.1 h1
  refine ⟨?_,?_⟩
  · have:=Qa1 (z:=q.num) h1; omega
  · have:=Qa1 (z:=(q.den:Int)) (a:=M) (b:=D) (k:=k) (by
      rw [Int.natAbs_natCast]
      exact Nat.le_trans hd (Nat.le_mul_of_pos_left _ hM))
    omega
theorem Qmj (a b:Rat):mid a b=(a+b) / 2:=by
  unfold mid
  rw [←Xo]
  have ha:(a.num:Rat)=a*(a.den:Rat):=by
    have:(a.num:Rat) / (((a.den:Int)):Rat)=a:=by rw [Xo,Rat.num_divInt_den]
    have h2:(a.num:Rat) / (a.den:Rat)*(a.den:Rat)=a.num:=Rat.div_mul_cancel (by have:=nat_pos a.den_pos; grind)
    rw [show (a.num:Rat) / (a.den:Rat)=a from this] at h2; exact h2.symm
  have hb:(b.num:Rat)=b*(b.den:Rat):=by
    have:(b.num:Rat) / (((b.den:Int)):Rat)=b:=by rw [Xo,Rat.num_divInt_den]
    have h2:(b.num:Rat) / (b.den:Rat)*(b.den:Rat)=b.num:=Rat.div_mul_cancel (by have:=nat_pos b.den_pos; grind)
    rw [show (b.num:Rat) / (b.den:Rat)=b from this] at h2; exact h2.symm
  have pa:=nat_pos a.den_pos
  have pb:=nat_pos b.den_pos
  rw [Rat.intCast_add,Rat.intCast_mul,Rat.intCast_mul,Rat.intCast_mul,Rat.intCast_mul,ha,hb]
  rw [show (((a.den:Int)):Rat)=(a.den:Rat) from rfl,show (((b.den:Int)):Rat)=(b.den:Rat) from rfl,show (((2:Int)):Rat)=2 from rfl]
  generalize (a.den:Rat)=x at *
  generalize (b.den:Rat)=y at *
  have hxy:=Hf (Hf pa pb) (show (0:Rat)<2 by decide)
  have h1:(a*x*y+b*y*x) / (x*y*2)*(x*y*2)=a*x*y+b*y*x:=Zx hxy
  have h2:(a+b) / 2*2=a+b:=Zx (by decide)
  generalize (a*x*y+b*y*x) / (x*y*2)=c at *
  generalize (a+b) / 2=d at *
  have h3:(x*y*2)*(c-d)=0:=by grind
  rcases Rat.mul_eq_zero.1 h3 with h4 | h4 <;> grind
theorem I2 (a b:Rat):Qbp a b=a-b:=by
  unfold Qbp
  rw [Rat.sub_def',←Rat.divInt_ofNat]
  push_cast; rfl
theorem Qo2 {a b:Rat}:Z2 a b=0↔a=b:=by
  constructor
  · intro h
    have h1:¬a<b:=fun h'=>by have:=W0.2 h'; omega
    have h2:¬b<a:=fun h'=>by have:=Wz.2 h'; omega
    grind
  · intro h; subst h; exact Wn a
theorem B9 {a b:Rat}:Z2 a b≤0↔a≤b:=by
  constructor
  · intro h
    have h2:¬b<a:=fun h'=>by have:=Wz.2 h'; omega
    grind
  · intro h
    have h2:¬0<Z2 a b:=fun h'=>by have:=Wz.1 h'; grind
    omega
theorem Ie {a b:Rat}:0≤Z2 a b↔b≤a:=by
  constructor
  · intro h
    have h2:¬a<b:=fun h'=>by have:=W0.2 h'; omega
    grind
  · intro h
    have h2:¬Z2 a b<0:=fun h'=>by have:=W0.1 h'; grind
    omega
theorem Ud (a b:Rat):Z2 a b=1∧b<a∨Z2 a b=0∧a=b∨Z2 a b=-1∧a<b:=by
  have hb:=Tc a b
  rcases (show Z2 a b=1∨Z2 a b=0∨Z2 a b=-1 by omega) with h | h | h
  · exact .inl ⟨h,Wz.1 (by omega)⟩
  · exact .inr (.inl ⟨h,Qo2.1 h⟩)
  · exact .inr (.inr ⟨h,W0.1 (by omega)⟩)
theorem Qi3 (p:List Int) (x:Rat):low p x=Yf (cz p) x:=by
  unfold low Yf
  rw [Kz,Kz,Qg,H8]
theorem Ko {t:Tm} (h:t.lo<t.hi) (q:Rat):Q3 t q=cq (cz t.p) t.lo t.hi q:=by
  have hp:t.point=false:=by
    unfold Tm.point
    have:¬0≤Z2 t.lo t.hi:=fun h'=>by have:=Ie.1 h'; grind
    simp [this]
  unfold Q3 cq
  rw [hp,if_neg (by decide)]
  have e1:(Z2 q t.lo≤0)=(q≤t.lo):=propext B9
  have e2:(0<Z2 q t.hi)=(t.hi<q):=propext Wz
  rw [Kz,Qi3,←Qg]
  simp only [e1,e2]
theorem Ws {t:Tm}:t.point=true↔t.hi≤t.lo:=by
  unfold Tm.point
  rw [decide_eq_true_iff]; exact Ie
theorem Gs {t:Tm} (h:t.lo=t.hi) (q:Rat):Q3 t q=Z2 t.lo q:=by
  have hp:t.point=true:=Ws.2 (by rw [h]; exact Rat.le_refl)
  unfold Q3; rw [if_pos hp]
theorem Q7r {c:Rat→Int} {x:Rat} (h:∀ q,c q=Z2 x q):Cut c where
  val q:=by rw [h]; have:=Tc x q; omega
  mono q r hqr h1:=by
    rw [h] at h1 ⊢
    rcases Ud x q with ⟨e,e'⟩ | ⟨e,e'⟩ | ⟨e,e'⟩
    · exact absurd e h1
    · rcases Ud x r with ⟨f,f'⟩ | ⟨f,f'⟩ | ⟨f,f'⟩ <;> grind
    · rcases Ud x r with ⟨f,f'⟩ | ⟨f,f'⟩ | ⟨f,f'⟩ <;> grind
  up q h1:=by
    rw [h] at h1
    have h2:=Wz.1 (show 0<Z2 x q by omega)
    have h3:(x+q) / 2*2=x+q:=Zx (by decide)
    have h4:=Wz.2 (show (x+q) / 2<x by grind)
    have:=Tc x ((x+q) / 2)
    exact ⟨(x+q) / 2,by grind,by rw [h]; omega⟩
  dn q h1:=by
    rw [h] at h1
    have h2:=W0.1 (show Z2 x q<0 by omega)
    have h3:(x+q) / 2*2=x+q:=Zx (by decide)
    have h4:=W0.2 (show x<(x+q) / 2 by grind)
    have:=Tc x ((x+q) / 2)
    exact ⟨(x+q) / 2,by grind,by rw [h]; omega⟩
  lo:=⟨x-1,by
    rw [h]
    have h4:=Wz.2 (show x-1<x by grind)
    have:=Tc x (x-1); omega⟩
  hi:=⟨x+1,by
    rw [h]
    have h4:=W0.2 (show x<x+1 by grind)
    have:=Tc x (x+1); omega⟩
structure Va (t:Tm):Prop where
  i:t.lo=t.hi∧Qh t.p t.lo=0∨∃ L,Vt (cz t.p) L t.lo t.hi
  tr:Qi t.p
  n:t.p.length≤9
  n2:2≤t.p.length
  b:Bd 1000 t.p
  g:∃ D M k,Gr D M k t.lo∧Gr D M k t.hi∧0<M∧Ql (D:Int)+Ql (M:Int)+k≤1000000
theorem Va.le {t:Tm} (h:Va t):t.lo≤t.hi:=by
  rcases h.i with ⟨e,_⟩ | ⟨L,V⟩
  · rw [e]; exact Rat.le_refl
  · exact Rat.le_of_lt V.l
theorem Va.pt {t:Tm} (h:Va t) (hp:t.point=true):t.lo=t.hi∧Qh t.p t.lo=0:=by
  rcases h.i with e | ⟨L,V⟩
  · exact e
  · have:=Ws.1 hp
    have:=V.l
    grind
theorem Va.iv {t:Tm} (h:Va t) (hp:t.point=false):∃ L,Vt (cz t.p) L t.lo t.hi:=by
  rcases h.i with ⟨e,_⟩ | h
  · have:=Ws.2 (show t.hi≤t.lo by rw [e]; exact Rat.le_refl)
    rw [hp] at this; cases this
  · exact h
theorem Va.cut {t:Tm} (h:Va t):Cut (Q3 t):=by
  rcases h.i with ⟨e,_⟩ | ⟨L,V⟩
  · exact Q7r (x:=t.lo) fun q=>Gs e q
  · have:Q3 t=cq (cz t.p) t.lo t.hi:=funext fun q=>Ko V.l q
    rw [this]; exact V.cut
theorem Q9n {c:Rat→Int} (hc:Cut c) {p:List Rat} {x:Rat} (h:c x=0) (h0:ev p x=0):Hn p c:=by
  rcases Ma hc p with h1 | ⟨s,hs,h1⟩
  · exact h1
  · have:=Qjf hc h h1
    rw [Zg.2 h0] at this; exact absurd this.symm hs
theorem Va.van {t:Tm} (h:Va t):Hn (cz t.p) (Q3 t):=by
  have hc:=h.cut
  rcases h.i with ⟨e,h0⟩ | ⟨L,V⟩
  · exact Q9n hc (x:=t.lo) (by rw [Gs e,Wn]) (by rw [Qg]; exact h0)
  · have:Q3 t=cq (cz t.p) t.lo t.hi:=funext fun q=>Ko V.l q
    rw [this]; exact V.van
theorem Va.qs {t:Tm} (h:Va t):Qs 1000000 t.lo∧Qs 1000000 t.hi:=by
  obtain ⟨D,M,k,h1,h2,h3,h4⟩:=h.g
  exact ⟨Qpm h1 h3 h4,Qpm h2 h3 h4⟩
theorem Va.tb {t:Tm} (h:Va t):Tb t:=⟨⟨h.tr,by have:=h.n; omega,Qc h.b (by omega)⟩,h.qs.1.mono (t:=16777216) (by omega),h.qs.2.mono (t:=16777216) (by omega)⟩
structure Hv (t:Tm) (D M k:Nat) (u:Tm):Prop where
  p:u.p=t.p
  i:u.lo=u.hi∧Qh u.p u.lo=0∨∃ L,Vt (cz u.p) L u.lo u.hi
  c:∀ q,Q3 u q=Q3 t q
  l:Gr D M k u.lo
  h:Gr D M k u.hi
theorem Qh9 {c:Rat→Int} (hc:Cut c) {x:Rat} (h:c x=0) (q:Rat):c q=Z2 x q:=by
  rcases Ud x q with ⟨e,e'⟩ | ⟨e,e'⟩ | ⟨e,e'⟩
  · rw [e]; exact hc.mono' e' (by omega)
  · rw [e,←e',h]
  · rw [e]; exact hc.mono x q e' (by omega)
theorem Qfl {t u:Tm} {D M k:Nat} (hu:Hv t D M k u) (hM:0<M) (hs:Ql (D:Int)+Ql (M:Int)+(k+1)≤16777216):∃ v,Qfk u=some v∧Hv t D M (k+1) v∧v.hi-v.lo≤(u.hi-u.lo) / 2∧u.lo≤v.lo∧v.hi≤u.hi:=by
  have h2:∀ x:Rat,x / 2*2=x:=fun x=>Zx (by decide)
  unfold Qfk
  rcases hu.i with ⟨e,h0⟩ | ⟨L,V⟩
  · have hp:u.point=true:=Ws.2 (by rw [e]; exact Rat.le_refl)
    rw [if_pos hp]
    refine ⟨u,rfl,⟨hu.p,hu.i,hu.c,Qdh hu.l,Qdh hu.h⟩,?_,Rat.le_refl,Rat.le_refl⟩
    rw [e]; have:=h2 (u.hi-u.hi); grind
  · have hp:u.point=false:=by
      have:¬u.point=true:=fun h=>by have:=Ws.1 h; have:=V.l; grind
      simpa using this
    rw [hp,if_neg (by decide)]
    obtain ⟨m,hm⟩:∃ m,m=(u.lo+u.hi) / 2:=⟨_,rfl⟩
    have hmg:Gr D M (k+1) m:=by rw [hm]; exact Qxm hu.l hu.h
    have hmm:=h2 (u.lo+u.hi)
    rw [←hm] at hmm
    have hl:=V.l
    have hl1:u.lo<m:=by grind
    have hl2:m<u.hi:=by grind
    have hch:chq (mid u.lo u.hi)=some m:=by
      rw [Qmj,←hm]
      have:=Qpm hmg hM hs
      unfold chq
      rw [if_pos ⟨this.1,this.2⟩]
    have hcm:mid u.lo u.hi=m:=by rw [Qmj,←hm]
    rw [hch]
    show ∃ v,some (if Q3 u m=0 then (⟨u.p,m,m⟩:Tm) else if Q3 u m=-1 then ⟨u.p,u.lo,m⟩ else ⟨u.p,m,u.hi⟩)=some v∧_
    have hw:=h2 (u.hi-u.lo)
    have hcu:=Ko hl
    have hcut:=V.cut
    have hcut':Cut (Q3 u):=by rw [show Q3 u=cq (cz u.p) u.lo u.hi from funext hcu]; exact hcut
    by_cases c0:Q3 u m=0
    · rw [if_pos c0]
      have hz:Qh u.p m=0:=by
        have:=Ew hcut (q:=m) (by rw [←hcu]; exact c0) V.van
        rwa [Qg] at this
      refine ⟨_,rfl,⟨hu.p,.inl ⟨rfl,hz⟩,fun q=>?_,hmg,hmg⟩,by show m-m≤_; grind,by show u.lo≤m; grind,by show m≤u.hi; grind⟩
      rw [Gs rfl,←hu.c]
      exact (Qh9 hcut' c0 q).symm
    · rw [if_neg c0]
      by_cases c1:Q3 u m=-1
      · rw [if_pos c1]
        have hv:vv L m=vv L u.hi:=V.eq_hi hl1 (Rat.le_of_lt hl2) (by rw [←hcu,c1]; decide)
        have V':Vt (cz u.p) L u.lo m:=⟨V.s,hl1,by rw [hv]; exact V.v⟩
        refine ⟨_,rfl,⟨hu.p,.inr ⟨L,V'⟩,fun q=>?_,Qdh hu.l,hmg⟩,by show m-u.lo≤_; grind,Rat.le_refl,by show m≤u.hi; grind⟩
        rw [Ko hl1,←hu.c,hcu]
        exact V.uniq V'.cut (Fo Rat.le_refl) (by rw [Ca hl1 hl2]; decide) V'.van q
      · rw [if_neg c1]
        have c2:Q3 u m=1:=by rcases hcut'.val m with h | h | h <;> omega
        have hv:vv L m=vv L u.lo:=V.eq_lo hl1 (Rat.le_of_lt hl2) (by rw [←hcu]; exact c2)
        have V':Vt (cz u.p) L m u.hi:=⟨V.s,hl2,by rw [hv]; exact V.v⟩
        refine ⟨_,rfl,⟨hu.p,.inr ⟨L,V'⟩,fun q=>?_,hmg,Qdh hu.h⟩,by show u.hi-m≤_; grind,by show u.lo≤m; grind,Rat.le_refl⟩
        rw [Ko hl2,←hu.c,hcu]
        exact V.uniq V'.cut (Fo (by grind)) V'.hi1 V'.van q
end Orq

namespace Orq
open Orr Go
def Un (a b:Tm):Prop:=∃ q,Q3 a q=-1∧Q3 b q=1
def TEq (a b:Tm):Prop:=∀ q,Q3 a q=Q3 b q
theorem tri {a b:Tm} (ha:Cut (Q3 a)) (hb:Cut (Q3 b)):Un a b∨TEq a b∨Un b a:=by
  rcases Classical.em (TEq a b) with h | h
  · exact .inr (.inl h)
  · obtain ⟨q,hq⟩:=Classical.not_forall.1 h
    obtain ⟨r,⟨h1,h2⟩ | ⟨h1,h2⟩⟩:=Qh8 ha hb hq
    · exact .inl ⟨r,h1,h2⟩
    · exact .inr (.inr ⟨r,h2,h1⟩)
theorem Pm {a b:Tm} (ha:Cut (Q3 a)) (hb:Cut (Q3 b)) (h:Un a b) (h':Un b a):False:=by
  obtain ⟨q,q1,q2⟩:=h
  obtain ⟨r,r1,r2⟩:=h'
  have:=ha.lt r2 q1
  have:=hb.lt q2 r1
  grind
theorem Qj0 {p:List Int} (k:Nat):(p.getD k 0).natAbs≤2^Zr p:=by
  have h:Ql (p.getD k 0)≤Zr p:=by
    have key:∀ (l:List Int) (n:Nat),n≤l.foldl (fun n z=>max n (Ql z)) n∧∀ z∈l,Ql z≤l.foldl (fun n z=>max n (Ql z)) n:=by
      intro l
      induction l with
      | nil=>exact fun n=>⟨Nat.le_refl _,fun z hz=>by cases hz⟩
      |
       cons y l ih =>
       intro n
       obtain ⟨i1,i2⟩:=ih (max n (Ql y))
       refine ⟨by simp only [List.foldl_cons]; omega,fun z hz=>?_⟩
       simp only [List.foldl_cons]
       rcases List.mem_cons.1 hz with rfl | hz
       · omega
       · exact i2 z hz
    exact Qr (s:=Zr p) (fun z hz=>(key p 0).2 z hz) k
  rw [J3] at h; omega
theorem Q58 {s:Nat}:∀ (B:List Int),(∀ z∈B,z.natAbs≤2^s)→gB B≤2^(s+(B.length-1))
  | [],_=>Nat.zero_le _
  |
   c::B,h=>by
   have h1:=h c (List.mem_cons_self ..)
   have h2:=Q58 B fun z hz=>h z (List.mem_cons_of_mem _ hz)
   simp only [gB,List.length_cons,Nat.add_sub_cancel]
   have h3:2^s≤2^(s+B.length):=Nat.pow_le_pow_right (by decide) (by omega)
   cases B with
   | nil=>simp only [gB,List.length_nil] at *; omega
   |
    cons d B =>
    have h4:2^(s+(d::B).length)=2*2^(s+((d::B).length-1)):=by
      rw [Nat.mul_comm,←Nat.pow_succ]; congr 1
    rw [h4]; omega
def Jq (A B:List Int):Nat:=(Zr A+Zr B+(A.length+B.length)+8)*(2*(A.length+B.length-2)-1)
theorem Qw7 {A B:List Int} (tA:Qi A) (tB:Qi B) (nA:A.length≤9) (nB:B.length≤9) (lA:2≤A.length) (lB:2≤B.length) {R d:Rat} (hR:1≤R) (dp:0<d)
    (hs:∀ e:Rat,0<e→∃ q r,Qm q≤R∧Qm r≤R∧d≤Qm (q-r)∧Qm (q-r)*((2^(Jq A B+1):Nat):Rat)≤1∧Qm (Qh A q)<e∧Qm (Qh B r)<e):False:=by
  obtain ⟨a,ha⟩:∃ a,A.length=a+1:=⟨A.length-1,by omega⟩
  obtain ⟨b,hb⟩:∃ b,B.length=b+1:=⟨B.length-1,by omega⟩
  obtain ⟨s,hsd⟩:∃ s,s=Zr A+Zr B+b:=⟨_,rfl⟩
  obtain ⟨N,hN⟩:∃ N,b*(2*(a*b))+a*(2*(a*b)-b)=N:=⟨_,rfl⟩
  have hNt:N≤2^(a+9):=by
    rw [←hN]
    have hab:∀ a b:Fin 9,b.1*(2*(a.1*b.1))+a.1*(2*(a.1*b.1)-b.1)≤2^(a.1+9):=by decide
    exact hab ⟨a,by omega⟩ ⟨b,by omega⟩
  have hK:Jq A B=(s+a+10)*(2*(a+b-1)+1):=by
    unfold Jq
    rw [ha,hb,hsd,show a+1+(b+1)-2=a+b by omega,show 2*(a+b)-1=2*(a+b-1)+1 by omega]
    congr 1; omega
  have h0A:A.getD a 0≠0:=by have:=Xj tA (by omega); rwa [ha] at this
  have h0B:B.getD b 0≠0:=by have:=Xj tB (by omega); rwa [hb] at this
  have hp:∀ m,1≤2^m:=fun m=>Nat.pow_pos (by decide)
  refine Q73 (N:=N) (D:=2^(Jq A B-1)) ha hb h0A h0B (by omega) (by omega) (h:=2^s) (hp s) (fun k=>Nat.le_trans (Qj0 k) (Nat.pow_le_pow_right (by decide) (by omega))) ?_ hN ?_ hR dp fun e ep=>?_
  · refine Nat.le_trans (Q58 (s:=Zr B) B fun z hz=>?_) (Nat.pow_le_pow_right (by decide) (by omega))
    obtain ⟨i,hi⟩:=List.mem_iff_getElem?.1 hz
    have:=Qj0 (p:=B) i
    rwa [List.getD_eq_getElem?_getD,hi] at this
  · have h1:2*(N*2^s)≤2^(s+a+10):=by
      have:N*2^s≤2^(a+9)*2^s:=Nat.mul_le_mul_right _ hNt
      rw [←Nat.pow_add] at this
      rw [show s+a+10=(a+9+s)+1 by omega,Nat.pow_succ]; omega
    have h2:N*2^s≤2^(s+a+9):=by
      rw [show s+a+9=(a+9)+s by omega,Nat.pow_add]; exact Nat.mul_le_mul_right _ hNt
    have h3:=Nat.pow_le_pow_left h1 (2*(a+b-1))
    have h4:=Nat.mul_le_mul h2 h3
    rw [←Nat.pow_mul,←Nat.pow_add] at h4
    rw [←Nat.mul_assoc]
    refine Nat.le_trans h4 (Nat.pow_le_pow_right (by decide) ?_)
    rw [hK,Nat.mul_add,Nat.mul_one]; omega
  · obtain ⟨q,r,h1,h2,h3,h4,h5,h6⟩:=hs e ep
    refine ⟨q,r,h1,h2,h3,?_,h5,h6⟩
    have hK1:1≤Jq A B:=by
      rw [hK]; exact Nat.mul_pos (by omega) (by omega)
    have e1:2^(Jq A B+1)=4*2^(Jq A B-1):=by
      obtain ⟨m,hm⟩:∃ m,Jq A B=m+1:=⟨Jq A B-1,by omega⟩
      rw [hm,Nat.add_sub_cancel,Nat.pow_succ,Nat.pow_succ]; omega
    rw [e1] at h4
    push_cast at h4 ⊢
    exact h4
theorem Hv.lo' {t:Tm} {D M k:Nat} {u:Tm} (h:Hv t D M k u):Q3 t u.lo=1∨Q3 t u.lo=0∧u.lo=u.hi:=by
  rw [←h.c]
  rcases h.i with ⟨e,_⟩ | ⟨L,V⟩
  · exact .inr ⟨by rw [Gs e,Wn],e⟩
  · exact .inl (by rw [Ko V.l]; exact Fo Rat.le_refl)
theorem Hv.hi' {t:Tm} {D M k:Nat} {u:Tm} (h:Hv t D M k u):Q3 t u.hi=0∨Q3 t u.hi=-1:=by
  rw [←h.c]
  rcases h.i with ⟨e,_⟩ | ⟨L,V⟩
  · exact .inl (by rw [Gs e,e,Wn])
  · rw [Ko V.l]
    have:=V.hi1
    rcases V.cut.val u.hi with h | h | h <;> omega
theorem Hv.le {t:Tm} {D M k:Nat} {u:Tm} (h:Hv t D M k u):u.lo≤u.hi:=by
  rcases h.i with ⟨e,_⟩ | ⟨L,V⟩
  · rw [e]; exact Rat.le_refl
  · exact Rat.le_of_lt V.l
theorem Qw8 {a b:Tm} (ha:Va a) (hb:Va b) {D M k D' M' k':Nat} {u v:Tm} (hu:Hv a D M k u) (hv:Hv b D' M' k' v) (h:Un a b):1<(v.hi-u.lo)*((2^(Jq a.p b.p+1):Nat):Rat):=by
  rcases Q7 ((v.hi-u.lo)*((2^(Jq a.p b.p+1):Nat):Rat)) 1 with hw | hw
  · exfalso
    have ca:=ha.cut
    have cb:=hb.cut
    obtain ⟨m,m1,m2⟩:=h
    obtain ⟨m',hm',m3⟩:=ca.dn m m1
    have hpow:(0:Rat)≤((2^(Jq a.p b.p+1):Nat):Rat):=Rat.natCast_nonneg
    obtain ⟨R,hR⟩:∃ R,R=Qm u.lo+Qm m'+Qm m+Qm v.hi+1:=⟨_,rfl⟩
    have n1:=Xg u.lo; have n2:=Xg m'; have n3:=Xg m; have n4:=Xg v.hi
    refine Qw7 (R:=R) (d:=m-m') ha.tr hb.tr ha.n hb.n ha.n2 hb.n2 (by grind) (by grind) fun e ep=>?_
    -- q near a,at most m',at least u.lo
    obtain ⟨q,q1,q2,q3⟩:∃ q,u.lo≤q∧q≤m'∧Qm (Qh a.p q)<e:=by
      rcases hu.lo' with h1 | ⟨h1,_⟩
      · obtain ⟨x,y,hx,hy,hq⟩:=ha.van e ep
        rcases Q7 x u.lo with e1 | e1
        · exact ⟨u.lo,Rat.le_refl,Rat.le_of_lt (ca.lt h1 m3),by rw [←Qg]; exact hq u.lo e1 (Rat.le_of_lt (ca.lt h1 hy))⟩
        · exact ⟨x,Rat.le_of_lt e1,Rat.le_of_lt (ca.lt hx m3),by rw [←Qg]; exact hq x Rat.le_refl (Rat.le_of_lt (ca.lt hx hy))⟩
      · refine ⟨u.lo,Rat.le_refl,?_,by rw [←Qg,Ew ca h1 ha.van,Xu]; exact ep⟩
        rcases Q7 u.lo m' with e1 | e1
        · exact e1
        · have:=ca.mono m' u.lo e1 (by omega); omega
    obtain ⟨r,r1,r2,r3⟩:∃ r,r≤v.hi∧m≤r∧Qm (Qh b.p r)<e:=by
      rcases hv.hi' with h1 | h1
      · refine ⟨v.hi,Rat.le_refl,?_,by rw [←Qg,Ew cb h1 hb.van,Xu]; exact ep⟩
        rcases Q7 m v.hi with e1 | e1
        · exact e1
        · have:=cb.mono v.hi m e1 (by omega); omega
      · obtain ⟨x,y,hx,hy,hq⟩:=hb.van e ep
        rcases Q7 v.hi y with e1 | e1
        · exact ⟨v.hi,Rat.le_refl,Rat.le_of_lt (cb.lt m2 h1),by rw [←Qg]; exact hq v.hi (Rat.le_of_lt (cb.lt hx h1)) e1⟩
        · exact ⟨y,Rat.le_of_lt e1,Rat.le_of_lt (cb.lt m2 hy),by rw [←Qg]; exact hq y (Rat.le_of_lt (cb.lt hx hy)) Rat.le_refl⟩
    have e1:Qm (q-r)=r-q:=by unfold Qm; split <;> grind
    have b1:Qm q≤R:=by
      have:=Cn (R:=R) (x:=u.lo) (y:=m') (t:=q) (by grind) (by grind) q1 q2; exact this
    have b2:Qm r≤R:=by
      have:=Cn (R:=R) (x:=m) (y:=v.hi) (t:=r) (by grind) (by grind) r2 r1; exact this
    refine ⟨q,r,b1,b2,by rw [e1]; grind,?_,q3,r3⟩
    rw [e1]
    have:=Rat.mul_le_mul_of_nonneg_right (show r-q≤v.hi-u.lo by grind) hpow
    exact Rat.le_trans this hw
  · exact hw
theorem Qhl {a b:Tm} (ha:Va a) (hb:Va b) {D M k D' M' k':Nat} {u v:Tm} (hu:Hv a D M k u) (hv:Hv b D' M' k' v) (hne:¬TEq a b) (h:Wg u v=true):Un a b:=by
  have h1:=(of_decide_eq_true h).1
  have h1:=B9.1 h1
  rcases tri ha.cut hb.cut with h2 | h2 | ⟨m,m1,m2⟩
  · exact h2
  · exact absurd h2 hne
  · exfalso
    have e1:m<u.hi:=by
      rcases Q7 u.hi m with e | e
      · rcases Classical.em (u.hi=m) with e' | e'
        · have:=hu.hi'; rw [e'] at this; omega
        · have:=ha.cut.mono u.hi m (by grind) (by have:=hu.hi'; omega); omega
      · exact e
    have e2:v.lo<m:=by
      rcases Q7 m v.lo with e | e
      · rcases Classical.em (m=v.lo) with e' | e'
        · have:=hv.lo'; rw [←e'] at this; omega
        · have:=hb.cut.mono m v.lo (by grind) (by omega)
          have:=hv.lo'; omega
      · exact e
    grind
theorem Qqj {a b:Tm} (ha:Va a) (hb:Va b) {D M k D' M' k':Nat} {u v:Tm} (hu:Hv a D M k u) (hv:Hv b D' M' k' v) (hlt:Un a b) (h:Wg u v≠true):v.lo≤u.hi:=by
  rcases Q7 v.lo u.hi with e | e
  · exact e
  · refine absurd (decide_eq_true ⟨B9.2 (Rat.le_of_lt e),fun h'=>?_⟩) h
    have:=Qo2.1 h'.2; grind
theorem Qjw (m:Nat):((2^(m+1):Nat):Rat)=2*((2^m:Nat):Rat):=by rw [Nat.pow_succ]; push_cast; grind
def Q6q (a b:Tm) (r:Tm×Tm×Int):Prop:=r.2.2=-1∧Un a b∨r.2.2=1∧Un b a
theorem Qsz (A B:List Int):Jq A B=Jq B A:=by unfold Jq; rw [Nat.add_comm A.length,Nat.add_comm (Zr A)]
theorem Q91 {a b:Tm} (ha:Va a) (hb:Va b) (hne:¬TEq a b) {D M D' M':Nat} (hM:0<M) (hM':0<M'):∀ (i j:Nat) (u v:Tm) (k k':Nat) (W:Rat),2*i+1≤j→Hv a D M k u→Hv b D' M' k' v→Ql (D:Int)+Ql (M:Int)+(k+j)≤16777216→Ql (D':Int)+Ql (M':Int)+(k'+j)≤16777216→u.hi-u.lo≤W→v.hi-v.lo≤W→2*W*((2^(Jq a.p b.p+1):Nat):Rat)≤((2^i:Nat):Rat)→∃ r,apF j u v=some r∧Q6q a b r:=by
  intro i
  -- one look,one step
  have step:∀ (j:Nat) (u v:Tm) (k k':Nat),Hv a D M k u→Hv b D' M' k' v→Ql (D:Int)+Ql (M:Int)+(k+(j+1))≤16777216→Ql (D':Int)+Ql (M':Int)+(k'+(j+1))≤16777216→(∃ r,apF (j+1) u v=some r∧Q6q a b r)∨(Wg u v≠true∧Wg v u≠true∧∃ u' v' k1 k1',apF (j+1) u v=apF j u' v'∧Hv a D M k1 u'∧Hv b D' M' k1' v'∧k1≤k+1∧k1'≤k'+1∧(v.hi-v.lo≤u.hi-u.lo∧u'.hi-u'.lo≤(u.hi-u.lo) / 2∧v'=v∨u.hi-u.lo≤v.hi-v.lo∧v'.hi-v'.lo≤(v.hi-v.lo) / 2∧u'=u)):=by
    intro j u v k k' hu hv hs hs'
    by_cases h1:Wg u v=true
    · exact .inl ⟨(u,v,-1),by simp only [apF]; rw [if_pos h1],.inl ⟨rfl,Qhl ha hb hu hv hne h1⟩⟩
    by_cases h2:Wg v u=true
    · exact .inl ⟨(u,v,1),by simp only [apF]; rw [if_neg h1,if_pos h2],.inr ⟨rfl,Qhl hb ha hv hu (fun h=>hne fun q=>(h q).symm) h2⟩⟩
    refine .inr ⟨h1,h2,?_⟩
    by_cases h3:0≤Z2 (Qbp u.hi u.lo) (Qbp v.hi v.lo)
    · obtain ⟨x,x1,x2,x3,_⟩:=Qfl hu hM (by omega)
      refine ⟨x,v,k+1,k',?_,x2,hv,by omega,by omega,.inl ⟨?_,x3,rfl⟩⟩
      · simp only [apF]; rw [if_neg h1,if_neg h2,if_pos h3,x1]; rfl
      · have:=Ie.1 h3; rwa [I2,I2] at this
    · obtain ⟨x,x1,x2,x3,_⟩:=Qfl hv hM' (by omega)
      refine ⟨u,x,k,k'+1,?_,hu,x2,by omega,by omega,.inr ⟨?_,x3,rfl⟩⟩
      · simp only [apF]; rw [if_neg h1,if_neg h2,if_neg h3,x1]; rfl
      · rcases Q7 (u.hi-u.lo) (v.hi-v.lo) with e | e
        · exact e
        · refine absurd (Ie.2 ?_) h3
          rw [I2,I2]; exact Rat.le_of_lt e
  induction i with
  |
   zero =>
   intro j u v k k' W hj hu hv hs hs' hW hW' hK
   obtain ⟨j,rfl⟩:∃ m,j=m+1:=⟨j-1,by omega⟩
   rcases step j u v k k' hu hv hs hs' with h | ⟨h1,h2,_⟩
   · exact h
   · exfalso
     have hpow:(0:Rat)≤((2^(Jq a.p b.p+1):Nat):Rat):=Rat.natCast_nonneg
     rw [Nat.pow_zero] at hK
     rcases tri ha.cut hb.cut with h3 | h3 | h3
     · have h4:=Qqj ha hb hu hv h3 h1
       have h5:=Qw8 ha hb hu hv h3
       have h6:=Rat.mul_le_mul_of_nonneg_right (show v.hi-u.lo≤2*W by clear step; grind) hpow
       have h7:((1:Nat):Rat)=1:=rfl
       rw [h7] at hK
       clear step; grind
     · exact hne h3
     · have h4:=Qqj hb ha hv hu h3 h2
       have h5:=Qw8 hb ha hv hu h3
       rw [Qsz] at h5
       have h6:=Rat.mul_le_mul_of_nonneg_right (show u.hi-v.lo≤2*W by clear step; grind) hpow
       have h7:((1:Nat):Rat)=1:=rfl
       rw [h7] at hK
       clear step; grind
  |
   succ i ih =>
   intro j u v k k' W hj hu hv hs hs' hW hW' hK
   obtain ⟨j,rfl⟩:∃ m,j=m+2:=⟨j-2,by omega⟩
   have hd:∀ x:Rat,x / 2*2=x:=fun x=>Zx (by decide)
   rcases step (j+1) u v k k' hu hv hs hs' with h | ⟨_,_,u1,v1,k1,k1',e1,hu1,hv1,hk1,hk1',hw1⟩
   · exact h
   · rw [e1]
     rcases step j u1 v1 k1 k1' hu1 hv1 (by omega) (by omega) with h | ⟨_,_,u2,v2,k2,k2',e2,hu2,hv2,hk2,hk2',hw2⟩
     · exact h
     · rw [e2]
       have a1:=hd (u.hi-u.lo); have a2:=hd (v.hi-v.lo); have a3:=hd (u1.hi-u1.lo); have a4:=hd (v1.hi-v1.lo); have a5:=hd W
       have b1:=hu.le; have b2:=hv.le; have b3:=hu1.le; have b4:=hv1.le; have b5:=hu2.le; have b6:=hv2.le
       have hww:u2.hi-u2.lo≤W / 2∧v2.hi-v2.lo≤W / 2:=by
         clear step ih
         rcases hw1 with ⟨c1,c2,rfl⟩ | ⟨c1,c2,rfl⟩ <;> rcases hw2 with ⟨d1,d2,rfl⟩ | ⟨d1,d2,rfl⟩ <;> constructor <;> grind
       refine ih j u2 v2 k2 k2' (W / 2) (by omega) hu2 hv2 (by omega) (by omega) hww.1 hww.2 ?_
       rw [Qjw i] at hK
       have:2*(W / 2)*((2^(Jq a.p b.p+1):Nat):Rat)*2=2*W*((2^(Jq a.p b.p+1):Nat):Rat):=by clear step ih hw1 hw2; grind
       clear step ih hw1 hw2; grind
end Orq

namespace Orq
open Orr Go
def CmpOk (a b:Tm) (c:Int):Prop:=c=-1∧Un a b∨c=0∧TEq a b∨c=1∧Un b a
theorem Va.hv0 {t:Tm} (h:Va t):∃ D M k,Hv t D M k t∧0<M∧Ql (D:Int)+Ql (M:Int)+k≤1000000:=by
  obtain ⟨D,M,k,h1,h2,h3,h4⟩:=h.g
  exact ⟨D,M,k,⟨rfl,h.i,fun _=>rfl,h1,h2⟩,h3,h4⟩
theorem Qm0 {a:Tm} (ha:Va a) (hp:a.point=true) (q:Rat):Q3 a q=Z2 a.lo q:=Gs (ha.pt hp).1 q
theorem Qwf {a b:Tm} (hb:Va b) {x:Rat} (hx:∀ q,Q3 a q=Z2 x q):CmpOk a b (-Q3 b x):=by
  have cb:=hb.cut
  rcases cb.val x with h | h | h
  · obtain ⟨q,q1,q2⟩:=cb.up x h
    refine .inl ⟨by omega,q,?_,q2⟩
    rw [hx]; rcases Ud x q with ⟨e,e'⟩ | ⟨e,e'⟩ | ⟨e,e'⟩ <;> grind
  · exact .inr (.inl ⟨by omega,fun q=>by rw [hx,Qh9 cb h]⟩)
  · obtain ⟨q,q1,q2⟩:=cb.dn x h
    refine .inr (.inr ⟨by omega,q,q2,?_⟩)
    rw [hx]; rcases Ud x q with ⟨e,e'⟩ | ⟨e,e'⟩ | ⟨e,e'⟩ <;> grind
theorem CmpOk.symm {a b:Tm} {c:Int} (h:CmpOk a b c):CmpOk b a (-c):=by
  rcases h with ⟨h1,h2⟩ | ⟨h1,h2⟩ | ⟨h1,h2⟩
  · exact .inr (.inr ⟨by omega,h2⟩)
  · exact .inr (.inl ⟨by omega,fun q=>(h2 q).symm⟩)
  · exact .inl ⟨by omega,h2⟩
theorem Zbk:Szz 9 1000:=⟨by decide,by decide⟩
theorem Cm (g:List Int) (lo hi:Rat):Ck g lo hi=true↔Ql7 (cz g) lo hi:=by
  unfold Ck Ql7
  rw [decide_eq_true_iff,Kz,Qi3,Qg]
theorem Qiq {g:List Int} (tg:Qi g) (hn:g.length≠0) {lo hi:Rat} (h:Ql7 (cz g) lo hi):1<g.length:=by
  rcases Nat.lt_or_ge 1 g.length with e | e
  · exact e
  · exfalso
    obtain ⟨c,rfl⟩:∃ c,g=[c]:=List.length_eq_one_iff.1 (by omega)
    have hc:c≠0:=by have:=Xj tg (by simp); simpa using this
    have hv:∀ t,ev (cz [c]) t=(c:Rat):=fun t=>by rw [Qg]; simp only [Qh]; grind
    have hs:Qp (c:Rat)≠0:=fun h=>Pd hc (Zg.1 h)
    unfold Ql7 at h
    rw [hv,Fx (by rw [hv]; exact hs),hv] at h
    rcases h with h | h
    · exact hs h
    · exact h rfl
theorem Qa0 {q:Rat}:Qm q≤((2^Ql q.num:Nat):Rat):=by
  have h1:Ql q.num≤Ql q.num:=Nat.le_refl _
  rw [J3] at h1
  have e:(q.num:Rat)=q*(q.den:Rat):=by
    have:(q.num:Rat) / (((q.den:Int)):Rat)=q:=by rw [Xo,Rat.num_divInt_den]
    have h2:(q.num:Rat) / (q.den:Rat)*(q.den:Rat)=q.num:=Rat.div_mul_cancel (by have:=nat_pos q.den_pos; grind)
    rw [show (q.num:Rat) / (q.den:Rat)=q from this] at h2; exact h2.symm
  have hd:(1:Rat)≤(q.den:Rat):=by
    have:((1:Nat):Rat)≤(q.den:Rat):=Rat.natCast_le_natCast.2 q.den_pos
    exact this
  have h2:Qm q≤Qm (q.num:Rat):=by
    rw [e,G0]
    have:Qm (q.den:Rat)=(q.den:Rat):=by unfold Qm; rw [if_neg (by grind)]
    rw [this]
    have:=Kt (a:=Qm q) (c:=1) (Xg q) Rat.le_refl (by decide) hd
    grind
  rw [Jz] at h2
  exact Rat.le_trans h2 (Rat.natCast_le_natCast.2 (Nat.le_of_lt h1))
theorem Ex {a:Tm} {w:Nat} (h:Ql a.lo.num+Ql a.hi.num≤w):a.hi-a.lo≤((2^(w+1):Nat):Rat):=by
  have h1:=Qa0 (q:=a.lo)
  have h2:=Qa0 (q:=a.hi)
  have h3:((2^Ql a.lo.num:Nat):Rat)≤((2^w:Nat):Rat):=Rat.natCast_le_natCast.2 (Nat.pow_le_pow_right (by decide) (by omega))
  have h4:((2^Ql a.hi.num:Nat):Rat)≤((2^w:Nat):Rat):=Rat.natCast_le_natCast.2 (Nat.pow_le_pow_right (by decide) (by omega))
  rw [Qjw]
  rw [Y3] at h1 h2
  grind
theorem Rh {p:List Int} {s:Nat} (h:Bd s p):Zr p≤s:=by
  have:=Y0 h p.length; rwa [List.take_length] at this
theorem Q0f {a b:Tm} (ha:Va a) (hb:Va b):Yp a b≤9000000:=by
  have q1:=ha.qs; have q2:=hb.qs
  have l1:=ha.n; have l2:=hb.n
  have s1:=Rh ha.b; have s2:=Rh hb.b
  have b1:=q1.1.1; have b2:=q1.2.1; have b3:=q2.1.1; have b4:=q2.2.1
  have:4*(a.p.length+b.p.length)*(Zr a.p+Zr b.p+(a.p.length+b.p.length)+8)≤4*18*2100:=Nat.mul_le_mul (by omega) (by omega)
  unfold Yp; omega
theorem Qud {a b:Tm} (ha:Va a) (hb:Va b) (hne:¬TEq a b):∃ r,apF (Yp a b) a b=some r∧Q6q a b r:=by
  obtain ⟨D,M,k,h1,h2,h3⟩:=ha.hv0
  obtain ⟨D',M',k',h1',h2',h3'⟩:=hb.hv0
  have hst:=Q0f ha hb
  obtain ⟨w,hw⟩:∃ w,w=Ql a.lo.num+Ql a.hi.num+Ql b.lo.num+Ql b.hi.num:=⟨_,rfl⟩
  obtain ⟨K,hK⟩:∃ K,K=Zr a.p+Zr b.p+(a.p.length+b.p.length)+8:=⟨_,rfl⟩
  obtain ⟨n,hn⟩:∃ n,n=a.p.length+b.p.length:=⟨_,rfl⟩
  have l1:=ha.n2; have l2:=hb.n2
  have hsteps:Yp a b=64+2*w+4*n*K:=by unfold Yp; rw [hw,hK,hn]
  have hg:Jq a.p b.p=K*(2*(n-2)-1):=by unfold Jq; rw [hK,hn]
  have hgle:Jq a.p b.p+5*K≤2*n*K:=by
    rw [hg,Nat.mul_comm K,←Nat.add_mul]
    exact Nat.mul_le_mul_right _ (by omega)
  have hKp:8≤K:=by omega
  refine Q91 ha hb hne h2 h2' (31+w+2*n*K) (Yp a b) a b k k' ((2^(w+1):Nat):Rat) ?_ h1 h1' (by omega) (by omega) (Ex (by omega)) (Ex (by omega)) ?_
  · rw [hsteps,Nat.mul_add,Nat.mul_assoc 4,Nat.mul_assoc 2 n]; omega
  · have e:2*(2^(w+1))*(2^(Jq a.p b.p+1))≤2^(31+w+2*n*K):=by
      rw [Nat.mul_comm 2,←Nat.pow_succ,←Nat.pow_add]
      exact Nat.pow_le_pow_right (by decide) (by omega)
    have:=Rat.natCast_le_natCast.2 e
    push_cast at this ⊢
    exact this
theorem B8 {a b:Tm} (ha:Va a) (hb:Va b):∃ c,Li a b=some c∧CmpOk a b c:=by
  unfold Li
  by_cases pa:a.point=true
  · rw [if_pos pa]
    exact ⟨_,rfl,Qwf hb (Qm0 ha pa)⟩
  rw [if_neg pa]
  by_cases pb:b.point=true
  · rw [if_pos pb]
    have:=(Qwf ha (Qm0 hb pb)).symm
    rw [Int.neg_neg] at this
    exact ⟨_,rfl,this⟩
  rw [if_neg pb]
  have pa:a.point=false:=by simpa using pa
  have pb:b.point=false:=by simpa using pb
  obtain ⟨L,V⟩:=ha.iv pa
  obtain ⟨L',V'⟩:=hb.iv pb
  have eqa:∀ q,Q3 a q=cq (cz a.p) a.lo a.hi q:=Ko V.l
  have eqb:∀ q,Q3 b q=cq (cz b.p) b.lo b.hi q:=Ko V'.l
  obtain ⟨lo,hlo⟩:∃ lo,lo=if 0<Z2 b.lo a.lo then b.lo else a.lo:=⟨_,rfl⟩
  obtain ⟨hi,hhi⟩:∃ hi,hi=if Z2 b.hi a.hi<0 then b.hi else a.hi:=⟨_,rfl⟩
  show ∃ c,(if Z2 (if 0<Z2 b.lo a.lo then b.lo else a.lo) (if Z2 b.hi a.hi<0 then b.hi else a.hi)<0 then _ else _)=some c∧_
  rw [←hlo,←hhi]
  have e1:(0<Z2 b.lo a.lo)=(a.lo<b.lo):=propext Wz
  have e2:(Z2 b.hi a.hi<0)=(b.hi<a.hi):=propext W0
  have e3:(Z2 lo hi<0)=(lo<hi):=propext W0
  simp only [e1] at hlo
  simp only [e2] at hhi
  simp only [e3]
  obtain ⟨g,g1,g2,g3,g4⟩:=Qxg Zbk ha.tr hb.tr ha.n hb.n ha.b hb.b (by have:=ha.n2; omega)
  obtain ⟨U,W,hc⟩:=g2.c
  obtain ⟨u,hu⟩:=g2.da
  obtain ⟨u',hu'⟩:=g2.db
  have key:=V.same V' (g:=cz g) (u:=u) (u':=u') (U:=U) (W:=W) (k:=1) (by decide) hu hu' (fun t=>by rw [Qg,Qg,Qg,hc]; grind) (a:=lo) (b:=hi) (by rw [hlo]; split <;> grind) (by rw [hlo]; split <;> grind) (by rw [hlo]; split <;> simp) (by rw [hhi]; split <;> grind) (by rw [hhi]; split <;> grind) (by rw [hhi]; split <;> simp)
  have hTE:(∀ q,cq (cz a.p) a.lo a.hi q=cq (cz b.p) b.lo b.hi q)↔TEq a b:=by
    unfold TEq; constructor
    · intro h q; rw [eqa,eqb]; exact h q
    · intro h q; rw [←eqa,←eqb]; exact h q
  rw [hTE] at key
  have fin:¬TEq a b→∃ c,((apF (Yp a b) a b).bind fun r=>some r.2.2)=some c∧CmpOk a b c:=fun hne=>by
    obtain ⟨r,r1,r2⟩:=Qud ha hb hne
    refine ⟨r.2.2,by rw [r1]; rfl,?_⟩
    rcases r2 with h | h
    · exact .inl h
    · exact .inr (.inr h)
  by_cases hl:lo<hi
  · rw [if_pos hl,g1]
    show ∃ c,(if 1<g.length∧Ck g lo hi=true then some 0 else (apF (Yp a b) a b).bind fun r=>some r.2.2)=some c∧_
    by_cases hh:Ck g lo hi=true
    · have hq:=(Cm g lo hi).1 hh
      rw [if_pos ⟨Qiq g2.t g2.n hq,hh⟩]
      exact ⟨0,rfl,.inr (.inl ⟨rfl,key.1 ⟨hl,hq⟩⟩)⟩
    · rw [if_neg fun h=>hh h.2]
      exact fin fun h=>hh ((Cm g lo hi).2 (key.2 h).2)
  · rw [if_neg hl]
    exact fin fun h=>hl (key.2 h).1
def SgT (p:List Int) (a:Tm) (s:Int):Prop:=s=0∧Hn (cz p) (Q3 a)∨s≠0∧NZ (cz p) (Q3 a) s
theorem Q81 {p:List Int} {c:Rat→Int} (hc:Cut c) {x:Rat} (h:c x=0):Z4 p x=0∧Hn (cz p) c∨Z4 p x≠0∧NZ (cz p) c (Z4 p x):=by
  rw [Kz,←Qg]
  rcases Ma hc (cz p) with h1 | ⟨s,hs,h1⟩
  · exact .inl ⟨Zg.2 (Ew hc h h1),h1⟩
  · have:=Qjf hc h h1
    rw [this]; exact .inr ⟨hs,h1⟩
theorem Ru {l:List (List Int)} {lo hi:Rat} (h:lo≤hi):Jc l lo hi=(vv (l.map cz) lo:Int)-(vv (l.map cz) hi:Int):=by
  unfold Jc
  rw [if_neg fun h'=>by have:=W0.1 h'; grind,Tv,Tv]
theorem Q82 {p q:List Int} {L:List (List Rat)} (hp:Qi p) (np:p.length≤9) (lp:2≤p.length) (hS:As (cz q) L) (hpq:Sj (cz q) (cz p)) {a:Tm} (ha:Va a) {s:Int} (hnz:NZ (cz p) (Q3 a) s) {D M k:Nat} {x:Tm} (hx:Hv a D M k x) (hl:x.lo<x.hi) (hv:vv L x.lo≠vv L x.hi):1<(x.hi-x.lo)*((2^(Jq a.p p+1):Nat):Rat):=by
  rcases Q7 ((x.hi-x.lo)*((2^(Jq a.p p+1):Nat):Rat)) 1 with hw | hw
  · exfalso
    have ca:=ha.cut
    obtain ⟨d,dp,x1,y1,c1,c2,hn⟩:=hnz
    obtain ⟨x2,x12,c3⟩:=ca.up x1 c1
    obtain ⟨y2,y12,c4⟩:=ca.dn y1 c2
    have hpow:(0:Rat)≤((2^(Jq a.p p+1):Nat):Rat):=Rat.natCast_nonneg
    obtain ⟨z,zp,z1,z2⟩:=min2 (a:=x2-x1) (b:=y1-y2) (by clear hn; grind) (by clear hn; grind)
    obtain ⟨R0,hR0,r1,r2⟩:=Qep x.lo x.hi
    obtain ⟨u,hu⟩:=hpq
    refine Qw7 (R:=R0+1) (d:=z) ha.tr hp ha.n np ha.n2 lp (by clear hn; grind) zp fun e ep=>?_
    -- q near a
    obtain ⟨q0,q1,q2,q3,q4,q5⟩:∃ q0,x.lo≤q0∧q0≤x.hi∧x2≤q0∧q0≤y2∧Qm (Qh a.p q0)<e:=by
      rcases hx.lo' with h1 | ⟨h1,h2⟩
      · obtain ⟨x',y',hx',hy',hq⟩:=ha.van e ep
        obtain ⟨m,m1,m2,m3,m4⟩:∃ m,Q3 a m=1∧x.lo≤m∧x2≤m∧x'≤m:=by
          rcases Q7 x.lo x2 with e1 | e1
          · rcases Q7 x2 x' with e2 | e2
            · exact ⟨x',hx',by clear hn hq; grind,e2,Rat.le_refl⟩
            · exact ⟨x2,c3,e1,Rat.le_refl,Rat.le_of_lt e2⟩
          · rcases Q7 x.lo x' with e2 | e2
            · exact ⟨x',hx',e2,by clear hn hq; grind,Rat.le_refl⟩
            · exact ⟨x.lo,h1,Rat.le_refl,Rat.le_of_lt e1,Rat.le_of_lt e2⟩
        refine ⟨m,m2,?_,m3,Rat.le_of_lt (ca.lt m1 c4),by rw [←Qg]; exact hq m m4 (Rat.le_of_lt (ca.lt m1 hy'))⟩
        rcases hx.hi' with h3 | h3
        · rcases Q7 m x.hi with e1 | e1
          · exact e1
          · have:=ca.mono x.hi m e1 (by omega); omega
        · exact Rat.le_of_lt (ca.lt m1 h3)
      · exact absurd h2 (by clear hn; grind)
    -- r,a root of p nearly,within the interval
    obtain ⟨b,hb⟩:∃ b,b=evB R0 u:=⟨_,rfl⟩
    have hb0:0≤b:=by rw [hb]; exact S5 hR0 u
    obtain ⟨f,fp,_,hf⟩:=Zy (b:=b) (d:=if e≤d then e else d) hb0 (by split <;> assumption)
    obtain ⟨r,r3,r4,r5⟩:=Qg0 hS hl hv fp
    have hrR:Qm r≤R0:=Cn r1 r2 r3 r4
    have hpr:Qm (Qh p r)<(if e≤d then e else d):=by
      rw [←Qg,hu]
      have:=Zv (Rat.le_of_lt r5) (E6 hrR u)
      rw [←hb] at this
      exact Rat.not_le.1 fun h=>absurd (Rat.le_trans h this) (Rat.not_le.2 hf)
    have hpe:Qm (Qh p r)<e:=by split at hpr <;> (clear hn; grind)
    have hpd:Qm (Qh p r)<d:=by split at hpr <;> (clear hn; grind)
    have hrout:r<x1∨y1<r:=by
      rcases Q7 x1 r with e1 | e1
      · rcases Q7 r y1 with e2 | e2
        · have:=(hn r e1 e2).2
          rw [Qg] at this
          exact absurd this (Rat.not_le.2 hpd)
        · exact .inr e2
      · exact .inl e1
    have hqr:z≤Qm (q0-r):=by
      clear hn
      rcases hrout with h | h
      · have:Qm (q0-r)=q0-r:=by unfold Qm; split <;> grind
        rw [this]; grind
      · have:Qm (q0-r)=r-q0:=by unfold Qm; split <;> grind
        rw [this]; grind
    have hq0R:Qm q0≤R0:=Cn r1 r2 q1 q2
    refine ⟨q0,r,by clear hn; grind,by clear hn; grind,hqr,?_,q5,hpe⟩
    have h1:Qm (q0-r)≤x.hi-x.lo:=by rw [Y3]; clear hn; constructor <;> grind
    exact Rat.le_trans (Rat.mul_le_mul_of_nonneg_right h1 hpow) hw
  · exact hw
theorem Qz3 {p q:List Int} {l:List (List Int)} (hp:Qi p) (np:p.length≤9) (lp:2≤p.length) (hS:As (cz q) (l.map cz)) (hpq:Sj (cz q) (cz p)) {a:Tm} (ha:Va a) {s:Int} (hnz:NZ (cz p) (Q3 a) s) {D M:Nat} (hM:0<M):∀ (j i:Nat) (x:Tm) (k:Nat) (W:Rat),i+1≤j→Hv a D M k x→Ql (D:Int)+Ql (M:Int)+(k+j)≤16777216→x.hi-x.lo≤W→W*((2^(Jq a.p p+1):Nat):Rat)≤((2^i:Nat):Rat)→∃ u k',sgF l j x=some u∧Hv a D M k' u∧(u.point=true∨Jc l u.lo u.hi=0)
  | 0,i,x,k,W,h,_,_,_,_=>by omega
  |
   j+1,i,x,k,W,hj,hx,hs,hW,hK=>by
   simp only [sgF]
   by_cases h:x.point=true∨Jc l x.lo x.hi=0
   · rw [if_pos h]; exact ⟨x,k,rfl,hx,h⟩
   · rw [if_neg h]
     obtain ⟨v,v1,v2,v3,_⟩:=Qfl hx hM (by omega)
     rw [v1]
     show ∃ u k',sgF l j v=some u∧_
     have hpt:¬x.hi≤x.lo:=fun h'=>h (.inl (Ws.2 h'))
     have hl:x.lo<x.hi:=by grind
     have hvv:vv (l.map cz) x.lo≠vv (l.map cz) x.hi:=fun h'=>h (.inr (by rw [Ru (Rat.le_of_lt hl)]; omega))
     have hg:=Q82 hp np lp hS hpq ha hnz hx hl hvv
     have hpow:(0:Rat)≤((2^(Jq a.p p+1):Nat):Rat):=Rat.natCast_nonneg
     have hd:∀ x:Rat,x / 2*2=x:=fun x=>Zx (by decide)
     cases i with
     |
      zero =>
      exfalso
      rw [Nat.pow_zero] at hK
      have:=Rat.mul_le_mul_of_nonneg_right hW hpow
      have h7:((1:Nat):Rat)=1:=rfl
      rw [h7] at hK
      grind
     |
      succ i =>
      refine Qz3 hp np lp hS hpq ha hnz hM j i v (k+1) (W / 2) (by omega) v2 (by omega) ?_ ?_
      · have:=hd (x.hi-x.lo); have:=hd W; grind
      · rw [Qjw i] at hK
        have:=hd W
        have:W / 2*((2^(Jq a.p p+1):Nat):Rat)*2=W*((2^(Jq a.p p+1):Nat):Rat):=by grind
        grind
theorem Qjl {x y:Rat}:∀ {ws:List (List Rat)},(∀ w∈ws,Qp (ev w x)=Qp (ev w y))→Qp (ev (H7 ws) x)=Qp (ev (H7 ws) y)
  | [],_=>by simp only [H7]; rw [X7,X7]
  |
   w::l,h=>by
   simp only [H7]
   rw [Qk,Qk,Jx,Jx,h w (List.mem_cons_self ..),Qjl fun v hv=>h v (List.mem_cons_of_mem _ hv)]
theorem Qte {p q o:List Int} (hpt:Parts p q o) (tp:Qi p) (hp:p.length≠0) {L:List (List Rat)} (hS:As (cz q) L) {x y:Rat} (hxy:x<y) (hv:vv L x=vv L y):∃ s,s≠0∧∀ z,x<z→z≤y→Qp (Qh p z)=s:=by
  obtain ⟨ws,w1,w2⟩:=hpt.ws
  obtain ⟨_,_,_,_,_,p6,p7⟩:=Ky tp hp
  have key:∀ z,x<z→z≤y→∀ w∈ws.map cz,Sm w x z:=fun z h1 h2 w hw=>by
    obtain ⟨v,hv',rfl⟩:=List.mem_map.1 hw
    obtain ⟨u,hu⟩:=(w1 v hv').2
    have a1:=Gj hS h1
    have a2:vv L y≤vv L z:=by
      rcases Classical.em (z=y) with e | e
      · rw [e]; exact Nat.le_refl _
      · exact Gj hS (by grind)
    exact Nk hS hu h1 (by omega)
  have hval:∀ z,Qh p z=(Z9 p:Rat)*ev (H7 (ws.map cz)) z:=fun z=>by rw [p7,w2]
  refine ⟨Qp (Qh p y),fun h0=>?_,fun z h1 h2=>?_⟩
  · rw [hval,Jx] at h0
    rcases Int.mul_eq_zero.1 h0 with h | h
    · exact Pd p6 (Zg.1 h)
    · have:∀ l:List (List Rat),(∀ w∈l,Qp (ev w y)≠0)→Qp (ev (H7 l) y)≠0:=by
        intro l
        induction l with
        | nil=>intro _; simp only [H7]; rw [X7]; decide
        |
         cons w l ih =>
         intro h
         simp only [H7]
         rw [Qk,Jx]
         exact Int.mul_ne_zero (h w (List.mem_cons_self ..)) (ih fun v hv=>h v (List.mem_cons_of_mem _ hv))
      refine this _ (fun w hw=>?_) h
      have hs:=key y hxy Rat.le_refl w hw
      rw [hs.s]; exact hs.n
  · rw [hval,hval,Jx,Jx,Qjl (y:=y) fun w hw=>(key z h1 h2 w hw).s.trans (key y hxy Rat.le_refl w hw).s.symm]
theorem Q74 {g p P:List Int} {c:Rat→Int} (hc:Cut c) (hg:Gc g p P):Hn (cz g) c↔Hn (cz p) c∧Hn (cz P) c:=by
  constructor
  · intro h
    obtain ⟨u,hu⟩:=hg.da
    obtain ⟨v,hv⟩:=hg.db
    exact ⟨Ys hc hu h,Ys hc hv h⟩
  · rintro ⟨h1,h2⟩
    obtain ⟨U,V,hcc⟩:=hg.c
    have a1:Hn (Zq U (cz p)) c:=Ys hc (p:=cz p) (q:=U) (fun t=>by rw [Qk]; grind) h1
    have a2:Hn (Zq V (cz P)) c:=Ys hc (p:=cz P) (q:=V) (fun t=>by rw [Qk]; grind) h2
    exact I8 (fun t=>by rw [Qg,hcc,Qk,Qk,Qg,Qg]) a1 a2
theorem Qz9 {p:List Int} (hp:Okp 9 900 p) {a:Tm} (ha:Va a):∃ s,Qee p a=some s∧SgT p a s:=by
  unfold Qee
  rw [if_neg hp.nz]
  have ca:=ha.cut
  by_cases pa:a.point=true
  · rw [if_pos pa]
    exact ⟨_,rfl,Q81 ca (x:=a.lo) (by rw [Qm0 ha pa,Wn])⟩
  rw [if_neg pa]
  have pa:a.point=false:=by simpa using pa
  obtain ⟨L,V⟩:=ha.iv pa
  have eqa:∀ q,Q3 a q=cq (cz a.p) a.lo a.hi q:=Ko V.l
  obtain ⟨g,g1,g2,g3,g4⟩:=Qxg Zbk hp.t ha.tr hp.l ha.n (Qc hp.b (by omega)) ha.b hp.nz
  obtain ⟨u',hu'⟩:=g2.db
  have hhas:=V.has hu' (a:=a.lo) (b:=a.hi) Rat.le_refl V.l Rat.le_refl
  have hvan:=Q74 ca g2
  rw [show cq (cz a.p) a.lo a.hi=Q3 a from (funext eqa).symm] at hhas
  rw [g1]
  show ∃ s,(if 1<g.length∧Ck g a.lo a.hi=true then some 0 else _)=some s∧_
  by_cases hh:Ck g a.lo a.hi=true
  · have hq:=(Cm g _ _).1 hh
    rw [if_pos ⟨Qiq g2.t g2.n hq,hh⟩]
    exact ⟨0,rfl,.inl ⟨rfl,(hvan.1 (hhas.1 hq).1).1⟩⟩
  · rw [if_neg fun h=>hh h.2]
    have hnv:¬Hn (cz p) (Q3 a):=fun h=>hh ((Cm g _ _).2 (hhas.2 ⟨hvan.2 ⟨h,ha.van⟩,by rw [eqa]; exact Fo Rat.le_refl,by rw [eqa]; exact V.hi1⟩))
    rcases Ma ca (cz p) with h | ⟨s,hs0,hnz⟩
    · exact absurd h hnv
    obtain ⟨q,o,q1,q2,hpt⟩:=Qyi hp
    obtain ⟨q',l,r1,r2,hS,hl0⟩:=chain_ok hp
    rw [q1] at r1
    injection r1 with r1
    subst r1
    rw [r2]
    show ∃ s,((sgF (q::l) (64+2*(Ql a.lo.num+Ql a.hi.num)+4*(a.p.length+p.length)*(Zr a.p+Zr p+(a.p.length+p.length)+8)) a).bind fun x=>some (Z4 p x.hi))=some s∧_
    obtain ⟨w,hw⟩:∃ w,w=Ql a.lo.num+Ql a.hi.num:=⟨_,rfl⟩
    obtain ⟨K,hK⟩:∃ K,K=Zr a.p+Zr p+(a.p.length+p.length)+8:=⟨_,rfl⟩
    obtain ⟨n,hn⟩:∃ n,n=a.p.length+p.length:=⟨_,rfl⟩
    rw [←hw,←hK,←hn]
    obtain ⟨gg,sq⟩:=hpt.sq
    obtain ⟨_,_,_,_,_,pf0,pfe⟩:=Ky hp.t hp.nz
    have hpq:Sj (cz q) (cz p):=⟨W8 (Z9 p) (cz gg),fun t=>by rw [Qg,Qg,Zc,Qg,pfe,sq.e]; grind⟩
    obtain ⟨D,M,k,h1,h2,h3⟩:=ha.hv0
    have b1:=ha.qs.1.1; have b2:=ha.qs.2.1
    have l1:=ha.n; have l2:=hp.l; have l3:=ha.n2
    have s1:=Rh ha.b; have s2:=Rh hp.b
    have hst:4*n*K≤4*18*1926:=Nat.mul_le_mul (by omega) (by omega)
    -- the loop ends
    have hend:∃ u k',sgF (q::l) (64+2*w+4*n*K) a=some u∧Hv a D M k' u∧(u.point=true∨Jc (q::l) u.lo u.hi=0):=by
      by_cases hpl:p.length<2
      · have hq1:(Qo p)=[1]:=hp.pr.1.one (by have:=hp.pr.2.1; omega)
        have hql:q.length<2:=by
          have e:=sq.e
          rw [hq1] at e
          obtain ⟨p1,p2⟩:=X8 (c:=[1]) rfl (by simp) e
          have:=Vd sq.pg.t sq.pq.t (c:=[1]) rfl e p1 p2
          simp at this; omega
        have hbt:Jc (q::l) a.lo a.hi=0:=by
          rw [Ru (Rat.le_of_lt V.l),hl0 hql,sq.pq.one hql]
          have hv1:∀ x:Rat,ev (cz [1]) x=1:=fun x=>by rw [Qg,V0]
          simp only [List.map_cons,List.map_nil,vv,tc,hv1]; omega
        refine ⟨a,k,?_,h1,.inr hbt⟩
        obtain ⟨m,hm⟩:∃ m,64+2*w+4*n*K=m+1:=⟨63+2*w+4*n*K,by omega⟩
        rw [hm]
        simp only [sgF]
        rw [if_pos (.inr hbt)]
      · have hg:Jq a.p p=K*(2*(n-2)-1):=by unfold Jq; rw [hK,hn]
        have hgle:Jq a.p p+5*K≤2*n*K:=by
          rw [hg,Nat.mul_comm K,←Nat.add_mul]
          exact Nat.mul_le_mul_right _ (by omega)
        have hKp:8≤K:=by omega
        have hnK:2*n*K≤4*n*K:=Nat.mul_le_mul_right _ (by omega)
        obtain ⟨u,k',u1,u2,u3⟩:=Qz3 hp.t hp.l (by omega) hS hpq ha hnz h2 (64+2*w+4*n*K) (2+w+2*n*K) a k ((2^(w+1):Nat):Rat) (by omega) h1 (by omega) (Ex (by omega)) (by
          have e:(2^(w+1))*(2^(Jq a.p p+1))≤2^(2+w+2*n*K):=by
            rw [←Nat.pow_add]
            exact Nat.pow_le_pow_right (by decide) (by omega)
          have:=Rat.natCast_le_natCast.2 e
          push_cast at this ⊢
          exact this)
        exact ⟨u,k',u1,u2,u3⟩
    obtain ⟨u,k',u1,u2,u3⟩:=hend
    rw [u1]
    refine ⟨_,rfl,.inr ?_⟩
    have hfin:Z4 p u.hi=s:=by
      rcases u2.hi' with hz | hz
      · have:=Qjf ca hz hnz
        rw [Kz,←Qg]; exact this
      · rcases u2.i with ⟨e,_⟩ | ⟨L',V'⟩
        · have:=u2.c u.hi
          rw [Gs e,e,Wn] at this; omega
        · have hup:u.point=false:=by
            have:¬u.point=true:=fun h=>by have:=Ws.1 h; have:=V'.l; grind
            simpa using this
          rcases u3 with h | h
          · rw [hup] at h; cases h
          · rw [Ru (Rat.le_of_lt V'.l)] at h
            obtain ⟨s',hs',hps⟩:=Qte hpt hp.t hp.nz hS V'.l (by omega)
            obtain ⟨d,dp,x,y,hx,hy,hq⟩:=hnz
            have hlo1:Q3 a u.lo=1:=by
              rcases u2.lo' with h | ⟨_,h⟩
              · exact h
              · have:=V'.l; clear hps hq; grind
            obtain ⟨m,m1,m2,m3⟩:=O3 ca hlo1 hx
            have e1:=(hq m (Rat.le_of_lt m3) (Rat.le_of_lt (ca.lt m1 hy))).1
            have e2:=hps m m2 (Rat.le_of_lt (ca.lt m1 hz))
            have e3:=hps u.hi V'.l Rat.le_refl
            rw [Kz,e3,←e2,←Qg,e1]
    rw [hfin]; exact ⟨hs0,hnz⟩
end Orq

namespace Orq
open Orr Go
structure Dp (p:List Int):Prop where
  t:Qi p
  l:p.length≤9
  b:Bd (860+4*(9-p.length)) p
theorem Qqi:Szz 9 973:=⟨by decide,by decide⟩
theorem Dp.ok {p:List Int} (h:Dp p) (h0:p.length≠0):Okp 9 900 p:=⟨Qqi,h.t,h0,h.l,Qc h.b (by omega)⟩
theorem Dp.der {p:List Int} (h:Dp p):Dp (Zo p):=by
  have hl:=Yx p
  have hl2:=h.l
  refine ⟨Q9 _ _,by omega,?_⟩
  by_cases h0:p.length=0
  · rw [List.eq_nil_of_length_eq_zero (l:=Zo p) (by omega)]; exact Sp
  · exact Qc (Qk2 h.b (by omega)) (by omega)
def Jj (a:Tm) (p:List Int):Int:=(Qee p a).getD 0
theorem Qz1 {p:List Int} (h:Dp p) {a:Tm} (ha:Va a):Qee p a=some (Jj a p)∧SgT p a (Jj a p):=by
  by_cases h0:p.length=0
  · have e:p=[]:=List.eq_nil_of_length_eq_zero h0
    subst e
    refine ⟨rfl,.inl ⟨rfl,fun d dp=>?_⟩⟩
    obtain ⟨x,y,h1,h2,_⟩:=ha.cut.near (e:=1) (by decide)
    exact ⟨x,y,h1,h2,fun q _ _=>by simp only [cz,List.map_nil,ev,Xu]; exact dp⟩
  · obtain ⟨s,h1,h2⟩:=Qz9 (h.ok h0) ha
    have e:Jj a p=s:=by unfold Jj; rw [h1]; rfl
    rw [e]; exact ⟨h1,h2⟩
theorem Q8z {c:Rat→Int} {p q:List Rat} {s:Int} (h:∀ t,ev p t=ev q t) (hp:RS p c s):RS q c s:=by
  obtain ⟨y,h1,h2⟩:=hp
  exact ⟨y,h1,fun z h3 h4=>by rw [←h]; exact h2 z h3 h4⟩
theorem Qdg {a:Tm} (ha:Va a):∀ (k:Nat) (p:List Int),Dp p→p.length≤k→p.length≠0→RS (cz p) (Q3 a) (Ya (Jj a) k p)∧Ya (Jj a) k p≠0
  | 0,p,_,h1,h2=>by omega
  |
   k+1,p,h,h1,h2=>by
   simp only [Ya]
   rw [if_neg h2]
   obtain ⟨_,hs⟩:=Qz1 h ha
   rcases hs with ⟨e,hv⟩ | ⟨e,hn⟩
   · rw [if_pos e]
     have hdn:(Zo p).length≠0:=fun h0=>by
       -- then p is a number that is not 0
       by_cases h3:p.length=1
       · obtain ⟨c,rfl⟩:∃ c,p=[c]:=List.length_eq_one_iff.1 h3
         have hc:c≠0:=by have:=Xj h.t (by simp); simpa using this
         obtain ⟨q,hq,_⟩:=Qjb ha.cut (hv (Qm (c:Rat)) (K5 (Pd hc)))
         rw [Qg] at hq
         have:Qh [c] q=(c:Rat):=by simp only [Qh]; grind
         rw [this] at hq; grind
       · have h4:=Ke p (p.length-2)
         rw [List.eq_nil_of_length_eq_zero h0,show p.length-2+1=p.length-1 by omega] at h4
         have h5:p.getD (p.length-1) 0≠0:=Xj h.t (by omega)
         rcases Int.mul_eq_zero.1 (h4.symm.trans (by simp)) with h6 | h6
         · exact h5 h6
         · omega
     have hl:=Yx p
     obtain ⟨i1,i2⟩:=Qdg ha k (Zo p) h.der (by omega) hdn
     exact ⟨Qgn ha.cut hv (Q8z (fun t=>by rw [Qg,H8,Jd]) i1) i2,i2⟩
   · rw [if_neg e]; exact ⟨Qd8 ha.cut hn,e⟩
theorem Qfi {a:Tm} (ha:Va a) {p:List Int} (h:Dp p) (h0:p.length≠0):RS (cz p) (Q3 a) (Up (Jj a) p)∧Up (Jj a) p≠0:=Qdg ha _ p h (Nat.le_refl _) h0
theorem Qxj {a:Tm}:Up (Jj a) []=0:=rfl
theorem Q3s {l:List Int}:∀ z∈l,z.natAbs≤most l:=by
  have key:∀ (l:List Int) (m:Nat),m≤l.foldl (fun m z=>if m<z.natAbs then z.natAbs else m) m∧∀ z∈l,z.natAbs≤l.foldl (fun m z=>if m<z.natAbs then z.natAbs else m) m:=by
    intro l
    induction l with
    | nil=>exact fun m=>⟨Nat.le_refl _,fun z hz=>by cases hz⟩
    |
     cons y l ih =>
     intro m
     obtain ⟨e,he⟩:∃ e,e=if m<y.natAbs then y.natAbs else m:=⟨_,rfl⟩
     have h1:m≤e∧y.natAbs≤e:=by rw [he]; split <;> omega
     obtain ⟨i1,i2⟩:=ih e
     simp only [List.foldl_cons]
     rw [←he]
     refine ⟨by omega,fun z hz=>?_⟩
     rcases List.mem_cons.1 hz with rfl | hz
     · omega
     · exact i2 z hz
  exact (key l 0).2
theorem Of {p:List Int} (h:Qt p≠0):Zz p*((Qt p).natAbs:Rat)=((Qt p).natAbs:Rat)+((most (p.take (p.length-1)):Nat):Rat):=by
  unfold Zz
  rw [←Xo]
  have hp:0<(Qt p).natAbs:=by omega
  have:=nat_pos hp
  rw [show ((((Qt p).natAbs:Int)):Rat)=((Qt p).natAbs:Rat) from rfl,Zx this]
  rw [Rat.intCast_add]; rfl
theorem Qph {m:Nat} {x:Rat} (hx:1≤Qm x):∀ (p:List Int) (lp:p.length≠0),(∀ z∈p.take (p.length-1),z.natAbs≤m)→Qt p≠0→(m:Rat)≤(Qm x-1)*((Qt p).natAbs:Rat)→((Qt p).natAbs:Rat)≤Qh p x*(((Int.sign (Qt p))*(if x<0∧p.length % 2=0 then -1 else 1):Int):Rat)
  | [],lp,_,_,_=>absurd rfl lp
  |
   [c],_,_,hc,_=>by
   have hl:Qt [c]=c:=rfl
   rw [hl] at hc ⊢
   rw [if_neg (by simp),Int.mul_one]
   have h1:Qh [c] x=(c:Rat):=by simp only [Qh]; grind
   rw [h1]
   have h2:c*Int.sign c=(c.natAbs:Int):=Int.mul_sign_self c
   have:=congrArg (fun z:Int=>(z:Rat)) h2
   rw [Rat.intCast_mul] at this
   rw [this]; exact Rat.le_refl
  |
   c::d::p,_,hm,hc,hb=>by
   have hl:Qt (c::d::p)=Qt (d::p):=by unfold Qt; simp [List.getD_cons_succ]
   have ih:=Qph hx (d::p) (by simp) (fun z hz=>hm z (by
     have e:(c::d::p).take ((c::d::p).length-1)=c::(d::p).take ((d::p).length-1):=by simp
     rw [e]; exact List.mem_cons_of_mem _ hz)) (by rw [←hl]; exact hc) (by rw [←hl]; exact hb)
   rw [hl] at hc hb ⊢
   have hcm:=hm c (by simp)
   obtain ⟨s,hs⟩:∃ s:Int,s=Int.sign (Qt (d::p)):=⟨_,rfl⟩
   have hsv:s=1∨s=-1:=by
     rw [hs]
     rcases Int.lt_or_lt_of_ne hc with h | h
     · exact .inr (Int.sign_eq_neg_one_of_neg h)
     · exact .inl (Int.sign_eq_one_of_pos h)
   rw [←hs] at ih ⊢
   obtain ⟨ld,hld⟩:∃ ld:Rat,ld=((Qt (d::p)).natAbs:Rat):=⟨_,rfl⟩
   rw [←hld] at ih hb ⊢
   have hcq:Qm (c:Rat)≤(m:Rat):=by rw [Jz]; exact Rat.natCast_le_natCast.2 hcm
   rw [Y3] at hcq
   have e1:Qh (c::d::p) x=(c:Rat)+x*Qh (d::p) x:=rfl
   rw [e1]
   have hlen:(c::d::p).length % 2=0↔¬(d::p).length % 2=0:=by simp only [List.length_cons]; omega
   generalize Qh (d::p) x=y at *
   generalize (m:Rat)=mm at *
   generalize (c:Rat)=cc at *
   have hx0:=hx
   by_cases hneg:x<0
   · have hq:Qm x=-x:=by unfold Qm; rw [if_pos hneg]
     rw [hq] at hx0 hb
     by_cases hpar:(d::p).length % 2=0
     · rw [if_pos ⟨hneg,hpar⟩] at ih
       rw [if_neg fun h=>(hlen.1 h.2) hpar]
       rcases hsv with rfl | rfl
       · have ih:ld≤y*(-1):=by simpa using ih
         have:=Rat.mul_le_mul_of_nonneg_left ih (show 0≤-x by grind)
         have e:(((1:Int)*1:Int):Rat)=1:=rfl
         rw [e]; grind
       · have ih:ld≤y*1:=by simpa using ih
         have:=Rat.mul_le_mul_of_nonneg_left ih (show 0≤-x by grind)
         have e:(((-1:Int)*1:Int):Rat)=-1:=rfl
         rw [e]; grind
     · rw [if_neg fun h=>hpar h.2] at ih
       rw [if_pos ⟨hneg,hlen.2 hpar⟩]
       rcases hsv with rfl | rfl
       · have ih:ld≤y*1:=by simpa using ih
         have:=Rat.mul_le_mul_of_nonneg_left ih (show 0≤-x by grind)
         have e:(((1:Int)*-1:Int):Rat)=-1:=rfl
         rw [e]; grind
       · have ih:ld≤y*(-1):=by simpa using ih
         have:=Rat.mul_le_mul_of_nonneg_left ih (show 0≤-x by grind)
         have e:(((-1:Int)*-1:Int):Rat)=1:=rfl
         rw [e]; grind
   · have hq:Qm x=x:=by unfold Qm; rw [if_neg hneg]
     rw [hq] at hx0 hb
     rw [if_neg fun h=>hneg h.1] at ih ⊢
     rcases hsv with rfl | rfl
     · have ih:ld≤y*1:=by simpa using ih
       have:=Rat.mul_le_mul_of_nonneg_left ih (show 0≤x by grind)
       have e:(((1:Int)*1:Int):Rat)=1:=rfl
       rw [e]; grind
     · have ih:ld≤y*(-1):=by simpa using ih
       have:=Rat.mul_le_mul_of_nonneg_left ih (show 0≤x by grind)
       have e:(((-1:Int)*1:Int):Rat)=-1:=rfl
       rw [e]; grind
theorem Qk6 {p:List Int} (tp:Qi p) (lp:p.length≠0) {x:Rat} (hx:Zz p≤Qm x):1≤Qm (Qh p x)∧(0≤x→Z4 p x=Cf p)∧(x<0→Z4 p x=Se p):=by
  have hl:=U3 tp lp
  have hpos:0<(Qt p).natAbs:=by omega
  have h1:(1:Rat)≤((Qt p).natAbs:Rat):=by
    have:((1:Nat):Rat)≤((Qt p).natAbs:Rat):=Rat.natCast_le_natCast.2 hpos
    exact this
  have hm0:(0:Rat)≤((most (p.take (p.length-1)):Nat):Rat):=Rat.natCast_nonneg
  have hb:=Of hl
  have hx1:=Rat.mul_le_mul_of_nonneg_right hx (show (0:Rat)≤((Qt p).natAbs:Rat) by grind)
  have hx2:1≤Qm x:=by
    rcases Q7 1 (Qm x) with h | h
    · exact h
    · exfalso
      have:=Rat.mul_lt_mul_of_pos_right h (show (0:Rat)<((Qt p).natAbs:Rat) by grind)
      grind
  have key:=Qph (m:=most (p.take (p.length-1))) hx2 p lp (fun z hz=>Q3s z hz) hl (by grind)
  obtain ⟨s,hs⟩:∃ s:Int,s=Int.sign (Qt p)*(if x<0∧p.length % 2=0 then -1 else 1):=⟨_,rfl⟩
  rw [←hs] at key
  have hsv:s=1∨s=-1:=by
    rw [hs]
    rcases Int.lt_or_lt_of_ne hl with h | h
    · rw [Int.sign_eq_neg_one_of_neg h]; split <;> simp
    · rw [Int.sign_eq_one_of_pos h]; split <;> simp
  have hsg:Z4 p x=s∧1≤Qm (Qh p x):=by
    rw [Kz]
    rcases hsv with e | e
    · rw [e] at key ⊢
      have key:((Qt p).natAbs:Rat)≤Qh p x:=by simpa using key
      exact ⟨Xh.2 (by grind),by unfold Qm; rw [if_neg (by grind)]; grind⟩
    · rw [e] at key ⊢
      have key:((Qt p).natAbs:Rat)≤Qh p x*(-1):=by simpa using key
      exact ⟨J5.2 (by grind),by unfold Qm; rw [if_pos (by grind)]; grind⟩
  refine ⟨hsg.2,fun h=>?_,fun h=>?_⟩
  · rw [hsg.1,hs,if_neg fun h'=>by have:=h'.1; grind]; unfold Cf; omega
  · rw [hsg.1,hs]; unfold Se
    by_cases he:p.length % 2=0
    · rw [if_pos ⟨h,he⟩,if_pos he]; omega
    · rw [if_neg fun h'=>he h'.2,if_neg he]; omega
theorem P8 {f g:List Int→Int}:∀ {l:List (List Int)} (s:Nat×Int),(∀ p∈l,f p=g p)→l.foldl (Yh f) s=l.foldl (Yh g) s
  | [],s,_=>rfl
  |
   p::l,s,h=>by
   simp only [List.foldl_cons]
   have e:Yh f s p=Yh g s p:=by unfold Yh; rw [h p (List.mem_cons_self ..)]
   rw [e]; exact P8 _ fun q hq=>h q (List.mem_cons_of_mem _ hq)
theorem Qpd:∀ (l:List (List Int)),(∀ p∈l,Qi p∧p.length≠0)→∃ X:Rat,0<X∧∀ x,X≤x→(∀ p∈l,Z4 p x=Cf p)∧∀ p∈l,Z4 p (-x)=Se p
  | [],_=>⟨1,by decide,fun x _=>⟨(fun p hp=>by cases hp),(fun p hp=>by cases hp)⟩⟩
  |
   p::l,h=>by
   obtain ⟨X,hX,hl⟩:=Qpd l fun q hq=>h q (List.mem_cons_of_mem _ hq)
   obtain ⟨tp,lp⟩:=h p (List.mem_cons_self ..)
   refine ⟨X+Qm (Zz p),by have:=Xg (Zz p); grind,fun x hx=>?_⟩
   have hb0:=Xg (Zz p)
   have hb1:Zz p≤Qm (Zz p):=by unfold Qm; split <;> grind
   obtain ⟨l1,l2⟩:=hl x (by grind)
   have e1:Qm x=x:=by unfold Qm; rw [if_neg (by grind)]
   have e2:Qm (-x)=x:=by rw [U7,e1]
   refine ⟨fun q hq=>?_,fun q hq=>?_⟩
   · rcases List.mem_cons.1 hq with rfl | hq
     · exact (Qk6 tp lp (x:=x) (by rw [e1]; grind)).2.1 (by grind)
     · exact l1 q hq
   · rcases List.mem_cons.1 hq with rfl | hq
     · exact (Qk6 tp lp (x:=-x) (by rw [e2]; grind)).2.2 (by grind)
     · exact l2 q hq
theorem Qnu {q:List Int} {L:List (List Rat)} (hS:As (cz q) L) (tq:Qi q) (lq:q.length≠0) {x y:Rat} (hxy:x<y) (h:Zz q≤x∨y≤-Zz q) (hb:0<Zz q):vv L x=vv L y:=by
  rcases Classical.em (vv L x=vv L y) with e | e
  · exact e
  · exfalso
    obtain ⟨r,r1,r2,r3⟩:=Qg0 hS hxy e (d:=1) (by decide)
    have:=(Qk6 tq lq (x:=r) (by rcases h with h | h <;> (unfold Qm; split <;> grind))).1
    rw [Qg] at r3; grind
theorem Lb {p:List Int} (h:Qt p≠0):1≤Zz p:=by
  have hb:=Of h
  have hp:=nat_pos (show 0<(Qt p).natAbs by omega)
  have hm0:(0:Rat)≤((most (p.take (p.length-1)):Nat):Rat):=Rat.natCast_nonneg
  rcases Q7 1 (Zz p) with h' | h'
  · exact h'
  · have:=Rat.mul_lt_mul_of_pos_right h' hp; grind
theorem Qto {q:List Int} {l:List (List Int)} (hS:As (cz q) ((q::l).map cz)) (hl:∀ p∈q::l,Qi p∧p.length≠0):P0 (q::l)=(vv ((q::l).map cz) (-Zz q):Int)-(vv ((q::l).map cz) (Zz q):Int):=by
  obtain ⟨tq,lq⟩:=hl q (List.mem_cons_self ..)
  have hb:=Lb (U3 tq lq)
  obtain ⟨X,hX,hx⟩:=Qpd (q::l) hl
  obtain ⟨h1,h2⟩:=hx (X+Zz q) (by grind)
  have e1:Ki Cf (q::l)=vv ((q::l).map cz) (X+Zz q):=by
    rw [←Tv]; unfold Wa Ki
    rw [P8 (f:=Cf) (g:=fun p=>Z4 p (X+Zz q)) (0,0) fun p hp=>(h1 p hp).symm]
  have e2:Ki Se (q::l)=vv ((q::l).map cz) (-(X+Zz q)):=by
    rw [←Tv]; unfold Wa Ki
    rw [P8 (f:=Se) (g:=fun p=>Z4 p (-(X+Zz q))) (0,0) fun p hp=>(h2 p hp).symm]
  unfold P0
  rw [e1,e2,Qnu hS tq lq (x:=-(X+Zz q)) (y:=-Zz q) (by grind) (.inr Rat.le_refl) (by grind),←Qnu hS tq lq (x:=Zz q) (y:=X+Zz q) (by grind) (.inl Rat.le_refl) (by grind)]
theorem Q8j {f:List Rat} {L:List (List Rat)} (hS:As f L) {x y:Rat} (hxy:x<y) (hv:vv L y+2≤vv L x):∃ m,x<m∧m<y∧vv L m<vv L x∧vv L y<vv L m∧ev f m≠0:=by
  obtain ⟨R,hR,hx,hy⟩:=Qep x y
  obtain ⟨e,ep,he⟩:=Q0v hS R hR
  have key:∀ n:Nat,∀ x,Qm x≤R→x<y→vv L y+2≤vv L x→y-x≤(n:Rat)*e→∃ m,x<m∧m<y∧vv L m<vv L x∧vv L y<vv L m:=by
    intro n
    induction n with
    | zero=>intro x _ hxy _ hn; rw [show ((0:Nat):Rat)=0 from rfl] at hn; exfalso; clear he; grind
    |
     succ n ih =>
     intro x hx hxy hv hn
     have hn':(((n+1:Nat):Rat))=(n:Rat)+1:=by push_cast; rfl
     rw [hn'] at hn
     rcases Q7 (y-x) e with h1 | h1
     · have:=he x y hx hy hxy h1; omega
     · have hm:Qm (x+e)≤R:=Cn hx hy (by clear he ih; grind) (by clear he ih; grind)
       have h2:=he x (x+e) hx hm (by clear he ih; grind) (by clear he ih; grind)
       have h3:=Gj hS (show x<x+e by clear he ih; grind)
       by_cases h4:vv L x=vv L (x+e)
       · obtain ⟨m,m1,m2,m3,m4⟩:=ih (x+e) hm (by clear he ih; grind) (by omega) (by clear he ih; grind)
         exact ⟨m,by clear he ih; grind,m2,by omega,m4⟩
       · exact ⟨x+e,by clear he ih; grind,by clear he ih; grind,by omega,by omega⟩
  obtain ⟨n,hn⟩:=So (z:=y-x) ep
  obtain ⟨m,m1,m2,m3,m4⟩:=key n x hx hxy hv hn
  rcases Classical.em (ev f m=0) with h0 | h0
  · -- a little farther on
    obtain ⟨e2,e2p,hl⟩:=loc hR hS (w:=f) (u:=[1]) (fun t=>by rw [X7]; grind)
    obtain ⟨d,dp,d1,d2⟩:=min2 (a:=e2) (b:=(y-m) / 2) e2p (Fq (by clear he key hl; grind) (by decide))
    have h2:(y-m) / 2*2=y-m:=Zx (by decide)
    have hmR:Qm m≤R:=Cn hx hy (Rat.le_of_lt m1) (Rat.le_of_lt m2)
    have hmR2:Qm (m+d)≤R:=Cn hx hy (by clear he key hl; grind) (by clear he key hl; grind)
    rcases hl m (m+d) hmR hmR2 (by clear he key hl; grind) (by clear he key hl; grind) with ⟨p1,p2,_⟩ | ⟨_,p1,_,p3,_⟩
    · refine ⟨m+d,by clear he key hl; grind,by clear he key hl; grind,by omega,by omega,fun h'=>?_⟩
      have:=p2.s
      rw [Zg.2 h'] at this; exact p2.n this.symm
    · rw [Zg.2 h0] at p3; exact absurd p3.symm p1
  · exact ⟨m,m1,m2,m3,m4,h0⟩
theorem Q49 {q:List Int} {L:List (List Rat)} (hS:As (cz q) L) (tq:Qi q) (nq:q.length≤9) (lq:2≤q.length) {lo hi:Rat} (hl:lo<hi) (hv:vv L hi+2≤vv L lo):1<(hi-lo)*((2^(Jq q q+1):Nat):Rat):=by
  rcases Q7 ((hi-lo)*((2^(Jq q q+1):Nat):Rat)) 1 with hw | hw
  · exfalso
    have hpow:(0:Rat)≤((2^(Jq q q+1):Nat):Rat):=Rat.natCast_nonneg
    obtain ⟨m,m1,m2,m3,m4,m0⟩:=Q8j hS hl hv
    obtain ⟨R,hR,r1,r2⟩:=Qep lo hi
    have hd:=K5 m0
    obtain ⟨d,dp,_,db⟩:=Zy (b:=dqB R (cz q)) (d:=Qm (ev (cz q) m) / 2) (Vk hR _) (Fq hd (by decide))
    have hd2:Qm (ev (cz q) m) / 2*2=Qm (ev (cz q) m):=Zx (by decide)
    have hmR:Qm m≤R:=Cn r1 r2 (Rat.le_of_lt m1) (Rat.le_of_lt m2)
    -- near m q is not small
    have hnear:∀ r,Qm r≤R→Qm (ev (cz q) r)<Qm (ev (cz q) m) / 2→d<Qm (r-m):=fun r hr hs=>by
      rcases Q7 (Qm (r-m)) d with h | h
      · exfalso
        have h1:=Yy (p:=cz q) hmR hr hR h db
        have h2:=Jv (ev (cz q) m-ev (cz q) r) (ev (cz q) r)
        rw [show ev (cz q) m-ev (cz q) r+ev (cz q) r=ev (cz q) m by grind,Qqz] at h2
        grind
      · exact h
    refine Qw7 (R:=R+1) (d:=d+d) tq tq nq nq lq lq (by grind) (by grind) fun e ep=>?_
    obtain ⟨e',ep',e1,e2⟩:=min2 (a:=e) (b:=Qm (ev (cz q) m) / 2) ep (Fq hd (by decide))
    obtain ⟨x,x1,x2,x3⟩:=Qg0 hS m1 (by omega) ep'
    obtain ⟨y,y1,y2,y3⟩:=Qg0 hS m2 (by omega) ep'
    have hxR:Qm x≤R:=Cn r1 r2 x1 (by grind)
    have hyR:Qm y≤R:=Cn r1 r2 (by grind) y2
    have nx:=hnear x hxR (by grind)
    have ny:=hnear y hyR (by grind)
    have ex:Qm (x-m)=m-x:=by unfold Qm; split <;> grind
    have ey:Qm (y-m)=y-m:=by unfold Qm; split <;> grind
    rw [ex] at nx
    rw [ey] at ny
    have exy:Qm (x-y)=y-x:=by unfold Qm; split <;> grind
    refine ⟨x,y,by grind,by grind,by rw [exy]; grind,?_,by rw [←Qg]; grind,by rw [←Qg]; grind⟩
    rw [exy]
    exact Rat.le_trans (Rat.mul_le_mul_of_nonneg_right (show y-x≤hi-lo by grind) hpow) hw
  · exact hw
end Orq
