/- T10 T11 T12 T13 T14 T15 T16 T17 T18 T19 T20 T21 T22 T23 -/
import Derived.Test.YtbhhcpcpionelabGreatPart05
import Derived.Test.YtbhhcpcpionelabGreatPart00
set_option linter.all false
namespace Orq
def AI (A B:Ul) (b J J' n k j:Nat):Int:=if n<b*J then PR (n / J) (n % J) (fA A) k j else PR ((n-b*J) / J') ((n-b*J) % J') (gc B) k j
theorem Qkk {F:Nat->Nat->Int} {h:Nat} (hF:∀ k j,(F k j).natAbs<=h) (i j' k j:Nat):(PR i j' F k j).natAbs<=h:=by
 unfold PR; split
 ·split
  ·exact hF _ _
  ·exact Qh _
 ·exact Qh _
theorem Qr3 {i b J j:Nat} (hi:i<b) (hj:j<J):i*J+j<b*J:=by
 have:(i+1)*J<=b*J:=Qz J hi;rw [Xc] at this; omega
theorem HO {i J j:Nat} (hj:j<J):(i*J+j) / J=i/\(i*J+j) % J=j:=by
 rw [Zq,W8 (by omega),W9,V4 hj,Xx hj]; exact ⟨by omega,rfl⟩
theorem zD (A B:Ul) (a b J J':Nat) (v:Nat->Int) (k j:Nat):sm (b*J+a*J') (λn=>AI A B b J J' n k j*v n) =
 (sm b λi=>sm J λj1=>PR i j1 (fA A) k j*v (i*J+j1))+sm a λi=>sm J' λj1=>PR i j1 (gc B) k j*v (b*J+(i*J'+j1)):=by
 rw [cN,cD,cD];congr 1
 ·refine Lb b λi hi=>Lb J λj1 hj=>?_
  unfold AI;rw [if_pos (Qr3 hi hj),(HO hj).1,(HO hj).2]
 ·refine Lb a λi hi=>Lb J' λj1 hj=>?_
  unfold AI;rw [if_neg (by omega),Jk,(HO hj).1,(HO hj).2]
theorem Qxy (A:Ul) (v:Nat->Int) {i J k j:Nat} (hj:j<J):(sm J λj1=>PR i j1 (fA A) k j*v (i*J+j1))=if i<=k then A.getD (k-i) 0*v (i*J+j) else 0:=by
 rw [ER (k:=j) J hj λj1 _ hne=>?_]
 ·unfold PR fA;by_cases h:i<=k
  ·rw [if_pos h,if_pos h,if_pos (Ql _),if_pos (Ki _)]
  ·rw [if_neg h,if_neg h,Yw]
 ·unfold PR fA;by_cases h:i<=k
  ·rw [if_pos h];by_cases h':j1<=j
   ·rw [if_pos h',if_neg (by omega),Yw]
   ·rw [if_neg h',Yw]
  ·rw [if_neg h,Yw]
section
variable {A B:Ul} {a b J J':Nat} (hA:A.length=a+1) (hB:B.length=b+1) (lA:A.getD a 0≠0) (lB:B.getD b 0≠0) (hJ:J=J'+b) {v:Nat->Int} (hW:∀ k j,k<a+b->j<J->sm (b*J+a*J') (λn=>AI A B b J J' n k j*v n)=0)
include hA lA hW in
theorem Qrt {jj:Nat} (hj:jj<J) (hV:∀ k,a<=k->k<a+b->(sm a λi=>sm J' λj1=>PR i j1 (gc B) k jj*v (b*J+(i*J'+j1)))=0):∀ d i,i<b->b-i<=d->v (i*J+jj)=0:=by
 intro d
 induction d with
 | zero=>intro i hi hd; omega
 |
  succ d ih =>
  intro i hi hd;have h1:=hW (i+a) jj (by omega) hj;rw [zD,hV (i+a) (by omega) (by omega)] at h1;rw [Lb b (λi' hi'=>Qxy A v hj)] at h1;rw [ER (k:=i) b hi λi' hi' hne=>?_] at h1
  ·rw [if_pos (by omega),Jk,Int.add_zero] at h1;rcases Yd.1 h1 with h2 | h2
   ·exact absurd h2 lA
   ·exact h2
  ·rcases Zd i i' with h | h
   ·rw [ih i' hi' (by omega)]; simp
   ·rw [if_pos (by omega),Qi,Qw (by omega)]; simp
include hA hB lA lB hJ hW in
theorem Qx4:∀ d js,js<J'->J'-js<=d->∀ i,i<a->v (b*J+(i*J'+js))=0:=by
 intro d
 induction d with
 | zero=>intro js hi hd; omega
 |
  succ d ih =>
  intro js hjs hd i hi;have hin:∀ i' k,i'<a->(sm J' λj1=>PR i' j1 (gc B) k (js+b)*v (b*J+(i'*J'+j1)))=if i'=k then gc B 0 b*v (b*J+(i'*J'+js)) else 0:=λi' k hi'=>by
   rw [ER (k:=js) J' hjs λj1 hj1 hne=>?_]
   ·unfold PR;by_cases h:i'<=k
    ·rw [if_pos h,if_pos (by omega),Jk];by_cases h':i'=k
     ·rw [if_pos h',h',Ki]
     ·rw [if_neg h',MW B _ _ (by omega),Yw]
    ·rw [if_neg h,if_neg (by omega),Yw]
   ·rcases Zd js j1 with h | h
    ·rw [ih j1 hj1 (by omega) i' hi',Wc]
    ·unfold PR;by_cases h':i'<=k
     ·rw [if_pos h',if_pos (by omega),MW B _ _ (by omega),Yw]
     ·rw [if_neg h',Yw]
  have hU:=Qrt hA lA hW (jj:=js+b) (by omega) (λk hk hk'=>YM a λi' hi'=>by rw [hin i' k hi',if_neg (by omega)]) (b+1);have h1:=hW i (js+b) (by omega) (by omega);rw [zD,Lb a (λi' hi'=>hin i' i hi')] at h1;rw [YM b λi' hi'=>by
   rw [Qxy A v (by omega),hU i' hi' (by omega)]; simp] at h1
  rw [ER (k:=i) a hi λi' hi' hne=>if_neg hne,if_pos rfl,Int.zero_add] at h1;rcases Yd.1 h1 with h2 | h2
  ·have:=Qhi B b hB; rw [h2] at this; omega
  ·exact h2
include hA hB lA lB hJ hW in
theorem Qdz:∀ n,n<b*J+a*J'->v n=0:=by
 intro n hn;have hV:=Qx4 hA hB lA lB hJ hW;rcases Zd n (b*J) with h | h
 ·have hJp:0<J:=by
   rcases Q3 J with e | e
   ·rw [e,Yx] at h; omega
   ·exact e
  have e1:=Z7 n hJp;have e2:n / J<b:=Jc (by rw [Zq]; exact h);have:=Qrt hA lA hW e1 (λk _ _=>YM a λi hi=>YM J' λj1 hj1=>by rw [hV J' j1 hj1 (by omega) i hi,Wc]) (b+1) (n / J) e2 (Qc (Nat.sub_le _ _) (Nat.le_succ _));rwa [Zq,Xg] at this
 ·have hJp:0<J':=by
   rcases Q3 J' with e | e
   ·rw [e,Yx] at hn; omega
   ·exact e
  have e1:=Z7 (n-b*J) hJp;have e2:(n-b*J) / J'<a:=Jc (by rw [Zq J' a]; omega);have:=hV J' _ e1 (by omega) _ e2;rw [Zq ((n-b*J) / J'),Xg] at this;rwa [show b*J+(n-b*J)=n by omega] at this
end
theorem YR {R x:Rat} (h1:1<=R) (hx:Fc x<=R):∀ k:Nat,Fc (x^k)<=R^k/\1<=R^k
 | 0=>by rw [Xi,Xi]; exact ⟨by decide,by decide⟩
 |
  k+1=>by
  obtain ⟨i1,i2⟩:=YR h1 hx k;rw [Xa,Xa];have:=B7 (a:=1) (c:=1) (by decide) i2 (by decide) h1;exact ⟨G5 i1 hx,by grind⟩
theorem oP {R:Rat} (h1:1<=R) {i:Nat}:∀ k,i<=k->R^i<=R^k
 | 0,h=>by rw [show i=0 by omega]; exact Qp
 |
  k+1,h=>by
  rcases Vm h with e | e
  ·have:=oP h1 (i:=i) k (by omega);have h2:=(YR h1 (x:=0) (by rw [H8]; grind) k).2;rw [Xa];have:=B7 (a:=R^k) (b:=R^k) (c:=1) (d:=R) (by grind) Qp (by decide) h1;grind
  ·rw [e]; exact Qp
theorem Qkj {F:Nat->Nat->Int} {i j' K J:Nat} {x y R X:Rat} {K2 J2:Nat} (h1:1<=R) (hx:Fc x<=R) (hy:Fc y<=R) (hK:K=i+K2) (hJ:J=j'+J2) (hF:E2 F K2 J2 x y=X):Fc (E2 (PR i j' F) K J x y)<=R^(K+J)*Fc X:=by
 subst hK; subst hJ;rw [CU,hF,Ie];have a1:=(YR h1 hy i).1;have a2:=(YR h1 hx j').1;have a3:=G5 a1 a2;rw [<-FB] at a3;have a4:=oP h1 (i:=i+j') (i+K2+(j'+J2)) (by omega);exact B7 (Ho _) (Zk a3 a4) (Ho _) Qp
theorem Qv1 {A B:Ul} {a b h:Nat} (hA:A.length=a+1) (hB:B.length=b+1) (lA:A.getD a 0≠0) (lB:B.getD b 0≠0) (ha:0<a) (hb:0<b) (h0:1<=h) (bA:∀ k,(A.getD k 0).natAbs<=h) (bB:gB B<=h) {J J' N H:Nat} (hJ:J=2*(a*b)) (hJ':J=J'+b) (hN:N=b*J+a*J') (hH:H=(2*(N*h))^(2*(a+b-1))) :
 ∃ w:Nat->Int,(∃ j,j<J/\w j≠0)/\(∀ j,(w j).natAbs<=N*(h*H))/\∀ R:Rat,1<=R->∃ C:Rat,0<=C/\∀ x y,Fc x<=R->Fc y<=R->Fc (sq J λj=>(w j:Rat)*x^j)<=C*(Fc (U3 A y)+Fc (U3 B (y-x))):=by
 have hab:0<a*b:=J4 ha hb;have hbd:∀ n k j,(AI A B b J J' n k j).natAbs<=h:=λn k j=>by
  unfold AI
  split
  ·exact Qkk (λk j=>by unfold fA; split; exact bA k; exact Nat.zero_le _) _ _ _ _
  ·exact Qkk (λk j=>Qc (Qhh B k j) bB) _ _ _ _
 have hJp:0<J:=by omega
 have hNp:1<=N:=by
  have:0<b*J:=J4 hb hJp;omega
 have hNh:1<=N*h:=J4 hNp h0;obtain ⟨E,hE⟩:=nmE ((a+b-1)*J);have hNE:N=E+a*b:=by
  have e1:(a+b-1)*J+J=(a+b)*J:=by
   rw [<-Xc]; congr 1; omega
  have e2:a*J=a*J'+a*b:=by rw [hJ',Xk]
  rw [Xm] at e1;omega
 have hc:(2*(N*(h*H))+1)^E<(H+1)^N:=by
  have c1:2*(N*(h*H))+1<=2*(N*h)*(H+1):=by
   rw [Xk,Yc,X4 2,X4 N]; omega
  refine Z2 (Nat.pow_le_pow_left c1 E) ?_;rw [Nat.mul_pow,hNE,Xh,Zq];refine Nat.mul_lt_mul_of_pos_left ?_ (Z1 (by omega));have e1:(2*(N*h))^E=H^(a*b):=by
   rw [hH,<-Wm,hE,hJ]; congr 1;rw [Zq 2 (a+b-1),X4]
  rw [<-hNE,e1];exact Nat.pow_lt_pow_left (by omega) (by omega)
 obtain ⟨v,v1,⟨n0,n1,n2⟩,v3⟩:=Qv5 (M:=λe n=>AI A B b J J' n (e / J+1) (e % J)) (h:=h) (N:=N) (E:=E) (H:=H) (λe n=>hbd n _ _) hc;have hW:∀ k j,1<=k->k<a+b->j<J->sm N (λn=>AI A B b J J' n k j*v n)=0:=λk j k1 k2 hj=>by
  have:=v3 ((k-1)*J+j) (by rw [hE]; exact Qr3 (by omega) hj);rwa [(HO hj).1,(HO hj).2,show k-1+1=k by omega] at this
 refine ⟨λj=>sm N λn=>AI A B b J J' n 0 j*v n,?_,λj=>?_,λR hR=>?_⟩
 ·rcases Classical.em (∃ j,j<J/\(sm N λn=>AI A B b J J' n 0 j*v n)≠0) with e | e
  ·exact e
  ·exfalso;refine n2 (Qdz hA hB lA lB hJ' (v:=v) (λk j hk hj=>?_) n0 (by rw [<-hN]; exact n1));rw [<-hN];rcases Q3 k with e' | e'
   ·subst e';rcases Classical.em ((sm N λn=>AI A B b J J' n 0 j*v n)=0) with e2 | e2
    ·exact e2
    ·exact absurd ⟨j,hj,e2⟩ e
   ·exact hW k j e' hk hj
 ·refine Qkq N λn _=>?_
  rw [J8];exact Za (hbd n 0 j) (v1 n)
 ·have hRp:∀ k:Nat,1<=R^k:=λk=>(YR hR (x:=0) (by rw [H8]; grind) k).2
  have hHn:(0:Rat)<=(H:Rat):=Xl;have hNn:(0:Rat)<=(N:Rat):=Xl;refine ⟨(N:Rat)*((H:Rat)*R^(a+b+J)),Np hNn (Np hHn (by have:=hRp (a+b+J); grind)),λx y hx hy=>?_⟩;have e1:(sq J λj=>((sm N λn=>AI A B b J J' n 0 j*v n:Int):Rat)*x^j)=E2 (λk j=>sm N λn=>AI A B b J J' n k j*v n) (a+b) J x y:=by
   unfold E2;obtain ⟨m,hm⟩:∃ m,a+b=m+1:=⟨a+b-1,by omega⟩;rw [hm,Ow,Cg (n:=m)]
   ·have:(sq J λj=>((sm N λn=>AI A B b J J' n 0 j*v n:Int):Rat)*(y^0*x^j))=sq J λj=>((sm N λn=>AI A B b J J' n 0 j*v n:Int):Rat)*x^j:=Pg J λj _=>by rw [Xi]; grind
    rw [this]; grind
   ·intro k hk;refine Cg J λj hj=>?_
    show ((sm N λn=>AI A B b J J' n (k+1) j*v n:Int):Rat)*_=0;rw [hW (k+1) j (by omega) (by omega) hj,show ((0:Int):Rat)=0 from rfl]; grind
  rw [e1,Qgu];have key:∀ n,n<N->Fc ((v n:Rat)*E2 (AI A B b J J' n) (a+b) J x y)<=(H:Rat)*(R^(a+b+J)*(Fc (U3 A y)+Fc (U3 B (y-x)))):=λn hn=>by
   have hvn:Fc (v n:Rat)<=(H:Rat):=by
    have h1:=v1 n;have h2:(v n)<=(H:Int):=by omega
    have h3:-(H:Int)<=v n:=by omega
    have h2:=Je.2 h2;have h3:=Je.2 h3;rw [Vn] at h3;rw [Md]; exact ⟨h3,h2⟩
   refine G5 hvn ?_;have hRk:=hRp (a+b+J);have n1:=Ho (U3 A y);have n2:=Ho (U3 B (y-x));rcases Zd n (b*J) with h | h
   ·have e:AI A B b J J' n=PR (n / J) (n % J) (fA A):=by funext k j; unfold AI; rw [if_pos h]
    have d1:n / J<b:=Jc (by rw [Zq]; exact h);have d2:=Z7 n hJp;rw [e];refine Zk (Qkj (K2:=a+b-n / J) (J2:=J-n % J) hR hx hy (by omega) (by omega) (X:=U3 A y) ?_) (B7 (by grind) Qp n1 (by grind));obtain ⟨m,hm⟩:∃ m,J-n % J=m+1:=⟨J-n % J-1,by omega⟩;rw [hm]; exact Qx6 A _ _ x y (by omega)
   ·have e:AI A B b J J' n=PR ((n-b*J) / J') ((n-b*J) % J') (gc B):=by funext k j; unfold AI; rw [if_neg (by omega)]
    have hJp':0<J':=by
     rcases Q3 J' with e | e
     ·rw [e,Yx] at hN; omega
     ·exact e
    have d1:(n-b*J) / J'<a:=Jc (by rw [Zq J' a]; omega);have d2:=Z7 (n-b*J) hJp';rw [e];refine Zk (Qkj (K2:=a+b-(n-b*J) / J') (J2:=J-(n-b*J) % J') hR hx hy (by omega) (by omega) (X:=U3 B (y-x)) ?_) (B7 (by grind) Qp n2 (by grind));exact Quf x y B _ _ (by omega) (by omega)
  have:=Qsh N key;refine Zk this ?_;have:(N:Rat)*((H:Rat)*(R^(a+b+J)*(Fc (U3 A y)+Fc (U3 B (y-x)))))=(N:Rat)*((H:Rat)*R^(a+b+J))*(Fc (U3 A y)+Fc (U3 B (y-x))):=by grind
  rw [this]; exact Qp
end Orq
namespace Orq
theorem Qku {w:Nat->Int} {x:Rat} {D:Rat} (hx:Fc x*2<=1) (hw:∀ j,Fc (w j:Rat)<=D):∀ J (k:Nat),Fc (sq J λj=>(w (k+j):Rat)*x^j)<=2*D
 | 0,k=>by have:=hw 0; have:=Ho (w 0:Rat); simp only [sq,H8]; clear hw; grind
 |
  J+1,k=>by
  have ih:=Qku hx hw J (k+1);rw [Ow];have e:(sq J λi=>(w (k+(i+1)):Rat)*x^(i+1))=x*sq J λi=>(w (k+1+i):Rat)*x^i:=by
   rw [<-JY]; exact Pg J λi _=>by rw [Xa,show k+(i+1)=k+1+i by omega]; grind
  rw [e,Xi,Xo];have h1:=hw k;have h2:=T0 ((w k:Rat)*1) (x*sq J λi=>(w (k+1+i):Rat)*x^i);have h3:=G5 (x:=x) (y:=sq J λi=>(w (k+1+i):Rat)*x^i) Qp ih;have h4:=Zf hx (show (0:Rat)<=D by have:=Ho (w k:Rat); clear hw; grind);have h5:(w k:Rat)*1=w k:=by grind
  rw [h5] at h2 ⊢;clear hw; grind
theorem KD {z:Int} (h:z≠0):1<=Fc (z:Rat):=by
 unfold Fc;rcases Ke h with h | h
 ·have:((z:Int):Rat)<((0:Int):Rat):=Jm.2 h;have h2:((1:Int):Rat)<=((-z:Int):Rat):=Je.2 (by omega);rw [if_pos (by simpa using this)];rw [Vn] at h2;simpa using h2
 ·have:((0:Int):Rat)<((z:Int):Rat):=Jm.2 h;have h2:((1:Int):Rat)<=((z:Int):Rat):=Je.2 (by omega);rw [if_neg (by
   have:(0:Rat)<z:=by simpa using this
   grind)]
  simpa using h2
theorem nM {w:Nat->Int} {x:Rat} {D:Rat} (hD:1<=D) (hx0:0<Fc x) (hx:Fc x*(4*D)<=1) (hw:∀ j,Fc (w j:Rat)<=D):∀ J (k:Nat),(∃ j,j<J/\w (k+j)≠0)->Fc x^J / 2<=Fc (sq J λj=>(w (k+j):Rat)*x^j)
 | 0,k,⟨j,h,_⟩=>by omega
 |
  J+1,k,⟨j,h1,h2⟩=>by
  have hx2:Fc x*2<=1:=by
   have:=B7 (a:=Fc x) (c:=2) (Qt hx0) Qp (by decide) (show (2:Rat)<=4*D by clear hw; grind);exact Zk this hx
  have hx1:Fc x<=1:=by clear hw; grind
  have hp:∀ k:Nat,Fc x^k<=1/\0<=Fc x^k:=λk=>by
   induction k with
   | zero=>rw [Xi]; exact ⟨by decide,by decide⟩
   |
    succ k ih =>
    rw [Xa];have:=B7 ih.2 ih.1 (Qt hx0) hx1;have:=Np ih.2 (Qt hx0);constructor <;> (clear hw; grind)
  rw [Ow];have e:(sq J λi=>(w (k+(i+1)):Rat)*x^(i+1))=x*sq J λi=>(w (k+1+i):Rat)*x^i:=by
   rw [<-JY]; exact Pg J λi _=>by rw [Xa,show k+(i+1)=k+1+i by omega]; grind
  rw [e,Xi,Xo k,show (w k:Rat)*1=w k by grind];by_cases h0:w k=0
  ·have hj:j≠0:=λe=>h2 (by rw [e]; exact h0)
   have ih:=nM hD hx0 hx hw J (k+1) ⟨j-1,by omega,by rw [show k+1+(j-1)=k+j by omega]; exact h2⟩;rw [h0,show ((0:Int):Rat)+x*(sq J λi=>(w (k+1+i):Rat)*x^i)=x*sq J λi=>(w (k+1+i):Rat)*x^i by rw [show ((0:Int):Rat)=0 from rfl]; grind,Ie,Xa];have:=Z0 ih (Qt hx0);have e2:Fc x*(Fc x^J / 2)=Fc x^J*Fc x / 2:=by rw [J5,J5]; grind
   rw [e2] at this; exact this
  ·have a1:=KD h0;have a2:=Qku hx2 hw J (k+1);have a3:=G5 (x:=x) (y:=sq J λi=>(w (k+1+i):Rat)*x^i) Qp a2;have a4:=T0 ((w k:Rat)+x*sq J λi=>(w (k+1+i):Rat)*x^i) (-(x*sq J λi=>(w (k+1+i):Rat)*x^i));rw [Ec,show (w k:Rat)+(x*sq J λi=>(w (k+1+i):Rat)*x^i)+-(x*sq J λi=>(w (k+1+i):Rat)*x^i)=w k by grind] at a4;have a5:=(hp (J+1)).1;have a6:Fc x^(J+1) / 2*2=Fc x^(J+1):=G6 (by decide);have a7:Fc x*(2*D)*2=Fc x*(4*D):=by grind
   clear hw hp; grind
theorem Quv {A B:Ul} {a b h:Nat} (hA:A.length=a+1) (hB:B.length=b+1) (lA:A.getD a 0≠0) (lB:B.getD b 0≠0) (ha:0<a) (hb:0<b) (h0:1<=h) (bA:∀ k,(A.getD k 0).natAbs<=h) (bB:gB B<=h) {N D:Nat} (hN:b*(2*(a*b))+a*(2*(a*b)-b)=N) (hD:N*(h*(2*(N*h))^(2*(a+b-1)))<=D) {R d:Rat} (hR:1<=R) (dp:0<d)
 (hs:∀ e:Rat,0<e->∃ q r,Fc q<=R/\Fc r<=R/\d<=Fc (q-r)/\Fc (q-r)*(4*(D:Rat))<=1/\Fc (U3 A q)<e/\Fc (U3 B r)<e):False:=by
 have hab:0<a*b:=J4 ha hb;have hbab:b<=a*b:=by
  have:=Qz b (show 1<=a from ha); omega
 obtain ⟨w,⟨j,hj,hw0⟩,hw,hC⟩:=Qv1 hA hB lA lB ha hb h0 bA bB (J:=2*(a*b)) (J':=2*(a*b)-b) rfl (by omega) hN.symm rfl;obtain ⟨C,hC0,hC⟩:=hC (2*R) (by grind);have hw':∀ j,Fc (w j:Rat)<=(D:Rat):=λj=>by
  have h1:=Qc (hw j) hD;have h2:w j<=(D:Int):=by omega
  have h3:-(D:Int)<=w j:=by omega
  have h2:=Je.2 h2;have h3:=Je.2 h3;rw [Vn] at h3;rw [Md]; exact ⟨h3,h2⟩
 have hD1:(1:Rat)<=(D:Rat):=by
  have:=KD hw0;exact Zk this (hw' j)
 have hdJ:0<d^(2*(a*b)) / 2:=Ez (Rat.pow_pos dp) (by decide);obtain ⟨e,ep,_,he⟩:=Hb (b:=C*2) (d:=d^(2*(a*b)) / 2) (by grind) hdJ;obtain ⟨q,r,q1,r1,d1,d2,aq,br⟩:=hs e ep;have h1:=hC (q-r) q (by
  have:=T0 q (-r); rw [Ec] at this; have:q-r=q+-r:=by grind
  grind) (by grind)
 rw [show q-(q-r)=r by grind] at h1;have h2:=nM (x:=q-r) hD1 (by grind) d2 hw' (2*(a*b)) 0 ⟨j,hj,by rw [Zy]; exact hw0⟩;simp only [Zy] at h2;have h3:C*(Fc (U3 A q)+Fc (U3 B r))<=C*(e+e):=Z0 (by grind) hC0;have h4:d^(2*(a*b))<=Fc (q-r)^(2*(a*b)):=by
  generalize 2*(a*b)=J
  induction J with
  | zero=>rw [Xi,Xi]; exact Qp
  |
   succ J ih =>
   rw [Xa,Xa];exact B7 (Qt (Rat.pow_pos dp)) ih (Qt dp) d1
 have h5:d^(2*(a*b)) / 2*2=d^(2*(a*b)):=G6 (by decide);have h6:Fc (q-r)^(2*(a*b)) / 2*2=Fc (q-r)^(2*(a*b)):=G6 (by decide);clear hC hs hw hw';grind
def HD (p:Uo) (n:Nat):Prop:=p.getD n 0≠0/\∀ k,n<k->p.getD k 0=0
theorem Ra:∀ (p q:Uo) (k:Nat),(Se p q).getD k 0=p.getD k 0+q.getD k 0
 | [],q,k=>by simp only [Se,Ku]; grind
 | a::p,[],k=>by simp only [Se,Ku]; grind
 | a::p,b::q,0=>by simp only [Se,Zt]
 | a::p,b::q,k+1=>by simp only [Se,Q5]; exact Ra p q k
theorem Tw (c:Rat):∀ (p:Uo) (k:Nat),(Dq c p).getD k 0=c*p.getD k 0
 | [],k=>by simp only [Dq,Jb,Ku]; grind
 | a::p,0=>by simp [Dq]
 | a::p,k+1=>by have:=Tw c p k; simp only [Dq,Zz,Q5] at *; exact this
theorem Qhq {p:Uo} {k:Nat} (h:∀ x∈p,x=0):p.getD k 0=0:=by
 rw [Qi];cases e:p[k]? with
 | none=>rfl
 | some x=>exact h x (Qa e)
theorem Dk {p q:Uo} (h:∀ t,ev p t=ev q t) (k:Nat):p.getD k 0=q.getD k 0:=by
 have h1:=Qhq (k:=k) (WT (p:=Se p (Dq (-1) q)) λt _ _=>by rw [Gs,Gl,h t]; grind);rw [Ra,Tw] at h1; grind
theorem Dw:∀ {p:Uo},(∀ k,p.getD k 0=0)->∀ t,ev p t=0
 | [],_,t=>rfl
 |
  a::p,h,t=>by
  have h0:=h 0;have h1:=Dw (p:=p) (λk=>by have:=h (k+1); rwa [Q5] at this) t;rw [Zt] at h0;simp only [ev,h0,h1]; grind
theorem DG:∀ (p:Uo),(∀ t,ev p t=0)\/∃ n,n<p.length/\HD p n
 | []=>.inl λ_=>rfl
 |
  a::p=>by
  rcases DG p with h | ⟨n,hn,h1,h2⟩
  ·rcases Classical.em (a=0) with e | e
   ·exact .inl λt=>by simp only [ev,e,h t]; grind
   ·refine .inr ⟨0,by simp,by simpa using e,λk hk=>?_⟩;obtain ⟨m,rfl⟩:∃ m,k=m+1:=⟨k-1,by omega⟩;rw [Q5];exact (Dk (p:=p) (q:=[]) h m).trans (by simp)
  ·refine .inr ⟨n+1,by simp; omega,by rw [Q5]; exact h1,λk hk=>?_⟩;obtain ⟨m,rfl⟩:∃ m,k=m+1:=⟨k-1,by omega⟩;rw [Q5]; exact h2 m (by omega)
theorem Qr1 {p q:Uo} {n:Nat} (h:∀ t,ev p t=ev q t) (hp:HD p n):HD q n :=
 ⟨by rw [<-Dk h]; exact hp.1,λk hk=>by rw [<-Dk h]; exact hp.2 k hk⟩
theorem Qr2 {p:Uo} {n m:Nat} (h:HD p n) (h':HD p m):n=m:=by
 rcases Kn n m with e | e | e
 ·exact absurd (h.2 m e) h'.1
 ·exact e
 ·exact absurd (h'.2 n e) h.1
theorem aG {p:Uo} {n:Nat} (h:HD p n):¬∀ t,ev p t=0:=λh0=>h.1 ((Dk (p:=p) (q:=[]) h0 n).trans (by simp))
theorem SZ {p q:Uo} (h:∀ k,p.getD k 0=0) (k:Nat):(Gw p q).getD k 0=0:=by
 have:=Dk (p:=Gw p q) (q:=[]) (λt=>by rw [Fa,Dw h t]; simp only [ev]; grind) k;rw [this]; simp
theorem DT:∀ {p q:Uo} {m n:Nat},HD p m->HD q n->HD (Gw p q) (m+n)
 | [],q,m,n,h,_=>absurd (by simp) h.1
 |
  a::p,q,0,n,h,h'=>by
  have h1:∀ k,p.getD k 0=0:=λk=>by have:=h.2 (k+1) (by omega); rwa [Q5] at this
  have h2:∀ k,(Gw (a::p) q).getD k 0=a*q.getD k 0:=λk=>by
   simp only [Gw];rw [Ra,Tw];cases k with
   | zero=>rw [Zt]; grind
   | succ k=>rw [Q5,SZ h1]; grind
  have h3:=h.1;rw [Zt] at h3;refine ⟨?_,λk hk=>?_⟩
  ·rw [h2,Zy]; exact λh=>(Yz.1 h).elim h3 h'.1
  ·rw [h2,h'.2 k (by omega)]; grind
 |
  a::p,q,m+1,n,h,h'=>by
  have ih:=DT (p:=p) (q:=q) (m:=m) ⟨by have:=h.1; rwa [Q5] at this,λk hk=>by have:=h.2 (k+1) (by omega); rwa [Q5] at this⟩ h';refine ⟨?_,λk hk=>?_⟩
  ·simp only [Gw];rw [Ra,Tw,show m+1+n=(m+n)+1 by omega,Q5,h'.2 _ (by omega)];have:=ih.1; grind
  ·obtain ⟨j,rfl⟩:∃ j,k=j+1:=⟨k-1,by omega⟩;simp only [Gw];rw [Ra,Tw,Q5,h'.2 _ (by omega),ih.2 j (by omega)]; grind
def ZH (g f:Uo):Prop:=∃ u,∀ t,ev f t=ev g t*ev u t
theorem dvd_refl (f:Uo):ZH f f:=⟨[1],λt=>by rw [Rw]; grind⟩
theorem dvd_trans {f g h:Uo}:ZH f g->ZH g h->ZH f h
 | ⟨u,hu⟩,⟨v,hv⟩=>⟨Gw u v,λt=>by rw [hv,hu,Fa]; grind⟩
theorem gA {p q:Uo} (h:∀ t,ev p t*ev q t=0) (hp:¬∀ t,ev p t=0):∀ t,ev q t=0:=by
 rcases DG p with h1 | ⟨m,_,h1⟩
 ·exact absurd h1 hp
 ·rcases DG q with h2 | ⟨n,_,h2⟩
  ·exact h2
  ·exact absurd (λt=>by rw [Fa]; exact h t) (aG (DT h1 h2))
theorem mJ {p q r:Uo} (hp:¬∀ t,ev p t=0) (h:∀ t,ev p t*ev q t=ev p t*ev r t) (t:Rat):ev q t=ev r t:=by
 have:=gA (p:=p) (q:=Se q (Dq (-1) r)) (λt=>by rw [Gs,Gl]; have:=h t; grind) hp t;rw [Gs,Gl] at this; grind
theorem Qgn {b:Uo} {n:Nat} (hb:HD b n):∀ (l:Nat) (a:Uo),(∀ k,l<=k->a.getD k 0=0)->∃ q r,(∀ t,ev a t=ev q t*ev b t+ev r t)/\∀ k,n<=k->r.getD k 0=0
 | 0,a,ha=>⟨[],a,λt=>by simp only [ev]; grind,λk _=>ha k (Qh _)⟩
 |
  l+1,a,ha=>by
  rcases Zd l n with h | h
  ·exact ⟨[],a,λt=>by simp only [ev]; grind,λk hk=>ha k (by omega)⟩
  ·-- the leading term is taken away
   obtain ⟨c,hc⟩:=nmE (a.getD l 0 / b.getD n 0);have hcb:c*b.getD n 0=a.getD l 0:=by rw [hc]; exact Zl hb.1
   obtain ⟨m,hm⟩:∃ m:Uo,m=List.replicate (l-n) 0++[c]:=⟨_,rfl⟩;have hsh:∀ (i:Nat) (k:Nat),(Gw (List.replicate i 0++[c]) b).getD k 0=if i<=k then c*b.getD (k-i) 0 else 0:=λi=>by
    induction i with
    | zero=>intro k; simp only [Wi,Yh,Gw]; rw [Ra,Tw]; cases k <;> simp <;> grind
    |
     succ i ih =>
     intro k;simp only [J1,Xd,Gw];rw [Ra,Tw];cases k with
     | zero=>rw [Zt,if_neg (by omega)]; grind
     |
      succ k =>
      rw [Q5,ih k];by_cases h:i<=k
      ·rw [if_pos h,if_pos (by omega),Nat.add_sub_add_right]; grind
      ·rw [if_neg h,if_neg (by omega)]; grind
   obtain ⟨q,r,h1,h2⟩:=Qgn hb l (Se a (Dq (-1) (Gw m b))) λk hk=>by
    rw [Ra,Tw,hm,hsh,if_pos (by omega)];rcases Vm hk with e | e
    ·rw [ha k (by omega),hb.2 _ (by omega)]; grind
    ·subst e; rw [show l-(l-n)=n by omega,hcb]; grind
   refine ⟨Se q m,r,λt=>?_,h2⟩;have:=h1 t;rw [Gs,Gl,Fa] at this;rw [Gs]; grind
theorem nZ:∀ (n:Nat) (a b:Uo),(∀ k,n<=k->b.getD k 0=0)->∃ g U V,ZH g a/\ZH g b/\∀ t,ev g t=ev U t*ev a t+ev V t*ev b t
 |
  0,a,b,h=>by
  have h0:=Dw λk=>h k (Qh _)
  exact ⟨a,[1],[],dvd_refl a,⟨[],λt=>by rw [h0]; simp only [ev]; grind⟩,λt=>by rw [Rw]; simp only [ev]; grind⟩
 |
  n+1,a,b,h=>by
  rcases Classical.em (b.getD n 0=0) with e | e
  ·exact nZ n a b λk hk=>by
    rcases Vm hk with e' | e'
    ·exact h k (by omega)
    ·rw [<-e']; exact e
  ·obtain ⟨q,r,h1,h2⟩:=Qgn (b:=b) (n:=n) ⟨e,λk hk=>h k (by omega)⟩ a.length a λk hk=>by rw [Qi,Qw hk]; rfl
   obtain ⟨g,U,V,⟨u,hu⟩,⟨v,hv⟩,hg⟩:=nZ n b r h2;refine ⟨g,V,Se U (Dq (-1) (Gw V q)),⟨Se (Gw q u) v,λt=>?_⟩,⟨u,hu⟩,λt=>?_⟩
   ·rw [h1,hv,Gs,Fa,hu]; grind
   ·rw [hg,Gs,Gl,Fa,h1]; grind
theorem Qhl (a b:Uo):∃ g U V,ZH g a/\ZH g b/\∀ t,ev g t=ev U t*ev a t+ev V t*ev b t :=
 nZ b.length a b λk hk=>by rw [Qi,Qw hk]; rfl
def Cop (a b:Uo):Prop:=∃ U V,∀ t,ev U t*ev a t+ev V t*ev b t=1
theorem jX {c d e:Uo} (h:Cop c d) (h1:∃ u,∀ t,ev d t*ev e t=ev c t*ev u t):ZH c e:=by
 obtain ⟨U,V,h⟩:=h;obtain ⟨u,hu⟩:=h1;refine ⟨Se (Gw U e) (Gw V u),λt=>?_⟩;rw [Gs,Fa,Fa];have a1:=h t;have a2:=hu t;have:ev e t=(ev U t*ev c t+ev V t*ev d t)*ev e t:=by rw [a1]; grind
 rw [this];have:(ev U t*ev c t+ev V t*ev d t)*ev e t=ev U t*ev c t*ev e t+ev V t*(ev d t*ev e t):=by grind
 rw [this,a2]; grind
def EK (d:Uo):Nat->Uo
 | 0=>[1]
 | k+1=>Gw d (EK d k)
theorem cQ (d:Uo) (t:Rat):∀ k:Nat,ev d t*dv (EK d k) t=(k:Rat)*(dv d t*ev (EK d k) t)
 | 0=>by simp only [EK,dv,ev]; rw [show ((0:Nat):Rat)=0 from rfl]; grind
 |
  k+1=>by
  have ih:=cQ d t k;have hn':(((k+1:Nat):Rat))=(k:Rat)+1:=by push_cast; rfl
  simp only [EK];rw [jU,Fa,hn']; grind
theorem Qju {d:Uo} {m:Nat} (h:HD d m):∀ k,HD (EK d k) (k*m)
 | 0=>by rw [Yj]; exact ⟨by simp [EK],λk hk=>by simp only [EK]; rw [Qi,Qw (by simp; omega)]; rfl⟩
 | k+1=>by rw [Xc,Js (k*m) m]; exact DT h (Qju h k)
theorem qL {d g:Uo} {m n:Nat} (hd:HD d m) (hg:HD g n) (h:∀ k,ZH (EK d k) g):m=0:=by
 obtain ⟨u,hu⟩:=h (n+1);rcases DG u with h1 | ⟨j,_,h1⟩
 ·exact absurd (λt=>by rw [hu,h1]; grind) (aG hg)
 ·have:=Qr2 (Qr1 (λt=>by rw [hu,Fa]) hg) (DT (Qju hd (n+1)) h1);rcases Q3 m with e | e
  ·exact e
  ·have:(n+1)*1<=(n+1)*m:=Zp _ e;omega
theorem sqf {a g q d U V:Uo} {k:Rat} (hk:k≠0) (ha:∀ t,ev a t=ev g t*ev q t) (hg:∀ t,k*ev g t=ev U t*ev a t+ev V t*dv a t) (h1:ZH d q) (h2:ZH d (Nt q)):∀ n,ZH (EK d n) g
 | 0=>⟨g,λt=>by simp only [EK]; rw [Rw]; grind⟩
 |
  n+1=>by
  obtain ⟨g1,e1⟩:=sqf hk ha hg h1 h2 n;obtain ⟨q1,e2⟩:=h1;obtain ⟨q2,e3⟩:=h2;have d1:=λt=>QW ha t
  have d2:=λt=>QW e1 t
  have d3:=λt=>QW e2 t
  have d4:=cQ d;refine ⟨Dq (1 / k) (Se (Gw U (Gw g1 q1)) (Gw V (Se (Gw g1 q2) (Se (Dq n (Gw g1 (Se q2 (Dq (-1) (Nt q1))))) (Gw (Nt g1) q1))))),λt=>?_⟩;have hkk:1 / k*k=1:=Zl hk;simp only [EK,Gl,Gs,Fa,Te];have b1:=ha t; have b2:=hg t; have b3:=e1 t; have b4:=e2 t; have b5:=e3 t;have b6:=d1 t; have b7:=d2 t; have b8:=d3 t; have b9:=d4 t n;rw [Te] at b5;generalize ev d t=x0 at *;generalize ev (EK d n) t=x1 at *;generalize ev g t=x2 at *;generalize ev q t=x3 at *;generalize ev a t=x4 at *;generalize dv a t=x5 at *;generalize dv g t=x6 at *;generalize dv q t=x7 at *;generalize ev g1 t=x8 at *;generalize dv g1 t=x9 at *;generalize ev q1 t=y0 at *;generalize dv q1 t=y1 at *;generalize ev q2 t=y2 at *;generalize dv d t=y3 at *;generalize dv (EK d n) t=y4 at *;generalize ev U t=y5 at *;generalize ev V t=y6 at *;generalize (n:Rat)=y7 at *;have:x2=1 / k*(k*x2):=by grind
  rw [this,b2];have c1:x5=x0*x1*(x8*y2+(y7*(x8*(y2+-1*y1))+x9*y0)):=by
   rw [b6,b7,b4,b3];have:y3*y0=x0*y2-x0*y1:=by grind
   have:x0*y4*(x8*y0)=y7*(x1*x8*(x0*y2-x0*y1)):=by rw [b9,<-this]; grind
   grind
  have c2:x4=x0*x1*(x8*y0):=by rw [b1,b3,b4]; grind
  rw [c1,c2]; grind
theorem Qnu {a b c:Uo} (h1:Cop a b) (h2:Cop a c) {d:Uo} (hd:∀ t,ev d t=ev b t*ev c t):Cop a d:=by
 obtain ⟨U,V,h1⟩:=h1;obtain ⟨X,Y,h2⟩:=h2;refine ⟨Se U (Gw (Gw V b) X),Gw V Y,λt=>?_⟩;have a1:=h1 t;have a2:=h2 t;simp only [Gs,Fa,hd];have:ev V t*ev b t*(ev X t*ev a t+ev Y t*ev c t)=ev V t*ev b t:=by rw [a2]; grind
 grind
theorem Qqg {a g q z r X Y:Uo} {n:Nat} (ha:∀ t,ev a t=ev g t*ev q t) (hz:∀ t,dv a t=ev g t*ev z t) (hg:HD g n) (hr:∀ t,ev X t*ev r t+ev Y t*dv r t=1) (h:ZH r a):ZH r q:=by
 obtain ⟨b,hb⟩:=h;obtain ⟨e,U,V,⟨r1,e1⟩,⟨q3,e2⟩,e3⟩:=Qhl r q;have hr0:¬∀ t,ev r t=0:=λh=>by
  have h1:=hr 0;have h2:dv r 0=0:=by have:=Qgs (p:=r) (q:=[]) h 0; rw [this]; rfl
  rw [h,h2] at h1; grind
 have he0:¬∀ t,ev e t=0:=λh=>hr0 λt=>by rw [e1,h]; grind
 have d1:=λt=>QW e1 t
 have c1:Cop r1 q3:=⟨U,V,λt=>by
  have:=mJ (p:=e) (q:=Se (Gw U r1) (Gw V q3)) (r:=[1]) he0 (λt=>by
   rw [Gs,Fa,Fa,Rw];have a1:=e1 t; have a2:=e2 t; have a3:=e3 t;rw [a1,a2] at a3; grind) t
  rw [Gs,Fa,Fa,Rw] at this; exact this⟩
 have c2:Cop r1 e:=⟨Se (Gw X e) (Gw Y (Nt e)),Gw Y (Nt r1),λt=>by
  have a1:=hr t; have a2:=e1 t; have a3:=d1 t;simp only [Gs,Fa,Te];rw [a2,a3] at a1; grind⟩
 have c3:Cop r1 (Nt r1):=⟨Se (Gw X e) (Gw Y (Nt e)),Gw Y e,λt=>by
  have a1:=hr t; have a2:=e1 t; have a3:=d1 t;simp only [Gs,Fa,Te];rw [a2,a3] at a1; grind⟩
 have c4:Cop r1 q:=Qnu c2 c1 e2;have hgz:=aG hg;have hp:∀ k,ZH (EK r1 k) g:=λk=>by
  induction k with
  | zero=>exact ⟨g,λt=>by simp only [EK]; rw [Rw]; grind⟩
  |
   succ k ih =>
   obtain ⟨h,eh⟩:=ih;have hpz:¬∀ t,ev (EK r1 k) t=0:=λh0=>hgz λt=>by rw [eh,h0]; grind
   have key:ZH r1 h:=by
    cases k with
    |
     zero =>
     refine jX c4 ⟨Gw e b,λt=>?_⟩;have a1:=ha t; have a2:=hb t; have a3:=e1 t; have a4:=eh t;simp only [EK] at a4;rw [Rw] at a4;rw [Fa]; grind
    |
     succ k =>
     have hn:((k+1:Nat):Rat)≠0:=by
      have:(0:Rat)<((k+1:Nat):Rat):=by
       have h1:((0:Nat):Rat)<((k+1:Nat):Rat):=Vp.2 (by omega);simpa using h1
      grind
     have d2:=λt=>QW (f:=a) (w:=EK r1 (k+1)) (u:=Gw h q) (λt=>by rw [ha,eh,Fa]; grind) t
     have d4:=cQ r1;have h3:=mJ (p:=EK r1 (k+1)) (q:=Gw (Nt r1) (Gw h q)) (r:=Gw r1 (Dq (1 / ((k+1:Nat):Rat)) (Se (Gw h z) (Dq (-1) (Nt (Gw h q)))))) hpz λt=>by
      simp only [Fa,Gl,Gs,Te];have a1:=d2 t; have a2:=d4 t (k+1); have a3:=hz t; have a4:=eh t;rw [Fa] at a1;generalize ((k+1:Nat):Rat)=c at *;have hc:1 / c*c=1:=Zl hn;generalize ev (EK r1 (k+1)) t=x0 at *;generalize dv (EK r1 (k+1)) t=x1 at *;generalize dv (Gw h q) t=x2 at *;generalize ev r1 t=x3 at *;generalize dv r1 t=x4 at *;generalize ev h t=x5 at *;generalize ev q t=x6 at *;generalize ev z t=x7 at *;generalize dv a t=x8 at *;generalize ev g t=x9 at *;generalize 1 / c=c' at *;have s1:x0*(x4*(x5*x6))=c'*(c*(x4*x0))*(x5*x6):=by
       have:c'*(c*(x4*x0))=(c'*c)*(x4*x0):=by grind
       rw [this,hc]; grind
      rw [s1,<-a2];have s2:x3*(x1*(x5*x6))=x3*(x0*(x5*x7+-1*x2)):=by
       rw [a3,a4] at a1; grind
      grind
     refine jX c4 ?_;obtain ⟨u,hu⟩:=jX (e:=Gw q h) c3 ⟨Dq (1 / ((k+1:Nat):Rat)) (Se (Gw h z) (Dq (-1) (Nt (Gw h q)))),λt=>by
      have:=h3 t;simp only [Fa] at this ⊢;rw [<-this]; grind⟩
     exact ⟨u,λt=>by rw [<-hu,Fa]⟩
   obtain ⟨u,hu⟩:=key;exact ⟨u,λt=>by simp only [EK]; rw [Fa,eh,hu]; grind⟩
 rcases DG r1 with h1 | ⟨m,_,h1⟩
 ·exact absurd (λt=>by rw [e1,h1]; grind) hr0
 ·obtain rfl:=qL h1 hg hp;have h2:∀ t,ev r1 t=r1.getD 0 0:=λt=>by
   cases r1 with
   | nil=>simp [ev]
   |
    cons c l =>
    have:∀ t,ev l t=0:=Dw λk=>by have:=h1.2 (k+1) (by omega); rwa [Q5] at this
    simp only [ev,this,Zt]; grind
  have h3:=h1.1;refine ⟨Dq (1 / r1.getD 0 0) q3,λt=>?_⟩;rw [e2,e1,h2,Gl];have:1 / r1.getD 0 0*r1.getD 0 0=1:=Zl h3;have:ev e t*r1.getD 0 0*(1 / r1.getD 0 0*ev q3 t)=ev e t*ev q3 t*(1 / r1.getD 0 0*r1.getD 0 0):=by grind
  rw [this,Zl h3]; grind
def Oe:Up->Uo
 | []=>[1]
 | w::l=>Gw w (Oe l)
def Lay:Up->Up->Prop
 | [],[]=>True
 | [w],[f]=>∀ t,ev w t=ev f t
 | w::v::l,f::fs=>(∀ t,ev w t=ev f t*ev v t)/\Lay (v::l) fs
 | _,_=>False
def PU:Up->Uo
 | []=>[1]
 | [f]=>f
 | f::_::l=>Gw f (PU l)
theorem aA:∀ {ws fs:Up},Lay ws fs->∃ S,∀ t,ev (Oe ws) t=ev (PU fs) t*(ev S t*ev S t)
 | [],[],_=>⟨[1],λt=>by simp only [Oe,PU]; rw [Rw]; grind⟩
 | [w],[f],h=>⟨[1],λt=>by simp only [Oe,PU]; rw [Fa,Rw,h t]; grind⟩
 |
  [w,v],[f,f2],h=>⟨v,λt=>by
  have h1:=h.1 t;have h2:ev v t=ev f2 t:=h.2 t;simp only [Oe,PU,Fa]; rw [Rw,h1]; grind⟩
 |
  w::v::x::l,f::f2::fs,h=>by
  obtain ⟨S,hS⟩:=aA h.2.2;refine ⟨Gw v S,λt=>?_⟩;have h1:=h.1 t;have h2:=hS t;have e1:ev (Oe (w::v::x::l)) t=ev w t*(ev v t*ev (Oe (x::l)) t):=by simp only [Oe,Fa]
  rw [e1,h2,h1];have e2:ev (PU (f::f2::fs)) t=ev f t*ev (PU fs) t:=by
   cases fs with
   | nil=>cases l <;> exact False.elim h.2.2
   | cons y l=>simp only [PU,Fa]
  rw [e2,Fa]; grind
 | [w],[],h=>h.elim
 | [w],_::_::_,h=>h.elim
 | [],_::_,h=>h.elim
 | [w,v],[f],h=>h.2.elim
 | [w,v],_::_::_::_,h=>h.2.elim
 | w::v::x::l,[f],h=>h.2.elim
 | w::v::l,[],h=>h.elim
end Orq
namespace Orq
open Orr Go
theorem bW (p:Ul) (t:Rat):U3 p t=((p.getD 0 0:Int):Rat)+t*U3 p.tail t:=by
 cases p with
 | nil=>show (0:Rat)=((0:Int):Rat)+t*0; grind
 | cons a p=>rfl
theorem HA (p:Ul) (k:Nat):p.tail.getD k 0=p.getD (k+1) 0:=by
 cases p <;> simp
theorem B8 (c d:Int) (t:Rat):∀ (n:Nat) (p q r:Ul),p.length<=n->q.length<=n->r.length<=n->(∀ k,r.getD k 0=c*p.getD k 0+d*q.getD k 0)->U3 r t=(c:Rat)*U3 p t+(d:Rat)*U3 q t
 |
  0,p,q,r,hp,hq,hr,_=>by
  rw [Qj (Nat.le_zero.1 hp),Qj (Nat.le_zero.1 hq),Qj (Nat.le_zero.1 hr)];show (0:Rat)=_*0+_*0;grind
 |
  n+1,p,q,r,hp,hq,hr,h=>by
  have ih:=B8 c d t n p.tail q.tail r.tail (by rw [Wy]; omega) (by rw [Wy]; omega) (by rw [Wy]; omega) λk=>by
   rw [HA,HA,HA]; exact h (k+1)
  rw [bW p,bW q,bW r,ih,h 0]
  push_cast
  grind
theorem iI {p q:Ul} (h:∀ k,p.getD k 0=q.getD k 0) (t:Rat):U3 p t=U3 q t:=by
 have:=B8 1 0 t (max p.length q.length) q q p (W0 ..) (W0 ..) (Nat.le_max_left ..) λk=>by rw [h k]; omega
 rw [this]
 push_cast
 grind
theorem Oh (p:Ul) (t:Rat):U3 (trim p) t=U3 p t:=iI (YL p) t
theorem Nm {p:Ul} {k:Nat} (h:p.length<=k):p.getD k 0=0:=by
 rw [Qi,Qw h]; rfl
theorem qS (p q:Ul) (k:Nat):(ZU p q).getD k 0=p.getD k 0+q.getD k 0:=by
 unfold ZU;rw [S4]
 split
 ·rfl
 ·rename_i h; rw [Nm (p:=p) (by omega),Nm (p:=q) (by omega)]; rfl
theorem Oq (p q:Ul) (k:Nat):(Mx p q).getD k 0=p.getD k 0-q.getD k 0:=by
 unfold Mx;rw [S4]
 split
 ·rfl
 ·rename_i h; rw [Nm (p:=p) (by omega),Nm (p:=q) (by omega)]; rfl
theorem Mb (p:Ul) (c:Int) (k:Nat):(Fo p c).getD k 0=p.getD k 0*c:=by
 unfold Fo;rw [S4]
 split
 ·rfl
 ·rename_i h; rw [Nm (p:=p) (by omega),Int.zero_mul]
theorem Qcw (p:Ul) (k:Nat):(P9 p).getD k 0=-(p.getD k 0):=by
 unfold P9;rw [S4]
 split
 ·rfl
 ·rename_i h; rw [Nm (p:=p) (by omega)]; rfl
theorem Nz (p:Ul) (k:Nat):(Gk p).getD k 0=p.getD (k+1) 0*((k+1:Nat):Int):=by
 unfold Gk;rw [S4]
 split
 ·rfl
 ·rename_i h; rw [Nm (p:=p) (by omega),Int.zero_mul]
theorem LN (p q:Ul) (t:Rat):U3 (ZU p q) t=U3 p t+U3 q t:=by
 have:=B8 1 1 t (max (max p.length q.length) (ZU p q).length) p q (ZU p q) (by omega) (by omega) (by omega) λk=>by rw [qS]; omega
 rw [this]; push_cast; grind
theorem Ty (p q:Ul) (t:Rat):U3 (Mx p q) t=U3 p t-U3 q t:=by
 have:=B8 1 (-1) t (max (max p.length q.length) (Mx p q).length) p q (Mx p q) (by omega) (by omega) (by omega) λk=>by rw [Oq]; omega
 rw [this]; push_cast; grind
theorem FG (p:Ul) (t:Rat):U3 (P9 p) t=-U3 p t:=by
 have:=B8 (-1) 0 t (max p.length (P9 p).length) p p (P9 p) (by omega) (by omega) (by omega) λk=>by rw [Qcw]; omega
 rw [this]; push_cast; grind
theorem Rf (p:Ul) (c:Int) (t:Rat):U3 (Fo p c) t=U3 p t*(c:Rat):=by
 have:=B8 c 0 t (max p.length (Fo p c).length) p p (Fo p c) (by omega) (by omega) (by omega) λk=>by rw [Mb,Wa]; omega
 rw [this]; push_cast; grind
theorem yE:∀ (l:Ul) (j:Nat) (v:Int) (t:Rat),j<l.length->U3 (l.set j v) t=U3 l t+((v:Rat)-((l.getD j 0:Int):Rat))*t^j
 | [],_,_,_,h=>by simp at h
 |
  a::l,0,v,t,_=>by
  show (v:Rat)+t*U3 l t=(a:Rat)+t*U3 l t+((v:Rat)-(a:Rat))*t^0;rw [Xi]; grind
 |
  a::l,j+1,v,t,h=>by
  have ih:=yE l j v t (by simpa using h);show (a:Rat)+t*U3 (l.set j v) t=(a:Rat)+t*U3 l t+((v:Rat)-((l.getD j 0:Int):Rat))*t^(j+1);rw [ih,Xa]; grind
theorem LC:∀ (l:Ul) (k:Nat) (t:Rat),k<l.length->U3 (l.take (k+1)) t=U3 (l.take k) t+((l.getD k 0:Int):Rat)*t^k
 | [],_,_,h=>by simp at h
 |
  a::l,0,t,_=>by
  show (a:Rat)+t*U3 (l.take 0) t=0+(a:Rat)*t^0;rw [Xi,Y7];show (a:Rat)+t*0=_;grind
 |
  a::l,k+1,t,h=>by
  have ih:=LC l k t (by simpa using h);show (a:Rat)+t*U3 (l.take (k+1)) t=(a:Rat)+t*U3 (l.take k) t+((l.getD k 0:Int):Rat)*t^(k+1);rw [ih,Xa]; grind
theorem qB (n:Nat) (t:Rat):U3 (List.replicate n 0) t=0:=by
 induction n with
 | zero=>rfl
 |
  succ n ih =>
  show ((0:Int):Rat)+t*U3 (List.replicate n 0) t=0;rw [ih]; push_cast; grind
theorem tH (t:Rat) (i:Nat):∀ k,t^(i+k)=t^i*t^k
 | 0=>by rw [Xo,Xi]; grind
 | k+1=>by rw [<-Yn,Xa,Xa,tH t i k]; grind
theorem rT (x:Int) (b:Ul) (i:Nat) (o:Ul) (t:Rat):∀ k,k<=b.length->i+k<=o.length->U3 (Ob x b i o k) t=U3 o t+(x:Rat)*t^i*U3 (b.take k) t
 |
  0,_,_=>by
  show U3 o t=U3 o t+(x:Rat)*t^i*0;grind
 |
  k+1,h1,h2=>by
  have ih:=rT x b i o t k (by omega) (by omega);simp only [Ob];rw [yE _ _ _ _ (by rw [Oc]; omega),ih,LC b k t (by omega)];have hp:t^(i+k)=t^i*t^k:=tH t i k;rw [hp]
  push_cast
  grind
theorem rR (a b o:Ul) (t:Rat):∀ i,i<=a.length->i+b.length<=o.length+1->U3 (Ai a b o i) t=U3 o t+U3 (a.take i) t*U3 b t
 |
  0,_,_=>by
  show U3 o t=U3 o t+0*U3 b t;grind
 |
  i+1,h1,h2=>by
  have ih:=rR a b o t i (by omega) (by omega);simp only [Ai];rw [rT _ _ _ _ _ b.length (Ql _) (by rw [D3]; omega),ih,LC a i t (by omega),Q7];grind
theorem Gb (a b:Ul) (t:Rat):U3 (Gf a b) t=U3 a t*U3 b t:=by
 unfold Gf
 split
 ·rename_i h;rcases h with h | h
  ·rw [Qj h]; show (0:Rat)=0*_; grind
  ·rw [Qj h]; show (0:Rat)=_*0; grind
 ·rename_i h;rw [Oh,rR a b _ t a.length (Ql _) (by rw [Jg]; omega),qB,Q7];grind
theorem Hz (z d:Int):(z:Rat) / (d:Rat)=Rat.divInt z d:=by
 by_cases h:d=0
 ·subst h; simp; grind
 ·rw [J5]; exact (Rat.divInt_eq_div z d ▸ by rw [J5])
theorem Qao (a:Ul) (n d:Int) (hd:(d:Rat)≠0):∀ k,k<=a.length->(((Lr a n d k).2:Int):Rat)=(d:Rat)^k/\(((Lr a n d k).1:Int):Rat)*d=(d:Rat)^k*U3 (a.drop (a.length-k)) ((n:Rat) / d)
 |
  0,_=>by
  refine ⟨by rw [Xi]; rfl,?_⟩;rw [W3,Y9];show ((0:Int):Rat)*d=(d:Rat)^0*0
  push_cast; grind
 |
  k+1,hk=>by
  obtain ⟨h1,h2⟩:=Qao a n d hd k (by omega);have hi:a.length-1-k<a.length:=by omega
  have e1:a.drop (a.length-(k+1))=a.getD (a.length-1-k) 0::a.drop (a.length-k):=by
   rw [show a.length-(k+1)=a.length-1-k by omega,Zu hi,show a.length-1-k+1=a.length-k by omega];congr 1;rw [Qi,Qe hi]; rfl
  refine ⟨?_,?_⟩
  ·show (((Lr a n d k).2*d:Int):Rat)=_;rw [X5,h1,Xa]
  ·rw [e1];show (((Lr a n d k).1*n+a.getD (a.length-1-k) 0*(Lr a n d k).2:Int):Rat)*d=_*(((a.getD (a.length-1-k) 0:Int):Rat)+(n:Rat) / d*U3 (a.drop (a.length-k)) ((n:Rat) / d));rw [Kd,X5,X5,h1,Xa];have h3:(n:Rat) / d*d=n:=by rw [Zl hd]
   have h4:(d:Rat)^k*d*((n:Rat) / d*U3 (a.drop (a.length-k)) ((n:Rat) / d))=((n:Rat) / d*d)*((d:Rat)^k*U3 (a.drop (a.length-k)) ((n:Rat) / d)):=by grind
   have h5:(d:Rat)^k*d*(((a.getD (a.length-1-k) 0:Int):Rat)+(n:Rat) / d*U3 (a.drop (a.length-k)) ((n:Rat) / d))=(d:Rat)^k*d*((a.getD (a.length-1-k) 0:Int):Rat)+(d:Rat)^k*d*((n:Rat) / d*U3 (a.drop (a.length-k)) ((n:Rat) / d)):=by grind
   rw [h5,h4,h3,<-h2];grind
theorem oY {d:Rat} (h:0<d):∀ k:Nat,0<d^k
 | 0=>by rw [Xi]; decide
 | k+1=>by rw [Xa]; exact Xu (oY h k) h
theorem Cf {x y:Rat} (h:0<y):U7 (y*x)=U7 x:=by
 unfold U7;have h1:y*x<0↔x<0:=by
  constructor
  ·intro h2;rcases Vy (a:=0) (b:=x) with h3 | h3
   ·have:=Vz (Qt h) h3; grind
   ·rcases Rat.le_iff_lt_or_eq.1 h3 with h4 | h4
    ·exact h4
    ·rw [h4] at h2; grind
  ·intro h2;have:=Xu h (show 0 < -x by grind);grind
 have h2:0<y*x↔0<x:=by
  constructor
  ·intro h2;rcases Vy (a:=x) (b:=0) with h3 | h3
   ·have:=Vz (Qt h) (show 0<=-x by grind); grind
   ·rcases Rat.le_iff_lt_or_eq.1 h3 with h4 | h4
    ·exact h4
    ·rw [<-h4] at h2; grind
  ·intro h2; exact Xu h h2
 simp only [h1,h2]
theorem Qgb (z:Int):Dv z 0=U7 (z:Rat):=by
 unfold Dv U7;have h1:((z:Int):Rat)<0↔z<0:=by
  have := @Rat.intCast_lt_intCast z 0; simpa using this
 have h2:0<((z:Int):Rat)↔0<z:=by
  have := @Rat.intCast_lt_intCast 0 z; simpa using this
 simp only [h1,h2]
theorem M8 (p:Ul) (q:Rat):H5 p q=U7 (U3 p q):=by
 have hd0:(0:Rat)<((q.den:Int):Rat):=by
  have := @Rat.intCast_lt_intCast 0 (q.den:Int);rw [show ((0:Int):Rat)=0 from rfl] at this;exact this.2 (den_pos q)
 have hd:((q.den:Int):Rat)≠0:=by intro h; rw [h] at hd0; exact absurd hd0 (by decide)
 obtain ⟨_,h⟩:=Qao p q.num q.den hd p.length (Ql _);rw [Ki,X9,Hz,Z9] at h;unfold H5;rw [Qgb,<-Cf hd0,W5];show U7 ((((Lr p q.num q.den p.length).1:Int):Rat)*_)=_;rw [h,Cf (oY hd0 _)]
def cz (p:Ul):Uo:=p.map λz:Int=>(z:Rat)
theorem U4 (t:Rat):∀ p,ev (cz p) t=U3 p t
 | []=>rfl
 | a::p=>by have:=U4 t p; simp only [cz,Zz,ev,U3] at *; rw [this]
theorem Mk:∀ (p:Ul) (k:Nat),(cz p).getD k 0=((p.getD k 0:Int):Rat)
 | [],k=>by simp [cz]
 | a::p,0=>by simp [cz]
 | a::p,k+1=>by have:=Mk p k; simp only [cz,Zz,Q5] at *; exact this
theorem D9 {p q:Ul} (h:∀ t,U3 p t=U3 q t) (k:Nat):p.getD k 0=q.getD k 0:=by
 have:=Dk (p:=cz p) (q:=cz q) (λt=>by rw [U4,U4,h]) k;rw [Mk,Mk] at this
 exact_mod_cast this
theorem Qqo {p q:Ul} (hp:U6 p) (hq:U6 q) (h:∀ k,p.getD k 0=q.getD k 0):p=q:=by
 have key:∀ {p q:Ul},U6 p->U6 q->(∀ k,p.getD k 0=q.getD k 0)->p.length<=q.length:=λ{p q} hp hq h=>by
  rcases Zd q.length p.length with e | e
  ·have:=Hy hp (by omega);rw [h,Qi,Qw (by omega)] at this;exact absurd rfl this
  ·exact e
 exact CP (Kc (key hp hq h) (key hq hp λk=>(h k).symm)) λj _=>h j
theorem iO {p q:Ul} (hp:U6 p) (hq:U6 q) (h:∀ t,U3 p t=U3 q t):p=q:=Qqo hp hq (D9 h)
theorem yL {p:Ul} (hp:U6 p) (h:∀ t,U3 p t=0):p=[]:=iO hp rfl λt=>by rw [h]; rfl
theorem Dn {p:Ul} (h:p.length=0) (t:Rat):U3 p t=0:=by rw [Qj h]; rfl
theorem iE:∀ (p r:Ul) (t:Rat),(∀ k,r.getD k 0=p.getD (k+1) 0*((k+1:Nat):Int))->U3 r t=dv (cz p) t
 |
  [],r,t,h=>by
  rw [iI (q:=[]) (λk=>by rw [h]; simp) t]; rfl
 |
  a::p,r,t,h=>by
  have ih:=iE p (Gk p) t λk=>Nz p k
  have e:U3 r t=U3 p t+t*U3 (Gk p) t:=by
   have:=B8 1 1 t (max (max p.length (0::Gk p).length) r.length) p (0::Gk p) r (by omega) (by omega) (by omega) λk=>by
    rw [h,Q5];cases k with
    | zero=>simp
    | succ k=>rw [Q5,Nz]; push_cast; grind
   rw [this]; simp only [U3]; push_cast; grind
  rw [e,ih];show _=ev (cz p) t+t*dv (cz p) t;rw [U4]
theorem Og (p:Ul) (t:Rat):U3 (Gk p) t=dv (cz p) t:=iE p _ t λk=>Nz p k
theorem SQ {p:Ul} (hp:U6 p) (h:0<p.length):HD (cz p) (p.length-1):=by
 refine ⟨?_,λk hk=>?_⟩
 ·rw [Mk];have:=Hy hp h;exact λe=>this (by exact_mod_cast e)
 ·rw [Mk,Qi,Qw (by omega)]; rfl
theorem TD {p:Ul} (hp:U6 p) (h:0<p.length):¬∀ t,U3 p t=0:=λh0=>by
 rw [yL hp h0] at h; exact absurd h (by simp)
theorem Pw {a b c:Ul} (ha:U6 a) (hb:U6 b) (hc:U6 c) (h:∀ t,U3 c t=U3 a t*U3 b t) (la:0<a.length) (lb:0<b.length):c.length=a.length+b.length-1:=by
 have h1:=DT (SQ ha la) (SQ hb lb);have h2:HD (cz c) (a.length-1+(b.length-1)):=Qr1 (λt=>by rw [Fa,U4,U4,U4,h]) h1;have lc:0<c.length:=by
  rcases Q3 c.length with e | e
  ·exact absurd (λt=>by rw [U4]; exact Dn e t) (aG h2)
  ·exact e
 have:=Qr2 (SQ hc lc) h2;omega
theorem rD:∀ (n m:Nat),m<=n->2<=m->∃ P,2<=P/\P∣m/\∀ d,2<=d->d∣P->d=P
 | 0,m,h,h2=>by omega
 |
  n+1,m,h,h2=>by
  rcases Classical.em (∃ d,2<=d/\d<m/\d∣m) with ⟨d,d1,d2,d3⟩ | h0
  ·obtain ⟨P,p1,p2,p3⟩:=rD n d (by omega) d1;exact ⟨P,p1,Nat.dvd_trans p2 d3,p3⟩
  ·refine ⟨m,h2,Nat.dvd_refl m,λd d1 d2=>?_⟩;rcases Vm (Kw (by omega) d2) with e | e
   ·exact absurd ⟨d,d1,e,d2⟩ h0
   ·exact e
theorem jH {P:Nat} (h2:2<=P) (hP:∀ d,2<=d->d∣P->d=P) {x y:Int} (h:(P:Int)∣x*y):(P:Int)∣x\/(P:Int)∣y:=by
 have h:=X7.2 h;rw [J8,Xj] at h;have hg:=Wz P x.natAbs;rcases Zd (Nat.gcd P x.natAbs) 2 with e | e
 ·right;have h1:Nat.gcd P x.natAbs=1:=by
   have:=Nat.gcd_pos_of_pos_left x.natAbs (show 0<P by omega); omega
  have:=Nat.Coprime.dvd_of_dvd_mul_left h1 h;exact X7.1 (by rwa [Xj])
 ·left;have:=hP _ e hg;have h3:=Nat.gcd_dvd_right P x.natAbs;rw [this] at h3;exact X7.1 (by rwa [Xj])
def sD (P:Int) (l:Ul):Prop:=∀ k,P∣l.getD k 0
theorem GE {P:Nat} (h2:2<=P) (hP:∀ d,2<=d->d∣P->d=P):∀ (n:Nat) (b h c:Ul),b.length+h.length<=n->(∀ t,U3 c t=U3 b t*U3 h t)->sD P c->sD P b\/sD P h
 | _,[],h,c,_,_,_=>.inl λk=>by simp
 | _,x::b,[],c,_,_,_=>.inr λk=>by simp
 | 0,x::b,y::h,c,hn,_,_=>by simp at hn
 |
  n+1,x::b,y::h,c,hn,hc,hd=>by
  simp only [Q4] at hn;by_cases hx:(P:Int)∣x
  ·-- x h is taken away
   have e:∀ t,U3 (0::Gf b (y::h)) t=U3 (Mx c (Fo (y::h) x)) t:=λt=>by
    rw [Ty,Rf,hc]; simp only [U3]; rw [Gb]; simp only [U3]; push_cast; grind
   have hd':sD P (Gf b (y::h)):=λk=>by
    have:=D9 e (k+1);rw [Q5,Oq,Mb] at this;rw [this];exact Int.dvd_sub (hd (k+1)) (V7 hx (Y8 _ _))
   rcases GE h2 hP n b (y::h) _ (by simp only [Q4]; omega) (λt=>Gb _ _ t) hd' with h1 | h1
   ·refine .inl λk=>?_
    cases k with
    | zero=>rw [Zt]; exact hx
    | succ k=>rw [Q5]; exact h1 k
   ·exact .inr h1
  ·have h0:(P:Int)∣y:=by
    have e:c.getD 0 0=x*y:=by
     have:=D9 (p:=c) (q:=Gf (x::b) (y::h)) (λt=>by rw [hc,Gb]) 0;have e2:=D9 (p:=Gf (x::b) (y::h)) (q:=ZU (Fo (y::h) x) (0::Gf b (y::h))) (λt=>by
      rw [LN,Rf,Gb]; simp only [U3]; rw [Gb]; simp only [U3]; push_cast; grind) 0
     rw [this,e2,qS,Mb,Zt,Zt,Wa]; omega
    have:=hd 0;rw [e] at this;rcases jH h2 hP this with h1 | h1
    ·exact absurd h1 hx
    ·exact h1
   have e:∀ t,U3 (0::Gf (x::b) h) t=U3 (Mx c (Fo (x::b) y)) t:=λt=>by
    rw [Ty,Rf,hc]; simp only [U3]; rw [Gb]; simp only [U3]; push_cast; grind
   have hd':sD P (Gf (x::b) h):=λk=>by
    have:=D9 e (k+1);rw [Q5,Oq,Mb] at this;rw [this];exact Int.dvd_sub (hd (k+1)) (V7 h0 (Y8 _ _))
   rcases GE h2 hP n (x::b) h _ (by simp only [Q4]; omega) (λt=>Gb _ _ t) hd' with h1 | h1
   ·exact absurd (by have:=h1 0; rwa [Zt] at this) hx
   ·refine .inr λk=>?_
    cases k with
    | zero=>rw [Zt]; exact h0
    | succ k=>rw [Q5]; exact h1 k
def Prm (b:Ul):Prop:=∀ d:Int,sD d b->d∣1
theorem Qhg {a b:Ul} (hb:Prm b):∀ (n:Nat) (c:Int) (h:Ul),c.natAbs<=n->c≠0->(∀ t,(c:Rat)*U3 a t=U3 b t*U3 h t)->∃ h',∀ t,U3 a t=U3 b t*U3 h' t
 | 0,c,h,hn,h0,_=>absurd (by omega) h0
 |
  n+1,c,h,hn,h0,hc=>by
  rcases Zd c.natAbs 2 with h1 | h1
  ·refine ⟨Fo h c,λt=>?_⟩;have hcc:(c:Rat)*c=1:=by
    have:c*c=1:=by
     rcases (show c=1\/c=-1 by omega) with rfl | rfl <;> rfl
    have:=congrArg (λz:Int=>(z:Rat)) this
    push_cast at this; exact this
   rw [Rf];have:=hc t;have:U3 a t=(c:Rat)*((c:Rat)*U3 a t):=by
    have:(c:Rat)*((c:Rat)*U3 a t)=((c:Rat)*c)*U3 a t:=by grind
    rw [this,hcc]; grind
   rw [this,hc]; grind
  ·obtain ⟨P,p1,p2,p3⟩:=rD c.natAbs c.natAbs (Ql _) h1;obtain ⟨d,hd⟩:∃ d,c=(P:Int)*d:=Wo.2 p2;have hall:sD P (Fo a c):=λk=>by
    rw [Mb,hd]; exact V7 (Int.dvd_mul_right _ _) (Y8 _ _)
   have hP0:(P:Rat)≠0:=by
    have:((0:Nat):Rat)<(P:Rat):=Vp.2 (by omega);grind
   rcases GE p1 p3 _ b h (Fo a c) (Ql _) (λt=>by rw [Rf,W5,hc]) hall with e | e
   ·have:=hb P e;have:=X7.2 this;rw [Xj] at this;have:=Kw (by decide) this;exact absurd this (by show ¬P<=1; omega)
   ·refine Qhg hb n d (h.map (· / (P:Int))) ?_ (λe0=>h0 (by rw [hd,e0,Wc])) λt=>?_
    ·rw [hd,J8,Xj] at hn h1;have:2*d.natAbs<=P*d.natAbs:=Qz _ p1;omega
    ·have e1:U3 h t=(P:Rat)*U3 (h.map (· / (P:Int))) t:=by
      have:=B8 P 0 t (max h.length (h.map (· / (P:Int))).length) (h.map (· / (P:Int))) [] h (by omega) (by simp) (by omega) λk=>by
       have:=e k;have e2:(h.map (· / (P:Int))).getD k 0=h.getD k 0 / (P:Int):=by
        rw [Qi,Qi,Zb];cases h[k]? <;> simp
       rw [e2,Wb this]; simp
      rw [this]; simp only [U3]; push_cast; grind
     have:=hc t;rw [hd,e1] at this
     push_cast at this
     have h3:(P:Rat)*((d:Rat)*U3 a t)=(P:Rat)*(U3 b t*U3 (h.map (· / (P:Int))) t):=by grind
     have h4:=Yz.1 (show (P:Rat)*((d:Rat)*U3 a t-U3 b t*U3 (h.map (· / (P:Int))) t)=0 by grind);rcases h4 with h4 | h4
     ·exact absurd h4 hP0
     ·grind
theorem IS:∀ u:Uo,∃ c:Int,c≠0/\∃ h:Ul,∀ t,(c:Rat)*ev u t=U3 h t
 | []=>⟨1,by decide,[],λt=>by simp only [ev,U3]; grind⟩
 |
  a::u=>by
  obtain ⟨c,hc,h,hh⟩:=IS u;refine ⟨c*(a.den:Int),Jo hc (by have:=a.den_nz; omega),(c*a.num)::Fo h (a.den:Int),λt=>?_⟩;have e:(a.den:Rat)*a=a.num:=by
   rw [W5];have:(a.num:Rat) / (((a.den:Int)):Rat)=a:=by rw [Hz,Z9]
   have hd:(a.den:Rat)≠0:=by
    have:((0:Nat):Rat)<(a.den:Rat):=Vp.2 a.den_pos;grind
   have h2:(a.num:Rat) / (a.den:Rat)*(a.den:Rat)=a.num:=Zl hd;rw [show (a.num:Rat) / (a.den:Rat)=a from this] at h2; exact h2
  simp only [ev,U3];rw [Rf,<-hh]
  push_cast
  rw [<-e];have e3:(((a.den:Int)):Rat)=(a.den:Rat):=rfl;grind
theorem Qhf {a b:Ul} (hb:Prm b) (h:ZH (cz b) (cz a)):∃ h',U6 h'/\∀ t,U3 a t=U3 b t*U3 h' t:=by
 obtain ⟨u,hu⟩:=h;obtain ⟨c,hc,h,hh⟩:=IS u;obtain ⟨h',e⟩:=Qhg hb c.natAbs c h (Ql _) hc λt=>by
  have:=hu t;rw [U4,U4] at this;rw [this,<-hh]; grind
 exact ⟨trim h',Tg _,λt=>by rw [Oh,e]⟩
def sd (x0:Rat):Uo->Uo
 | []=>[]
 | _::p=>Se p (Dq x0 (sd x0 p))
theorem Qg7 (x0 x:Rat):∀ p,ev (sd x0 p) x=dq p x x0
 | []=>rfl
 | a::p=>by simp only [sd,dq]; rw [Gs,Gl,Qg7 x0 x p]
theorem cS (x0:Rat):∀ (g:Uo) (n:Nat),(∀ j,n<j->g.getD j 0=0)->∀ j,n<=j->(sd x0 g).getD j 0=0
 | [],n,_,j,_=>by simp [sd]
 |
  a::p,0,h,j,_=>by
  have hp:∀ j,p.getD j 0=0:=λj=>by have:=h (j+1) (by omega); rwa [Q5] at this
  simp only [sd];rw [Ra,Tw,hp,cS x0 p 0 (λj _=>hp j) j (Qh _)]; grind
 |
  a::p,n+1,h,j,hj=>by
  have hp:∀ j,n<j->p.getD j 0=0:=λj hj=>by have:=h (j+1) (by omega); rwa [Q5] at this
  simp only [sd];rw [Ra,Tw,hp j (by omega),cS x0 p n hp j (by omega)]; grind
theorem nK {K:Rat} (hK:0≤K):∀ (e:Nat) (g:Uo) (pts:Ul) (M:Rat),pts.length=e+1->pts.Nodup->(∀ x∈pts,Fc (x:Rat)≤K)->(∀ k,e<k->g.getD k 0=0)->(∀ x∈pts,Fc (ev g (x:Rat))≤M)->∀ k,Fc (g.getD k 0)≤(2*K+3)^e*M
 | _,_,[],_,h,_,_,_,_=>by simp at h
 |
  0,g,x0::xs,M,_,_,_,hg,hM=>λk=>by
  have h0:=hM x0 (by simp);rw [Xi];cases k with
  |
   zero =>
   have e:ev g (x0:Rat)=g.getD 0 0:=by
    cases g with
    | nil=>rfl
    |
     cons a p =>
     have hp:=Dw (p:=p) λj=>by have:=hg (j+1) (by omega); rwa [Q5] at this
     simp only [ev,hp,Zt]; grind
   rw [<-e]; grind
  |
   succ k =>
   rw [hg (k+1) (by omega),H8];have:=Ho (ev g (x0:Rat)); grind
 |
  e+1,g,x0::xs,M,hl,hn,hb,hg,hM=>λk=>by
  have hx0:=hb x0 (by simp);have hM0:=hM x0 (by simp);have hMn:0<=M:=Zk (Ho _) hM0;rw [List.nodup_cons] at hn;have ih:=nK hK e (sd x0 g) xs (2*M) (by simpa using hl) hn.2 (λx hx=>hb x (by simp [hx])) (λj hj=>cS _ g (e+1) hg j (by omega)) λx hx=>by
   have h1:=hM x (by simp [hx]);have h2:=OQ (x:Rat) (x0:Rat) g;rw [<-Qg7] at h2;have hne:x-x0≠0:=λh=>hn.1 (by rw [show x0=x by omega]; exact hx)
   have h3:=KD hne;rw [Rat.intCast_sub] at h3;have h4:Fc (ev g (x:Rat)-ev g (x0:Rat))<=2*M:=by
    have:=T0 (ev g (x:Rat)) (-ev g (x0:Rat));rw [Ec,show ev g (x:Rat)+-ev g (x0:Rat)=ev g (x:Rat)-ev g (x0:Rat) by grind] at this;clear hM hb hg; grind
   rw [h2,Ie] at h4;have h5:=Zf h3 (Ho (ev (sd x0 g) x));clear hM hb hg; grind
  have e1:∀ t,ev g t=ev (Se [ev g x0] (Se (Dq (-x0) (sd x0 g)) (0::sd x0 g))) t:=λt=>by
   have:=OQ t (x0:Rat) g;rw [<-Qg7] at this;simp only [Gs,Gl,ev];grind
  have hp1:1<=(2*K+3)^e:=(YR (R:=2*K+3) (x:=0) (by grind) (by rw [H8]; grind) e).2;have hpM:=Np (x:=(2*K+3)^e) (y:=M) (by grind) hMn;have hpM1:=Zf hp1 hMn;rw [Xa,Dk e1 k,Ra,Ra,Tw];have a1:=ih k;have a2:Fc (-(x0:Rat)*(sd (x0:Rat) g).getD k 0)<=K*((2*K+3)^e*(2*M)):=G5 (by rw [Ec]; exact hx0) a1;have fin:∀ u v w:Rat,Fc u<=M->Fc v<=K*((2*K+3)^e*(2*M))->Fc w<=(2*K+3)^e*(2*M)->Fc (u+(v+w))<=(2*K+3)^e*(2*K+3)*M:=λu v w h1 h2 h3=>by
   have b1:=T0 u (v+w);have b2:=T0 v w;clear ih e1 hM hb hg a1 a2; grind
  refine fin _ _ _ ?_ a2 ?_
  ·cases k with
   | zero=>rw [Zt]; exact hM0
   | succ k=>rw [Q5,Ku,H8]; exact hMn
  ·cases k with
   | zero=>rw [Zt,H8]; clear ih e1 hM hb hg a1 a2 fin; grind
   | succ k=>rw [Q5]; exact ih k
theorem Qj5 {g:Uo} {e:Nat} (hg:∀ k,e<k->g.getD k 0=0) (hz:¬∀ t,ev g t=0) {pts:Ul} (hn:pts.Nodup) (hr:∀ x∈pts,ev g (x:Rat)=0):pts.length≤e:=by
 rcases Zd e pts.length with h | h
 ·exfalso;obtain ⟨K,hK,hb⟩:∃ K:Rat,0≤K/\∀ x∈pts,Fc (x:Rat)≤K:=by
   clear hn hr h
   induction pts with
   | nil=>exact ⟨0,by decide,λx hx=>by cases hx⟩
   |
    cons y pts ih =>
    obtain ⟨K,h1,h2⟩:=ih;refine ⟨K+Fc (y:Rat),by have:=Ho (y:Rat); grind,λx hx=>?_⟩;have hy:=Ho (y:Rat);rcases Qm.1 hx with rfl | hx
    ·grind
    ·have:=h2 x hx; grind
  refine hz (Dw λk=>?_);have:=nK hK e g (pts.take (e+1)) 0 (by rw [Qr]; omega) (hn.sublist (List.take_sublist ..)) (λx hx=>hb x (Qo hx)) hg (λx hx=>by rw [hr x (Qo hx),H8]; exact Qp) k;have h2:=Ho (g.getD k 0);exact Qpp (by grind)
 ·exact h
def spots:Ul:=(List.range 19).map λi:Nat=>(i:Int)-9
theorem spots_nd:spots.Nodup:=by decide
theorem tO:∀ x∈spots,x.natAbs≤9:=by decide
theorem CB {α:Type} (p:α->Bool):∀ l:List α,(l.filter p).length+(l.filter λx => !p x).length=l.length
 | []=>rfl
 |
  x::l=>by
  have:=CB p l;cases h:p x <;> simp [h] <;> omega
def geo:Nat->Nat
 | 0=>0
 | n+1=>1+9*geo n
theorem aX {B:Rat}:∀ (p:Ul),(∀ z∈p,Fc (z:Rat)≤B)->fZ 9 (cz p)≤B*(geo p.length:Nat)
 | [],_=>by simp only [cz,Jb,fZ,geo,Jy]; rw [show ((0:Nat):Rat)=0 from rfl]; grind
 |
  a::p,h=>by
  have h1:=aX p λz hz=>h z (Qg _ hz)
  have h2:=h a (Qy ..);simp only [cz,Zz,fZ,geo,Q4] at *
  push_cast
  clear h; grind
theorem Qho {m n:Nat} (h:m<=n):geo m<=geo n:=by
 induction h with
 | refl=>exact Ql _
 | step h ih=>simp only [geo]; omega
def pz:Ul->Int->Int
 | [],_=>0
 | a::p,x=>a+x*pz p x
theorem KI (x:Int):∀ p,U3 p (x:Rat)=((pz p x:Int):Rat)
 | []=>rfl
 | a::p=>by simp only [U3,pz,KI x p]; push_cast; rfl
theorem So (z:Int):Fc (z:Rat)=((z.natAbs:Nat):Rat):=by
 unfold Fc;rcases K9 z 0 with h | h
 ·have h1:(z:Rat)<((0:Int):Rat):=Jm.2 h;rw [if_pos (by simpa using h1)];have:(z.natAbs:Int)=-z:=by omega
  have:=congrArg (λu:Int=>(u:Rat)) this
  push_cast at this
  exact this.symm
 ·have h1:((0:Int):Rat)<=(z:Rat):=Je.2 h;have h1:(0:Rat)<=(z:Rat):=by simpa using h1
  rw [if_neg (by grind)];have:(z.natAbs:Int)=z:=by omega
  have:=congrArg (λu:Int=>(u:Rat)) this;exact this.symm
theorem QU {p g h:Ul} {s:Nat} (hp:Bd s p) (hl:p.length<=10) (tp:U6 p) (tg:U6 g) (th:U6 h) (h0:p.length≠0) (e:∀ t,U3 p t=U3 g t*U3 h t):Bd (s+69) g:=by
 have lg:0<g.length:=by
  rcases Q3 g.length with e' | e'
  ·exact absurd (λt=>by rw [e,Dn e']; grind) (TD tp (by omega))
  ·exact e'
 have lh:0<h.length:=by
  rcases Q3 h.length with e' | e'
  ·exact absurd (λt=>by rw [e,Dn e']; grind) (TD tp (by omega))
  ·exact e'
 have hlen:=Pw tg th tp e lg lh;obtain ⟨q,hq⟩:=nmE (spots.filter λx => !decide (pz p x=0));have hr:(spots.filter λx=>decide (pz p x=0)).length<=9:=by
  refine Qj5 (g:=cz p) (e:=9) (λk hk=>?_) (λh=>TD tp (by omega) λt=>by rw [<-U4]; exact h t) (spots_nd.sublist List.filter_sublist) λx hx=>?_
  ·rw [Mk,Qi,Qw (by omega)]; rfl
  ·have:=(Yg.1 hx).2;rw [U4,KI,of_decide_eq_true this]; rfl
 have hc:=CB (λx=>decide (pz p x=0)) spots;rw [<-hq] at hc;have hsl:spots.length=19:=by decide
 have hB:∀ z∈p,Fc (z:Rat)≤((2^s:Nat):Rat):=λz hz=>by
  rw [So];have:=hp z hz;rw [Sl] at this;exact Zn.2 (Yi this)
 have key:=nK (K:=9) (by decide) 9 (cz g) (q.take 10) (((2^s*435848050:Nat)):Rat) (by rw [Qr]; omega) ((spots_nd.sublist (by rw [hq]; exact List.filter_sublist)).sublist (List.take_sublist ..)) (λx hx=>by
  have hx:=Qo hx;rw [hq] at hx;have:=tO x (Yg.1 hx).1;rw [So]
  exact_mod_cast Zn.2 this) (λk hk=>by rw [Mk,Qi,Qw (by omega)]; rfl) (λx hx=>by
  have hx:=Qo hx;rw [hq] at hx;obtain ⟨hx1,hx2⟩:=Yg.1 hx;have hne:pz p x≠0:=by simpa using hx2
  have e1:=e (x:Rat);rw [KI,KI,KI] at e1;have e2:pz p x=pz g x*pz h x:=by exact_mod_cast e1
  have hh:1<=(pz h x).natAbs:=by
   rcases Q3 (pz h x).natAbs with e' | e'
   ·exact absurd (by rw [e2,Int.natAbs_eq_zero.1 e',Wc]) hne
   ·exact e'
  have h3:(pz g x).natAbs<=(pz p x).natAbs:=by
   rw [e2,J8];exact Yq _ hh
  rw [U4,KI,So];refine Zk (Zn.2 h3) ?_;rw [<-So,<-KI,<-U4];refine Zk (TE (R:=9) (by
   have:=tO x hx1;rw [So]
   exact_mod_cast Zn.2 this) _) ?_
  refine Zk (aX p hB) ?_;have:2^s*geo p.length<=2^s*435848050:=Zp _ (Qc (Qho hl) (by decide));have:=Zn.2 this
  push_cast at this ⊢
  exact this)
 refine NT λk=>?_
 have h1:=key k;rw [Mk,So] at h1;have e3:(2*(9:Rat)+3)^9*((2^s*435848050:Nat):Rat)=(((794280046581*(2^s*435848050)):Nat):Rat):=by
  rw [show (2*(9:Rat)+3)^9=794280046581 by grind]
  push_cast; rfl
 rw [e3] at h1;have h2:=Zn.1 h1;rw [Sl];refine Z2 h2 ?_;have:794280046581*(2^s*435848050)=2^s*(794280046581*435848050):=by
  rw [Nat.mul_left_comm]
 rw [this,Xh];exact Nat.mul_lt_mul_of_pos_left (by decide) (Z1 (by decide))
theorem uL {l:Ul} {d:Int} (h:∀ z∈l,d∣z):d∣((Rv l:Nat):Int):=by
 have key:∀ (l:Ul) (g:Nat),d.natAbs∣g->(∀ z∈l,d∣z)->d.natAbs∣l.foldl (λg z=>Nat.gcd g z.natAbs) g:=by
  intro l
  induction l with
  | nil=>exact λg h _=>h
  | cons z l ih=>exact λg hg h=>ih _ (Nat.dvd_gcd hg (X7.2 (h z (Qy ..)))) λu hu=>h u (Qg _ hu)
 have:=key l 0 (Nat.dvd_zero _) h;exact X7.1 (by rw [Xj]; exact this)
theorem UM (p:Ul) (c:Int) (k:Nat):(p.map (· / c)).getD k 0=p.getD k 0 / c:=by
 rw [Qi,Qi,Zb];cases p[k]? <;> simp
theorem KO (p:Ul) (c:Int) (k:Nat):(Cw p c).getD k 0=p.getD k 0 / c:=by
 unfold Cw; rw [YL,UM]
theorem qN {p:Ul} {c:Int} (h:∀ z∈p,c∣z) (t:Rat):U3 p t=(c:Rat)*U3 (Cw p c) t:=by
 have:=B8 c 0 t (max p.length (Cw p c).length) (Cw p c) [] p (by omega) (by simp) (by omega) λk=>by
  rw [KO];have hd:c∣p.getD k 0:=by
   rw [Qi];cases e:p[k]? with
   | none=>exact Int.dvd_zero _
   | some z=>exact h z (Qa e)
  rw [Wb hd]; simp
 rw [this]; simp only [U3]; push_cast; grind
theorem XZ {c:Int} (h:c≠0):(c:Rat)≠0:=λe=>h (by exact_mod_cast e)
theorem QP {p q:Ul} {c:Rat} (tp:U6 p) (tq:U6 q) (hc:c≠0) (h:∀ t,U3 p t=c*U3 q t):p.length=q.length:=by
 have key:∀ {p q:Ul} {c:Rat},U6 p->U6 q->c≠0->(∀ t,U3 p t=c*U3 q t)->p.length<=q.length:=λ{p q c} tp tq hc h=>by
  rcases Zd q.length p.length with e | e
  ·have h1:=Hy tp (by omega);have:=Dk (p:=cz p) (q:=Dq c (cz q)) (λt=>by rw [U4,Gl,U4,h]) (p.length-1);rw [Mk,Tw,Mk,Qi (l:=q),Qw (by omega)] at this;have:((p.getD (p.length-1) 0:Int):Rat)=0:=by rw [this]; simp
   exact absurd (by exact_mod_cast this) h1
  ·exact e
 refine Kc (key tp tq hc h) (key (c:=1 / c) tq tp (λe=>?_) λt=>?_)
 ·have:=Zl (a:=1) hc; rw [e] at this; grind
 ·rw [h]; have:=Zl (a:=1) hc; grind
theorem Ma {p:Ul} (tp:U6 p) (h:p.length≠0):U6 (Fb p)/\(Fb p).length=p.length/\Prm (Fb p)/\0<Fi (Fb p)/\(∀ s,Bd s p->Bd s (Fb p))/\Hi p≠0/\∀ t,U3 p t=(Hi p:Rat)*U3 (Fb p) t:=by
 have h0:=oQ tp h;have e:Fb p=Cw p (Hi p):=by unfold Fb; rw [if_neg h]
 have h1:=qN (p:=p) (c:=Hi p) FH;have hl:=QP tp (QE p (Hi p)) (XZ h0) h1;have hcp:0<S7 p:=by
  have:=XC tp h;unfold S7 at this ⊢; omega
 rw [e];refine ⟨QE _ _,hl.symm,λd hd=>?_,?_,λs hs=>NS hs _,h0,h1⟩
 ·have h2:∀ z∈p,d*Hi p∣z:=λz hz=>by
   obtain ⟨i,hi⟩:=Zm.1 hz;have h3:=hd i;rw [KO,Qi,hi] at h3;obtain ⟨k,hk⟩:=h3;have h4:=FH z hz;refine ⟨k,?_⟩;have:z / Hi p*Hi p=z:=Int.ediv_mul_cancel h4;rw [<-this];rw [show z / Hi p=d*k from hk,Int.mul_right_comm]
  have h3:=uL h2;have h4:Hi p∣((Rv p:Nat):Int)/\((Rv p:Nat):Int)∣Hi p:=by
   unfold Hi S7; split
   ·exact ⟨Ub.2 (K8 _),Int.dvd_neg.2 (K8 _)⟩
   ·exact ⟨K8 _,K8 _⟩
  obtain ⟨k,hk⟩:=V7 h3 h4.2;refine ⟨k,?_⟩;have:Hi p*(d*k)=Hi p*1:=by rw [Ua,<-Int.mul_assoc,Wa (Hi p) d,<-hk]
  exact (Int.eq_of_mul_eq_mul_left h0 this).symm
 ·have h2:Fi (Cw p (Hi p))=Fi p / Hi p:=by unfold Fi; rw [<-hl,KO]
  have h3:Hi p∣Fi p:=FH _ (DL h);have h5:Fi p / Hi p*Hi p=Fi p:=Int.ediv_mul_cancel h3;rw [h2];have h6:=L8 tp h;rcases Km (Fi p / Hi p) 0 with e1 | e1 | e1
  ·exfalso;by_cases hn:Fi p<0
   ·have:Hi p=-S7 p:=by unfold Hi; rw [if_pos hn]
    have:0<Fi p / Hi p*Hi p:=Ka e1 (by omega);omega
   ·have:Hi p=S7 p:=by unfold Hi; rw [if_neg hn]
    have:Fi p / Hi p*Hi p<0:=Int.mul_neg_of_neg_of_pos e1 (by omega);omega
  ·rw [e1] at h5; omega
  ·exact e1
theorem Qjj {r:Ul} (tr:U6 r):∃ c:Rat,0<c/\∀ t,U3 r t=c*U3 (VP r) t:=by
 unfold VP;by_cases h:r.length=0
 ·rw [if_pos h]; exact ⟨1,by decide,λt=>by rw [Dn h,Dn rfl]; grind⟩
 ·rw [if_neg h];have h1:0<S7 r:=by
   have:=XC tr h;unfold S7 at this ⊢; omega
  have h2:((0:Int):Rat)<(S7 r:Rat):=Jm.2 h1;exact ⟨S7 r,by simpa using h2,qN Ek⟩
theorem XD (x:Int) (t:Rat):∀ i,U3 (mono i x) t=(x:Rat)*t^i
 | 0=>by simp only [mono,Wi,Yh,U3,Xi]; grind
 |
  i+1=>by
  have ih:=XD x t i;simp only [mono,J1,Xd,U3] at *;rw [ih,Xa]; push_cast; grind
theorem iU (x:Int) (b:Ul) (i k:Nat):(Gf (trim (mono i x)) b).getD k 0=if i<=k then x*b.getD (k-i) 0 else 0:=by
 have e:∀ t,U3 (Gf (trim (mono i x)) b) t=U3 (List.replicate i 0++b.map (x * ·)) t:=λt=>by
  rw [Gb,Oh,XD];have h2:∀ i,U3 (List.replicate i 0++b.map (x * ·)) t=t^i*((x:Rat)*U3 b t):=λi=>by
   induction i with
   |
    zero =>
    simp only [Wi,Yh,Xi];have:=B8 x 0 t (max b.length (b.map (x * ·)).length) b [] (b.map (x * ·)) (by omega) (by simp) (by omega) λk=>by
     rw [Qi,Qi,Zb];cases b[k]? <;> simp
    rw [this]; simp only [U3]; push_cast; grind
   | succ i ih=>simp only [J1,Xd,U3,ih,Xa]; push_cast; grind
  rw [h2]; grind
 rw [D9 e k,Qi,List.getElem?_append,Jg];by_cases h:i<=k
 ·rw [if_neg (by omega),if_pos h,Zb,Qi];cases b[k-i]? <;> simp
 ·rw [if_pos (by omega),if_neg h,Jw,if_pos (by omega)]; rfl
theorem Qic {p:Ul} {n:Nat} (tp:U6 p) (h:p.length<=n+1) (h0:p.getD n 0=0):p.length<=n:=by
 rcases Zd n p.length with e | e
 ·have:=Hy tp (by omega);rw [show p.length-1=n by omega] at this;exact absurd h0 this
 ·exact e
theorem Qqj {b r:Ul} {i:Nat} (tr:U6 r) (h:r.length<=b.length+i) (hb:b.length≠0) {x:Int} (hx:x=if r.length=b.length+i then Fi r else 0):(str b (Fi b) i x r).length<b.length+i:=by
 have hl:=jO (c:=Fi b) (x:=x) (i:=i) (b:=b) (r:=r);have:=Qic (p:=str b (Fi b) i x r) (n:=b.length+i-1) (Fq _ _) (by omega) (by
  unfold str;rw [Oq,Mb,iU,if_pos (by omega),hx,show b.length+i-1-i=b.length-1 by omega]
  split
  ·rename_i he;unfold Fi;rw [he,Int.sub_eq_zero]
  ·rw [Qi (l:=r),Qw (by omega)]; simp)
 omega
theorem Qwb (b r:Ul) (c:Int) (i:Nat) (x:Int) (t:Rat):(c:Rat)*U3 r t=(x:Rat)*t^i*U3 b t+U3 (str b c i x r) t:=by
 unfold str;rw [Ty,Rf,Gb,Oh,XD]; grind
theorem Qjn (b:Ul) (c:Int):∀ (i:Nat) (q r:Ul),∃ X:Uo,∀ t,((c^i:Int):Rat)*U3 r t=ev X t*U3 b t+U3 (rA b c i (q,r)).2 t
 | 0,q,r=>⟨[],λt=>by simp only [rA,ev]; rw [Int.pow_zero]; push_cast; grind⟩
 |
  i+1,q,r=>by
  obtain ⟨x,hx⟩:=nmE (if r.length=b.length+i then Fi r else 0);obtain ⟨X,hX⟩:=Qjn b c i (stq c i x q) (str b c i x r);obtain ⟨m,hm⟩:∃ m:Uo,∀ t,ev m t=(x:Rat)*t^i:=⟨cz (mono i x),λt=>by rw [U4,XD]⟩;refine ⟨Se (Dq ((c^i:Int):Rat) m) X,λt=>?_⟩;rw [XI hx,Gs,Gl,hm];have h1:=hX t;have h2:=Qwb b r c i x t;rw [Int.pow_succ]
  push_cast at h1 ⊢
  have:(c:Rat)^i*c*U3 r t=(c:Rat)^i*((c:Rat)*U3 r t):=by grind
  rw [this,h2]; grind
theorem oW {b:Ul} (hb:b.length≠0):∀ (i:Nat) (q r:Ul),U6 r->r.length<b.length+i->U6 (rA b (Fi b) i (q,r)).2/\(rA b (Fi b) i (q,r)).2.length<b.length
 | 0,q,r,tr,h=>⟨tr,h⟩
 |
  i+1,q,r,tr,h=>by
  rw [XI rfl];exact oW hb i _ _ (Fq _ _) (Qqj tr (by omega) hb rfl)
theorem Qjm {b:Ul} {c:Int} {t:Nat} (hb:Bd t b) (hc:U9 c<=t):∀ (i u:Nat) (q r:Ul),i<=64->Bd u r->Bd (u+i*(t+8)) (rA b c i (q,r)).2
 | 0,u,q,r,_,h=>by simpa [rA] using h
 |
  i+1,u,q,r,hi,h=>by
  rw [XI rfl];have hx:U9 (if r.length=b.length+i then Fi r else 0)<=u:=by
   split
   ·exact M3 h
   ·rw [M4]; exact Qh _
  have:=Qjm hb hc i (u+t+8) (stq c i (if r.length=b.length+i then Fi r else 0) q) (str b c i (if r.length=b.length+i then Fi r else 0) r) (by omega) (pK h hb hc hx (by omega));exact Ux this (by rw [Xc]; omega)
theorem EZ {c:Int} (h:c<0):∀ k:Nat,(k % 2=1->c^k<0)/\(k % 2=0->0<c^k)
 | 0=>⟨λh=>by omega,λ_=>by rw [Int.pow_zero]; decide⟩
 |
  k+1=>by
  obtain ⟨i1,i2⟩:=EZ h k;rw [Int.pow_succ];exact ⟨λhk=>V9 (i2 (by omega)) h,λhk=>Ka (i1 (by omega)) h⟩
theorem FC {a b:Ul} (ta:U6 a) (tb:U6 b) (hb:b.length≠0) (hl:a.length<=60):U6 (Rk a b)/\(Rk a b).length<b.length/\(∀ s,Bd s a->Bd s b->Bd (s+(a.length+1-b.length)*(s+8)) (Rk a b)) /\
 ∃ u v:Rat,0<u/\0<v/\∃ X:Uo,∀ t,u*U3 a t=ev X t*U3 b t+v*U3 (Rk a b) t:=by
 obtain ⟨k,hk⟩:=nmE (a.length+1-b.length);have h1:U6 (Pz a b)/\(Pz a b).length<b.length:=oW hb _ _ _ ta (by omega);obtain ⟨X,hX⟩:=Qjn b (Fi b) k [] a;have hX:∀ t,(((Fi b)^k:Int):Rat)*U3 a t=ev X t*U3 b t+U3 (Pz a b) t:=by unfold Pz; rw [<-hk]; exact hX
 have h2:=FP (a:=a) (b:=b) (r:=Pz a b) (n:=(Pz a b).length) (s:=(Pz a b).foldl (λm z=>m+U9 z) 0) h1.1 (Ql _) (λz hz=>by
  have key:∀ (l:Ul) (m:Nat),m≤l.foldl (λm z=>m+U9 z) m/\∀ z∈l,U9 z≤l.foldl (λm z=>m+U9 z) m:=by
   intro l
   induction l with
   | nil=>exact λm=>⟨Ql _,λz hz=>by cases hz⟩
   |
    cons y l ih =>
    intro m;obtain ⟨i1,i2⟩:=ih (m+U9 y);refine ⟨by simp only [Z5]; omega,λz hz=>?_⟩;simp only [Z5];rcases Qm.1 hz with rfl | hz
    ·omega
    ·exact i2 z hz
  exact (key _ 0).2 z hz)
 have h3:=LA (r:=Ba a b (Pz a b)) (n:=(Pz a b).length) h2.2.1 h2.2.2;refine ⟨h3.1,by unfold Rk; omega,λs ha hbs=>?_,?_⟩
 ·have h4:=Qjm (c:=Fi b) hbs (M3 hbs) k s [] a (by omega) ha;have h5:=FP (a:=a) (b:=b) (n:=(Pz a b).length) h1.1 (Nat.le_refl _) (show Bd (s+k*(s+8)) (Pz a b) by unfold Pz; rw [<-hk]; exact h4);rw [<-hk];exact (LA h5.2.1 h5.2.2).2.2
 ·obtain ⟨v,vp,hv⟩:=Qjj h2.1;have hc:=L8 tb hb;by_cases ht:k % 2=1/\Fi b<0
  ·have e1:Ba a b (Pz a b)=P9 (Pz a b):=by unfold Ba; rw [<-hk,if_pos ht]
   have hneg:(Fi b)^k<0:=(EZ ht.2 k).1 ht.1;have h5:(((Fi b)^k:Int):Rat)<((0:Int):Rat):=Jm.2 hneg;have h5:(((Fi b)^k:Int):Rat)<0:=by simpa using h5
   refine ⟨-(((Fi b)^k:Int):Rat),v,by grind,vp,Dq (-1) X,λt=>?_⟩;have h6:=hX t;have h7:=hv t;rw [e1,FG] at h7;show _=_+v*U3 (VP (Ba a b (Pz a b))) t;rw [e1,<-h7,Gl]; grind
  ·have e1:Ba a b (Pz a b)=Pz a b:=by unfold Ba; rw [<-hk,if_neg ht]
   have hpos:0<(Fi b)^k:=by
    rcases Ke hc with h | h
    ·exact (EZ h k).2 (by omega)
    ·exact Int.pow_pos h
   have h5:((0:Int):Rat)<(((Fi b)^k:Int):Rat):=Jm.2 hpos;refine ⟨(((Fi b)^k:Int):Rat),v,by simpa using h5,vp,X,λt=>?_⟩;have h7:=hv t;show _=_+v*U3 (VP (Ba a b (Pz a b))) t;rw [<-h7,e1,hX]
theorem Ev {p:Ul} (h1:p.length<=64) (h2:Bd 16777216 p):AX p=some p:=by
 unfold AX;rw [if_pos ⟨h1,Jr.2 λz hz=>Nat.ble_eq_true_of_le (h2 z hz)⟩]
theorem IE {a b:Ul} {g:Uo} {c:Rat} (hc:c≠0) (h:∀ t,U3 a t=c*U3 b t):ZH g (cz a)↔ZH g (cz b):=by
 constructor
 ·rintro ⟨u,hu⟩
  refine ⟨Dq (1 / c) u,λt=>?_⟩;have h1:=hu t;rw [U4,h] at h1;rw [U4,Gl];have h2:1 / c*c=1:=Zl hc;have:U3 b t=1 / c*(c*U3 b t):=by grind
  rw [this,h1]; grind
 ·rintro ⟨u,hu⟩
  refine ⟨Dq c u,λt=>?_⟩;have h1:=hu t;rw [U4] at h1;rw [U4,Gl,h,h1]; grind
structure Gc (g a b:List Int):Prop where
 t:U6 g
 da:ZH (cz g) (cz a)
 db:ZH (cz g) (cz b)
 c:∃ U V,∀ t,U3 g t=ev U t*U3 a t+ev V t*U3 b t
 n:g.length≠0
theorem Gc.scale {g a b g' a' b':Ul} {x y z:Rat} (h:Gc g a b) (hx:x≠0) (hy:y≠0) (hz:z≠0) (tg:U6 g') (eg:∀ t,U3 g t=x*U3 g' t) (ea:∀ t,U3 a' t=y*U3 a t) (eb:∀ t,U3 b' t=z*U3 b t):Gc g' a' b':=by
 have hx1:1 / x*x=1:=Zl hx;have hy1:1 / y*y=1:=Zl hy;have hz1:1 / z*z=1:=Zl hz;have hg:∀ c,ZH (cz g) c->ZH (cz g') c:=λc ⟨u,hu⟩=>⟨Dq x u,λt=>by rw [hu,U4,U4,eg,Gl]; grind⟩
 obtain ⟨U,V,hc⟩:=h.c;refine ⟨tg,hg _ ((IE hy ea).2 h.da),hg _ ((IE hz eb).2 h.db),⟨Dq (1 / x*(1 / y)) U,Dq (1 / x*(1 / z)) V,λt=>?_⟩,?_⟩
 ·have h1:=hc t;have h2:U3 g' t=1 / x*U3 g t:=by rw [eg]; grind
  rw [h2,h1,Gl,Gl,ea,eb];generalize ev U t=u at *;generalize ev V t=v at *;grind
 ·rw [<-QP h.t tg hx eg]; exact h.n
theorem Qvq:∀ d:Nat,1<=d->d+2<=3^d
 | 0,h=>by omega
 | 1,_=>by decide
 | d+2,_=>by have:=Qvq (d+1) (by omega); rw [Zr]; omega
theorem sG {k:Nat} {a b:Ul} (ta:U6 a) (tb:U6 b) (hb:b.length≠0) (hl:a.length<=60) (hbl:b.length<=60) (hr:Bd 16777216 (Rk a b)) (ih:∃ g,TU k b (Rk a b)=some g/\Gc g b (Rk a b)):∃ g,TU (k+1) a b=some g/\Gc g a b:=by
 obtain ⟨h1,h2,h3,u,v,up,vp,X,hX⟩:=FC ta tb hb hl;obtain ⟨g,e,hg⟩:=ih;refine ⟨g,?_,?_⟩
 ·simp only [TU];rw [if_neg hb,Ev (by omega) hr]; exact e
 ·obtain ⟨U,V,hc⟩:=hg.c;obtain ⟨y,hy⟩:=hg.da;obtain ⟨z,hz⟩:=hg.db;have hu:1 / u*u=1:=G6 up;have hv:1 / v*v=1:=G6 vp;refine ⟨hg.t,⟨Dq (1 / u) (Se (Gw X y) (Dq v z)),λt=>?_⟩,hg.da,⟨Dq (u / v) V,Se U (Dq (-1 / v) (Gw V X)),λt=>?_⟩,hg.n⟩
  ·have a1:=hX t; have a2:=hy t; have a3:=hz t;rw [U4,U4] at a2 a3;rw [U4,U4,Gl,Gs,Fa,Gl];have:U3 a t=1 / u*(u*U3 a t):=by grind
   rw [this,a1,a2,a3]; grind
  ·have a1:=hX t; have a2:=hc t;rw [Gl,Gs,Gl,Fa,a2];have:U3 (Rk a b) t=1 / v*(v*U3 (Rk a b) t):=by grind
   rw [this,show v*U3 (Rk a b) t=u*U3 a t-ev X t*U3 b t by grind,J5,J5,J5];grind
theorem Qak {k:Nat} {a:Ul} (ta:U6 a) (ha:a.length≠0):∃ g,TU (k+1) a []=some g/\Gc g a [] :=
 ⟨a,rfl,ta,dvd_refl _,⟨[],λt=>by simp only [cz,Jb,ev]; grind⟩,⟨[1],[],λt=>by rw [Rw]; simp only [ev]; grind⟩,ha⟩
theorem TF {s:Nat}:∀ (k:Nat) (a b:Ul),U6 a->U6 b->b.length<k->b.length<a.length->a.length<=60->Bd s a->Bd s b->(s+8)*3^(a.length-1)<=16777216->∃ g,TU k a b=some g/\Gc g a b
 | 0,_,_,_,_,h,_,_,_,_,_=>by omega
 |
  k+1,a,b,ta,tb,hk,hab,hl,ba,bb,hs=>by
  by_cases hb:b.length=0
  ·rw [Qj hb]; exact Qak ta (by omega)
  ·obtain ⟨h1,h2,h3,_⟩:=FC ta tb hb hl;have h3:=h3 s ba bb;obtain ⟨m,hm⟩:=nmE (a.length-b.length);have e1:a.length+1-b.length=m+1:=by omega
   rw [e1] at h3;have e2:s+(m+1)*(s+8)+8=(m+2)*(s+8):=by
    rw [show m+2=(m+1)+1 by omega,Xc (m+1)]; omega
   have e3:(m+2)*(s+8)*3^(b.length-1)<=(s+8)*3^(a.length-1):=by
    rw [show a.length-1=m+(b.length-1) by omega,Xh,<-X4,Zq (s+8)];exact Qz _ (Qz _ (Qvq m (by omega)))
   have e4:s+(m+1)*(s+8)<=16777216:=by
    have:(m+2)*(s+8)<=(m+2)*(s+8)*3^(b.length-1):=Yq _ (Z1 (by decide));omega
   refine sG ta tb hb hl (by omega) (Ux h3 e4) (TF (s:=s+(m+1)*(s+8)) k b (Rk a b) tb h1 (by omega) h2 (by omega) (Ux bb (by omega)) h3 ?_);rw [e2]; omega
def Szz (n s:Nat):Prop:=n<=10/\2*(s+8)*3^(n-1)<=16777216
theorem Qk7 {n s:Nat} (hz:Szz n s) {a b:Ul} (ta:U6 a) (tb:U6 b) (la:a.length<=n) (lb:b.length<=n) (ba:Bd s a) (bb:Bd s b) (h0:a.length≠0\/b.length≠0):∃ g,TU 66 a b=some g/\Gc g a b:=by
 obtain ⟨hn,hz⟩:=hz;have hp:∀ l,l<=n->(s+8)*3^(l-1)<=8388608:=λl hl=>by
  have:(s+8)*3^(l-1)<=(s+8)*3^(n-1):=Zp _ (Zs (by decide) (by omega));rw [X4] at hz; omega
 rcases Zd b.length a.length with h | h
 ·exact TF 66 a b ta tb (by omega) h (by omega) ba bb (by have:=hp a.length la; omega)
 ·by_cases hb:b.length=0
  ·rw [Qj hb]; exact Qak ta (by omega)
  ·obtain ⟨h1,h2,h3,_⟩:=FC ta tb hb (by omega);have h3:=h3 s ba bb;have h4:(a.length+1-b.length)*(s+8)<=1*(s+8):=Qz _ (by omega);have h5:=hp b.length lb;have h6:(s+8)*1<=(s+8)*3^(b.length-1):=Zp _ (Z1 (by decide));refine sG ta tb hb (by omega) (by omega) (Ux h3 (by omega)) (TF (s:=2*s+8) 65 b (Rk a b) tb h1 (by omega) h2 (by omega) (Ux bb (by omega)) (Ux h3 (by omega)) ?_);rw [show 2*s+8+8=2*(s+8) by omega,X4]; omega
theorem qE:Fb []=[]:=rfl
theorem FS {a:Ul} (ta:U6 a):U6 (Fb a)/\(Fb a).length=a.length/\(∀ s,Bd s a->Bd s (Fb a))/\∃ c:Rat,c≠0/\∀ t,U3 a t=c*U3 (Fb a) t:=by
 by_cases h:a.length=0
 ·rw [Qj h];exact ⟨rfl,rfl,λs _=>VL,1,by decide,λt=>by rw [qE]; grind⟩
 ·obtain ⟨h1,h2,h3,h4,h5,h6,h7⟩:=Ma ta h;exact ⟨h1,h2,h5,_,XZ h6,h7⟩
theorem WR {n s:Nat} (hz:Szz n s) {a b:Ul} (ta:U6 a) (tb:U6 b) (la:a.length<=n) (lb:b.length<=n) (ba:Bd s a) (bb:Bd s b) (h0:a.length≠0\/b.length≠0):∃ g,XO a b=some g/\Gc g a b/\Prm g/\0<Fi g:=by
 obtain ⟨a1,a2,a3,x,xn,ax⟩:=FS ta;obtain ⟨b1,b2,b3,y,yn,bx⟩:=FS tb;obtain ⟨g,e,hg⟩:=Qk7 hz a1 b1 (by omega) (by omega) (a3 s ba) (b3 s bb) (by omega);obtain ⟨g1,g2,g3,g4,g5,g6,g7⟩:=Ma hg.t hg.n;refine ⟨Fb g,?_,hg.scale (XZ g6) xn yn g1 g7 ax bx,g3,g4⟩;unfold XO; rw [e]; rfl
theorem Qdf {a:Ul} (ta:U6 a):XO [] a=some (Fb (Fb a)):=by
 unfold XO;rw [qE];by_cases h:(Fb a).length=0
 ·have e:Fb a=[]:=Qj h;rw [e]; rfl
 ·have e:Rk [] (Fb a)=[]:=by
   have e1:Pz [] (Fb a)=[]:=by unfold Pz; rw [show ([]:Ul).length+1-(Fb a).length=0 by simp; omega]; rfl
   unfold Rk;rw [e1];unfold Ba
   split <;> rfl
  have:TU 66 [] (Fb a)=some (Fb a):=by
   show (if (Fb a).length=0 then _ else _)=_;rw [if_neg h,e]; rfl
  rw [this]; rfl
theorem Qhm {n s:Nat} (hz:Szz n s) {a b:Ul} (ta:U6 a) (tb:U6 b) (la:a.length<=n) (lb:b.length<=n) (ba:Bd s a) (bb:Bd s b) (h0:a.length≠0):∃ g,yO a b=some g/\Gc g a b/\Prm g/\0<Fi g:=by
 obtain ⟨a1,a2,a3,x,xn,ax⟩:=FS ta;obtain ⟨b1,b2,b3,y,yn,bx⟩:=FS a1;obtain ⟨g,e,hg,h1,h2⟩:=WR hz b1 tb (by omega) lb (b3 s (a3 s ba)) bb (by omega);refine ⟨g,?_,hg.scale (x:=1) (y:=x*y) (z:=1) (by decide) (λh=>(Yz.1 h).elim xn yn) (by decide) hg.t (λt=>by grind) (λt=>by rw [ax,bx]; grind) (λt=>by grind),h1,h2⟩;unfold yO;rw [Qdf ta]; exact e
theorem Qah:∀ {p q:Uo} {m n:Nat},HD p m->HD q n->(Gw p q).getD (m+n) 0=p.getD m 0*q.getD n 0
 | [],q,m,n,h,_=>absurd (by simp) h.1
 |
  a::p,q,0,n,h,h'=>by
  have h1:∀ k,p.getD k 0=0:=λk=>by have:=h.2 (k+1) (by omega); rwa [Q5] at this
  simp only [Gw];rw [Ra,Tw,Zt,Zy];cases n with
  | zero=>rw [Zt]; grind
  | succ n=>rw [Q5,SZ h1]; grind
 |
  a::p,q,m+1,n,h,h'=>by
  have ih:=Qah (p:=p) (q:=q) (m:=m) ⟨by have:=h.1; rwa [Q5] at this,λk hk=>by have:=h.2 (k+1) (by omega); rwa [Q5] at this⟩ h';simp only [Gw];rw [Ra,Tw,show m+1+n=(m+n)+1 by omega,Q5,h'.2 _ (by omega),ih,Q5]; grind
theorem fO {a b c:Ul} (ta:U6 a) (tb:U6 b) (tc:U6 c) (h:∀ t,U3 c t=U3 a t*U3 b t) (la:0<a.length) (lb:0<b.length):Fi c=Fi a*Fi b:=by
 have h1:=SQ ta la;have h2:=SQ tb lb;have h3:=Qah h1 h2;have hl:=Pw ta tb tc h la lb;rw [<-Dk (p:=cz c) (λt=>by rw [Fa,U4,U4,U4,h]),Mk,Mk,Mk,show a.length-1+(b.length-1)=c.length-1 by omega] at h3;unfold Fi; exact_mod_cast h3
theorem Ri {a b c:Ul} (tc:U6 c) (hc:c.length≠0) (h:∀ t,U3 c t=U3 a t*U3 b t):0<a.length/\0<b.length:=by
 constructor
 ·rcases Q3 a.length with e | e
  ·exact absurd (λt=>by rw [h,Dn e]; grind) (TD tc (by omega))
  ·exact e
 ·rcases Q3 b.length with e | e
  ·exact absurd (λt=>by rw [h,Dn e]; grind) (TD tc (by omega))
  ·exact e
theorem yI {b:Ul} (tb:U6 b) (hb:b.length≠0):∀ (i:Nat) (a q h:Ul),U6 a->U6 h->(∀ t,U3 a t=U3 b t*U3 h t)->a.length<b.length+i->i<=q.length->(∀ j,j<i->q.getD j 0=0)->∃ q',yA b i a q=some q'/\q'.length=q.length/\∀ t,U3 q' t=U3 q t+U3 h t
 |
  0,a,q,h,ta,th,e,hl,_,_=>by
  have ha:a.length=0:=by
   rcases Q3 a.length with e' | e'
   ·exact e'
   ·obtain ⟨p1,p2⟩:=Ri ta (by omega) e;have:=Pw tb th ta e p1 p2; omega
  refine ⟨q,by simp only [yA]; rw [if_pos ha],rfl,λt=>?_⟩;have:∀ t,U3 h t=0:=λt=>by
   have:=mJ (p:=cz b) (q:=cz h) (r:=[]) (λh0=>TD tb (by omega) λt=>by rw [<-U4]; exact h0 t) (λt=>by rw [U4,U4,<-e,Dn ha]; simp only [ev]; grind) t;rwa [U4] at this
  rw [this]; grind
 |
  i+1,a,q,h,ta,th,e,hl,hq,h0=>by
  simp only [yA];by_cases hlt:a.length<b.length+i
  ·rw [if_pos hlt];exact yI tb hb i a q h ta th e hlt (by omega) λj hj=>h0 j (by omega)
  ·rw [if_neg hlt];obtain ⟨p1,p2⟩:=Ri ta (by omega) e;have hln:=Pw tb th ta e p1 p2;have hld:=fO tb th ta e p1 p2;have hlb:=L8 tb hb;rw [hld,if_pos (Int.mul_emod_right _ _),Jf _ hlb];have hli:h.length=i+1:=by omega
   have e2:∀ t,U3 (Mx a (Gf (trim (mono i (Fi h))) b)) t=U3 b t*U3 (Mx h (mono i (Fi h))) t:=λt=>by
    rw [Ty,Ty,Gb,Oh,e]; grind
   have hl2:(Mx a (Gf (trim (mono i (Fi h))) b)).length<b.length+i:=by
    have hl:=iQ (i:=i) (x:=Fi h) (b:=b) (a:=a);unfold sta at hl;have:=Qic (p:=Mx a (Gf (trim (mono i (Fi h))) b)) (n:=b.length+i-1) (Fq _ _) (by omega) (by
     rw [Oq,iU,if_pos (by omega),show b.length+i-1-i=b.length-1 by omega,show b.length+i-1=a.length-1 by omega];have:Fi a=a.getD (a.length-1) 0:=rfl;rw [<-this,hld];unfold Fi;rw [Wa,Int.sub_eq_zero])
    omega
   obtain ⟨q',h1,h2,h3⟩:=yI tb hb i _ (q.set i (Fi h)) (Mx h (mono i (Fi h))) (Fq _ _) (Fq _ _) e2 hl2 (by simp; omega) λj hj=>by
    rw [Qi,Yl,if_neg (by omega),<-Qi];exact h0 j (by omega)
   refine ⟨q',h1,by rw [h2,Xf],λt=>?_⟩;rw [h3,yE q i _ t (by omega),h0 i (by omega),Ty,XD]
   push_cast; grind
theorem Qjw {a b h:Ul} {s:Nat} (ta:U6 a) (tb:U6 b) (th:U6 h) (ha:a.length≠0) (la:a.length<=10) (ba:Bd s a) (hs:s+69<=16777216) (e:∀ t,U3 a t=U3 b t*U3 h t):XA a b=some h:=by
 obtain ⟨p1,p2⟩:=Ri ta ha e;have hln:=Pw tb th ta e p1 p2;obtain ⟨q,h1,h2,h3⟩:=yI tb (by omega) (a.length+1-b.length) a (List.replicate (a.length+1-b.length) 0) h ta th e (by omega) (by simp) λj _=>Bz _ _
 have h4:trim q=h:=iO (Tg _) th λt=>by rw [Oh,h3,qB]; grind
 unfold XA;rw [if_neg (by omega),h1];show AX (trim q)=_;rw [h4];exact Ev (by omega) (Ux (QU ba la ta th tb ha λt=>by rw [e]; grind) (by omega))
structure Pr1 (p:List Int):Prop where
 t:U6 p
 m:Prm p
 l:0<Fi p
theorem Pr1.n {p:Ul} (h:Pr1 p):p.length≠0:=λe=>by
 have:=h.l;rw [Qj e] at this;exact absurd this (by decide)
theorem Pr1.one {p:Ul} (h:Pr1 p) (hl:p.length<2):p=[1]:=by
 have hn:=h.n;obtain ⟨c,rfl⟩:∃ c,p=[c]:=Ks.1 (by omega);have h1:=h.m c λk=>by cases k <;> simp
 have h2:0<c:=h.l;have:=Int.le_of_dvd (by decide) h1;rw [show c=1 by omega]
theorem Qph {p g h:Ul} (hp:Prm p) (e:∀ t,U3 p t=U3 g t*U3 h t):Prm h:=λd hd=>by
 refine hp d λk=>?_
 have:=D9 (p:=p) (q:=Gf g h) (λt=>by rw [e,Gb]) k;rw [this];have e2:∀ t,U3 (Gf g h) t=(d:Rat)*U3 (Gf g (h.map (· / d))) t:=λt=>by
  have h1:U3 h t=(d:Rat)*U3 (h.map (· / d)) t:=by
   have:=B8 d 0 t (max h.length (h.map (· / d)).length) (h.map (· / d)) [] h (by omega) (by simp) (by omega) λk=>by
    rw [UM,Wb (hd k)]; simp
   rw [this]; simp only [U3]; push_cast; grind
  rw [Gb,Gb,h1]; grind
 have:=D9 (p:=Gf g h) (q:=Fo (Gf g (h.map (· / d))) d) (λt=>by rw [e2,Rf]; grind) k;rw [this,Mb]; exact Y8 _ _
theorem Qpg {p g h:Ul} (hp:Pr1 p) (hg:0<Fi g) (tg:U6 g) (th:U6 h) (e:∀ t,U3 p t=U3 g t*U3 h t):Pr1 h:=by
 obtain ⟨p1,p2⟩:=Ri hp.t hp.n e;have:=fO tg th hp.t e p1 p2;refine ⟨th,Qph hp.m e,?_⟩;have hl:=hp.l;rw [this] at hl;rcases Km (Fi h) 0 with h1 | h1 | h1
 ·have:=V9 hg h1; omega
 ·rw [h1] at hl; omega
 ·exact h1
structure Sqp (p g q:List Int):Prop where
 pp:Pr1 p
 pg:Pr1 g
 pq:Pr1 q
 e:∀ t,U3 p t=U3 g t*U3 q t
 c:∃ U V,∀ t,U3 g t=ev U t*U3 p t+ev V t*dv (cz p) t
 d:∃ z,∀ t,dv (cz p) t=U3 g t*ev z t
theorem Sqp.num {p g q:Ul} (h:Sqp p g q) {d:Uo} (h1:ZH d (cz q)) (h2:ZH d (Nt (cz q))):∃ c:Rat,c≠0/\∀ t,ev d t=c:=by
 obtain ⟨U,V,hc⟩:=h.c;have hpow:=sqf (k:=1) (a:=cz p) (g:=cz g) (q:=cz q) (d:=d) (U:=U) (V:=V) (by decide) (λt=>by rw [U4,U4,U4,h.e]) (λt=>by rw [U4,U4,hc]; grind) h1 h2;rcases DG d with h3 | ⟨m,_,h3⟩
 ·obtain ⟨u,hu⟩:=h1;exact absurd (λt=>by rw [<-U4,hu,h3]; grind) (TD h.pq.t (by have:=h.pq.n; omega))
 ·obtain rfl:=qL h3 (SQ h.pg.t (by have:=h.pg.n; omega)) hpow;refine ⟨d.getD 0 0,h3.1,λt=>?_⟩;cases d with
  | nil=>exact absurd (by simp) h3.1
  |
   cons c l =>
   have:=Dw (p:=l) λk=>by have:=h3.2 (k+1) (by omega); rwa [Q5] at this
   simp only [ev,this,Zt]; grind
theorem Sqp.bez {p g q:Ul} (h:Sqp p g q):∃ X Y,∀ t,ev X t*ev (cz q) t+ev Y t*dv (cz q) t=1:=by
 obtain ⟨d,U,V,h1,h2,h3⟩:=Qhl (cz q) (Nt (cz q));obtain ⟨c,hc,hd⟩:=h.num h1 h2;refine ⟨Dq (1 / c) U,Dq (1 / c) V,λt=>?_⟩;have h5:=h3 t;rw [hd,Te] at h5;have h4:1 / c*c=1:=Zl hc;rw [Gl,Gl];have:1 / c*ev U t*ev (cz q) t+1 / c*ev V t*dv (cz q) t=1 / c*(ev U t*ev (cz q) t+ev V t*dv (cz q) t):=by grind
 rw [this,<-h5,h4]
theorem Qk1 {n s:Nat} (h:Szz n s):s<=8388600:=by
 have:2*(s+8)*1<=2*(s+8)*3^(n-1):=Zp _ (Z1 (by decide));have:=h.2; omega
theorem pV {s:Nat} {p:Ul} (h:Bd s p) (hl:p.length<=10):Bd (s+4) (Gk p):=xF h (t:=4) (by omega)
theorem Qac {n s:Nat} (hz:Szz n (s+73)) {p:Ul} (pp:Pr1 p) (l2:2<=p.length) (lp:p.length<=n) (bp:Bd (s+69) p) {p0 h0:Ul} (b0:Bd s p0) (l0:p0.length<=10) (t0:U6 p0) (th0:U6 h0) (z0:p0.length≠0) (e0:∀ t,U3 p0 t=U3 h0 t*U3 p t) :
 ∃ g q,AX (Gk p)=some (Gk p)/\XO p (Gk p)=some g/\XA p g=some q/\Sqp p g q/\g.length<p.length:=by
 have hn:=hz.1;have hs:=Qk1 hz;have bd:=pV bp (by omega);have ld:=P7 p;have td:U6 (Gk p):=Fq _ _;obtain ⟨g,e1,hg,m,l⟩:=WR hz pp.t td lp (by omega) (Ux bp (by omega)) bd (.inl pp.n);obtain ⟨q,tq,eq⟩:=Qhf m hg.da;have hdnz:(Gk p).length≠0:=λh=>by
  have h1:=Nz p (p.length-2);rw [Qj h,show p.length-2+1=p.length-1 by omega] at h1;have h2:p.getD (p.length-1) 0≠0:=Hy pp.t (by omega);rcases Yd.1 (h1.symm.trans (by simp)) with h3 | h3
  ·exact h2 h3
  ·omega
 have pg:Pr1 g:=⟨hg.t,m,l⟩;have hql:=Qjw (s:=s+69) pp.t hg.t tq pp.n (by omega) bp (by omega) eq;refine ⟨g,q,Ev (by omega) (Ux bd (by omega)),e1,hql,⟨pp,pg,Qpg pp l hg.t tq eq,eq,?_,?_⟩,?_⟩
 ·obtain ⟨U,V,hc⟩:=hg.c;exact ⟨U,V,λt=>by rw [hc,Og]⟩
 ·obtain ⟨z,hz⟩:=hg.db;exact ⟨z,λt=>by rw [<-Og,<-U4,hz,U4]⟩
 ·obtain ⟨z,tz,ez⟩:=Qhf m hg.db;obtain ⟨q1,q2⟩:=Ri td hdnz ez;have:=Pw hg.t tz td ez q1 q2;omega
theorem Qo6:Sqp [1] [1] [1]:=by
 have p1:Pr1 [1]:=⟨rfl,λd hd=>by have:=hd 0; rwa [Zt] at this,by decide⟩;have e1:∀ t,U3 [1] t=1:=λt=>by simp only [U3]; push_cast; grind
 exact ⟨p1,p1,p1,λt=>by rw [e1]; grind,⟨[1],[],λt=>by rw [e1,Rw]; simp only [ev]; grind⟩,⟨[],λt=>by simp only [cz,Zz,Jb,dv,ev]; grind⟩⟩
structure Okp (n s:Nat) (p:List Int):Prop where
 z:Szz n (s+73)
 t:U6 p
 nz:p.length≠0
 l:p.length<=n
 b:Bd s p
theorem Okp.pr {n s:Nat} {p:Ul} (h:Okp n s p):Pr1 (Fb p)/\(Fb p).length=p.length/\Bd s (Fb p):=by
 obtain ⟨h1,h2,h3,h4,h5,_⟩:=Ma h.t h.nz;exact ⟨⟨h1,h3,h4⟩,h2,h5 s h.b⟩
theorem Ox {n s:Nat} {p:Ul} (h:Okp n s p):∃ g q,Sv p=some q/\Sqp (Fb p) g q:=by
 obtain ⟨pp,hl,hb⟩:=h.pr;have hn:=h.z.1;have:=h.l;unfold Sv;by_cases h2:(Fb p).length<2
 ·rw [if_pos h2,pp.one h2]; exact ⟨[1],[1],rfl,Qo6⟩
 ·rw [if_neg h2];obtain ⟨g,q,h3,h4,h5,h6,_⟩:=Qac h.z pp (by omega) (by omega) (Ux hb (by omega)) (p0:=Fb p) (h0:=[1]) hb (by omega) pp.t rfl pp.n λt=>by simp only [U3]; push_cast; grind
  exact ⟨g,q,by rw [h3]; show (XO (Fb p) (Gk (Fb p))).bind _=_; rw [h4]; exact h5,h6⟩
inductive LW:List Int->List (List Int)->Prop
 | nil:LW [1] []
 | cons {g h w:List Int} {ws:List (List Int)} (hs:Sqp g h w) (hl:LW h ws):LW g (w::ws)
theorem Qvb {g:Ul} {ws:Um} (h:LW g ws):∀ t,U3 g t=ev (Oe (ws.map cz)) t:=by
 induction h with
 | nil=>intro t; simp only [Jb,Oe,U3]; rw [Rw]; push_cast; grind
 | cons hs hl ih=>intro t; simp only [Zz,Oe]; rw [Fa,U4,hs.e,ih]; grind
theorem iW {g:Ul} {w v:Ul} {ws:Um} (h:LW g (w::v::ws)):∃ f,U6 f/\∀ t,U3 w t=U3 f t*U3 v t:=by
 cases h with
 |
  @cons _ h _ _ hs hl =>
  cases hl with
  |
   @cons _ h2 _ _ hs2 hl2 =>
   obtain ⟨X,Y,hb⟩:=hs2.bez;obtain ⟨z,hz⟩:=hs.d;have hd:=Qqg (a:=cz g) (g:=cz h) (q:=cz w) (z:=z) (r:=cz v) (X:=X) (Y:=Y) (n:=h.length-1) (λt=>by rw [U4,U4,U4,hs.e]) (λt=>by rw [hz,U4]) (SQ hs.pg.t (by have:=hs.pg.n; omega)) hb
    ⟨Gw (cz h2) (cz w),λt=>by rw [Fa,U4,U4,U4,U4,hs.e,hs2.e]; grind⟩
   obtain ⟨f,tf,ef⟩:=Qhf hs2.pq.m hd;exact ⟨f,tf,λt=>by rw [ef]; grind⟩
theorem gY {g w:Ul} {ws:Um} (h:LW g (w::ws)):∀ v∈w::ws,Pr1 v/\ZH (cz v) (cz w):=by
 have key:∀ (ws:Um) (g w:Ul),LW g (w::ws)->∀ v∈w::ws,Pr1 v/\ZH (cz v) (cz w):=by
  intro ws
  induction ws with
  |
   nil =>
   intro g w h v hv;rw [Qk.1 hv];cases h with
   | cons hs hl=>exact ⟨hs.pq,dvd_refl _⟩
  |
   cons u ws ih =>
   intro g w h v hv;have hn:=iW h;cases h with
   |
    @cons _ h _ _ hs hl =>
    rcases Qm.1 hv with rfl | hv
    ·exact ⟨hs.pq,dvd_refl _⟩
    ·obtain ⟨i1,i2⟩:=ih h u hl v hv;obtain ⟨f,_,hf⟩:=hn;exact ⟨i1,dvd_trans i2 ⟨cz f,λt=>by rw [U4,U4,U4,hf]; grind⟩⟩
 exact key ws g w h
theorem lay_ok {n s:Nat} (hz:Szz n (s+73)) {p0:Ul} (b0:Bd s p0) (l0:p0.length<=10) (t0:U6 p0) (z0:p0.length≠0):∀ (k:Nat) (g h0:Ul),Pr1 g->g.length<=k->g.length<=n->U6 h0->(∀ t,U3 p0 t=U3 h0 t*U3 g t)->∃ ws,RJ k g=some ws/\LW g ws
 | 0,g,_,pg,hk,_,_,_=>absurd pg.n (by omega)
 |
  k+1,g,h0,pg,hk,hn,th0,e0=>by
  simp only [RJ];by_cases h2:g.length<2
  ·rw [if_pos h2,pg.one h2]; exact ⟨[],rfl,.nil⟩
  ·rw [if_neg h2];have bg:Bd (s+69) g:=QU b0 l0 t0 pg.t th0 z0 λt=>by rw [e0]; grind
   obtain ⟨h,w,h3,h4,h5,h6,h7⟩:=Qac hz pg (by omega) hn bg b0 l0 t0 th0 z0 e0;obtain ⟨ws,i1,i2⟩:=lay_ok hz b0 l0 t0 z0 k h (Gf h0 w) h6.pg (by omega) (by omega) (Hq _ _) λt=>by rw [e0,Gb,h6.e]; grind
   refine ⟨w::ws,?_,.cons h6 i2⟩;rw [h3];show (XO g (Gk g)).bind _=_;rw [h4];show (XA g h).bind _=_;rw [h5];show (RJ k h).bind _=_;rw [i1]; rfl
theorem Qg8 {s:Nat} {p0:Ul} (b0:Bd s p0) (l0:p0.length≤10) (t0:U6 p0) (z0:p0.length≠0) (hs:s+69+69≤16777216):∀ (ws:Um) (g h0:Ul),LW g ws->U6 h0->(∀ t,U3 p0 t=U3 h0 t*U3 g t)->∃ fs,AP ws=some fs/\Lay (ws.map cz) (fs.map cz)/\∀ f∈fs,U6 f
 | [],g,_,_,_,_=>⟨[],rfl,trivial,λf hf=>by cases hf⟩
 |
  [w],g,_,hl,_,_=>by
  cases hl with
  | cons hs hl=>exact ⟨[w],rfl,λt=>rfl,λf hf=>by rw [Qk.1 hf]; exact hs.pq.t⟩
 |
  w::v::ws,g,h0,hl,th0,e0=>by
  obtain ⟨f,tf,ef⟩:=iW hl;cases hl with
  |
   @cons _ h _ _ hs1 hl =>
   have hpv:=(gY hl v (Qy ..)).1;obtain ⟨fs,i1,i2,i3⟩:=Qg8 b0 l0 t0 z0 hs (v::ws) h (Gf h0 w) hl (Hq _ _) λt=>by rw [e0,Gb,hs1.e]; grind
   have ew:∀ t,U3 p0 t=U3 w t*U3 (Gf h0 h) t:=λt=>by rw [e0,Gb,hs1.e]; grind
   have bw:Bd (s+69) w:=QU b0 l0 t0 hs1.pq.t (Hq _ _) z0 ew;obtain ⟨p1,p2⟩:=Ri t0 z0 ew;have lw:=Pw hs1.pq.t (Hq _ _) t0 ew p1 p2;have hq:=Qjw (s:=s+69) hs1.pq.t hpv.t tf hs1.pq.n (by omega) bw hs λt=>by rw [ef]; grind
   refine ⟨f::fs,?_,⟨λt=>by rw [U4,U4,U4,ef],i2⟩,λx hx=>?_⟩
   ·show (XA w v).bind _=_;rw [hq];show (AP (v::ws)).bind _=_;rw [i1]; rfl
   ·rcases Qm.1 hx with rfl | hx
    ·exact tf
    ·exact i3 x hx
def M6:Um->Ul
 | []=>[1]
 | [f]=>f
 | f::_::l=>Gf f (M6 l)
theorem rZ:∀ (fs:Um) (t:Rat),ev (PU (fs.map cz)) t=U3 (M6 fs) t
 | [],t=>by simp only [Jb,PU,M6,U3]; rw [Rw]; push_cast; grind
 | [f],t=>by simp only [Zz,Jb,PU,M6]; rw [U4]
 | f::g::l,t=>by simp only [Zz,PU,M6]; rw [Fa,U4,Gb,rZ l]
theorem Ng (t:Rat):U3 [1] t=1:=by simp only [U3]; push_cast; grind
theorem OU:∀ {w:Ul} {ws fs:Um},Lay ((w::ws).map cz) (fs.map cz)->(∀ f∈fs,U6 f)->(∀ v∈w::ws,U6 v)->∃ E,U6 E/\∀ t,U3 w t=U3 (M6 fs) t*U3 E t
 |
  w,[],[f],h,_,_=>⟨[1],rfl,λt=>by
  have:=h t;rw [U4,U4] at this;rw [this,Ng]; simp only [M6]; grind⟩
 |
  w,[v],[f,f2],h,_,hw=>⟨v,hw v (by simp),λt=>by
  have:=h.1 t;rw [U4,U4,U4] at this;rw [this]; simp only [M6]; rw [Gb,Ng]; grind⟩
 |
  w,v::x::l,f::f2::fs,h,hf,hw=>by
  obtain ⟨E,hE,e⟩:=OU (w:=x) (ws:=l) (fs:=fs) h.2.2 (λg hg=>hf g (by simp [hg])) (λg hg=>hw g (by simp at hg ⊢; exact .inr (.inr hg)));refine ⟨Gf f2 E,Hq _ _,λt=>?_⟩;have a1:=h.1 t;have a2:=h.2.1 t;rw [U4,U4,U4] at a1 a2;have e2:U3 (M6 (f::f2::fs)) t=U3 f t*U3 (M6 fs) t:=by simp only [M6]; rw [Gb]
  rw [a1,a2,e,e2,Gb]; grind
 | w,[],[],h,_,_=>h.elim
 | w,[],_::_::_,h,_,_=>h.elim
 | w,[v],[],h,_,_=>h.elim
 | w,[v],[f],h,_,_=>h.2.elim
 | w,[v],_::_::_::_,h,_,_=>h.2.elim
 | w,v::x::l,[f],h,_,_=>h.2.elim
 | w,v::x::l,[],h,_,_=>h.elim
theorem YU {s:Nat} {p0:Ul} (b0:Bd s p0) (l0:p0.length≤10) (t0:U6 p0) (z0:p0.length≠0) (hs:s+69≤16777216):∀ (fs:Um) (i:Nat) (a E:Ul),i % 2=0->U6 a->U6 E->(∀ f∈fs,U6 f)->(∀ t,U3 p0 t=U3 a t*U3 (M6 fs) t*U3 E t)->∃ o,FV i a fs=some o/\U6 o/\∀ t,U3 o t=U3 a t*U3 (M6 fs) t
 | [],i,a,E,hi,ta,_,_,_=>⟨a,rfl,ta,λt=>by simp only [M6]; rw [Ng]; grind⟩
 |
  [f],i,a,E,hi,ta,tE,tf,hE=>by
  have e1:∀ t,U3 p0 t=U3 (Gf a f) t*U3 E t:=λt=>by rw [hE,Gb]; rfl
  have b1:=QU b0 l0 t0 (Hq a f) tE z0 e1;obtain ⟨p1,p2⟩:=Ri t0 z0 e1;have hl:=Pw (Hq a f) tE t0 e1 p1 p2;refine ⟨Gf a f,?_,Hq _ _,λt=>by rw [Gb]; rfl⟩;simp only [FV];rw [if_pos hi,Ev (by omega) (Ux b1 (by omega))]; rfl
 |
  f::g::fs,i,a,E,hi,ta,tE,tf,hE=>by
  have e0:∀ t,U3 (M6 (f::g::fs)) t=U3 f t*U3 (M6 fs) t:=λt=>by simp only [M6]; rw [Gb]
  have e1:∀ t,U3 p0 t=U3 (Gf a f) t*U3 (Gf (M6 fs) E) t:=λt=>by rw [hE,e0,Gb,Gb]; grind
  have b1:=QU b0 l0 t0 (Hq a f) (Hq _ _) z0 e1;obtain ⟨p1,p2⟩:=Ri t0 z0 e1;have hl:=Pw (Hq a f) (Hq _ _) t0 e1 p1 p2;obtain ⟨o,o1,o2,o3⟩:=YU b0 l0 t0 z0 hs fs (i+2) (Gf a f) E (by omega) (Hq _ _) tE (λx hx=>tf x (by simp [hx])) λt=>by rw [hE,e0,Gb]; grind
  refine ⟨o,?_,o2,λt=>by rw [o3,e0,Gb]; grind⟩;have h1:FV (i+1) (Gf a f) (g::fs)=FV (i+2) (Gf a f) fs:=by
   show (if (i+1) % 2=0 then _ else _)=_;rw [if_neg (by omega)]
  show (if i % 2=0 then (AX (Gf a f)).bind λq=>FV (i+1) q (g::fs) else _)=_;rw [if_pos hi,Ev (by omega) (Ux b1 (by omega))];exact h1.trans o1
structure Parts (p q o:List Int):Prop where
 sq:∃ g,Sqp (Fb p) g q
 ws:∃ ws:List (List Int),(∀ w∈ws,Pr1 w/\ZH (cz w) (cz q))/\∀ t,U3 (Fb p) t=ev (Oe (ws.map cz)) t
 oq:ZH (cz o) (cz q)
 ot:U6 o
 oh:∃ h,U6 h/\∀ t,U3 (Fb p) t=U3 o t*U3 h t
 os:∃ S,∀ t,U3 (Fb p) t=U3 o t*(ev S t*ev S t)
theorem bX {n s:Nat} {p:Ul} (h:Okp n s p):∃ q o,Sv p=some q/\bF p=some o/\Parts p q o:=by
 obtain ⟨pp,hl,hb⟩:=h.pr;have hn:=h.z.1;have hpl:=h.l;have hs:=Qk1 h.z;obtain ⟨g,q,hq,sq⟩:=Ox h;obtain ⟨ws,w1,w2⟩:=lay_ok h.z hb (by omega) pp.t pp.n 66 (Fb p) [1] pp (by omega) (by omega) rfl λt=>by rw [Ng]; grind
 obtain ⟨fs,f1,f2,f3⟩:=Qg8 hb (by omega) pp.t pp.n (by omega) ws (Fb p) [1] w2 rfl λt=>by rw [Ng]; grind
 have hw:=Qvb w2;have hfirst:(∀ w∈ws,Pr1 w/\ZH (cz w) (cz q))/\∃ E,U6 E/\∀ t,U3 q t=U3 (M6 fs) t*U3 E t:=by
  cases ws with
  |
   nil =>
   have e:fs=[]:=by
    cases fs with
    | nil=>rfl
    | cons f l=>exact f2.elim
   subst e;exact ⟨(λw hw=>by cases hw),q,sq.pq.t,λt=>by simp only [M6]; rw [Ng]; grind⟩
  |
   cons w ws =>
   have hwq:w=q:=by
    have w3:(if (Fb p).length<2 then some [] else (AX (Gk (Fb p))).bind λd=>(XO (Fb p) d).bind λh=>(XA (Fb p) h).bind λw=>(RJ 65 h).bind λl=>some (w::l))=some (w::ws):=w1;have hlen:¬(Fb p).length<2:=λh2=>by
     rw [if_pos h2] at w3;injection w3 with w3;cases w3
    rw [if_neg hlen] at w3;unfold Sv at hq;rw [if_neg hlen] at hq;obtain ⟨d,d1,w3⟩:=Qd.1 w3;obtain ⟨h,d2,w3⟩:=Qd.1 w3;obtain ⟨w',d3,w3⟩:=Qd.1 w3;obtain ⟨l,d4,w3⟩:=Qd.1 w3;rw [d1] at hq;have hq:(XO (Fb p) d).bind (λg=>XA (Fb p) g)=some q:=hq;rw [d2] at hq;have hq:XA (Fb p) h=some q:=hq;rw [d3] at hq;injection hq with hq;injection w3 with w3;injection w3 with w3 _;rw [<-w3,hq]
   subst hwq;have hall:=gY w2;exact ⟨hall,OU f2 f3 λv hv=>(hall v hv).1.t⟩
 obtain ⟨ha,E,tE,hE⟩:=hfirst;obtain ⟨o,o1,o2,o3⟩:=YU hb (by omega) pp.t pp.n (by omega) fs 0 [1] (Gf E g) rfl rfl (Hq _ _) f3 λt=>by rw [Ng,Gb,sq.e,hE]; grind
 have o3:∀ t,U3 o t=U3 (M6 fs) t:=λt=>by rw [o3,Ng]; grind
 refine ⟨q,o,hq,?_,⟨g,sq⟩,⟨ws,ha,hw⟩,⟨cz E,λt=>by rw [U4,U4,U4,hE,o3]⟩,o2,⟨Gf E g,Hq _ _,λt=>by rw [sq.e,hE,o3,Gb]; grind⟩,?_⟩
 ·unfold bF;rw [if_neg pp.n,w1];show (AP ws).bind _=_;rw [f1]; exact o1
 ·obtain ⟨S,hS⟩:=aA f2;exact ⟨S,λt=>by rw [hw,hS,rZ,o3]⟩
theorem eJ {s:Nat}:∀ (k:Nat) (a b:Ul),U6 a->U6 b->b.length≠0->b.length<k->b.length<a.length->a.length<=60->Bd s a->Bd s b->(s+8)*3^(a.length-1)<=16777216->(∀ d,ZH d (cz a)->ZH d (cz b)->∃ c:Rat,c≠0/\∀ t,ev d t=c)->∃ l,kR k a b=some (b::l)/\SCl (cz a) (cz b) (l.map cz)
 | 0,_,_,_,_,_,h,_,_,_,_,_,_=>by omega
 |
  k+1,a,b,ta,tb,hb,hk,hab,hl,ba,bb,hs,hd=>by
  obtain ⟨h1,h2,h3,u,v,up,vp,X,hX⟩:=FC ta tb hb hl;have h3:=h3 s ba bb;obtain ⟨m,hm⟩:=nmE (a.length-b.length);have e1:a.length+1-b.length=m+1:=by omega
  rw [e1] at h3;have e2:s+(m+1)*(s+8)+8=(m+2)*(s+8):=by
   rw [show m+2=(m+1)+1 by omega,Xc (m+1)]; omega
  have e3:(m+2)*(s+8)*3^(b.length-1)<=(s+8)*3^(a.length-1):=by
   rw [show a.length-1=m+(b.length-1) by omega,Xh,<-X4,Zq (s+8)];exact Qz _ (Qz _ (Qvq m (by omega)))
  have e4:s+(m+1)*(s+8)<=16777216:=by
   have:(m+2)*(s+8)<=(m+2)*(s+8)*3^(b.length-1):=Yq _ (Z1 (by decide));omega
  simp only [kR];rw [if_neg hb,Ev (by omega) (Ux h3 e4)];show ∃ l,((kR k b (P9 (Rk a b))).bind λl=>some (b::l))=some (b::l)/\_;have lneg:(P9 (Rk a b)).length<=(Rk a b).length:=I7 _;by_cases hr:(Rk a b).length=0
  ·have e:P9 (Rk a b)=[]:=Qj (by omega);rw [e];refine ⟨[],?_,?_⟩
   ·obtain ⟨j,rfl⟩:∃ j,k=j+1:=⟨k-1,by omega⟩;rfl
   ·obtain ⟨c,hc,hcc⟩:=hd (cz b) ⟨Dq (1 / u) X,λt=>by
     have:=hX t;rw [Dn hr] at this;have hu:1 / u*u=1:=G6 up;rw [U4,U4,Gl];have:U3 a t=1 / u*(u*U3 a t):=by grind
     rw [this,hX,Dn hr]; grind⟩ (dvd_refl _)
    exact .base hc hcc
  ·have tn:U6 (P9 (Rk a b)):=Fq _ _;have hn0:(P9 (Rk a b)).length≠0:=λh0=>by
    have:=QP (c:=-1) h1 tn (by decide) λt=>by rw [FG]; grind
    omega
   obtain ⟨l,i1,i2⟩:=eJ (s:=s+(m+1)*(s+8)) k b (P9 (Rk a b)) tb tn hn0 (by omega) (by omega) (by omega) (Ux bb (by omega)) (PN h3) (by rw [e2]; omega) λd d1 d2=>by
    refine hd d ?_ d1;obtain ⟨y,hy⟩:=d1;obtain ⟨z,hz⟩:=d2;have hu:1 / u*u=1:=G6 up;refine ⟨Dq (1 / u) (Se (Gw X y) (Dq (-v) z)),λt=>?_⟩;have a1:=hX t; have a2:=hy t; have a3:=hz t;rw [U4] at a2 a3;rw [FG] at a3;rw [U4,Gl,Gs,Fa,Gl];have:U3 a t=1 / u*(u*U3 a t):=by grind
    rw [this,a1,a2,show U3 (Rk a b) t=-(ev d t*ev z t) by grind]; grind
   refine ⟨P9 (Rk a b)::l,by rw [i1]; rfl,?_⟩;rw [Zz];exact .step (q:=X) up vp (λt=>by rw [U4,U4,U4,hX,FG]; clear i2 i1 hd h3 hs; grind) i2
theorem WH (x:Rat):∀ (l:Um) (n:Nat) (s:Int),(l.foldl (Ph λp=>H5 p x) (n,s)).1=n+tc x s (l.map cz)
 | [],n,s=>rfl
 |
  p::l,n,s=>by
  simp only [Z5,Zz,tc,Ph];rw [M8,U4]
  split
  ·exact WH x l n s
  ·rw [WH x l]
   split <;> omega
theorem QA (l:Um) (x:Rat):Cj l x=vv (l.map cz) x:=by
 have:=WH x l 0 0;unfold Cj Ci vv;rw [this]; omega
theorem Qf7 {n s:Nat} (hz:Szz n (s+73)) {P g q:Ul} (sq:Sqp P g q) (lq:q.length<=n) (bq:Bd (s+69) q):∃ d,AX (Gk q)=some d/\∃ l,kR 66 q (Fb d)=some l/\GB (cz q) ((q::l).map cz)/\(q.length<2->l=[]):=by
 have hn:=hz.1;have hs:=Qk1 hz;have bd:=pV bq (by omega);have ld:=P7 q;refine ⟨Gk q,Ev (by omega) (Ux bd (by omega)),?_⟩;have hq0:=sq.pq.n;by_cases h2:q.length<2
 ·have e:Fb (Gk q)=[]:=by rw [Qj (l:=Gk q) (by omega)]; rfl
  rw [e];refine ⟨[],rfl,.inl ⟨1,by decide,λt=>?_,rfl⟩,λ_=>rfl⟩;rw [U4,sq.pq.one h2,Ng]
 ·have hdnz:(Gk q).length≠0:=λh=>by
   have h1:=Nz q (q.length-2);rw [Qj h,show q.length-2+1=q.length-1 by omega] at h1;have h3:q.getD (q.length-1) 0≠0:=Hy sq.pq.t (by omega);rcases Yd.1 (h1.symm.trans (by simp)) with h4 | h4
   ·exact h3 h4
   ·omega
  obtain ⟨p1,p2,p3,p4,p5,p6,p7⟩:=Ma (p:=Gk q) (Fq _ _) hdnz;have hdl:Fi (Gk q)=Fi q*((q.length-1:Nat):Int):=by
   have hld:(Gk q).length=q.length-1:=by
    rcases Zd (Gk q).length (q.length-1) with h | h
    ·have h1:=Nz q (q.length-2);rw [Qi,Qw (by omega),show q.length-2+1=q.length-1 by omega] at h1;have h3:q.getD (q.length-1) 0≠0:=Hy sq.pq.t (by omega);rcases Yd.1 (h1.symm.trans (by simp)) with h4 | h4
     ·exact absurd h4 h3
     ·omega
    ·omega
   unfold Fi;rw [hld,Nz,show q.length-1-1+1=q.length-1 by omega]
  have hfac:0<Hi (Gk q):=by
   have hlp:0<Fi (Gk q):=by rw [hdl]; exact Int.mul_pos sq.pq.l (by omega)
   have hc:=XC (p:=Gk q) (Fq _ _) hdnz;unfold Hi;rw [if_neg (by omega)];unfold S7 at hc ⊢; omega
  have hfq:((0:Int):Rat)<(Hi (Gk q):Rat):=Jm.2 hfac;have hfq:(0:Rat)<(Hi (Gk q):Rat):=by simpa using hfq
  have hff:1 / (Hi (Gk q):Rat)*(Hi (Gk q):Rat)=1:=G6 hfq;have hz2:=hz.2;have hp3:(s+73+8)*3^(q.length-1)<=16777216:=by
   have:(s+73+8)*3^(q.length-1)<=(s+73+8)*3^(n-1):=Zp _ (Zs (by decide) (by omega));rw [X4] at hz2; omega
  obtain ⟨l,h3,h4⟩:=eJ (s:=s+73) 66 q (Fb (Gk q)) sq.pq.t p1 (by omega) (by omega) (by omega) (by omega) (Ux bq (by omega)) (p5 _ bd) hp3 λd d1 d2=>sq.num d1 (by
   obtain ⟨z,hz⟩:=d2;exact ⟨Dq (Hi (Gk q)) z,λt=>by
    have:=hz t;rw [U4] at this;rw [Te,<-Og,p7,this,Gl]; grind⟩)
  refine ⟨Fb (Gk q)::l,h3,.inr ⟨cz (Fb (Gk q)),l.map cz,1 / (Hi (Gk q):Rat),Ez (by decide) hfq,λt=>?_,h4,rfl⟩,λh=>absurd h h2⟩;rw [U4,<-Og,p7 t]; grind
theorem chain_ok {n s:Nat} {p:Ul} (h:Okp n s p):∃ q l,Sv p=some q/\Cq p=some (q::l)/\GB (cz q) ((q::l).map cz)/\(q.length<2->l=[]):=by
 obtain ⟨pp,hl,hb⟩:=h.pr;have hn:=h.z.1;have hpl:=h.l;obtain ⟨g,q,hq,sq⟩:=Ox h;have e1:∀ t,U3 (Fb p) t=U3 q t*U3 g t:=λt=>by rw [sq.e]; grind
 obtain ⟨p1,p2⟩:=Ri pp.t pp.n e1;have hll:=Pw sq.pq.t sq.pg.t pp.t e1 p1 p2;obtain ⟨d,d1,l,d2,d3⟩:=Qf7 h.z sq (by omega) (QU hb (by omega) pp.t sq.pq.t sq.pg.t pp.n e1);refine ⟨q,l,hq,?_,d3⟩;unfold Cq;rw [hq];show (if q.length=0 then none else _)=_;rw [if_neg sq.pq.n,d1];show (kR 66 q (Fb d)).bind _=_;rw [d2]; rfl
structure Gr (D M k:Nat) (q:Rat):Prop where
 u:∃ u:Int,q*((D*2^k:Nat):Rat)=(u:Rat)
 b:Fc q<=(M:Rat)
 d:0<D
theorem nat_pos {n:Nat} (h:0<n):(0:Rat)<(n:Rat):=by
 have:((0:Nat):Rat)<(n:Rat):=Vp.2 h;simpa using this
theorem OI {D M k:Nat} {q:Rat} (h:Gr D M k q):Gr D M (k+1) q:=by
 obtain ⟨u,hu⟩:=h.u;refine ⟨⟨u*2,?_⟩,h.b,h.d⟩;rw [Zr,<-X4]
 push_cast at hu ⊢
 rw [<-hu]; grind
theorem Qhu {D M k:Nat} {a b:Rat} (ha:Gr D M k a) (hb:Gr D M k b):Gr D M (k+1) ((a+b) / 2):=by
 obtain ⟨u,hu⟩:=ha.u;obtain ⟨v,hv⟩:=hb.u;have h2:(a+b) / 2*2=a+b:=G6 (by decide);refine ⟨⟨u+v,?_⟩,?_,ha.d⟩
 ·rw [Zr,<-X4]
  push_cast at hu hv ⊢
  rw [<-hu,<-hv];generalize (a+b) / 2=c at *;generalize (D:Rat)*2^k=z at *;have:c*(z*2)=(c*2)*z:=by grind
  rw [this,h2]; grind
 ·have h3:=ha.b;have h4:=hb.b;rw [Md] at *;constructor <;> grind
theorem Quz {D M k:Nat} {q:Rat} (h:Gr D M k q):q.den<=D*2^k:=by
 obtain ⟨u,hu⟩:=h.u;have hp:0<D*2^k:=J4 h.d (Z1 (by decide));have e:q=Rat.divInt u ((D*2^k:Nat):Int):=by
  rw [<-Hz,<-hu];have hz:=nat_pos hp;rw [show ((((D*2^k:Nat):Int)):Rat)=((D*2^k:Nat):Rat) from rfl];rw [J5];have:=Wq ((D*2^k:Nat):Rat) (by grind);generalize ((D*2^k:Nat):Rat)=z at *;have:q*z*z⁻¹=q*(z*z⁻¹):=by grind
  rw [this,‹z*z⁻¹=1›]; grind
 rw [e,Wl,if_neg (by omega),Xj];exact Jz _ _
theorem DC {a b k:Nat} {z:Int} (h:z.natAbs<=a*(b*2^k)):U9 z<=U9 (a:Int)+U9 (b:Int)+k:=by
 have h1:U9 (a:Int)<=U9 (a:Int):=Ql _;have h2:U9 (b:Int)<=U9 (b:Int):=Ql _;rw [Sl] at h1 h2 ⊢;rw [Xj] at h1 h2;rw [Xh,Xh];have h3:a*b<2^U9 (a:Int)*2^U9 (b:Int):=Nat.mul_lt_mul_of_lt_of_le h1 (Yi h2) (Z1 (by decide));have h4:=Xp h3 (show 0<2^k from Z1 (by decide));rw [<-X4] at h; omega
theorem OA {D M k B:Nat} {q:Rat} (h:Gr D M k q) (hM:0<M) (hs:U9 (D:Int)+U9 (M:Int)+k<=B):Qs B q:=by
 have hd:=Quz h;have hden:=nat_pos q.den_pos;have h1:(q.num.natAbs:Rat)<=((M*(D*2^k):Nat):Rat):=by
  have e:(q.num:Rat)=q*(q.den:Rat):=by
   have:(q.num:Rat) / (((q.den:Int)):Rat)=q:=by rw [Hz,Z9]
   have h2:(q.num:Rat) / (q.den:Rat)*(q.den:Rat)=q.num:=Zl (by grind);rw [show (q.num:Rat) / (q.den:Rat)=q from this] at h2; exact h2.symm
  rw [<-So,e];have h3:=G5 (x:=q) (y:=(q.den:Rat)) (b:=((D*2^k:Nat):Rat)) h.b (by
   have:Fc (q.den:Rat)=(q.den:Rat):=by unfold Fc; rw [if_neg (by grind)]
   rw [this]; exact Zn.2 hd)
  push_cast at h3 ⊢; exact h3
 have h1:=Zn.1 h1;refine ⟨?_,?_⟩
 ·have:=DC (z:=q.num) h1; omega
 ·have:=DC (z:=(q.den:Int)) (a:=M) (b:=D) (k:=k) (by
   rw [Xj];exact Qc hd (Nat.le_mul_of_pos_left _ hM))
  omega
theorem nD (a b:Rat):mid a b=(a+b) / 2:=by
 unfold mid;rw [<-Hz];have ha:(a.num:Rat)=a*(a.den:Rat):=by
  have:(a.num:Rat) / (((a.den:Int)):Rat)=a:=by rw [Hz,Z9]
  have h2:(a.num:Rat) / (a.den:Rat)*(a.den:Rat)=a.num:=Zl (by have:=nat_pos a.den_pos; grind);rw [show (a.num:Rat) / (a.den:Rat)=a from this] at h2; exact h2.symm
 have hb:(b.num:Rat)=b*(b.den:Rat):=by
  have:(b.num:Rat) / (((b.den:Int)):Rat)=b:=by rw [Hz,Z9]
  have h2:(b.num:Rat) / (b.den:Rat)*(b.den:Rat)=b.num:=Zl (by have:=nat_pos b.den_pos; grind);rw [show (b.num:Rat) / (b.den:Rat)=b from this] at h2; exact h2.symm
 have pa:=nat_pos a.den_pos;have pb:=nat_pos b.den_pos;rw [Kd,X5,X5,X5,X5,ha,hb];rw [show (((a.den:Int)):Rat)=(a.den:Rat) from rfl,show (((b.den:Int)):Rat)=(b.den:Rat) from rfl,show (((2:Int)):Rat)=2 from rfl];generalize (a.den:Rat)=x at *;generalize (b.den:Rat)=y at *;have hxy:=Ip (Ip pa pb) (show (0:Rat)<2 by decide);have h1:(a*x*y+b*y*x) / (x*y*2)*(x*y*2)=a*x*y+b*y*x:=G6 hxy;have h2:(a+b) / 2*2=a+b:=G6 (by decide);generalize (a*x*y+b*y*x) / (x*y*2)=c at *;generalize (a+b) / 2=d at *;have h3:(x*y*2)*(c-d)=0:=by grind
 rcases Yz.1 h3 with h4 | h4 <;> grind
theorem MA (a b:Rat):EF a b=a-b:=by
 unfold EF;rw [Rat.sub_def',<-Rat.divInt_ofNat]
 push_cast; rfl
theorem eH {a b:Rat}:Hd a b=0↔a=b:=by
 constructor
 ·intro h;have h1:¬a<b:=λh'=>by have:=Nf.2 h'; omega
  have h2:¬b<a:=λh'=>by have:=Lz.2 h'; omega
  grind
 ·intro h; subst h; exact Ef a
theorem MJ {a b:Rat}:Hd a b<=0↔a<=b:=by
 constructor
 ·intro h;have h2:¬b<a:=λh'=>by have:=Lz.2 h'; omega
  grind
 ·intro h;have h2:¬0<Hd a b:=λh'=>by have:=Lz.1 h'; grind
  omega
theorem MX {a b:Rat}:0<=Hd a b↔b<=a:=by
 constructor
 ·intro h;have h2:¬a<b:=λh'=>by have:=Nf.2 h'; omega
  grind
 ·intro h;have h2:¬Hd a b<0:=λh'=>by have:=Nf.1 h'; grind
  omega
theorem S0 (a b:Rat):Hd a b=1/\b<a\/Hd a b=0/\a=b\/Hd a b=-1/\a<b:=by
 have hb:=QV a b;rcases (show Hd a b=1\/Hd a b=0\/Hd a b=-1 by omega) with h | h | h
 ·exact .inl ⟨h,Lz.1 (by omega)⟩
 ·exact .inr (.inl ⟨h,eH.1 h⟩)
 ·exact .inr (.inr ⟨h,Nf.1 (by omega)⟩)
theorem gJ (p:Ul) (x:Rat):low p x=Pe (cz p) x:=by
 unfold low Pe;rw [M8,M8,U4,Og]
theorem Bv {t:Tm} (h:t.lo<t.hi) (q:Rat):Ff t q=cq (cz t.p) t.lo t.hi q:=by
 have hp:t.point=false:=by
  unfold Tm.point;have:¬0<=Hd t.lo t.hi:=λh'=>by have:=MX.1 h'; grind
  simp [this]
 unfold Ff cq;rw [hp,if_neg (by decide)];have e1:(Hd q t.lo<=0)=(q<=t.lo):=propext MJ;have e2:(0<Hd q t.hi)=(t.hi<q):=propext Lz;rw [M8,gJ,<-U4];simp only [e1,e2]
theorem Mm {t:Tm}:t.point=true↔t.hi<=t.lo:=by
 unfold Tm.point;rw [decide_eq_true_iff]; exact MX
theorem A1 {t:Tm} (h:t.lo=t.hi) (q:Rat):Ff t q=Hd t.lo q:=by
 have hp:t.point=true:=Mm.2 (by rw [h]; exact Qp);unfold Ff; rw [if_pos hp]
theorem Quc {c:Rat->Int} {x:Rat} (h:∀ q,c q=Hd x q):Cut c where
 val q:=by rw [h]; have:=QV x q; omega
 mono q r hqr h1:=by
  rw [h] at h1 ⊢;rcases S0 x q with ⟨e,e'⟩ | ⟨e,e'⟩ | ⟨e,e'⟩
  ·exact absurd e h1
  ·rcases S0 x r with ⟨f,f'⟩ | ⟨f,f'⟩ | ⟨f,f'⟩ <;> grind
  ·rcases S0 x r with ⟨f,f'⟩ | ⟨f,f'⟩ | ⟨f,f'⟩ <;> grind
 up q h1:=by
  rw [h] at h1;have h2:=Lz.1 (show 0<Hd x q by omega);have h3:(x+q) / 2*2=x+q:=G6 (by decide);have h4:=Lz.2 (show (x+q) / 2<x by grind);have:=QV x ((x+q) / 2);exact ⟨(x+q) / 2,by grind,by rw [h]; omega⟩
 dn q h1:=by
  rw [h] at h1;have h2:=Nf.1 (show Hd x q<0 by omega);have h3:(x+q) / 2*2=x+q:=G6 (by decide);have h4:=Nf.2 (show x<(x+q) / 2 by grind);have:=QV x ((x+q) / 2);exact ⟨(x+q) / 2,by grind,by rw [h]; omega⟩
 lo:=⟨x-1,by
  rw [h];have h4:=Lz.2 (show x-1<x by grind);have:=QV x (x-1); omega⟩
 hi:=⟨x+1,by
  rw [h];have h4:=Nf.2 (show x<x+1 by grind);have:=QV x (x+1); omega⟩
def lim (t:Tm):Nat:=if t.point=true then 3300000 else 1000000
theorem yQ {t:Tm} (h:t.point=false):lim t=1000000:=by simp [lim,h]
theorem Qu4 (t:Tm):1000000<=lim t:=by unfold lim; split <;> omega
theorem Qu5 (t:Tm):lim t<=3300000:=by unfold lim; split <;> omega
structure Va (t:Tm):Prop where
 i:t.lo=t.hi/\U3 t.p t.lo=0\/∃ L,Vt (cz t.p) L t.lo t.hi
 tr:U6 t.p
 n:t.p.length<=9
 n2:2<=t.p.length
 b:Bd 3300000 t.p
 bi:t.point=false->Bd 1260 t.p
 sc:t.point=false->∃ (l:List (List Int)) (P g:List Int),kR 66 t.p (Fb (Gk t.p))=some l/\Sqp P g t.p/\Vt (cz t.p) ((t.p::l).map cz) t.lo t.hi
 g:∃ D M k,Gr D M k t.lo/\Gr D M k t.hi/\0<M/\U9 (D:Int)+U9 (M:Int)+k<=lim t
theorem Va.le {t:Tm} (h:Va t):t.lo<=t.hi:=by
 rcases h.i with ⟨e,_⟩ | ⟨L,V⟩
 ·rw [e]; exact Qp
 ·exact Qt V.l
theorem Va.pt {t:Tm} (h:Va t) (hp:t.point=true):t.lo=t.hi/\U3 t.p t.lo=0:=by
 rcases h.i with e | ⟨L,V⟩
 ·exact e
 ·have:=Mm.1 hp;have:=V.l;grind
theorem Va.iv {t:Tm} (h:Va t) (hp:t.point=false):∃ L,Vt (cz t.p) L t.lo t.hi:=by
 rcases h.i with ⟨e,_⟩ | h
 ·have:=Mm.2 (show t.hi<=t.lo by rw [e]; exact Qp);rw [hp] at this; cases this
 ·exact h
theorem Va.cut {t:Tm} (h:Va t):Cut (Ff t):=by
 rcases h.i with ⟨e,_⟩ | ⟨L,V⟩
 ·exact Quc (x:=t.lo) λq=>A1 e q
 ·have:Ff t=cq (cz t.p) t.lo t.hi:=funext λq=>Bv V.l q
  rw [this]; exact V.cut
theorem Qwl {c:Rat->Int} (hc:Cut c) {p:Uo} {x:Rat} (h:c x=0) (h0:ev p x=0):Iv p c:=by
 rcases JG hc p with h1 | ⟨s,hs,h1⟩
 ·exact h1
 ·have:=rQ hc h h1;rw [Gg.2 h0] at this; exact absurd this.symm hs
theorem Va.van {t:Tm} (h:Va t):Iv (cz t.p) (Ff t):=by
 have hc:=h.cut;rcases h.i with ⟨e,h0⟩ | ⟨L,V⟩
 ·exact Qwl hc (x:=t.lo) (by rw [A1 e,Ef]) (by rw [U4]; exact h0)
 ·have:Ff t=cq (cz t.p) t.lo t.hi:=funext λq=>Bv V.l q
  rw [this]; exact V.van
theorem Va.qs {t:Tm} (h:Va t):Qs 3300000 t.lo/\Qs 3300000 t.hi:=by
 obtain ⟨D,M,k,h1,h2,h3,h4⟩:=h.g;have h4:=Qc h4 (Qu5 t);exact ⟨OA h1 h3 h4,OA h2 h3 h4⟩
theorem Va.qsn {t:Tm} (h:Va t) (hp:t.point=false):Qs 1000000 t.lo/\Qs 1000000 t.hi:=by
 obtain ⟨D,M,k,h1,h2,h3,h4⟩:=h.g;rw [yQ hp] at h4;exact ⟨OA h1 h3 h4,OA h2 h3 h4⟩
theorem Va.tb {t:Tm} (h:Va t):Tb t:=⟨⟨h.tr,by have:=h.n; omega,Ux h.b (by omega)⟩,h.qs.1.mono (t:=16777216) (by omega),h.qs.2.mono (t:=16777216) (by omega)⟩
structure Hv (t:Tm) (D M k:Nat) (u:Tm):Prop where
 p:u.p=t.p
 i:u.lo=u.hi/\U3 u.p u.lo=0\/∃ L,Vt (cz u.p) L u.lo u.hi
 c:∀ q,Ff u q=Ff t q
 l:Gr D M k u.lo
 h:Gr D M k u.hi
theorem uF {c:Rat->Int} (hc:Cut c) {x:Rat} (h:c x=0) (q:Rat):c q=Hd x q:=by
 rcases S0 x q with ⟨e,e'⟩ | ⟨e,e'⟩ | ⟨e,e'⟩
 ·rw [e]; exact hc.mono' e' (by omega)
 ·rw [e,<-e',h]
 ·rw [e]; exact hc.mono x q e' (by omega)
theorem jC {t u:Tm} {D M k:Nat} (hu:Hv t D M k u) (hM:0<M) (hs:U9 (D:Int)+U9 (M:Int)+(k+1)<=16777216):∃ v,jB u=some v/\Hv t D M (k+1) v/\v.hi-v.lo<=(u.hi-u.lo) / 2/\u.lo<=v.lo/\v.hi<=u.hi:=by
 have h2:∀ x:Rat,x / 2*2=x:=λx=>G6 (by decide)
 unfold jB;rcases hu.i with ⟨e,h0⟩ | ⟨L,V⟩
 ·have hp:u.point=true:=Mm.2 (by rw [e]; exact Qp);rw [if_pos hp];refine ⟨u,rfl,⟨hu.p,hu.i,hu.c,OI hu.l,OI hu.h⟩,?_,Qp,Qp⟩;rw [e]; have:=h2 (u.hi-u.hi); grind
 ·have hp:u.point=false:=by
   have:¬u.point=true:=λh=>by have:=Mm.1 h; have:=V.l; grind
   simpa using this
  rw [hp,if_neg (by decide)];obtain ⟨m,hm⟩:=nmE ((u.lo+u.hi) / 2);have hmg:Gr D M (k+1) m:=by rw [hm]; exact Qhu hu.l hu.h
  have hmm:=h2 (u.lo+u.hi);rw [<-hm] at hmm;have hl:=V.l;have hl1:u.lo<m:=by grind
  have hl2:m<u.hi:=by grind
  have hch:chq (mid u.lo u.hi)=some m:=by
   rw [nD,<-hm];have:=OA hmg hM hs;unfold chq;rw [if_pos ⟨this.1,this.2⟩]
  have hcm:mid u.lo u.hi=m:=by rw [nD,<-hm]
  rw [hch];show ∃ v,some (if Ff u m=0 then (⟨u.p,m,m⟩:Tm) else if Ff u m=-1 then ⟨u.p,u.lo,m⟩ else ⟨u.p,m,u.hi⟩)=some v/\_;have hw:=h2 (u.hi-u.lo);have hcu:=Bv hl;have hcut:=V.cut;have hcut':Cut (Ff u):=by rw [show Ff u=cq (cz u.p) u.lo u.hi from funext hcu]; exact hcut
  by_cases c0:Ff u m=0
  ·rw [if_pos c0];have hz:U3 u.p m=0:=by
    have:=TR hcut (q:=m) (by rw [<-hcu]; exact c0) V.van;rwa [U4] at this
   refine ⟨_,rfl,⟨hu.p,.inl ⟨rfl,hz⟩,λq=>?_,hmg,hmg⟩,by show m-m<=_; grind,by show u.lo<=m; grind,by show m<=u.hi; grind⟩;rw [A1 rfl,<-hu.c];exact (uF hcut' c0 q).symm
  ·rw [if_neg c0];by_cases c1:Ff u m=-1
   ·rw [if_pos c1];have hv:vv L m=vv L u.hi:=V.eq_hi hl1 (Qt hl2) (by rw [<-hcu,c1]; decide);have V':Vt (cz u.p) L u.lo m:=⟨V.s,hl1,by rw [hv]; exact V.v⟩;refine ⟨_,rfl,⟨hu.p,.inr ⟨L,V'⟩,λq=>?_,OI hu.l,hmg⟩,by show m-u.lo<=_; grind,Qp,by show m<=u.hi; grind⟩;rw [Bv hl1,<-hu.c,hcu];exact V.uniq V'.cut (Ew Qp) (by rw [UV hl1 hl2]; decide) V'.van q
   ·rw [if_neg c1];have c2:Ff u m=1:=by rcases hcut'.val m with h | h | h <;> omega
    have hv:vv L m=vv L u.lo:=V.eq_lo hl1 (Qt hl2) (by rw [<-hcu]; exact c2);have V':Vt (cz u.p) L m u.hi:=⟨V.s,hl2,by rw [hv]; exact V.v⟩;refine ⟨_,rfl,⟨hu.p,.inr ⟨L,V'⟩,λq=>?_,hmg,OI hu.h⟩,by show u.hi-m<=_; grind,by show u.lo<=m; grind,Qp⟩;rw [Bv hl2,<-hu.c,hcu];exact V.uniq V'.cut (Ew (by grind)) V'.hi1 V'.van q
def Pu (a b:Tm):Prop:=∃ q,Ff a q=-1/\Ff b q=1
def TEq (a b:Tm):Prop:=∀ q,Ff a q=Ff b q
theorem tri {a b:Tm} (ha:Cut (Ff a)) (hb:Cut (Ff b)):Pu a b\/TEq a b\/Pu b a:=by
 rcases Classical.em (TEq a b) with h | h
 ·exact .inr (.inl h)
 ·obtain ⟨q,hq⟩:=Classical.not_forall.1 h;obtain ⟨r,⟨h1,h2⟩ | ⟨h1,h2⟩⟩:=uU ha hb hq
  ·exact .inl ⟨r,h1,h2⟩
  ·exact .inr (.inr ⟨r,h2,h1⟩)
theorem Io {a b:Tm} (ha:Cut (Ff a)) (hb:Cut (Ff b)) (h:Pu a b) (h':Pu b a):False:=by
 obtain ⟨q,q1,q2⟩:=h;obtain ⟨r,r1,r2⟩:=h';have:=ha.lt r2 q1;have:=hb.lt q2 r1;grind
theorem rI {p:Ul} (k:Nat):(p.getD k 0).natAbs<=2^Gy p:=by
 have h:U9 (p.getD k 0)<=Gy p:=by
  have key:∀ (l:Ul) (n:Nat),n≤l.foldl (λn z=>max n (U9 z)) n/\∀ z∈l,U9 z≤l.foldl (λn z=>max n (U9 z)) n:=by
   intro l
   induction l with
   | nil=>exact λn=>⟨Ql _,λz hz=>by cases hz⟩
   |
    cons y l ih =>
    intro n;obtain ⟨i1,i2⟩:=ih (max n (U9 y));refine ⟨by simp only [Z5]; omega,λz hz=>?_⟩;simp only [Z5];rcases Qm.1 hz with rfl | hz
    ·omega
    ·exact i2 z hz
  exact Fj (s:=Gy p) (λz hz=>(key p 0).2 z hz) k
 rw [Sl] at h; omega
theorem Qry {s:Nat}:∀ (B:Ul),(∀ z∈B,z.natAbs≤2^s)->gB B≤2^(s+(B.length-1))
 | [],_=>Qh _
 |
  c::B,h=>by
  have h1:=h c (Qy ..);have h2:=Qry B λz hz=>h z (Qg _ hz)
  simp only [gB,Q4,Ya];have h3:2^s<=2^(s+B.length):=Zs (by decide) (by omega);cases B with
  | nil=>simp only [gB,Jy] at *; omega
  |
   cons d B =>
   have h4:2^(s+(d::B).length)=2*2^(s+((d::B).length-1)):=by
    rw [Zq,<-Zr]; congr 1
   rw [h4]; omega
def Tp (A B:Ul):Nat:=(Gy A+Gy B+(A.length+B.length)+8)*(2*(A.length+B.length-2)-1)
theorem Qhd {A B:Ul} (tA:U6 A) (tB:U6 B) (nA:A.length<=9) (nB:B.length<=9) (lA:2<=A.length) (lB:2<=B.length) {R d:Rat} (hR:1<=R) (dp:0<d)
 (hs:∀ e:Rat,0<e->∃ q r,Fc q<=R/\Fc r<=R/\d<=Fc (q-r)/\Fc (q-r)*((2^(Tp A B+1):Nat):Rat)<=1/\Fc (U3 A q)<e/\Fc (U3 B r)<e):False:=by
 obtain ⟨a,ha⟩:∃ a,A.length=a+1:=⟨A.length-1,by omega⟩;obtain ⟨b,hb⟩:∃ b,B.length=b+1:=⟨B.length-1,by omega⟩;obtain ⟨s,hsd⟩:=nmE (Gy A+Gy B+b);obtain ⟨N,hN⟩:∃ N,b*(2*(a*b))+a*(2*(a*b)-b)=N:=⟨_,rfl⟩;have hNt:N<=2^(a+9):=by
  rw [<-hN];have hab:∀ a b:Fin 9,b.1*(2*(a.1*b.1))+a.1*(2*(a.1*b.1)-b.1)<=2^(a.1+9):=by decide
  exact hab ⟨a,by omega⟩ ⟨b,by omega⟩
 have hK:Tp A B=(s+a+10)*(2*(a+b-1)+1):=by
  unfold Tp;rw [ha,hb,hsd,show a+1+(b+1)-2=a+b by omega,show 2*(a+b)-1=2*(a+b-1)+1 by omega];congr 1; omega
 have h0A:A.getD a 0≠0:=by have:=Hy tA (by omega); rwa [ha] at this
 have h0B:B.getD b 0≠0:=by have:=Hy tB (by omega); rwa [hb] at this
 have hp:∀ m,1<=2^m:=λm=>Z1 (by decide)
 refine Quv (N:=N) (D:=2^(Tp A B-1)) ha hb h0A h0B (by omega) (by omega) (h:=2^s) (hp s) (λk=>Qc (rI k) (Zs (by decide) (by omega))) ?_ hN ?_ hR dp λe ep=>?_
 ·refine Qc (Qry (s:=Gy B) B λz hz=>?_) (Zs (by decide) (by omega));obtain ⟨i,hi⟩:=Zm.1 hz;have:=rI (p:=B) i;rwa [Qi,hi] at this
 ·have h1:2*(N*2^s)<=2^(s+a+10):=by
   have:N*2^s<=2^(a+9)*2^s:=Qz _ hNt;rw [<-Xh] at this;rw [show s+a+10=(a+9+s)+1 by omega,Zr]; omega
  have h2:N*2^s<=2^(s+a+9):=by
   rw [show s+a+9=(a+9)+s by omega,Xh]; exact Qz _ hNt
  have h3:=Nat.pow_le_pow_left h1 (2*(a+b-1));have h4:=Za h2 h3;rw [<-Wm,<-Xh] at h4;rw [<-X4];refine Qc h4 (Zs (by decide) ?_);rw [hK,Xk,Yc]; omega
 ·obtain ⟨q,r,h1,h2,h3,h4,h5,h6⟩:=hs e ep;refine ⟨q,r,h1,h2,h3,?_,h5,h6⟩;have hK1:1<=Tp A B:=by
   rw [hK]; exact J4 (by omega) (by omega)
  have e1:2^(Tp A B+1)=4*2^(Tp A B-1):=by
   obtain ⟨m,hm⟩:∃ m,Tp A B=m+1:=⟨Tp A B-1,by omega⟩;rw [hm,Ya,Zr,Zr]; omega
  rw [e1] at h4
  push_cast at h4 ⊢
  exact h4
theorem Hv.lo' {t:Tm} {D M k:Nat} {u:Tm} (h:Hv t D M k u):Ff t u.lo=1\/Ff t u.lo=0/\u.lo=u.hi:=by
 rw [<-h.c];rcases h.i with ⟨e,_⟩ | ⟨L,V⟩
 ·exact .inr ⟨by rw [A1 e,Ef],e⟩
 ·exact .inl (by rw [Bv V.l]; exact Ew Qp)
theorem Hv.hi' {t:Tm} {D M k:Nat} {u:Tm} (h:Hv t D M k u):Ff t u.hi=0\/Ff t u.hi=-1:=by
 rw [<-h.c];rcases h.i with ⟨e,_⟩ | ⟨L,V⟩
 ·exact .inl (by rw [A1 e,e,Ef])
 ·rw [Bv V.l];have:=V.hi1;rcases V.cut.val u.hi with h | h | h <;> omega
theorem Hv.le {t:Tm} {D M k:Nat} {u:Tm} (h:Hv t D M k u):u.lo<=u.hi:=by
 rcases h.i with ⟨e,_⟩ | ⟨L,V⟩
 ·rw [e]; exact Qp
 ·exact Qt V.l
theorem Qhe {a b:Tm} (ha:Va a) (hb:Va b) {D M k D' M' k':Nat} {u v:Tm} (hu:Hv a D M k u) (hv:Hv b D' M' k' v) (h:Pu a b):1<(v.hi-u.lo)*((2^(Tp a.p b.p+1):Nat):Rat):=by
 rcases Ga ((v.hi-u.lo)*((2^(Tp a.p b.p+1):Nat):Rat)) 1 with hw | hw
 ·exfalso;have ca:=ha.cut;have cb:=hb.cut;obtain ⟨m,m1,m2⟩:=h;obtain ⟨m',hm',m3⟩:=ca.dn m m1;have hpow:(0:Rat)<=((2^(Tp a.p b.p+1):Nat):Rat):=Xl;obtain ⟨R,hR⟩:=nmE (Fc u.lo+Fc m'+Fc m+Fc v.hi+1);have n1:=Ho u.lo; have n2:=Ho m'; have n3:=Ho m; have n4:=Ho v.hi;refine Qhd (R:=R) (d:=m-m') ha.tr hb.tr ha.n hb.n ha.n2 hb.n2 (by grind) (by grind) λe ep=>?_
  obtain ⟨q,q1,q2,q3⟩:∃ q,u.lo<=q/\q<=m'/\Fc (U3 a.p q)<e:=by
   rcases hu.lo' with h1 | ⟨h1,_⟩
   ·obtain ⟨x,y,hx,hy,hq⟩:=ha.van e ep;rcases Ga x u.lo with e1 | e1
    ·exact ⟨u.lo,Qp,Qt (ca.lt h1 m3),by rw [<-U4]; exact hq u.lo e1 (Qt (ca.lt h1 hy))⟩
    ·exact ⟨x,Qt e1,Qt (ca.lt hx m3),by rw [<-U4]; exact hq x Qp (Qt (ca.lt hx hy))⟩
   ·refine ⟨u.lo,Qp,?_,by rw [<-U4,TR ca h1 ha.van,H8]; exact ep⟩;rcases Ga u.lo m' with e1 | e1
    ·exact e1
    ·have:=ca.mono m' u.lo e1 (by omega); omega
  obtain ⟨r,r1,r2,r3⟩:∃ r,r<=v.hi/\m<=r/\Fc (U3 b.p r)<e:=by
   rcases hv.hi' with h1 | h1
   ·refine ⟨v.hi,Qp,?_,by rw [<-U4,TR cb h1 hb.van,H8]; exact ep⟩;rcases Ga m v.hi with e1 | e1
    ·exact e1
    ·have:=cb.mono v.hi m e1 (by omega); omega
   ·obtain ⟨x,y,hx,hy,hq⟩:=hb.van e ep;rcases Ga v.hi y with e1 | e1
    ·exact ⟨v.hi,Qp,Qt (cb.lt m2 h1),by rw [<-U4]; exact hq v.hi (Qt (cb.lt hx h1)) e1⟩
    ·exact ⟨y,Qt e1,Qt (cb.lt m2 hy),by rw [<-U4]; exact hq y (Qt (cb.lt hx hy)) Qp⟩
  have e1:Fc (q-r)=r-q:=by unfold Fc; split <;> grind
  have b1:Fc q<=R:=by
   have:=UC (R:=R) (x:=u.lo) (y:=m') (t:=q) (by grind) (by grind) q1 q2; exact this
  have b2:Fc r<=R:=by
   have:=UC (R:=R) (x:=m) (y:=v.hi) (t:=r) (by grind) (by grind) r2 r1; exact this
  refine ⟨q,r,b1,b2,by rw [e1]; grind,?_,q3,r3⟩;rw [e1];have:=Zf (show r-q<=v.hi-u.lo by grind) hpow;exact Zk this hw
 ·exact hw
theorem wY {a b:Tm} (ha:Va a) (hb:Va b) {D M k D' M' k':Nat} {u v:Tm} (hu:Hv a D M k u) (hv:Hv b D' M' k' v) (hne:¬TEq a b) (h:Dt u v=true):Pu a b:=by
 have h1:=(of_decide_eq_true h).1;have h1:=MJ.1 h1;rcases tri ha.cut hb.cut with h2 | h2 | ⟨m,m1,m2⟩
 ·exact h2
 ·exact absurd h2 hne
 ·exfalso;have e1:m<u.hi:=by
   rcases Ga u.hi m with e | e
   ·rcases Classical.em (u.hi=m) with e' | e'
    ·have:=hu.hi'; rw [e'] at this; omega
    ·have:=ha.cut.mono u.hi m (by grind) (by have:=hu.hi'; omega); omega
   ·exact e
  have e2:v.lo<m:=by
   rcases Ga m v.lo with e | e
   ·rcases Classical.em (m=v.lo) with e' | e'
    ·have:=hv.lo'; rw [<-e'] at this; omega
    ·have:=hb.cut.mono m v.lo (by grind) (by omega);have:=hv.lo'; omega
   ·exact e
  grind
theorem iC {a b:Tm} (ha:Va a) (hb:Va b) {D M k D' M' k':Nat} {u v:Tm} (hu:Hv a D M k u) (hv:Hv b D' M' k' v) (hlt:Pu a b) (h:Dt u v≠true):v.lo<=u.hi:=by
 rcases Ga v.lo u.hi with e | e
 ·exact e
 ·refine absurd (decide_eq_true ⟨MJ.2 (Qt e),λh'=>?_⟩) h;have:=eH.1 h'.2; grind
theorem rB (m:Nat):((2^(m+1):Nat):Rat)=2*((2^m:Nat):Rat):=by rw [Zr]; push_cast; grind
def Qso (a b:Tm) (r:Tm×Tm×Int):Prop:=r.2.2=-1/\Pu a b\/r.2.2=1/\Pu b a
theorem Qb6 (A B:Ul):Tp A B=Tp B A:=by unfold Tp; rw [Nat.add_comm A.length,Nat.add_comm (Gy A)]
theorem Qw5 {a b:Tm} (ha:Va a) (hb:Va b) (hne:¬TEq a b) {D M D' M':Nat} (hM:0<M) (hM':0<M'):∀ (i j:Nat) (u v:Tm) (k k':Nat) (W:Rat),2*i+1<=j->Hv a D M k u->Hv b D' M' k' v->U9 (D:Int)+U9 (M:Int)+(k+j)<=16777216->U9 (D':Int)+U9 (M':Int)+(k'+j)<=16777216->u.hi-u.lo<=W->v.hi-v.lo<=W->2*W*((2^(Tp a.p b.p+1):Nat):Rat)<=((2^i:Nat):Rat)->∃ r,AH j u v=some r/\Qso a b r:=by
 intro i;have step:∀ (j:Nat) (u v:Tm) (k k':Nat),Hv a D M k u->Hv b D' M' k' v->U9 (D:Int)+U9 (M:Int)+(k+(j+1))<=16777216->U9 (D':Int)+U9 (M':Int)+(k'+(j+1))<=16777216->(∃ r,AH (j+1) u v=some r/\Qso a b r)\/(Dt u v≠true/\Dt v u≠true/\∃ u' v' k1 k1',AH (j+1) u v=AH j u' v'/\Hv a D M k1 u'/\Hv b D' M' k1' v'/\k1<=k+1/\k1'<=k'+1/\(v.hi-v.lo<=u.hi-u.lo/\u'.hi-u'.lo<=(u.hi-u.lo) / 2/\v'=v\/u.hi-u.lo<=v.hi-v.lo/\v'.hi-v'.lo<=(v.hi-v.lo) / 2/\u'=u)):=by
  intro j u v k k' hu hv hs hs';by_cases h1:Dt u v=true
  ·exact .inl ⟨(u,v,-1),by simp only [AH]; rw [if_pos h1],.inl ⟨rfl,wY ha hb hu hv hne h1⟩⟩
  by_cases h2:Dt v u=true
  ·exact .inl ⟨(u,v,1),by simp only [AH]; rw [if_neg h1,if_pos h2],.inr ⟨rfl,wY hb ha hv hu (λh=>hne λq=>(h q).symm) h2⟩⟩
  refine .inr ⟨h1,h2,?_⟩;by_cases h3:0<=Hd (EF u.hi u.lo) (EF v.hi v.lo)
  ·obtain ⟨x,x1,x2,x3,_⟩:=jC hu hM (by omega);refine ⟨x,v,k+1,k',?_,x2,hv,by omega,by omega,.inl ⟨?_,x3,rfl⟩⟩
   ·simp only [AH]; rw [if_neg h1,if_neg h2,if_pos h3,x1]; rfl
   ·have:=MX.1 h3; rwa [MA,MA] at this
  ·obtain ⟨x,x1,x2,x3,_⟩:=jC hv hM' (by omega);refine ⟨u,x,k,k'+1,?_,hu,x2,by omega,by omega,.inr ⟨?_,x3,rfl⟩⟩
   ·simp only [AH]; rw [if_neg h1,if_neg h2,if_neg h3,x1]; rfl
   ·rcases Ga (u.hi-u.lo) (v.hi-v.lo) with e | e
    ·exact e
    ·refine absurd (MX.2 ?_) h3;rw [MA,MA]; exact Qt e
 induction i with
 |
  zero =>
  intro j u v k k' W hj hu hv hs hs' hW hW' hK;obtain ⟨j,rfl⟩:∃ m,j=m+1:=⟨j-1,by omega⟩;rcases step j u v k k' hu hv hs hs' with h | ⟨h1,h2,_⟩
  ·exact h
  ·exfalso;have hpow:(0:Rat)<=((2^(Tp a.p b.p+1):Nat):Rat):=Xl;rw [Vd] at hK;rcases tri ha.cut hb.cut with h3 | h3 | h3
   ·have h4:=iC ha hb hu hv h3 h1;have h5:=Qhe ha hb hu hv h3;have h6:=Zf (show v.hi-u.lo<=2*W by clear step; grind) hpow;have h7:((1:Nat):Rat)=1:=rfl;rw [h7] at hK;clear step; grind
   ·exact hne h3
   ·have h4:=iC hb ha hv hu h3 h2;have h5:=Qhe hb ha hv hu h3;rw [Qb6] at h5;have h6:=Zf (show u.hi-v.lo<=2*W by clear step; grind) hpow;have h7:((1:Nat):Rat)=1:=rfl;rw [h7] at hK;clear step; grind
 |
  succ i ih =>
  intro j u v k k' W hj hu hv hs hs' hW hW' hK;obtain ⟨j,rfl⟩:∃ m,j=m+2:=⟨j-2,by omega⟩;have hd:∀ x:Rat,x / 2*2=x:=λx=>G6 (by decide)
  rcases step (j+1) u v k k' hu hv hs hs' with h | ⟨_,_,u1,v1,k1,k1',e1,hu1,hv1,hk1,hk1',hw1⟩
  ·exact h
  ·rw [e1];rcases step j u1 v1 k1 k1' hu1 hv1 (by omega) (by omega) with h | ⟨_,_,u2,v2,k2,k2',e2,hu2,hv2,hk2,hk2',hw2⟩
   ·exact h
   ·rw [e2];have a1:=hd (u.hi-u.lo); have a2:=hd (v.hi-v.lo); have a3:=hd (u1.hi-u1.lo); have a4:=hd (v1.hi-v1.lo); have a5:=hd W;have b1:=hu.le; have b2:=hv.le; have b3:=hu1.le; have b4:=hv1.le; have b5:=hu2.le; have b6:=hv2.le;have hww:u2.hi-u2.lo<=W / 2/\v2.hi-v2.lo<=W / 2:=by
     clear step ih;rcases hw1 with ⟨c1,c2,rfl⟩ | ⟨c1,c2,rfl⟩ <;> rcases hw2 with ⟨d1,d2,rfl⟩ | ⟨d1,d2,rfl⟩ <;> constructor <;> grind
    refine ih j u2 v2 k2 k2' (W / 2) (by omega) hu2 hv2 (by omega) (by omega) hww.1 hww.2 ?_;rw [rB i] at hK;have:2*(W / 2)*((2^(Tp a.p b.p+1):Nat):Rat)*2=2*W*((2^(Tp a.p b.p+1):Nat):Rat):=by clear step ih hw1 hw2; grind
    clear step ih hw1 hw2; grind
def CmpOk (a b:Tm) (c:Int):Prop:=c=-1/\Pu a b\/c=0/\TEq a b\/c=1/\Pu b a
theorem Va.hv0 {t:Tm} (h:Va t):∃ D M k,Hv t D M k t/\0<M/\U9 (D:Int)+U9 (M:Int)+k<=lim t:=by
 obtain ⟨D,M,k,h1,h2,h3,h4⟩:=h.g;exact ⟨D,M,k,⟨rfl,h.i,λ_=>rfl,h1,h2⟩,h3,h4⟩
theorem bC {a:Tm} (ha:Va a) (hp:a.point=true) (q:Rat):Ff a q=Hd a.lo q:=A1 (ha.pt hp).1 q
theorem Qgc {a b:Tm} (hb:Va b) {x:Rat} (hx:∀ q,Ff a q=Hd x q):CmpOk a b (-Ff b x):=by
 have cb:=hb.cut;rcases cb.val x with h | h | h
 ·obtain ⟨q,q1,q2⟩:=cb.up x h;refine .inl ⟨by omega,q,?_,q2⟩;rw [hx]; rcases S0 x q with ⟨e,e'⟩ | ⟨e,e'⟩ | ⟨e,e'⟩ <;> grind
 ·exact .inr (.inl ⟨by omega,λq=>by rw [hx,uF cb h]⟩)
 ·obtain ⟨q,q1,q2⟩:=cb.dn x h;refine .inr (.inr ⟨by omega,q,q2,?_⟩);rw [hx]; rcases S0 x q with ⟨e,e'⟩ | ⟨e,e'⟩ | ⟨e,e'⟩ <;> grind
theorem CmpOk.symm {a b:Tm} {c:Int} (h:CmpOk a b c):CmpOk b a (-c):=by
 rcases h with ⟨h1,h2⟩ | ⟨h1,h2⟩ | ⟨h1,h2⟩
 ·exact .inr (.inr ⟨by omega,h2⟩)
 ·exact .inr (.inl ⟨by omega,λq=>(h2 q).symm⟩)
 ·exact .inl ⟨by omega,h2⟩
theorem Qy4:Szz 9 1260:=⟨by decide,by decide⟩
theorem UB (g:Ul) (lo hi:Rat):UN g lo hi=true↔nJ (cz g) lo hi:=by
 unfold UN nJ;rw [decide_eq_true_iff,M8,gJ,U4]
theorem fP {g:Ul} (tg:U6 g) (hn:g.length≠0) {lo hi:Rat} (h:nJ (cz g) lo hi):1<g.length:=by
 rcases Zd 1 g.length with e | e
 ·exact e
 ·exfalso;obtain ⟨c,rfl⟩:∃ c,g=[c]:=Ks.1 (by omega);have hc:c≠0:=by have:=Hy tg (by simp); simpa using this
  have hv:∀ t,ev (cz [c]) t=(c:Rat):=λt=>by rw [U4]; simp only [U3]; grind
  have hs:U7 (c:Rat)≠0:=λh=>XZ hc (Gg.1 h)
  unfold nJ at h;rw [hv,Ad (by rw [hv]; exact hs),hv] at h;rcases h with h | h
  ·exact hs h
  ·exact h rfl
theorem DN {q:Rat}:Fc q<=((2^U9 q.num:Nat):Rat):=by
 have h1:U9 q.num<=U9 q.num:=Ql _;rw [Sl] at h1;have e:(q.num:Rat)=q*(q.den:Rat):=by
  have:(q.num:Rat) / (((q.den:Int)):Rat)=q:=by rw [Hz,Z9]
  have h2:(q.num:Rat) / (q.den:Rat)*(q.den:Rat)=q.num:=Zl (by have:=nat_pos q.den_pos; grind);rw [show (q.num:Rat) / (q.den:Rat)=q from this] at h2; exact h2.symm
 have hd:(1:Rat)<=(q.den:Rat):=by
  have:((1:Nat):Rat)<=(q.den:Rat):=Zn.2 q.den_pos;exact this
 have h2:Fc q<=Fc (q.num:Rat):=by
  rw [e,Ie];have:Fc (q.den:Rat)=(q.den:Rat):=by unfold Fc; rw [if_neg (by grind)]
  rw [this];have:=B7 (a:=Fc q) (c:=1) (Ho q) Qp (by decide) hd;grind
 rw [So] at h2;exact Zk h2 (Zn.2 (Yi h1))
theorem TS {a:Tm} {w:Nat} (h:U9 a.lo.num+U9 a.hi.num<=w):a.hi-a.lo<=((2^(w+1):Nat):Rat):=by
 have h1:=DN (q:=a.lo);have h2:=DN (q:=a.hi);have h3:((2^U9 a.lo.num:Nat):Rat)<=((2^w:Nat):Rat):=Zn.2 (Zs (by decide) (by omega));have h4:((2^U9 a.hi.num:Nat):Rat)<=((2^w:Nat):Rat):=Zn.2 (Zs (by decide) (by omega));rw [rB];rw [Md] at h1 h2;grind
theorem Oo {p:Ul} {s:Nat} (h:Bd s p):Gy p<=s:=by
 have:=Mc h p.length; rwa [Q7] at this
theorem Qkv {a b:Tm} (ha:Va a) (hb:Va b) (pa:a.point=false) (pb:b.point=false):Pq a b<=9000000:=by
 have q1:=ha.qsn pa; have q2:=hb.qsn pb;have l1:=ha.n; have l2:=hb.n;have s1:=Oo (ha.bi pa); have s2:=Oo (hb.bi pb);have b1:=q1.1.1; have b2:=q1.2.1; have b3:=q2.1.1; have b4:=q2.2.1;have:4*(a.p.length+b.p.length)*(Gy a.p+Gy b.p+(a.p.length+b.p.length)+8)<=4*18*2600:=Za (by omega) (by omega);unfold Pq; omega
theorem Qd0 {a b:Tm} (ha:Va a) (hb:Va b) (pa:a.point=false) (pb:b.point=false) (hne:¬TEq a b):∃ r,AH (Pq a b) a b=some r/\Qso a b r:=by
 obtain ⟨D,M,k,h1,h2,h3⟩:=ha.hv0;obtain ⟨D',M',k',h1',h2',h3'⟩:=hb.hv0;rw [yQ pa] at h3;rw [yQ pb] at h3';have hst:=Qkv ha hb pa pb;obtain ⟨w,hw⟩:=nmE (U9 a.lo.num+U9 a.hi.num+U9 b.lo.num+U9 b.hi.num);obtain ⟨K,hK⟩:=nmE (Gy a.p+Gy b.p+(a.p.length+b.p.length)+8);obtain ⟨n,hn⟩:=nmE (a.p.length+b.p.length);have l1:=ha.n2; have l2:=hb.n2;have hsteps:Pq a b=64+2*w+4*n*K:=by unfold Pq; rw [hw,hK,hn]
 have hg:Tp a.p b.p=K*(2*(n-2)-1):=by unfold Tp; rw [hK,hn]
 have hgle:Tp a.p b.p+5*K<=2*n*K:=by
  rw [hg,Zq K,<-Xm];exact Qz _ (by omega)
 have hKp:8<=K:=by omega
 refine Qw5 ha hb hne h2 h2' (31+w+2*n*K) (Pq a b) a b k k' ((2^(w+1):Nat):Rat) ?_ h1 h1' (by omega) (by omega) (TS (by omega)) (TS (by omega)) ?_
 ·rw [hsteps,Xk,X4 4,X4 2 n]; omega
 ·have e:2*(2^(w+1))*(2^(Tp a.p b.p+1))<=2^(31+w+2*n*K):=by
   rw [Zq 2,<-Zr,<-Xh];exact Zs (by decide) (by omega)
  have:=Zn.2 e
  push_cast at this ⊢
  exact this
theorem UJ {a b:Tm} (ha:Va a) (hb:Va b):∃ c,UX a b=some c/\CmpOk a b c:=by
 unfold UX;by_cases pa:a.point=true
 ·rw [if_pos pa];exact ⟨_,rfl,Qgc hb (bC ha pa)⟩
 rw [if_neg pa];by_cases pb:b.point=true
 ·rw [if_pos pb];have:=(Qgc ha (bC hb pb)).symm;rw [Int.neg_neg] at this;exact ⟨_,rfl,this⟩
 rw [if_neg pb];have pa:a.point=false:=by simpa using pa
 have pb:b.point=false:=by simpa using pb
 obtain ⟨L,V⟩:=ha.iv pa;obtain ⟨L',V'⟩:=hb.iv pb;have eqa:∀ q,Ff a q=cq (cz a.p) a.lo a.hi q:=Bv V.l;have eqb:∀ q,Ff b q=cq (cz b.p) b.lo b.hi q:=Bv V'.l;obtain ⟨lo,hlo⟩:=nmE (if 0<Hd b.lo a.lo then b.lo else a.lo);obtain ⟨hi,hhi⟩:=nmE (if Hd b.hi a.hi<0 then b.hi else a.hi);show ∃ c,(if Hd (if 0<Hd b.lo a.lo then b.lo else a.lo) (if Hd b.hi a.hi<0 then b.hi else a.hi)<0 then _ else _)=some c/\_;rw [<-hlo,<-hhi];have e1:(0<Hd b.lo a.lo)=(a.lo<b.lo):=propext Lz;have e2:(Hd b.hi a.hi<0)=(b.hi<a.hi):=propext Nf;have e3:(Hd lo hi<0)=(lo<hi):=propext Nf;simp only [e1] at hlo;simp only [e2] at hhi;simp only [e3];obtain ⟨g,g1,g2,g3,g4⟩:=Qhm Qy4 ha.tr hb.tr ha.n hb.n (ha.bi pa) (hb.bi pb) (by have:=ha.n2; omega);obtain ⟨U,W,hc⟩:=g2.c;obtain ⟨u,hu⟩:=g2.da;obtain ⟨u',hu'⟩:=g2.db;have key:=V.same V' (g:=cz g) (u:=u) (u':=u') (U:=U) (W:=W) (k:=1) (by decide) hu hu' (λt=>by rw [U4,U4,U4,hc]; grind) (a:=lo) (b:=hi) (by rw [hlo]; split <;> grind) (by rw [hlo]; split <;> grind) (by rw [hlo]; split <;> simp) (by rw [hhi]; split <;> grind) (by rw [hhi]; split <;> grind) (by rw [hhi]; split <;> simp);have hTE:(∀ q,cq (cz a.p) a.lo a.hi q=cq (cz b.p) b.lo b.hi q)↔TEq a b:=by
  unfold TEq; constructor
  ·intro h q; rw [eqa,eqb]; exact h q
  ·intro h q; rw [<-eqa,<-eqb]; exact h q
 rw [hTE] at key;have fin:¬TEq a b->∃ c,((AH (Pq a b) a b).bind λr=>some r.2.2)=some c/\CmpOk a b c:=λhne=>by
  obtain ⟨r,r1,r2⟩:=Qd0 ha hb pa pb hne;refine ⟨r.2.2,by rw [r1]; rfl,?_⟩;rcases r2 with h | h
  ·exact .inl h
  ·exact .inr (.inr h)
 by_cases hl:lo<hi
 ·rw [if_pos hl,g1];show ∃ c,(if 1<g.length/\UN g lo hi=true then some 0 else (AH (Pq a b) a b).bind λr=>some r.2.2)=some c/\_;by_cases hh:UN g lo hi=true
  ·have hq:=(UB g lo hi).1 hh;rw [if_pos ⟨fP g2.t g2.n hq,hh⟩];exact ⟨0,rfl,.inr (.inl ⟨rfl,key.1 ⟨hl,hq⟩⟩)⟩
  ·rw [if_neg λh=>hh h.2];exact fin λh=>hh ((UB g lo hi).2 (key.2 h).2)
 ·rw [if_neg hl];exact fin λh=>hl (key.2 h).1
def SgT (p:Ul) (a:Tm) (s:Int):Prop:=s=0/\Iv (cz p) (Ff a)\/s≠0/\NZ (cz p) (Ff a) s
theorem Qv2 {p:Ul} {c:Rat->Int} (hc:Cut c) {x:Rat} (h:c x=0):H5 p x=0/\Iv (cz p) c\/H5 p x≠0/\NZ (cz p) c (H5 p x):=by
 rw [M8,<-U4];rcases JG hc (cz p) with h1 | ⟨s,hs,h1⟩
 ·exact .inl ⟨Gg.2 (TR hc h h1),h1⟩
 ·have:=rQ hc h h1;rw [this]; exact .inr ⟨hs,h1⟩
theorem O5 {l:Um} {lo hi:Rat} (h:lo<=hi):Td l lo hi=(vv (l.map cz) lo:Int)-(vv (l.map cz) hi:Int):=by
 unfold Td;rw [if_neg λh'=>by have:=Nf.1 h'; grind,QA,QA]
theorem Qv3 {p q:Ul} {L:Up} (hp:U6 p) (np:p.length<=9) (lp:2<=p.length) (hS:GB (cz q) L) (hpq:ZH (cz q) (cz p)) {a:Tm} (ha:Va a) {s:Int} (hnz:NZ (cz p) (Ff a) s) {D M k:Nat} {x:Tm} (hx:Hv a D M k x) (hl:x.lo<x.hi) (hv:vv L x.lo≠vv L x.hi):1<(x.hi-x.lo)*((2^(Tp a.p p+1):Nat):Rat):=by
 rcases Ga ((x.hi-x.lo)*((2^(Tp a.p p+1):Nat):Rat)) 1 with hw | hw
 ·exfalso;have ca:=ha.cut;obtain ⟨d,dp,x1,y1,c1,c2,hn⟩:=hnz;obtain ⟨x2,x12,c3⟩:=ca.up x1 c1;obtain ⟨y2,y12,c4⟩:=ca.dn y1 c2;have hpow:(0:Rat)<=((2^(Tp a.p p+1):Nat):Rat):=Xl;obtain ⟨z,zp,z1,z2⟩:=min2 (a:=x2-x1) (b:=y1-y2) (by clear hn; grind) (by clear hn; grind);obtain ⟨R0,hR0,r1,r2⟩:=xX x.lo x.hi;obtain ⟨u,hu⟩:=hpq;refine Qhd (R:=R0+1) (d:=z) ha.tr hp ha.n np ha.n2 lp (by clear hn; grind) zp λe ep=>?_
  obtain ⟨q0,q1,q2,q3,q4,q5⟩:∃ q0,x.lo<=q0/\q0<=x.hi/\x2<=q0/\q0<=y2/\Fc (U3 a.p q0)<e:=by
   rcases hx.lo' with h1 | ⟨h1,h2⟩
   ·obtain ⟨x',y',hx',hy',hq⟩:=ha.van e ep;obtain ⟨m,m1,m2,m3,m4⟩:∃ m,Ff a m=1/\x.lo<=m/\x2<=m/\x'<=m:=by
     rcases Ga x.lo x2 with e1 | e1
     ·rcases Ga x2 x' with e2 | e2
      ·exact ⟨x',hx',by clear hn hq; grind,e2,Qp⟩
      ·exact ⟨x2,c3,e1,Qp,Qt e2⟩
     ·rcases Ga x.lo x' with e2 | e2
      ·exact ⟨x',hx',e2,by clear hn hq; grind,Qp⟩
      ·exact ⟨x.lo,h1,Qp,Qt e1,Qt e2⟩
    refine ⟨m,m2,?_,m3,Qt (ca.lt m1 c4),by rw [<-U4]; exact hq m m4 (Qt (ca.lt m1 hy'))⟩;rcases hx.hi' with h3 | h3
    ·rcases Ga m x.hi with e1 | e1
     ·exact e1
     ·have:=ca.mono x.hi m e1 (by omega); omega
    ·exact Qt (ca.lt m1 h3)
   ·exact absurd h2 (by clear hn; grind)
  obtain ⟨b,hb⟩:=nmE (fZ R0 u);have hb0:0<=b:=by rw [hb]; exact ZL hR0 u
  obtain ⟨f,fp,_,hf⟩:=Hb (b:=b) (d:=if e<=d then e else d) hb0 (by split <;> assumption);obtain ⟨r,r3,r4,r5⟩:=vA hS hl hv fp;have hrR:Fc r<=R0:=UC r1 r2 r3 r4;have hpr:Fc (U3 p r)<(if e<=d then e else d):=by
   rw [<-U4,hu];have:=G5 (Qt r5) (TE hrR u);rw [<-hb] at this;exact Jq.1 λh=>absurd (Zk h this) (Jq.2 hf)
  have hpe:Fc (U3 p r)<e:=by split at hpr <;> (clear hn; grind)
  have hpd:Fc (U3 p r)<d:=by split at hpr <;> (clear hn; grind)
  have hrout:r<x1\/y1<r:=by
   rcases Ga x1 r with e1 | e1
   ·rcases Ga r y1 with e2 | e2
    ·have:=(hn r e1 e2).2;rw [U4] at this;exact absurd this (Jq.2 hpd)
    ·exact .inr e2
   ·exact .inl e1
  have hqr:z<=Fc (q0-r):=by
   clear hn;rcases hrout with h | h
   ·have:Fc (q0-r)=q0-r:=by unfold Fc; split <;> grind
    rw [this]; grind
   ·have:Fc (q0-r)=r-q0:=by unfold Fc; split <;> grind
    rw [this]; grind
  have hq0R:Fc q0<=R0:=UC r1 r2 q1 q2;refine ⟨q0,r,by clear hn; grind,by clear hn; grind,hqr,?_,q5,hpe⟩;have h1:Fc (q0-r)<=x.hi-x.lo:=by rw [Md]; clear hn; constructor <;> grind
  exact Zk (Zf h1 hpow) hw
 ·exact hw
theorem Qkh {p q:Ul} {l:Um} (hp:U6 p) (np:p.length<=9) (lp:2<=p.length) (hS:GB (cz q) (l.map cz)) (hpq:ZH (cz q) (cz p)) {a:Tm} (ha:Va a) {s:Int} (hnz:NZ (cz p) (Ff a) s) {D M:Nat} (hM:0<M):∀ (j i:Nat) (x:Tm) (k:Nat) (W:Rat),i+1<=j->Hv a D M k x->U9 (D:Int)+U9 (M:Int)+(k+j)<=16777216->x.hi-x.lo<=W->W*((2^(Tp a.p p+1):Nat):Rat)<=((2^i:Nat):Rat)->∃ u k',sgF l j x=some u/\Hv a D M k' u/\(u.point=true\/Td l u.lo u.hi=0)
 | 0,i,x,k,W,h,_,_,_,_=>by omega
 |
  j+1,i,x,k,W,hj,hx,hs,hW,hK=>by
  simp only [sgF];by_cases h:x.point=true\/Td l x.lo x.hi=0
  ·rw [if_pos h]; exact ⟨x,k,rfl,hx,h⟩
  ·rw [if_neg h];obtain ⟨v,v1,v2,v3,_⟩:=jC hx hM (by omega);rw [v1];show ∃ u k',sgF l j v=some u/\_;have hpt:¬x.hi<=x.lo:=λh'=>h (.inl (Mm.2 h'))
   have hl:x.lo<x.hi:=by grind
   have hvv:vv (l.map cz) x.lo≠vv (l.map cz) x.hi:=λh'=>h (.inr (by rw [O5 (Qt hl)]; omega))
   have hg:=Qv3 hp np lp hS hpq ha hnz hx hl hvv;have hpow:(0:Rat)<=((2^(Tp a.p p+1):Nat):Rat):=Xl;have hd:∀ x:Rat,x / 2*2=x:=λx=>G6 (by decide)
   cases i with
   |
    zero =>
    exfalso;rw [Vd] at hK;have:=Zf hW hpow;have h7:((1:Nat):Rat)=1:=rfl;rw [h7] at hK;grind
   |
    succ i =>
    refine Qkh hp np lp hS hpq ha hnz hM j i v (k+1) (W / 2) (by omega) v2 (by omega) ?_ ?_
    ·have:=hd (x.hi-x.lo); have:=hd W; grind
    ·rw [rB i] at hK;have:=hd W;have:W / 2*((2^(Tp a.p p+1):Nat):Rat)*2=W*((2^(Tp a.p p+1):Nat):Rat):=by grind
     grind
theorem rW {x y:Rat}:∀ {ws:Up},(∀ w∈ws,U7 (ev w x)=U7 (ev w y))->U7 (ev (Oe ws) x)=U7 (ev (Oe ws) y)
 | [],_=>by simp only [Oe]; rw [Rw,Rw]
 |
  w::l,h=>by
  simp only [Oe];rw [Fa,Fa,Si,Si,h w (Qy ..),rW λv hv=>h v (Qg _ hv)]
theorem Qcv {p q o:Ul} (hpt:Parts p q o) (tp:U6 p) (hp:p.length≠0) {L:Up} (hS:GB (cz q) L) {x y:Rat} (hxy:x<y) (hv:vv L x=vv L y):∃ s,s≠0/\∀ z,x<z->z<=y->U7 (U3 p z)=s:=by
 obtain ⟨ws,w1,w2⟩:=hpt.ws;obtain ⟨_,_,_,_,_,p6,p7⟩:=Ma tp hp;have key:∀ z,x<z->z≤y->∀ w∈ws.map cz,Sm w x z:=λz h1 h2 w hw=>by
  obtain ⟨v,hv',rfl⟩:=Q6.1 hw;obtain ⟨u,hu⟩:=(w1 v hv').2;have a1:=Ar hS h1;have a2:vv L y<=vv L z:=by
   rcases Classical.em (z=y) with e | e
   ·rw [e]; exact Ql _
   ·exact Ar hS (by grind)
  exact VB hS hu h1 (by omega)
 have hval:∀ z,U3 p z=(Hi p:Rat)*ev (Oe (ws.map cz)) z:=λz=>by rw [p7,w2]
 refine ⟨U7 (U3 p y),λh0=>?_,λz h1 h2=>?_⟩
 ·rw [hval,Si] at h0;rcases Yd.1 h0 with h | h
  ·exact XZ p6 (Gg.1 h)
  ·have:∀ l:Up,(∀ w∈l,U7 (ev w y)≠0)->U7 (ev (Oe l) y)≠0:=by
    intro l
    induction l with
    | nil=>intro _; simp only [Oe]; rw [Rw]; decide
    |
     cons w l ih =>
     intro h;simp only [Oe];rw [Fa,Si];exact Jo (h w (Qy ..)) (ih λv hv=>h v (Qg _ hv))
   refine this _ (λw hw=>?_) h;have hs:=key y hxy Qp w hw;rw [hs.s]; exact hs.n
 ·rw [hval,hval,Si,Si,rW (y:=y) λw hw=>(key z h1 h2 w hw).s.trans (key y hxy Qp w hw).s.symm]
theorem Quw {g p P:Ul} {c:Rat->Int} (hc:Cut c) (hg:Gc g p P):Iv (cz g) c↔Iv (cz p) c/\Iv (cz P) c:=by
 constructor
 ·intro h;obtain ⟨u,hu⟩:=hg.da;obtain ⟨v,hv⟩:=hg.db;exact ⟨Px hc hu h,Px hc hv h⟩
 ·rintro ⟨h1,h2⟩
  obtain ⟨U,V,hcc⟩:=hg.c;have a1:Iv (Gw U (cz p)) c:=Px hc (p:=cz p) (q:=U) (λt=>by rw [Fa]; grind) h1;have a2:Iv (Gw V (cz P)) c:=Px hc (p:=cz P) (q:=V) (λt=>by rw [Fa]; grind) h2;exact NJ (λt=>by rw [U4,hcc,Fa,Fa,U4,U4]) a1 a2
theorem Qko {p:Ul} (hp:Okp 9 1180 p) {a:Tm} (ha:Va a):∃ s,GQ p a=some s/\SgT p a s:=by
 unfold GQ;rw [if_neg hp.nz];have ca:=ha.cut;by_cases pa:a.point=true
 ·rw [if_pos pa];exact ⟨_,rfl,Qv2 ca (x:=a.lo) (by rw [bC ha pa,Ef])⟩
 rw [if_neg pa];have pa:a.point=false:=by simpa using pa
 obtain ⟨L,V⟩:=ha.iv pa;have eqa:∀ q,Ff a q=cq (cz a.p) a.lo a.hi q:=Bv V.l;obtain ⟨g,g1,g2,g3,g4⟩:=Qhm Qy4 hp.t ha.tr hp.l ha.n (Ux hp.b (by omega)) (ha.bi pa) hp.nz;obtain ⟨u',hu'⟩:=g2.db;have hhas:=V.has hu' (a:=a.lo) (b:=a.hi) Qp V.l Qp;have hvan:=Quw ca g2;rw [show cq (cz a.p) a.lo a.hi=Ff a from (funext eqa).symm] at hhas;rw [g1];show ∃ s,(if 1<g.length/\UN g a.lo a.hi=true then some 0 else _)=some s/\_;by_cases hh:UN g a.lo a.hi=true
 ·have hq:=(UB g _ _).1 hh;rw [if_pos ⟨fP g2.t g2.n hq,hh⟩];exact ⟨0,rfl,.inl ⟨rfl,(hvan.1 (hhas.1 hq).1).1⟩⟩
 ·rw [if_neg λh=>hh h.2];have hnv:¬Iv (cz p) (Ff a):=λh=>hh ((UB g _ _).2 (hhas.2 ⟨hvan.2 ⟨h,ha.van⟩,by rw [eqa]; exact Ew Qp,by rw [eqa]; exact V.hi1⟩))
  rcases JG ca (cz p) with h | ⟨s,AU,hnz⟩
  ·exact absurd h hnv
  obtain ⟨q,o,q1,q2,hpt⟩:=bX hp;obtain ⟨q',l,r1,r2,hS,hl0⟩:=chain_ok hp;rw [q1] at r1;injection r1 with r1;subst r1;rw [r2];show ∃ s,((sgF (q::l) (64+2*(U9 a.lo.num+U9 a.hi.num)+4*(a.p.length+p.length)*(Gy a.p+Gy p+(a.p.length+p.length)+8)) a).bind λx=>some (H5 p x.hi))=some s/\_;obtain ⟨w,hw⟩:=nmE (U9 a.lo.num+U9 a.hi.num);obtain ⟨K,hK⟩:=nmE (Gy a.p+Gy p+(a.p.length+p.length)+8);obtain ⟨n,hn⟩:=nmE (a.p.length+p.length);rw [<-hw,<-hK,<-hn];obtain ⟨gg,sq⟩:=hpt.sq;obtain ⟨_,_,_,_,_,pf0,pfe⟩:=Ma hp.t hp.nz;have hpq:ZH (cz q) (cz p):=⟨Dq (Hi p) (cz gg),λt=>by rw [U4,U4,Gl,U4,pfe,sq.e]; grind⟩;obtain ⟨D,M,k,h1,h2,h3⟩:=ha.hv0;rw [yQ pa] at h3;have b1:=(ha.qsn pa).1.1; have b2:=(ha.qsn pa).2.1;have l1:=ha.n; have l2:=hp.l; have l3:=ha.n2;have s1:=Oo (ha.bi pa); have s2:=Oo hp.b;have hst:4*n*K<=4*18*2466:=Za (by omega) (by omega);have hend:∃ u k',sgF (q::l) (64+2*w+4*n*K) a=some u/\Hv a D M k' u/\(u.point=true\/Td (q::l) u.lo u.hi=0):=by
   by_cases hpl:p.length<2
   ·have hq1:(Fb p)=[1]:=hp.pr.1.one (by have:=hp.pr.2.1; omega);have hql:q.length<2:=by
     have e:=sq.e;rw [hq1] at e;obtain ⟨p1,p2⟩:=Ri (c:=[1]) rfl (by simp) e;have:=Pw sq.pg.t sq.pq.t (c:=[1]) rfl e p1 p2;simp at this; omega
    have hbt:Td (q::l) a.lo a.hi=0:=by
     rw [O5 (Qt V.l),hl0 hql,sq.pq.one hql];have hv1:∀ x:Rat,ev (cz [1]) x=1:=λx=>by rw [U4,Ng]
     simp only [Zz,Jb,vv,tc,hv1]; omega
    refine ⟨a,k,?_,h1,.inr hbt⟩;obtain ⟨m,hm⟩:∃ m,64+2*w+4*n*K=m+1:=⟨63+2*w+4*n*K,by omega⟩;rw [hm];simp only [sgF];rw [if_pos (.inr hbt)]
   ·have hg:Tp a.p p=K*(2*(n-2)-1):=by unfold Tp; rw [hK,hn]
    have hgle:Tp a.p p+5*K<=2*n*K:=by
     rw [hg,Zq K,<-Xm];exact Qz _ (by omega)
    have hKp:8<=K:=by omega
    have hnK:2*n*K<=4*n*K:=Qz _ (by omega);obtain ⟨u,k',u1,u2,u3⟩:=Qkh hp.t hp.l (by omega) hS hpq ha hnz h2 (64+2*w+4*n*K) (2+w+2*n*K) a k ((2^(w+1):Nat):Rat) (by omega) h1 (by omega) (TS (by omega)) (by
     have e:(2^(w+1))*(2^(Tp a.p p+1))<=2^(2+w+2*n*K):=by
      rw [<-Xh];exact Zs (by decide) (by omega)
     have:=Zn.2 e
     push_cast at this ⊢
     exact this)
    exact ⟨u,k',u1,u2,u3⟩
  obtain ⟨u,k',u1,u2,u3⟩:=hend;rw [u1];refine ⟨_,rfl,.inr ?_⟩;have hfin:H5 p u.hi=s:=by
   rcases u2.hi' with hz | hz
   ·have:=rQ ca hz hnz;rw [M8,<-U4]; exact this
   ·rcases u2.i with ⟨e,_⟩ | ⟨L',V'⟩
    ·have:=u2.c u.hi;rw [A1 e,e,Ef] at this; omega
    ·have hup:u.point=false:=by
      have:¬u.point=true:=λh=>by have:=Mm.1 h; have:=V'.l; grind
      simpa using this
     rcases u3 with h | h
     ·rw [hup] at h; cases h
     ·rw [O5 (Qt V'.l)] at h;obtain ⟨s',hs',hps⟩:=Qcv hpt hp.t hp.nz hS V'.l (by omega);obtain ⟨d,dp,x,y,hx,hy,hq⟩:=hnz;have hlo1:Ff a u.lo=1:=by
       rcases u2.lo' with h | ⟨_,h⟩
       ·exact h
       ·have:=V'.l; clear hps hq; grind
      obtain ⟨m,m1,m2,m3⟩:=BE ca hlo1 hx;have e1:=(hq m (Qt m3) (Qt (ca.lt m1 hy))).1;have e2:=hps m m2 (Qt (ca.lt m1 hz));have e3:=hps u.hi V'.l Qp;rw [M8,e3,<-e2,<-U4,e1]
  rw [hfin]; exact ⟨AU,hnz⟩
structure Dp (p:List Int):Prop where
 t:U6 p
 l:p.length<=9
 b:Bd (1130+4*(9-p.length)) p
theorem yP:Szz 9 1253:=⟨by decide,by decide⟩
theorem Dp.ok {p:Ul} (h:Dp p) (h0:p.length≠0):Okp 9 1180 p:=⟨yP,h.t,h0,h.l,Ux h.b (by omega)⟩
theorem Dp.der {p:Ul} (h:Dp p):Dp (Gk p):=by
 have hl:=P7 p;have hl2:=h.l;refine ⟨Fq _ _,by omega,?_⟩;by_cases h0:p.length=0
 ·rw [Qj (l:=Gk p) (by omega)]; exact VL
 ·exact Ux (pV h.b (by omega)) (by omega)
def Fl (a:Tm) (p:Ul):Int:=(GQ p a).getD 0
theorem Qkf {p:Ul} (h:Dp p) {a:Tm} (ha:Va a):GQ p a=some (Fl a p)/\SgT p a (Fl a p):=by
 by_cases h0:p.length=0
 ·have e:p=[]:=Qj h0;subst e;refine ⟨rfl,.inl ⟨rfl,λd dp=>?_⟩⟩;obtain ⟨x,y,h1,h2,_⟩:=ha.cut.near (e:=1) (by decide);exact ⟨x,y,h1,h2,λq _ _=>by simp only [cz,Jb,ev,H8]; exact dp⟩
 ·obtain ⟨s,h1,h2⟩:=Qko (h.ok h0) ha;have e:Fl a p=s:=by unfold Fl; rw [h1]; rfl
  rw [e]; exact ⟨h1,h2⟩
theorem Qvz {c:Rat->Int} {p q:Uo} {s:Int} (h:∀ t,ev p t=ev q t) (hp:RS p c s):RS q c s:=by
 obtain ⟨y,h1,h2⟩:=hp;exact ⟨y,h1,λz h3 h4=>by rw [<-h]; exact h2 z h3 h4⟩
theorem OE {a:Tm} (ha:Va a):∀ (k:Nat) (p:Ul),Dp p->p.length<=k->p.length≠0->RS (cz p) (Ff a) (Tk (Fl a) k p)/\Tk (Fl a) k p≠0
 | 0,p,_,h1,h2=>by omega
 |
  k+1,p,h,h1,h2=>by
  simp only [Tk];rw [if_neg h2];obtain ⟨_,hs⟩:=Qkf h ha;rcases hs with ⟨e,hv⟩ | ⟨e,hn⟩
  ·rw [if_pos e];have hdn:(Gk p).length≠0:=λh0=>by
    by_cases h3:p.length=1
    ·obtain ⟨c,rfl⟩:∃ c,p=[c]:=Ks.1 h3;have hc:c≠0:=by have:=Hy h.t (by simp); simpa using this
     obtain ⟨q,hq,_⟩:=hZ ha.cut (hv (Fc (c:Rat)) (Cc (XZ hc)));rw [U4] at hq;have:U3 [c] q=(c:Rat):=by simp only [U3]; grind
     rw [this] at hq; grind
    ·have h4:=Nz p (p.length-2);rw [Qj h0,show p.length-2+1=p.length-1 by omega] at h4;have h5:p.getD (p.length-1) 0≠0:=Hy h.t (by omega);rcases Yd.1 (h4.symm.trans (by simp)) with h6 | h6
     ·exact h5 h6
     ·omega
   have hl:=P7 p;obtain ⟨i1,i2⟩:=OE ha k (Gk p) h.der (by omega) hdn;exact ⟨vH ha.cut hv (Qvz (λt=>by rw [U4,Og,Te]) i1) i2,i2⟩
  ·rw [if_neg e]; exact ⟨zU ha.cut hn,e⟩
theorem L6 {a:Tm} (ha:Va a) {p:Ul} (h:Dp p) (h0:p.length≠0):RS (cz p) (Ff a) (He (Fl a) p)/\He (Fl a) p≠0:=OE ha _ p h (Ql _) h0
theorem ZI {a:Tm}:He (Fl a) []=0:=rfl
theorem Qow {l:Ul}:∀ z∈l,z.natAbs≤most l:=by
 have key:∀ (l:Ul) (m:Nat),m≤l.foldl (λm z=>if m<z.natAbs then z.natAbs else m) m/\∀ z∈l,z.natAbs≤l.foldl (λm z=>if m<z.natAbs then z.natAbs else m) m:=by
  intro l
  induction l with
  | nil=>exact λm=>⟨Ql _,λz hz=>by cases hz⟩
  |
   cons y l ih =>
   intro m;obtain ⟨e,he⟩:=nmE (if m<y.natAbs then y.natAbs else m);have h1:m<=e/\y.natAbs<=e:=by rw [he]; split <;> omega
   obtain ⟨i1,i2⟩:=ih e;simp only [Z5];rw [<-he];refine ⟨by omega,λz hz=>?_⟩;rcases Qm.1 hz with rfl | hz
   ·omega
   ·exact i2 z hz
 exact (key l 0).2
theorem NC {p:Ul} (h:Fi p≠0):Gp p*((Fi p).natAbs:Rat)=((Fi p).natAbs:Rat)+((most (p.take (p.length-1)):Nat):Rat):=by
 unfold Gp;rw [<-Hz];have hp:0<(Fi p).natAbs:=by omega
 have:=nat_pos hp;rw [show ((((Fi p).natAbs:Int)):Rat)=((Fi p).natAbs:Rat) from rfl,G6 this];rw [Kd]; rfl
theorem aV {m:Nat} {x:Rat} (hx:1≤Fc x):∀ (p:Ul) (lp:p.length≠0),(∀ z∈p.take (p.length-1),z.natAbs≤m)->Fi p≠0->(m:Rat)≤(Fc x-1)*((Fi p).natAbs:Rat)->((Fi p).natAbs:Rat)≤U3 p x*(((Int.sign (Fi p))*(if x<0/\p.length % 2=0 then -1 else 1):Int):Rat)
 | [],lp,_,_,_=>absurd rfl lp
 |
  [c],_,_,hc,_=>by
  have hl:Fi [c]=c:=rfl;rw [hl] at hc ⊢;rw [if_neg (by simp),Ua];have h1:U3 [c] x=(c:Rat):=by simp only [U3]; grind
  rw [h1];have h2:c*Int.sign c=(c.natAbs:Int):=Int.mul_sign_self c;have:=congrArg (λz:Int=>(z:Rat)) h2;rw [X5] at this;rw [this]; exact Qp
 |
  c::d::p,_,hm,hc,hb=>by
  have hl:Fi (c::d::p)=Fi (d::p):=by unfold Fi; simp [List.getD_cons_succ]
  have ih:=aV hx (d::p) (by simp) (λz hz=>hm z (by
   have e:(c::d::p).take ((c::d::p).length-1)=c::(d::p).take ((d::p).length-1):=by simp
   rw [e]; exact Qg _ hz)) (by rw [<-hl]; exact hc) (by rw [<-hl]; exact hb)
  rw [hl] at hc hb ⊢;have hcm:=hm c (by simp);obtain ⟨s,hs⟩:∃ s:Int,s=Int.sign (Fi (d::p)):=⟨_,rfl⟩;have hsv:s=1\/s=-1:=by
   rw [hs];rcases Ke hc with h | h
   ·exact .inr (J6 h)
   ·exact .inl (Ys h)
  rw [<-hs] at ih ⊢;obtain ⟨ld,hld⟩:∃ ld:Rat,ld=((Fi (d::p)).natAbs:Rat):=⟨_,rfl⟩;rw [<-hld] at ih hb ⊢;have hcq:Fc (c:Rat)<=(m:Rat):=by rw [So]; exact Zn.2 hcm
  rw [Md] at hcq;have e1:U3 (c::d::p) x=(c:Rat)+x*U3 (d::p) x:=rfl;rw [e1];have hlen:(c::d::p).length % 2=0↔¬(d::p).length % 2=0:=by simp only [Q4]; omega
  generalize U3 (d::p) x=y at *;generalize (m:Rat)=mm at *;generalize (c:Rat)=cc at *;have hx0:=hx;by_cases hneg:x<0
  ·have hq:Fc x=-x:=by unfold Fc; rw [if_pos hneg]
   rw [hq] at hx0 hb;by_cases hpar:(d::p).length % 2=0
   ·rw [if_pos ⟨hneg,hpar⟩] at ih;rw [if_neg λh=>(hlen.1 h.2) hpar];rcases hsv with rfl | rfl
    ·have ih:ld<=y*(-1):=by simpa using ih
     have:=Z0 ih (show 0<=-x by grind);have e:(((1:Int)*1:Int):Rat)=1:=rfl;rw [e]; grind
    ·have ih:ld<=y*1:=by simpa using ih
     have:=Z0 ih (show 0<=-x by grind);have e:(((-1:Int)*1:Int):Rat)=-1:=rfl;rw [e]; grind
   ·rw [if_neg λh=>hpar h.2] at ih;rw [if_pos ⟨hneg,hlen.2 hpar⟩];rcases hsv with rfl | rfl
    ·have ih:ld<=y*1:=by simpa using ih
     have:=Z0 ih (show 0<=-x by grind);have e:(((1:Int)*-1:Int):Rat)=-1:=rfl;rw [e]; grind
    ·have ih:ld<=y*(-1):=by simpa using ih
     have:=Z0 ih (show 0<=-x by grind);have e:(((-1:Int)*-1:Int):Rat)=1:=rfl;rw [e]; grind
  ·have hq:Fc x=x:=by unfold Fc; rw [if_neg hneg]
   rw [hq] at hx0 hb;rw [if_neg λh=>hneg h.1] at ih ⊢;rcases hsv with rfl | rfl
   ·have ih:ld<=y*1:=by simpa using ih
    have:=Z0 ih (show 0<=x by grind);have e:(((1:Int)*1:Int):Rat)=1:=rfl;rw [e]; grind
   ·have ih:ld<=y*(-1):=by simpa using ih
    have:=Z0 ih (show 0<=x by grind);have e:(((-1:Int)*1:Int):Rat)=-1:=rfl;rw [e]; grind
theorem pF {p:Ul} (tp:U6 p) (lp:p.length≠0) {x:Rat} (hx:Gp p<=Fc x):1<=Fc (U3 p x)/\(0<=x->H5 p x=UH p)/\(x<0->H5 p x=ZK p):=by
 have hl:=L8 tp lp;have hpos:0<(Fi p).natAbs:=by omega
 have h1:(1:Rat)<=((Fi p).natAbs:Rat):=by
  have:((1:Nat):Rat)<=((Fi p).natAbs:Rat):=Zn.2 hpos;exact this
 have hm0:(0:Rat)<=((most (p.take (p.length-1)):Nat):Rat):=Xl;have hb:=NC hl;have hx1:=Zf hx (show (0:Rat)<=((Fi p).natAbs:Rat) by grind);have hx2:1<=Fc x:=by
  rcases Ga 1 (Fc x) with h | h
  ·exact h
  ·exfalso;have:=V0 h (show (0:Rat)<((Fi p).natAbs:Rat) by grind);grind
 have key:=aV (m:=most (p.take (p.length-1))) hx2 p lp (λz hz=>Qow z hz) hl (by grind);obtain ⟨s,hs⟩:∃ s:Int,s=Int.sign (Fi p)*(if x<0/\p.length % 2=0 then -1 else 1):=⟨_,rfl⟩;rw [<-hs] at key;have hsv:s=1\/s=-1:=by
  rw [hs];rcases Ke hl with h | h
  ·rw [J6 h]; split <;> simp
  ·rw [Ys h]; split <;> simp
 have hsg:H5 p x=s/\1<=Fc (U3 p x):=by
  rw [M8];rcases hsv with e | e
  ·rw [e] at key ⊢;have key:((Fi p).natAbs:Rat)<=U3 p x:=by simpa using key
   exact ⟨Hk.2 (by grind),by unfold Fc; rw [if_neg (by grind)]; grind⟩
  ·rw [e] at key ⊢;have key:((Fi p).natAbs:Rat)<=U3 p x*(-1):=by simpa using key
   exact ⟨Sj.2 (by grind),by unfold Fc; rw [if_pos (by grind)]; grind⟩
 refine ⟨hsg.2,λh=>?_,λh=>?_⟩
 ·rw [hsg.1,hs,if_neg λh'=>by have:=h'.1; grind]; unfold UH; omega
 ·rw [hsg.1,hs]; unfold ZK;by_cases he:p.length % 2=0
  ·rw [if_pos ⟨h,he⟩,if_pos he]; omega
  ·rw [if_neg λh'=>he h'.2,if_neg he]; omega
theorem JU {f g:Ul->Int}:∀ {l:Um} (s:Nat×Int),(∀ p∈l,f p=g p)->l.foldl (Ph f) s=l.foldl (Ph g) s
 | [],s,_=>rfl
 |
  p::l,s,h=>by
  simp only [Z5];have e:Ph f s p=Ph g s p:=by unfold Ph; rw [h p (List.mem_cons_self ..)]
  rw [e]; exact JU _ λq hq=>h q (Qg _ hq)
theorem aQ:∀ (l:Um),(∀ p∈l,U6 p/\p.length≠0)->∃ X:Rat,0<X/\∀ x,X≤x->(∀ p∈l,H5 p x=UH p)/\∀ p∈l,H5 p (-x)=ZK p
 | [],_=>⟨1,by decide,λx _=>⟨(λp hp=>by cases hp),(λp hp=>by cases hp)⟩⟩
 |
  p::l,h=>by
  obtain ⟨X,hX,hl⟩:=aQ l λq hq=>h q (Qg _ hq)
  obtain ⟨tp,lp⟩:=h p (Qy ..);refine ⟨X+Fc (Gp p),by have:=Ho (Gp p); grind,λx hx=>?_⟩;have hb0:=Ho (Gp p);have hb1:Gp p<=Fc (Gp p):=by unfold Fc; split <;> grind
  obtain ⟨l1,l2⟩:=hl x (by grind);have e1:Fc x=x:=by unfold Fc; rw [if_neg (by grind)]
  have e2:Fc (-x)=x:=by rw [Ec,e1]
  refine ⟨λq hq=>?_,λq hq=>?_⟩
  ·rcases Qm.1 hq with rfl | hq
   ·exact (pF tp lp (x:=x) (by rw [e1]; grind)).2.1 (by grind)
   ·exact l1 q hq
  ·rcases Qm.1 hq with rfl | hq
   ·exact (pF tp lp (x:=-x) (by rw [e2]; grind)).2.2 (by grind)
   ·exact l2 q hq
theorem dT {q:Ul} {L:Up} (hS:GB (cz q) L) (tq:U6 q) (lq:q.length≠0) {x y:Rat} (hxy:x<y) (h:Gp q<=x\/y<=-Gp q) (hb:0<Gp q):vv L x=vv L y:=by
 rcases Classical.em (vv L x=vv L y) with e | e
 ·exact e
 ·exfalso;obtain ⟨r,r1,r2,r3⟩:=vA hS hxy e (d:=1) (by decide);have:=(pF tq lq (x:=r) (by rcases h with h | h <;> (unfold Fc; split <;> grind))).1;rw [U4] at r3; grind
theorem HZ {p:Ul} (h:Fi p≠0):1<=Gp p:=by
 have hb:=NC h;have hp:=nat_pos (show 0<(Fi p).natAbs by omega);have hm0:(0:Rat)<=((most (p.take (p.length-1)):Nat):Rat):=Xl;rcases Ga 1 (Gp p) with h' | h'
 ·exact h'
 ·have:=V0 h' hp; grind
theorem Qc3 {q:Ul} {l:Um} (hS:GB (cz q) ((q::l).map cz)) (hl:∀ p∈q::l,U6 p/\p.length≠0):WY (q::l)=(vv ((q::l).map cz) (-Gp q):Int)-(vv ((q::l).map cz) (Gp q):Int):=by
 obtain ⟨tq,lq⟩:=hl q (Qy ..);have hb:=HZ (L8 tq lq);obtain ⟨X,hX,hx⟩:=aQ (q::l) hl;obtain ⟨h1,h2⟩:=hx (X+Gp q) (by grind);have e1:Ci UH (q::l)=vv ((q::l).map cz) (X+Gp q):=by
  rw [<-QA]; unfold Cj Ci;rw [JU (f:=UH) (g:=λp=>H5 p (X+Gp q)) (0,0) λp hp=>(h1 p hp).symm]
 have e2:Ci ZK (q::l)=vv ((q::l).map cz) (-(X+Gp q)):=by
  rw [<-QA]; unfold Cj Ci;rw [JU (f:=ZK) (g:=λp=>H5 p (-(X+Gp q))) (0,0) λp hp=>(h2 p hp).symm]
 unfold WY;rw [e1,e2,dT hS tq lq (x:=-(X+Gp q)) (y:=-Gp q) (by grind) (.inr Qp) (by grind),<-dT hS tq lq (x:=Gp q) (y:=X+Gp q) (by grind) (.inl Qp) (by grind)]
theorem Qvc {f:Uo} {L:Up} (hS:GB f L) {x y:Rat} (hxy:x<y) (hv:vv L y+2<=vv L x):∃ m,x<m/\m<y/\vv L m<vv L x/\vv L y<vv L m/\ev f m≠0:=by
 obtain ⟨R,hR,hx,hy⟩:=xX x y;obtain ⟨e,ep,he⟩:=Qla hS R hR;have key:∀ n:Nat,∀ x,Fc x<=R->x<y->vv L y+2<=vv L x->y-x<=(n:Rat)*e->∃ m,x<m/\m<y/\vv L m<vv L x/\vv L y<vv L m:=by
  intro n
  induction n with
  | zero=>intro x _ hxy _ hn; rw [show ((0:Nat):Rat)=0 from rfl] at hn; exfalso; clear he; grind
  |
   succ n ih =>
   intro x hx hxy hv hn;have hn':(((n+1:Nat):Rat))=(n:Rat)+1:=by push_cast; rfl
   rw [hn'] at hn;rcases Ga (y-x) e with h1 | h1
   ·have:=he x y hx hy hxy h1; omega
   ·have hm:Fc (x+e)<=R:=UC hx hy (by clear he ih; grind) (by clear he ih; grind);have h2:=he x (x+e) hx hm (by clear he ih; grind) (by clear he ih; grind);have h3:=Ar hS (show x<x+e by clear he ih; grind);by_cases h4:vv L x=vv L (x+e)
    ·obtain ⟨m,m1,m2,m3,m4⟩:=ih (x+e) hm (by clear he ih; grind) (by omega) (by clear he ih; grind);exact ⟨m,by clear he ih; grind,m2,by omega,m4⟩
    ·exact ⟨x+e,by clear he ih; grind,by clear he ih; grind,by omega,by omega⟩
 obtain ⟨n,hn⟩:=ZR (z:=y-x) ep;obtain ⟨m,m1,m2,m3,m4⟩:=key n x hx hxy hv hn;rcases Classical.em (ev f m=0) with h0 | h0
 ·-- a little farther on
  obtain ⟨e2,e2p,hl⟩:=loc hR hS (w:=f) (u:=[1]) (λt=>by rw [Rw]; grind);obtain ⟨d,dp,d1,d2⟩:=min2 (a:=e2) (b:=(y-m) / 2) e2p (Ez (by clear he key hl; grind) (by decide));have h2:(y-m) / 2*2=y-m:=G6 (by decide);have hmR:Fc m<=R:=UC hx hy (Qt m1) (Qt m2);have hmR2:Fc (m+d)<=R:=UC hx hy (by clear he key hl; grind) (by clear he key hl; grind);rcases hl m (m+d) hmR hmR2 (by clear he key hl; grind) (by clear he key hl; grind) with ⟨p1,p2,_⟩ | ⟨_,p1,_,p3,_⟩
  ·refine ⟨m+d,by clear he key hl; grind,by clear he key hl; grind,by omega,by omega,λh'=>?_⟩;have:=p2.s;rw [Gg.2 h'] at this; exact p2.n this.symm
  ·rw [Gg.2 h0] at p3; exact absurd p3.symm p1
 ·exact ⟨m,m1,m2,m3,m4,h0⟩
theorem Qqq {q:Ul} {L:Up} (hS:GB (cz q) L) (tq:U6 q) (nq:q.length<=9) (lq:2<=q.length) {lo hi:Rat} (hl:lo<hi) (hv:vv L hi+2<=vv L lo):1<(hi-lo)*((2^(Tp q q+1):Nat):Rat):=by
 rcases Ga ((hi-lo)*((2^(Tp q q+1):Nat):Rat)) 1 with hw | hw
 ·exfalso;have hpow:(0:Rat)<=((2^(Tp q q+1):Nat):Rat):=Xl;obtain ⟨m,m1,m2,m3,m4,m0⟩:=Qvc hS hl hv;obtain ⟨R,hR,r1,r2⟩:=xX lo hi;have hd:=Cc m0;obtain ⟨d,dp,_,db⟩:=Hb (b:=AS R (cz q)) (d:=Fc (ev (cz q) m) / 2) (Mw hR _) (Ez hd (by decide));have hd2:Fc (ev (cz q) m) / 2*2=Fc (ev (cz q) m):=G6 (by decide);have hmR:Fc m<=R:=UC r1 r2 (Qt m1) (Qt m2);have hnear:∀ r,Fc r<=R->Fc (ev (cz q) r)<Fc (ev (cz q) m) / 2->d<Fc (r-m):=λr hr hs=>by
   rcases Ga (Fc (r-m)) d with h | h
   ·exfalso;have h1:=P8 (p:=cz q) hmR hr hR h db;have h2:=T0 (ev (cz q) m-ev (cz q) r) (ev (cz q) r);rw [show ev (cz q) m-ev (cz q) r+ev (cz q) r=ev (cz q) m by grind,oS] at h2;grind
   ·exact h
  refine Qhd (R:=R+1) (d:=d+d) tq tq nq nq lq lq (by grind) (by grind) λe ep=>?_
  obtain ⟨e',ep',e1,e2⟩:=min2 (a:=e) (b:=Fc (ev (cz q) m) / 2) ep (Ez hd (by decide));obtain ⟨x,x1,x2,x3⟩:=vA hS m1 (by omega) ep';obtain ⟨y,y1,y2,y3⟩:=vA hS m2 (by omega) ep';have hxR:Fc x<=R:=UC r1 r2 x1 (by grind);have hyR:Fc y<=R:=UC r1 r2 (by grind) y2;have nx:=hnear x hxR (by grind);have ny:=hnear y hyR (by grind);have ex:Fc (x-m)=m-x:=by unfold Fc; split <;> grind
  have ey:Fc (y-m)=y-m:=by unfold Fc; split <;> grind
  rw [ex] at nx;rw [ey] at ny;have exy:Fc (x-y)=y-x:=by unfold Fc; split <;> grind
  refine ⟨x,y,by grind,by grind,by rw [exy]; grind,?_,by rw [<-U4]; grind,by rw [<-U4]; grind⟩;rw [exy];exact Zk (Zf (show y-x<=hi-lo by grind) hpow) hw
 ·exact hw
end Orq
