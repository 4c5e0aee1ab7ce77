/- T10 T11 T12 T13 T14 T15 T16 T17 T18 T19 T20 T21 T22 T23 -/
import Derived.Test.YtoohlnnpalgnaaaGreatPart05
import Derived.Test.YtoohlnnpalgnaaaGreatPart00
set_option linter.all false
namespace Orq
def IY (A B:Um) (b J J' n k j:Nat):Int:=if n<b*J then PL (n / J) (n % J) (fA A) k j else PL ((n-b*J) / J') ((n-b*J) % J') (gc B) k j
theorem Qkl {F:Nat->Nat->Int} {h:Nat} (hF:∀ k j,(F k j).natAbs<=h) (i j' k j:Nat):(PL i j' F k j).natAbs<=h:=by
 unfold PL; split
 ·split
  ·exact hF _ _
  ·exact Qh _
 ·exact Qh _
theorem Qr8 {i b J j:Nat} (hi:i<b) (hj:j<J):i*J+j<b*J:=by
 have:(i+1)*J<=b*J:=Q0 J hi;rw [Xa] at this; omega
theorem RU {i J j:Nat} (hj:j<J):(i*J+j) / J=i/\(i*J+j) % J=j:=by
 rw [Zq,W9 (by omega),Ua,V2 hj,Xt hj]; exact ⟨by omega,rfl⟩
theorem zD (A B:Um) (a b J J':Nat) (v:Nat->Int) (k j:Nat):sm (b*J+a*J') (λn=>IY A B b J J' n k j*v n) =
 (sm b λi=>sm J λj1=>PL i j1 (fA A) k j*v (i*J+j1))+sm a λi=>sm J' λj1=>PL i j1 (gc B) k j*v (b*J+(i*J'+j1)):=by
 rw [cN,cB,cB];congr 1
 ·refine Lo b λi hi=>Lo J λj1 hj=>?_
  unfold IY;rw [if_pos (Qr8 hi hj),(RU hj).1,(RU hj).2]
 ·refine Lo a λi hi=>Lo J' λj1 hj=>?_
  unfold IY;rw [if_neg (by omega),Jk,(RU hj).1,(RU hj).2]
theorem Qxw (A:Um) (v:Nat->Int) {i J k j:Nat} (hj:j<J):(sm J λj1=>PL i j1 (fA A) k j*v (i*J+j1))=if i<=k then A.getD (k-i) 0*v (i*J+j) else 0:=by
 rw [EB (k:=j) J hj λj1 _ hne=>?_]
 ·unfold PL fA;by_cases h:i<=k
  ·rw [if_pos h,if_pos h,if_pos (Ql _),if_pos (Ki _)]
  ·rw [if_neg h,if_neg h,Yy]
 ·unfold PL fA;by_cases h:i<=k
  ·rw [if_pos h];by_cases h':j1<=j
   ·rw [if_pos h',if_neg (by omega),Yy]
   ·rw [if_neg h',Yy]
  ·rw [if_neg h,Yy]
section
variable {A B:Um} {a b J J':Nat} (hA:A.length=a+1) (hB:B.length=b+1) (lA:A.getD a 0≠0) (lB:B.getD b 0≠0) (hJ:J=J'+b) {v:Nat->Int} (hW:∀ k j,k<a+b->j<J->sm (b*J+a*J') (λn=>IY A B b J J' n k j*v n)=0)
include hA lA hW in
theorem Qrx {jj:Nat} (hj:jj<J) (hV:∀ k,a<=k->k<a+b->(sm a λi=>sm J' λj1=>PL i j1 (gc B) k jj*v (b*J+(i*J'+j1)))=0):∀ d i,i<b->b-i<=d->v (i*J+jj)=0:=by
 intro d
 induction d with
 | zero=>intro i hi hd; omega
 |
  succ d ih =>
  intro i hi hd;have h1:=hW (i+a) jj (by omega) hj;rw [zD,hV (i+a) (by omega) (by omega)] at h1;rw [Lo b (λi' hi'=>Qxw A v hj)] at h1;rw [EB (k:=i) b hi λi' hi' hne=>?_] at h1
  ·rw [if_pos (by omega),Jk,Int.add_zero] at h1;rcases Yf.1 h1 with h2 | h2
   ·exact absurd h2 lA
   ·exact h2
  ·rcases Zb i i' with h | h
   ·rw [ih i' hi' (by omega)]; simp
   ·rw [if_pos (by omega),Qi,Qu (by omega)]; simp
include hA hB lA lB hJ hW in
theorem Qx1:∀ d js,js<J'->J'-js<=d->∀ i,i<a->v (b*J+(i*J'+js))=0:=by
 intro d
 induction d with
 | zero=>intro js hi hd; omega
 |
  succ d ih =>
  intro js hjs hd i hi;have hin:∀ i' k,i'<a->(sm J' λj1=>PL i' j1 (gc B) k (js+b)*v (b*J+(i'*J'+j1)))=if i'=k then gc B 0 b*v (b*J+(i'*J'+js)) else 0:=λi' k hi'=>by
   rw [EB (k:=js) J' hjs λj1 hj1 hne=>?_]
   ·unfold PL;by_cases h:i'<=k
    ·rw [if_pos h,if_pos (by omega),Jk];by_cases h':i'=k
     ·rw [if_pos h',h',Ki]
     ·rw [if_neg h',MM B _ _ (by omega),Yy]
    ·rw [if_neg h,if_neg (by omega),Yy]
   ·rcases Zb js j1 with h | h
    ·rw [ih j1 hj1 (by omega) i' hi',Wa]
    ·unfold PL;by_cases h':i'<=k
     ·rw [if_pos h',if_pos (by omega),MM B _ _ (by omega),Yy]
     ·rw [if_neg h',Yy]
  have hU:=Qrx hA lA hW (jj:=js+b) (by omega) (λk hk hk'=>VZ a λi' hi'=>by rw [hin i' k hi',if_neg (by omega)]) (b+1);have h1:=hW i (js+b) (by omega) (by omega);rw [zD,Lo a (λi' hi'=>hin i' i hi')] at h1;rw [VZ b λi' hi'=>by
   rw [Qxw A v (by omega),hU i' hi' (by omega)]; simp] at h1
  rw [EB (k:=i) a hi λi' hi' hne=>if_neg hne,if_pos rfl,Int.zero_add] at h1;rcases Yf.1 h1 with h2 | h2
  ·have:=Qhl B b hB; rw [h2] at this; omega
  ·exact h2
include hA hB lA lB hJ hW in
theorem Qd0:∀ n,n<b*J+a*J'->v n=0:=by
 intro n hn;have hV:=Qx1 hA hB lA lB hJ hW;rcases Zb n (b*J) with h | h
 ·have hJp:0<J:=by
   rcases Q3 J with e | e
   ·rw [e,Yz] at h; omega
   ·exact e
  have e1:=Z4 n hJp;have e2:n / J<b:=X8 (by rw [Zq]; exact h);have:=Qrx hA lA hW e1 (λk _ _=>VZ a λi hi=>VZ J' λj1 hj1=>by rw [hV J' j1 hj1 (by omega) i hi,Wa]) (b+1) (n / J) e2 (Qa (Nat.sub_le _ _) (Nat.le_succ _));rwa [Zq,Xe] at this
 ·have hJp:0<J':=by
   rcases Q3 J' with e | e
   ·rw [e,Yz] at hn; omega
   ·exact e
  have e1:=Z4 (n-b*J) hJp;have e2:(n-b*J) / J'<a:=X8 (by rw [Zq J' a]; omega);have:=hV J' _ e1 (by omega) _ e2;rw [Zq ((n-b*J) / J'),Xe] at this;rwa [show b*J+(n-b*J)=n by omega] at this
end
theorem YE {R x:Rat} (h1:1<=R) (hx:Fj x<=R):∀ k:Nat,Fj (x^k)<=R^k/\1<=R^k
 | 0=>by rw [Xg,Xg]; exact ⟨by decide,by decide⟩
 |
  k+1=>by
  obtain ⟨i1,i2⟩:=YE h1 hx k;rw [Z7,Z7];have:=Cm (a:=1) (c:=1) (by decide) i2 (by decide) h1;exact ⟨Hd i1 hx,by grind⟩
theorem oS {R:Rat} (h1:1<=R) {i:Nat}:∀ k,i<=k->R^i<=R^k
 | 0,h=>by rw [show i=0 by omega]; exact Qp
 |
  k+1,h=>by
  rcases Vl h with e | e
  ·have:=oS h1 (i:=i) k (by omega);have h2:=(YE h1 (x:=0) (by rw [Rj]; grind) k).2;rw [Z7];have:=Cm (a:=R^k) (b:=R^k) (c:=1) (d:=R) (by grind) Qp (by decide) h1;grind
  ·rw [e]; exact Qp
theorem Qkk {F:Nat->Nat->Int} {i j' K J:Nat} {x y R X:Rat} {K2 J2:Nat} (h1:1<=R) (hx:Fj x<=R) (hy:Fj y<=R) (hK:K=i+K2) (hJ:J=j'+J2) (hF:E2 F K2 J2 x y=X):Fj (E2 (PL i j' F) K J x y)<=R^(K+J)*Fj X:=by
 subst hK; subst hJ;rw [CC,hF,Ik];have a1:=(YE h1 hy i).1;have a2:=(YE h1 hx j').1;have a3:=Hd a1 a2;rw [<-GV] at a3;have a4:=oS h1 (i:=i+j') (i+K2+(j'+J2)) (by omega);exact Cm (Hw _) (Zl a3 a4) (Hw _) Qp
theorem Qv3 {A B:Um} {a b h:Nat} (hA:A.length=a+1) (hB:B.length=b+1) (lA:A.getD a 0≠0) (lB:B.getD b 0≠0) (ha:0<a) (hb:0<b) (h0:1<=h) (bA:∀ k,(A.getD k 0).natAbs<=h) (bB:gB B<=h) {J J' N H:Nat} (hJ:J=2*(a*b)) (hJ':J=J'+b) (hN:N=b*J+a*J') (hH:H=(2*(N*h))^(2*(a+b-1))) :
 ∃ w:Nat->Int,(∃ j,j<J/\w j≠0)/\(∀ j,(w j).natAbs<=N*(h*H))/\∀ R:Rat,1<=R->∃ C:Rat,0<=C/\∀ x y,Fj x<=R->Fj y<=R->Fj (sq J λj=>(w j:Rat)*x^j)<=C*(Fj (U9 A y)+Fj (U9 B (y-x))):=by
 have hab:0<a*b:=J5 ha hb;have hbd:∀ n k j,(IY A B b J J' n k j).natAbs<=h:=λn k j=>by
  unfold IY
  split
  ·exact Qkl (λk j=>by unfold fA; split; exact bA k; exact Nat.zero_le _) _ _ _ _
  ·exact Qkl (λk j=>Qa (Qhk B k j) bB) _ _ _ _
 have hJp:0<J:=by omega
 have hNp:1<=N:=by
  have:0<b*J:=J5 hb hJp;omega
 have hNh:1<=N*h:=J5 hNp h0;obtain ⟨E,hE⟩:=nmE ((a+b-1)*J);have hNE:N=E+a*b:=by
  have e1:(a+b-1)*J+J=(a+b)*J:=by
   rw [<-Xa]; congr 1; omega
  have e2:a*J=a*J'+a*b:=by rw [hJ',Xj]
  rw [X3] at e1;omega
 have hc:(2*(N*(h*H))+1)^E<(H+1)^N:=by
  have c1:2*(N*(h*H))+1<=2*(N*h)*(H+1):=by
   rw [Xj,Yw,Xy 2,Xy N]; omega
  refine Z3 (Nat.pow_le_pow_left c1 E) ?_;rw [Nat.mul_pow,hNE,Xf,Zq];refine Nat.mul_lt_mul_of_pos_left ?_ (Z2 (by omega));have e1:(2*(N*h))^E=H^(a*b):=by
   rw [hH,<-Ks,hE,hJ]; congr 1;rw [Zq 2 (a+b-1),Xy]
  rw [<-hNE,e1];exact Nat.pow_lt_pow_left (by omega) (by omega)
 obtain ⟨v,v1,⟨n0,n1,n2⟩,v3⟩:=Qv7 (M:=λe n=>IY A B b J J' n (e / J+1) (e % J)) (h:=h) (N:=N) (E:=E) (H:=H) (λe n=>hbd n _ _) hc;have hW:∀ k j,1<=k->k<a+b->j<J->sm N (λn=>IY A B b J J' n k j*v n)=0:=λk j k1 k2 hj=>by
  have:=v3 ((k-1)*J+j) (by rw [hE]; exact Qr8 (by omega) hj);rwa [(RU hj).1,(RU hj).2,show k-1+1=k by omega] at this
 refine ⟨λj=>sm N λn=>IY A B b J J' n 0 j*v n,?_,λj=>?_,λR hR=>?_⟩
 ·rcases Classical.em (∃ j,j<J/\(sm N λn=>IY A B b J J' n 0 j*v n)≠0) with e | e
  ·exact e
  ·exfalso;refine n2 (Qd0 hA hB lA lB hJ' (v:=v) (λk j hk hj=>?_) n0 (by rw [<-hN]; exact n1));rw [<-hN];rcases Q3 k with e' | e'
   ·subst e';rcases Classical.em ((sm N λn=>IY A B b J J' n 0 j*v n)=0) with e2 | e2
    ·exact e2
    ·exact absurd ⟨j,hj,e2⟩ e
   ·exact hW k j e' hk hj
 ·refine Qkr N λn _=>?_
  rw [J9];exact Zc (hbd n 0 j) (v1 n)
 ·have hRp:∀ k:Nat,1<=R^k:=λk=>(YE hR (x:=0) (by rw [Rj]; grind) k).2
  have hHn:(0:Rat)<=(H:Rat):=Xi;have hNn:(0:Rat)<=(N:Rat):=Xi;refine ⟨(N:Rat)*((H:Rat)*R^(a+b+J)),Bh hNn (Bh hHn (by have:=hRp (a+b+J); grind)),λx y hx hy=>?_⟩;have e1:(sq J λj=>((sm N λn=>IY A B b J J' n 0 j*v n:Int):Rat)*x^j)=E2 (λk j=>sm N λn=>IY A B b J J' n k j*v n) (a+b) J x y:=by
   unfold E2;obtain ⟨m,hm⟩:∃ m,a+b=m+1:=⟨a+b-1,by omega⟩;rw [hm,O6,Cy (n:=m)]
   ·have:(sq J λj=>((sm N λn=>IY A B b J J' n 0 j*v n:Int):Rat)*(y^0*x^j))=sq J λj=>((sm N λn=>IY A B b J J' n 0 j*v n:Int):Rat)*x^j:=Pp J λj _=>by rw [Xg]; grind
    rw [this]; grind
   ·intro k hk;refine Cy J λj hj=>?_
    show ((sm N λn=>IY A B b J J' n (k+1) j*v n:Int):Rat)*_=0;rw [hW (k+1) j (by omega) (by omega) hj,show ((0:Int):Rat)=0 from rfl]; grind
  rw [e1,Qg1];have key:∀ n,n<N->Fj ((v n:Rat)*E2 (IY A B b J J' n) (a+b) J x y)<=(H:Rat)*(R^(a+b+J)*(Fj (U9 A y)+Fj (U9 B (y-x)))):=λn hn=>by
   have hvn:Fj (v n:Rat)<=(H:Rat):=by
    have h1:=v1 n;have h2:(v n)<=(H:Int):=by omega
    have h3:-(H:Int)<=v n:=by omega
    have h2:=Jb.2 h2;have h3:=Jb.2 h3;rw [Vm] at h3;rw [Mf]; exact ⟨h3,h2⟩
   refine Hd hvn ?_;have hRk:=hRp (a+b+J);have n1:=Hw (U9 A y);have n2:=Hw (U9 B (y-x));rcases Zb n (b*J) with h | h
   ·have e:IY A B b J J' n=PL (n / J) (n % J) (fA A):=by funext k j; unfold IY; rw [if_pos h]
    have d1:n / J<b:=X8 (by rw [Zq]; exact h);have d2:=Z4 n hJp;rw [e];refine Zl (Qkk (K2:=a+b-n / J) (J2:=J-n % J) hR hx hy (by omega) (by omega) (X:=U9 A y) ?_) (Cm (by grind) Qp n1 (by grind));obtain ⟨m,hm⟩:∃ m,J-n % J=m+1:=⟨J-n % J-1,by omega⟩;rw [hm]; exact Qx3 A _ _ x y (by omega)
   ·have e:IY A B b J J' n=PL ((n-b*J) / J') ((n-b*J) % J') (gc B):=by funext k j; unfold IY; rw [if_neg (by omega)]
    have hJp':0<J':=by
     rcases Q3 J' with e | e
     ·rw [e,Yz] at hN; omega
     ·exact e
    have d1:(n-b*J) / J'<a:=X8 (by rw [Zq J' a]; omega);have d2:=Z4 (n-b*J) hJp';rw [e];refine Zl (Qkk (K2:=a+b-(n-b*J) / J') (J2:=J-(n-b*J) % J') hR hx hy (by omega) (by omega) (X:=U9 B (y-x)) ?_) (Cm (by grind) Qp n2 (by grind));exact Quc x y B _ _ (by omega) (by omega)
  have:=Qsm N key;refine Zl this ?_;have:(N:Rat)*((H:Rat)*(R^(a+b+J)*(Fj (U9 A y)+Fj (U9 B (y-x)))))=(N:Rat)*((H:Rat)*R^(a+b+J))*(Fj (U9 A y)+Fj (U9 B (y-x))):=by grind
  rw [this]; exact Qp
end Orq
namespace Orq
theorem Qkv {w:Nat->Int} {x:Rat} {D:Rat} (hx:Fj x*2<=1) (hw:∀ j,Fj (w j:Rat)<=D):∀ J (k:Nat),Fj (sq J λj=>(w (k+j):Rat)*x^j)<=2*D
 | 0,k=>by have:=hw 0; have:=Hw (w 0:Rat); simp only [sq,Rj]; clear hw; grind
 |
  J+1,k=>by
  have ih:=Qkv hx hw J (k+1);rw [O6];have e:(sq J λi=>(w (k+(i+1)):Rat)*x^(i+1))=x*sq J λi=>(w (k+1+i):Rat)*x^i:=by
   rw [<-JP]; exact Pp J λi _=>by rw [Z7,show k+(i+1)=k+1+i by omega]; grind
  rw [e,Xg,Xl];have h1:=hw k;have h2:=Su ((w k:Rat)*1) (x*sq J λi=>(w (k+1+i):Rat)*x^i);have h3:=Hd (x:=x) (y:=sq J λi=>(w (k+1+i):Rat)*x^i) Qp ih;have h4:=Ze hx (show (0:Rat)<=D by have:=Hw (w k:Rat); clear hw; grind);have h5:(w k:Rat)*1=w k:=by grind
  rw [h5] at h2 ⊢;clear hw; grind
theorem WV {z:Int} (h:z≠0):1<=Fj (z:Rat):=by
 unfold Fj;rcases Ke h with h | h
 ·have:((z:Int):Rat)<((0:Int):Rat):=Jn.2 h;have h2:((1:Int):Rat)<=((-z:Int):Rat):=Jb.2 (by omega);rw [if_pos (by simpa using this)];rw [Vm] at h2;simpa using h2
 ·have:((0:Int):Rat)<((z:Int):Rat):=Jn.2 h;have h2:((1:Int):Rat)<=((z:Int):Rat):=Jb.2 (by omega);rw [if_neg (by
   have:(0:Rat)<z:=by simpa using this
   grind)]
  simpa using h2
theorem nN {w:Nat->Int} {x:Rat} {D:Rat} (hD:1<=D) (hx0:0<Fj x) (hx:Fj x*(4*D)<=1) (hw:∀ j,Fj (w j:Rat)<=D):∀ J (k:Nat),(∃ j,j<J/\w (k+j)≠0)->Fj x^J / 2<=Fj (sq J λj=>(w (k+j):Rat)*x^j)
 | 0,k,⟨j,h,_⟩=>by omega
 |
  J+1,k,⟨j,h1,h2⟩=>by
  have hx2:Fj x*2<=1:=by
   have:=Cm (a:=Fj x) (c:=2) (Qt hx0) Qp (by decide) (show (2:Rat)<=4*D by clear hw; grind);exact Zl this hx
  have hx1:Fj x<=1:=by clear hw; grind
  have hp:∀ k:Nat,Fj x^k<=1/\0<=Fj x^k:=λk=>by
   induction k with
   | zero=>rw [Xg]; exact ⟨by decide,by decide⟩
   |
    succ k ih =>
    rw [Z7];have:=Cm ih.2 ih.1 (Qt hx0) hx1;have:=Bh ih.2 (Qt hx0);constructor <;> (clear hw; grind)
  rw [O6];have e:(sq J λi=>(w (k+(i+1)):Rat)*x^(i+1))=x*sq J λi=>(w (k+1+i):Rat)*x^i:=by
   rw [<-JP]; exact Pp J λi _=>by rw [Z7,show k+(i+1)=k+1+i by omega]; grind
  rw [e,Xg,Xl k,show (w k:Rat)*1=w k by grind];by_cases h0:w k=0
  ·have hj:j≠0:=λe=>h2 (by rw [e]; exact h0)
   have ih:=nN hD hx0 hx hw J (k+1) ⟨j-1,by omega,by rw [show k+1+(j-1)=k+j by omega]; exact h2⟩;rw [h0,show ((0:Int):Rat)+x*(sq J λi=>(w (k+1+i):Rat)*x^i)=x*sq J λi=>(w (k+1+i):Rat)*x^i by rw [show ((0:Int):Rat)=0 from rfl]; grind,Ik,Z7];have:=Z0 ih (Qt hx0);have e2:Fj x*(Fj x^J / 2)=Fj x^J*Fj x / 2:=by rw [J6,J6]; grind
   rw [e2] at this; exact this
  ·have a1:=WV h0;have a2:=Qkv hx2 hw J (k+1);have a3:=Hd (x:=x) (y:=sq J λi=>(w (k+1+i):Rat)*x^i) Qp a2;have a4:=Su ((w k:Rat)+x*sq J λi=>(w (k+1+i):Rat)*x^i) (-(x*sq J λi=>(w (k+1+i):Rat)*x^i));rw [Et,show (w k:Rat)+(x*sq J λi=>(w (k+1+i):Rat)*x^i)+-(x*sq J λi=>(w (k+1+i):Rat)*x^i)=w k by grind] at a4;have a5:=(hp (J+1)).1;have a6:Fj x^(J+1) / 2*2=Fj x^(J+1):=Hf (by decide);have a7:Fj x*(2*D)*2=Fj x*(4*D):=by grind
   clear hw hp; grind
theorem Quw {A B:Um} {a b h:Nat} (hA:A.length=a+1) (hB:B.length=b+1) (lA:A.getD a 0≠0) (lB:B.getD b 0≠0) (ha:0<a) (hb:0<b) (h0:1<=h) (bA:∀ k,(A.getD k 0).natAbs<=h) (bB:gB B<=h) {N D:Nat} (hN:b*(2*(a*b))+a*(2*(a*b)-b)=N) (hD:N*(h*(2*(N*h))^(2*(a+b-1)))<=D) {R d:Rat} (hR:1<=R) (dp:0<d)
 (hs:∀ e:Rat,0<e->∃ q r,Fj q<=R/\Fj r<=R/\d<=Fj (q-r)/\Fj (q-r)*(4*(D:Rat))<=1/\Fj (U9 A q)<e/\Fj (U9 B r)<e):False:=by
 have hab:0<a*b:=J5 ha hb;have hbab:b<=a*b:=by
  have:=Q0 b (show 1<=a from ha); omega
 obtain ⟨w,⟨j,hj,hw0⟩,hw,hC⟩:=Qv3 hA hB lA lB ha hb h0 bA bB (J:=2*(a*b)) (J':=2*(a*b)-b) rfl (by omega) hN.symm rfl;obtain ⟨C,hC0,hC⟩:=hC (2*R) (by grind);have hw':∀ j,Fj (w j:Rat)<=(D:Rat):=λj=>by
  have h1:=Qa (hw j) hD;have h2:w j<=(D:Int):=by omega
  have h3:-(D:Int)<=w j:=by omega
  have h2:=Jb.2 h2;have h3:=Jb.2 h3;rw [Vm] at h3;rw [Mf]; exact ⟨h3,h2⟩
 have hD1:(1:Rat)<=(D:Rat):=by
  have:=WV hw0;exact Zl this (hw' j)
 have hdJ:0<d^(2*(a*b)) / 2:=Ag (Rat.pow_pos dp) (by decide);obtain ⟨e,ep,_,he⟩:=Hj (b:=C*2) (d:=d^(2*(a*b)) / 2) (by grind) hdJ;obtain ⟨q,r,q1,r1,d1,d2,aq,br⟩:=hs e ep;have h1:=hC (q-r) q (by
  have:=Su q (-r); rw [Et] at this; have:q-r=q+-r:=by grind
  grind) (by grind)
 rw [show q-(q-r)=r by grind] at h1;have h2:=nN (x:=q-r) hD1 (by grind) d2 hw' (2*(a*b)) 0 ⟨j,hj,by rw [Zy]; exact hw0⟩;simp only [Zy] at h2;have h3:C*(Fj (U9 A q)+Fj (U9 B r))<=C*(e+e):=Z0 (by grind) hC0;have h4:d^(2*(a*b))<=Fj (q-r)^(2*(a*b)):=by
  generalize 2*(a*b)=J
  induction J with
  | zero=>rw [Xg,Xg]; exact Qp
  |
   succ J ih =>
   rw [Z7,Z7];exact Cm (Qt (Rat.pow_pos dp)) ih (Qt dp) d1
 have h5:d^(2*(a*b)) / 2*2=d^(2*(a*b)):=Hf (by decide);have h6:Fj (q-r)^(2*(a*b)) / 2*2=Fj (q-r)^(2*(a*b)):=Hf (by decide);clear hC hs hw hw';grind
def HD (p:Up) (n:Nat):Prop:=p.getD n 0≠0/\∀ k,n<k->p.getD k 0=0
theorem Rl:∀ (p q:Up) (k:Nat),(Sv p q).getD k 0=p.getD k 0+q.getD k 0
 | [],q,k=>by simp only [Sv,Kt]; grind
 | a::p,[],k=>by simp only [Sv,Kt]; grind
 | a::p,b::q,0=>by simp only [Sv,Zt]
 | a::p,b::q,k+1=>by simp only [Sv,Q4]; exact Rl p q k
theorem Sp (c:Rat):∀ (p:Up) (k:Nat),(D3 c p).getD k 0=c*p.getD k 0
 | [],k=>by simp only [D3,X6,Kt]; grind
 | a::p,0=>by simp [D3]
 | a::p,k+1=>by have:=Sp c p k; simp only [D3,Zz,Q4] at *; exact this
theorem Qht {p:Up} {k:Nat} (h:∀ x∈p,x=0):p.getD k 0=0:=by
 rw [Qi];cases e:p[k]? with
 | none=>rfl
 | some x=>exact h x (Qc e)
theorem Dw {p q:Up} (h:∀ t,ev p t=ev q t) (k:Nat):p.getD k 0=q.getD k 0:=by
 have h1:=Qht (k:=k) (WI (p:=Sv p (D3 (-1) q)) λt _ _=>by rw [G0,Gu,h t]; grind);rw [Rl,Sp] at h1; grind
theorem D8:∀ {p:Up},(∀ k,p.getD k 0=0)->∀ t,ev p t=0
 | [],_,t=>rfl
 |
  a::p,h,t=>by
  have h0:=h 0;have h1:=D8 (p:=p) (λk=>by have:=h (k+1); rwa [Q4] at this) t;rw [Zt] at h0;simp only [ev,h0,h1]; grind
theorem DD:∀ (p:Up),(∀ t,ev p t=0)\/∃ n,n<p.length/\HD p n
 | []=>.inl λ_=>rfl
 |
  a::p=>by
  rcases DD p with h | ⟨n,hn,h1,h2⟩
  ·rcases Classical.em (a=0) with e | e
   ·exact .inl λt=>by simp only [ev,e,h t]; grind
   ·refine .inr ⟨0,by simp,by simpa using e,λk hk=>?_⟩;obtain ⟨m,rfl⟩:∃ m,k=m+1:=⟨k-1,by omega⟩;rw [Q4];exact (Dw (p:=p) (q:=[]) h m).trans (by simp)
  ·refine .inr ⟨n+1,by simp; omega,by rw [Q4]; exact h1,λk hk=>?_⟩;obtain ⟨m,rfl⟩:∃ m,k=m+1:=⟨k-1,by omega⟩;rw [Q4]; exact h2 m (by omega)
theorem Qr6 {p q:Up} {n:Nat} (h:∀ t,ev p t=ev q t) (hp:HD p n):HD q n :=
 ⟨by rw [<-Dw h]; exact hp.1,λk hk=>by rw [<-Dw h]; exact hp.2 k hk⟩
theorem Qr7 {p:Up} {n m:Nat} (h:HD p n) (h':HD p m):n=m:=by
 rcases Kn n m with e | e | e
 ·exact absurd (h.2 m e) h'.1
 ·exact e
 ·exact absurd (h'.2 n e) h.1
theorem aF {p:Up} {n:Nat} (h:HD p n):¬∀ t,ev p t=0:=λh0=>h.1 ((Dw (p:=p) (q:=[]) h0 n).trans (by simp))
theorem SU {p q:Up} (h:∀ k,p.getD k 0=0) (k:Nat):(G8 p q).getD k 0=0:=by
 have:=Dw (p:=G8 p q) (q:=[]) (λt=>by rw [Fh,D8 h t]; simp only [ev]; grind) k;rw [this]; simp
theorem DL:∀ {p q:Up} {m n:Nat},HD p m->HD q n->HD (G8 p q) (m+n)
 | [],q,m,n,h,_=>absurd (by simp) h.1
 |
  a::p,q,0,n,h,h'=>by
  have h1:∀ k,p.getD k 0=0:=λk=>by have:=h.2 (k+1) (by omega); rwa [Q4] at this
  have h2:∀ k,(G8 (a::p) q).getD k 0=a*q.getD k 0:=λk=>by
   simp only [G8];rw [Rl,Sp];cases k with
   | zero=>rw [Zt]; grind
   | succ k=>rw [Q4,SU h1]; grind
  have h3:=h.1;rw [Zt] at h3;refine ⟨?_,λk hk=>?_⟩
  ·rw [h2,Zy]; exact λh=>(Y3.1 h).elim h3 h'.1
  ·rw [h2,h'.2 k (by omega)]; grind
 |
  a::p,q,m+1,n,h,h'=>by
  have ih:=DL (p:=p) (q:=q) (m:=m) ⟨by have:=h.1; rwa [Q4] at this,λk hk=>by have:=h.2 (k+1) (by omega); rwa [Q4] at this⟩ h';refine ⟨?_,λk hk=>?_⟩
  ·simp only [G8];rw [Rl,Sp,show m+1+n=(m+n)+1 by omega,Q4,h'.2 _ (by omega)];have:=ih.1; grind
  ·obtain ⟨j,rfl⟩:∃ j,k=j+1:=⟨k-1,by omega⟩;simp only [G8];rw [Rl,Sp,Q4,h'.2 _ (by omega),ih.2 j (by omega)]; grind
def ZN (g f:Up):Prop:=∃ u,∀ t,ev f t=ev g t*ev u t
theorem dvd_refl (f:Up):ZN f f:=⟨[1],λt=>by rw [Tf]; grind⟩
theorem dvd_trans {f g h:Up}:ZN f g->ZN g h->ZN f h
 | ⟨u,hu⟩,⟨v,hv⟩=>⟨G8 u v,λt=>by rw [hv,hu,Fh]; grind⟩
theorem gY {p q:Up} (h:∀ t,ev p t*ev q t=0) (hp:¬∀ t,ev p t=0):∀ t,ev q t=0:=by
 rcases DD p with h1 | ⟨m,_,h1⟩
 ·exact absurd h1 hp
 ·rcases DD q with h2 | ⟨n,_,h2⟩
  ·exact h2
  ·exact absurd (λt=>by rw [Fh]; exact h t) (aF (DL h1 h2))
theorem mK {p q r:Up} (hp:¬∀ t,ev p t=0) (h:∀ t,ev p t*ev q t=ev p t*ev r t) (t:Rat):ev q t=ev r t:=by
 have:=gY (p:=p) (q:=Sv q (D3 (-1) r)) (λt=>by rw [G0,Gu]; have:=h t; grind) hp t;rw [G0,Gu] at this; grind
theorem Qgu {b:Up} {n:Nat} (hb:HD b n):∀ (l:Nat) (a:Up),(∀ k,l<=k->a.getD k 0=0)->∃ q r,(∀ t,ev a t=ev q t*ev b t+ev r t)/\∀ k,n<=k->r.getD k 0=0
 | 0,a,ha=>⟨[],a,λt=>by simp only [ev]; grind,λk _=>ha k (Qh _)⟩
 |
  l+1,a,ha=>by
  rcases Zb l n with h | h
  ·exact ⟨[],a,λt=>by simp only [ev]; grind,λk hk=>ha k (by omega)⟩
  ·-- the leading term is taken away
   obtain ⟨c,hc⟩:=nmE (a.getD l 0 / b.getD n 0);have hcb:c*b.getD n 0=a.getD l 0:=by rw [hc]; exact Zj hb.1
   obtain ⟨m,hm⟩:∃ m:Up,m=List.replicate (l-n) 0++[c]:=⟨_,rfl⟩;have hsh:∀ (i:Nat) (k:Nat),(G8 (List.replicate i 0++[c]) b).getD k 0=if i<=k then c*b.getD (k-i) 0 else 0:=λi=>by
    induction i with
    | zero=>intro k; simp only [Wj,Yj,G8]; rw [Rl,Sp]; cases k <;> simp <;> grind
    |
     succ i ih =>
     intro k;simp only [J4,Xb,G8];rw [Rl,Sp];cases k with
     | zero=>rw [Zt,if_neg (by omega)]; grind
     |
      succ k =>
      rw [Q4,ih k];by_cases h:i<=k
      ·rw [if_pos h,if_pos (by omega),Nat.add_sub_add_right]; grind
      ·rw [if_neg h,if_neg (by omega)]; grind
   obtain ⟨q,r,h1,h2⟩:=Qgu hb l (Sv a (D3 (-1) (G8 m b))) λk hk=>by
    rw [Rl,Sp,hm,hsh,if_pos (by omega)];rcases Vl hk with e | e
    ·rw [ha k (by omega),hb.2 _ (by omega)]; grind
    ·subst e; rw [show l-(l-n)=n by omega,hcb]; grind
   refine ⟨Sv q m,r,λt=>?_,h2⟩;have:=h1 t;rw [G0,Gu,Fh] at this;rw [G0]; grind
theorem nX:∀ (n:Nat) (a b:Up),(∀ k,n<=k->b.getD k 0=0)->∃ g U V,ZN g a/\ZN g b/\∀ t,ev g t=ev U t*ev a t+ev V t*ev b t
 |
  0,a,b,h=>by
  have h0:=D8 λk=>h k (Qh _)
  exact ⟨a,[1],[],dvd_refl a,⟨[],λt=>by rw [h0]; simp only [ev]; grind⟩,λt=>by rw [Tf]; simp only [ev]; grind⟩
 |
  n+1,a,b,h=>by
  rcases Classical.em (b.getD n 0=0) with e | e
  ·exact nX n a b λk hk=>by
    rcases Vl hk with e' | e'
    ·exact h k (by omega)
    ·rw [<-e']; exact e
  ·obtain ⟨q,r,h1,h2⟩:=Qgu (b:=b) (n:=n) ⟨e,λk hk=>h k (by omega)⟩ a.length a λk hk=>by rw [Qi,Qu hk]; rfl
   obtain ⟨g,U,V,⟨u,hu⟩,⟨v,hv⟩,hg⟩:=nX n b r h2;refine ⟨g,V,Sv U (D3 (-1) (G8 V q)),⟨Sv (G8 q u) v,λt=>?_⟩,⟨u,hu⟩,λt=>?_⟩
   ·rw [h1,hv,G0,Fh,hu]; grind
   ·rw [hg,G0,Gu,Fh,h1]; grind
theorem Qho (a b:Up):∃ g U V,ZN g a/\ZN g b/\∀ t,ev g t=ev U t*ev a t+ev V t*ev b t :=
 nX b.length a b λk hk=>by rw [Qi,Qu hk]; rfl
def Cop (a b:Up):Prop:=∃ U V,∀ t,ev U t*ev a t+ev V t*ev b t=1
theorem jJ {c d e:Up} (h:Cop c d) (h1:∃ u,∀ t,ev d t*ev e t=ev c t*ev u t):ZN c e:=by
 obtain ⟨U,V,h⟩:=h;obtain ⟨u,hu⟩:=h1;refine ⟨Sv (G8 U e) (G8 V u),λt=>?_⟩;rw [G0,Fh,Fh];have a1:=h t;have a2:=hu t;have:ev e t=(ev U t*ev c t+ev V t*ev d t)*ev e t:=by rw [a1]; grind
 rw [this];have:(ev U t*ev c t+ev V t*ev d t)*ev e t=ev U t*ev c t*ev e t+ev V t*(ev d t*ev e t):=by grind
 rw [this,a2]; grind
def ER (d:Up):Nat->Up
 | 0=>[1]
 | k+1=>G8 d (ER d k)
theorem cZ (d:Up) (t:Rat):∀ k:Nat,ev d t*dv (ER d k) t=(k:Rat)*(dv d t*ev (ER d k) t)
 | 0=>by simp only [ER,dv,ev]; rw [show ((0:Nat):Rat)=0 from rfl]; grind
 |
  k+1=>by
  have ih:=cZ d t k;have hn':(((k+1:Nat):Rat))=(k:Rat)+1:=by push_cast; rfl
  simp only [ER];rw [jU,Fh,hn']; grind
theorem Qjv {d:Up} {m:Nat} (h:HD d m):∀ k,HD (ER d k) (k*m)
 | 0=>by rw [Yl]; exact ⟨by simp [ER],λk hk=>by simp only [ER]; rw [Qi,Qu (by simp; omega)]; rfl⟩
 | k+1=>by rw [Xa,Ju (k*m) m]; exact DL h (Qjv h k)
theorem qI {d g:Up} {m n:Nat} (hd:HD d m) (hg:HD g n) (h:∀ k,ZN (ER d k) g):m=0:=by
 obtain ⟨u,hu⟩:=h (n+1);rcases DD u with h1 | ⟨j,_,h1⟩
 ·exact absurd (λt=>by rw [hu,h1]; grind) (aF hg)
 ·have:=Qr7 (Qr6 (λt=>by rw [hu,Fh]) hg) (DL (Qjv hd (n+1)) h1);rcases Q3 m with e | e
  ·exact e
  ·have:(n+1)*1<=(n+1)*m:=Zu _ e;omega
theorem sqf {a g q d U V:Up} {k:Rat} (hk:k≠0) (ha:∀ t,ev a t=ev g t*ev q t) (hg:∀ t,k*ev g t=ev U t*ev a t+ev V t*dv a t) (h1:ZN d q) (h2:ZN d (Bl q)):∀ n,ZN (ER d n) g
 | 0=>⟨g,λt=>by simp only [ER]; rw [Tf]; grind⟩
 |
  n+1=>by
  obtain ⟨g1,e1⟩:=sqf hk ha hg h1 h2 n;obtain ⟨q1,e2⟩:=h1;obtain ⟨q2,e3⟩:=h2;have d1:=λt=>QS ha t
  have d2:=λt=>QS e1 t
  have d3:=λt=>QS e2 t
  have d4:=cZ d;refine ⟨D3 (1 / k) (Sv (G8 U (G8 g1 q1)) (G8 V (Sv (G8 g1 q2) (Sv (D3 n (G8 g1 (Sv q2 (D3 (-1) (Bl q1))))) (G8 (Bl g1) q1))))),λt=>?_⟩;have hkk:1 / k*k=1:=Zj hk;simp only [ER,Gu,G0,Fh,Tr];have b1:=ha t; have b2:=hg t; have b3:=e1 t; have b4:=e2 t; have b5:=e3 t;have b6:=d1 t; have b7:=d2 t; have b8:=d3 t; have b9:=d4 t n;rw [Tr] at b5;generalize ev d t=x0 at *;generalize ev (ER d n) t=x1 at *;generalize ev g t=x2 at *;generalize ev q t=x3 at *;generalize ev a t=x4 at *;generalize dv a t=x5 at *;generalize dv g t=x6 at *;generalize dv q t=x7 at *;generalize ev g1 t=x8 at *;generalize dv g1 t=x9 at *;generalize ev q1 t=y0 at *;generalize dv q1 t=y1 at *;generalize ev q2 t=y2 at *;generalize dv d t=y3 at *;generalize dv (ER d n) t=y4 at *;generalize ev U t=y5 at *;generalize ev V t=y6 at *;generalize (n:Rat)=y7 at *;have:x2=1 / k*(k*x2):=by grind
  rw [this,b2];have c1:x5=x0*x1*(x8*y2+(y7*(x8*(y2+-1*y1))+x9*y0)):=by
   rw [b6,b7,b4,b3];have:y3*y0=x0*y2-x0*y1:=by grind
   have:x0*y4*(x8*y0)=y7*(x1*x8*(x0*y2-x0*y1)):=by rw [b9,<-this]; grind
   grind
  have c2:x4=x0*x1*(x8*y0):=by rw [b1,b3,b4]; grind
  rw [c1,c2]; grind
theorem Qn2 {a b c:Up} (h1:Cop a b) (h2:Cop a c) {d:Up} (hd:∀ t,ev d t=ev b t*ev c t):Cop a d:=by
 obtain ⟨U,V,h1⟩:=h1;obtain ⟨X,Y,h2⟩:=h2;refine ⟨Sv U (G8 (G8 V b) X),G8 V Y,λt=>?_⟩;have a1:=h1 t;have a2:=h2 t;simp only [G0,Fh,hd];have:ev V t*ev b t*(ev X t*ev a t+ev Y t*ev c t)=ev V t*ev b t:=by rw [a2]; grind
 grind
theorem Qqn {a g q z r X Y:Up} {n:Nat} (ha:∀ t,ev a t=ev g t*ev q t) (hz:∀ t,dv a t=ev g t*ev z t) (hg:HD g n) (hr:∀ t,ev X t*ev r t+ev Y t*dv r t=1) (h:ZN r a):ZN r q:=by
 obtain ⟨b,hb⟩:=h;obtain ⟨e,U,V,⟨r1,e1⟩,⟨q3,e2⟩,e3⟩:=Qho r q;have hr0:¬∀ t,ev r t=0:=λh=>by
  have h1:=hr 0;have h2:dv r 0=0:=by have:=Qgz (p:=r) (q:=[]) h 0; rw [this]; rfl
  rw [h,h2] at h1; grind
 have he0:¬∀ t,ev e t=0:=λh=>hr0 λt=>by rw [e1,h]; grind
 have d1:=λt=>QS e1 t
 have c1:Cop r1 q3:=⟨U,V,λt=>by
  have:=mK (p:=e) (q:=Sv (G8 U r1) (G8 V q3)) (r:=[1]) he0 (λt=>by
   rw [G0,Fh,Fh,Tf];have a1:=e1 t; have a2:=e2 t; have a3:=e3 t;rw [a1,a2] at a3; grind) t
  rw [G0,Fh,Fh,Tf] at this; exact this⟩
 have c2:Cop r1 e:=⟨Sv (G8 X e) (G8 Y (Bl e)),G8 Y (Bl r1),λt=>by
  have a1:=hr t; have a2:=e1 t; have a3:=d1 t;simp only [G0,Fh,Tr];rw [a2,a3] at a1; grind⟩
 have c3:Cop r1 (Bl r1):=⟨Sv (G8 X e) (G8 Y (Bl e)),G8 Y e,λt=>by
  have a1:=hr t; have a2:=e1 t; have a3:=d1 t;simp only [G0,Fh,Tr];rw [a2,a3] at a1; grind⟩
 have c4:Cop r1 q:=Qn2 c2 c1 e2;have hgz:=aF hg;have hp:∀ k,ZN (ER r1 k) g:=λk=>by
  induction k with
  | zero=>exact ⟨g,λt=>by simp only [ER]; rw [Tf]; grind⟩
  |
   succ k ih =>
   obtain ⟨h,eh⟩:=ih;have hpz:¬∀ t,ev (ER r1 k) t=0:=λh0=>hgz λt=>by rw [eh,h0]; grind
   have key:ZN r1 h:=by
    cases k with
    |
     zero =>
     refine jJ c4 ⟨G8 e b,λt=>?_⟩;have a1:=ha t; have a2:=hb t; have a3:=e1 t; have a4:=eh t;simp only [ER] at a4;rw [Tf] at a4;rw [Fh]; grind
    |
     succ k =>
     have hn:((k+1:Nat):Rat)≠0:=by
      have:(0:Rat)<((k+1:Nat):Rat):=by
       have h1:((0:Nat):Rat)<((k+1:Nat):Rat):=Vo.2 (by omega);simpa using h1
      grind
     have d2:=λt=>QS (f:=a) (w:=ER r1 (k+1)) (u:=G8 h q) (λt=>by rw [ha,eh,Fh]; grind) t
     have d4:=cZ r1;have h3:=mK (p:=ER r1 (k+1)) (q:=G8 (Bl r1) (G8 h q)) (r:=G8 r1 (D3 (1 / ((k+1:Nat):Rat)) (Sv (G8 h z) (D3 (-1) (Bl (G8 h q)))))) hpz λt=>by
      simp only [Fh,Gu,G0,Tr];have a1:=d2 t; have a2:=d4 t (k+1); have a3:=hz t; have a4:=eh t;rw [Fh] at a1;generalize ((k+1:Nat):Rat)=c at *;have hc:1 / c*c=1:=Zj hn;generalize ev (ER r1 (k+1)) t=x0 at *;generalize dv (ER r1 (k+1)) t=x1 at *;generalize dv (G8 h q) t=x2 at *;generalize ev r1 t=x3 at *;generalize dv r1 t=x4 at *;generalize ev h t=x5 at *;generalize ev q t=x6 at *;generalize ev z t=x7 at *;generalize dv a t=x8 at *;generalize ev g t=x9 at *;generalize 1 / c=c' at *;have s1:x0*(x4*(x5*x6))=c'*(c*(x4*x0))*(x5*x6):=by
       have:c'*(c*(x4*x0))=(c'*c)*(x4*x0):=by grind
       rw [this,hc]; grind
      rw [s1,<-a2];have s2:x3*(x1*(x5*x6))=x3*(x0*(x5*x7+-1*x2)):=by
       rw [a3,a4] at a1; grind
      grind
     refine jJ c4 ?_;obtain ⟨u,hu⟩:=jJ (e:=G8 q h) c3 ⟨D3 (1 / ((k+1:Nat):Rat)) (Sv (G8 h z) (D3 (-1) (Bl (G8 h q)))),λt=>by
      have:=h3 t;simp only [Fh] at this ⊢;rw [<-this]; grind⟩
     exact ⟨u,λt=>by rw [<-hu,Fh]⟩
   obtain ⟨u,hu⟩:=key;exact ⟨u,λt=>by simp only [ER]; rw [Fh,eh,hu]; grind⟩
 rcases DD r1 with h1 | ⟨m,_,h1⟩
 ·exact absurd (λt=>by rw [e1,h1]; grind) hr0
 ·obtain rfl:=qI h1 hg hp;have h2:∀ t,ev r1 t=r1.getD 0 0:=λt=>by
   cases r1 with
   | nil=>simp [ev]
   |
    cons c l =>
    have:∀ t,ev l t=0:=D8 λk=>by have:=h1.2 (k+1) (by omega); rwa [Q4] at this
    simp only [ev,this,Zt]; grind
  have h3:=h1.1;refine ⟨D3 (1 / r1.getD 0 0) q3,λt=>?_⟩;rw [e2,e1,h2,Gu];have:1 / r1.getD 0 0*r1.getD 0 0=1:=Zj h3;have:ev e t*r1.getD 0 0*(1 / r1.getD 0 0*ev q3 t)=ev e t*ev q3 t*(1 / r1.getD 0 0*r1.getD 0 0):=by grind
  rw [this,Zj h3]; grind
def On:Uq->Up
 | []=>[1]
 | w::l=>G8 w (On l)
def Lay:Uq->Uq->Prop
 | [],[]=>True
 | [w],[f]=>∀ t,ev w t=ev f t
 | w::v::l,f::fs=>(∀ t,ev w t=ev f t*ev v t)/\Lay (v::l) fs
 | _,_=>False
def PN:Uq->Up
 | []=>[1]
 | [f]=>f
 | f::_::l=>G8 f (PN l)
theorem aD:∀ {ws fs:Uq},Lay ws fs->∃ S,∀ t,ev (On ws) t=ev (PN fs) t*(ev S t*ev S t)
 | [],[],_=>⟨[1],λt=>by simp only [On,PN]; rw [Tf]; grind⟩
 | [w],[f],h=>⟨[1],λt=>by simp only [On,PN]; rw [Fh,Tf,h t]; grind⟩
 |
  [w,v],[f,f2],h=>⟨v,λt=>by
  have h1:=h.1 t;have h2:ev v t=ev f2 t:=h.2 t;simp only [On,PN,Fh]; rw [Tf,h1]; grind⟩
 |
  w::v::x::l,f::f2::fs,h=>by
  obtain ⟨S,hS⟩:=aD h.2.2;refine ⟨G8 v S,λt=>?_⟩;have h1:=h.1 t;have h2:=hS t;have e1:ev (On (w::v::x::l)) t=ev w t*(ev v t*ev (On (x::l)) t):=by simp only [On,Fh]
  rw [e1,h2,h1];have e2:ev (PN (f::f2::fs)) t=ev f t*ev (PN fs) t:=by
   cases fs with
   | nil=>cases l <;> exact False.elim h.2.2
   | cons y l=>simp only [PN,Fh]
  rw [e2,Fh]; grind
 | [w],[],h=>h.elim
 | [w],_::_::_,h=>h.elim
 | [],_::_,h=>h.elim
 | [w,v],[f],h=>h.2.elim
 | [w,v],_::_::_::_,h=>h.2.elim
 | w::v::x::l,[f],h=>h.2.elim
 | w::v::l,[],h=>h.elim
end Orq
namespace Orq
open Orr Go
theorem bU (p:Um) (t:Rat):U9 p t=((p.getD 0 0:Int):Rat)+t*U9 p.tail t:=by
 cases p with
 | nil=>show (0:Rat)=((0:Int):Rat)+t*0; grind
 | cons a p=>rfl
theorem RY (p:Um) (k:Nat):p.tail.getD k 0=p.getD (k+1) 0:=by
 cases p <;> simp
theorem Cn (c d:Int) (t:Rat):∀ (n:Nat) (p q r:Um),p.length<=n->q.length<=n->r.length<=n->(∀ k,r.getD k 0=c*p.getD k 0+d*q.getD k 0)->U9 r t=(c:Rat)*U9 p t+(d:Rat)*U9 q t
 |
  0,p,q,r,hp,hq,hr,_=>by
  rw [Qj (Nat.le_zero.1 hp),Qj (Nat.le_zero.1 hq),Qj (Nat.le_zero.1 hr)];show (0:Rat)=_*0+_*0;grind
 |
  n+1,p,q,r,hp,hq,hr,h=>by
  have ih:=Cn c d t n p.tail q.tail r.tail (by rw [Wz]; omega) (by rw [Wz]; omega) (by rw [Wz]; omega) λk=>by
   rw [RY,RY,RY]; exact h (k+1)
  rw [bU p,bU q,bU r,ih,h 0]
  push_cast
  grind
theorem iE {p q:Um} (h:∀ k,p.getD k 0=q.getD k 0) (t:Rat):U9 p t=U9 q t:=by
 have:=Cn 1 0 t (max p.length q.length) q q p (W3 ..) (W3 ..) (Nat.le_max_left ..) λk=>by rw [h k]; omega
 rw [this]
 push_cast
 grind
theorem Ot (p:Um) (t:Rat):U9 (trim p) t=U9 p t:=iE (VK p) t
theorem Bb {p:Um} {k:Nat} (h:p.length<=k):p.getD k 0=0:=by
 rw [Qi,Qu h]; rfl
theorem qB (p q:Um) (k:Nat):(A4 p q).getD k 0=p.getD k 0+q.getD k 0:=by
 unfold A4;rw [Pd]
 split
 ·rfl
 ·rename_i h; rw [Bb (p:=p) (by omega),Bb (p:=q) (by omega)]; rfl
theorem O2 (p q:Um) (k:Nat):(M4 p q).getD k 0=p.getD k 0-q.getD k 0:=by
 unfold M4;rw [Pd]
 split
 ·rfl
 ·rename_i h; rw [Bb (p:=p) (by omega),Bb (p:=q) (by omega)]; rfl
theorem Md (p:Um) (c:Int) (k:Nat):(Fv p c).getD k 0=p.getD k 0*c:=by
 unfold Fv;rw [Pd]
 split
 ·rfl
 ·rename_i h; rw [Bb (p:=p) (by omega),Int.zero_mul]
theorem Qcy (p:Um) (k:Nat):(Mq p).getD k 0=-(p.getD k 0):=by
 unfold Mq;rw [Pd]
 split
 ·rfl
 ·rename_i h; rw [Bb (p:=p) (by omega)]; rfl
theorem Bv (p:Um) (k:Nat):(Gx p).getD k 0=p.getD (k+1) 0*((k+1:Nat):Int):=by
 unfold Gx;rw [Pd]
 split
 ·rfl
 ·rename_i h; rw [Bb (p:=p) (by omega),Int.zero_mul]
theorem LO (p q:Um) (t:Rat):U9 (A4 p q) t=U9 p t+U9 q t:=by
 have:=Cn 1 1 t (max (max p.length q.length) (A4 p q).length) p q (A4 p q) (by omega) (by omega) (by omega) λk=>by rw [qB]; omega
 rw [this]; push_cast; grind
theorem Nh (p q:Um) (t:Rat):U9 (M4 p q) t=U9 p t-U9 q t:=by
 have:=Cn 1 (-1) t (max (max p.length q.length) (M4 p q).length) p q (M4 p q) (by omega) (by omega) (by omega) λk=>by rw [O2]; omega
 rw [this]; push_cast; grind
theorem FD (p:Um) (t:Rat):U9 (Mq p) t=-U9 p t:=by
 have:=Cn (-1) 0 t (max p.length (Mq p).length) p p (Mq p) (by omega) (by omega) (by omega) λk=>by rw [Qcy]; omega
 rw [this]; push_cast; grind
theorem Rm (p:Um) (c:Int) (t:Rat):U9 (Fv p c) t=U9 p t*(c:Rat):=by
 have:=Cn c 0 t (max p.length (Fv p c).length) p p (Fv p c) (by omega) (by omega) (by omega) λk=>by rw [Md,K8]; omega
 rw [this]; push_cast; grind
theorem yC:∀ (l:Um) (j:Nat) (v:Int) (t:Rat),j<l.length->U9 (l.set j v) t=U9 l t+((v:Rat)-((l.getD j 0:Int):Rat))*t^j
 | [],_,_,_,h=>by simp at h
 |
  a::l,0,v,t,_=>by
  show (v:Rat)+t*U9 l t=(a:Rat)+t*U9 l t+((v:Rat)-(a:Rat))*t^0;rw [Xg]; grind
 |
  a::l,j+1,v,t,h=>by
  have ih:=yC l j v t (by simpa using h);show (a:Rat)+t*U9 (l.set j v) t=(a:Rat)+t*U9 l t+((v:Rat)-((l.getD j 0:Int):Rat))*t^(j+1);rw [ih,Z7]; grind
theorem EQ:∀ (l:Um) (k:Nat) (t:Rat),k<l.length->U9 (l.take (k+1)) t=U9 (l.take k) t+((l.getD k 0:Int):Rat)*t^k
 | [],_,_,h=>by simp at h
 |
  a::l,0,t,_=>by
  show (a:Rat)+t*U9 (l.take 0) t=0+(a:Rat)*t^0;rw [Xg,Vu];show (a:Rat)+t*0=_;grind
 |
  a::l,k+1,t,h=>by
  have ih:=EQ l k t (by simpa using h);show (a:Rat)+t*U9 (l.take (k+1)) t=(a:Rat)+t*U9 (l.take k) t+((l.getD k 0:Int):Rat)*t^(k+1);rw [ih,Z7]; grind
theorem qL (n:Nat) (t:Rat):U9 (List.replicate n 0) t=0:=by
 induction n with
 | zero=>rfl
 |
  succ n ih =>
  show ((0:Int):Rat)+t*U9 (List.replicate n 0) t=0;rw [ih]; push_cast; grind
theorem tY (t:Rat) (i:Nat):∀ k,t^(i+k)=t^i*t^k
 | 0=>by rw [Xl,Xg]; grind
 | k+1=>by rw [<-Yp,Z7,Z7,tY t i k]; grind
theorem rV (x:Int) (b:Um) (i:Nat) (o:Um) (t:Rat):∀ k,k<=b.length->i+k<=o.length->U9 (Oi x b i o k) t=U9 o t+(x:Rat)*t^i*U9 (b.take k) t
 |
  0,_,_=>by
  show U9 o t=U9 o t+(x:Rat)*t^i*0;grind
 |
  k+1,h1,h2=>by
  have ih:=rV x b i o t k (by omega) (by omega);simp only [Oi];rw [yC _ _ _ _ (by rw [Oj]; omega),ih,EQ b k t (by omega)];have hp:t^(i+k)=t^i*t^k:=tY t i k;rw [hp]
  push_cast
  grind
theorem rY (a b o:Um) (t:Rat):∀ i,i<=a.length->i+b.length<=o.length+1->U9 (Ar a b o i) t=U9 o t+U9 (a.take i) t*U9 b t
 |
  0,_,_=>by
  show U9 o t=U9 o t+0*U9 b t;grind
 |
  i+1,h1,h2=>by
  have ih:=rY a b o t i (by omega) (by omega);simp only [Ar];rw [rV _ _ _ _ _ b.length (Ql _) (by rw [Ld]; omega),ih,EQ a i t (by omega),Q6];grind
theorem Gk (a b:Um) (t:Rat):U9 (Gl a b) t=U9 a t*U9 b t:=by
 unfold Gl
 split
 ·rename_i h;rcases h with h | h
  ·rw [Qj h]; show (0:Rat)=0*_; grind
  ·rw [Qj h]; show (0:Rat)=_*0; grind
 ·rename_i h;rw [Ot,rY a b _ t a.length (Ql _) (by rw [Jd]; omega),qL,Q6];grind
theorem Ra (z d:Int):(z:Rat) / (d:Rat)=Rat.divInt z d:=by
 by_cases h:d=0
 ·subst h; simp; grind
 ·rw [J6]; exact (Rat.divInt_eq_div z d ▸ by rw [J6])
theorem Qam (a:Um) (n d:Int) (hd:(d:Rat)≠0):∀ k,k<=a.length->(((Ea a n d k).2:Int):Rat)=(d:Rat)^k/\(((Ea a n d k).1:Int):Rat)*d=(d:Rat)^k*U9 (a.drop (a.length-k)) ((n:Rat) / d)
 |
  0,_=>by
  refine ⟨by rw [Xg]; rfl,?_⟩;rw [W5,Yt];show ((0:Int):Rat)*d=(d:Rat)^0*0
  push_cast; grind
 |
  k+1,hk=>by
  obtain ⟨h1,h2⟩:=Qam a n d hd k (by omega);have hi:a.length-1-k<a.length:=by omega
  have e1:a.drop (a.length-(k+1))=a.getD (a.length-1-k) 0::a.drop (a.length-k):=by
   rw [show a.length-(k+1)=a.length-1-k by omega,Zp hi,show a.length-1-k+1=a.length-k by omega];congr 1;rw [Qi,Qe hi]; rfl
  refine ⟨?_,?_⟩
  ·show (((Ea a n d k).2*d:Int):Rat)=_;rw [Xz,h1,Z7]
  ·rw [e1];show (((Ea a n d k).1*n+a.getD (a.length-1-k) 0*(Ea a n d k).2:Int):Rat)*d=_*(((a.getD (a.length-1-k) 0:Int):Rat)+(n:Rat) / d*U9 (a.drop (a.length-k)) ((n:Rat) / d));rw [Kc,Xz,Xz,h1,Z7];have h3:(n:Rat) / d*d=n:=by rw [Zj hd]
   have h4:(d:Rat)^k*d*((n:Rat) / d*U9 (a.drop (a.length-k)) ((n:Rat) / d))=((n:Rat) / d*d)*((d:Rat)^k*U9 (a.drop (a.length-k)) ((n:Rat) / d)):=by grind
   have h5:(d:Rat)^k*d*(((a.getD (a.length-1-k) 0:Int):Rat)+(n:Rat) / d*U9 (a.drop (a.length-k)) ((n:Rat) / d))=(d:Rat)^k*d*((a.getD (a.length-1-k) 0:Int):Rat)+(d:Rat)^k*d*((n:Rat) / d*U9 (a.drop (a.length-k)) ((n:Rat) / d)):=by grind
   rw [h5,h4,h3,<-h2];grind
theorem oJ {d:Rat} (h:0<d):∀ k:Nat,0<d^k
 | 0=>by rw [Xg]; decide
 | k+1=>by rw [Z7]; exact Xq (oJ h k) h
theorem Cx {x y:Rat} (h:0<y):Fg (y*x)=Fg x:=by
 unfold Fg;have h1:y*x<0↔x<0:=by
  constructor
  ·intro h2;rcases Vw (a:=0) (b:=x) with h3 | h3
   ·have:=Vx (Qt h) h3; grind
   ·rcases Rat.le_iff_lt_or_eq.1 h3 with h4 | h4
    ·exact h4
    ·rw [h4] at h2; grind
  ·intro h2;have:=Xq h (show 0 < -x by grind);grind
 have h2:0<y*x↔0<x:=by
  constructor
  ·intro h2;rcases Vw (a:=x) (b:=0) with h3 | h3
   ·have:=Vx (Qt h) (show 0<=-x by grind); grind
   ·rcases Rat.le_iff_lt_or_eq.1 h3 with h4 | h4
    ·exact h4
    ·rw [<-h4] at h2; grind
  ·intro h2; exact Xq h h2
 simp only [h1,h2]
theorem Qgj (z:Int):D7 z 0=Fg (z:Rat):=by
 unfold D7 Fg;have h1:((z:Int):Rat)<0↔z<0:=by
  have := @Rat.intCast_lt_intCast z 0; simpa using this
 have h2:0<((z:Int):Rat)↔0<z:=by
  have := @Rat.intCast_lt_intCast 0 z; simpa using this
 simp only [h1,h2]
theorem Nk (p:Um) (q:Rat):Re p q=Fg (U9 p q):=by
 have hd0:(0:Rat)<((q.den:Int):Rat):=by
  have := @Rat.intCast_lt_intCast 0 (q.den:Int);rw [show ((0:Int):Rat)=0 from rfl] at this;exact this.2 (den_pos q)
 have hd:((q.den:Int):Rat)≠0:=by intro h; rw [h] at hd0; exact absurd hd0 (by decide)
 obtain ⟨_,h⟩:=Qam p q.num q.den hd p.length (Ql _);rw [Ki,Xx,Ra,Z5] at h;unfold Re;rw [Qgj,<-Cx hd0,W7];show Fg ((((Ea p q.num q.den p.length).1:Int):Rat)*_)=_;rw [h,Cx (oJ hd0 _)]
def cz (p:Um):Up:=p.map λz:Int=>(z:Rat)
theorem Fa (t:Rat):∀ p,ev (cz p) t=U9 p t
 | []=>rfl
 | a::p=>by have:=Fa t p; simp only [cz,Zz,ev,U9] at *; rw [this]
theorem Mm:∀ (p:Um) (k:Nat),(cz p).getD k 0=((p.getD k 0:Int):Rat)
 | [],k=>by simp [cz]
 | a::p,0=>by simp [cz]
 | a::p,k+1=>by have:=Mm p k; simp only [cz,Zz,Q4] at *; exact this
theorem Lm {p q:Um} (h:∀ t,U9 p t=U9 q t) (k:Nat):p.getD k 0=q.getD k 0:=by
 have:=Dw (p:=cz p) (q:=cz q) (λt=>by rw [Fa,Fa,h]) k;rw [Mm,Mm] at this
 exact_mod_cast this
theorem Qqv {p q:Um} (hp:Ff p) (hq:Ff q) (h:∀ k,p.getD k 0=q.getD k 0):p=q:=by
 have key:∀ {p q:Um},Ff p->Ff q->(∀ k,p.getD k 0=q.getD k 0)->p.length<=q.length:=λ{p q} hp hq h=>by
  rcases Zb q.length p.length with e | e
  ·have:=H9 hp (by omega);rw [h,Qi,Qu (by omega)] at this;exact absurd rfl this
  ·exact e
 exact CO (Kb (key hp hq h) (key hq hp λk=>(h k).symm)) λj _=>h j
theorem iI {p q:Um} (hp:Ff p) (hq:Ff q) (h:∀ t,U9 p t=U9 q t):p=q:=Qqv hp hq (Lm h)
theorem Qpl {p:Um} (hp:Ff p) (h:∀ t,U9 p t=0):p=[]:=iI hp rfl λt=>by rw [h]; rfl
theorem Dz {p:Um} (h:p.length=0) (t:Rat):U9 p t=0:=by rw [Qj h]; rfl
theorem iL:∀ (p r:Um) (t:Rat),(∀ k,r.getD k 0=p.getD (k+1) 0*((k+1:Nat):Int))->U9 r t=dv (cz p) t
 |
  [],r,t,h=>by
  rw [iE (q:=[]) (λk=>by rw [h]; simp) t]; rfl
 |
  a::p,r,t,h=>by
  have ih:=iL p (Gx p) t λk=>Bv p k
  have e:U9 r t=U9 p t+t*U9 (Gx p) t:=by
   have:=Cn 1 1 t (max (max p.length (0::Gx p).length) r.length) p (0::Gx p) r (by omega) (by omega) (by omega) λk=>by
    rw [h,Q4];cases k with
    | zero=>simp
    | succ k=>rw [Q4,Bv]; push_cast; grind
   rw [this]; simp only [U9]; push_cast; grind
  rw [e,ih];show _=ev (cz p) t+t*dv (cz p) t;rw [Fa]
theorem Oq (p:Um) (t:Rat):U9 (Gx p) t=dv (cz p) t:=iL p _ t λk=>Bv p k
theorem SK {p:Um} (hp:Ff p) (h:0<p.length):HD (cz p) (p.length-1):=by
 refine ⟨?_,λk hk=>?_⟩
 ·rw [Mm];have:=H9 hp h;exact λe=>this (by exact_mod_cast e)
 ·rw [Mm,Qi,Qu (by omega)]; rfl
theorem SZ {p:Um} (hp:Ff p) (h:0<p.length):¬∀ t,U9 p t=0:=λh0=>by
 rw [Qpl hp h0] at h; exact absurd h (by simp)
theorem Mp {a b c:Um} (ha:Ff a) (hb:Ff b) (hc:Ff c) (h:∀ t,U9 c t=U9 a t*U9 b t) (la:0<a.length) (lb:0<b.length):c.length=a.length+b.length-1:=by
 have h1:=DL (SK ha la) (SK hb lb);have h2:HD (cz c) (a.length-1+(b.length-1)):=Qr6 (λt=>by rw [Fh,Fa,Fa,Fa,h]) h1;have lc:0<c.length:=by
  rcases Q3 c.length with e | e
  ·exact absurd (λt=>by rw [Fa]; exact Dz e t) (aF h2)
  ·exact e
 have:=Qr7 (SK hc lc) h2;omega
theorem rR:∀ (n m:Nat),m<=n->2<=m->∃ P,2<=P/\P∣m/\∀ d,2<=d->d∣P->d=P
 | 0,m,h,h2=>by omega
 |
  n+1,m,h,h2=>by
  rcases Classical.em (∃ d,2<=d/\d<m/\d∣m) with ⟨d,d1,d2,d3⟩ | h0
  ·obtain ⟨P,p1,p2,p3⟩:=rR n d (by omega) d1;exact ⟨P,p1,Nat.dvd_trans p2 d3,p3⟩
  ·refine ⟨m,h2,Nat.dvd_refl m,λd d1 d2=>?_⟩;rcases Vl (Kv (by omega) d2) with e | e
   ·exact absurd ⟨d,d1,e,d2⟩ h0
   ·exact e
theorem jR {P:Nat} (h2:2<=P) (hP:∀ d,2<=d->d∣P->d=P) {x y:Int} (h:(P:Int)∣x*y):(P:Int)∣x\/(P:Int)∣y:=by
 have h:=X2.2 h;rw [J9,Xh] at h;have hg:=W0 P x.natAbs;rcases Zb (Nat.gcd P x.natAbs) 2 with e | e
 ·right;have h1:Nat.gcd P x.natAbs=1:=by
   have:=Nat.gcd_pos_of_pos_left x.natAbs (show 0<P by omega); omega
  have:=Nat.Coprime.dvd_of_dvd_mul_left h1 h;exact X2.1 (by rwa [Xh])
 ·left;have:=hP _ e hg;have h3:=Nat.gcd_dvd_right P x.natAbs;rw [this] at h3;exact X2.1 (by rwa [Xh])
def sC (P:Int) (l:Um):Prop:=∀ k,P∣l.getD k 0
theorem HY {P:Nat} (h2:2<=P) (hP:∀ d,2<=d->d∣P->d=P):∀ (n:Nat) (b h c:Um),b.length+h.length<=n->(∀ t,U9 c t=U9 b t*U9 h t)->sC P c->sC P b\/sC P h
 | _,[],h,c,_,_,_=>.inl λk=>by simp
 | _,x::b,[],c,_,_,_=>.inr λk=>by simp
 | 0,x::b,y::h,c,hn,_,_=>by simp at hn
 |
  n+1,x::b,y::h,c,hn,hc,hd=>by
  simp only [Q5] at hn;by_cases hx:(P:Int)∣x
  ·-- x h is taken away
   have e:∀ t,U9 (0::Gl b (y::h)) t=U9 (M4 c (Fv (y::h) x)) t:=λt=>by
    rw [Nh,Rm,hc]; simp only [U9]; rw [Gk]; simp only [U9]; push_cast; grind
   have hd':sC P (Gl b (y::h)):=λk=>by
    have:=Lm e (k+1);rw [Q4,O2,Md] at this;rw [this];exact Int.dvd_sub (hd (k+1)) (V5 hx (Y9 _ _))
   rcases HY h2 hP n b (y::h) _ (by simp only [Q5]; omega) (λt=>Gk _ _ t) hd' with h1 | h1
   ·refine .inl λk=>?_
    cases k with
    | zero=>rw [Zt]; exact hx
    | succ k=>rw [Q4]; exact h1 k
   ·exact .inr h1
  ·have h0:(P:Int)∣y:=by
    have e:c.getD 0 0=x*y:=by
     have:=Lm (p:=c) (q:=Gl (x::b) (y::h)) (λt=>by rw [hc,Gk]) 0;have e2:=Lm (p:=Gl (x::b) (y::h)) (q:=A4 (Fv (y::h) x) (0::Gl b (y::h))) (λt=>by
      rw [LO,Rm,Gk]; simp only [U9]; rw [Gk]; simp only [U9]; push_cast; grind) 0
     rw [this,e2,qB,Md,Zt,Zt,K8]; omega
    have:=hd 0;rw [e] at this;rcases jR h2 hP this with h1 | h1
    ·exact absurd h1 hx
    ·exact h1
   have e:∀ t,U9 (0::Gl (x::b) h) t=U9 (M4 c (Fv (x::b) y)) t:=λt=>by
    rw [Nh,Rm,hc]; simp only [U9]; rw [Gk]; simp only [U9]; push_cast; grind
   have hd':sC P (Gl (x::b) h):=λk=>by
    have:=Lm e (k+1);rw [Q4,O2,Md] at this;rw [this];exact Int.dvd_sub (hd (k+1)) (V5 h0 (Y9 _ _))
   rcases HY h2 hP n (x::b) h _ (by simp only [Q5]; omega) (λt=>Gk _ _ t) hd' with h1 | h1
   ·exact absurd (by have:=h1 0; rwa [Zt] at this) hx
   ·refine .inr λk=>?_
    cases k with
    | zero=>rw [Zt]; exact h0
    | succ k=>rw [Q4]; exact h1 k
def Prm (b:Um):Prop:=∀ d:Int,sC d b->d∣1
theorem Qhj {a b:Um} (hb:Prm b):∀ (n:Nat) (c:Int) (h:Um),c.natAbs<=n->c≠0->(∀ t,(c:Rat)*U9 a t=U9 b t*U9 h t)->∃ h',∀ t,U9 a t=U9 b t*U9 h' t
 | 0,c,h,hn,h0,_=>absurd (by omega) h0
 |
  n+1,c,h,hn,h0,hc=>by
  rcases Zb c.natAbs 2 with h1 | h1
  ·refine ⟨Fv h c,λt=>?_⟩;have hcc:(c:Rat)*c=1:=by
    have:c*c=1:=by
     rcases (show c=1\/c=-1 by omega) with rfl | rfl <;> rfl
    have:=congrArg (λz:Int=>(z:Rat)) this
    push_cast at this; exact this
   rw [Rm];have:=hc t;have:U9 a t=(c:Rat)*((c:Rat)*U9 a t):=by
    have:(c:Rat)*((c:Rat)*U9 a t)=((c:Rat)*c)*U9 a t:=by grind
    rw [this,hcc]; grind
   rw [this,hc]; grind
  ·obtain ⟨P,p1,p2,p3⟩:=rR c.natAbs c.natAbs (Ql _) h1;obtain ⟨d,hd⟩:∃ d,c=(P:Int)*d:=Wp.2 p2;have hall:sC P (Fv a c):=λk=>by
    rw [Md,hd]; exact V5 (Int.dvd_mul_right _ _) (Y9 _ _)
   have hP0:(P:Rat)≠0:=by
    have:((0:Nat):Rat)<(P:Rat):=Vo.2 (by omega);grind
   rcases HY p1 p3 _ b h (Fv a c) (Ql _) (λt=>by rw [Rm,W7,hc]) hall with e | e
   ·have:=hb P e;have:=X2.2 this;rw [Xh] at this;have:=Kv (by decide) this;exact absurd this (by show ¬P<=1; omega)
   ·refine Qhj hb n d (h.map (· / (P:Int))) ?_ (λe0=>h0 (by rw [hd,e0,Wa])) λt=>?_
    ·rw [hd,J9,Xh] at hn h1;have:2*d.natAbs<=P*d.natAbs:=Q0 _ p1;omega
    ·have e1:U9 h t=(P:Rat)*U9 (h.map (· / (P:Int))) t:=by
      have:=Cn P 0 t (max h.length (h.map (· / (P:Int))).length) (h.map (· / (P:Int))) [] h (by omega) (by simp) (by omega) λk=>by
       have:=e k;have e2:(h.map (· / (P:Int))).getD k 0=h.getD k 0 / (P:Int):=by
        rw [Qi,Qi,Q9];cases h[k]? <;> simp
       rw [e2,K9 this]; simp
      rw [this]; simp only [U9]; push_cast; grind
     have:=hc t;rw [hd,e1] at this
     push_cast at this
     have h3:(P:Rat)*((d:Rat)*U9 a t)=(P:Rat)*(U9 b t*U9 (h.map (· / (P:Int))) t):=by grind
     have h4:=Y3.1 (show (P:Rat)*((d:Rat)*U9 a t-U9 b t*U9 (h.map (· / (P:Int))) t)=0 by grind);rcases h4 with h4 | h4
     ·exact absurd h4 hP0
     ·grind
theorem IA:∀ u:Up,∃ c:Int,c≠0/\∃ h:Um,∀ t,(c:Rat)*ev u t=U9 h t
 | []=>⟨1,by decide,[],λt=>by simp only [ev,U9]; grind⟩
 |
  a::u=>by
  obtain ⟨c,hc,h,hh⟩:=IA u;refine ⟨c*(a.den:Int),Jf hc (by have:=a.den_nz; omega),(c*a.num)::Fv h (a.den:Int),λt=>?_⟩;have e:(a.den:Rat)*a=a.num:=by
   rw [W7];have:(a.num:Rat) / (((a.den:Int)):Rat)=a:=by rw [Ra,Z5]
   have hd:(a.den:Rat)≠0:=by
    have:((0:Nat):Rat)<(a.den:Rat):=Vo.2 a.den_pos;grind
   have h2:(a.num:Rat) / (a.den:Rat)*(a.den:Rat)=a.num:=Zj hd;rw [show (a.num:Rat) / (a.den:Rat)=a from this] at h2; exact h2
  simp only [ev,U9];rw [Rm,<-hh]
  push_cast
  rw [<-e];have e3:(((a.den:Int)):Rat)=(a.den:Rat):=rfl;grind
theorem Qhi {a b:Um} (hb:Prm b) (h:ZN (cz b) (cz a)):∃ h',Ff h'/\∀ t,U9 a t=U9 b t*U9 h' t:=by
 obtain ⟨u,hu⟩:=h;obtain ⟨c,hc,h,hh⟩:=IA u;obtain ⟨h',e⟩:=Qhj hb c.natAbs c h (Ql _) hc λt=>by
  have:=hu t;rw [Fa,Fa] at this;rw [this,<-hh]; grind
 exact ⟨trim h',Rp _,λt=>by rw [Ot,e]⟩
def sd (x0:Rat):Up->Up
 | []=>[]
 | _::p=>Sv p (D3 x0 (sd x0 p))
theorem Qha (x0 x:Rat):∀ p,ev (sd x0 p) x=dq p x x0
 | []=>rfl
 | a::p=>by simp only [sd,dq]; rw [G0,Gu,Qha x0 x p]
theorem cS (x0:Rat):∀ (g:Up) (n:Nat),(∀ j,n<j->g.getD j 0=0)->∀ j,n<=j->(sd x0 g).getD j 0=0
 | [],n,_,j,_=>by simp [sd]
 |
  a::p,0,h,j,_=>by
  have hp:∀ j,p.getD j 0=0:=λj=>by have:=h (j+1) (by omega); rwa [Q4] at this
  simp only [sd];rw [Rl,Sp,hp,cS x0 p 0 (λj _=>hp j) j (Qh _)]; grind
 |
  a::p,n+1,h,j,hj=>by
  have hp:∀ j,n<j->p.getD j 0=0:=λj hj=>by have:=h (j+1) (by omega); rwa [Q4] at this
  simp only [sd];rw [Rl,Sp,hp j (by omega),cS x0 p n hp j (by omega)]; grind
theorem nW {K:Rat} (hK:0≤K):∀ (e:Nat) (g:Up) (pts:Um) (M:Rat),pts.length=e+1->pts.Nodup->(∀ x∈pts,Fj (x:Rat)≤K)->(∀ k,e<k->g.getD k 0=0)->(∀ x∈pts,Fj (ev g (x:Rat))≤M)->∀ k,Fj (g.getD k 0)≤(2*K+3)^e*M
 | _,_,[],_,h,_,_,_,_=>by simp at h
 |
  0,g,x0::xs,M,_,_,_,hg,hM=>λk=>by
  have h0:=hM x0 (by simp);rw [Xg];cases k with
  |
   zero =>
   have e:ev g (x0:Rat)=g.getD 0 0:=by
    cases g with
    | nil=>rfl
    |
     cons a p =>
     have hp:=D8 (p:=p) λj=>by have:=hg (j+1) (by omega); rwa [Q4] at this
     simp only [ev,hp,Zt]; grind
   rw [<-e]; grind
  |
   succ k =>
   rw [hg (k+1) (by omega),Rj];have:=Hw (ev g (x0:Rat)); grind
 |
  e+1,g,x0::xs,M,hl,hn,hb,hg,hM=>λk=>by
  have hx0:=hb x0 (by simp);have hM0:=hM x0 (by simp);have hMn:0<=M:=Zl (Hw _) hM0;rw [List.nodup_cons] at hn;have ih:=nW hK e (sd x0 g) xs (2*M) (by simpa using hl) hn.2 (λx hx=>hb x (by simp [hx])) (λj hj=>cS _ g (e+1) hg j (by omega)) λx hx=>by
   have h1:=hM x (by simp [hx]);have h2:=OK (x:Rat) (x0:Rat) g;rw [<-Qha] at h2;have hne:x-x0≠0:=λh=>hn.1 (by rw [show x0=x by omega]; exact hx)
   have h3:=WV hne;rw [Rat.intCast_sub] at h3;have h4:Fj (ev g (x:Rat)-ev g (x0:Rat))<=2*M:=by
    have:=Su (ev g (x:Rat)) (-ev g (x0:Rat));rw [Et,show ev g (x:Rat)+-ev g (x0:Rat)=ev g (x:Rat)-ev g (x0:Rat) by grind] at this;clear hM hb hg; grind
   rw [h2,Ik] at h4;have h5:=Ze h3 (Hw (ev (sd x0 g) x));clear hM hb hg; grind
  have e1:∀ t,ev g t=ev (Sv [ev g x0] (Sv (D3 (-x0) (sd x0 g)) (0::sd x0 g))) t:=λt=>by
   have:=OK t (x0:Rat) g;rw [<-Qha] at this;simp only [G0,Gu,ev];grind
  have hp1:1<=(2*K+3)^e:=(YE (R:=2*K+3) (x:=0) (by grind) (by rw [Rj]; grind) e).2;have hpM:=Bh (x:=(2*K+3)^e) (y:=M) (by grind) hMn;have hpM1:=Ze hp1 hMn;rw [Z7,Dw e1 k,Rl,Rl,Sp];have a1:=ih k;have a2:Fj (-(x0:Rat)*(sd (x0:Rat) g).getD k 0)<=K*((2*K+3)^e*(2*M)):=Hd (by rw [Et]; exact hx0) a1;have fin:∀ u v w:Rat,Fj u<=M->Fj v<=K*((2*K+3)^e*(2*M))->Fj w<=(2*K+3)^e*(2*M)->Fj (u+(v+w))<=(2*K+3)^e*(2*K+3)*M:=λu v w h1 h2 h3=>by
   have b1:=Su u (v+w);have b2:=Su v w;clear ih e1 hM hb hg a1 a2; grind
  refine fin _ _ _ ?_ a2 ?_
  ·cases k with
   | zero=>rw [Zt]; exact hM0
   | succ k=>rw [Q4,Kt,Rj]; exact hMn
  ·cases k with
   | zero=>rw [Zt,Rj]; clear ih e1 hM hb hg a1 a2 fin; grind
   | succ k=>rw [Q4]; exact ih k
theorem Qj5 {g:Up} {e:Nat} (hg:∀ k,e<k->g.getD k 0=0) (hz:¬∀ t,ev g t=0) {pts:Um} (hn:pts.Nodup) (hr:∀ x∈pts,ev g (x:Rat)=0):pts.length≤e:=by
 rcases Zb e pts.length with h | h
 ·exfalso;obtain ⟨K,hK,hb⟩:∃ K:Rat,0≤K/\∀ x∈pts,Fj (x:Rat)≤K:=by
   clear hn hr h
   induction pts with
   | nil=>exact ⟨0,by decide,λx hx=>by cases hx⟩
   |
    cons y pts ih =>
    obtain ⟨K,h1,h2⟩:=ih;refine ⟨K+Fj (y:Rat),by have:=Hw (y:Rat); grind,λx hx=>?_⟩;have hy:=Hw (y:Rat);rcases Qm.1 hx with rfl | hx
    ·grind
    ·have:=h2 x hx; grind
  refine hz (D8 λk=>?_);have:=nW hK e g (pts.take (e+1)) 0 (by rw [Qq]; omega) (hn.sublist (List.take_sublist ..)) (λx hx=>hb x (Qn hx)) hg (λx hx=>by rw [hr x (Qn hx),Rj]; exact Qp) k;have h2:=Hw (g.getD k 0);exact Qpw (by grind)
 ·exact h
def spots:Um:=(List.range 19).map λi:Nat=>(i:Int)-9
theorem spots_nd:spots.Nodup:=by decide
theorem tP:∀ x∈spots,x.natAbs≤9:=by decide
theorem DJ {α:Type} (p:α->Bool):∀ l:List α,(l.filter p).length+(l.filter λx => !p x).length=l.length
 | []=>rfl
 |
  x::l=>by
  have:=DJ p l;cases h:p x <;> simp [h] <;> omega
def geo:Nat->Nat
 | 0=>0
 | n+1=>1+9*geo n
theorem aX {B:Rat}:∀ (p:Um),(∀ z∈p,Fj (z:Rat)≤B)->uD 9 (cz p)≤B*(geo p.length:Nat)
 | [],_=>by simp only [cz,X6,uD,geo,Jg]; rw [show ((0:Nat):Rat)=0 from rfl]; grind
 |
  a::p,h=>by
  have h1:=aX p λz hz=>h z (Qg _ hz)
  have h2:=h a (Qx ..);simp only [cz,Zz,uD,geo,Q5] at *
  push_cast
  clear h; grind
theorem Qhr {m n:Nat} (h:m<=n):geo m<=geo n:=by
 induction h with
 | refl=>exact Ql _
 | step h ih=>simp only [geo]; omega
def pz:Um->Int->Int
 | [],_=>0
 | a::p,x=>a+x*pz p x
theorem WF (x:Int):∀ p,U9 p (x:Rat)=((pz p x:Int):Rat)
 | []=>rfl
 | a::p=>by simp only [U9,pz,WF x p]; push_cast; rfl
theorem Sy (z:Int):Fj (z:Rat)=((z.natAbs:Nat):Rat):=by
 unfold Fj;rcases Kd z 0 with h | h
 ·have h1:(z:Rat)<((0:Int):Rat):=Jn.2 h;rw [if_pos (by simpa using h1)];have:(z.natAbs:Int)=-z:=by omega
  have:=congrArg (λu:Int=>(u:Rat)) this
  push_cast at this
  exact this.symm
 ·have h1:((0:Int):Rat)<=(z:Rat):=Jb.2 h;have h1:(0:Rat)<=(z:Rat):=by simpa using h1
  rw [if_neg (by grind)];have:(z.natAbs:Int)=z:=by omega
  have:=congrArg (λu:Int=>(u:Rat)) this;exact this.symm
theorem XY {p g h:Um} {s:Nat} (hp:Bd s p) (hl:p.length<=10) (tp:Ff p) (tg:Ff g) (th:Ff h) (h0:p.length≠0) (e:∀ t,U9 p t=U9 g t*U9 h t):Bd (s+69) g:=by
 have lg:0<g.length:=by
  rcases Q3 g.length with e' | e'
  ·exact absurd (λt=>by rw [e,Dz e']; grind) (SZ tp (by omega))
  ·exact e'
 have lh:0<h.length:=by
  rcases Q3 h.length with e' | e'
  ·exact absurd (λt=>by rw [e,Dz e']; grind) (SZ tp (by omega))
  ·exact e'
 have hlen:=Mp tg th tp e lg lh;obtain ⟨q,hq⟩:=nmE (spots.filter λx => !decide (pz p x=0));have hr:(spots.filter λx=>decide (pz p x=0)).length<=9:=by
  refine Qj5 (g:=cz p) (e:=9) (λk hk=>?_) (λh=>SZ tp (by omega) λt=>by rw [<-Fa]; exact h t) (spots_nd.sublist List.filter_sublist) λx hx=>?_
  ·rw [Mm,Qi,Qu (by omega)]; rfl
  ·have:=(Yi.1 hx).2;rw [Fa,WF,of_decide_eq_true this]; rfl
 have hc:=DJ (λx=>decide (pz p x=0)) spots;rw [<-hq] at hc;have hsl:spots.length=19:=by decide
 have hB:∀ z∈p,Fj (z:Rat)≤((2^s:Nat):Rat):=λz hz=>by
  rw [Sy];have:=hp z hz;rw [Sf] at this;exact Zm.2 (Yk this)
 have key:=nW (K:=9) (by decide) 9 (cz g) (q.take 10) (((2^s*435848050:Nat)):Rat) (by rw [Qq]; omega) ((spots_nd.sublist (by rw [hq]; exact List.filter_sublist)).sublist (List.take_sublist ..)) (λx hx=>by
  have hx:=Qn hx;rw [hq] at hx;have:=tP x (Yi.1 hx).1;rw [Sy]
  exact_mod_cast Zm.2 this) (λk hk=>by rw [Mm,Qi,Qu (by omega)]; rfl) (λx hx=>by
  have hx:=Qn hx;rw [hq] at hx;obtain ⟨hx1,hx2⟩:=Yi.1 hx;have hne:pz p x≠0:=by simpa using hx2
  have e1:=e (x:Rat);rw [WF,WF,WF] at e1;have e2:pz p x=pz g x*pz h x:=by exact_mod_cast e1
  have hh:1<=(pz h x).natAbs:=by
   rcases Q3 (pz h x).natAbs with e' | e'
   ·exact absurd (by rw [e2,Int.natAbs_eq_zero.1 e',Wa]) hne
   ·exact e'
  have h3:(pz g x).natAbs<=(pz p x).natAbs:=by
   rw [e2,J9];exact Ys _ hh
  rw [Fa,WF,Sy];refine Zl (Zm.2 h3) ?_;rw [<-Sy,<-WF,<-Fa];refine Zl (SJ (R:=9) (by
   have:=tP x hx1;rw [Sy]
   exact_mod_cast Zm.2 this) _) ?_
  refine Zl (aX p hB) ?_;have:2^s*geo p.length<=2^s*435848050:=Zu _ (Qa (Qhr hl) (by decide));have:=Zm.2 this
  push_cast at this ⊢
  exact this)
 refine NA λk=>?_
 have h1:=key k;rw [Mm,Sy] at h1;have e3:(2*(9:Rat)+3)^9*((2^s*435848050:Nat):Rat)=(((794280046581*(2^s*435848050)):Nat):Rat):=by
  rw [show (2*(9:Rat)+3)^9=794280046581 by grind]
  push_cast; rfl
 rw [e3] at h1;have h2:=Zm.1 h1;rw [Sf];refine Z3 h2 ?_;have:794280046581*(2^s*435848050)=2^s*(794280046581*435848050):=by
  rw [Nat.mul_left_comm]
 rw [this,Xf];exact Nat.mul_lt_mul_of_pos_left (by decide) (Z2 (by decide))
theorem uS {l:Um} {d:Int} (h:∀ z∈l,d∣z):d∣((Tc l:Nat):Int):=by
 have key:∀ (l:Um) (g:Nat),d.natAbs∣g->(∀ z∈l,d∣z)->d.natAbs∣l.foldl (λg z=>Nat.gcd g z.natAbs) g:=by
  intro l
  induction l with
  | nil=>exact λg h _=>h
  | cons z l ih=>exact λg hg h=>ih _ (Nat.dvd_gcd hg (X2.2 (h z (Qx ..)))) λu hu=>h u (Qg _ hu)
 have:=key l 0 (Nat.dvd_zero _) h;exact X2.1 (by rw [Xh]; exact this)
theorem FQ (p:Um) (c:Int) (k:Nat):(p.map (· / c)).getD k 0=p.getD k 0 / c:=by
 rw [Qi,Qi,Q9];cases p[k]? <;> simp
theorem WG (p:Um) (c:Int) (k:Nat):(Db p c).getD k 0=p.getD k 0 / c:=by
 unfold Db; rw [VK,FQ]
theorem qD {p:Um} {c:Int} (h:∀ z∈p,c∣z) (t:Rat):U9 p t=(c:Rat)*U9 (Db p c) t:=by
 have:=Cn c 0 t (max p.length (Db p c).length) (Db p c) [] p (by omega) (by simp) (by omega) λk=>by
  rw [WG];have hd:c∣p.getD k 0:=by
   rw [Qi];cases e:p[k]? with
   | none=>exact Int.dvd_zero _
   | some z=>exact h z (Qc e)
  rw [K9 hd]; simp
 rw [this]; simp only [U9]; push_cast; grind
theorem XG {c:Int} (h:c≠0):(c:Rat)≠0:=λe=>h (by exact_mod_cast e)
theorem QE {p q:Um} {c:Rat} (tp:Ff p) (tq:Ff q) (hc:c≠0) (h:∀ t,U9 p t=c*U9 q t):p.length=q.length:=by
 have key:∀ {p q:Um} {c:Rat},Ff p->Ff q->c≠0->(∀ t,U9 p t=c*U9 q t)->p.length<=q.length:=λ{p q c} tp tq hc h=>by
  rcases Zb q.length p.length with e | e
  ·have h1:=H9 tp (by omega);have:=Dw (p:=cz p) (q:=D3 c (cz q)) (λt=>by rw [Fa,Gu,Fa,h]) (p.length-1);rw [Mm,Sp,Mm,Qi (l:=q),Qu (by omega)] at this;have:((p.getD (p.length-1) 0:Int):Rat)=0:=by rw [this]; simp
   exact absurd (by exact_mod_cast this) h1
  ·exact e
 refine Kb (key tp tq hc h) (key (c:=1 / c) tq tp (λe=>?_) λt=>?_)
 ·have:=Zj (a:=1) hc; rw [e] at this; grind
 ·rw [h]; have:=Zj (a:=1) hc; grind
theorem Cq {p:Um} (tp:Ff p) (h:p.length≠0):Ff (Fi p)/\(Fi p).length=p.length/\Prm (Fi p)/\0<Ft (Fi p)/\(∀ s,Bd s p->Bd s (Fi p))/\Hp p≠0/\∀ t,U9 p t=(Hp p:Rat)*U9 (Fi p) t:=by
 have h0:=iO tp h;have e:Fi p=Db p (Hp p):=by unfold Fi; rw [if_neg h]
 have h1:=qD (p:=p) (c:=Hp p) FA;have hl:=QE tp (ZJ p (Hp p)) (XG h0) h1;have hcp:0<Pg p:=by
  have:=JJ tp h;unfold Pg at this ⊢; omega
 rw [e];refine ⟨ZJ _ _,hl.symm,λd hd=>?_,?_,λs hs=>BQ hs _,h0,h1⟩
 ·have h2:∀ z∈p,d*Hp p∣z:=λz hz=>by
   obtain ⟨i,hi⟩:=Zk.1 hz;have h3:=hd i;rw [WG,Qi,hi] at h3;obtain ⟨k,hk⟩:=h3;have h4:=FA z hz;refine ⟨k,?_⟩;have:z / Hp p*Hp p=z:=Int.ediv_mul_cancel h4;rw [<-this];rw [show z / Hp p=d*k from hk,Int.mul_right_comm]
  have h3:=uS h2;have h4:Hp p∣((Tc p:Nat):Int)/\((Tc p:Nat):Int)∣Hp p:=by
   unfold Hp Pg; split
   ·exact ⟨Uc.2 (K7 _),Int.dvd_neg.2 (K7 _)⟩
   ·exact ⟨K7 _,K7 _⟩
  obtain ⟨k,hk⟩:=V5 h3 h4.2;refine ⟨k,?_⟩;have:Hp p*(d*k)=Hp p*1:=by rw [Ub,<-Int.mul_assoc,K8 (Hp p) d,<-hk]
  exact (Int.eq_of_mul_eq_mul_left h0 this).symm
 ·have h2:Ft (Db p (Hp p))=Ft p / Hp p:=by unfold Ft; rw [<-hl,WG]
  have h3:Hp p∣Ft p:=FA _ (LZ h);have h5:Ft p / Hp p*Hp p=Ft p:=Int.ediv_mul_cancel h3;rw [h2];have h6:=En tp h;rcases Km (Ft p / Hp p) 0 with e1 | e1 | e1
  ·exfalso;by_cases hn:Ft p<0
   ·have:Hp p=-Pg p:=by unfold Hp; rw [if_pos hn]
    have:0<Ft p / Hp p*Hp p:=V9 e1 (by omega);omega
   ·have:Hp p=Pg p:=by unfold Hp; rw [if_neg hn]
    have:Ft p / Hp p*Hp p<0:=Int.mul_neg_of_neg_of_pos e1 (by omega);omega
  ·rw [e1] at h5; omega
  ·exact e1
theorem Qjk {r:Um} (tr:Ff r):∃ c:Rat,0<c/\∀ t,U9 r t=c*U9 (VO r) t:=by
 unfold VO;by_cases h:r.length=0
 ·rw [if_pos h]; exact ⟨1,by decide,λt=>by rw [Dz h,Dz rfl]; grind⟩
 ·rw [if_neg h];have h1:0<Pg r:=by
   have:=JJ tr h;unfold Pg at this ⊢; omega
  have h2:((0:Int):Rat)<(Pg r:Rat):=Jn.2 h1;exact ⟨Pg r,by simpa using h2,qD E7⟩
theorem JY (x:Int) (t:Rat):∀ i,U9 (mono i x) t=(x:Rat)*t^i
 | 0=>by simp only [mono,Wj,Yj,U9,Xg]; grind
 |
  i+1=>by
  have ih:=JY x t i;simp only [mono,J4,Xb,U9] at *;rw [ih,Z7]; push_cast; grind
theorem iV (x:Int) (b:Um) (i k:Nat):(Gl (trim (mono i x)) b).getD k 0=if i<=k then x*b.getD (k-i) 0 else 0:=by
 have e:∀ t,U9 (Gl (trim (mono i x)) b) t=U9 (List.replicate i 0++b.map (x * ·)) t:=λt=>by
  rw [Gk,Ot,JY];have h2:∀ i,U9 (List.replicate i 0++b.map (x * ·)) t=t^i*((x:Rat)*U9 b t):=λi=>by
   induction i with
   |
    zero =>
    simp only [Wj,Yj,Xg];have:=Cn x 0 t (max b.length (b.map (x * ·)).length) b [] (b.map (x * ·)) (by omega) (by simp) (by omega) λk=>by
     rw [Qi,Qi,Q9];cases b[k]? <;> simp
    rw [this]; simp only [U9]; push_cast; grind
   | succ i ih=>simp only [J4,Xb,U9,ih,Z7]; push_cast; grind
  rw [h2]; grind
 rw [Lm e k,Qi,List.getElem?_append,Jd];by_cases h:i<=k
 ·rw [if_neg (by omega),if_pos h,Q9,Qi];cases b[k-i]? <;> simp
 ·rw [if_pos (by omega),if_neg h,Jz,if_pos (by omega)]; rfl
theorem Qic {p:Um} {n:Nat} (tp:Ff p) (h:p.length<=n+1) (h0:p.getD n 0=0):p.length<=n:=by
 rcases Zb n p.length with e | e
 ·have:=H9 tp (by omega);rw [show p.length-1=n by omega] at this;exact absurd h0 this
 ·exact e
theorem Qqq {b r:Um} {i:Nat} (tr:Ff r) (h:r.length<=b.length+i) (hb:b.length≠0) {x:Int} (hx:x=if r.length=b.length+i then Ft r else 0):(str b (Ft b) i x r).length<b.length+i:=by
 have hl:=jO (c:=Ft b) (x:=x) (i:=i) (b:=b) (r:=r);have:=Qic (p:=str b (Ft b) i x r) (n:=b.length+i-1) (Fz _ _) (by omega) (by
  unfold str;rw [O2,Md,iV,if_pos (by omega),hx,show b.length+i-1-i=b.length-1 by omega]
  split
  ·rename_i he;unfold Ft;rw [he,Int.sub_eq_zero]
  ·rw [Qi (l:=r),Qu (by omega)]; simp)
 omega
theorem Qwd (b r:Um) (c:Int) (i:Nat) (x:Int) (t:Rat):(c:Rat)*U9 r t=(x:Rat)*t^i*U9 b t+U9 (str b c i x r) t:=by
 unfold str;rw [Nh,Rm,Gk,Ot,JY]; grind
theorem Qjo (b:Um) (c:Int):∀ (i:Nat) (q r:Um),∃ X:Up,∀ t,((c^i:Int):Rat)*U9 r t=ev X t*U9 b t+U9 (rP b c i (q,r)).2 t
 | 0,q,r=>⟨[],λt=>by simp only [rP,ev]; rw [Wy]; push_cast; grind⟩
 |
  i+1,q,r=>by
  obtain ⟨x,hx⟩:=nmE (if r.length=b.length+i then Ft r else 0);obtain ⟨X,hX⟩:=Qjo b c i (stq c i x q) (str b c i x r);obtain ⟨m,hm⟩:∃ m:Up,∀ t,ev m t=(x:Rat)*t^i:=⟨cz (mono i x),λt=>by rw [Fa,JY]⟩;refine ⟨Sv (D3 ((c^i:Int):Rat) m) X,λt=>?_⟩;rw [JU hx,G0,Gu,hm];have h1:=hX t;have h2:=Qwd b r c i x t;rw [Wx]
  push_cast at h1 ⊢
  have:(c:Rat)^i*c*U9 r t=(c:Rat)^i*((c:Rat)*U9 r t):=by grind
  rw [this,h2]; grind
theorem oK {b:Um} (hb:b.length≠0):∀ (i:Nat) (q r:Um),Ff r->r.length<b.length+i->Ff (rP b (Ft b) i (q,r)).2/\(rP b (Ft b) i (q,r)).2.length<b.length
 | 0,q,r,tr,h=>⟨tr,h⟩
 |
  i+1,q,r,tr,h=>by
  rw [JU rfl];exact oK hb i _ _ (Fz _ _) (Qqq tr (by omega) hb rfl)
theorem Qjn {b:Um} {c:Int} {t:Nat} (hb:Bd t b) (hc:Fe c<=t):∀ (i u:Nat) (q r:Um),i<=64->Bd u r->Bd (u+i*(t+8)) (rP b c i (q,r)).2
 | 0,u,q,r,_,h=>by simpa [rP] using h
 |
  i+1,u,q,r,hi,h=>by
  rw [JU rfl];have hx:Fe (if r.length=b.length+i then Ft r else 0)<=u:=by
   split
   ·exact M9 h
   ·rw [Na]; exact Qh _
  have:=Qjn hb hc i (u+t+8) (stq c i (if r.length=b.length+i then Ft r else 0) q) (str b c i (if r.length=b.length+i then Ft r else 0) r) (by omega) (pV h hb hc hx (by omega));exact U6 this (by rw [Xa]; omega)
theorem EW {c:Int} (h:c<0):∀ k:Nat,(k % 2=1->c^k<0)/\(k % 2=0->0<c^k)
 | 0=>⟨λh=>by omega,λ_=>by rw [Wy]; decide⟩
 |
  k+1=>by
  obtain ⟨i1,i2⟩:=EW h k;rw [Wx];exact ⟨λhk=>V8 (i2 (by omega)) h,λhk=>V9 (i1 (by omega)) h⟩
theorem NW {a b:Um} (ta:Ff a) (tb:Ff b) (hb:b.length≠0) (hl:a.length<=60):Ff (Te a b)/\(Te a b).length<b.length/\(∀ s,Bd s a->Bd s b->Bd (s+(a.length+1-b.length)*(s+8)) (Te a b)) /\
 ∃ u v:Rat,0<u/\0<v/\∃ X:Up,∀ t,u*U9 a t=ev X t*U9 b t+v*U9 (Te a b) t:=by
 obtain ⟨k,hk⟩:=nmE (a.length+1-b.length);have h1:Ff (Ma a b)/\(Ma a b).length<b.length:=oK hb _ _ _ ta (by omega);obtain ⟨X,hX⟩:=Qjo b (Ft b) k [] a;have hX:∀ t,(((Ft b)^k:Int):Rat)*U9 a t=ev X t*U9 b t+U9 (Ma a b) t:=by unfold Ma; rw [<-hk]; exact hX
 have h2:=GZ (a:=a) (b:=b) (r:=Ma a b) (n:=(Ma a b).length) (s:=(Ma a b).foldl (λm z=>m+Fe z) 0) h1.1 (Ql _) (λz hz=>by
  have key:∀ (l:Um) (m:Nat),m≤l.foldl (λm z=>m+Fe z) m/\∀ z∈l,Fe z≤l.foldl (λm z=>m+Fe z) m:=by
   intro l
   induction l with
   | nil=>exact λm=>⟨Ql _,λz hz=>by cases hz⟩
   |
    cons y l ih =>
    intro m;obtain ⟨i1,i2⟩:=ih (m+Fe y);refine ⟨by simp only [Z9]; omega,λz hz=>?_⟩;simp only [Z9];rcases Qm.1 hz with rfl | hz
    ·omega
    ·exact i2 z hz
  exact (key _ 0).2 z hz)
 have h3:=EJ (r:=Bw a b (Ma a b)) (n:=(Ma a b).length) h2.2.1 h2.2.2;refine ⟨h3.1,by unfold Te; omega,λs ha hbs=>?_,?_⟩
 ·have h4:=Qjn (c:=Ft b) hbs (M9 hbs) k s [] a (by omega) ha;have h5:=GZ (a:=a) (b:=b) (n:=(Ma a b).length) h1.1 (Nat.le_refl _) (show Bd (s+k*(s+8)) (Ma a b) by unfold Ma; rw [<-hk]; exact h4);rw [<-hk];exact (EJ h5.2.1 h5.2.2).2.2
 ·obtain ⟨v,vp,hv⟩:=Qjk h2.1;have hc:=En tb hb;by_cases ht:k % 2=1/\Ft b<0
  ·have e1:Bw a b (Ma a b)=Mq (Ma a b):=by unfold Bw; rw [<-hk,if_pos ht]
   have hneg:(Ft b)^k<0:=(EW ht.2 k).1 ht.1;have h5:(((Ft b)^k:Int):Rat)<((0:Int):Rat):=Jn.2 hneg;have h5:(((Ft b)^k:Int):Rat)<0:=by simpa using h5
   refine ⟨-(((Ft b)^k:Int):Rat),v,by grind,vp,D3 (-1) X,λt=>?_⟩;have h6:=hX t;have h7:=hv t;rw [e1,FD] at h7;show _=_+v*U9 (VO (Bw a b (Ma a b))) t;rw [e1,<-h7,Gu]; grind
  ·have e1:Bw a b (Ma a b)=Ma a b:=by unfold Bw; rw [<-hk,if_neg ht]
   have hpos:0<(Ft b)^k:=by
    rcases Ke hc with h | h
    ·exact (EW h k).2 (by omega)
    ·exact Int.pow_pos h
   have h5:((0:Int):Rat)<(((Ft b)^k:Int):Rat):=Jn.2 hpos;refine ⟨(((Ft b)^k:Int):Rat),v,by simpa using h5,vp,X,λt=>?_⟩;have h7:=hv t;show _=_+v*U9 (VO (Bw a b (Ma a b))) t;rw [<-h7,e1,hX]
theorem Ae {p:Um} (h1:p.length<=64) (h2:Bd 16777216 p):IE p=some p:=by
 unfold IE;rw [if_pos ⟨h1,Jt.2 λz hz=>Nat.ble_eq_true_of_le (h2 z hz)⟩]
theorem OY {a b:Um} {g:Up} {c:Rat} (hc:c≠0) (h:∀ t,U9 a t=c*U9 b t):ZN g (cz a)↔ZN g (cz b):=by
 constructor
 ·rintro ⟨u,hu⟩
  refine ⟨D3 (1 / c) u,λt=>?_⟩;have h1:=hu t;rw [Fa,h] at h1;rw [Fa,Gu];have h2:1 / c*c=1:=Zj hc;have:U9 b t=1 / c*(c*U9 b t):=by grind
  rw [this,h1]; grind
 ·rintro ⟨u,hu⟩
  refine ⟨D3 c u,λt=>?_⟩;have h1:=hu t;rw [Fa] at h1;rw [Fa,Gu,h,h1]; grind
structure Gc (g a b:List Int):Prop where
 t:Ff g
 da:ZN (cz g) (cz a)
 db:ZN (cz g) (cz b)
 c:∃ U V,∀ t,U9 g t=ev U t*U9 a t+ev V t*U9 b t
 n:g.length≠0
theorem Gc.scale {g a b g' a' b':Um} {x y z:Rat} (h:Gc g a b) (hx:x≠0) (hy:y≠0) (hz:z≠0) (tg:Ff g') (eg:∀ t,U9 g t=x*U9 g' t) (ea:∀ t,U9 a' t=y*U9 a t) (eb:∀ t,U9 b' t=z*U9 b t):Gc g' a' b':=by
 have hx1:1 / x*x=1:=Zj hx;have hy1:1 / y*y=1:=Zj hy;have hz1:1 / z*z=1:=Zj hz;have hg:∀ c,ZN (cz g) c->ZN (cz g') c:=λc ⟨u,hu⟩=>⟨D3 x u,λt=>by rw [hu,Fa,Fa,eg,Gu]; grind⟩
 obtain ⟨U,V,hc⟩:=h.c;refine ⟨tg,hg _ ((OY hy ea).2 h.da),hg _ ((OY hz eb).2 h.db),⟨D3 (1 / x*(1 / y)) U,D3 (1 / x*(1 / z)) V,λt=>?_⟩,?_⟩
 ·have h1:=hc t;have h2:U9 g' t=1 / x*U9 g t:=by rw [eg]; grind
  rw [h2,h1,Gu,Gu,ea,eb];generalize ev U t=u at *;generalize ev V t=v at *;grind
 ·rw [<-QE h.t tg hx eg]; exact h.n
theorem Qvq:∀ d:Nat,1<=d->d+2<=3^d
 | 0,h=>by omega
 | 1,_=>by decide
 | d+2,_=>by have:=Qvq (d+1) (by omega); rw [Zr]; omega
theorem sW {k:Nat} {a b:Um} (ta:Ff a) (tb:Ff b) (hb:b.length≠0) (hl:a.length<=60) (hbl:b.length<=60) (hr:Bd 16777216 (Te a b)) (ih:∃ g,TM k b (Te a b)=some g/\Gc g b (Te a b)):∃ g,TM (k+1) a b=some g/\Gc g a b:=by
 obtain ⟨h1,h2,h3,u,v,up,vp,X,hX⟩:=NW ta tb hb hl;obtain ⟨g,e,hg⟩:=ih;refine ⟨g,?_,?_⟩
 ·simp only [TM];rw [if_neg hb,Ae (by omega) hr]; exact e
 ·obtain ⟨U,V,hc⟩:=hg.c;obtain ⟨y,hy⟩:=hg.da;obtain ⟨z,hz⟩:=hg.db;have hu:1 / u*u=1:=Hf up;have hv:1 / v*v=1:=Hf vp;refine ⟨hg.t,⟨D3 (1 / u) (Sv (G8 X y) (D3 v z)),λt=>?_⟩,hg.da,⟨D3 (u / v) V,Sv U (D3 (-1 / v) (G8 V X)),λt=>?_⟩,hg.n⟩
  ·have a1:=hX t; have a2:=hy t; have a3:=hz t;rw [Fa,Fa] at a2 a3;rw [Fa,Fa,Gu,G0,Fh,Gu];have:U9 a t=1 / u*(u*U9 a t):=by grind
   rw [this,a1,a2,a3]; grind
  ·have a1:=hX t; have a2:=hc t;rw [Gu,G0,Gu,Fh,a2];have:U9 (Te a b) t=1 / v*(v*U9 (Te a b) t):=by grind
   rw [this,show v*U9 (Te a b) t=u*U9 a t-ev X t*U9 b t by grind,J6,J6,J6];grind
theorem Qai {k:Nat} {a:Um} (ta:Ff a) (ha:a.length≠0):∃ g,TM (k+1) a []=some g/\Gc g a [] :=
 ⟨a,rfl,ta,dvd_refl _,⟨[],λt=>by simp only [cz,X6,ev]; grind⟩,⟨[1],[],λt=>by rw [Tf]; simp only [ev]; grind⟩,ha⟩
theorem TN {s:Nat}:∀ (k:Nat) (a b:Um),Ff a->Ff b->b.length<k->b.length<a.length->a.length<=60->Bd s a->Bd s b->(s+8)*3^(a.length-1)<=16777216->∃ g,TM k a b=some g/\Gc g a b
 | 0,_,_,_,_,h,_,_,_,_,_=>by omega
 |
  k+1,a,b,ta,tb,hk,hab,hl,ba,bb,hs=>by
  by_cases hb:b.length=0
  ·rw [Qj hb]; exact Qai ta (by omega)
  ·obtain ⟨h1,h2,h3,_⟩:=NW ta tb hb hl;have h3:=h3 s ba bb;obtain ⟨m,hm⟩:=nmE (a.length-b.length);have e1:a.length+1-b.length=m+1:=by omega
   rw [e1] at h3;have e2:s+(m+1)*(s+8)+8=(m+2)*(s+8):=by
    rw [show m+2=(m+1)+1 by omega,Xa (m+1)]; omega
   have e3:(m+2)*(s+8)*3^(b.length-1)<=(s+8)*3^(a.length-1):=by
    rw [show a.length-1=m+(b.length-1) by omega,Xf,<-Xy,Zq (s+8)];exact Q0 _ (Q0 _ (Qvq m (by omega)))
   have e4:s+(m+1)*(s+8)<=16777216:=by
    have:(m+2)*(s+8)<=(m+2)*(s+8)*3^(b.length-1):=Ys _ (Z2 (by decide));omega
   refine sW ta tb hb hl (by omega) (U6 h3 e4) (TN (s:=s+(m+1)*(s+8)) k b (Te a b) tb h1 (by omega) h2 (by omega) (U6 bb (by omega)) h3 ?_);rw [e2]; omega
def Szz (n s:Nat):Prop:=n<=10/\2*(s+8)*3^(n-1)<=16777216
theorem Qk9 {n s:Nat} (hz:Szz n s) {a b:Um} (ta:Ff a) (tb:Ff b) (la:a.length<=n) (lb:b.length<=n) (ba:Bd s a) (bb:Bd s b) (h0:a.length≠0\/b.length≠0):∃ g,TM 66 a b=some g/\Gc g a b:=by
 obtain ⟨hn,hz⟩:=hz;have hp:∀ l,l<=n->(s+8)*3^(l-1)<=8388608:=λl hl=>by
  have:(s+8)*3^(l-1)<=(s+8)*3^(n-1):=Zu _ (Zs (by decide) (by omega));rw [Xy] at hz; omega
 rcases Zb b.length a.length with h | h
 ·exact TN 66 a b ta tb (by omega) h (by omega) ba bb (by have:=hp a.length la; omega)
 ·by_cases hb:b.length=0
  ·rw [Qj hb]; exact Qai ta (by omega)
  ·obtain ⟨h1,h2,h3,_⟩:=NW ta tb hb (by omega);have h3:=h3 s ba bb;have h4:(a.length+1-b.length)*(s+8)<=1*(s+8):=Q0 _ (by omega);have h5:=hp b.length lb;have h6:(s+8)*1<=(s+8)*3^(b.length-1):=Zu _ (Z2 (by decide));refine sW ta tb hb (by omega) (by omega) (U6 h3 (by omega)) (TN (s:=2*s+8) 65 b (Te a b) tb h1 (by omega) h2 (by omega) (U6 bb (by omega)) (U6 h3 (by omega)) ?_);rw [show 2*s+8+8=2*(s+8) by omega,Xy]; omega
theorem qO:Fi []=[]:=rfl
theorem GQ {a:Um} (ta:Ff a):Ff (Fi a)/\(Fi a).length=a.length/\(∀ s,Bd s a->Bd s (Fi a))/\∃ c:Rat,c≠0/\∀ t,U9 a t=c*U9 (Fi a) t:=by
 by_cases h:a.length=0
 ·rw [Qj h];exact ⟨rfl,rfl,λs _=>ZD,1,by decide,λt=>by rw [qO]; grind⟩
 ·obtain ⟨h1,h2,h3,h4,h5,h6,h7⟩:=Cq ta h;exact ⟨h1,h2,h5,_,XG h6,h7⟩
theorem WA {n s:Nat} (hz:Szz n s) {a b:Um} (ta:Ff a) (tb:Ff b) (la:a.length<=n) (lb:b.length<=n) (ba:Bd s a) (bb:Bd s b) (h0:a.length≠0\/b.length≠0):∃ g,JF a b=some g/\Gc g a b/\Prm g/\0<Ft g:=by
 obtain ⟨a1,a2,a3,x,xn,ax⟩:=GQ ta;obtain ⟨b1,b2,b3,y,yn,bx⟩:=GQ tb;obtain ⟨g,e,hg⟩:=Qk9 hz a1 b1 (by omega) (by omega) (a3 s ba) (b3 s bb) (by omega);obtain ⟨g1,g2,g3,g4,g5,g6,g7⟩:=Cq hg.t hg.n;refine ⟨Fi g,?_,hg.scale (XG g6) xn yn g1 g7 ax bx,g3,g4⟩;unfold JF; rw [e]; rfl
theorem Qdg {a:Um} (ta:Ff a):JF [] a=some (Fi (Fi a)):=by
 unfold JF;rw [qO];by_cases h:(Fi a).length=0
 ·have e:Fi a=[]:=Qj h;rw [e]; rfl
 ·have e:Te [] (Fi a)=[]:=by
   have e1:Ma [] (Fi a)=[]:=by unfold Ma; rw [show ([]:Um).length+1-(Fi a).length=0 by simp; omega]; rfl
   unfold Te;rw [e1];unfold Bw
   split <;> rfl
  have:TM 66 [] (Fi a)=some (Fi a):=by
   show (if (Fi a).length=0 then _ else _)=_;rw [if_neg h,e]; rfl
  rw [this]; rfl
theorem Qhp {n s:Nat} (hz:Szz n s) {a b:Um} (ta:Ff a) (tb:Ff b) (la:a.length<=n) (lb:b.length<=n) (ba:Bd s a) (bb:Bd s b) (h0:a.length≠0):∃ g,yE a b=some g/\Gc g a b/\Prm g/\0<Ft g:=by
 obtain ⟨a1,a2,a3,x,xn,ax⟩:=GQ ta;obtain ⟨b1,b2,b3,y,yn,bx⟩:=GQ a1;obtain ⟨g,e,hg,h1,h2⟩:=WA hz b1 tb (by omega) lb (b3 s (a3 s ba)) bb (by omega);refine ⟨g,?_,hg.scale (x:=1) (y:=x*y) (z:=1) (by decide) (λh=>(Y3.1 h).elim xn yn) (by decide) hg.t (λt=>by grind) (λt=>by rw [ax,bx]; grind) (λt=>by grind),h1,h2⟩;unfold yE;rw [Qdg ta]; exact e
theorem Qaf:∀ {p q:Up} {m n:Nat},HD p m->HD q n->(G8 p q).getD (m+n) 0=p.getD m 0*q.getD n 0
 | [],q,m,n,h,_=>absurd (by simp) h.1
 |
  a::p,q,0,n,h,h'=>by
  have h1:∀ k,p.getD k 0=0:=λk=>by have:=h.2 (k+1) (by omega); rwa [Q4] at this
  simp only [G8];rw [Rl,Sp,Zt,Zy];cases n with
  | zero=>rw [Zt]; grind
  | succ n=>rw [Q4,SU h1]; grind
 |
  a::p,q,m+1,n,h,h'=>by
  have ih:=Qaf (p:=p) (q:=q) (m:=m) ⟨by have:=h.1; rwa [Q4] at this,λk hk=>by have:=h.2 (k+1) (by omega); rwa [Q4] at this⟩ h';simp only [G8];rw [Rl,Sp,show m+1+n=(m+n)+1 by omega,Q4,h'.2 _ (by omega),ih,Q4]; grind
theorem fM {a b c:Um} (ta:Ff a) (tb:Ff b) (tc:Ff c) (h:∀ t,U9 c t=U9 a t*U9 b t) (la:0<a.length) (lb:0<b.length):Ft c=Ft a*Ft b:=by
 have h1:=SK ta la;have h2:=SK tb lb;have h3:=Qaf h1 h2;have hl:=Mp ta tb tc h la lb;rw [<-Dw (p:=cz c) (λt=>by rw [Fh,Fa,Fa,Fa,h]),Mm,Mm,Mm,show a.length-1+(b.length-1)=c.length-1 by omega] at h3;unfold Ft; exact_mod_cast h3
theorem Tg {a b c:Um} (tc:Ff c) (hc:c.length≠0) (h:∀ t,U9 c t=U9 a t*U9 b t):0<a.length/\0<b.length:=by
 constructor
 ·rcases Q3 a.length with e | e
  ·exact absurd (λt=>by rw [h,Dz e]; grind) (SZ tc (by omega))
  ·exact e
 ·rcases Q3 b.length with e | e
  ·exact absurd (λt=>by rw [h,Dz e]; grind) (SZ tc (by omega))
  ·exact e
theorem yL {b:Um} (tb:Ff b) (hb:b.length≠0):∀ (i:Nat) (a q h:Um),Ff a->Ff h->(∀ t,U9 a t=U9 b t*U9 h t)->a.length<b.length+i->i<=q.length->(∀ j,j<i->q.getD j 0=0)->∃ q',yD b i a q=some q'/\q'.length=q.length/\∀ t,U9 q' t=U9 q t+U9 h t
 |
  0,a,q,h,ta,th,e,hl,_,_=>by
  have ha:a.length=0:=by
   rcases Q3 a.length with e' | e'
   ·exact e'
   ·obtain ⟨p1,p2⟩:=Tg ta (by omega) e;have:=Mp tb th ta e p1 p2; omega
  refine ⟨q,by simp only [yD]; rw [if_pos ha],rfl,λt=>?_⟩;have:∀ t,U9 h t=0:=λt=>by
   have:=mK (p:=cz b) (q:=cz h) (r:=[]) (λh0=>SZ tb (by omega) λt=>by rw [<-Fa]; exact h0 t) (λt=>by rw [Fa,Fa,<-e,Dz ha]; simp only [ev]; grind) t;rwa [Fa] at this
  rw [this]; grind
 |
  i+1,a,q,h,ta,th,e,hl,hq,h0=>by
  simp only [yD];by_cases hlt:a.length<b.length+i
  ·rw [if_pos hlt];exact yL tb hb i a q h ta th e hlt (by omega) λj hj=>h0 j (by omega)
  ·rw [if_neg hlt];obtain ⟨p1,p2⟩:=Tg ta (by omega) e;have hln:=Mp tb th ta e p1 p2;have hld:=fM tb th ta e p1 p2;have hlb:=En tb hb;rw [hld,if_pos (Int.mul_emod_right _ _),Jc _ hlb];have hli:h.length=i+1:=by omega
   have e2:∀ t,U9 (M4 a (Gl (trim (mono i (Ft h))) b)) t=U9 b t*U9 (M4 h (mono i (Ft h))) t:=λt=>by
    rw [Nh,Nh,Gk,Ot,e]; grind
   have hl2:(M4 a (Gl (trim (mono i (Ft h))) b)).length<b.length+i:=by
    have hl:=aA (i:=i) (x:=Ft h) (b:=b) (a:=a);unfold sta at hl;have:=Qic (p:=M4 a (Gl (trim (mono i (Ft h))) b)) (n:=b.length+i-1) (Fz _ _) (by omega) (by
     rw [O2,iV,if_pos (by omega),show b.length+i-1-i=b.length-1 by omega,show b.length+i-1=a.length-1 by omega];have:Ft a=a.getD (a.length-1) 0:=rfl;rw [<-this,hld];unfold Ft;rw [K8,Int.sub_eq_zero])
    omega
   obtain ⟨q',h1,h2,h3⟩:=yL tb hb i _ (q.set i (Ft h)) (M4 h (mono i (Ft h))) (Fz _ _) (Fz _ _) e2 hl2 (by simp; omega) λj hj=>by
    rw [Qi,Yn,if_neg (by omega),<-Qi];exact h0 j (by omega)
   refine ⟨q',h1,by rw [h2,Xd],λt=>?_⟩;rw [h3,yC q i _ t (by omega),h0 i (by omega),Nh,JY]
   push_cast; grind
theorem Qjx {a b h:Um} {s:Nat} (ta:Ff a) (tb:Ff b) (th:Ff h) (ha:a.length≠0) (la:a.length<=10) (ba:Bd s a) (hs:s+69<=16777216) (e:∀ t,U9 a t=U9 b t*U9 h t):JW a b=some h:=by
 obtain ⟨p1,p2⟩:=Tg ta ha e;have hln:=Mp tb th ta e p1 p2;obtain ⟨q,h1,h2,h3⟩:=yL tb (by omega) (a.length+1-b.length) a (List.replicate (a.length+1-b.length) 0) h ta th e (by omega) (by simp) λj _=>Ci _ _
 have h4:trim q=h:=iI (Rp _) th λt=>by rw [Ot,h3,qL]; grind
 unfold JW;rw [if_neg (by omega),h1];show IE (trim q)=_;rw [h4];exact Ae (by omega) (U6 (XY ba la ta th tb ha λt=>by rw [e]; grind) (by omega))
structure Pr1 (p:List Int):Prop where
 t:Ff p
 m:Prm p
 l:0<Ft p
theorem Pr1.n {p:Um} (h:Pr1 p):p.length≠0:=λe=>by
 have:=h.l;rw [Qj e] at this;exact absurd this (by decide)
theorem Pr1.one {p:Um} (h:Pr1 p) (hl:p.length<2):p=[1]:=by
 have hn:=h.n;obtain ⟨c,rfl⟩:∃ c,p=[c]:=Kr.1 (by omega);have h1:=h.m c λk=>by cases k <;> simp
 have h2:0<c:=h.l;have:=Int.le_of_dvd (by decide) h1;rw [show c=1 by omega]
theorem Qpo {p g h:Um} (hp:Prm p) (e:∀ t,U9 p t=U9 g t*U9 h t):Prm h:=λd hd=>by
 refine hp d λk=>?_
 have:=Lm (p:=p) (q:=Gl g h) (λt=>by rw [e,Gk]) k;rw [this];have e2:∀ t,U9 (Gl g h) t=(d:Rat)*U9 (Gl g (h.map (· / d))) t:=λt=>by
  have h1:U9 h t=(d:Rat)*U9 (h.map (· / d)) t:=by
   have:=Cn d 0 t (max h.length (h.map (· / d)).length) (h.map (· / d)) [] h (by omega) (by simp) (by omega) λk=>by
    rw [FQ,K9 (hd k)]; simp
   rw [this]; simp only [U9]; push_cast; grind
  rw [Gk,Gk,h1]; grind
 have:=Lm (p:=Gl g h) (q:=Fv (Gl g (h.map (· / d))) d) (λt=>by rw [e2,Rm]; grind) k;rw [this,Md]; exact Y9 _ _
theorem Qpn {p g h:Um} (hp:Pr1 p) (hg:0<Ft g) (tg:Ff g) (th:Ff h) (e:∀ t,U9 p t=U9 g t*U9 h t):Pr1 h:=by
 obtain ⟨p1,p2⟩:=Tg hp.t hp.n e;have:=fM tg th hp.t e p1 p2;refine ⟨th,Qpo hp.m e,?_⟩;have hl:=hp.l;rw [this] at hl;rcases Km (Ft h) 0 with h1 | h1 | h1
 ·have:=V8 hg h1; omega
 ·rw [h1] at hl; omega
 ·exact h1
structure Sqp (p g q:List Int):Prop where
 pp:Pr1 p
 pg:Pr1 g
 pq:Pr1 q
 e:∀ t,U9 p t=U9 g t*U9 q t
 c:∃ U V,∀ t,U9 g t=ev U t*U9 p t+ev V t*dv (cz p) t
 d:∃ z,∀ t,dv (cz p) t=U9 g t*ev z t
theorem Sqp.num {p g q:Um} (h:Sqp p g q) {d:Up} (h1:ZN d (cz q)) (h2:ZN d (Bl (cz q))):∃ c:Rat,c≠0/\∀ t,ev d t=c:=by
 obtain ⟨U,V,hc⟩:=h.c;have hpow:=sqf (k:=1) (a:=cz p) (g:=cz g) (q:=cz q) (d:=d) (U:=U) (V:=V) (by decide) (λt=>by rw [Fa,Fa,Fa,h.e]) (λt=>by rw [Fa,Fa,hc]; grind) h1 h2;rcases DD d with h3 | ⟨m,_,h3⟩
 ·obtain ⟨u,hu⟩:=h1;exact absurd (λt=>by rw [<-Fa,hu,h3]; grind) (SZ h.pq.t (by have:=h.pq.n; omega))
 ·obtain rfl:=qI h3 (SK h.pg.t (by have:=h.pg.n; omega)) hpow;refine ⟨d.getD 0 0,h3.1,λt=>?_⟩;cases d with
  | nil=>exact absurd (by simp) h3.1
  |
   cons c l =>
   have:=D8 (p:=l) λk=>by have:=h3.2 (k+1) (by omega); rwa [Q4] at this
   simp only [ev,this,Zt]; grind
theorem Sqp.bez {p g q:Um} (h:Sqp p g q):∃ X Y,∀ t,ev X t*ev (cz q) t+ev Y t*dv (cz q) t=1:=by
 obtain ⟨d,U,V,h1,h2,h3⟩:=Qho (cz q) (Bl (cz q));obtain ⟨c,hc,hd⟩:=h.num h1 h2;refine ⟨D3 (1 / c) U,D3 (1 / c) V,λt=>?_⟩;have h5:=h3 t;rw [hd,Tr] at h5;have h4:1 / c*c=1:=Zj hc;rw [Gu,Gu];have:1 / c*ev U t*ev (cz q) t+1 / c*ev V t*dv (cz q) t=1 / c*(ev U t*ev (cz q) t+ev V t*dv (cz q) t):=by grind
 rw [this,<-h5,h4]
theorem Qk2 {n s:Nat} (h:Szz n s):s<=8388600:=by
 have:2*(s+8)*1<=2*(s+8)*3^(n-1):=Zu _ (Z2 (by decide));have:=h.2; omega
theorem pY {s:Nat} {p:Um} (h:Bd s p) (hl:p.length<=10):Bd (s+4) (Gx p):=xH h (t:=4) (by omega)
theorem Qab {n s:Nat} (hz:Szz n (s+73)) {p:Um} (pp:Pr1 p) (l2:2<=p.length) (lp:p.length<=n) (bp:Bd (s+69) p) {p0 h0:Um} (b0:Bd s p0) (l0:p0.length<=10) (t0:Ff p0) (th0:Ff h0) (z0:p0.length≠0) (e0:∀ t,U9 p0 t=U9 h0 t*U9 p t) :
 ∃ g q,IE (Gx p)=some (Gx p)/\JF p (Gx p)=some g/\JW p g=some q/\Sqp p g q/\g.length<p.length:=by
 have hn:=hz.1;have hs:=Qk2 hz;have bd:=pY bp (by omega);have ld:=Nb p;have td:Ff (Gx p):=Fz _ _;obtain ⟨g,e1,hg,m,l⟩:=WA hz pp.t td lp (by omega) (U6 bp (by omega)) bd (.inl pp.n);obtain ⟨q,tq,eq⟩:=Qhi m hg.da;have hdnz:(Gx p).length≠0:=λh=>by
  have h1:=Bv p (p.length-2);rw [Qj h,show p.length-2+1=p.length-1 by omega] at h1;have h2:p.getD (p.length-1) 0≠0:=H9 pp.t (by omega);rcases Yf.1 (h1.symm.trans (by simp)) with h3 | h3
  ·exact h2 h3
  ·omega
 have pg:Pr1 g:=⟨hg.t,m,l⟩;have hql:=Qjx (s:=s+69) pp.t hg.t tq pp.n (by omega) bp (by omega) eq;refine ⟨g,q,Ae (by omega) (U6 bd (by omega)),e1,hql,⟨pp,pg,Qpn pp l hg.t tq eq,eq,?_,?_⟩,?_⟩
 ·obtain ⟨U,V,hc⟩:=hg.c;exact ⟨U,V,λt=>by rw [hc,Oq]⟩
 ·obtain ⟨z,hz⟩:=hg.db;exact ⟨z,λt=>by rw [<-Oq,<-Fa,hz,Fa]⟩
 ·obtain ⟨z,tz,ez⟩:=Qhi m hg.db;obtain ⟨q1,q2⟩:=Tg td hdnz ez;have:=Mp hg.t tz td ez q1 q2;omega
theorem Qpc:Sqp [1] [1] [1]:=by
 have p1:Pr1 [1]:=⟨rfl,λd hd=>by have:=hd 0; rwa [Zt] at this,by decide⟩;have e1:∀ t,U9 [1] t=1:=λt=>by simp only [U9]; push_cast; grind
 exact ⟨p1,p1,p1,λt=>by rw [e1]; grind,⟨[1],[],λt=>by rw [e1,Tf]; simp only [ev]; grind⟩,⟨[],λt=>by simp only [cz,Zz,X6,dv,ev]; grind⟩⟩
structure Okp (n s:Nat) (p:List Int):Prop where
 z:Szz n (s+73)
 t:Ff p
 nz:p.length≠0
 l:p.length<=n
 b:Bd s p
theorem Okp.pr {n s:Nat} {p:Um} (h:Okp n s p):Pr1 (Fi p)/\(Fi p).length=p.length/\Bd s (Fi p):=by
 obtain ⟨h1,h2,h3,h4,h5,_⟩:=Cq h.t h.nz;exact ⟨⟨h1,h3,h4⟩,h2,h5 s h.b⟩
theorem VJ {n s:Nat} {p:Um} (h:Okp n s p):∃ g q,Pm p=some q/\Sqp (Fi p) g q:=by
 obtain ⟨pp,hl,hb⟩:=h.pr;have hn:=h.z.1;have:=h.l;unfold Pm;by_cases h2:(Fi p).length<2
 ·rw [if_pos h2,pp.one h2]; exact ⟨[1],[1],rfl,Qpc⟩
 ·rw [if_neg h2];obtain ⟨g,q,h3,h4,h5,h6,_⟩:=Qab h.z pp (by omega) (by omega) (U6 hb (by omega)) (p0:=Fi p) (h0:=[1]) hb (by omega) pp.t rfl pp.n λt=>by simp only [U9]; push_cast; grind
  exact ⟨g,q,by rw [h3]; show (JF (Fi p) (Gx (Fi p))).bind _=_; rw [h4]; exact h5,h6⟩
inductive LW:List Int->List (List Int)->Prop
 | nil:LW [1] []
 | cons {g h w:List Int} {ws:List (List Int)} (hs:Sqp g h w) (hl:LW h ws):LW g (w::ws)
theorem Qvc {g:Um} {ws:Un} (h:LW g ws):∀ t,U9 g t=ev (On (ws.map cz)) t:=by
 induction h with
 | nil=>intro t; simp only [X6,On,U9]; rw [Tf]; push_cast; grind
 | cons hs hl ih=>intro t; simp only [Zz,On]; rw [Fh,Fa,hs.e,ih]; grind
theorem iY {g:Um} {w v:Um} {ws:Un} (h:LW g (w::v::ws)):∃ f,Ff f/\∀ t,U9 w t=U9 f t*U9 v t:=by
 cases h with
 |
  @cons _ h _ _ hs hl =>
  cases hl with
  |
   @cons _ h2 _ _ hs2 hl2 =>
   obtain ⟨X,Y,hb⟩:=hs2.bez;obtain ⟨z,hz⟩:=hs.d;have hd:=Qqn (a:=cz g) (g:=cz h) (q:=cz w) (z:=z) (r:=cz v) (X:=X) (Y:=Y) (n:=h.length-1) (λt=>by rw [Fa,Fa,Fa,hs.e]) (λt=>by rw [hz,Fa]) (SK hs.pg.t (by have:=hs.pg.n; omega)) hb
    ⟨G8 (cz h2) (cz w),λt=>by rw [Fh,Fa,Fa,Fa,Fa,hs.e,hs2.e]; grind⟩
   obtain ⟨f,tf,ef⟩:=Qhi hs2.pq.m hd;exact ⟨f,tf,λt=>by rw [ef]; grind⟩
theorem fL {g w:Um} {ws:Un} (h:LW g (w::ws)):∀ v∈w::ws,Pr1 v/\ZN (cz v) (cz w):=by
 have key:∀ (ws:Un) (g w:Um),LW g (w::ws)->∀ v∈w::ws,Pr1 v/\ZN (cz v) (cz w):=by
  intro ws
  induction ws with
  |
   nil =>
   intro g w h v hv;rw [Qk.1 hv];cases h with
   | cons hs hl=>exact ⟨hs.pq,dvd_refl _⟩
  |
   cons u ws ih =>
   intro g w h v hv;have hn:=iY h;cases h with
   |
    @cons _ h _ _ hs hl =>
    rcases Qm.1 hv with rfl | hv
    ·exact ⟨hs.pq,dvd_refl _⟩
    ·obtain ⟨i1,i2⟩:=ih h u hl v hv;obtain ⟨f,_,hf⟩:=hn;exact ⟨i1,dvd_trans i2 ⟨cz f,λt=>by rw [Fa,Fa,Fa,hf]; grind⟩⟩
 exact key ws g w h
theorem lay_ok {n s:Nat} (hz:Szz n (s+73)) {p0:Um} (b0:Bd s p0) (l0:p0.length<=10) (t0:Ff p0) (z0:p0.length≠0):∀ (k:Nat) (g h0:Um),Pr1 g->g.length<=k->g.length<=n->Ff h0->(∀ t,U9 p0 t=U9 h0 t*U9 g t)->∃ ws,RH k g=some ws/\LW g ws
 | 0,g,_,pg,hk,_,_,_=>absurd pg.n (by omega)
 |
  k+1,g,h0,pg,hk,hn,th0,e0=>by
  simp only [RH];by_cases h2:g.length<2
  ·rw [if_pos h2,pg.one h2]; exact ⟨[],rfl,.nil⟩
  ·rw [if_neg h2];have bg:Bd (s+69) g:=XY b0 l0 t0 pg.t th0 z0 λt=>by rw [e0]; grind
   obtain ⟨h,w,h3,h4,h5,h6,h7⟩:=Qab hz pg (by omega) hn bg b0 l0 t0 th0 z0 e0;obtain ⟨ws,i1,i2⟩:=lay_ok hz b0 l0 t0 z0 k h (Gl h0 w) h6.pg (by omega) (by omega) (Hz _ _) λt=>by rw [e0,Gk,h6.e]; grind
   refine ⟨w::ws,?_,.cons h6 i2⟩;rw [h3];show (JF g (Gx g)).bind _=_;rw [h4];show (JW g h).bind _=_;rw [h5];show (RH k h).bind _=_;rw [i1]; rfl
theorem Qhb {s:Nat} {p0:Um} (b0:Bd s p0) (l0:p0.length≤10) (t0:Ff p0) (z0:p0.length≠0) (hs:s+69+69≤16777216):∀ (ws:Un) (g h0:Um),LW g ws->Ff h0->(∀ t,U9 p0 t=U9 h0 t*U9 g t)->∃ fs,AE ws=some fs/\Lay (ws.map cz) (fs.map cz)/\∀ f∈fs,Ff f
 | [],g,_,_,_,_=>⟨[],rfl,trivial,λf hf=>by cases hf⟩
 |
  [w],g,_,hl,_,_=>by
  cases hl with
  | cons hs hl=>exact ⟨[w],rfl,λt=>rfl,λf hf=>by rw [Qk.1 hf]; exact hs.pq.t⟩
 |
  w::v::ws,g,h0,hl,th0,e0=>by
  obtain ⟨f,tf,ef⟩:=iY hl;cases hl with
  |
   @cons _ h _ _ hs1 hl =>
   have hpv:=(fL hl v (Qx ..)).1;obtain ⟨fs,i1,i2,i3⟩:=Qhb b0 l0 t0 z0 hs (v::ws) h (Gl h0 w) hl (Hz _ _) λt=>by rw [e0,Gk,hs1.e]; grind
   have ew:∀ t,U9 p0 t=U9 w t*U9 (Gl h0 h) t:=λt=>by rw [e0,Gk,hs1.e]; grind
   have bw:Bd (s+69) w:=XY b0 l0 t0 hs1.pq.t (Hz _ _) z0 ew;obtain ⟨p1,p2⟩:=Tg t0 z0 ew;have lw:=Mp hs1.pq.t (Hz _ _) t0 ew p1 p2;have hq:=Qjx (s:=s+69) hs1.pq.t hpv.t tf hs1.pq.n (by omega) bw hs λt=>by rw [ef]; grind
   refine ⟨f::fs,?_,⟨λt=>by rw [Fa,Fa,Fa,ef],i2⟩,λx hx=>?_⟩
   ·show (JW w v).bind _=_;rw [hq];show (AE (v::ws)).bind _=_;rw [i1]; rfl
   ·rcases Qm.1 hx with rfl | hx
    ·exact tf
    ·exact i3 x hx
def Ng:Un->Um
 | []=>[1]
 | [f]=>f
 | f::_::l=>Gl f (Ng l)
theorem gU:∀ (fs:Un) (t:Rat),ev (PN (fs.map cz)) t=U9 (Ng fs) t
 | [],t=>by simp only [X6,PN,Ng,U9]; rw [Tf]; push_cast; grind
 | [f],t=>by simp only [Zz,X6,PN,Ng]; rw [Fa]
 | f::g::l,t=>by simp only [Zz,PN,Ng]; rw [Fh,Fa,Gk,gU l]
theorem Nw (t:Rat):U9 [1] t=1:=by simp only [U9]; push_cast; grind
theorem OT:∀ {w:Um} {ws fs:Un},Lay ((w::ws).map cz) (fs.map cz)->(∀ f∈fs,Ff f)->(∀ v∈w::ws,Ff v)->∃ E,Ff E/\∀ t,U9 w t=U9 (Ng fs) t*U9 E t
 |
  w,[],[f],h,_,_=>⟨[1],rfl,λt=>by
  have:=h t;rw [Fa,Fa] at this;rw [this,Nw]; simp only [Ng]; grind⟩
 |
  w,[v],[f,f2],h,_,hw=>⟨v,hw v (by simp),λt=>by
  have:=h.1 t;rw [Fa,Fa,Fa] at this;rw [this]; simp only [Ng]; rw [Gk,Nw]; grind⟩
 |
  w,v::x::l,f::f2::fs,h,hf,hw=>by
  obtain ⟨E,hE,e⟩:=OT (w:=x) (ws:=l) (fs:=fs) h.2.2 (λg hg=>hf g (by simp [hg])) (λg hg=>hw g (by simp at hg ⊢; exact .inr (.inr hg)));refine ⟨Gl f2 E,Hz _ _,λt=>?_⟩;have a1:=h.1 t;have a2:=h.2.1 t;rw [Fa,Fa,Fa] at a1 a2;have e2:U9 (Ng (f::f2::fs)) t=U9 f t*U9 (Ng fs) t:=by simp only [Ng]; rw [Gk]
  rw [a1,a2,e,e2,Gk]; grind
 | w,[],[],h,_,_=>h.elim
 | w,[],_::_::_,h,_,_=>h.elim
 | w,[v],[],h,_,_=>h.elim
 | w,[v],[f],h,_,_=>h.2.elim
 | w,[v],_::_::_::_,h,_,_=>h.2.elim
 | w,v::x::l,[f],h,_,_=>h.2.elim
 | w,v::x::l,[],h,_,_=>h.elim
theorem YC {s:Nat} {p0:Um} (b0:Bd s p0) (l0:p0.length≤10) (t0:Ff p0) (z0:p0.length≠0) (hs:s+69≤16777216):∀ (fs:Un) (i:Nat) (a E:Um),i % 2=0->Ff a->Ff E->(∀ f∈fs,Ff f)->(∀ t,U9 p0 t=U9 a t*U9 (Ng fs) t*U9 E t)->∃ o,FN i a fs=some o/\Ff o/\∀ t,U9 o t=U9 a t*U9 (Ng fs) t
 | [],i,a,E,hi,ta,_,_,_=>⟨a,rfl,ta,λt=>by simp only [Ng]; rw [Nw]; grind⟩
 |
  [f],i,a,E,hi,ta,tE,tf,hE=>by
  have e1:∀ t,U9 p0 t=U9 (Gl a f) t*U9 E t:=λt=>by rw [hE,Gk]; rfl
  have b1:=XY b0 l0 t0 (Hz a f) tE z0 e1;obtain ⟨p1,p2⟩:=Tg t0 z0 e1;have hl:=Mp (Hz a f) tE t0 e1 p1 p2;refine ⟨Gl a f,?_,Hz _ _,λt=>by rw [Gk]; rfl⟩;simp only [FN];rw [if_pos hi,Ae (by omega) (U6 b1 (by omega))]; rfl
 |
  f::g::fs,i,a,E,hi,ta,tE,tf,hE=>by
  have e0:∀ t,U9 (Ng (f::g::fs)) t=U9 f t*U9 (Ng fs) t:=λt=>by simp only [Ng]; rw [Gk]
  have e1:∀ t,U9 p0 t=U9 (Gl a f) t*U9 (Gl (Ng fs) E) t:=λt=>by rw [hE,e0,Gk,Gk]; grind
  have b1:=XY b0 l0 t0 (Hz a f) (Hz _ _) z0 e1;obtain ⟨p1,p2⟩:=Tg t0 z0 e1;have hl:=Mp (Hz a f) (Hz _ _) t0 e1 p1 p2;obtain ⟨o,o1,o2,o3⟩:=YC b0 l0 t0 z0 hs fs (i+2) (Gl a f) E (by omega) (Hz _ _) tE (λx hx=>tf x (by simp [hx])) λt=>by rw [hE,e0,Gk]; grind
  refine ⟨o,?_,o2,λt=>by rw [o3,e0,Gk]; grind⟩;have h1:FN (i+1) (Gl a f) (g::fs)=FN (i+2) (Gl a f) fs:=by
   show (if (i+1) % 2=0 then _ else _)=_;rw [if_neg (by omega)]
  show (if i % 2=0 then (IE (Gl a f)).bind λq=>FN (i+1) q (g::fs) else _)=_;rw [if_pos hi,Ae (by omega) (U6 b1 (by omega))];exact h1.trans o1
structure Parts (p q o:List Int):Prop where
 sq:∃ g,Sqp (Fi p) g q
 ws:∃ ws:List (List Int),(∀ w∈ws,Pr1 w/\ZN (cz w) (cz q))/\∀ t,U9 (Fi p) t=ev (On (ws.map cz)) t
 oq:ZN (cz o) (cz q)
 ot:Ff o
 oh:∃ h,Ff h/\∀ t,U9 (Fi p) t=U9 o t*U9 h t
 os:∃ S,∀ t,U9 (Fi p) t=U9 o t*(ev S t*ev S t)
theorem Qi5 {n s:Nat} {p:Um} (h:Okp n s p):∃ q o,Pm p=some q/\bG p=some o/\Parts p q o:=by
 obtain ⟨pp,hl,hb⟩:=h.pr;have hn:=h.z.1;have hpl:=h.l;have hs:=Qk2 h.z;obtain ⟨g,q,hq,sq⟩:=VJ h;obtain ⟨ws,w1,w2⟩:=lay_ok h.z hb (by omega) pp.t pp.n 66 (Fi p) [1] pp (by omega) (by omega) rfl λt=>by rw [Nw]; grind
 obtain ⟨fs,f1,f2,f3⟩:=Qhb hb (by omega) pp.t pp.n (by omega) ws (Fi p) [1] w2 rfl λt=>by rw [Nw]; grind
 have hw:=Qvc w2;have hfirst:(∀ w∈ws,Pr1 w/\ZN (cz w) (cz q))/\∃ E,Ff E/\∀ t,U9 q t=U9 (Ng fs) t*U9 E t:=by
  cases ws with
  |
   nil =>
   have e:fs=[]:=by
    cases fs with
    | nil=>rfl
    | cons f l=>exact f2.elim
   subst e;exact ⟨(λw hw=>by cases hw),q,sq.pq.t,λt=>by simp only [Ng]; rw [Nw]; grind⟩
  |
   cons w ws =>
   have hwq:w=q:=by
    have w3:(if (Fi p).length<2 then some [] else (IE (Gx (Fi p))).bind λd=>(JF (Fi p) d).bind λh=>(JW (Fi p) h).bind λw=>(RH 65 h).bind λl=>some (w::l))=some (w::ws):=w1;have hlen:¬(Fi p).length<2:=λh2=>by
     rw [if_pos h2] at w3;injection w3 with w3;cases w3
    rw [if_neg hlen] at w3;unfold Pm at hq;rw [if_neg hlen] at hq;obtain ⟨d,d1,w3⟩:=Qd.1 w3;obtain ⟨h,d2,w3⟩:=Qd.1 w3;obtain ⟨w',d3,w3⟩:=Qd.1 w3;obtain ⟨l,d4,w3⟩:=Qd.1 w3;rw [d1] at hq;have hq:(JF (Fi p) d).bind (λg=>JW (Fi p) g)=some q:=hq;rw [d2] at hq;have hq:JW (Fi p) h=some q:=hq;rw [d3] at hq;injection hq with hq;injection w3 with w3;injection w3 with w3 _;rw [<-w3,hq]
   subst hwq;have hall:=fL w2;exact ⟨hall,OT f2 f3 λv hv=>(hall v hv).1.t⟩
 obtain ⟨ha,E,tE,hE⟩:=hfirst;obtain ⟨o,o1,o2,o3⟩:=YC hb (by omega) pp.t pp.n (by omega) fs 0 [1] (Gl E g) rfl rfl (Hz _ _) f3 λt=>by rw [Nw,Gk,sq.e,hE]; grind
 have o3:∀ t,U9 o t=U9 (Ng fs) t:=λt=>by rw [o3,Nw]; grind
 refine ⟨q,o,hq,?_,⟨g,sq⟩,⟨ws,ha,hw⟩,⟨cz E,λt=>by rw [Fa,Fa,Fa,hE,o3]⟩,o2,⟨Gl E g,Hz _ _,λt=>by rw [sq.e,hE,o3,Gk]; grind⟩,?_⟩
 ·unfold bG;rw [if_neg pp.n,w1];show (AE ws).bind _=_;rw [f1]; exact o1
 ·obtain ⟨S,hS⟩:=aD f2;exact ⟨S,λt=>by rw [hw,hS,gU,o3]⟩
theorem eJ {s:Nat}:∀ (k:Nat) (a b:Um),Ff a->Ff b->b.length≠0->b.length<k->b.length<a.length->a.length<=60->Bd s a->Bd s b->(s+8)*3^(a.length-1)<=16777216->(∀ d,ZN d (cz a)->ZN d (cz b)->∃ c:Rat,c≠0/\∀ t,ev d t=c)->∃ l,sM k a b=some (b::l)/\SCl (cz a) (cz b) (l.map cz)
 | 0,_,_,_,_,_,h,_,_,_,_,_,_=>by omega
 |
  k+1,a,b,ta,tb,hb,hk,hab,hl,ba,bb,hs,hd=>by
  obtain ⟨h1,h2,h3,u,v,up,vp,X,hX⟩:=NW ta tb hb hl;have h3:=h3 s ba bb;obtain ⟨m,hm⟩:=nmE (a.length-b.length);have e1:a.length+1-b.length=m+1:=by omega
  rw [e1] at h3;have e2:s+(m+1)*(s+8)+8=(m+2)*(s+8):=by
   rw [show m+2=(m+1)+1 by omega,Xa (m+1)]; omega
  have e3:(m+2)*(s+8)*3^(b.length-1)<=(s+8)*3^(a.length-1):=by
   rw [show a.length-1=m+(b.length-1) by omega,Xf,<-Xy,Zq (s+8)];exact Q0 _ (Q0 _ (Qvq m (by omega)))
  have e4:s+(m+1)*(s+8)<=16777216:=by
   have:(m+2)*(s+8)<=(m+2)*(s+8)*3^(b.length-1):=Ys _ (Z2 (by decide));omega
  simp only [sM];rw [if_neg hb,Ae (by omega) (U6 h3 e4)];show ∃ l,((sM k b (Mq (Te a b))).bind λl=>some (b::l))=some (b::l)/\_;have lneg:(Mq (Te a b)).length<=(Te a b).length:=XN _;by_cases hr:(Te a b).length=0
  ·have e:Mq (Te a b)=[]:=Qj (by omega);rw [e];refine ⟨[],?_,?_⟩
   ·obtain ⟨j,rfl⟩:∃ j,k=j+1:=⟨k-1,by omega⟩;rfl
   ·obtain ⟨c,hc,hcc⟩:=hd (cz b) ⟨D3 (1 / u) X,λt=>by
     have:=hX t;rw [Dz hr] at this;have hu:1 / u*u=1:=Hf up;rw [Fa,Fa,Gu];have:U9 a t=1 / u*(u*U9 a t):=by grind
     rw [this,hX,Dz hr]; grind⟩ (dvd_refl _)
    exact .base hc hcc
  ·have tn:Ff (Mq (Te a b)):=Fz _ _;have hn0:(Mq (Te a b)).length≠0:=λh0=>by
    have:=QE (c:=-1) h1 tn (by decide) λt=>by rw [FD]; grind
    omega
   obtain ⟨l,i1,i2⟩:=eJ (s:=s+(m+1)*(s+8)) k b (Mq (Te a b)) tb tn hn0 (by omega) (by omega) (by omega) (U6 bb (by omega)) (MZ h3) (by rw [e2]; omega) λd d1 d2=>by
    refine hd d ?_ d1;obtain ⟨y,hy⟩:=d1;obtain ⟨z,hz⟩:=d2;have hu:1 / u*u=1:=Hf up;refine ⟨D3 (1 / u) (Sv (G8 X y) (D3 (-v) z)),λt=>?_⟩;have a1:=hX t; have a2:=hy t; have a3:=hz t;rw [Fa] at a2 a3;rw [FD] at a3;rw [Fa,Gu,G0,Fh,Gu];have:U9 a t=1 / u*(u*U9 a t):=by grind
    rw [this,a1,a2,show U9 (Te a b) t=-(ev d t*ev z t) by grind]; grind
   refine ⟨Mq (Te a b)::l,by rw [i1]; rfl,?_⟩;rw [Zz];exact .step (q:=X) up vp (λt=>by rw [Fa,Fa,Fa,hX,FD]; clear i2 i1 hd h3 hs; grind) i2
theorem WE (x:Rat):∀ (l:Un) (n:Nat) (s:Int),(l.foldl (Pq λp=>Re p x) (n,s)).1=n+tc x s (l.map cz)
 | [],n,s=>rfl
 |
  p::l,n,s=>by
  simp only [Z9,Zz,tc,Pq];rw [Nk,Fa]
  split
  ·exact WE x l n s
  ·rw [WE x l]
   split <;> omega
theorem ZY (l:Un) (x:Rat):C0 l x=vv (l.map cz) x:=by
 have:=WE x l 0 0;unfold C0 Cz vv;rw [this]; omega
theorem Qgf {n s:Nat} (hz:Szz n (s+73)) {P g q:Um} (sq:Sqp P g q) (lq:q.length<=n) (bq:Bd (s+69) q):∃ d,IE (Gx q)=some d/\∃ l,sM 66 q (Fi d)=some l/\HJ (cz q) ((q::l).map cz)/\(q.length<2->l=[]):=by
 have hn:=hz.1;have hs:=Qk2 hz;have bd:=pY bq (by omega);have ld:=Nb q;refine ⟨Gx q,Ae (by omega) (U6 bd (by omega)),?_⟩;have hq0:=sq.pq.n;by_cases h2:q.length<2
 ·have e:Fi (Gx q)=[]:=by rw [Qj (l:=Gx q) (by omega)]; rfl
  rw [e];refine ⟨[],rfl,.inl ⟨1,by decide,λt=>?_,rfl⟩,λ_=>rfl⟩;rw [Fa,sq.pq.one h2,Nw]
 ·have hdnz:(Gx q).length≠0:=λh=>by
   have h1:=Bv q (q.length-2);rw [Qj h,show q.length-2+1=q.length-1 by omega] at h1;have h3:q.getD (q.length-1) 0≠0:=H9 sq.pq.t (by omega);rcases Yf.1 (h1.symm.trans (by simp)) with h4 | h4
   ·exact h3 h4
   ·omega
  obtain ⟨p1,p2,p3,p4,p5,p6,p7⟩:=Cq (p:=Gx q) (Fz _ _) hdnz;have hdl:Ft (Gx q)=Ft q*((q.length-1:Nat):Int):=by
   have hld:(Gx q).length=q.length-1:=by
    rcases Zb (Gx q).length (q.length-1) with h | h
    ·have h1:=Bv q (q.length-2);rw [Qi,Qu (by omega),show q.length-2+1=q.length-1 by omega] at h1;have h3:q.getD (q.length-1) 0≠0:=H9 sq.pq.t (by omega);rcases Yf.1 (h1.symm.trans (by simp)) with h4 | h4
     ·exact absurd h4 h3
     ·omega
    ·omega
   unfold Ft;rw [hld,Bv,show q.length-1-1+1=q.length-1 by omega]
  have hfac:0<Hp (Gx q):=by
   have hlp:0<Ft (Gx q):=by rw [hdl]; exact Int.mul_pos sq.pq.l (by omega)
   have hc:=JJ (p:=Gx q) (Fz _ _) hdnz;unfold Hp;rw [if_neg (by omega)];unfold Pg at hc ⊢; omega
  have hfq:((0:Int):Rat)<(Hp (Gx q):Rat):=Jn.2 hfac;have hfq:(0:Rat)<(Hp (Gx q):Rat):=by simpa using hfq
  have hff:1 / (Hp (Gx q):Rat)*(Hp (Gx q):Rat)=1:=Hf hfq;have hz2:=hz.2;have hp3:(s+73+8)*3^(q.length-1)<=16777216:=by
   have:(s+73+8)*3^(q.length-1)<=(s+73+8)*3^(n-1):=Zu _ (Zs (by decide) (by omega));rw [Xy] at hz2; omega
  obtain ⟨l,h3,h4⟩:=eJ (s:=s+73) 66 q (Fi (Gx q)) sq.pq.t p1 (by omega) (by omega) (by omega) (by omega) (U6 bq (by omega)) (p5 _ bd) hp3 λd d1 d2=>sq.num d1 (by
   obtain ⟨z,hz⟩:=d2;exact ⟨D3 (Hp (Gx q)) z,λt=>by
    have:=hz t;rw [Fa] at this;rw [Tr,<-Oq,p7,this,Gu]; grind⟩)
  refine ⟨Fi (Gx q)::l,h3,.inr ⟨cz (Fi (Gx q)),l.map cz,1 / (Hp (Gx q):Rat),Ag (by decide) hfq,λt=>?_,h4,rfl⟩,λh=>absurd h h2⟩;rw [Fa,<-Oq,p7 t]; grind
theorem chain_ok {n s:Nat} {p:Um} (h:Okp n s p):∃ q l,Pm p=some q/\Eb p=some (q::l)/\HJ (cz q) ((q::l).map cz)/\(q.length<2->l=[]):=by
 obtain ⟨pp,hl,hb⟩:=h.pr;have hn:=h.z.1;have hpl:=h.l;obtain ⟨g,q,hq,sq⟩:=VJ h;have e1:∀ t,U9 (Fi p) t=U9 q t*U9 g t:=λt=>by rw [sq.e]; grind
 obtain ⟨p1,p2⟩:=Tg pp.t pp.n e1;have hll:=Mp sq.pq.t sq.pg.t pp.t e1 p1 p2;obtain ⟨d,d1,l,d2,d3⟩:=Qgf h.z sq (by omega) (XY hb (by omega) pp.t sq.pq.t sq.pg.t pp.n e1);refine ⟨q,l,hq,?_,d3⟩;unfold Eb;rw [hq];show (if q.length=0 then none else _)=_;rw [if_neg sq.pq.n,d1];show (sM 66 q (Fi d)).bind _=_;rw [d2]; rfl
structure Gr (D M k:Nat) (q:Rat):Prop where
 u:∃ u:Int,q*((D*2^k:Nat):Rat)=(u:Rat)
 b:Fj q<=(M:Rat)
 d:0<D
theorem nat_pos {n:Nat} (h:0<n):(0:Rat)<(n:Rat):=by
 have:((0:Nat):Rat)<(n:Rat):=Vo.2 h;simpa using this
theorem qJ {D M k:Nat} {q:Rat} (h:Gr D M k q):Gr D M (k+1) q:=by
 obtain ⟨u,hu⟩:=h.u;refine ⟨⟨u*2,?_⟩,h.b,h.d⟩;rw [Zr,<-Xy]
 push_cast at hu ⊢
 rw [<-hu]; grind
theorem Qhx {D M k:Nat} {a b:Rat} (ha:Gr D M k a) (hb:Gr D M k b):Gr D M (k+1) ((a+b) / 2):=by
 obtain ⟨u,hu⟩:=ha.u;obtain ⟨v,hv⟩:=hb.u;have h2:(a+b) / 2*2=a+b:=Hf (by decide);refine ⟨⟨u+v,?_⟩,?_,ha.d⟩
 ·rw [Zr,<-Xy]
  push_cast at hu hv ⊢
  rw [<-hu,<-hv];generalize (a+b) / 2=c at *;generalize (D:Rat)*2^k=z at *;have:c*(z*2)=(c*2)*z:=by grind
  rw [this,h2]; grind
 ·have h3:=ha.b;have h4:=hb.b;rw [Mf] at *;constructor <;> grind
theorem Qu0 {D M k:Nat} {q:Rat} (h:Gr D M k q):q.den<=D*2^k:=by
 obtain ⟨u,hu⟩:=h.u;have hp:0<D*2^k:=J5 h.d (Z2 (by decide));have e:q=Rat.divInt u ((D*2^k:Nat):Int):=by
  rw [<-Ra,<-hu];have hz:=nat_pos hp;rw [show ((((D*2^k:Nat):Int)):Rat)=((D*2^k:Nat):Rat) from rfl];rw [J6];have:=Ws ((D*2^k:Nat):Rat) (by grind);generalize ((D*2^k:Nat):Rat)=z at *;have:q*z*z⁻¹=q*(z*z⁻¹):=by grind
  rw [this,‹z*z⁻¹=1›]; grind
 rw [e,Wm,if_neg (by omega),Xh];exact Jq _ _
theorem DO {a b k:Nat} {z:Int} (h:z.natAbs<=a*(b*2^k)):Fe z<=Fe (a:Int)+Fe (b:Int)+k:=by
 have h1:Fe (a:Int)<=Fe (a:Int):=Ql _;have h2:Fe (b:Int)<=Fe (b:Int):=Ql _;rw [Sf] at h1 h2 ⊢;rw [Xh] at h1 h2;rw [Xf,Xf];have h3:a*b<2^Fe (a:Int)*2^Fe (b:Int):=Nat.mul_lt_mul_of_lt_of_le h1 (Yk h2) (Z2 (by decide));have h4:=Xm h3 (show 0<2^k from Z2 (by decide));rw [<-Xy] at h; omega
theorem qX {D M k B:Nat} {q:Rat} (h:Gr D M k q) (hM:0<M) (hs:Fe (D:Int)+Fe (M:Int)+k<=B):Qs B q:=by
 have hd:=Qu0 h;have hden:=nat_pos q.den_pos;have h1:(q.num.natAbs:Rat)<=((M*(D*2^k):Nat):Rat):=by
  have e:(q.num:Rat)=q*(q.den:Rat):=by
   have:(q.num:Rat) / (((q.den:Int)):Rat)=q:=by rw [Ra,Z5]
   have h2:(q.num:Rat) / (q.den:Rat)*(q.den:Rat)=q.num:=Zj (by grind);rw [show (q.num:Rat) / (q.den:Rat)=q from this] at h2; exact h2.symm
  rw [<-Sy,e];have h3:=Hd (x:=q) (y:=(q.den:Rat)) (b:=((D*2^k:Nat):Rat)) h.b (by
   have:Fj (q.den:Rat)=(q.den:Rat):=by unfold Fj; rw [if_neg (by grind)]
   rw [this]; exact Zm.2 hd)
  push_cast at h3 ⊢; exact h3
 have h1:=Zm.1 h1;refine ⟨?_,?_⟩
 ·have:=DO (z:=q.num) h1; omega
 ·have:=DO (z:=(q.den:Int)) (a:=M) (b:=D) (k:=k) (by
   rw [Xh];exact Qa hd (Nat.le_mul_of_pos_left _ hM))
  omega
theorem nL (a b:Rat):mid a b=(a+b) / 2:=by
 unfold mid;rw [<-Ra];have ha:(a.num:Rat)=a*(a.den:Rat):=by
  have:(a.num:Rat) / (((a.den:Int)):Rat)=a:=by rw [Ra,Z5]
  have h2:(a.num:Rat) / (a.den:Rat)*(a.den:Rat)=a.num:=Zj (by have:=nat_pos a.den_pos; grind);rw [show (a.num:Rat) / (a.den:Rat)=a from this] at h2; exact h2.symm
 have hb:(b.num:Rat)=b*(b.den:Rat):=by
  have:(b.num:Rat) / (((b.den:Int)):Rat)=b:=by rw [Ra,Z5]
  have h2:(b.num:Rat) / (b.den:Rat)*(b.den:Rat)=b.num:=Zj (by have:=nat_pos b.den_pos; grind);rw [show (b.num:Rat) / (b.den:Rat)=b from this] at h2; exact h2.symm
 have pa:=nat_pos a.den_pos;have pb:=nat_pos b.den_pos;rw [Kc,Xz,Xz,Xz,Xz,ha,hb];rw [show (((a.den:Int)):Rat)=(a.den:Rat) from rfl,show (((b.den:Int)):Rat)=(b.den:Rat) from rfl,show (((2:Int)):Rat)=2 from rfl];generalize (a.den:Rat)=x at *;generalize (b.den:Rat)=y at *;have hxy:=Iw (Iw pa pb) (show (0:Rat)<2 by decide);have h1:(a*x*y+b*y*x) / (x*y*2)*(x*y*2)=a*x*y+b*y*x:=Hf hxy;have h2:(a+b) / 2*2=a+b:=Hf (by decide);generalize (a*x*y+b*y*x) / (x*y*2)=c at *;generalize (a+b) / 2=d at *;have h3:(x*y*2)*(c-d)=0:=by grind
 rcases Y3.1 h3 with h4 | h4 <;> grind
theorem NF (a b:Rat):EP a b=a-b:=by
 unfold EP;rw [Rat.sub_def',<-Rat.divInt_ofNat]
 push_cast; rfl
theorem eH {a b:Rat}:He a b=0↔a=b:=by
 constructor
 ·intro h;have h1:¬a<b:=λh'=>by have:=Nv.2 h'; omega
  have h2:¬b<a:=λh'=>by have:=Ej.2 h'; omega
  grind
 ·intro h; subst h; exact Ey a
theorem MH {a b:Rat}:He a b<=0↔a<=b:=by
 constructor
 ·intro h;have h2:¬b<a:=λh'=>by have:=Ej.2 h'; omega
  grind
 ·intro h;have h2:¬0<He a b:=λh'=>by have:=Ej.1 h'; grind
  omega
theorem MG {a b:Rat}:0<=He a b↔b<=a:=by
 constructor
 ·intro h;have h2:¬a<b:=λh'=>by have:=Nv.2 h'; omega
  grind
 ·intro h;have h2:¬He a b<0:=λh'=>by have:=Nv.1 h'; grind
  omega
theorem M6 (a b:Rat):He a b=1/\b<a\/He a b=0/\a=b\/He a b=-1/\a<b:=by
 have hb:=QR a b;rcases (show He a b=1\/He a b=0\/He a b=-1 by omega) with h | h | h
 ·exact .inl ⟨h,Ej.1 (by omega)⟩
 ·exact .inr (.inl ⟨h,eH.1 h⟩)
 ·exact .inr (.inr ⟨h,Nv.1 (by omega)⟩)
theorem fD (p:Um) (x:Rat):low p x=Po (cz p) x:=by
 unfold low Po;rw [Nk,Nk,Fa,Oq]
theorem Cf {t:Tm} (h:t.lo<t.hi) (q:Rat):Fp t q=cq (cz t.p) t.lo t.hi q:=by
 have hp:t.point=false:=by
  unfold Tm.point;have:¬0<=He t.lo t.hi:=λh'=>by have:=MG.1 h'; grind
  simp [this]
 unfold Fp cq;rw [hp,if_neg (by decide)];have e1:(He q t.lo<=0)=(q<=t.lo):=propext MH;have e2:(0<He q t.hi)=(t.hi<q):=propext Ej;rw [Nk,fD,<-Fa];simp only [e1,e2]
theorem Mr {t:Tm}:t.point=true↔t.hi<=t.lo:=by
 unfold Tm.point;rw [decide_eq_true_iff]; exact MG
theorem Ib {t:Tm} (h:t.lo=t.hi) (q:Rat):Fp t q=He t.lo q:=by
 have hp:t.point=true:=Mr.2 (by rw [h]; exact Qp);unfold Fp; rw [if_pos hp]
theorem Qt9 {c:Rat->Int} {x:Rat} (h:∀ q,c q=He x q):Cut c where
 val q:=by rw [h]; have:=QR x q; omega
 mono q r hqr h1:=by
  rw [h] at h1 ⊢;rcases M6 x q with ⟨e,e'⟩ | ⟨e,e'⟩ | ⟨e,e'⟩
  ·exact absurd e h1
  ·rcases M6 x r with ⟨f,f'⟩ | ⟨f,f'⟩ | ⟨f,f'⟩ <;> grind
  ·rcases M6 x r with ⟨f,f'⟩ | ⟨f,f'⟩ | ⟨f,f'⟩ <;> grind
 up q h1:=by
  rw [h] at h1;have h2:=Ej.1 (show 0<He x q by omega);have h3:(x+q) / 2*2=x+q:=Hf (by decide);have h4:=Ej.2 (show (x+q) / 2<x by grind);have:=QR x ((x+q) / 2);exact ⟨(x+q) / 2,by grind,by rw [h]; omega⟩
 dn q h1:=by
  rw [h] at h1;have h2:=Nv.1 (show He x q<0 by omega);have h3:(x+q) / 2*2=x+q:=Hf (by decide);have h4:=Nv.2 (show x<(x+q) / 2 by grind);have:=QR x ((x+q) / 2);exact ⟨(x+q) / 2,by grind,by rw [h]; omega⟩
 lo:=⟨x-1,by
  rw [h];have h4:=Ej.2 (show x-1<x by grind);have:=QR x (x-1); omega⟩
 hi:=⟨x+1,by
  rw [h];have h4:=Nv.2 (show x<x+1 by grind);have:=QR x (x+1); omega⟩
def lim (t:Tm):Nat:=if t.point=true then 3300000 else 1000000
theorem yQ {t:Tm} (h:t.point=false):lim t=1000000:=by simp [lim,h]
theorem Qu5 (t:Tm):1000000<=lim t:=by unfold lim; split <;> omega
theorem Qu6 (t:Tm):lim t<=3300000:=by unfold lim; split <;> omega
structure Va (t:Tm):Prop where
 i:t.lo=t.hi/\U9 t.p t.lo=0\/∃ L,Vt (cz t.p) L t.lo t.hi
 tr:Ff t.p
 n:t.p.length<=9
 n2:2<=t.p.length
 b:Bd 3300000 t.p
 bi:t.point=false->Bd 1260 t.p
 sc:t.point=false->∃ (l:List (List Int)) (P g:List Int),sM 66 t.p (Fi (Gx t.p))=some l/\Sqp P g t.p/\Vt (cz t.p) ((t.p::l).map cz) t.lo t.hi
 g:∃ D M k,Gr D M k t.lo/\Gr D M k t.hi/\0<M/\Fe (D:Int)+Fe (M:Int)+k<=lim t
theorem Va.le {t:Tm} (h:Va t):t.lo<=t.hi:=by
 rcases h.i with ⟨e,_⟩ | ⟨L,V⟩
 ·rw [e]; exact Qp
 ·exact Qt V.l
theorem Va.pt {t:Tm} (h:Va t) (hp:t.point=true):t.lo=t.hi/\U9 t.p t.lo=0:=by
 rcases h.i with e | ⟨L,V⟩
 ·exact e
 ·have:=Mr.1 hp;have:=V.l;grind
theorem Va.iv {t:Tm} (h:Va t) (hp:t.point=false):∃ L,Vt (cz t.p) L t.lo t.hi:=by
 rcases h.i with ⟨e,_⟩ | h
 ·have:=Mr.2 (show t.hi<=t.lo by rw [e]; exact Qp);rw [hp] at this; cases this
 ·exact h
theorem Va.cut {t:Tm} (h:Va t):Cut (Fp t):=by
 rcases h.i with ⟨e,_⟩ | ⟨L,V⟩
 ·exact Qt9 (x:=t.lo) λq=>Ib e q
 ·have:Fp t=cq (cz t.p) t.lo t.hi:=funext λq=>Cf V.l q
  rw [this]; exact V.cut
theorem Qwo {c:Rat->Int} (hc:Cut c) {p:Up} {x:Rat} (h:c x=0) (h0:ev p x=0):I0 p c:=by
 rcases JD hc p with h1 | ⟨s,hs,h1⟩
 ·exact h1
 ·have:=gW hc h h1;rw [Gs.2 h0] at this; exact absurd this.symm hs
theorem Va.van {t:Tm} (h:Va t):I0 (cz t.p) (Fp t):=by
 have hc:=h.cut;rcases h.i with ⟨e,h0⟩ | ⟨L,V⟩
 ·exact Qwo hc (x:=t.lo) (by rw [Ib e,Ey]) (by rw [Fa]; exact h0)
 ·have:Fp t=cq (cz t.p) t.lo t.hi:=funext λq=>Cf V.l q
  rw [this]; exact V.van
theorem Va.qs {t:Tm} (h:Va t):Qs 3300000 t.lo/\Qs 3300000 t.hi:=by
 obtain ⟨D,M,k,h1,h2,h3,h4⟩:=h.g;have h4:=Qa h4 (Qu6 t);exact ⟨qX h1 h3 h4,qX h2 h3 h4⟩
theorem Va.qsn {t:Tm} (h:Va t) (hp:t.point=false):Qs 1000000 t.lo/\Qs 1000000 t.hi:=by
 obtain ⟨D,M,k,h1,h2,h3,h4⟩:=h.g;rw [yQ hp] at h4;exact ⟨qX h1 h3 h4,qX h2 h3 h4⟩
theorem Va.tb {t:Tm} (h:Va t):Tb t:=⟨⟨h.tr,by have:=h.n; omega,U6 h.b (by omega)⟩,h.qs.1.mono (t:=16777216) (by omega),h.qs.2.mono (t:=16777216) (by omega)⟩
structure Hv (t:Tm) (D M k:Nat) (u:Tm):Prop where
 p:u.p=t.p
 i:u.lo=u.hi/\U9 u.p u.lo=0\/∃ L,Vt (cz u.p) L u.lo u.hi
 c:∀ q,Fp u q=Fp t q
 l:Gr D M k u.lo
 h:Gr D M k u.hi
theorem uV {c:Rat->Int} (hc:Cut c) {x:Rat} (h:c x=0) (q:Rat):c q=He x q:=by
 rcases M6 x q with ⟨e,e'⟩ | ⟨e,e'⟩ | ⟨e,e'⟩
 ·rw [e]; exact hc.mono' e' (by omega)
 ·rw [e,<-e',h]
 ·rw [e]; exact hc.mono x q e' (by omega)
theorem jC {t u:Tm} {D M k:Nat} (hu:Hv t D M k u) (hM:0<M) (hs:Fe (D:Int)+Fe (M:Int)+(k+1)<=16777216):∃ v,jB u=some v/\Hv t D M (k+1) v/\v.hi-v.lo<=(u.hi-u.lo) / 2/\u.lo<=v.lo/\v.hi<=u.hi:=by
 have h2:∀ x:Rat,x / 2*2=x:=λx=>Hf (by decide)
 unfold jB;rcases hu.i with ⟨e,h0⟩ | ⟨L,V⟩
 ·have hp:u.point=true:=Mr.2 (by rw [e]; exact Qp);rw [if_pos hp];refine ⟨u,rfl,⟨hu.p,hu.i,hu.c,qJ hu.l,qJ hu.h⟩,?_,Qp,Qp⟩;rw [e]; have:=h2 (u.hi-u.hi); grind
 ·have hp:u.point=false:=by
   have:¬u.point=true:=λh=>by have:=Mr.1 h; have:=V.l; grind
   simpa using this
  rw [hp,if_neg (by decide)];obtain ⟨m,hm⟩:=nmE ((u.lo+u.hi) / 2);have hmg:Gr D M (k+1) m:=by rw [hm]; exact Qhx hu.l hu.h
  have hmm:=h2 (u.lo+u.hi);rw [<-hm] at hmm;have hl:=V.l;have hl1:u.lo<m:=by grind
  have hl2:m<u.hi:=by grind
  have hch:chq (mid u.lo u.hi)=some m:=by
   rw [nL,<-hm];have:=qX hmg hM hs;unfold chq;rw [if_pos ⟨this.1,this.2⟩]
  have hcm:mid u.lo u.hi=m:=by rw [nL,<-hm]
  rw [hch];show ∃ v,some (if Fp u m=0 then (⟨u.p,m,m⟩:Tm) else if Fp u m=-1 then ⟨u.p,u.lo,m⟩ else ⟨u.p,m,u.hi⟩)=some v/\_;have hw:=h2 (u.hi-u.lo);have hcu:=Cf hl;have hcut:=V.cut;have hcut':Cut (Fp u):=by rw [show Fp u=cq (cz u.p) u.lo u.hi from funext hcu]; exact hcut
  by_cases c0:Fp u m=0
  ·rw [if_pos c0];have hz:U9 u.p m=0:=by
    have:=TC hcut (q:=m) (by rw [<-hcu]; exact c0) V.van;rwa [Fa] at this
   refine ⟨_,rfl,⟨hu.p,.inl ⟨rfl,hz⟩,λq=>?_,hmg,hmg⟩,by show m-m<=_; grind,by show u.lo<=m; grind,by show m<=u.hi; grind⟩;rw [Ib rfl,<-hu.c];exact (uV hcut' c0 q).symm
  ·rw [if_neg c0];by_cases c1:Fp u m=-1
   ·rw [if_pos c1];have hv:vv L m=vv L u.hi:=V.eq_hi hl1 (Qt hl2) (by rw [<-hcu,c1]; decide);have V':Vt (cz u.p) L u.lo m:=⟨V.s,hl1,by rw [hv]; exact V.v⟩;refine ⟨_,rfl,⟨hu.p,.inr ⟨L,V'⟩,λq=>?_,qJ hu.l,hmg⟩,by show m-u.lo<=_; grind,Qp,by show m<=u.hi; grind⟩;rw [Cf hl1,<-hu.c,hcu];exact V.uniq V'.cut (Af Qp) (by rw [UP hl1 hl2]; decide) V'.van q
   ·rw [if_neg c1];have c2:Fp u m=1:=by rcases hcut'.val m with h | h | h <;> omega
    have hv:vv L m=vv L u.lo:=V.eq_lo hl1 (Qt hl2) (by rw [<-hcu]; exact c2);have V':Vt (cz u.p) L m u.hi:=⟨V.s,hl2,by rw [hv]; exact V.v⟩;refine ⟨_,rfl,⟨hu.p,.inr ⟨L,V'⟩,λq=>?_,hmg,qJ hu.h⟩,by show u.hi-m<=_; grind,by show u.lo<=m; grind,Qp⟩;rw [Cf hl2,<-hu.c,hcu];exact V.uniq V'.cut (Af (by grind)) V'.hi1 V'.van q
def Ns (a b:Tm):Prop:=∃ q,Fp a q=-1/\Fp b q=1
def TEq (a b:Tm):Prop:=∀ q,Fp a q=Fp b q
theorem tri {a b:Tm} (ha:Cut (Fp a)) (hb:Cut (Fp b)):Ns a b\/TEq a b\/Ns b a:=by
 rcases Classical.em (TEq a b) with h | h
 ·exact .inr (.inl h)
 ·obtain ⟨q,hq⟩:=Classical.not_forall.1 h;obtain ⟨r,⟨h1,h2⟩ | ⟨h1,h2⟩⟩:=uY ha hb hq
  ·exact .inl ⟨r,h1,h2⟩
  ·exact .inr (.inr ⟨r,h2,h1⟩)
theorem Iv {a b:Tm} (ha:Cut (Fp a)) (hb:Cut (Fp b)) (h:Ns a b) (h':Ns b a):False:=by
 obtain ⟨q,q1,q2⟩:=h;obtain ⟨r,r1,r2⟩:=h';have:=ha.lt r2 q1;have:=hb.lt q2 r1;grind
theorem rM {p:Um} (k:Nat):(p.getD k 0).natAbs<=2^Ha p:=by
 have h:Fe (p.getD k 0)<=Ha p:=by
  have key:∀ (l:Um) (n:Nat),n≤l.foldl (λn z=>max n (Fe z)) n/\∀ z∈l,Fe z≤l.foldl (λn z=>max n (Fe z)) n:=by
   intro l
   induction l with
   | nil=>exact λn=>⟨Ql _,λz hz=>by cases hz⟩
   |
    cons y l ih =>
    intro n;obtain ⟨i1,i2⟩:=ih (max n (Fe y));refine ⟨by simp only [Z9]; omega,λz hz=>?_⟩;simp only [Z9];rcases Qm.1 hz with rfl | hz
    ·omega
    ·exact i2 z hz
  exact Fu (s:=Ha p) (λz hz=>(key p 0).2 z hz) k
 rw [Sf] at h; omega
theorem Qr3 {s:Nat}:∀ (B:Um),(∀ z∈B,z.natAbs≤2^s)->gB B≤2^(s+(B.length-1))
 | [],_=>Qh _
 |
  c::B,h=>by
  have h1:=h c (Qx ..);have h2:=Qr3 B λz hz=>h z (Qg _ hz)
  simp only [gB,Q5,Yb];have h3:2^s<=2^(s+B.length):=Zs (by decide) (by omega);cases B with
  | nil=>simp only [gB,Jg] at *; omega
  |
   cons d B =>
   have h4:2^(s+(d::B).length)=2*2^(s+((d::B).length-1)):=by
    rw [Zq,<-Zr]; congr 1
   rw [h4]; omega
def Se (A B:Um):Nat:=(Ha A+Ha B+(A.length+B.length)+8)*(2*(A.length+B.length-2)-1)
theorem Qhg {A B:Um} (tA:Ff A) (tB:Ff B) (nA:A.length<=9) (nB:B.length<=9) (lA:2<=A.length) (lB:2<=B.length) {R d:Rat} (hR:1<=R) (dp:0<d)
 (hs:∀ e:Rat,0<e->∃ q r,Fj q<=R/\Fj r<=R/\d<=Fj (q-r)/\Fj (q-r)*((2^(Se A B+1):Nat):Rat)<=1/\Fj (U9 A q)<e/\Fj (U9 B r)<e):False:=by
 obtain ⟨a,ha⟩:∃ a,A.length=a+1:=⟨A.length-1,by omega⟩;obtain ⟨b,hb⟩:∃ b,B.length=b+1:=⟨B.length-1,by omega⟩;obtain ⟨s,hsd⟩:=nmE (Ha A+Ha B+b);obtain ⟨N,hN⟩:∃ N,b*(2*(a*b))+a*(2*(a*b)-b)=N:=⟨_,rfl⟩;have hNt:N<=2^(a+9):=by
  rw [<-hN];have hab:∀ a b:Fin 9,b.1*(2*(a.1*b.1))+a.1*(2*(a.1*b.1)-b.1)<=2^(a.1+9):=by decide
  exact hab ⟨a,by omega⟩ ⟨b,by omega⟩
 have hK:Se A B=(s+a+10)*(2*(a+b-1)+1):=by
  unfold Se;rw [ha,hb,hsd,show a+1+(b+1)-2=a+b by omega,show 2*(a+b)-1=2*(a+b-1)+1 by omega];congr 1; omega
 have h0A:A.getD a 0≠0:=by have:=H9 tA (by omega); rwa [ha] at this
 have h0B:B.getD b 0≠0:=by have:=H9 tB (by omega); rwa [hb] at this
 have hp:∀ m,1<=2^m:=λm=>Z2 (by decide)
 refine Quw (N:=N) (D:=2^(Se A B-1)) ha hb h0A h0B (by omega) (by omega) (h:=2^s) (hp s) (λk=>Qa (rM k) (Zs (by decide) (by omega))) ?_ hN ?_ hR dp λe ep=>?_
 ·refine Qa (Qr3 (s:=Ha B) B λz hz=>?_) (Zs (by decide) (by omega));obtain ⟨i,hi⟩:=Zk.1 hz;have:=rM (p:=B) i;rwa [Qi,hi] at this
 ·have h1:2*(N*2^s)<=2^(s+a+10):=by
   have:N*2^s<=2^(a+9)*2^s:=Q0 _ hNt;rw [<-Xf] at this;rw [show s+a+10=(a+9+s)+1 by omega,Zr]; omega
  have h2:N*2^s<=2^(s+a+9):=by
   rw [show s+a+9=(a+9)+s by omega,Xf]; exact Q0 _ hNt
  have h3:=Nat.pow_le_pow_left h1 (2*(a+b-1));have h4:=Zc h2 h3;rw [<-Ks,<-Xf] at h4;rw [<-Xy];refine Qa h4 (Zs (by decide) ?_);rw [hK,Xj,Yw]; omega
 ·obtain ⟨q,r,h1,h2,h3,h4,h5,h6⟩:=hs e ep;refine ⟨q,r,h1,h2,h3,?_,h5,h6⟩;have hK1:1<=Se A B:=by
   rw [hK]; exact J5 (by omega) (by omega)
  have e1:2^(Se A B+1)=4*2^(Se A B-1):=by
   obtain ⟨m,hm⟩:∃ m,Se A B=m+1:=⟨Se A B-1,by omega⟩;rw [hm,Yb,Zr,Zr]; omega
  rw [e1] at h4
  push_cast at h4 ⊢
  exact h4
theorem Hv.lo' {t:Tm} {D M k:Nat} {u:Tm} (h:Hv t D M k u):Fp t u.lo=1\/Fp t u.lo=0/\u.lo=u.hi:=by
 rw [<-h.c];rcases h.i with ⟨e,_⟩ | ⟨L,V⟩
 ·exact .inr ⟨by rw [Ib e,Ey],e⟩
 ·exact .inl (by rw [Cf V.l]; exact Af Qp)
theorem Hv.hi' {t:Tm} {D M k:Nat} {u:Tm} (h:Hv t D M k u):Fp t u.hi=0\/Fp t u.hi=-1:=by
 rw [<-h.c];rcases h.i with ⟨e,_⟩ | ⟨L,V⟩
 ·exact .inl (by rw [Ib e,e,Ey])
 ·rw [Cf V.l];have:=V.hi1;rcases V.cut.val u.hi with h | h | h <;> omega
theorem Hv.le {t:Tm} {D M k:Nat} {u:Tm} (h:Hv t D M k u):u.lo<=u.hi:=by
 rcases h.i with ⟨e,_⟩ | ⟨L,V⟩
 ·rw [e]; exact Qp
 ·exact Qt V.l
theorem Qhh {a b:Tm} (ha:Va a) (hb:Va b) {D M k D' M' k':Nat} {u v:Tm} (hu:Hv a D M k u) (hv:Hv b D' M' k' v) (h:Ns a b):1<(v.hi-u.lo)*((2^(Se a.p b.p+1):Nat):Rat):=by
 rcases Gi ((v.hi-u.lo)*((2^(Se a.p b.p+1):Nat):Rat)) 1 with hw | hw
 ·exfalso;have ca:=ha.cut;have cb:=hb.cut;obtain ⟨m,m1,m2⟩:=h;obtain ⟨m',hm',m3⟩:=ca.dn m m1;have hpow:(0:Rat)<=((2^(Se a.p b.p+1):Nat):Rat):=Xi;obtain ⟨R,hR⟩:=nmE (Fj u.lo+Fj m'+Fj m+Fj v.hi+1);have n1:=Hw u.lo; have n2:=Hw m'; have n3:=Hw m; have n4:=Hw v.hi;refine Qhg (R:=R) (d:=m-m') ha.tr hb.tr ha.n hb.n ha.n2 hb.n2 (by grind) (by grind) λe ep=>?_
  obtain ⟨q,q1,q2,q3⟩:∃ q,u.lo<=q/\q<=m'/\Fj (U9 a.p q)<e:=by
   rcases hu.lo' with h1 | ⟨h1,_⟩
   ·obtain ⟨x,y,hx,hy,hq⟩:=ha.van e ep;rcases Gi x u.lo with e1 | e1
    ·exact ⟨u.lo,Qp,Qt (ca.lt h1 m3),by rw [<-Fa]; exact hq u.lo e1 (Qt (ca.lt h1 hy))⟩
    ·exact ⟨x,Qt e1,Qt (ca.lt hx m3),by rw [<-Fa]; exact hq x Qp (Qt (ca.lt hx hy))⟩
   ·refine ⟨u.lo,Qp,?_,by rw [<-Fa,TC ca h1 ha.van,Rj]; exact ep⟩;rcases Gi u.lo m' with e1 | e1
    ·exact e1
    ·have:=ca.mono m' u.lo e1 (by omega); omega
  obtain ⟨r,r1,r2,r3⟩:∃ r,r<=v.hi/\m<=r/\Fj (U9 b.p r)<e:=by
   rcases hv.hi' with h1 | h1
   ·refine ⟨v.hi,Qp,?_,by rw [<-Fa,TC cb h1 hb.van,Rj]; exact ep⟩;rcases Gi m v.hi with e1 | e1
    ·exact e1
    ·have:=cb.mono v.hi m e1 (by omega); omega
   ·obtain ⟨x,y,hx,hy,hq⟩:=hb.van e ep;rcases Gi v.hi y with e1 | e1
    ·exact ⟨v.hi,Qp,Qt (cb.lt m2 h1),by rw [<-Fa]; exact hq v.hi (Qt (cb.lt hx h1)) e1⟩
    ·exact ⟨y,Qt e1,Qt (cb.lt m2 hy),by rw [<-Fa]; exact hq y (Qt (cb.lt hx hy)) Qp⟩
  have e1:Fj (q-r)=r-q:=by unfold Fj; split <;> grind
  have b1:Fj q<=R:=by
   have:=FY (R:=R) (x:=u.lo) (y:=m') (t:=q) (by grind) (by grind) q1 q2; exact this
  have b2:Fj r<=R:=by
   have:=FY (R:=R) (x:=m) (y:=v.hi) (t:=r) (by grind) (by grind) r2 r1; exact this
  refine ⟨q,r,b1,b2,by rw [e1]; grind,?_,q3,r3⟩;rw [e1];have:=Ze (show r-q<=v.hi-u.lo by grind) hpow;exact Zl this hw
 ·exact hw
theorem wX {a b:Tm} (ha:Va a) (hb:Va b) {D M k D' M' k':Nat} {u v:Tm} (hu:Hv a D M k u) (hv:Hv b D' M' k' v) (hne:¬TEq a b) (h:D5 u v=true):Ns a b:=by
 have h1:=(of_decide_eq_true h).1;have h1:=MH.1 h1;rcases tri ha.cut hb.cut with h2 | h2 | ⟨m,m1,m2⟩
 ·exact h2
 ·exact absurd h2 hne
 ·exfalso;have e1:m<u.hi:=by
   rcases Gi u.hi m with e | e
   ·rcases Classical.em (u.hi=m) with e' | e'
    ·have:=hu.hi'; rw [e'] at this; omega
    ·have:=ha.cut.mono u.hi m (by grind) (by have:=hu.hi'; omega); omega
   ·exact e
  have e2:v.lo<m:=by
   rcases Gi m v.lo with e | e
   ·rcases Classical.em (m=v.lo) with e' | e'
    ·have:=hv.lo'; rw [<-e'] at this; omega
    ·have:=hb.cut.mono m v.lo (by grind) (by omega);have:=hv.lo'; omega
   ·exact e
  grind
theorem iM {a b:Tm} (ha:Va a) (hb:Va b) {D M k D' M' k':Nat} {u v:Tm} (hu:Hv a D M k u) (hv:Hv b D' M' k' v) (hlt:Ns a b) (h:D5 u v≠true):v.lo<=u.hi:=by
 rcases Gi v.lo u.hi with e | e
 ·exact e
 ·refine absurd (decide_eq_true ⟨MH.2 (Qt e),λh'=>?_⟩) h;have:=eH.1 h'.2; grind
theorem rG (m:Nat):((2^(m+1):Nat):Rat)=2*((2^m:Nat):Rat):=by rw [Zr]; push_cast; grind
def Qst (a b:Tm) (r:Tm×Tm×Int):Prop:=r.2.2=-1/\Ns a b\/r.2.2=1/\Ns b a
theorem Qca (A B:Um):Se A B=Se B A:=by unfold Se; rw [Nat.add_comm A.length,Nat.add_comm (Ha A)]
theorem Qw9 {a b:Tm} (ha:Va a) (hb:Va b) (hne:¬TEq a b) {D M D' M':Nat} (hM:0<M) (hM':0<M'):∀ (i j:Nat) (u v:Tm) (k k':Nat) (W:Rat),2*i+1<=j->Hv a D M k u->Hv b D' M' k' v->Fe (D:Int)+Fe (M:Int)+(k+j)<=16777216->Fe (D':Int)+Fe (M':Int)+(k'+j)<=16777216->u.hi-u.lo<=W->v.hi-v.lo<=W->2*W*((2^(Se a.p b.p+1):Nat):Rat)<=((2^i:Nat):Rat)->∃ r,AN j u v=some r/\Qst a b r:=by
 intro i;have step:∀ (j:Nat) (u v:Tm) (k k':Nat),Hv a D M k u->Hv b D' M' k' v->Fe (D:Int)+Fe (M:Int)+(k+(j+1))<=16777216->Fe (D':Int)+Fe (M':Int)+(k'+(j+1))<=16777216->(∃ r,AN (j+1) u v=some r/\Qst a b r)\/(D5 u v≠true/\D5 v u≠true/\∃ u' v' k1 k1',AN (j+1) u v=AN j u' v'/\Hv a D M k1 u'/\Hv b D' M' k1' v'/\k1<=k+1/\k1'<=k'+1/\(v.hi-v.lo<=u.hi-u.lo/\u'.hi-u'.lo<=(u.hi-u.lo) / 2/\v'=v\/u.hi-u.lo<=v.hi-v.lo/\v'.hi-v'.lo<=(v.hi-v.lo) / 2/\u'=u)):=by
  intro j u v k k' hu hv hs hs';by_cases h1:D5 u v=true
  ·exact .inl ⟨(u,v,-1),by simp only [AN]; rw [if_pos h1],.inl ⟨rfl,wX ha hb hu hv hne h1⟩⟩
  by_cases h2:D5 v u=true
  ·exact .inl ⟨(u,v,1),by simp only [AN]; rw [if_neg h1,if_pos h2],.inr ⟨rfl,wX hb ha hv hu (λh=>hne λq=>(h q).symm) h2⟩⟩
  refine .inr ⟨h1,h2,?_⟩;by_cases h3:0<=He (EP u.hi u.lo) (EP v.hi v.lo)
  ·obtain ⟨x,x1,x2,x3,_⟩:=jC hu hM (by omega);refine ⟨x,v,k+1,k',?_,x2,hv,by omega,by omega,.inl ⟨?_,x3,rfl⟩⟩
   ·simp only [AN]; rw [if_neg h1,if_neg h2,if_pos h3,x1]; rfl
   ·have:=MG.1 h3; rwa [NF,NF] at this
  ·obtain ⟨x,x1,x2,x3,_⟩:=jC hv hM' (by omega);refine ⟨u,x,k,k'+1,?_,hu,x2,by omega,by omega,.inr ⟨?_,x3,rfl⟩⟩
   ·simp only [AN]; rw [if_neg h1,if_neg h2,if_neg h3,x1]; rfl
   ·rcases Gi (u.hi-u.lo) (v.hi-v.lo) with e | e
    ·exact e
    ·refine absurd (MG.2 ?_) h3;rw [NF,NF]; exact Qt e
 induction i with
 |
  zero =>
  intro j u v k k' W hj hu hv hs hs' hW hW' hK;obtain ⟨j,rfl⟩:∃ m,j=m+1:=⟨j-1,by omega⟩;rcases step j u v k k' hu hv hs hs' with h | ⟨h1,h2,_⟩
  ·exact h
  ·exfalso;have hpow:(0:Rat)<=((2^(Se a.p b.p+1):Nat):Rat):=Xi;rw [Vd] at hK;rcases tri ha.cut hb.cut with h3 | h3 | h3
   ·have h4:=iM ha hb hu hv h3 h1;have h5:=Qhh ha hb hu hv h3;have h6:=Ze (show v.hi-u.lo<=2*W by clear step; grind) hpow;have h7:((1:Nat):Rat)=1:=rfl;rw [h7] at hK;clear step; grind
   ·exact hne h3
   ·have h4:=iM hb ha hv hu h3 h2;have h5:=Qhh hb ha hv hu h3;rw [Qca] at h5;have h6:=Ze (show u.hi-v.lo<=2*W by clear step; grind) hpow;have h7:((1:Nat):Rat)=1:=rfl;rw [h7] at hK;clear step; grind
 |
  succ i ih =>
  intro j u v k k' W hj hu hv hs hs' hW hW' hK;obtain ⟨j,rfl⟩:∃ m,j=m+2:=⟨j-2,by omega⟩;have hd:∀ x:Rat,x / 2*2=x:=λx=>Hf (by decide)
  rcases step (j+1) u v k k' hu hv hs hs' with h | ⟨_,_,u1,v1,k1,k1',e1,hu1,hv1,hk1,hk1',hw1⟩
  ·exact h
  ·rw [e1];rcases step j u1 v1 k1 k1' hu1 hv1 (by omega) (by omega) with h | ⟨_,_,u2,v2,k2,k2',e2,hu2,hv2,hk2,hk2',hw2⟩
   ·exact h
   ·rw [e2];have a1:=hd (u.hi-u.lo); have a2:=hd (v.hi-v.lo); have a3:=hd (u1.hi-u1.lo); have a4:=hd (v1.hi-v1.lo); have a5:=hd W;have b1:=hu.le; have b2:=hv.le; have b3:=hu1.le; have b4:=hv1.le; have b5:=hu2.le; have b6:=hv2.le;have hww:u2.hi-u2.lo<=W / 2/\v2.hi-v2.lo<=W / 2:=by
     clear step ih;rcases hw1 with ⟨c1,c2,rfl⟩ | ⟨c1,c2,rfl⟩ <;> rcases hw2 with ⟨d1,d2,rfl⟩ | ⟨d1,d2,rfl⟩ <;> constructor <;> grind
    refine ih j u2 v2 k2 k2' (W / 2) (by omega) hu2 hv2 (by omega) (by omega) hww.1 hww.2 ?_;rw [rG i] at hK;have:2*(W / 2)*((2^(Se a.p b.p+1):Nat):Rat)*2=2*W*((2^(Se a.p b.p+1):Nat):Rat):=by clear step ih hw1 hw2; grind
    clear step ih hw1 hw2; grind
def CmpOk (a b:Tm) (c:Int):Prop:=c=-1/\Ns a b\/c=0/\TEq a b\/c=1/\Ns b a
theorem Va.hv0 {t:Tm} (h:Va t):∃ D M k,Hv t D M k t/\0<M/\Fe (D:Int)+Fe (M:Int)+k<=lim t:=by
 obtain ⟨D,M,k,h1,h2,h3,h4⟩:=h.g;exact ⟨D,M,k,⟨rfl,h.i,λ_=>rfl,h1,h2⟩,h3,h4⟩
theorem bL {a:Tm} (ha:Va a) (hp:a.point=true) (q:Rat):Fp a q=He a.lo q:=Ib (ha.pt hp).1 q
theorem Qgk {a b:Tm} (hb:Va b) {x:Rat} (hx:∀ q,Fp a q=He x q):CmpOk a b (-Fp b x):=by
 have cb:=hb.cut;rcases cb.val x with h | h | h
 ·obtain ⟨q,q1,q2⟩:=cb.up x h;refine .inl ⟨by omega,q,?_,q2⟩;rw [hx]; rcases M6 x q with ⟨e,e'⟩ | ⟨e,e'⟩ | ⟨e,e'⟩ <;> grind
 ·exact .inr (.inl ⟨by omega,λq=>by rw [hx,uV cb h]⟩)
 ·obtain ⟨q,q1,q2⟩:=cb.dn x h;refine .inr (.inr ⟨by omega,q,q2,?_⟩);rw [hx]; rcases M6 x q with ⟨e,e'⟩ | ⟨e,e'⟩ | ⟨e,e'⟩ <;> grind
theorem CmpOk.symm {a b:Tm} {c:Int} (h:CmpOk a b c):CmpOk b a (-c):=by
 rcases h with ⟨h1,h2⟩ | ⟨h1,h2⟩ | ⟨h1,h2⟩
 ·exact .inr (.inr ⟨by omega,h2⟩)
 ·exact .inr (.inl ⟨by omega,λq=>(h2 q).symm⟩)
 ·exact .inl ⟨by omega,h2⟩
theorem Qy6:Szz 9 1260:=⟨by decide,by decide⟩
theorem FX (g:Um) (lo hi:Rat):FZ g lo hi=true↔nY (cz g) lo hi:=by
 unfold FZ nY;rw [decide_eq_true_iff,Nk,fD,Fa]
theorem fW {g:Um} (tg:Ff g) (hn:g.length≠0) {lo hi:Rat} (h:nY (cz g) lo hi):1<g.length:=by
 rcases Zb 1 g.length with e | e
 ·exact e
 ·exfalso;obtain ⟨c,rfl⟩:∃ c,g=[c]:=Kr.1 (by omega);have hc:c≠0:=by have:=H9 tg (by simp); simpa using this
  have hv:∀ t,ev (cz [c]) t=(c:Rat):=λt=>by rw [Fa]; simp only [U9]; grind
  have hs:Fg (c:Rat)≠0:=λh=>XG hc (Gs.1 h)
  unfold nY at h;rw [hv,Am (by rw [hv]; exact hs),hv] at h;rcases h with h | h
  ·exact hs h
  ·exact h rfl
theorem DI {q:Rat}:Fj q<=((2^Fe q.num:Nat):Rat):=by
 have h1:Fe q.num<=Fe q.num:=Ql _;rw [Sf] at h1;have e:(q.num:Rat)=q*(q.den:Rat):=by
  have:(q.num:Rat) / (((q.den:Int)):Rat)=q:=by rw [Ra,Z5]
  have h2:(q.num:Rat) / (q.den:Rat)*(q.den:Rat)=q.num:=Zj (by have:=nat_pos q.den_pos; grind);rw [show (q.num:Rat) / (q.den:Rat)=q from this] at h2; exact h2.symm
 have hd:(1:Rat)<=(q.den:Rat):=by
  have:((1:Nat):Rat)<=(q.den:Rat):=Zm.2 q.den_pos;exact this
 have h2:Fj q<=Fj (q.num:Rat):=by
  rw [e,Ik];have:Fj (q.den:Rat)=(q.den:Rat):=by unfold Fj; rw [if_neg (by grind)]
  rw [this];have:=Cm (a:=Fj q) (c:=1) (Hw q) Qp (by decide) hd;grind
 rw [Sy] at h2;exact Zl h2 (Zm.2 (Yk h1))
theorem TD {a:Tm} {w:Nat} (h:Fe a.lo.num+Fe a.hi.num<=w):a.hi-a.lo<=((2^(w+1):Nat):Rat):=by
 have h1:=DI (q:=a.lo);have h2:=DI (q:=a.hi);have h3:((2^Fe a.lo.num:Nat):Rat)<=((2^w:Nat):Rat):=Zm.2 (Zs (by decide) (by omega));have h4:((2^Fe a.hi.num:Nat):Rat)<=((2^w:Nat):Rat):=Zm.2 (Zs (by decide) (by omega));rw [rG];rw [Mf] at h1 h2;grind
theorem O1 {p:Um} {s:Nat} (h:Bd s p):Ha p<=s:=by
 have:=Me h p.length; rwa [Q6] at this
theorem Qkw {a b:Tm} (ha:Va a) (hb:Va b) (pa:a.point=false) (pb:b.point=false):P5 a b<=9000000:=by
 have q1:=ha.qsn pa; have q2:=hb.qsn pb;have l1:=ha.n; have l2:=hb.n;have s1:=O1 (ha.bi pa); have s2:=O1 (hb.bi pb);have b1:=q1.1.1; have b2:=q1.2.1; have b3:=q2.1.1; have b4:=q2.2.1;have:4*(a.p.length+b.p.length)*(Ha a.p+Ha b.p+(a.p.length+b.p.length)+8)<=4*18*2600:=Zc (by omega) (by omega);unfold P5; omega
theorem Qd1 {a b:Tm} (ha:Va a) (hb:Va b) (pa:a.point=false) (pb:b.point=false) (hne:¬TEq a b):∃ r,AN (P5 a b) a b=some r/\Qst a b r:=by
 obtain ⟨D,M,k,h1,h2,h3⟩:=ha.hv0;obtain ⟨D',M',k',h1',h2',h3'⟩:=hb.hv0;rw [yQ pa] at h3;rw [yQ pb] at h3';have hst:=Qkw ha hb pa pb;obtain ⟨w,hw⟩:=nmE (Fe a.lo.num+Fe a.hi.num+Fe b.lo.num+Fe b.hi.num);obtain ⟨K,hK⟩:=nmE (Ha a.p+Ha b.p+(a.p.length+b.p.length)+8);obtain ⟨n,hn⟩:=nmE (a.p.length+b.p.length);have l1:=ha.n2; have l2:=hb.n2;have hsteps:P5 a b=64+2*w+4*n*K:=by unfold P5; rw [hw,hK,hn]
 have hg:Se a.p b.p=K*(2*(n-2)-1):=by unfold Se; rw [hK,hn]
 have hgle:Se a.p b.p+5*K<=2*n*K:=by
  rw [hg,Zq K,<-X3];exact Q0 _ (by omega)
 have hKp:8<=K:=by omega
 refine Qw9 ha hb hne h2 h2' (31+w+2*n*K) (P5 a b) a b k k' ((2^(w+1):Nat):Rat) ?_ h1 h1' (by omega) (by omega) (TD (by omega)) (TD (by omega)) ?_
 ·rw [hsteps,Xj,Xy 4,Xy 2 n]; omega
 ·have e:2*(2^(w+1))*(2^(Se a.p b.p+1))<=2^(31+w+2*n*K):=by
   rw [Zq 2,<-Zr,<-Xf];exact Zs (by decide) (by omega)
  have:=Zm.2 e
  push_cast at this ⊢
  exact this
theorem UT {a b:Tm} (ha:Va a) (hb:Va b):∃ c,UR a b=some c/\CmpOk a b c:=by
 unfold UR;by_cases pa:a.point=true
 ·rw [if_pos pa];exact ⟨_,rfl,Qgk hb (bL ha pa)⟩
 rw [if_neg pa];by_cases pb:b.point=true
 ·rw [if_pos pb];have:=(Qgk ha (bL hb pb)).symm;rw [Int.neg_neg] at this;exact ⟨_,rfl,this⟩
 rw [if_neg pb];have pa:a.point=false:=by simpa using pa
 have pb:b.point=false:=by simpa using pb
 obtain ⟨L,V⟩:=ha.iv pa;obtain ⟨L',V'⟩:=hb.iv pb;have eqa:∀ q,Fp a q=cq (cz a.p) a.lo a.hi q:=Cf V.l;have eqb:∀ q,Fp b q=cq (cz b.p) b.lo b.hi q:=Cf V'.l;obtain ⟨lo,hlo⟩:=nmE (if 0<He b.lo a.lo then b.lo else a.lo);obtain ⟨hi,hhi⟩:=nmE (if He b.hi a.hi<0 then b.hi else a.hi);show ∃ c,(if He (if 0<He b.lo a.lo then b.lo else a.lo) (if He b.hi a.hi<0 then b.hi else a.hi)<0 then _ else _)=some c/\_;rw [<-hlo,<-hhi];have e1:(0<He b.lo a.lo)=(a.lo<b.lo):=propext Ej;have e2:(He b.hi a.hi<0)=(b.hi<a.hi):=propext Nv;have e3:(He lo hi<0)=(lo<hi):=propext Nv;simp only [e1] at hlo;simp only [e2] at hhi;simp only [e3];obtain ⟨g,g1,g2,g3,g4⟩:=Qhp Qy6 ha.tr hb.tr ha.n hb.n (ha.bi pa) (hb.bi pb) (by have:=ha.n2; omega);obtain ⟨U,W,hc⟩:=g2.c;obtain ⟨u,hu⟩:=g2.da;obtain ⟨u',hu'⟩:=g2.db;have key:=V.same V' (g:=cz g) (u:=u) (u':=u') (U:=U) (W:=W) (k:=1) (by decide) hu hu' (λt=>by rw [Fa,Fa,Fa,hc]; grind) (a:=lo) (b:=hi) (by rw [hlo]; split <;> grind) (by rw [hlo]; split <;> grind) (by rw [hlo]; split <;> simp) (by rw [hhi]; split <;> grind) (by rw [hhi]; split <;> grind) (by rw [hhi]; split <;> simp);have hTE:(∀ q,cq (cz a.p) a.lo a.hi q=cq (cz b.p) b.lo b.hi q)↔TEq a b:=by
  unfold TEq; constructor
  ·intro h q; rw [eqa,eqb]; exact h q
  ·intro h q; rw [<-eqa,<-eqb]; exact h q
 rw [hTE] at key;have fin:¬TEq a b->∃ c,((AN (P5 a b) a b).bind λr=>some r.2.2)=some c/\CmpOk a b c:=λhne=>by
  obtain ⟨r,r1,r2⟩:=Qd1 ha hb pa pb hne;refine ⟨r.2.2,by rw [r1]; rfl,?_⟩;rcases r2 with h | h
  ·exact .inl h
  ·exact .inr (.inr h)
 by_cases hl:lo<hi
 ·rw [if_pos hl,g1];show ∃ c,(if 1<g.length/\FZ g lo hi=true then some 0 else (AN (P5 a b) a b).bind λr=>some r.2.2)=some c/\_;by_cases hh:FZ g lo hi=true
  ·have hq:=(FX g lo hi).1 hh;rw [if_pos ⟨fW g2.t g2.n hq,hh⟩];exact ⟨0,rfl,.inr (.inl ⟨rfl,key.1 ⟨hl,hq⟩⟩)⟩
  ·rw [if_neg λh=>hh h.2];exact fin λh=>hh ((FX g lo hi).2 (key.2 h).2)
 ·rw [if_neg hl];exact fin λh=>hl (key.2 h).1
def SgT (p:Um) (a:Tm) (s:Int):Prop:=s=0/\I0 (cz p) (Fp a)\/s≠0/\NZ (cz p) (Fp a) s
theorem Qv4 {p:Um} {c:Rat->Int} (hc:Cut c) {x:Rat} (h:c x=0):Re p x=0/\I0 (cz p) c\/Re p x≠0/\NZ (cz p) c (Re p x):=by
 rw [Nk,<-Fa];rcases JD hc (cz p) with h1 | ⟨s,hs,h1⟩
 ·exact .inl ⟨Gs.2 (TC hc h h1),h1⟩
 ·have:=gW hc h h1;rw [this]; exact .inr ⟨hs,h1⟩
theorem QJ {l:Un} {lo hi:Rat} (h:lo<=hi):Tq l lo hi=(vv (l.map cz) lo:Int)-(vv (l.map cz) hi:Int):=by
 unfold Tq;rw [if_neg λh'=>by have:=Nv.1 h'; grind,ZY,ZY]
theorem Qv5 {p q:Um} {L:Uq} (hp:Ff p) (np:p.length<=9) (lp:2<=p.length) (hS:HJ (cz q) L) (hpq:ZN (cz q) (cz p)) {a:Tm} (ha:Va a) {s:Int} (hnz:NZ (cz p) (Fp a) s) {D M k:Nat} {x:Tm} (hx:Hv a D M k x) (hl:x.lo<x.hi) (hv:vv L x.lo≠vv L x.hi):1<(x.hi-x.lo)*((2^(Se a.p p+1):Nat):Rat):=by
 rcases Gi ((x.hi-x.lo)*((2^(Se a.p p+1):Nat):Rat)) 1 with hw | hw
 ·exfalso;have ca:=ha.cut;obtain ⟨d,dp,x1,y1,c1,c2,hn⟩:=hnz;obtain ⟨x2,x12,c3⟩:=ca.up x1 c1;obtain ⟨y2,y12,c4⟩:=ca.dn y1 c2;have hpow:(0:Rat)<=((2^(Se a.p p+1):Nat):Rat):=Xi;obtain ⟨z,zp,z1,z2⟩:=min2 (a:=x2-x1) (b:=y1-y2) (by clear hn; grind) (by clear hn; grind);obtain ⟨R0,hR0,r1,r2⟩:=xX x.lo x.hi;obtain ⟨u,hu⟩:=hpq;refine Qhg (R:=R0+1) (d:=z) ha.tr hp ha.n np ha.n2 lp (by clear hn; grind) zp λe ep=>?_
  obtain ⟨q0,q1,q2,q3,q4,q5⟩:∃ q0,x.lo<=q0/\q0<=x.hi/\x2<=q0/\q0<=y2/\Fj (U9 a.p q0)<e:=by
   rcases hx.lo' with h1 | ⟨h1,h2⟩
   ·obtain ⟨x',y',hx',hy',hq⟩:=ha.van e ep;obtain ⟨m,m1,m2,m3,m4⟩:∃ m,Fp a m=1/\x.lo<=m/\x2<=m/\x'<=m:=by
     rcases Gi x.lo x2 with e1 | e1
     ·rcases Gi x2 x' with e2 | e2
      ·exact ⟨x',hx',by clear hn hq; grind,e2,Qp⟩
      ·exact ⟨x2,c3,e1,Qp,Qt e2⟩
     ·rcases Gi x.lo x' with e2 | e2
      ·exact ⟨x',hx',e2,by clear hn hq; grind,Qp⟩
      ·exact ⟨x.lo,h1,Qp,Qt e1,Qt e2⟩
    refine ⟨m,m2,?_,m3,Qt (ca.lt m1 c4),by rw [<-Fa]; exact hq m m4 (Qt (ca.lt m1 hy'))⟩;rcases hx.hi' with h3 | h3
    ·rcases Gi m x.hi with e1 | e1
     ·exact e1
     ·have:=ca.mono x.hi m e1 (by omega); omega
    ·exact Qt (ca.lt m1 h3)
   ·exact absurd h2 (by clear hn; grind)
  obtain ⟨b,hb⟩:=nmE (uD R0 u);have hb0:0<=b:=by rw [hb]; exact XJ hR0 u
  obtain ⟨f,fp,_,hf⟩:=Hj (b:=b) (d:=if e<=d then e else d) hb0 (by split <;> assumption);obtain ⟨r,r3,r4,r5⟩:=vC hS hl hv fp;have hrR:Fj r<=R0:=FY r1 r2 r3 r4;have hpr:Fj (U9 p r)<(if e<=d then e else d):=by
   rw [<-Fa,hu];have:=Hd (Qt r5) (SJ hrR u);rw [<-hb] at this;exact Jr.1 λh=>absurd (Zl h this) (Jr.2 hf)
  have hpe:Fj (U9 p r)<e:=by split at hpr <;> (clear hn; grind)
  have hpd:Fj (U9 p r)<d:=by split at hpr <;> (clear hn; grind)
  have hrout:r<x1\/y1<r:=by
   rcases Gi x1 r with e1 | e1
   ·rcases Gi r y1 with e2 | e2
    ·have:=(hn r e1 e2).2;rw [Fa] at this;exact absurd this (Jr.2 hpd)
    ·exact .inr e2
   ·exact .inl e1
  have hqr:z<=Fj (q0-r):=by
   clear hn;rcases hrout with h | h
   ·have:Fj (q0-r)=q0-r:=by unfold Fj; split <;> grind
    rw [this]; grind
   ·have:Fj (q0-r)=r-q0:=by unfold Fj; split <;> grind
    rw [this]; grind
  have hq0R:Fj q0<=R0:=FY r1 r2 q1 q2;refine ⟨q0,r,by clear hn; grind,by clear hn; grind,hqr,?_,q5,hpe⟩;have h1:Fj (q0-r)<=x.hi-x.lo:=by rw [Mf]; clear hn; constructor <;> grind
  exact Zl (Ze h1 hpow) hw
 ·exact hw
theorem Qki {p q:Um} {l:Un} (hp:Ff p) (np:p.length<=9) (lp:2<=p.length) (hS:HJ (cz q) (l.map cz)) (hpq:ZN (cz q) (cz p)) {a:Tm} (ha:Va a) {s:Int} (hnz:NZ (cz p) (Fp a) s) {D M:Nat} (hM:0<M):∀ (j i:Nat) (x:Tm) (k:Nat) (W:Rat),i+1<=j->Hv a D M k x->Fe (D:Int)+Fe (M:Int)+(k+j)<=16777216->x.hi-x.lo<=W->W*((2^(Se a.p p+1):Nat):Rat)<=((2^i:Nat):Rat)->∃ u k',sgF l j x=some u/\Hv a D M k' u/\(u.point=true\/Tq l u.lo u.hi=0)
 | 0,i,x,k,W,h,_,_,_,_=>by omega
 |
  j+1,i,x,k,W,hj,hx,hs,hW,hK=>by
  simp only [sgF];by_cases h:x.point=true\/Tq l x.lo x.hi=0
  ·rw [if_pos h]; exact ⟨x,k,rfl,hx,h⟩
  ·rw [if_neg h];obtain ⟨v,v1,v2,v3,_⟩:=jC hx hM (by omega);rw [v1];show ∃ u k',sgF l j v=some u/\_;have hpt:¬x.hi<=x.lo:=λh'=>h (.inl (Mr.2 h'))
   have hl:x.lo<x.hi:=by grind
   have hvv:vv (l.map cz) x.lo≠vv (l.map cz) x.hi:=λh'=>h (.inr (by rw [QJ (Qt hl)]; omega))
   have hg:=Qv5 hp np lp hS hpq ha hnz hx hl hvv;have hpow:(0:Rat)<=((2^(Se a.p p+1):Nat):Rat):=Xi;have hd:∀ x:Rat,x / 2*2=x:=λx=>Hf (by decide)
   cases i with
   |
    zero =>
    exfalso;rw [Vd] at hK;have:=Ze hW hpow;have h7:((1:Nat):Rat)=1:=rfl;rw [h7] at hK;grind
   |
    succ i =>
    refine Qki hp np lp hS hpq ha hnz hM j i v (k+1) (W / 2) (by omega) v2 (by omega) ?_ ?_
    ·have:=hd (x.hi-x.lo); have:=hd W; grind
    ·rw [rG i] at hK;have:=hd W;have:W / 2*((2^(Se a.p p+1):Nat):Rat)*2=W*((2^(Se a.p p+1):Nat):Rat):=by grind
     grind
theorem hZ {x y:Rat}:∀ {ws:Uq},(∀ w∈ws,Fg (ev w x)=Fg (ev w y))->Fg (ev (On ws) x)=Fg (ev (On ws) y)
 | [],_=>by simp only [On]; rw [Tf,Tf]
 |
  w::l,h=>by
  simp only [On];rw [Fh,Fh,Sw,Sw,h w (Qx ..),hZ λv hv=>h v (Qg _ hv)]
theorem Qcx {p q o:Um} (hpt:Parts p q o) (tp:Ff p) (hp:p.length≠0) {L:Uq} (hS:HJ (cz q) L) {x y:Rat} (hxy:x<y) (hv:vv L x=vv L y):∃ s,s≠0/\∀ z,x<z->z<=y->Fg (U9 p z)=s:=by
 obtain ⟨ws,w1,w2⟩:=hpt.ws;obtain ⟨_,_,_,_,_,p6,p7⟩:=Cq tp hp;have key:∀ z,x<z->z≤y->∀ w∈ws.map cz,Sm w x z:=λz h1 h2 w hw=>by
  obtain ⟨v,hv',rfl⟩:=Za.1 hw;obtain ⟨u,hu⟩:=(w1 v hv').2;have a1:=Az hS h1;have a2:vv L y<=vv L z:=by
   rcases Classical.em (z=y) with e | e
   ·rw [e]; exact Ql _
   ·exact Az hS (by grind)
  exact KX hS hu h1 (by omega)
 have hval:∀ z,U9 p z=(Hp p:Rat)*ev (On (ws.map cz)) z:=λz=>by rw [p7,w2]
 refine ⟨Fg (U9 p y),λh0=>?_,λz h1 h2=>?_⟩
 ·rw [hval,Sw] at h0;rcases Yf.1 h0 with h | h
  ·exact XG p6 (Gs.1 h)
  ·have:∀ l:Uq,(∀ w∈l,Fg (ev w y)≠0)->Fg (ev (On l) y)≠0:=by
    intro l
    induction l with
    | nil=>intro _; simp only [On]; rw [Tf]; decide
    |
     cons w l ih =>
     intro h;simp only [On];rw [Fh,Sw];exact Jf (h w (Qx ..)) (ih λv hv=>h v (Qg _ hv))
   refine this _ (λw hw=>?_) h;have hs:=key y hxy Qp w hw;rw [hs.s]; exact hs.n
 ·rw [hval,hval,Sw,Sw,hZ (y:=y) λw hw=>(key z h1 h2 w hw).s.trans (key y hxy Qp w hw).s.symm]
theorem Qux {g p P:Um} {c:Rat->Int} (hc:Cut c) (hg:Gc g p P):I0 (cz g) c↔I0 (cz p) c/\I0 (cz P) c:=by
 constructor
 ·intro h;obtain ⟨u,hu⟩:=hg.da;obtain ⟨v,hv⟩:=hg.db;exact ⟨P8 hc hu h,P8 hc hv h⟩
 ·rintro ⟨h1,h2⟩
  obtain ⟨U,V,hcc⟩:=hg.c;have a1:I0 (G8 U (cz p)) c:=P8 hc (p:=cz p) (q:=U) (λt=>by rw [Fh]; grind) h1;have a2:I0 (G8 V (cz P)) c:=P8 hc (p:=cz P) (q:=V) (λt=>by rw [Fh]; grind) h2;exact NP (λt=>by rw [Fa,hcc,Fh,Fh,Fa,Fa]) a1 a2
theorem Qkp {p:Um} (hp:Okp 9 1180 p) {a:Tm} (ha:Va a):∃ s,GG p a=some s/\SgT p a s:=by
 unfold GG;rw [if_neg hp.nz];have ca:=ha.cut;by_cases pa:a.point=true
 ·rw [if_pos pa];exact ⟨_,rfl,Qv4 ca (x:=a.lo) (by rw [bL ha pa,Ey])⟩
 rw [if_neg pa];have pa:a.point=false:=by simpa using pa
 obtain ⟨L,V⟩:=ha.iv pa;have eqa:∀ q,Fp a q=cq (cz a.p) a.lo a.hi q:=Cf V.l;obtain ⟨g,g1,g2,g3,g4⟩:=Qhp Qy6 hp.t ha.tr hp.l ha.n (U6 hp.b (by omega)) (ha.bi pa) hp.nz;obtain ⟨u',hu'⟩:=g2.db;have hhas:=V.has hu' (a:=a.lo) (b:=a.hi) Qp V.l Qp;have hvan:=Qux ca g2;rw [show cq (cz a.p) a.lo a.hi=Fp a from (funext eqa).symm] at hhas;rw [g1];show ∃ s,(if 1<g.length/\FZ g a.lo a.hi=true then some 0 else _)=some s/\_;by_cases hh:FZ g a.lo a.hi=true
 ·have hq:=(FX g _ _).1 hh;rw [if_pos ⟨fW g2.t g2.n hq,hh⟩];exact ⟨0,rfl,.inl ⟨rfl,(hvan.1 (hhas.1 hq).1).1⟩⟩
 ·rw [if_neg λh=>hh h.2];have hnv:¬I0 (cz p) (Fp a):=λh=>hh ((FX g _ _).2 (hhas.2 ⟨hvan.2 ⟨h,ha.van⟩,by rw [eqa]; exact Af Qp,by rw [eqa]; exact V.hi1⟩))
  rcases JD ca (cz p) with h | ⟨s,AS,hnz⟩
  ·exact absurd h hnv
  obtain ⟨q,o,q1,q2,hpt⟩:=Qi5 hp;obtain ⟨q',l,r1,r2,hS,hl0⟩:=chain_ok hp;rw [q1] at r1;injection r1 with r1;subst r1;rw [r2];show ∃ s,((sgF (q::l) (64+2*(Fe a.lo.num+Fe a.hi.num)+4*(a.p.length+p.length)*(Ha a.p+Ha p+(a.p.length+p.length)+8)) a).bind λx=>some (Re p x.hi))=some s/\_;obtain ⟨w,hw⟩:=nmE (Fe a.lo.num+Fe a.hi.num);obtain ⟨K,hK⟩:=nmE (Ha a.p+Ha p+(a.p.length+p.length)+8);obtain ⟨n,hn⟩:=nmE (a.p.length+p.length);rw [<-hw,<-hK,<-hn];obtain ⟨gg,sq⟩:=hpt.sq;obtain ⟨_,_,_,_,_,pf0,pfe⟩:=Cq hp.t hp.nz;have hpq:ZN (cz q) (cz p):=⟨D3 (Hp p) (cz gg),λt=>by rw [Fa,Fa,Gu,Fa,pfe,sq.e]; grind⟩;obtain ⟨D,M,k,h1,h2,h3⟩:=ha.hv0;rw [yQ pa] at h3;have b1:=(ha.qsn pa).1.1; have b2:=(ha.qsn pa).2.1;have l1:=ha.n; have l2:=hp.l; have l3:=ha.n2;have s1:=O1 (ha.bi pa); have s2:=O1 hp.b;have hst:4*n*K<=4*18*2466:=Zc (by omega) (by omega);have hend:∃ u k',sgF (q::l) (64+2*w+4*n*K) a=some u/\Hv a D M k' u/\(u.point=true\/Tq (q::l) u.lo u.hi=0):=by
   by_cases hpl:p.length<2
   ·have hq1:(Fi p)=[1]:=hp.pr.1.one (by have:=hp.pr.2.1; omega);have hql:q.length<2:=by
     have e:=sq.e;rw [hq1] at e;obtain ⟨p1,p2⟩:=Tg (c:=[1]) rfl (by simp) e;have:=Mp sq.pg.t sq.pq.t (c:=[1]) rfl e p1 p2;simp at this; omega
    have hbt:Tq (q::l) a.lo a.hi=0:=by
     rw [QJ (Qt V.l),hl0 hql,sq.pq.one hql];have hv1:∀ x:Rat,ev (cz [1]) x=1:=λx=>by rw [Fa,Nw]
     simp only [Zz,X6,vv,tc,hv1]; omega
    refine ⟨a,k,?_,h1,.inr hbt⟩;obtain ⟨m,hm⟩:∃ m,64+2*w+4*n*K=m+1:=⟨63+2*w+4*n*K,by omega⟩;rw [hm];simp only [sgF];rw [if_pos (.inr hbt)]
   ·have hg:Se a.p p=K*(2*(n-2)-1):=by unfold Se; rw [hK,hn]
    have hgle:Se a.p p+5*K<=2*n*K:=by
     rw [hg,Zq K,<-X3];exact Q0 _ (by omega)
    have hKp:8<=K:=by omega
    have hnK:2*n*K<=4*n*K:=Q0 _ (by omega);obtain ⟨u,k',u1,u2,u3⟩:=Qki hp.t hp.l (by omega) hS hpq ha hnz h2 (64+2*w+4*n*K) (2+w+2*n*K) a k ((2^(w+1):Nat):Rat) (by omega) h1 (by omega) (TD (by omega)) (by
     have e:(2^(w+1))*(2^(Se a.p p+1))<=2^(2+w+2*n*K):=by
      rw [<-Xf];exact Zs (by decide) (by omega)
     have:=Zm.2 e
     push_cast at this ⊢
     exact this)
    exact ⟨u,k',u1,u2,u3⟩
  obtain ⟨u,k',u1,u2,u3⟩:=hend;rw [u1];refine ⟨_,rfl,.inr ?_⟩;have hfin:Re p u.hi=s:=by
   rcases u2.hi' with hz | hz
   ·have:=gW ca hz hnz;rw [Nk,<-Fa]; exact this
   ·rcases u2.i with ⟨e,_⟩ | ⟨L',V'⟩
    ·have:=u2.c u.hi;rw [Ib e,e,Ey] at this; omega
    ·have hup:u.point=false:=by
      have:¬u.point=true:=λh=>by have:=Mr.1 h; have:=V'.l; grind
      simpa using this
     rcases u3 with h | h
     ·rw [hup] at h; cases h
     ·rw [QJ (Qt V'.l)] at h;obtain ⟨s',hs',hps⟩:=Qcx hpt hp.t hp.nz hS V'.l (by omega);obtain ⟨d,dp,x,y,hx,hy,hq⟩:=hnz;have hlo1:Fp a u.lo=1:=by
       rcases u2.lo' with h | ⟨_,h⟩
       ·exact h
       ·have:=V'.l; clear hps hq; grind
      obtain ⟨m,m1,m2,m3⟩:=CV ca hlo1 hx;have e1:=(hq m (Qt m3) (Qt (ca.lt m1 hy))).1;have e2:=hps m m2 (Qt (ca.lt m1 hz));have e3:=hps u.hi V'.l Qp;rw [Nk,e3,<-e2,<-Fa,e1]
  rw [hfin]; exact ⟨AS,hnz⟩
structure Dp (p:List Int):Prop where
 t:Ff p
 l:p.length<=9
 b:Bd (1130+4*(9-p.length)) p
theorem iP:Szz 9 1253:=⟨by decide,by decide⟩
theorem Dp.ok {p:Um} (h:Dp p) (h0:p.length≠0):Okp 9 1180 p:=⟨iP,h.t,h0,h.l,U6 h.b (by omega)⟩
theorem Dp.der {p:Um} (h:Dp p):Dp (Gx p):=by
 have hl:=Nb p;have hl2:=h.l;refine ⟨Fz _ _,by omega,?_⟩;by_cases h0:p.length=0
 ·rw [Qj (l:=Gx p) (by omega)]; exact ZD
 ·exact U6 (pY h.b (by omega)) (by omega)
def Fq (a:Tm) (p:Um):Int:=(GG p a).getD 0
theorem Qkg {p:Um} (h:Dp p) {a:Tm} (ha:Va a):GG p a=some (Fq a p)/\SgT p a (Fq a p):=by
 by_cases h0:p.length=0
 ·have e:p=[]:=Qj h0;subst e;refine ⟨rfl,.inl ⟨rfl,λd dp=>?_⟩⟩;obtain ⟨x,y,h1,h2,_⟩:=ha.cut.near (e:=1) (by decide);exact ⟨x,y,h1,h2,λq _ _=>by simp only [cz,X6,ev,Rj]; exact dp⟩
 ·obtain ⟨s,h1,h2⟩:=Qkp (h.ok h0) ha;have e:Fq a p=s:=by unfold Fq; rw [h1]; rfl
  rw [e]; exact ⟨h1,h2⟩
theorem Qv1 {c:Rat->Int} {p q:Up} {s:Int} (h:∀ t,ev p t=ev q t) (hp:RS p c s):RS q c s:=by
 obtain ⟨y,h1,h2⟩:=hp;exact ⟨y,h1,λz h3 h4=>by rw [<-h]; exact h2 z h3 h4⟩
theorem qZ {a:Tm} (ha:Va a):∀ (k:Nat) (p:Um),Dp p->p.length<=k->p.length≠0->RS (cz p) (Fp a) (Tx (Fq a) k p)/\Tx (Fq a) k p≠0
 | 0,p,_,h1,h2=>by omega
 |
  k+1,p,h,h1,h2=>by
  simp only [Tx];rw [if_neg h2];obtain ⟨_,hs⟩:=Qkg h ha;rcases hs with ⟨e,hv⟩ | ⟨e,hn⟩
  ·rw [if_pos e];have hdn:(Gx p).length≠0:=λh0=>by
    by_cases h3:p.length=1
    ·obtain ⟨c,rfl⟩:∃ c,p=[c]:=Kr.1 h3;have hc:c≠0:=by have:=H9 h.t (by simp); simpa using this
     obtain ⟨q,hq,_⟩:=gK ha.cut (hv (Fj (c:Rat)) (Cv (XG hc)));rw [Fa] at hq;have:U9 [c] q=(c:Rat):=by simp only [U9]; grind
     rw [this] at hq; grind
    ·have h4:=Bv p (p.length-2);rw [Qj h0,show p.length-2+1=p.length-1 by omega] at h4;have h5:p.getD (p.length-1) 0≠0:=H9 h.t (by omega);rcases Yf.1 (h4.symm.trans (by simp)) with h6 | h6
     ·exact h5 h6
     ·omega
   have hl:=Nb p;obtain ⟨i1,i2⟩:=qZ ha k (Gx p) h.der (by omega) hdn;exact ⟨vU ha.cut hv (Qv1 (λt=>by rw [Fa,Oq,Tr]) i1) i2,i2⟩
  ·rw [if_neg e]; exact ⟨zU ha.cut hn,e⟩
theorem El {a:Tm} (ha:Va a) {p:Um} (h:Dp p) (h0:p.length≠0):RS (cz p) (Fp a) (Hk (Fq a) p)/\Hk (Fq a) p≠0:=qZ ha _ p h (Ql _) h0
theorem XW {a:Tm}:Hk (Fq a) []=0:=rfl
theorem Qo3 {l:Um}:∀ z∈l,z.natAbs≤most l:=by
 have key:∀ (l:Um) (m:Nat),m≤l.foldl (λm z=>if m<z.natAbs then z.natAbs else m) m/\∀ z∈l,z.natAbs≤l.foldl (λm z=>if m<z.natAbs then z.natAbs else m) m:=by
  intro l
  induction l with
  | nil=>exact λm=>⟨Ql _,λz hz=>by cases hz⟩
  |
   cons y l ih =>
   intro m;obtain ⟨e,he⟩:=nmE (if m<y.natAbs then y.natAbs else m);have h1:m<=e/\y.natAbs<=e:=by rw [he]; split <;> omega
   obtain ⟨i1,i2⟩:=ih e;simp only [Z9];rw [<-he];refine ⟨by omega,λz hz=>?_⟩;rcases Qm.1 hz with rfl | hz
   ·omega
   ·exact i2 z hz
 exact (key l 0).2
theorem BY {p:Um} (h:Ft p≠0):Gy p*((Ft p).natAbs:Rat)=((Ft p).natAbs:Rat)+((most (p.take (p.length-1)):Nat):Rat):=by
 unfold Gy;rw [<-Ra];have hp:0<(Ft p).natAbs:=by omega
 have:=nat_pos hp;rw [show ((((Ft p).natAbs:Int)):Rat)=((Ft p).natAbs:Rat) from rfl,Hf this];rw [Kc]; rfl
theorem aV {m:Nat} {x:Rat} (hx:1≤Fj x):∀ (p:Um) (lp:p.length≠0),(∀ z∈p.take (p.length-1),z.natAbs≤m)->Ft p≠0->(m:Rat)≤(Fj x-1)*((Ft p).natAbs:Rat)->((Ft p).natAbs:Rat)≤U9 p x*(((Int.sign (Ft p))*(if x<0/\p.length % 2=0 then -1 else 1):Int):Rat)
 | [],lp,_,_,_=>absurd rfl lp
 |
  [c],_,_,hc,_=>by
  have hl:Ft [c]=c:=rfl;rw [hl] at hc ⊢;rw [if_neg (by simp),Ub];have h1:U9 [c] x=(c:Rat):=by simp only [U9]; grind
  rw [h1];have h2:c*Int.sign c=(c.natAbs:Int):=Int.mul_sign_self c;have:=congrArg (λz:Int=>(z:Rat)) h2;rw [Xz] at this;rw [this]; exact Qp
 |
  c::d::p,_,hm,hc,hb=>by
  have hl:Ft (c::d::p)=Ft (d::p):=by unfold Ft; simp [List.getD_cons_succ]
  have ih:=aV hx (d::p) (by simp) (λz hz=>hm z (by
   have e:(c::d::p).take ((c::d::p).length-1)=c::(d::p).take ((d::p).length-1):=by simp
   rw [e]; exact Qg _ hz)) (by rw [<-hl]; exact hc) (by rw [<-hl]; exact hb)
  rw [hl] at hc hb ⊢;have hcm:=hm c (by simp);obtain ⟨s,hs⟩:∃ s:Int,s=Int.sign (Ft (d::p)):=⟨_,rfl⟩;have hsv:s=1\/s=-1:=by
   rw [hs];rcases Ke hc with h | h
   ·exact .inr (J7 h)
   ·exact .inl (Yu h)
  rw [<-hs] at ih ⊢;obtain ⟨ld,hld⟩:∃ ld:Rat,ld=((Ft (d::p)).natAbs:Rat):=⟨_,rfl⟩;rw [<-hld] at ih hb ⊢;have hcq:Fj (c:Rat)<=(m:Rat):=by rw [Sy]; exact Zm.2 hcm
  rw [Mf] at hcq;have e1:U9 (c::d::p) x=(c:Rat)+x*U9 (d::p) x:=rfl;rw [e1];have hlen:(c::d::p).length % 2=0↔¬(d::p).length % 2=0:=by simp only [Q5]; omega
  generalize U9 (d::p) x=y at *;generalize (m:Rat)=mm at *;generalize (c:Rat)=cc at *;have hx0:=hx;by_cases hneg:x<0
  ·have hq:Fj x=-x:=by unfold Fj; rw [if_pos hneg]
   rw [hq] at hx0 hb;by_cases hpar:(d::p).length % 2=0
   ·rw [if_pos ⟨hneg,hpar⟩] at ih;rw [if_neg λh=>(hlen.1 h.2) hpar];rcases hsv with rfl | rfl
    ·have ih:ld<=y*(-1):=by simpa using ih
     have:=Z0 ih (show 0<=-x by grind);have e:(((1:Int)*1:Int):Rat)=1:=rfl;rw [e]; grind
    ·have ih:ld<=y*1:=by simpa using ih
     have:=Z0 ih (show 0<=-x by grind);have e:(((-1:Int)*1:Int):Rat)=-1:=rfl;rw [e]; grind
   ·rw [if_neg λh=>hpar h.2] at ih;rw [if_pos ⟨hneg,hlen.2 hpar⟩];rcases hsv with rfl | rfl
    ·have ih:ld<=y*1:=by simpa using ih
     have:=Z0 ih (show 0<=-x by grind);have e:(((1:Int)*-1:Int):Rat)=-1:=rfl;rw [e]; grind
    ·have ih:ld<=y*(-1):=by simpa using ih
     have:=Z0 ih (show 0<=-x by grind);have e:(((-1:Int)*-1:Int):Rat)=1:=rfl;rw [e]; grind
  ·have hq:Fj x=x:=by unfold Fj; rw [if_neg hneg]
   rw [hq] at hx0 hb;rw [if_neg λh=>hneg h.1] at ih ⊢;rcases hsv with rfl | rfl
   ·have ih:ld<=y*1:=by simpa using ih
    have:=Z0 ih (show 0<=x by grind);have e:(((1:Int)*1:Int):Rat)=1:=rfl;rw [e]; grind
   ·have ih:ld<=y*(-1):=by simpa using ih
    have:=Z0 ih (show 0<=x by grind);have e:(((-1:Int)*1:Int):Rat)=-1:=rfl;rw [e]; grind
theorem pU {p:Um} (tp:Ff p) (lp:p.length≠0) {x:Rat} (hx:Gy p<=Fj x):1<=Fj (U9 p x)/\(0<=x->Re p x=UE p)/\(x<0->Re p x=ZR p):=by
 have hl:=En tp lp;have hpos:0<(Ft p).natAbs:=by omega
 have h1:(1:Rat)<=((Ft p).natAbs:Rat):=by
  have:((1:Nat):Rat)<=((Ft p).natAbs:Rat):=Zm.2 hpos;exact this
 have hm0:(0:Rat)<=((most (p.take (p.length-1)):Nat):Rat):=Xi;have hb:=BY hl;have hx1:=Ze hx (show (0:Rat)<=((Ft p).natAbs:Rat) by grind);have hx2:1<=Fj x:=by
  rcases Gi 1 (Fj x) with h | h
  ·exact h
  ·exfalso;have:=Vy h (show (0:Rat)<((Ft p).natAbs:Rat) by grind);grind
 have key:=aV (m:=most (p.take (p.length-1))) hx2 p lp (λz hz=>Qo3 z hz) hl (by grind);obtain ⟨s,hs⟩:∃ s:Int,s=Int.sign (Ft p)*(if x<0/\p.length % 2=0 then -1 else 1):=⟨_,rfl⟩;rw [<-hs] at key;have hsv:s=1\/s=-1:=by
  rw [hs];rcases Ke hl with h | h
  ·rw [J7 h]; split <;> simp
  ·rw [Yu h]; split <;> simp
 have hsg:Re p x=s/\1<=Fj (U9 p x):=by
  rw [Nk];rcases hsv with e | e
  ·rw [e] at key ⊢;have key:((Ft p).natAbs:Rat)<=U9 p x:=by simpa using key
   exact ⟨Hy.2 (by grind),by unfold Fj; rw [if_neg (by grind)]; grind⟩
  ·rw [e] at key ⊢;have key:((Ft p).natAbs:Rat)<=U9 p x*(-1):=by simpa using key
   exact ⟨Pf.2 (by grind),by unfold Fj; rw [if_pos (by grind)]; grind⟩
 refine ⟨hsg.2,λh=>?_,λh=>?_⟩
 ·rw [hsg.1,hs,if_neg λh'=>by have:=h'.1; grind]; unfold UE; omega
 ·rw [hsg.1,hs]; unfold ZR;by_cases he:p.length % 2=0
  ·rw [if_pos ⟨h,he⟩,if_pos he]; omega
  ·rw [if_neg λh'=>he h'.2,if_neg he]; omega
theorem JB {f g:Um->Int}:∀ {l:Un} (s:Nat×Int),(∀ p∈l,f p=g p)->l.foldl (Pq f) s=l.foldl (Pq g) s
 | [],s,_=>rfl
 |
  p::l,s,h=>by
  simp only [Z9];have e:Pq f s p=Pq g s p:=by unfold Pq; rw [h p (List.mem_cons_self ..)]
  rw [e]; exact JB _ λq hq=>h q (Qg _ hq)
theorem aQ:∀ (l:Un),(∀ p∈l,Ff p/\p.length≠0)->∃ X:Rat,0<X/\∀ x,X≤x->(∀ p∈l,Re p x=UE p)/\∀ p∈l,Re p (-x)=ZR p
 | [],_=>⟨1,by decide,λx _=>⟨(λp hp=>by cases hp),(λp hp=>by cases hp)⟩⟩
 |
  p::l,h=>by
  obtain ⟨X,hX,hl⟩:=aQ l λq hq=>h q (Qg _ hq)
  obtain ⟨tp,lp⟩:=h p (Qx ..);refine ⟨X+Fj (Gy p),by have:=Hw (Gy p); grind,λx hx=>?_⟩;have hb0:=Hw (Gy p);have hb1:Gy p<=Fj (Gy p):=by unfold Fj; split <;> grind
  obtain ⟨l1,l2⟩:=hl x (by grind);have e1:Fj x=x:=by unfold Fj; rw [if_neg (by grind)]
  have e2:Fj (-x)=x:=by rw [Et,e1]
  refine ⟨λq hq=>?_,λq hq=>?_⟩
  ·rcases Qm.1 hq with rfl | hq
   ·exact (pU tp lp (x:=x) (by rw [e1]; grind)).2.1 (by grind)
   ·exact l1 q hq
  ·rcases Qm.1 hq with rfl | hq
   ·exact (pU tp lp (x:=-x) (by rw [e2]; grind)).2.2 (by grind)
   ·exact l2 q hq
theorem dG {q:Um} {L:Uq} (hS:HJ (cz q) L) (tq:Ff q) (lq:q.length≠0) {x y:Rat} (hxy:x<y) (h:Gy q<=x\/y<=-Gy q) (hb:0<Gy q):vv L x=vv L y:=by
 rcases Classical.em (vv L x=vv L y) with e | e
 ·exact e
 ·exfalso;obtain ⟨r,r1,r2,r3⟩:=vC hS hxy e (d:=1) (by decide);have:=(pU tq lq (x:=r) (by rcases h with h | h <;> (unfold Fj; split <;> grind))).1;rw [Fa] at r3; grind
theorem HU {p:Um} (h:Ft p≠0):1<=Gy p:=by
 have hb:=BY h;have hp:=nat_pos (show 0<(Ft p).natAbs by omega);have hm0:(0:Rat)<=((most (p.take (p.length-1)):Nat):Rat):=Xi;rcases Gi 1 (Gy p) with h' | h'
 ·exact h'
 ·have:=Vy h' hp; grind
theorem Qc6 {q:Um} {l:Un} (hS:HJ (cz q) ((q::l).map cz)) (hl:∀ p∈q::l,Ff p/\p.length≠0):WP (q::l)=(vv ((q::l).map cz) (-Gy q):Int)-(vv ((q::l).map cz) (Gy q):Int):=by
 obtain ⟨tq,lq⟩:=hl q (Qx ..);have hb:=HU (En tq lq);obtain ⟨X,hX,hx⟩:=aQ (q::l) hl;obtain ⟨h1,h2⟩:=hx (X+Gy q) (by grind);have e1:Cz UE (q::l)=vv ((q::l).map cz) (X+Gy q):=by
  rw [<-ZY]; unfold C0 Cz;rw [JB (f:=UE) (g:=λp=>Re p (X+Gy q)) (0,0) λp hp=>(h1 p hp).symm]
 have e2:Cz ZR (q::l)=vv ((q::l).map cz) (-(X+Gy q)):=by
  rw [<-ZY]; unfold C0 Cz;rw [JB (f:=ZR) (g:=λp=>Re p (-(X+Gy q))) (0,0) λp hp=>(h2 p hp).symm]
 unfold WP;rw [e1,e2,dG hS tq lq (x:=-(X+Gy q)) (y:=-Gy q) (by grind) (.inr Qp) (by grind),<-dG hS tq lq (x:=Gy q) (y:=X+Gy q) (by grind) (.inl Qp) (by grind)]
theorem Qvd {f:Up} {L:Uq} (hS:HJ f L) {x y:Rat} (hxy:x<y) (hv:vv L y+2<=vv L x):∃ m,x<m/\m<y/\vv L m<vv L x/\vv L y<vv L m/\ev f m≠0:=by
 obtain ⟨R,hR,hx,hy⟩:=xX x y;obtain ⟨e,ep,he⟩:=Qlc hS R hR;have key:∀ n:Nat,∀ x,Fj x<=R->x<y->vv L y+2<=vv L x->y-x<=(n:Rat)*e->∃ m,x<m/\m<y/\vv L m<vv L x/\vv L y<vv L m:=by
  intro n
  induction n with
  | zero=>intro x _ hxy _ hn; rw [show ((0:Nat):Rat)=0 from rfl] at hn; exfalso; clear he; grind
  |
   succ n ih =>
   intro x hx hxy hv hn;have hn':(((n+1:Nat):Rat))=(n:Rat)+1:=by push_cast; rfl
   rw [hn'] at hn;rcases Gi (y-x) e with h1 | h1
   ·have:=he x y hx hy hxy h1; omega
   ·have hm:Fj (x+e)<=R:=FY hx hy (by clear he ih; grind) (by clear he ih; grind);have h2:=he x (x+e) hx hm (by clear he ih; grind) (by clear he ih; grind);have h3:=Az hS (show x<x+e by clear he ih; grind);by_cases h4:vv L x=vv L (x+e)
    ·obtain ⟨m,m1,m2,m3,m4⟩:=ih (x+e) hm (by clear he ih; grind) (by omega) (by clear he ih; grind);exact ⟨m,by clear he ih; grind,m2,by omega,m4⟩
    ·exact ⟨x+e,by clear he ih; grind,by clear he ih; grind,by omega,by omega⟩
 obtain ⟨n,hn⟩:=ZC (z:=y-x) ep;obtain ⟨m,m1,m2,m3,m4⟩:=key n x hx hxy hv hn;rcases Classical.em (ev f m=0) with h0 | h0
 ·-- a little farther on
  obtain ⟨e2,e2p,hl⟩:=loc hR hS (w:=f) (u:=[1]) (λt=>by rw [Tf]; grind);obtain ⟨d,dp,d1,d2⟩:=min2 (a:=e2) (b:=(y-m) / 2) e2p (Ag (by clear he key hl; grind) (by decide));have h2:(y-m) / 2*2=y-m:=Hf (by decide);have hmR:Fj m<=R:=FY hx hy (Qt m1) (Qt m2);have hmR2:Fj (m+d)<=R:=FY hx hy (by clear he key hl; grind) (by clear he key hl; grind);rcases hl m (m+d) hmR hmR2 (by clear he key hl; grind) (by clear he key hl; grind) with ⟨p1,p2,_⟩ | ⟨_,p1,_,p3,_⟩
  ·refine ⟨m+d,by clear he key hl; grind,by clear he key hl; grind,by omega,by omega,λh'=>?_⟩;have:=p2.s;rw [Gs.2 h'] at this; exact p2.n this.symm
  ·rw [Gs.2 h0] at p3; exact absurd p3.symm p1
 ·exact ⟨m,m1,m2,m3,m4,h0⟩
theorem Qqx {q:Um} {L:Uq} (hS:HJ (cz q) L) (tq:Ff q) (nq:q.length<=9) (lq:2<=q.length) {lo hi:Rat} (hl:lo<hi) (hv:vv L hi+2<=vv L lo):1<(hi-lo)*((2^(Se q q+1):Nat):Rat):=by
 rcases Gi ((hi-lo)*((2^(Se q q+1):Nat):Rat)) 1 with hw | hw
 ·exfalso;have hpow:(0:Rat)<=((2^(Se q q+1):Nat):Rat):=Xi;obtain ⟨m,m1,m2,m3,m4,m0⟩:=Qvd hS hl hv;obtain ⟨R,hR,r1,r2⟩:=xX lo hi;have hd:=Cv m0;obtain ⟨d,dp,_,db⟩:=Hj (b:=AL R (cz q)) (d:=Fj (ev (cz q) m) / 2) (M3 hR _) (Ag hd (by decide));have hd2:Fj (ev (cz q) m) / 2*2=Fj (ev (cz q) m):=Hf (by decide);have hmR:Fj m<=R:=FY r1 r2 (Qt m1) (Qt m2);have hnear:∀ r,Fj r<=R->Fj (ev (cz q) r)<Fj (ev (cz q) m) / 2->d<Fj (r-m):=λr hr hs=>by
   rcases Gi (Fj (r-m)) d with h | h
   ·exfalso;have h1:=Mc (p:=cz q) hmR hr hR h db;have h2:=Su (ev (cz q) m-ev (cz q) r) (ev (cz q) r);rw [show ev (cz q) m-ev (cz q) r+ev (cz q) r=ev (cz q) m by grind,oR] at h2;grind
   ·exact h
  refine Qhg (R:=R+1) (d:=d+d) tq tq nq nq lq lq (by grind) (by grind) λe ep=>?_
  obtain ⟨e',ep',e1,e2⟩:=min2 (a:=e) (b:=Fj (ev (cz q) m) / 2) ep (Ag hd (by decide));obtain ⟨x,x1,x2,x3⟩:=vC hS m1 (by omega) ep';obtain ⟨y,y1,y2,y3⟩:=vC hS m2 (by omega) ep';have hxR:Fj x<=R:=FY r1 r2 x1 (by grind);have hyR:Fj y<=R:=FY r1 r2 (by grind) y2;have nx:=hnear x hxR (by grind);have ny:=hnear y hyR (by grind);have ex:Fj (x-m)=m-x:=by unfold Fj; split <;> grind
  have ey:Fj (y-m)=y-m:=by unfold Fj; split <;> grind
  rw [ex] at nx;rw [ey] at ny;have exy:Fj (x-y)=y-x:=by unfold Fj; split <;> grind
  refine ⟨x,y,by grind,by grind,by rw [exy]; grind,?_,by rw [<-Fa]; grind,by rw [<-Fa]; grind⟩;rw [exy];exact Zl (Ze (show y-x<=hi-lo by grind) hpow) hw
 ·exact hw
end Orq
