/- T10 T11 T12 T13 T14 T15 T16 T17 T18 T19 T20 T21 T22 T23 -/
import Derived.Test.YtbhhcpcpionelaaGreatPart05
import Derived.Test.YtbhhcpcpionelaaGreatPart00
set_option linter.all false
namespace Orq
def NP (A B:W9) (b J J' n k j:Nat):Int:=if n<b*J then GG (n / J) (n % J) (fA A) k j else GG ((n-b*J) / J') ((n-b*J) % J') (gc B) k j
theorem Qdr {F:Nat->Nat->Int} {h:Nat} (hF:∀ k j,(F k j).natAbs<=h) (i j' k j:Nat):(GG i j' F k j).natAbs<=h:=by
 unfold GG; split
 ·split
  ·exact hF _ _
  ·exact Qi _
 ·exact Qi _
theorem Qkh {i b J j:Nat} (hi:i<b) (hj:j<J):i*J+j<b*J:=by
 have:(i+1)*J<=b*J:=Qz J hi;rw [Z6] at this; omega
theorem WB {i J j:Nat} (hj:j<J):(i*J+j) / J=i/\(i*J+j) % J=j:=by
 rw [Zo,Wp (by omega),Wq,Vp hj,Xp hj]; exact ⟨by omega,rfl⟩
theorem LY (A B:W9) (a b J J':Nat) (v:Nat->Int) (k j:Nat):sm (b*J+a*J') (λn=>NP A B b J J' n k j*v n) =
 (sm b λi=>sm J λj1=>GG i j1 (fA A) k j*v (i*J+j1))+sm a λi=>sm J' λj1=>GG i j1 (gc B) k j*v (b*J+(i*J'+j1)):=by
 rw [gZ,gX,gX];congr 1
 ·refine Cv b λi hi=>Cv J λj1 hj=>?_
  unfold NP;rw [if_pos (Qkh hi hj),(WB hj).1,(WB hj).2]
 ·refine Cv a λi hi=>Cv J' λj1 hj=>?_
  unfold NP;rw [if_neg (by omega),Jd,(WB hj).1,(WB hj).2]
theorem Qpe (A:W9) (v:Nat->Int) {i J k j:Nat} (hj:j<J):(sm J λj1=>GG i j1 (fA A) k j*v (i*J+j1))=if i<=k then A.getD (k-i) 0*v (i*J+j) else 0:=by
 rw [MP (k:=j) J hj λj1 _ hne=>?_]
 ·unfold GG fA;by_cases h:i<=k
  ·rw [if_pos h,if_pos h,if_pos (Qn _),if_pos (Ku _)]
  ·rw [if_neg h,if_neg h,Yn]
 ·unfold GG fA;by_cases h:i<=k
  ·rw [if_pos h];by_cases h':j1<=j
   ·rw [if_pos h',if_neg (by omega),Yn]
   ·rw [if_neg h',Yn]
  ·rw [if_neg h,Yn]
section
variable {A B:W9} {a b J J':Nat} (hA:A.length=a+1) (hB:B.length=b+1) (lA:A.getD a 0≠0) (lB:B.getD b 0≠0) (hJ:J=J'+b) {v:Nat->Int} (hW:∀ k j,k<a+b->j<J->sm (b*J+a*J') (λn=>NP A B b J J' n k j*v n)=0)
include hA lA hW in
theorem Qj6 {jj:Nat} (hj:jj<J) (hV:∀ k,a<=k->k<a+b->(sm a λi=>sm J' λj1=>GG i j1 (gc B) k jj*v (b*J+(i*J'+j1)))=0):∀ d i,i<b->b-i<=d->v (i*J+jj)=0:=by
 intro d
 induction d with
 | zero=>intro i hi hd; omega
 |
  succ d ih =>
  intro i hi hd;have h1:=hW (i+a) jj (by omega) hj;rw [LY,hV (i+a) (by omega) (by omega)] at h1;rw [Cv b (λi' hi'=>Qpe A v hj)] at h1;rw [MP (k:=i) b hi λi' hi' hne=>?_] at h1
  ·rw [if_pos (by omega),Jd,Int.add_zero] at h1;rcases J3.1 h1 with h2 | h2
   ·exact absurd h2 lA
   ·exact h2
  ·rcases Zc i i' with h | h
   ·rw [ih i' hi' (by omega)]; simp
   ·rw [if_pos (by omega),Qj,Q0 (by omega)]; simp
include hA hB lA lB hJ hW in
theorem Qpf:∀ d js,js<J'->J'-js<=d->∀ i,i<a->v (b*J+(i*J'+js))=0:=by
 intro d
 induction d with
 | zero=>intro js hi hd; omega
 |
  succ d ih =>
  intro js hjs hd i hi;have hin:∀ i' k,i'<a->(sm J' λj1=>GG i' j1 (gc B) k (js+b)*v (b*J+(i'*J'+j1)))=if i'=k then gc B 0 b*v (b*J+(i'*J'+js)) else 0:=λi' k hi'=>by
   rw [MP (k:=js) J' hjs λj1 hj1 hne=>?_]
   ·unfold GG;by_cases h:i'<=k
    ·rw [if_pos h,if_pos (by omega),Jd];by_cases h':i'=k
     ·rw [if_pos h',h',Ku]
     ·rw [if_neg h',HZ B _ _ (by omega),Yn]
    ·rw [if_neg h,if_neg (by omega),Yn]
   ·rcases Zc js j1 with h | h
    ·rw [ih j1 hj1 (by omega) i' hi',Kq]
    ·unfold GG;by_cases h':i'<=k
     ·rw [if_pos h',if_pos (by omega),HZ B _ _ (by omega),Yn]
     ·rw [if_neg h',Yn]
  have hU:=Qj6 hA lA hW (jj:=js+b) (by omega) (λk hk hk'=>ZG a λi' hi'=>by rw [hin i' k hi',if_neg (by omega)]) (b+1);have h1:=hW i (js+b) (by omega) (by omega);rw [LY,Cv a (λi' hi'=>hin i' i hi')] at h1;rw [ZG b λi' hi'=>by
   rw [Qpe A v (by omega),hU i' hi' (by omega)]; simp] at h1
  rw [MP (k:=i) a hi λi' hi' hne=>if_neg hne,if_pos rfl,Int.zero_add] at h1;rcases J3.1 h1 with h2 | h2
  ·have:=Qay B b hB; rw [h2] at this; omega
  ·exact h2
include hA hB lA lB hJ hW in
theorem lD:∀ n,n<b*J+a*J'->v n=0:=by
 intro n hn;have hV:=Qpf hA hB lA lB hJ hW;rcases Zc n (b*J) with h | h
 ·have hJp:0<J:=by
   rcases Q6 J with e | e
   ·rw [e,Y3] at h; omega
   ·exact e
  have e1:=Z9 n hJp;have e2:n / J<b:=X1 (by rw [Zo]; exact h);have:=Qj6 hA lA hW e1 (λk _ _=>ZG a λi hi=>ZG J' λj1 hj1=>by rw [hV J' j1 hj1 (by omega) i hi,Kq]) (b+1) (n / J) e2 (Qd (Nat.sub_le _ _) (Nat.le_succ _));rwa [Zo,Xh] at this
 ·have hJp:0<J':=by
   rcases Q6 J' with e | e
   ·rw [e,Y3] at hn; omega
   ·exact e
  have e1:=Z9 (n-b*J) hJp;have e2:(n-b*J) / J'<a:=X1 (by rw [Zo J' a]; omega);have:=hV J' _ e1 (by omega) _ e2;rw [Zo ((n-b*J) / J'),Xh] at this;rwa [show b*J+(n-b*J)=n by omega] at this
end
theorem ZW {R x:Rat} (h1:1<=R) (hx:Uw x<=R):∀ k:Nat,Uw (x^k)<=R^k/\1<=R^k
 | 0=>by rw [Xa,Xa]; exact ⟨by decide,by decide⟩
 |
  k+1=>by
  obtain ⟨i1,i2⟩:=ZW h1 hx k;rw [Z3,Z3];have:=Nc (a:=1) (c:=1) (by decide) i2 (by decide) h1;exact ⟨Gh i1 hx,by grind⟩
theorem mI {R:Rat} (h1:1<=R) {i:Nat}:∀ k,i<=k->R^i<=R^k
 | 0,h=>by rw [show i=0 by omega]; exact Qo
 |
  k+1,h=>by
  rcases Y9 h with e | e
  ·have:=mI h1 (i:=i) k (by omega);have h2:=(ZW h1 (x:=0) (by rw [He]; grind) k).2;rw [Z3];have:=Nc (a:=R^k) (b:=R^k) (c:=1) (d:=R) (by grind) Qo (by decide) h1;grind
  ·rw [e]; exact Qo
theorem Qdq {F:Nat->Nat->Int} {i j' K J:Nat} {x y R X:Rat} {K2 J2:Nat} (h1:1<=R) (hx:Uw x<=R) (hy:Uw y<=R) (hK:K=i+K2) (hJ:J=j'+J2) (hF:E2 F K2 J2 x y=X):Uw (E2 (GG i j' F) K J x y)<=R^(K+J)*Uw X:=by
 subst hK; subst hJ;rw [TO,hF,Ek];have a1:=(ZW h1 hy i).1;have a2:=(ZW h1 hx j').1;have a3:=Gh a1 a2;rw [<-VI] at a3;have a4:=mI h1 (i:=i+j') (i+K2+(j'+J2)) (by omega);exact Nc (Gz _) (Zg a3 a4) (Gz _) Qo
theorem Qnq {A B:W9} {a b h:Nat} (hA:A.length=a+1) (hB:B.length=b+1) (lA:A.getD a 0≠0) (lB:B.getD b 0≠0) (ha:0<a) (hb:0<b) (h0:1<=h) (bA:∀ k,(A.getD k 0).natAbs<=h) (bB:gB B<=h) {J J' N H:Nat} (hJ:J=2*(a*b)) (hJ':J=J'+b) (hN:N=b*J+a*J') (hH:H=(2*(N*h))^(2*(a+b-1))) :
 ∃ w:Nat->Int,(∃ j,j<J/\w j≠0)/\(∀ j,(w j).natAbs<=N*(h*H))/\∀ R:Rat,1<=R->∃ C:Rat,0<=C/\∀ x y,Uw x<=R->Uw y<=R->Uw (sq J λj=>(w j:Rat)*x^j)<=C*(Uw (Up A y)+Uw (Up B (y-x))):=by
 have hab:0<a*b:=Yl ha hb;have hbd:∀ n k j,(NP A B b J J' n k j).natAbs<=h:=λn k j=>by
  unfold NP
  split
  ·exact Qdr (λk j=>by unfold fA; split; exact bA k; exact Nat.zero_le _) _ _ _ _
  ·exact Qdr (λk j=>Qd (Qax B k j) bB) _ _ _ _
 have hJp:0<J:=by omega
 have hNp:1<=N:=by
  have:0<b*J:=Yl hb hJp;omega
 have hNh:1<=N*h:=Yl hNp h0;obtain ⟨E,hE⟩:=nmE ((a+b-1)*J);have hNE:N=E+a*b:=by
  have e1:(a+b-1)*J+J=(a+b)*J:=by
   rw [<-Z6]; congr 1; omega
  have e2:a*J=a*J'+a*b:=by rw [hJ',Xg]
  rw [X4] at e1;omega
 have hc:(2*(N*(h*H))+1)^E<(H+1)^N:=by
  have c1:2*(N*(h*H))+1<=2*(N*h)*(H+1):=by
   rw [Xg,Yk,Xu 2,Xu N]; omega
  refine Z2 (Nat.pow_le_pow_left c1 E) ?_;rw [Nat.mul_pow,hNE,Xc,Zo];refine Nat.mul_lt_mul_of_pos_left ?_ (Zy (by omega));have e1:(2*(N*h))^E=H^(a*b):=by
   rw [hH,<-Wx,hE,hJ]; congr 1;rw [Zo 2 (a+b-1),Xu]
  rw [<-hNE,e1];exact Nat.pow_lt_pow_left (by omega) (by omega)
 obtain ⟨v,v1,⟨n0,n1,n2⟩,v3⟩:=Qnu (M:=λe n=>NP A B b J J' n (e / J+1) (e % J)) (h:=h) (N:=N) (E:=E) (H:=H) (λe n=>hbd n _ _) hc;have hW:∀ k j,1<=k->k<a+b->j<J->sm N (λn=>NP A B b J J' n k j*v n)=0:=λk j k1 k2 hj=>by
  have:=v3 ((k-1)*J+j) (by rw [hE]; exact Qkh (by omega) hj);rwa [(WB hj).1,(WB hj).2,show k-1+1=k by omega] at this
 refine ⟨λj=>sm N λn=>NP A B b J J' n 0 j*v n,?_,λj=>?_,λR hR=>?_⟩
 ·rcases Classical.em (∃ j,j<J/\(sm N λn=>NP A B b J J' n 0 j*v n)≠0) with e | e
  ·exact e
  ·exfalso;refine n2 (lD hA hB lA lB hJ' (v:=v) (λk j hk hj=>?_) n0 (by rw [<-hN]; exact n1));rw [<-hN];rcases Q6 k with e' | e'
   ·subst e';rcases Classical.em ((sm N λn=>NP A B b J J' n 0 j*v n)=0) with e2 | e2
    ·exact e2
    ·exact absurd ⟨j,hj,e2⟩ e
   ·exact hW k j e' hk hj
 ·refine Qdx N λn _=>?_
  rw [Yh];exact Zk (hbd n 0 j) (v1 n)
 ·have hRp:∀ k:Nat,1<=R^k:=λk=>(ZW hR (x:=0) (by rw [He]; grind) k).2
  have hHn:(0:Rat)<=(H:Rat):=Xf;have hNn:(0:Rat)<=(N:Rat):=Xf;refine ⟨(N:Rat)*((H:Rat)*R^(a+b+J)),Me hNn (Me hHn (by have:=hRp (a+b+J); grind)),λx y hx hy=>?_⟩;have e1:(sq J λj=>((sm N λn=>NP A B b J J' n 0 j*v n:Int):Rat)*x^j)=E2 (λk j=>sm N λn=>NP A B b J J' n k j*v n) (a+b) J x y:=by
   unfold E2;obtain ⟨m,hm⟩:∃ m,a+b=m+1:=⟨a+b-1,by omega⟩;rw [hm,Az,Nn (n:=m)]
   ·have:(sq J λj=>((sm N λn=>NP A B b J J' n 0 j*v n:Int):Rat)*(y^0*x^j))=sq J λj=>((sm N λn=>NP A B b J J' n 0 j*v n:Int):Rat)*x^j:=Tv J λj _=>by rw [Xa]; grind
    rw [this]; grind
   ·intro k hk;refine Nn J λj hj=>?_
    show ((sm N λn=>NP A B b J J' n (k+1) j*v n:Int):Rat)*_=0;rw [hW (k+1) j (by omega) (by omega) hj,show ((0:Int):Rat)=0 from rfl]; grind
  rw [e1,Qae];have key:∀ n,n<N->Uw ((v n:Rat)*E2 (NP A B b J J' n) (a+b) J x y)<=(H:Rat)*(R^(a+b+J)*(Uw (Up A y)+Uw (Up B (y-x)))):=λn hn=>by
   have hvn:Uw (v n:Rat)<=(H:Rat):=by
    have h1:=v1 n;have h2:(v n)<=(H:Int):=by omega
    have h3:-(H:Int)<=v n:=by omega
    have h2:=X6.2 h2;have h3:=X6.2 h3;rw [Vz] at h3;rw [Sx]; exact ⟨h3,h2⟩
   refine Gh hvn ?_;have hRk:=hRp (a+b+J);have n1:=Gz (Up A y);have n2:=Gz (Up B (y-x));rcases Zc n (b*J) with h | h
   ·have e:NP A B b J J' n=GG (n / J) (n % J) (fA A):=by funext k j; unfold NP; rw [if_pos h]
    have d1:n / J<b:=X1 (by rw [Zo]; exact h);have d2:=Z9 n hJp;rw [e];refine Zg (Qdq (K2:=a+b-n / J) (J2:=J-n % J) hR hx hy (by omega) (by omega) (X:=Up A y) ?_) (Nc (by grind) Qo n1 (by grind));obtain ⟨m,hm⟩:∃ m,J-n % J=m+1:=⟨J-n % J-1,by omega⟩;rw [hm]; exact Qph A _ _ x y (by omega)
   ·have e:NP A B b J J' n=GG ((n-b*J) / J') ((n-b*J) % J') (gc B):=by funext k j; unfold NP; rw [if_neg (by omega)]
    have hJp':0<J':=by
     rcases Q6 J' with e | e
     ·rw [e,Y3] at hN; omega
     ·exact e
    have d1:(n-b*J) / J'<a:=X1 (by rw [Zo J' a]; omega);have d2:=Z9 (n-b*J) hJp';rw [e];refine Zg (Qdq (K2:=a+b-(n-b*J) / J') (J2:=J-(n-b*J) % J') hR hx hy (by omega) (by omega) (X:=Up B (y-x)) ?_) (Nc (by grind) Qo n2 (by grind));exact Qme x y B _ _ (by omega) (by omega)
  have:=Qkv N key;refine Zg this ?_;have:(N:Rat)*((H:Rat)*(R^(a+b+J)*(Uw (Up A y)+Uw (Up B (y-x)))))=(N:Rat)*((H:Rat)*R^(a+b+J))*(Uw (Up A y)+Uw (Up B (y-x))):=by grind
  rw [this]; exact Qo
end Orq
namespace Orq
theorem Qd1 {w:Nat->Int} {x:Rat} {D:Rat} (hx:Uw x*2<=1) (hw:∀ j,Uw (w j:Rat)<=D):∀ J (k:Nat),Uw (sq J λj=>(w (k+j):Rat)*x^j)<=2*D
 | 0,k=>by have:=hw 0; have:=Gz (w 0:Rat); simp only [sq,He]; clear hw; grind
 |
  J+1,k=>by
  have ih:=Qd1 hx hw J (k+1);rw [Az];have e:(sq J λi=>(w (k+(i+1)):Rat)*x^(i+1))=x*sq J λi=>(w (k+1+i):Rat)*x^i:=by
   rw [<-QG]; exact Tv J λi _=>by rw [Z3,show k+(i+1)=k+1+i by omega]; grind
  rw [e,Xa,Xw];have h1:=hw k;have h2:=Rt ((w k:Rat)*1) (x*sq J λi=>(w (k+1+i):Rat)*x^i);have h3:=Gh (x:=x) (y:=sq J λi=>(w (k+1+i):Rat)*x^i) Qo ih;have h4:=Q9 hx (show (0:Rat)<=D by have:=Gz (w k:Rat); clear hw; grind);have h5:(w k:Rat)*1=w k:=by grind
  rw [h5] at h2 ⊢;clear hw; grind
theorem JY {z:Int} (h:z≠0):1<=Uw (z:Rat):=by
 unfold Uw;rcases V1 h with h | h
 ·have:((z:Int):Rat)<((0:Int):Rat):=Jf.2 h;have h2:((1:Int):Rat)<=((-z:Int):Rat):=X6.2 (by omega);rw [if_pos (by simpa using this)];rw [Vz] at h2;simpa using h2
 ·have:((0:Int):Rat)<((z:Int):Rat):=Jf.2 h;have h2:((1:Int):Rat)<=((z:Int):Rat):=X6.2 (by omega);rw [if_neg (by
   have:(0:Rat)<z:=by simpa using this
   grind)]
  simpa using h2
theorem uT {w:Nat->Int} {x:Rat} {D:Rat} (hD:1<=D) (hx0:0<Uw x) (hx:Uw x*(4*D)<=1) (hw:∀ j,Uw (w j:Rat)<=D):∀ J (k:Nat),(∃ j,j<J/\w (k+j)≠0)->Uw x^J / 2<=Uw (sq J λj=>(w (k+j):Rat)*x^j)
 | 0,k,⟨j,h,_⟩=>by omega
 |
  J+1,k,⟨j,h1,h2⟩=>by
  have hx2:Uw x*2<=1:=by
   have:=Nc (a:=Uw x) (c:=2) (Qq hx0) Qo (by decide) (show (2:Rat)<=4*D by clear hw; grind);exact Zg this hx
  have hx1:Uw x<=1:=by clear hw; grind
  have hp:∀ k:Nat,Uw x^k<=1/\0<=Uw x^k:=λk=>by
   induction k with
   | zero=>rw [Xa]; exact ⟨by decide,by decide⟩
   |
    succ k ih =>
    rw [Z3];have:=Nc ih.2 ih.1 (Qq hx0) hx1;have:=Me ih.2 (Qq hx0);constructor <;> (clear hw; grind)
  rw [Az];have e:(sq J λi=>(w (k+(i+1)):Rat)*x^(i+1))=x*sq J λi=>(w (k+1+i):Rat)*x^i:=by
   rw [<-QG]; exact Tv J λi _=>by rw [Z3,show k+(i+1)=k+1+i by omega]; grind
  rw [e,Xa,Xw k,show (w k:Rat)*1=w k by grind];by_cases h0:w k=0
  ·have hj:j≠0:=λe=>h2 (by rw [e]; exact h0)
   have ih:=uT hD hx0 hx hw J (k+1) ⟨j-1,by omega,by rw [show k+1+(j-1)=k+j by omega]; exact h2⟩;rw [h0,show ((0:Int):Rat)+x*(sq J λi=>(w (k+1+i):Rat)*x^i)=x*sq J λi=>(w (k+1+i):Rat)*x^i by rw [show ((0:Int):Rat)=0 from rfl]; grind,Ek,Z3];have:=Zv ih (Qq hx0);have e2:Uw x*(Uw x^J / 2)=Uw x^J*Uw x / 2:=by rw [J1,J1]; grind
   rw [e2] at this; exact this
  ·have a1:=JY h0;have a2:=Qd1 hx2 hw J (k+1);have a3:=Gh (x:=x) (y:=sq J λi=>(w (k+1+i):Rat)*x^i) Qo a2;have a4:=Rt ((w k:Rat)+x*sq J λi=>(w (k+1+i):Rat)*x^i) (-(x*sq J λi=>(w (k+1+i):Rat)*x^i));rw [Dy,show (w k:Rat)+(x*sq J λi=>(w (k+1+i):Rat)*x^i)+-(x*sq J λi=>(w (k+1+i):Rat)*x^i)=w k by grind] at a4;have a5:=(hp (J+1)).1;have a6:Uw x^(J+1) / 2*2=Uw x^(J+1):=Gi (by decide);have a7:Uw x*(2*D)*2=Uw x*(4*D):=by grind
   clear hw hp; grind
theorem Qmn {A B:W9} {a b h:Nat} (hA:A.length=a+1) (hB:B.length=b+1) (lA:A.getD a 0≠0) (lB:B.getD b 0≠0) (ha:0<a) (hb:0<b) (h0:1<=h) (bA:∀ k,(A.getD k 0).natAbs<=h) (bB:gB B<=h) {N D:Nat} (hN:b*(2*(a*b))+a*(2*(a*b)-b)=N) (hD:N*(h*(2*(N*h))^(2*(a+b-1)))<=D) {R d:Rat} (hR:1<=R) (dp:0<d)
 (hs:∀ e:Rat,0<e->∃ q r,Uw q<=R/\Uw r<=R/\d<=Uw (q-r)/\Uw (q-r)*(4*(D:Rat))<=1/\Uw (Up A q)<e/\Uw (Up B r)<e):False:=by
 have hab:0<a*b:=Yl ha hb;have hbab:b<=a*b:=by
  have:=Qz b (show 1<=a from ha); omega
 obtain ⟨w,⟨j,hj,hw0⟩,hw,hC⟩:=Qnq hA hB lA lB ha hb h0 bA bB (J:=2*(a*b)) (J':=2*(a*b)-b) rfl (by omega) hN.symm rfl;obtain ⟨C,hC0,hC⟩:=hC (2*R) (by grind);have hw':∀ j,Uw (w j:Rat)<=(D:Rat):=λj=>by
  have h1:=Qd (hw j) hD;have h2:w j<=(D:Int):=by omega
  have h3:-(D:Int)<=w j:=by omega
  have h2:=X6.2 h2;have h3:=X6.2 h3;rw [Vz] at h3;rw [Sx]; exact ⟨h3,h2⟩
 have hD1:(1:Rat)<=(D:Rat):=by
  have:=JY hw0;exact Zg this (hw' j)
 have hdJ:0<d^(2*(a*b)) / 2:=Lh (Rat.pow_pos dp) (by decide);obtain ⟨e,ep,_,he⟩:=Gl (b:=C*2) (d:=d^(2*(a*b)) / 2) (by grind) hdJ;obtain ⟨q,r,q1,r1,d1,d2,aq,br⟩:=hs e ep;have h1:=hC (q-r) q (by
  have:=Rt q (-r); rw [Dy] at this; have:q-r=q+-r:=by grind
  grind) (by grind)
 rw [show q-(q-r)=r by grind] at h1;have h2:=uT (x:=q-r) hD1 (by grind) d2 hw' (2*(a*b)) 0 ⟨j,hj,by rw [Zt]; exact hw0⟩;simp only [Zt] at h2;have h3:C*(Uw (Up A q)+Uw (Up B r))<=C*(e+e):=Zv (by grind) hC0;have h4:d^(2*(a*b))<=Uw (q-r)^(2*(a*b)):=by
  generalize 2*(a*b)=J
  induction J with
  | zero=>rw [Xa,Xa]; exact Qo
  |
   succ J ih =>
   rw [Z3,Z3];exact Nc (Qq (Rat.pow_pos dp)) ih (Qq dp) d1
 have h5:d^(2*(a*b)) / 2*2=d^(2*(a*b)):=Gi (by decide);have h6:Uw (q-r)^(2*(a*b)) / 2*2=Uw (q-r)^(2*(a*b)):=Gi (by decide);clear hC hs hw hw';grind
def HD (p:Uc) (n:Nat):Prop:=p.getD n 0≠0/\∀ k,n<k->p.getD k 0=0
theorem Hf:∀ (p q:Uc) (k:Nat),(Ru p q).getD k 0=p.getD k 0+q.getD k 0
 | [],q,k=>by simp only [Ru,Kb]; grind
 | a::p,[],k=>by simp only [Ru,Kb]; grind
 | a::p,b::q,0=>by simp only [Ru,Zn]
 | a::p,b::q,k+1=>by simp only [Ru,Q3]; exact Hf p q k
theorem Rq (c:Rat):∀ (p:Uc) (k:Nat),(B7 c p).getD k 0=c*p.getD k 0
 | [],k=>by simp only [B7,X8,Kb]; grind
 | a::p,0=>by simp [B7]
 | a::p,k+1=>by have:=Rq c p k; simp only [B7,Zx,Q3] at *; exact this
theorem Qa7 {p:Uc} {k:Nat} (h:∀ x∈p,x=0):p.getD k 0=0:=by
 rw [Qj];cases e:p[k]? with
 | none=>rfl
 | some x=>exact h x (Qa e)
theorem Bw {p q:Uc} (h:∀ t,ev p t=ev q t) (k:Nat):p.getD k 0=q.getD k 0:=by
 have h1:=Qa7 (k:=k) (JO (p:=Ru p (B7 (-1) q)) λt _ _=>by rw [Fz,Fp,h t]; grind);rw [Hf,Rq] at h1; grind
theorem Cd:∀ {p:Uc},(∀ k,p.getD k 0=0)->∀ t,ev p t=0
 | [],_,t=>rfl
 |
  a::p,h,t=>by
  have h0:=h 0;have h1:=Cd (p:=p) (λk=>by have:=h (k+1); rwa [Q3] at this) t;rw [Zn] at h0;simp only [ev,h0,h1]; grind
theorem SC:∀ (p:Uc),(∀ t,ev p t=0)\/∃ n,n<p.length/\HD p n
 | []=>.inl λ_=>rfl
 |
  a::p=>by
  rcases SC p with h | ⟨n,hn,h1,h2⟩
  ·rcases Classical.em (a=0) with e | e
   ·exact .inl λt=>by simp only [ev,e,h t]; grind
   ·refine .inr ⟨0,by simp,by simpa using e,λk hk=>?_⟩;obtain ⟨m,rfl⟩:∃ m,k=m+1:=⟨k-1,by omega⟩;rw [Q3];exact (Bw (p:=p) (q:=[]) h m).trans (by simp)
  ·refine .inr ⟨n+1,by simp; omega,by rw [Q3]; exact h1,λk hk=>?_⟩;obtain ⟨m,rfl⟩:∃ m,k=m+1:=⟨k-1,by omega⟩;rw [Q3]; exact h2 m (by omega)
theorem Qkf {p q:Uc} {n:Nat} (h:∀ t,ev p t=ev q t) (hp:HD p n):HD q n :=
 ⟨by rw [<-Bw h]; exact hp.1,λk hk=>by rw [<-Bw h]; exact hp.2 k hk⟩
theorem Qkg {p:Uc} {n m:Nat} (h:HD p n) (h':HD p m):n=m:=by
 rcases V7 n m with e | e | e
 ·exact absurd (h.2 m e) h'.1
 ·exact e
 ·exact absurd (h'.2 n e) h.1
theorem sE {p:Uc} {n:Nat} (h:HD p n):¬∀ t,ev p t=0:=λh0=>h.1 ((Bw (p:=p) (q:=[]) h0 n).trans (by simp))
theorem FH {p q:Uc} (h:∀ k,p.getD k 0=0) (k:Nat):(Gb p q).getD k 0=0:=by
 have:=Bw (p:=Gb p q) (q:=[]) (λt=>by rw [Ut,Cd h t]; simp only [ev]; grind) k;rw [this]; simp
theorem SD:∀ {p q:Uc} {m n:Nat},HD p m->HD q n->HD (Gb p q) (m+n)
 | [],q,m,n,h,_=>absurd (by simp) h.1
 |
  a::p,q,0,n,h,h'=>by
  have h1:∀ k,p.getD k 0=0:=λk=>by have:=h.2 (k+1) (by omega); rwa [Q3] at this
  have h2:∀ k,(Gb (a::p) q).getD k 0=a*q.getD k 0:=λk=>by
   simp only [Gb];rw [Hf,Rq];cases k with
   | zero=>rw [Zn]; grind
   | succ k=>rw [Q3,FH h1]; grind
  have h3:=h.1;rw [Zn] at h3;refine ⟨?_,λk hk=>?_⟩
  ·rw [h2,Zt]; exact λh=>(Yq.1 h).elim h3 h'.1
  ·rw [h2,h'.2 k (by omega)]; grind
 |
  a::p,q,m+1,n,h,h'=>by
  have ih:=SD (p:=p) (q:=q) (m:=m) ⟨by have:=h.1; rwa [Q3] at this,λk hk=>by have:=h.2 (k+1) (by omega); rwa [Q3] at this⟩ h';refine ⟨?_,λk hk=>?_⟩
  ·simp only [Gb];rw [Hf,Rq,show m+1+n=(m+n)+1 by omega,Q3,h'.2 _ (by omega)];have:=ih.1; grind
  ·obtain ⟨j,rfl⟩:∃ j,k=j+1:=⟨k-1,by omega⟩;simp only [Gb];rw [Hf,Rq,Q3,h'.2 _ (by omega),ih.2 j (by omega)]; grind
def I9 (g f:Uc):Prop:=∃ u,∀ t,ev f t=ev g t*ev u t
theorem dvd_refl (f:Uc):I9 f f:=⟨[1],λt=>by rw [Hw]; grind⟩
theorem dvd_trans {f g h:Uc}:I9 f g->I9 g h->I9 f h
 | ⟨u,hu⟩,⟨v,hv⟩=>⟨Gb u v,λt=>by rw [hv,hu,Ut]; grind⟩
theorem xO {p q:Uc} (h:∀ t,ev p t*ev q t=0) (hp:¬∀ t,ev p t=0):∀ t,ev q t=0:=by
 rcases SC p with h1 | ⟨m,_,h1⟩
 ·exact absurd h1 hp
 ·rcases SC q with h2 | ⟨n,_,h2⟩
  ·exact h2
  ·exact absurd (λt=>by rw [Ut]; exact h t) (sE (SD h1 h2))
theorem wW {p q r:Uc} (hp:¬∀ t,ev p t=0) (h:∀ t,ev p t*ev q t=ev p t*ev r t) (t:Rat):ev q t=ev r t:=by
 have:=xO (p:=p) (q:=Ru q (B7 (-1) r)) (λt=>by rw [Fz,Fp]; have:=h t; grind) hp t;rw [Fz,Fp] at this; grind
theorem oD {b:Uc} {n:Nat} (hb:HD b n):∀ (l:Nat) (a:Uc),(∀ k,l<=k->a.getD k 0=0)->∃ q r,(∀ t,ev a t=ev q t*ev b t+ev r t)/\∀ k,n<=k->r.getD k 0=0
 | 0,a,ha=>⟨[],a,λt=>by simp only [ev]; grind,λk _=>ha k (Qi _)⟩
 |
  l+1,a,ha=>by
  rcases Zc l n with h | h
  ·exact ⟨[],a,λt=>by simp only [ev]; grind,λk hk=>ha k (by omega)⟩
  ·-- the leading term is taken away
   obtain ⟨c,hc⟩:=nmE (a.getD l 0 / b.getD n 0);have hcb:c*b.getD n 0=a.getD l 0:=by rw [hc]; exact Zd hb.1
   obtain ⟨m,hm⟩:∃ m:Uc,m=List.replicate (l-n) 0++[c]:=⟨_,rfl⟩;have hsh:∀ (i:Nat) (k:Nat),(Gb (List.replicate i 0++[c]) b).getD k 0=if i<=k then c*b.getD (k-i) 0 else 0:=λi=>by
    induction i with
    | zero=>intro k; simp only [Kx,J6,Gb]; rw [Hf,Rq]; cases k <;> simp <;> grind
    |
     succ i ih =>
     intro k;simp only [Yg,Z7,Gb];rw [Hf,Rq];cases k with
     | zero=>rw [Zn,if_neg (by omega)]; grind
     |
      succ k =>
      rw [Q3,ih k];by_cases h:i<=k
      ·rw [if_pos h,if_pos (by omega),Nat.add_sub_add_right]; grind
      ·rw [if_neg h,if_neg (by omega)]; grind
   obtain ⟨q,r,h1,h2⟩:=oD hb l (Ru a (B7 (-1) (Gb m b))) λk hk=>by
    rw [Hf,Rq,hm,hsh,if_pos (by omega)];rcases Y9 hk with e | e
    ·rw [ha k (by omega),hb.2 _ (by omega)]; grind
    ·subst e; rw [show l-(l-n)=n by omega,hcb]; grind
   refine ⟨Ru q m,r,λt=>?_,h2⟩;have:=h1 t;rw [Fz,Fp,Ut] at this;rw [Fz]; grind
theorem uZ:∀ (n:Nat) (a b:Uc),(∀ k,n<=k->b.getD k 0=0)->∃ g U V,I9 g a/\I9 g b/\∀ t,ev g t=ev U t*ev a t+ev V t*ev b t
 |
  0,a,b,h=>by
  have h0:=Cd λk=>h k (Qi _)
  exact ⟨a,[1],[],dvd_refl a,⟨[],λt=>by rw [h0]; simp only [ev]; grind⟩,λt=>by rw [Hw]; simp only [ev]; grind⟩
 |
  n+1,a,b,h=>by
  rcases Classical.em (b.getD n 0=0) with e | e
  ·exact uZ n a b λk hk=>by
    rcases Y9 hk with e' | e'
    ·exact h k (by omega)
    ·rw [<-e']; exact e
  ·obtain ⟨q,r,h1,h2⟩:=oD (b:=b) (n:=n) ⟨e,λk hk=>h k (by omega)⟩ a.length a λk hk=>by rw [Qj,Q0 hk]; rfl
   obtain ⟨g,U,V,⟨u,hu⟩,⟨v,hv⟩,hg⟩:=uZ n b r h2;refine ⟨g,V,Ru U (B7 (-1) (Gb V q)),⟨Ru (Gb q u) v,λt=>?_⟩,⟨u,hu⟩,λt=>?_⟩
   ·rw [h1,hv,Fz,Ut,hu]; grind
   ·rw [hg,Fz,Fp,Ut,h1]; grind
theorem Qa2 (a b:Uc):∃ g U V,I9 g a/\I9 g b/\∀ t,ev g t=ev U t*ev a t+ev V t*ev b t :=
 uZ b.length a b λk hk=>by rw [Qj,Q0 hk]; rfl
def Cop (a b:Uc):Prop:=∃ U V,∀ t,ev U t*ev a t+ev V t*ev b t=1
theorem ES {c d e:Uc} (h:Cop c d) (h1:∃ u,∀ t,ev d t*ev e t=ev c t*ev u t):I9 c e:=by
 obtain ⟨U,V,h⟩:=h;obtain ⟨u,hu⟩:=h1;refine ⟨Ru (Gb U e) (Gb V u),λt=>?_⟩;rw [Fz,Ut,Ut];have a1:=h t;have a2:=hu t;have:ev e t=(ev U t*ev c t+ev V t*ev d t)*ev e t:=by rw [a1]; grind
 rw [this];have:(ev U t*ev c t+ev V t*ev d t)*ev e t=ev U t*ev c t*ev e t+ev V t*(ev d t*ev e t):=by grind
 rw [this,a2]; grind
def MF (d:Uc):Nat->Uc
 | 0=>[1]
 | k+1=>Gb d (MF d k)
theorem fH (d:Uc) (t:Rat):∀ k:Nat,ev d t*dv (MF d k) t=(k:Rat)*(dv d t*ev (MF d k) t)
 | 0=>by simp only [MF,dv,ev]; rw [show ((0:Nat):Rat)=0 from rfl]; grind
 |
  k+1=>by
  have ih:=fH d t k;have hn':(((k+1:Nat):Rat))=(k:Rat)+1:=by push_cast; rfl
  simp only [MF];rw [EL,Ut,hn']; grind
theorem Qc7 {d:Uc} {m:Nat} (h:HD d m):∀ k,HD (MF d k) (k*m)
 | 0=>by rw [Yo]; exact ⟨by simp [MF],λk hk=>by simp only [MF]; rw [Qj,Q0 (by simp; omega)]; rfl⟩
 | k+1=>by rw [Z6,Jk (k*m) m]; exact SD h (Qc7 h k)
theorem DG {d g:Uc} {m n:Nat} (hd:HD d m) (hg:HD g n) (h:∀ k,I9 (MF d k) g):m=0:=by
 obtain ⟨u,hu⟩:=h (n+1);rcases SC u with h1 | ⟨j,_,h1⟩
 ·exact absurd (λt=>by rw [hu,h1]; grind) (sE hg)
 ·have:=Qkg (Qkf (λt=>by rw [hu,Ut]) hg) (SD (Qc7 hd (n+1)) h1);rcases Q6 m with e | e
  ·exact e
  ·have:(n+1)*1<=(n+1)*m:=Zs _ e;omega
theorem sqf {a g q d U V:Uc} {k:Rat} (hk:k≠0) (ha:∀ t,ev a t=ev g t*ev q t) (hg:∀ t,k*ev g t=ev U t*ev a t+ev V t*dv a t) (h1:I9 d q) (h2:I9 d (Mg q)):∀ n,I9 (MF d n) g
 | 0=>⟨g,λt=>by simp only [MF]; rw [Hw]; grind⟩
 |
  n+1=>by
  obtain ⟨g1,e1⟩:=sqf hk ha hg h1 h2 n;obtain ⟨q1,e2⟩:=h1;obtain ⟨q2,e3⟩:=h2;have d1:=λt=>Ig ha t
  have d2:=λt=>Ig e1 t
  have d3:=λt=>Ig e2 t
  have d4:=fH d;refine ⟨B7 (1 / k) (Ru (Gb U (Gb g1 q1)) (Gb V (Ru (Gb g1 q2) (Ru (B7 n (Gb g1 (Ru q2 (B7 (-1) (Mg q1))))) (Gb (Mg g1) q1))))),λt=>?_⟩;have hkk:1 / k*k=1:=Zd hk;simp only [MF,Fp,Fz,Ut,H9];have b1:=ha t; have b2:=hg t; have b3:=e1 t; have b4:=e2 t; have b5:=e3 t;have b6:=d1 t; have b7:=d2 t; have b8:=d3 t; have b9:=d4 t n;rw [H9] at b5;generalize ev d t=x0 at *;generalize ev (MF d n) t=x1 at *;generalize ev g t=x2 at *;generalize ev q t=x3 at *;generalize ev a t=x4 at *;generalize dv a t=x5 at *;generalize dv g t=x6 at *;generalize dv q t=x7 at *;generalize ev g1 t=x8 at *;generalize dv g1 t=x9 at *;generalize ev q1 t=y0 at *;generalize dv q1 t=y1 at *;generalize ev q2 t=y2 at *;generalize dv d t=y3 at *;generalize dv (MF d n) t=y4 at *;generalize ev U t=y5 at *;generalize ev V t=y6 at *;generalize (n:Rat)=y7 at *;have:x2=1 / k*(k*x2):=by grind
  rw [this,b2];have c1:x5=x0*x1*(x8*y2+(y7*(x8*(y2+-1*y1))+x9*y0)):=by
   rw [b6,b7,b4,b3];have:y3*y0=x0*y2-x0*y1:=by grind
   have:x0*y4*(x8*y0)=y7*(x1*x8*(x0*y2-x0*y1)):=by rw [b9,<-this]; grind
   grind
  have c2:x4=x0*x1*(x8*y0):=by rw [b1,b3,b4]; grind
  rw [c1,c2]; grind
theorem Qgq {a b c:Uc} (h1:Cop a b) (h2:Cop a c) {d:Uc} (hd:∀ t,ev d t=ev b t*ev c t):Cop a d:=by
 obtain ⟨U,V,h1⟩:=h1;obtain ⟨X,Y,h2⟩:=h2;refine ⟨Ru U (Gb (Gb V b) X),Gb V Y,λt=>?_⟩;have a1:=h1 t;have a2:=h2 t;simp only [Fz,Ut,hd];have:ev V t*ev b t*(ev X t*ev a t+ev Y t*ev c t)=ev V t*ev b t:=by rw [a2]; grind
 grind
theorem Qiv {a g q z r X Y:Uc} {n:Nat} (ha:∀ t,ev a t=ev g t*ev q t) (hz:∀ t,dv a t=ev g t*ev z t) (hg:HD g n) (hr:∀ t,ev X t*ev r t+ev Y t*dv r t=1) (h:I9 r a):I9 r q:=by
 obtain ⟨b,hb⟩:=h;obtain ⟨e,U,V,⟨r1,e1⟩,⟨q3,e2⟩,e3⟩:=Qa2 r q;have hr0:¬∀ t,ev r t=0:=λh=>by
  have h1:=hr 0;have h2:dv r 0=0:=by have:=Qab (p:=r) (q:=[]) h 0; rw [this]; rfl
  rw [h,h2] at h1; grind
 have he0:¬∀ t,ev e t=0:=λh=>hr0 λt=>by rw [e1,h]; grind
 have d1:=λt=>Ig e1 t
 have c1:Cop r1 q3:=⟨U,V,λt=>by
  have:=wW (p:=e) (q:=Ru (Gb U r1) (Gb V q3)) (r:=[1]) he0 (λt=>by
   rw [Fz,Ut,Ut,Hw];have a1:=e1 t; have a2:=e2 t; have a3:=e3 t;rw [a1,a2] at a3; grind) t
  rw [Fz,Ut,Ut,Hw] at this; exact this⟩
 have c2:Cop r1 e:=⟨Ru (Gb X e) (Gb Y (Mg e)),Gb Y (Mg r1),λt=>by
  have a1:=hr t; have a2:=e1 t; have a3:=d1 t;simp only [Fz,Ut,H9];rw [a2,a3] at a1; grind⟩
 have c3:Cop r1 (Mg r1):=⟨Ru (Gb X e) (Gb Y (Mg e)),Gb Y e,λt=>by
  have a1:=hr t; have a2:=e1 t; have a3:=d1 t;simp only [Fz,Ut,H9];rw [a2,a3] at a1; grind⟩
 have c4:Cop r1 q:=Qgq c2 c1 e2;have hgz:=sE hg;have hp:∀ k,I9 (MF r1 k) g:=λk=>by
  induction k with
  | zero=>exact ⟨g,λt=>by simp only [MF]; rw [Hw]; grind⟩
  |
   succ k ih =>
   obtain ⟨h,eh⟩:=ih;have hpz:¬∀ t,ev (MF r1 k) t=0:=λh0=>hgz λt=>by rw [eh,h0]; grind
   have key:I9 r1 h:=by
    cases k with
    |
     zero =>
     refine ES c4 ⟨Gb e b,λt=>?_⟩;have a1:=ha t; have a2:=hb t; have a3:=e1 t; have a4:=eh t;simp only [MF] at a4;rw [Hw] at a4;rw [Ut]; grind
    |
     succ k =>
     have hn:((k+1:Nat):Rat)≠0:=by
      have:(0:Rat)<((k+1:Nat):Rat):=by
       have h1:((0:Nat):Rat)<((k+1:Nat):Rat):=Vd.2 (by omega);simpa using h1
      grind
     have d2:=λt=>Ig (f:=a) (w:=MF r1 (k+1)) (u:=Gb h q) (λt=>by rw [ha,eh,Ut]; grind) t
     have d4:=fH r1;have h3:=wW (p:=MF r1 (k+1)) (q:=Gb (Mg r1) (Gb h q)) (r:=Gb r1 (B7 (1 / ((k+1:Nat):Rat)) (Ru (Gb h z) (B7 (-1) (Mg (Gb h q)))))) hpz λt=>by
      simp only [Ut,Fp,Fz,H9];have a1:=d2 t; have a2:=d4 t (k+1); have a3:=hz t; have a4:=eh t;rw [Ut] at a1;generalize ((k+1:Nat):Rat)=c at *;have hc:1 / c*c=1:=Zd hn;generalize ev (MF r1 (k+1)) t=x0 at *;generalize dv (MF r1 (k+1)) t=x1 at *;generalize dv (Gb h q) t=x2 at *;generalize ev r1 t=x3 at *;generalize dv r1 t=x4 at *;generalize ev h t=x5 at *;generalize ev q t=x6 at *;generalize ev z t=x7 at *;generalize dv a t=x8 at *;generalize ev g t=x9 at *;generalize 1 / c=c' at *;have s1:x0*(x4*(x5*x6))=c'*(c*(x4*x0))*(x5*x6):=by
       have:c'*(c*(x4*x0))=(c'*c)*(x4*x0):=by grind
       rw [this,hc]; grind
      rw [s1,<-a2];have s2:x3*(x1*(x5*x6))=x3*(x0*(x5*x7+-1*x2)):=by
       rw [a3,a4] at a1; grind
      grind
     refine ES c4 ?_;obtain ⟨u,hu⟩:=ES (e:=Gb q h) c3 ⟨B7 (1 / ((k+1:Nat):Rat)) (Ru (Gb h z) (B7 (-1) (Mg (Gb h q)))),λt=>by
      have:=h3 t;simp only [Ut] at this ⊢;rw [<-this]; grind⟩
     exact ⟨u,λt=>by rw [<-hu,Ut]⟩
   obtain ⟨u,hu⟩:=key;exact ⟨u,λt=>by simp only [MF]; rw [Ut,eh,hu]; grind⟩
 rcases SC r1 with h1 | ⟨m,_,h1⟩
 ·exact absurd (λt=>by rw [e1,h1]; grind) hr0
 ·obtain rfl:=DG h1 hg hp;have h2:∀ t,ev r1 t=r1.getD 0 0:=λt=>by
   cases r1 with
   | nil=>simp [ev]
   |
    cons c l =>
    have:∀ t,ev l t=0:=Cd λk=>by have:=h1.2 (k+1) (by omega); rwa [Q3] at this
    simp only [ev,this,Zn]; grind
  have h3:=h1.1;refine ⟨B7 (1 / r1.getD 0 0) q3,λt=>?_⟩;rw [e2,e1,h2,Fp];have:1 / r1.getD 0 0*r1.getD 0 0=1:=Zd h3;have:ev e t*r1.getD 0 0*(1 / r1.getD 0 0*ev q3 t)=ev e t*ev q3 t*(1 / r1.getD 0 0*r1.getD 0 0):=by grind
  rw [this,Zd h3]; grind
def Am:Ud->Uc
 | []=>[1]
 | w::l=>Gb w (Am l)
def Lay:Ud->Ud->Prop
 | [],[]=>True
 | [w],[f]=>∀ t,ev w t=ev f t
 | w::v::l,f::fs=>(∀ t,ev w t=ev f t*ev v t)/\Lay (v::l) fs
 | _,_=>False
def GW:Ud->Uc
 | []=>[1]
 | [f]=>f
 | f::_::l=>Gb f (GW l)
theorem pU:∀ {ws fs:Ud},Lay ws fs->∃ S,∀ t,ev (Am ws) t=ev (GW fs) t*(ev S t*ev S t)
 | [],[],_=>⟨[1],λt=>by simp only [Am,GW]; rw [Hw]; grind⟩
 | [w],[f],h=>⟨[1],λt=>by simp only [Am,GW]; rw [Ut,Hw,h t]; grind⟩
 |
  [w,v],[f,f2],h=>⟨v,λt=>by
  have h1:=h.1 t;have h2:ev v t=ev f2 t:=h.2 t;simp only [Am,GW,Ut]; rw [Hw,h1]; grind⟩
 |
  w::v::x::l,f::f2::fs,h=>by
  obtain ⟨S,hS⟩:=pU h.2.2;refine ⟨Gb v S,λt=>?_⟩;have h1:=h.1 t;have h2:=hS t;have e1:ev (Am (w::v::x::l)) t=ev w t*(ev v t*ev (Am (x::l)) t):=by simp only [Am,Ut]
  rw [e1,h2,h1];have e2:ev (GW (f::f2::fs)) t=ev f t*ev (GW fs) t:=by
   cases fs with
   | nil=>cases l <;> exact False.elim h.2.2
   | cons y l=>simp only [GW,Ut]
  rw [e2,Ut]; grind
 | [w],[],h=>h.elim
 | [w],_::_::_,h=>h.elim
 | [],_::_,h=>h.elim
 | [w,v],[f],h=>h.2.elim
 | [w,v],_::_::_::_,h=>h.2.elim
 | w::v::x::l,[f],h=>h.2.elim
 | w::v::l,[],h=>h.elim
end Orq
namespace Orq
open Orr Go
theorem fZ (p:W9) (t:Rat):Up p t=((p.getD 0 0:Int):Rat)+t*Up p.tail t:=by
 cases p with
 | nil=>show (0:Rat)=((0:Int):Rat)+t*0; grind
 | cons a p=>rfl
theorem WM (p:W9) (k:Nat):p.tail.getD k 0=p.getD (k+1) 0:=by
 cases p <;> simp
theorem Nf (c d:Int) (t:Rat):∀ (n:Nat) (p q r:W9),p.length<=n->q.length<=n->r.length<=n->(∀ k,r.getD k 0=c*p.getD k 0+d*q.getD k 0)->Up r t=(c:Rat)*Up p t+(d:Rat)*Up q t
 |
  0,p,q,r,hp,hq,hr,_=>by
  rw [Qh (Nat.le_zero.1 hp),Qh (Nat.le_zero.1 hq),Qh (Nat.le_zero.1 hr)];show (0:Rat)=_*0+_*0;grind
 |
  n+1,p,q,r,hp,hq,hr,h=>by
  have ih:=Nf c d t n p.tail q.tail r.tail (by rw [Wh]; omega) (by rw [Wh]; omega) (by rw [Wh]; omega) λk=>by
   rw [WM,WM,WM]; exact h (k+1)
  rw [fZ p,fZ q,fZ r,ih,h 0]
  push_cast
  grind
theorem mU {p q:W9} (h:∀ k,p.getD k 0=q.getD k 0) (t:Rat):Up p t=Up q t:=by
 have:=Nf 1 0 t (max p.length q.length) q q p (Wl ..) (Wl ..) (Nat.le_max_left ..) λk=>by rw [h k]; omega
 rw [this]
 push_cast
 grind
theorem Ap (p:W9) (t:Rat):Up (trim p) t=Up p t:=mU (ZP p) t
theorem Mb {p:W9} {k:Nat} (h:p.length<=k):p.getD k 0=0:=by
 rw [Qj,Q0 h]; rfl
theorem DY (p q:W9) (k:Nat):(JV p q).getD k 0=p.getD k 0+q.getD k 0:=by
 unfold JV;rw [Bj]
 split
 ·rfl
 ·rename_i h; rw [Mb (p:=p) (by omega),Mb (p:=q) (by omega)]; rfl
theorem Aw (p q:W9) (k:Nat):(Nt p q).getD k 0=p.getD k 0-q.getD k 0:=by
 unfold Nt;rw [Bj]
 split
 ·rfl
 ·rename_i h; rw [Mb (p:=p) (by omega),Mb (p:=q) (by omega)]; rfl
theorem Sv (p:W9) (c:Int) (k:Nat):(Fh p c).getD k 0=p.getD k 0*c:=by
 unfold Fh;rw [Bj]
 split
 ·rfl
 ·rename_i h; rw [Mb (p:=p) (by omega),Int.zero_mul]
theorem dS (p:W9) (k:Nat):(Db p).getD k 0=-(p.getD k 0):=by
 unfold Db;rw [Bj]
 split
 ·rfl
 ·rename_i h; rw [Mb (p:=p) (by omega)]; rfl
theorem Mm (p:W9) (k:Nat):(Gj p).getD k 0=p.getD (k+1) 0*((k+1:Nat):Int):=by
 unfold Gj;rw [Bj]
 split
 ·rfl
 ·rename_i h; rw [Mb (p:=p) (by omega),Int.zero_mul]
theorem PI (p q:W9) (t:Rat):Up (JV p q) t=Up p t+Up q t:=by
 have:=Nf 1 1 t (max (max p.length q.length) (JV p q).length) p q (JV p q) (by omega) (by omega) (by omega) λk=>by rw [DY]; omega
 rw [this]; push_cast; grind
theorem Pq (p q:W9) (t:Rat):Up (Nt p q) t=Up p t-Up q t:=by
 have:=Nf 1 (-1) t (max (max p.length q.length) (Nt p q).length) p q (Nt p q) (by omega) (by omega) (by omega) λk=>by rw [Aw]; omega
 rw [this]; push_cast; grind
theorem VM (p:W9) (t:Rat):Up (Db p) t=-Up p t:=by
 have:=Nf (-1) 0 t (max p.length (Db p).length) p p (Db p) (by omega) (by omega) (by omega) λk=>by rw [dS]; omega
 rw [this]; push_cast; grind
theorem Hg (p:W9) (c:Int) (t:Rat):Up (Fh p c) t=Up p t*(c:Rat):=by
 have:=Nf c 0 t (max p.length (Fh p c).length) p p (Fh p c) (by omega) (by omega) (by omega) λk=>by rw [Sv,Kn]; omega
 rw [this]; push_cast; grind
theorem IV:∀ (l:W9) (j:Nat) (v:Int) (t:Rat),j<l.length->Up (l.set j v) t=Up l t+((v:Rat)-((l.getD j 0:Int):Rat))*t^j
 | [],_,_,_,h=>by simp at h
 |
  a::l,0,v,t,_=>by
  show (v:Rat)+t*Up l t=(a:Rat)+t*Up l t+((v:Rat)-(a:Rat))*t^0;rw [Xa]; grind
 |
  a::l,j+1,v,t,h=>by
  have ih:=IV l j v t (by simpa using h);show (a:Rat)+t*Up (l.set j v) t=(a:Rat)+t*Up l t+((v:Rat)-((l.getD j 0:Int):Rat))*t^(j+1);rw [ih,Z3]; grind
theorem PO:∀ (l:W9) (k:Nat) (t:Rat),k<l.length->Up (l.take (k+1)) t=Up (l.take k) t+((l.getD k 0:Int):Rat)*t^k
 | [],_,_,h=>by simp at h
 |
  a::l,0,t,_=>by
  show (a:Rat)+t*Up (l.take 0) t=0+(a:Rat)*t^0;rw [Xa,Vg];show (a:Rat)+t*0=_;grind
 |
  a::l,k+1,t,h=>by
  have ih:=PO l k t (by simpa using h);show (a:Rat)+t*Up (l.take (k+1)) t=(a:Rat)+t*Up (l.take k) t+((l.getD k 0:Int):Rat)*t^(k+1);rw [ih,Z3]; grind
theorem DW (n:Nat) (t:Rat):Up (List.replicate n 0) t=0:=by
 induction n with
 | zero=>rfl
 |
  succ n ih =>
  show ((0:Int):Rat)+t*Up (List.replicate n 0) t=0;rw [ih]; push_cast; grind
theorem yN (t:Rat) (i:Nat):∀ k,t^(i+k)=t^i*t^k
 | 0=>by rw [Xw,Xa]; grind
 | k+1=>by rw [<-Yc,Z3,Z3,yN t i k]; grind
theorem jC (x:Int) (b:W9) (i:Nat) (o:W9) (t:Rat):∀ k,k<=b.length->i+k<=o.length->Up (JZ x b i o k) t=Up o t+(x:Rat)*t^i*Up (b.take k) t
 |
  0,_,_=>by
  show Up o t=Up o t+(x:Rat)*t^i*0;grind
 |
  k+1,h1,h2=>by
  have ih:=jC x b i o t k (by omega) (by omega);simp only [JZ];rw [IV _ _ _ _ (by rw [O2]; omega),ih,PO b k t (by omega)];have hp:t^(i+k)=t^i*t^k:=yN t i k;rw [hp]
  push_cast
  grind
theorem jB (a b o:W9) (t:Rat):∀ i,i<=a.length->i+b.length<=o.length+1->Up (JQ a b o i) t=Up o t+Up (a.take i) t*Up b t
 |
  0,_,_=>by
  show Up o t=Up o t+0*Up b t;grind
 |
  i+1,h1,h2=>by
  have ih:=jB a b o t i (by omega) (by omega);simp only [JQ];rw [jC _ _ _ _ _ b.length (Qn _) (by rw [Ak]; omega),ih,PO a i t (by omega),Q5];grind
theorem Fe (a b:W9) (t:Rat):Up (Fv a b) t=Up a t*Up b t:=by
 unfold Fv
 split
 ·rename_i h;rcases h with h | h
  ·rw [Qh h]; show (0:Rat)=0*_; grind
  ·rw [Qh h]; show (0:Rat)=_*0; grind
 ·rename_i h;rw [Ap,jB a b _ t a.length (Qn _) (by rw [Kf]; omega),DW,Q5];grind
theorem G9 (z d:Int):(z:Rat) / (d:Rat)=Rat.divInt z d:=by
 by_cases h:d=0
 ·subst h; simp; grind
 ·rw [J1]; exact (Rat.divInt_eq_div z d ▸ by rw [J1])
theorem nE (a:W9) (n d:Int) (hd:(d:Rat)≠0):∀ k,k<=a.length->(((Df a n d k).2:Int):Rat)=(d:Rat)^k/\(((Df a n d k).1:Int):Rat)*d=(d:Rat)^k*Up (a.drop (a.length-k)) ((n:Rat) / d)
 |
  0,_=>by
  refine ⟨by rw [Xa]; rfl,?_⟩;rw [Wm,Yz];show ((0:Int):Rat)*d=(d:Rat)^0*0
  push_cast; grind
 |
  k+1,hk=>by
  obtain ⟨h1,h2⟩:=nE a n d hd k (by omega);have hi:a.length-1-k<a.length:=by omega
  have e1:a.drop (a.length-(k+1))=a.getD (a.length-1-k) 0::a.drop (a.length-k):=by
   rw [show a.length-(k+1)=a.length-1-k by omega,Zz hi,show a.length-1-k+1=a.length-k by omega];congr 1;rw [Qj,Qe hi]; rfl
  refine ⟨?_,?_⟩
  ·show (((Df a n d k).2*d:Int):Rat)=_;rw [Js,h1,Z3]
  ·rw [e1];show (((Df a n d k).1*n+a.getD (a.length-1-k) 0*(Df a n d k).2:Int):Rat)*d=_*(((a.getD (a.length-1-k) 0:Int):Rat)+(n:Rat) / d*Up (a.drop (a.length-k)) ((n:Rat) / d));rw [Ws,Js,Js,h1,Z3];have h3:(n:Rat) / d*d=n:=by rw [Zd hd]
   have h4:(d:Rat)^k*d*((n:Rat) / d*Up (a.drop (a.length-k)) ((n:Rat) / d))=((n:Rat) / d*d)*((d:Rat)^k*Up (a.drop (a.length-k)) ((n:Rat) / d)):=by grind
   have h5:(d:Rat)^k*d*(((a.getD (a.length-1-k) 0:Int):Rat)+(n:Rat) / d*Up (a.drop (a.length-k)) ((n:Rat) / d))=(d:Rat)^k*d*((a.getD (a.length-1-k) 0:Int):Rat)+(d:Rat)^k*d*((n:Rat) / d*Up (a.drop (a.length-k)) ((n:Rat) / d)):=by grind
   rw [h5,h4,h3,<-h2];grind
theorem mS {d:Rat} (h:0<d):∀ k:Nat,0<d^k
 | 0=>by rw [Xa]; decide
 | k+1=>by rw [Z3]; exact Xo (mS h k) h
theorem Nm {x y:Rat} (h:0<y):Us (y*x)=Us x:=by
 unfold Us;have h1:y*x<0↔x<0:=by
  constructor
  ·intro h2;rcases Vi (a:=0) (b:=x) with h3 | h3
   ·have:=Vj (Qq h) h3; grind
   ·rcases Rat.le_iff_lt_or_eq.1 h3 with h4 | h4
    ·exact h4
    ·rw [h4] at h2; grind
  ·intro h2;have:=Xo h (show 0 < -x by grind);grind
 have h2:0<y*x↔0<x:=by
  constructor
  ·intro h2;rcases Vi (a:=x) (b:=0) with h3 | h3
   ·have:=Vj (Qq h) (show 0<=-x by grind); grind
   ·rcases Rat.le_iff_lt_or_eq.1 h3 with h4 | h4
    ·exact h4
    ·rw [<-h4] at h2; grind
  ·intro h2; exact Xo h h2
 simp only [h1,h2]
theorem oV (z:Int):Cc z 0=Us (z:Rat):=by
 unfold Cc Us;have h1:((z:Int):Rat)<0↔z<0:=by
  have := @Rat.intCast_lt_intCast z 0; simpa using this
 have h2:0<((z:Int):Rat)↔0<z:=by
  have := @Rat.intCast_lt_intCast 0 z; simpa using this
 simp only [h1,h2]
theorem Pv (p:W9) (q:Rat):Ha p q=Us (Up p q):=by
 have hd0:(0:Rat)<((q.den:Int):Rat):=by
  have := @Rat.intCast_lt_intCast 0 (q.den:Int);rw [show ((0:Int):Rat)=0 from rfl] at this;exact this.2 (den_pos q)
 have hd:((q.den:Int):Rat)≠0:=by intro h; rw [h] at hd0; exact absurd hd0 (by decide)
 obtain ⟨_,h⟩:=nE p q.num q.den hd p.length (Qn _);rw [Ku,Yi,G9,X2] at h;unfold Ha;rw [oV,<-Nm hd0,Wo];show Us ((((Df p q.num q.den p.length).1:Int):Rat)*_)=_;rw [h,Nm (mS hd0 _)]
def cz (p:W9):Uc:=p.map λz:Int=>(z:Rat)
theorem Uq (t:Rat):∀ p,ev (cz p) t=Up p t
 | []=>rfl
 | a::p=>by have:=Uq t p; simp only [cz,Zx,ev,Up] at *; rw [this]
theorem S5:∀ (p:W9) (k:Nat),(cz p).getD k 0=((p.getD k 0:Int):Rat)
 | [],k=>by simp [cz]
 | a::p,0=>by simp [cz]
 | a::p,k+1=>by have:=S5 p k; simp only [cz,Zx,Q3] at *; exact this
theorem Cq {p q:W9} (h:∀ t,Up p t=Up q t) (k:Nat):p.getD k 0=q.getD k 0:=by
 have:=Bw (p:=cz p) (q:=cz q) (λt=>by rw [Uq,Uq,h]) k;rw [S5,S5] at this
 exact_mod_cast this
theorem Qi3 {p q:W9} (hp:Uu p) (hq:Uu q) (h:∀ k,p.getD k 0=q.getD k 0):p=q:=by
 have key:∀ {p q:W9},Uu p->Uu q->(∀ k,p.getD k 0=q.getD k 0)->p.length<=q.length:=λ{p q} hp hq h=>by
  rcases Zc q.length p.length with e | e
  ·have:=Hu hp (by omega);rw [h,Qj,Q0 (by omega)] at this;exact absurd rfl this
  ·exact e
 exact wB (Kt (key hp hq h) (key hq hp λk=>(h k).symm)) λj _=>h j
theorem mF {p q:W9} (hp:Uu p) (hq:Uu q) (h:∀ t,Up p t=Up q t):p=q:=Qi3 hp hq (Cq h)
theorem Qh4 {p:W9} (hp:Uu p) (h:∀ t,Up p t=0):p=[]:=mF hp rfl λt=>by rw [h]; rfl
theorem B5 {p:W9} (h:p.length=0) (t:Rat):Up p t=0:=by rw [Qh h]; rfl
theorem mW:∀ (p r:W9) (t:Rat),(∀ k,r.getD k 0=p.getD (k+1) 0*((k+1:Nat):Int))->Up r t=dv (cz p) t
 |
  [],r,t,h=>by
  rw [mU (q:=[]) (λk=>by rw [h]; simp) t]; rfl
 |
  a::p,r,t,h=>by
  have ih:=mW p (Gj p) t λk=>Mm p k
  have e:Up r t=Up p t+t*Up (Gj p) t:=by
   have:=Nf 1 1 t (max (max p.length (0::Gj p).length) r.length) p (0::Gj p) r (by omega) (by omega) (by omega) λk=>by
    rw [h,Q3];cases k with
    | zero=>simp
    | succ k=>rw [Q3,Mm]; push_cast; grind
   rw [this]; simp only [Up]; push_cast; grind
  rw [e,ih];show _=ev (cz p) t+t*dv (cz p) t;rw [Uq]
theorem Ao (p:W9) (t:Rat):Up (Gj p) t=dv (cz p) t:=mW p _ t λk=>Mm p k
theorem FG {p:W9} (hp:Uu p) (h:0<p.length):HD (cz p) (p.length-1):=by
 refine ⟨?_,λk hk=>?_⟩
 ·rw [S5];have:=Hu hp h;exact λe=>this (by exact_mod_cast e)
 ·rw [S5,Qj,Q0 (by omega)]; rfl
theorem FY {p:W9} (hp:Uu p) (h:0<p.length):¬∀ t,Up p t=0:=λh0=>by
 rw [Qh4 hp h0] at h; exact absurd h (by simp)
theorem S7 {a b c:W9} (ha:Uu a) (hb:Uu b) (hc:Uu c) (h:∀ t,Up c t=Up a t*Up b t) (la:0<a.length) (lb:0<b.length):c.length=a.length+b.length-1:=by
 have h1:=SD (FG ha la) (FG hb lb);have h2:HD (cz c) (a.length-1+(b.length-1)):=Qkf (λt=>by rw [Ut,Uq,Uq,Uq,h]) h1;have lc:0<c.length:=by
  rcases Q6 c.length with e | e
  ·exact absurd (λt=>by rw [Uq]; exact B5 e t) (sE h2)
  ·exact e
 have:=Qkg (FG hc lc) h2;omega
theorem yQ:∀ (n m:Nat),m<=n->2<=m->∃ P,2<=P/\P∣m/\∀ d,2<=d->d∣P->d=P
 | 0,m,h,h2=>by omega
 |
  n+1,m,h,h2=>by
  rcases Classical.em (∃ d,2<=d/\d<m/\d∣m) with ⟨d,d1,d2,d3⟩ | h0
  ·obtain ⟨P,p1,p2,p3⟩:=yQ n d (by omega) d1;exact ⟨P,p1,Nat.dvd_trans p2 d3,p3⟩
  ·refine ⟨m,h2,Nat.dvd_refl m,λd d1 d2=>?_⟩;rcases Y9 (Wb (by omega) d2) with e | e
   ·exact absurd ⟨d,d1,e,d2⟩ h0
   ·exact e
theorem EI {P:Nat} (h2:2<=P) (hP:∀ d,2<=d->d∣P->d=P) {x y:Int} (h:(P:Int)∣x*y):(P:Int)∣x\/(P:Int)∣y:=by
 have h:=X7.2 h;rw [Yh,Xk] at h;have hg:=Wi P x.natAbs;rcases Zc (Nat.gcd P x.natAbs) 2 with e | e
 ·right;have h1:Nat.gcd P x.natAbs=1:=by
   have:=Nat.gcd_pos_of_pos_left x.natAbs (show 0<P by omega); omega
  have:=Nat.Coprime.dvd_of_dvd_mul_left h1 h;exact X7.1 (by rwa [Xk])
 ·left;have:=hP _ e hg;have h3:=Nat.gcd_dvd_right P x.natAbs;rw [this] at h3;exact X7.1 (by rwa [Xk])
def kQ (P:Int) (l:W9):Prop:=∀ k,P∣l.getD k 0
theorem KD {P:Nat} (h2:2<=P) (hP:∀ d,2<=d->d∣P->d=P):∀ (n:Nat) (b h c:W9),b.length+h.length<=n->(∀ t,Up c t=Up b t*Up h t)->kQ P c->kQ P b\/kQ P h
 | _,[],h,c,_,_,_=>.inl λk=>by simp
 | _,x::b,[],c,_,_,_=>.inr λk=>by simp
 | 0,x::b,y::h,c,hn,_,_=>by simp at hn
 |
  n+1,x::b,y::h,c,hn,hc,hd=>by
  simp only [Q7] at hn;by_cases hx:(P:Int)∣x
  ·-- x h is taken away
   have e:∀ t,Up (0::Fv b (y::h)) t=Up (Nt c (Fh (y::h) x)) t:=λt=>by
    rw [Pq,Hg,hc]; simp only [Up]; rw [Fe]; simp only [Up]; push_cast; grind
   have hd':kQ P (Fv b (y::h)):=λk=>by
    have:=Cq e (k+1);rw [Q3,Aw,Sv] at this;rw [this];exact Int.dvd_sub (hd (k+1)) (Ka hx (Yw _ _))
   rcases KD h2 hP n b (y::h) _ (by simp only [Q7]; omega) (λt=>Fe _ _ t) hd' with h1 | h1
   ·refine .inl λk=>?_
    cases k with
    | zero=>rw [Zn]; exact hx
    | succ k=>rw [Q3]; exact h1 k
   ·exact .inr h1
  ·have h0:(P:Int)∣y:=by
    have e:c.getD 0 0=x*y:=by
     have:=Cq (p:=c) (q:=Fv (x::b) (y::h)) (λt=>by rw [hc,Fe]) 0;have e2:=Cq (p:=Fv (x::b) (y::h)) (q:=JV (Fh (y::h) x) (0::Fv b (y::h))) (λt=>by
      rw [PI,Hg,Fe]; simp only [Up]; rw [Fe]; simp only [Up]; push_cast; grind) 0
     rw [this,e2,DY,Sv,Zn,Zn,Kn]; omega
    have:=hd 0;rw [e] at this;rcases EI h2 hP this with h1 | h1
    ·exact absurd h1 hx
    ·exact h1
   have e:∀ t,Up (0::Fv (x::b) h) t=Up (Nt c (Fh (x::b) y)) t:=λt=>by
    rw [Pq,Hg,hc]; simp only [Up]; rw [Fe]; simp only [Up]; push_cast; grind
   have hd':kQ P (Fv (x::b) h):=λk=>by
    have:=Cq e (k+1);rw [Q3,Aw,Sv] at this;rw [this];exact Int.dvd_sub (hd (k+1)) (Ka h0 (Yw _ _))
   rcases KD h2 hP n (x::b) h _ (by simp only [Q7]; omega) (λt=>Fe _ _ t) hd' with h1 | h1
   ·exact absurd (by have:=h1 0; rwa [Zn] at this) hx
   ·refine .inr λk=>?_
    cases k with
    | zero=>rw [Zn]; exact h0
    | succ k=>rw [Q3]; exact h1 k
def Prm (b:W9):Prop:=∀ d:Int,kQ d b->d∣1
theorem Qaw {a b:W9} (hb:Prm b):∀ (n:Nat) (c:Int) (h:W9),c.natAbs<=n->c≠0->(∀ t,(c:Rat)*Up a t=Up b t*Up h t)->∃ h',∀ t,Up a t=Up b t*Up h' t
 | 0,c,h,hn,h0,_=>absurd (by omega) h0
 |
  n+1,c,h,hn,h0,hc=>by
  rcases Zc c.natAbs 2 with h1 | h1
  ·refine ⟨Fh h c,λt=>?_⟩;have hcc:(c:Rat)*c=1:=by
    have:c*c=1:=by
     rcases (show c=1\/c=-1 by omega) with rfl | rfl <;> rfl
    have:=congrArg (λz:Int=>(z:Rat)) this
    push_cast at this; exact this
   rw [Hg];have:=hc t;have:Up a t=(c:Rat)*((c:Rat)*Up a t):=by
    have:(c:Rat)*((c:Rat)*Up a t)=((c:Rat)*c)*Up a t:=by grind
    rw [this,hcc]; grind
   rw [this,hc]; grind
  ·obtain ⟨P,p1,p2,p3⟩:=yQ c.natAbs c.natAbs (Qn _) h1;obtain ⟨d,hd⟩:∃ d,c=(P:Int)*d:=K8.2 p2;have hall:kQ P (Fh a c):=λk=>by
    rw [Sv,hd]; exact Ka (Int.dvd_mul_right _ _) (Yw _ _)
   have hP0:(P:Rat)≠0:=by
    have:((0:Nat):Rat)<(P:Rat):=Vd.2 (by omega);grind
   rcases KD p1 p3 _ b h (Fh a c) (Qn _) (λt=>by rw [Hg,Wo,hc]) hall with e | e
   ·have:=hb P e;have:=X7.2 this;rw [Xk] at this;have:=Wb (by decide) this;exact absurd this (by show ¬P<=1; omega)
   ·refine Qaw hb n d (h.map (· / (P:Int))) ?_ (λe0=>h0 (by rw [hd,e0,Kq])) λt=>?_
    ·rw [hd,Yh,Xk] at hn h1;have:2*d.natAbs<=P*d.natAbs:=Qz _ p1;omega
    ·have e1:Up h t=(P:Rat)*Up (h.map (· / (P:Int))) t:=by
      have:=Nf P 0 t (max h.length (h.map (· / (P:Int))).length) (h.map (· / (P:Int))) [] h (by omega) (by simp) (by omega) λk=>by
       have:=e k;have e2:(h.map (· / (P:Int))).getD k 0=h.getD k 0 / (P:Int):=by
        rw [Qj,Qj,Zu];cases h[k]? <;> simp
       rw [e2,Ko this]; simp
      rw [this]; simp only [Up]; push_cast; grind
     have:=hc t;rw [hd,e1] at this
     push_cast at this
     have h3:(P:Rat)*((d:Rat)*Up a t)=(P:Rat)*(Up b t*Up (h.map (· / (P:Int))) t):=by grind
     have h4:=Yq.1 (show (P:Rat)*((d:Rat)*Up a t-Up b t*Up (h.map (· / (P:Int))) t)=0 by grind);rcases h4 with h4 | h4
     ·exact absurd h4 hP0
     ·grind
theorem BR:∀ u:Uc,∃ c:Int,c≠0/\∃ h:W9,∀ t,(c:Rat)*ev u t=Up h t
 | []=>⟨1,by decide,[],λt=>by simp only [ev,Up]; grind⟩
 |
  a::u=>by
  obtain ⟨c,hc,h,hh⟩:=BR u;refine ⟨c*(a.den:Int),Vv hc (by have:=a.den_nz; omega),(c*a.num)::Fh h (a.den:Int),λt=>?_⟩;have e:(a.den:Rat)*a=a.num:=by
   rw [Wo];have:(a.num:Rat) / (((a.den:Int)):Rat)=a:=by rw [G9,X2]
   have hd:(a.den:Rat)≠0:=by
    have:((0:Nat):Rat)<(a.den:Rat):=Vd.2 a.den_pos;grind
   have h2:(a.num:Rat) / (a.den:Rat)*(a.den:Rat)=a.num:=Zd hd;rw [show (a.num:Rat) / (a.den:Rat)=a from this] at h2; exact h2
  simp only [ev,Up];rw [Hg,<-hh]
  push_cast
  rw [<-e];have e3:(((a.den:Int)):Rat)=(a.den:Rat):=rfl;grind
theorem Qav {a b:W9} (hb:Prm b) (h:I9 (cz b) (cz a)):∃ h',Uu h'/\∀ t,Up a t=Up b t*Up h' t:=by
 obtain ⟨u,hu⟩:=h;obtain ⟨c,hc,h,hh⟩:=BR u;obtain ⟨h',e⟩:=Qaw hb c.natAbs c h (Qn _) hc λt=>by
  have:=hu t;rw [Uq,Uq] at this;rw [this,<-hh]; grind
 exact ⟨trim h',Rf _,λt=>by rw [Ap,e]⟩
def sd (x0:Rat):Uc->Uc
 | []=>[]
 | _::p=>Ru p (B7 x0 (sd x0 p))
theorem Qao (x0 x:Rat):∀ p,ev (sd x0 p) x=dq p x x0
 | []=>rfl
 | a::p=>by simp only [sd,dq]; rw [Fz,Fp,Qao x0 x p]
theorem fO (x0:Rat):∀ (g:Uc) (n:Nat),(∀ j,n<j->g.getD j 0=0)->∀ j,n<=j->(sd x0 g).getD j 0=0
 | [],n,_,j,_=>by simp [sd]
 |
  a::p,0,h,j,_=>by
  have hp:∀ j,p.getD j 0=0:=λj=>by have:=h (j+1) (by omega); rwa [Q3] at this
  simp only [sd];rw [Hf,Rq,hp,fO x0 p 0 (λj _=>hp j) j (Qi _)]; grind
 |
  a::p,n+1,h,j,hj=>by
  have hp:∀ j,n<j->p.getD j 0=0:=λj hj=>by have:=h (j+1) (by omega); rwa [Q3] at this
  simp only [sd];rw [Hf,Rq,hp j (by omega),fO x0 p n hp j (by omega)]; grind
theorem uV {K:Rat} (hK:0≤K):∀ (e:Nat) (g:Uc) (pts:W9) (M:Rat),pts.length=e+1->pts.Nodup->(∀ x∈pts,Uw (x:Rat)≤K)->(∀ k,e<k->g.getD k 0=0)->(∀ x∈pts,Uw (ev g (x:Rat))≤M)->∀ k,Uw (g.getD k 0)≤(2*K+3)^e*M
 | _,_,[],_,h,_,_,_,_=>by simp at h
 |
  0,g,x0::xs,M,_,_,_,hg,hM=>λk=>by
  have h0:=hM x0 (by simp);rw [Xa];cases k with
  |
   zero =>
   have e:ev g (x0:Rat)=g.getD 0 0:=by
    cases g with
    | nil=>rfl
    |
     cons a p =>
     have hp:=Cd (p:=p) λj=>by have:=hg (j+1) (by omega); rwa [Q3] at this
     simp only [ev,hp,Zn]; grind
   rw [<-e]; grind
  |
   succ k =>
   rw [hg (k+1) (by omega),He];have:=Gz (ev g (x0:Rat)); grind
 |
  e+1,g,x0::xs,M,hl,hn,hb,hg,hM=>λk=>by
  have hx0:=hb x0 (by simp);have hM0:=hM x0 (by simp);have hMn:0<=M:=Zg (Gz _) hM0;rw [List.nodup_cons] at hn;have ih:=uV hK e (sd x0 g) xs (2*M) (by simpa using hl) hn.2 (λx hx=>hb x (by simp [hx])) (λj hj=>fO _ g (e+1) hg j (by omega)) λx hx=>by
   have h1:=hM x (by simp [hx]);have h2:=BD (x:Rat) (x0:Rat) g;rw [<-Qao] at h2;have hne:x-x0≠0:=λh=>hn.1 (by rw [show x0=x by omega]; exact hx)
   have h3:=JY hne;rw [Rat.intCast_sub] at h3;have h4:Uw (ev g (x:Rat)-ev g (x0:Rat))<=2*M:=by
    have:=Rt (ev g (x:Rat)) (-ev g (x0:Rat));rw [Dy,show ev g (x:Rat)+-ev g (x0:Rat)=ev g (x:Rat)-ev g (x0:Rat) by grind] at this;clear hM hb hg; grind
   rw [h2,Ek] at h4;have h5:=Q9 h3 (Gz (ev (sd x0 g) x));clear hM hb hg; grind
  have e1:∀ t,ev g t=ev (Ru [ev g x0] (Ru (B7 (-x0) (sd x0 g)) (0::sd x0 g))) t:=λt=>by
   have:=BD t (x0:Rat) g;rw [<-Qao] at this;simp only [Fz,Fp,ev];grind
  have hp1:1<=(2*K+3)^e:=(ZW (R:=2*K+3) (x:=0) (by grind) (by rw [He]; grind) e).2;have hpM:=Me (x:=(2*K+3)^e) (y:=M) (by grind) hMn;have hpM1:=Q9 hp1 hMn;rw [Z3,Bw e1 k,Hf,Hf,Rq];have a1:=ih k;have a2:Uw (-(x0:Rat)*(sd (x0:Rat) g).getD k 0)<=K*((2*K+3)^e*(2*M)):=Gh (by rw [Dy]; exact hx0) a1;have fin:∀ u v w:Rat,Uw u<=M->Uw v<=K*((2*K+3)^e*(2*M))->Uw w<=(2*K+3)^e*(2*M)->Uw (u+(v+w))<=(2*K+3)^e*(2*K+3)*M:=λu v w h1 h2 h3=>by
   have b1:=Rt u (v+w);have b2:=Rt v w;clear ih e1 hM hb hg a1 a2; grind
  refine fin _ _ _ ?_ a2 ?_
  ·cases k with
   | zero=>rw [Zn]; exact hM0
   | succ k=>rw [Q3,Kb,He]; exact hMn
  ·cases k with
   | zero=>rw [Zn,He]; clear ih e1 hM hb hg a1 a2 fin; grind
   | succ k=>rw [Q3]; exact ih k
theorem Qde {g:Uc} {e:Nat} (hg:∀ k,e<k->g.getD k 0=0) (hz:¬∀ t,ev g t=0) {pts:W9} (hn:pts.Nodup) (hr:∀ x∈pts,ev g (x:Rat)=0):pts.length≤e:=by
 rcases Zc e pts.length with h | h
 ·exfalso;obtain ⟨K,hK,hb⟩:∃ K:Rat,0≤K/\∀ x∈pts,Uw (x:Rat)≤K:=by
   clear hn hr h
   induction pts with
   | nil=>exact ⟨0,by decide,λx hx=>by cases hx⟩
   |
    cons y pts ih =>
    obtain ⟨K,h1,h2⟩:=ih;refine ⟨K+Uw (y:Rat),by have:=Gz (y:Rat); grind,λx hx=>?_⟩;have hy:=Gz (y:Rat);rcases Qk.1 hx with rfl | hx
    ·grind
    ·have:=h2 x hx; grind
  refine hz (Cd λk=>?_);have:=uV hK e g (pts.take (e+1)) 0 (by rw [Qp]; omega) (hn.sublist (List.take_sublist ..)) (λx hx=>hb x (Qm hx)) hg (λx hx=>by rw [hr x (Qm hx),He]; exact Qo) k;have h2:=Gz (g.getD k 0);exact Qif (by grind)
 ·exact h
def spots:W9:=(List.range 19).map λi:Nat=>(i:Int)-9
theorem spots_nd:spots.Nodup:=by decide
theorem yA:∀ x∈spots,x.natAbs≤9:=by decide
theorem SY {α:Type} (p:α->Bool):∀ l:List α,(l.filter p).length+(l.filter λx => !p x).length=l.length
 | []=>rfl
 |
  x::l=>by
  have:=SY p l;cases h:p x <;> simp [h] <;> omega
def geo:Nat->Nat
 | 0=>0
 | n+1=>1+9*geo n
theorem sT {B:Rat}:∀ (p:W9),(∀ z∈p,Uw (z:Rat)≤B)->zS 9 (cz p)≤B*(geo p.length:Nat)
 | [],_=>by simp only [cz,X8,zS,geo,Jq]; rw [show ((0:Nat):Rat)=0 from rfl]; grind
 |
  a::p,h=>by
  have h1:=sT p λz hz=>h z (Qf _ hz)
  have h2:=h a (Qx ..);simp only [cz,Zx,zS,geo,Q7] at *
  push_cast
  clear h; grind
theorem Qa5 {m n:Nat} (h:m<=n):geo m<=geo n:=by
 induction h with
 | refl=>exact Qn _
 | step h ih=>simp only [geo]; omega
def pz:W9->Int->Int
 | [],_=>0
 | a::p,x=>a+x*pz p x
theorem JU (x:Int):∀ p,Up p (x:Rat)=((pz p x:Int):Rat)
 | []=>rfl
 | a::p=>by simp only [Up,pz,JU x p]; push_cast; rfl
theorem Ry (z:Int):Uw (z:Rat)=((z.natAbs:Nat):Rat):=by
 unfold Uw;rcases Wg z 0 with h | h
 ·have h1:(z:Rat)<((0:Int):Rat):=Jf.2 h;rw [if_pos (by simpa using h1)];have:(z.natAbs:Int)=-z:=by omega
  have:=congrArg (λu:Int=>(u:Rat)) this
  push_cast at this
  exact this.symm
 ·have h1:((0:Int):Rat)<=(z:Rat):=X6.2 h;have h1:(0:Rat)<=(z:Rat):=by simpa using h1
  rw [if_neg (by grind)];have:(z.natAbs:Int)=z:=by omega
  have:=congrArg (λu:Int=>(u:Rat)) this;exact this.symm
theorem Oh {p g h:W9} {s:Nat} (hp:Bd s p) (hl:p.length<=10) (tp:Uu p) (tg:Uu g) (th:Uu h) (h0:p.length≠0) (e:∀ t,Up p t=Up g t*Up h t):Bd (s+69) g:=by
 have lg:0<g.length:=by
  rcases Q6 g.length with e' | e'
  ·exact absurd (λt=>by rw [e,B5 e']; grind) (FY tp (by omega))
  ·exact e'
 have lh:0<h.length:=by
  rcases Q6 h.length with e' | e'
  ·exact absurd (λt=>by rw [e,B5 e']; grind) (FY tp (by omega))
  ·exact e'
 have hlen:=S7 tg th tp e lg lh;obtain ⟨q,hq⟩:=nmE (spots.filter λx => !decide (pz p x=0));have hr:(spots.filter λx=>decide (pz p x=0)).length<=9:=by
  refine Qde (g:=cz p) (e:=9) (λk hk=>?_) (λh=>FY tp (by omega) λt=>by rw [<-Uq]; exact h t) (spots_nd.sublist List.filter_sublist) λx hx=>?_
  ·rw [S5,Qj,Q0 (by omega)]; rfl
  ·have:=(J5.1 hx).2;rw [Uq,JU,of_decide_eq_true this]; rfl
 have hc:=SY (λx=>decide (pz p x=0)) spots;rw [<-hq] at hc;have hsl:spots.length=19:=by decide
 have hB:∀ z∈p,Uw (z:Rat)≤((2^s:Nat):Rat):=λz hz=>by
  rw [Ry];have:=hp z hz;rw [M8] at this;exact Zh.2 (J7 this)
 have key:=uV (K:=9) (by decide) 9 (cz g) (q.take 10) (((2^s*435848050:Nat)):Rat) (by rw [Qp]; omega) ((spots_nd.sublist (by rw [hq]; exact List.filter_sublist)).sublist (List.take_sublist ..)) (λx hx=>by
  have hx:=Qm hx;rw [hq] at hx;have:=yA x (J5.1 hx).1;rw [Ry]
  exact_mod_cast Zh.2 this) (λk hk=>by rw [S5,Qj,Q0 (by omega)]; rfl) (λx hx=>by
  have hx:=Qm hx;rw [hq] at hx;obtain ⟨hx1,hx2⟩:=J5.1 hx;have hne:pz p x≠0:=by simpa using hx2
  have e1:=e (x:Rat);rw [JU,JU,JU] at e1;have e2:pz p x=pz g x*pz h x:=by exact_mod_cast e1
  have hh:1<=(pz h x).natAbs:=by
   rcases Q6 (pz h x).natAbs with e' | e'
   ·exact absurd (by rw [e2,Int.natAbs_eq_zero.1 e',Kq]) hne
   ·exact e'
  have h3:(pz g x).natAbs<=(pz p x).natAbs:=by
   rw [e2,Yh];exact Yf _ hh
  rw [Uq,JU,Ry];refine Zg (Zh.2 h3) ?_;rw [<-Ry,<-JU,<-Uq];refine Zg (FK (R:=9) (by
   have:=yA x hx1;rw [Ry]
   exact_mod_cast Zh.2 this) _) ?_
  refine Zg (sT p hB) ?_;have:2^s*geo p.length<=2^s*435848050:=Zs _ (Qd (Qa5 hl) (by decide));have:=Zh.2 this
  push_cast at this ⊢
  exact this)
 refine RG λk=>?_
 have h1:=key k;rw [S5,Ry] at h1;have e3:(2*(9:Rat)+3)^9*((2^s*435848050:Nat):Rat)=(((794280046581*(2^s*435848050)):Nat):Rat):=by
  rw [show (2*(9:Rat)+3)^9=794280046581 by grind]
  push_cast; rfl
 rw [e3] at h1;have h2:=Zh.1 h1;rw [M8];refine Z2 h2 ?_;have:794280046581*(2^s*435848050)=2^s*(794280046581*435848050):=by
  rw [Nat.mul_left_comm]
 rw [this,Xc];exact Nat.mul_lt_mul_of_pos_left (by decide) (Zy (by decide))
theorem zU {l:W9} {d:Int} (h:∀ z∈l,d∣z):d∣((Hq l:Nat):Int):=by
 have key:∀ (l:W9) (g:Nat),d.natAbs∣g->(∀ z∈l,d∣z)->d.natAbs∣l.foldl (λg z=>Nat.gcd g z.natAbs) g:=by
  intro l
  induction l with
  | nil=>exact λg h _=>h
  | cons z l ih=>exact λg hg h=>ih _ (Nat.dvd_gcd hg (X7.2 (h z (Qx ..)))) λu hu=>h u (Qf _ hu)
 have:=key l 0 (Nat.dvd_zero _) h;exact X7.1 (by rw [Xk]; exact this)
theorem YA (p:W9) (c:Int) (k:Nat):(p.map (· / c)).getD k 0=p.getD k 0 / c:=by
 rw [Qj,Qj,Zu];cases p[k]? <;> simp
theorem JG (p:W9) (c:Int) (k:Nat):(Ny p c).getD k 0=p.getD k 0 / c:=by
 unfold Ny; rw [ZP,YA]
theorem DK {p:W9} {c:Int} (h:∀ z∈p,c∣z) (t:Rat):Up p t=(c:Rat)*Up (Ny p c) t:=by
 have:=Nf c 0 t (max p.length (Ny p c).length) (Ny p c) [] p (by omega) (by simp) (by omega) λk=>by
  rw [JG];have hd:c∣p.getD k 0:=by
   rw [Qj];cases e:p[k]? with
   | none=>exact Int.dvd_zero _
   | some z=>exact h z (Qa e)
  rw [Ko hd]; simp
 rw [this]; simp only [Up]; push_cast; grind
theorem On {c:Int} (h:c≠0):(c:Rat)≠0:=λe=>h (by exact_mod_cast e)
theorem Io {p q:W9} {c:Rat} (tp:Uu p) (tq:Uu q) (hc:c≠0) (h:∀ t,Up p t=c*Up q t):p.length=q.length:=by
 have key:∀ {p q:W9} {c:Rat},Uu p->Uu q->c≠0->(∀ t,Up p t=c*Up q t)->p.length<=q.length:=λ{p q c} tp tq hc h=>by
  rcases Zc q.length p.length with e | e
  ·have h1:=Hu tp (by omega);have:=Bw (p:=cz p) (q:=B7 c (cz q)) (λt=>by rw [Uq,Fp,Uq,h]) (p.length-1);rw [S5,Rq,S5,Qj (l:=q),Q0 (by omega)] at this;have:((p.getD (p.length-1) 0:Int):Rat)=0:=by rw [this]; simp
   exact absurd (by exact_mod_cast this) h1
  ·exact e
 refine Kt (key tp tq hc h) (key (c:=1 / c) tq tp (λe=>?_) λt=>?_)
 ·have:=Zd (a:=1) hc; rw [e] at this; grind
 ·rw [h]; have:=Zd (a:=1) hc; grind
theorem Nh {p:W9} (tp:Uu p) (h:p.length≠0):Uu (Uv p)/\(Uv p).length=p.length/\Prm (Uv p)/\0<U3 (Uv p)/\(∀ s,Bd s p->Bd s (Uv p))/\Gs p≠0/\∀ t,Up p t=(Gs p:Rat)*Up (Uv p) t:=by
 have h0:=mG tp h;have e:Uv p=Ny p (Gs p):=by unfold Uv; rw [if_neg h]
 have h1:=DK (p:=p) (c:=Gs p) VN;have hl:=Io tp (Iu p (Gs p)) (On h0) h1;have hcp:0<Tq p:=by
  have:=O8 tp h;unfold Tq at this ⊢; omega
 rw [e];refine ⟨Iu _ _,hl.symm,λd hd=>?_,?_,λs hs=>RH hs _,h0,h1⟩
 ·have h2:∀ z∈p,d*Gs p∣z:=λz hz=>by
   obtain ⟨i,hi⟩:=Zm.1 hz;have h3:=hd i;rw [JG,Qj,hi] at h3;obtain ⟨k,hk⟩:=h3;have h4:=VN z hz;refine ⟨k,?_⟩;have:z / Gs p*Gs p=z:=Int.ediv_mul_cancel h4;rw [<-this];rw [show z / Gs p=d*k from hk,Int.mul_right_comm]
  have h3:=zU h2;have h4:Gs p∣((Hq p:Nat):Int)/\((Hq p:Nat):Int)∣Gs p:=by
   unfold Gs Tq; split
   ·exact ⟨Int.neg_dvd.2 (Kl _),Int.dvd_neg.2 (Kl _)⟩
   ·exact ⟨Kl _,Kl _⟩
  obtain ⟨k,hk⟩:=Ka h3 h4.2;refine ⟨k,?_⟩;have:Gs p*(d*k)=Gs p*1:=by rw [Int.mul_one,<-Int.mul_assoc,Kn (Gs p) d,<-hk]
  exact (Int.eq_of_mul_eq_mul_left h0 this).symm
 ·have h2:U3 (Ny p (Gs p))=U3 p / Gs p:=by unfold U3; rw [<-hl,JG]
  have h3:Gs p∣U3 p:=VN _ (PX h);have h5:U3 p / Gs p*Gs p=U3 p:=Int.ediv_mul_cancel h3;rw [h2];have h6:=Du tp h;rcases Wd (U3 p / Gs p) 0 with e1 | e1 | e1
  ·exfalso;by_cases hn:U3 p<0
   ·have:Gs p=-Tq p:=by unfold Gs; rw [if_pos hn]
    have:0<U3 p / Gs p*Gs p:=Vx e1 (by omega);omega
   ·have:Gs p=Tq p:=by unfold Gs; rw [if_neg hn]
    have:U3 p / Gs p*Gs p<0:=Int.mul_neg_of_neg_of_pos e1 (by omega);omega
  ·rw [e1] at h5; omega
  ·exact e1
theorem Qcv {r:W9} (tr:Uu r):∃ c:Rat,0<c/\∀ t,Up r t=c*Up (XW r) t:=by
 unfold XW;by_cases h:r.length=0
 ·rw [if_pos h]; exact ⟨1,by decide,λt=>by rw [B5 h,B5 rfl]; grind⟩
 ·rw [if_neg h];have h1:0<Tq r:=by
   have:=O8 tr h;unfold Tq at this ⊢; omega
  have h2:((0:Int):Rat)<(Tq r:Rat):=Jf.2 h1;exact ⟨Tq r,by simpa using h2,DK D8⟩
theorem O9 (x:Int) (t:Rat):∀ i,Up (mono i x) t=(x:Rat)*t^i
 | 0=>by simp only [mono,Kx,J6,Up,Xa]; grind
 |
  i+1=>by
  have ih:=O9 x t i;simp only [mono,Yg,Z7,Up] at *;rw [ih,Z3]; push_cast; grind
theorem pN (x:Int) (b:W9) (i k:Nat):(Fv (trim (mono i x)) b).getD k 0=if i<=k then x*b.getD (k-i) 0 else 0:=by
 have e:∀ t,Up (Fv (trim (mono i x)) b) t=Up (List.replicate i 0++b.map (x * ·)) t:=λt=>by
  rw [Fe,Ap,O9];have h2:∀ i,Up (List.replicate i 0++b.map (x * ·)) t=t^i*((x:Rat)*Up b t):=λi=>by
   induction i with
   |
    zero =>
    simp only [Kx,J6,Xa];have:=Nf x 0 t (max b.length (b.map (x * ·)).length) b [] (b.map (x * ·)) (by omega) (by simp) (by omega) λk=>by
     rw [Qj,Qj,Zu];cases b[k]? <;> simp
    rw [this]; simp only [Up]; push_cast; grind
   | succ i ih=>simp only [Yg,Z7,Up,ih,Z3]; push_cast; grind
  rw [h2]; grind
 rw [Cq e k,Qj,List.getElem?_append,Kf];by_cases h:i<=k
 ·rw [if_neg (by omega),if_pos h,Zu,Qj];cases b[k-i]? <;> simp
 ·rw [if_pos (by omega),if_neg h,Jn,if_pos (by omega)]; rfl
theorem Qbp {p:W9} {n:Nat} (tp:Uu p) (h:p.length<=n+1) (h0:p.getD n 0=0):p.length<=n:=by
 rcases Zc n p.length with e | e
 ·have:=Hu tp (by omega);rw [show p.length-1=n by omega] at this;exact absurd h0 this
 ·exact e
theorem Qiz {b r:W9} {i:Nat} (tr:Uu r) (h:r.length<=b.length+i) (hb:b.length≠0) {x:Int} (hx:x=if r.length=b.length+i then U3 r else 0):(str b (U3 b) i x r).length<b.length+i:=by
 have hl:=AP (c:=U3 b) (x:=x) (i:=i) (b:=b) (r:=r);have:=Qbp (p:=str b (U3 b) i x r) (n:=b.length+i-1) (Fc _ _) (by omega) (by
  unfold str;rw [Aw,Sv,pN,if_pos (by omega),hx,show b.length+i-1-i=b.length-1 by omega]
  split
  ·rename_i he;unfold U3;rw [he,Int.sub_eq_zero]
  ·rw [Qj (l:=r),Q0 (by omega)]; simp)
 omega
theorem Qn0 (b r:W9) (c:Int) (i:Nat) (x:Int) (t:Rat):(c:Rat)*Up r t=(x:Rat)*t^i*Up b t+Up (str b c i x r) t:=by
 unfold str;rw [Pq,Hg,Fe,Ap,O9]; grind
theorem Qc1 (b:W9) (c:Int):∀ (i:Nat) (q r:W9),∃ X:Uc,∀ t,((c^i:Int):Rat)*Up r t=ev X t*Up b t+Up (yJ b c i (q,r)).2 t
 | 0,q,r=>⟨[],λt=>by simp only [yJ,ev]; rw [Int.pow_zero]; push_cast; grind⟩
 |
  i+1,q,r=>by
  obtain ⟨x,hx⟩:=nmE (if r.length=b.length+i then U3 r else 0);obtain ⟨X,hX⟩:=Qc1 b c i (stq c i x q) (str b c i x r);obtain ⟨m,hm⟩:∃ m:Uc,∀ t,ev m t=(x:Rat)*t^i:=⟨cz (mono i x),λt=>by rw [Uq,O9]⟩;refine ⟨Ru (B7 ((c^i:Int):Rat) m) X,λt=>?_⟩;rw [QJ hx,Fz,Fp,hm];have h1:=hX t;have h2:=Qn0 b r c i x t;rw [Int.pow_succ]
  push_cast at h1 ⊢
  have:(c:Rat)^i*c*Up r t=(c:Rat)^i*((c:Rat)*Up r t):=by grind
  rw [this,h2]; grind
theorem mB {b:W9} (hb:b.length≠0):∀ (i:Nat) (q r:W9),Uu r->r.length<b.length+i->Uu (yJ b (U3 b) i (q,r)).2/\(yJ b (U3 b) i (q,r)).2.length<b.length
 | 0,q,r,tr,h=>⟨tr,h⟩
 |
  i+1,q,r,tr,h=>by
  rw [QJ rfl];exact mB hb i _ _ (Fc _ _) (Qiz tr (by omega) hb rfl)
theorem Qc0 {b:W9} {c:Int} {t:Nat} (hb:Bd t b) (hc:U0 c<=t):∀ (i u:Nat) (q r:W9),i<=64->Bd u r->Bd (u+i*(t+8)) (yJ b c i (q,r)).2
 | 0,u,q,r,_,h=>by simpa [yJ] using h
 |
  i+1,u,q,r,hi,h=>by
  rw [QJ rfl];have hx:U0 (if r.length=b.length+i then U3 r else 0)<=u:=by
   split
   ·exact Pn h
   ·rw [Ce]; exact Qi _
  have:=Qc0 hb hc i (u+t+8) (stq c i (if r.length=b.length+i then U3 r else 0) q) (str b c i (if r.length=b.length+i then U3 r else 0) r) (by omega) (kR h hb hc hx (by omega));exact Uk this (by rw [Z6]; omega)
theorem MV {c:Int} (h:c<0):∀ k:Nat,(k % 2=1->c^k<0)/\(k % 2=0->0<c^k)
 | 0=>⟨λh=>by omega,λ_=>by rw [Int.pow_zero]; decide⟩
 |
  k+1=>by
  obtain ⟨i1,i2⟩:=MV h k;rw [Int.pow_succ];exact ⟨λhk=>Vw (i2 (by omega)) h,λhk=>Vx (i1 (by omega)) h⟩
theorem HC {a b:W9} (ta:Uu a) (tb:Uu b) (hb:b.length≠0) (hl:a.length<=60):Uu (Ht a b)/\(Ht a b).length<b.length/\(∀ s,Bd s a->Bd s b->Bd (s+(a.length+1-b.length)*(s+8)) (Ht a b)) /\
 ∃ u v:Rat,0<u/\0<v/\∃ X:Uc,∀ t,u*Up a t=ev X t*Up b t+v*Up (Ht a b) t:=by
 obtain ⟨k,hk⟩:=nmE (a.length+1-b.length);have h1:Uu (Sr a b)/\(Sr a b).length<b.length:=mB hb _ _ _ ta (by omega);obtain ⟨X,hX⟩:=Qc1 b (U3 b) k [] a;have hX:∀ t,(((U3 b)^k:Int):Rat)*Up a t=ev X t*Up b t+Up (Sr a b) t:=by unfold Sr; rw [<-hk]; exact hX
 have h2:=VL (a:=a) (b:=b) (r:=Sr a b) (n:=(Sr a b).length) (s:=(Sr a b).foldl (λm z=>m+U0 z) 0) h1.1 (Qn _) (λz hz=>by
  have key:∀ (l:W9) (m:Nat),m≤l.foldl (λm z=>m+U0 z) m/\∀ z∈l,U0 z≤l.foldl (λm z=>m+U0 z) m:=by
   intro l
   induction l with
   | nil=>exact λm=>⟨Qn _,λz hz=>by cases hz⟩
   |
    cons y l ih =>
    intro m;obtain ⟨i1,i2⟩:=ih (m+U0 y);refine ⟨by simp only [Z4]; omega,λz hz=>?_⟩;simp only [Z4];rcases Qk.1 hz with rfl | hz
    ·omega
    ·exact i2 z hz
  exact (key _ 0).2 z hz)
 have h3:=MX (r:=Mp a b (Sr a b)) (n:=(Sr a b).length) h2.2.1 h2.2.2;refine ⟨h3.1,by unfold Ht; omega,λs ha hbs=>?_,?_⟩
 ·have h4:=Qc0 (c:=U3 b) hbs (Pn hbs) k s [] a (by omega) ha;have h5:=VL (a:=a) (b:=b) (n:=(Sr a b).length) h1.1 (Nat.le_refl _) (show Bd (s+k*(s+8)) (Sr a b) by unfold Sr; rw [<-hk]; exact h4);rw [<-hk];exact (MX h5.2.1 h5.2.2).2.2
 ·obtain ⟨v,vp,hv⟩:=Qcv h2.1;have hc:=Du tb hb;by_cases ht:k % 2=1/\U3 b<0
  ·have e1:Mp a b (Sr a b)=Db (Sr a b):=by unfold Mp; rw [<-hk,if_pos ht]
   have hneg:(U3 b)^k<0:=(MV ht.2 k).1 ht.1;have h5:(((U3 b)^k:Int):Rat)<((0:Int):Rat):=Jf.2 hneg;have h5:(((U3 b)^k:Int):Rat)<0:=by simpa using h5
   refine ⟨-(((U3 b)^k:Int):Rat),v,by grind,vp,B7 (-1) X,λt=>?_⟩;have h6:=hX t;have h7:=hv t;rw [e1,VM] at h7;show _=_+v*Up (XW (Mp a b (Sr a b))) t;rw [e1,<-h7,Fp]; grind
  ·have e1:Mp a b (Sr a b)=Sr a b:=by unfold Mp; rw [<-hk,if_neg ht]
   have hpos:0<(U3 b)^k:=by
    rcases V1 hc with h | h
    ·exact (MV h k).2 (by omega)
    ·exact Int.pow_pos h
   have h5:((0:Int):Rat)<(((U3 b)^k:Int):Rat):=Jf.2 hpos;refine ⟨(((U3 b)^k:Int):Rat),v,by simpa using h5,vp,X,λt=>?_⟩;have h7:=hv t;show _=_+v*Up (XW (Mp a b (Sr a b))) t;rw [<-h7,e1,hX]
theorem Ld {p:W9} (h1:p.length<=64) (h2:Bd 16777216 p):BH p=some p:=by
 unfold BH;rw [if_pos ⟨h1,Yy.2 λz hz=>Nat.ble_eq_true_of_le (h2 z hz)⟩]
theorem BB {a b:W9} {g:Uc} {c:Rat} (hc:c≠0) (h:∀ t,Up a t=c*Up b t):I9 g (cz a)↔I9 g (cz b):=by
 constructor
 ·rintro ⟨u,hu⟩
  refine ⟨B7 (1 / c) u,λt=>?_⟩;have h1:=hu t;rw [Uq,h] at h1;rw [Uq,Fp];have h2:1 / c*c=1:=Zd hc;have:Up b t=1 / c*(c*Up b t):=by grind
  rw [this,h1]; grind
 ·rintro ⟨u,hu⟩
  refine ⟨B7 c u,λt=>?_⟩;have h1:=hu t;rw [Uq] at h1;rw [Uq,Fp,h,h1]; grind
structure Gc (g a b:List Int):Prop where
 t:Uu g
 da:I9 (cz g) (cz a)
 db:I9 (cz g) (cz b)
 c:∃ U V,∀ t,Up g t=ev U t*Up a t+ev V t*Up b t
 n:g.length≠0
theorem Gc.scale {g a b g' a' b':W9} {x y z:Rat} (h:Gc g a b) (hx:x≠0) (hy:y≠0) (hz:z≠0) (tg:Uu g') (eg:∀ t,Up g t=x*Up g' t) (ea:∀ t,Up a' t=y*Up a t) (eb:∀ t,Up b' t=z*Up b t):Gc g' a' b':=by
 have hx1:1 / x*x=1:=Zd hx;have hy1:1 / y*y=1:=Zd hy;have hz1:1 / z*z=1:=Zd hz;have hg:∀ c,I9 (cz g) c->I9 (cz g') c:=λc ⟨u,hu⟩=>⟨B7 x u,λt=>by rw [hu,Uq,Uq,eg,Fp]; grind⟩
 obtain ⟨U,V,hc⟩:=h.c;refine ⟨tg,hg _ ((BB hy ea).2 h.da),hg _ ((BB hz eb).2 h.db),⟨B7 (1 / x*(1 / y)) U,B7 (1 / x*(1 / z)) V,λt=>?_⟩,?_⟩
 ·have h1:=hc t;have h2:Up g' t=1 / x*Up g t:=by rw [eg]; grind
  rw [h2,h1,Fp,Fp,ea,eb];generalize ev U t=u at *;generalize ev V t=v at *;grind
 ·rw [<-Io h.t tg hx eg]; exact h.n
theorem Qni:∀ d:Nat,1<=d->d+2<=3^d
 | 0,h=>by omega
 | 1,_=>by decide
 | d+2,_=>by have:=Qni (d+1) (by omega); rw [Zq]; omega
theorem vS {k:Nat} {a b:W9} (ta:Uu a) (tb:Uu b) (hb:b.length≠0) (hl:a.length<=60) (hbl:b.length<=60) (hr:Bd 16777216 (Ht a b)) (ih:∃ g,UC k b (Ht a b)=some g/\Gc g b (Ht a b)):∃ g,UC (k+1) a b=some g/\Gc g a b:=by
 obtain ⟨h1,h2,h3,u,v,up,vp,X,hX⟩:=HC ta tb hb hl;obtain ⟨g,e,hg⟩:=ih;refine ⟨g,?_,?_⟩
 ·simp only [UC];rw [if_neg hb,Ld (by omega) hr]; exact e
 ·obtain ⟨U,V,hc⟩:=hg.c;obtain ⟨y,hy⟩:=hg.da;obtain ⟨z,hz⟩:=hg.db;have hu:1 / u*u=1:=Gi up;have hv:1 / v*v=1:=Gi vp;refine ⟨hg.t,⟨B7 (1 / u) (Ru (Gb X y) (B7 v z)),λt=>?_⟩,hg.da,⟨B7 (u / v) V,Ru U (B7 (-1 / v) (Gb V X)),λt=>?_⟩,hg.n⟩
  ·have a1:=hX t; have a2:=hy t; have a3:=hz t;rw [Uq,Uq] at a2 a3;rw [Uq,Uq,Fp,Fz,Ut,Fp];have:Up a t=1 / u*(u*Up a t):=by grind
   rw [this,a1,a2,a3]; grind
  ·have a1:=hX t; have a2:=hc t;rw [Fp,Fz,Fp,Ut,a2];have:Up (Ht a b) t=1 / v*(v*Up (Ht a b) t):=by grind
   rw [this,show v*Up (Ht a b) t=u*Up a t-ev X t*Up b t by grind,J1,J1,J1];grind
theorem nN {k:Nat} {a:W9} (ta:Uu a) (ha:a.length≠0):∃ g,UC (k+1) a []=some g/\Gc g a [] :=
 ⟨a,rfl,ta,dvd_refl _,⟨[],λt=>by simp only [cz,X8,ev]; grind⟩,⟨[1],[],λt=>by rw [Hw]; simp only [ev]; grind⟩,ha⟩
theorem UD {s:Nat}:∀ (k:Nat) (a b:W9),Uu a->Uu b->b.length<k->b.length<a.length->a.length<=60->Bd s a->Bd s b->(s+8)*3^(a.length-1)<=16777216->∃ g,UC k a b=some g/\Gc g a b
 | 0,_,_,_,_,h,_,_,_,_,_=>by omega
 |
  k+1,a,b,ta,tb,hk,hab,hl,ba,bb,hs=>by
  by_cases hb:b.length=0
  ·rw [Qh hb]; exact nN ta (by omega)
  ·obtain ⟨h1,h2,h3,_⟩:=HC ta tb hb hl;have h3:=h3 s ba bb;obtain ⟨m,hm⟩:=nmE (a.length-b.length);have e1:a.length+1-b.length=m+1:=by omega
   rw [e1] at h3;have e2:s+(m+1)*(s+8)+8=(m+2)*(s+8):=by
    rw [show m+2=(m+1)+1 by omega,Z6 (m+1)]; omega
   have e3:(m+2)*(s+8)*3^(b.length-1)<=(s+8)*3^(a.length-1):=by
    rw [show a.length-1=m+(b.length-1) by omega,Xc,<-Xu,Zo (s+8)];exact Qz _ (Qz _ (Qni m (by omega)))
   have e4:s+(m+1)*(s+8)<=16777216:=by
    have:(m+2)*(s+8)<=(m+2)*(s+8)*3^(b.length-1):=Yf _ (Zy (by decide));omega
   refine vS ta tb hb hl (by omega) (Uk h3 e4) (UD (s:=s+(m+1)*(s+8)) k b (Ht a b) tb h1 (by omega) h2 (by omega) (Uk bb (by omega)) h3 ?_);rw [e2]; omega
def Szz (n s:Nat):Prop:=n<=10/\2*(s+8)*3^(n-1)<=16777216
theorem Qed {n s:Nat} (hz:Szz n s) {a b:W9} (ta:Uu a) (tb:Uu b) (la:a.length<=n) (lb:b.length<=n) (ba:Bd s a) (bb:Bd s b) (h0:a.length≠0\/b.length≠0):∃ g,UC 66 a b=some g/\Gc g a b:=by
 obtain ⟨hn,hz⟩:=hz;have hp:∀ l,l<=n->(s+8)*3^(l-1)<=8388608:=λl hl=>by
  have:(s+8)*3^(l-1)<=(s+8)*3^(n-1):=Zs _ (Zr (by decide) (by omega));rw [Xu] at hz; omega
 rcases Zc b.length a.length with h | h
 ·exact UD 66 a b ta tb (by omega) h (by omega) ba bb (by have:=hp a.length la; omega)
 ·by_cases hb:b.length=0
  ·rw [Qh hb]; exact nN ta (by omega)
  ·obtain ⟨h1,h2,h3,_⟩:=HC ta tb hb (by omega);have h3:=h3 s ba bb;have h4:(a.length+1-b.length)*(s+8)<=1*(s+8):=Qz _ (by omega);have h5:=hp b.length lb;have h6:(s+8)*1<=(s+8)*3^(b.length-1):=Zs _ (Zy (by decide));refine vS ta tb hb (by omega) (by omega) (Uk h3 (by omega)) (UD (s:=2*s+8) 65 b (Ht a b) tb h1 (by omega) h2 (by omega) (Uk bb (by omega)) (Uk h3 (by omega)) ?_);rw [show 2*s+8+8=2*(s+8) by omega,Xu]; omega
theorem DT:Uv []=[]:=rfl
theorem VD {a:W9} (ta:Uu a):Uu (Uv a)/\(Uv a).length=a.length/\(∀ s,Bd s a->Bd s (Uv a))/\∃ c:Rat,c≠0/\∀ t,Up a t=c*Up (Uv a) t:=by
 by_cases h:a.length=0
 ·rw [Qh h];exact ⟨rfl,rfl,λs _=>Eo,1,by decide,λt=>by rw [DT]; grind⟩
 ·obtain ⟨h1,h2,h3,h4,h5,h6,h7⟩:=Nh ta h;exact ⟨h1,h2,h5,_,On h6,h7⟩
theorem JI {n s:Nat} (hz:Szz n s) {a b:W9} (ta:Uu a) (tb:Uu b) (la:a.length<=n) (lb:b.length<=n) (ba:Bd s a) (bb:Bd s b) (h0:a.length≠0\/b.length≠0):∃ g,QY a b=some g/\Gc g a b/\Prm g/\0<U3 g:=by
 obtain ⟨a1,a2,a3,x,xn,ax⟩:=VD ta;obtain ⟨b1,b2,b3,y,yn,bx⟩:=VD tb;obtain ⟨g,e,hg⟩:=Qed hz a1 b1 (by omega) (by omega) (a3 s ba) (b3 s bb) (by omega);obtain ⟨g1,g2,g3,g4,g5,g6,g7⟩:=Nh hg.t hg.n;refine ⟨Uv g,?_,hg.scale (On g6) xn yn g1 g7 ax bx,g3,g4⟩;unfold QY; rw [e]; rfl
theorem lJ {a:W9} (ta:Uu a):QY [] a=some (Uv (Uv a)):=by
 unfold QY;rw [DT];by_cases h:(Uv a).length=0
 ·have e:Uv a=[]:=Qh h;rw [e]; rfl
 ·have e:Ht [] (Uv a)=[]:=by
   have e1:Sr [] (Uv a)=[]:=by unfold Sr; rw [show ([]:W9).length+1-(Uv a).length=0 by simp; omega]; rfl
   unfold Ht;rw [e1];unfold Mp
   split <;> rfl
  have:UC 66 [] (Uv a)=some (Uv a):=by
   show (if (Uv a).length=0 then _ else _)=_;rw [if_neg h,e]; rfl
  rw [this]; rfl
theorem Qa3 {n s:Nat} (hz:Szz n s) {a b:W9} (ta:Uu a) (tb:Uu b) (la:a.length<=n) (lb:b.length<=n) (ba:Bd s a) (bb:Bd s b) (h0:a.length≠0):∃ g,IU a b=some g/\Gc g a b/\Prm g/\0<U3 g:=by
 obtain ⟨a1,a2,a3,x,xn,ax⟩:=VD ta;obtain ⟨b1,b2,b3,y,yn,bx⟩:=VD a1;obtain ⟨g,e,hg,h1,h2⟩:=JI hz b1 tb (by omega) lb (b3 s (a3 s ba)) bb (by omega);refine ⟨g,?_,hg.scale (x:=1) (y:=x*y) (z:=1) (by decide) (λh=>(Yq.1 h).elim xn yn) (by decide) hg.t (λt=>by grind) (λt=>by rw [ax,bx]; grind) (λt=>by grind),h1,h2⟩;unfold IU;rw [lJ ta]; exact e
theorem nS:∀ {p q:Uc} {m n:Nat},HD p m->HD q n->(Gb p q).getD (m+n) 0=p.getD m 0*q.getD n 0
 | [],q,m,n,h,_=>absurd (by simp) h.1
 |
  a::p,q,0,n,h,h'=>by
  have h1:∀ k,p.getD k 0=0:=λk=>by have:=h.2 (k+1) (by omega); rwa [Q3] at this
  simp only [Gb];rw [Hf,Rq,Zn,Zt];cases n with
  | zero=>rw [Zn]; grind
  | succ n=>rw [Q3,FH h1]; grind
 |
  a::p,q,m+1,n,h,h'=>by
  have ih:=nS (p:=p) (q:=q) (m:=m) ⟨by have:=h.1; rwa [Q3] at this,λk hk=>by have:=h.2 (k+1) (by omega); rwa [Q3] at this⟩ h';simp only [Gb];rw [Hf,Rq,show m+1+n=(m+n)+1 by omega,Q3,h'.2 _ (by omega),ih,Q3]; grind
theorem xG {a b c:W9} (ta:Uu a) (tb:Uu b) (tc:Uu c) (h:∀ t,Up c t=Up a t*Up b t) (la:0<a.length) (lb:0<b.length):U3 c=U3 a*U3 b:=by
 have h1:=FG ta la;have h2:=FG tb lb;have h3:=nS h1 h2;have hl:=S7 ta tb tc h la lb;rw [<-Bw (p:=cz c) (λt=>by rw [Ut,Uq,Uq,Uq,h]),S5,S5,S5,show a.length-1+(b.length-1)=c.length-1 by omega] at h3;unfold U3; exact_mod_cast h3
theorem Hx {a b c:W9} (tc:Uu c) (hc:c.length≠0) (h:∀ t,Up c t=Up a t*Up b t):0<a.length/\0<b.length:=by
 constructor
 ·rcases Q6 a.length with e | e
  ·exact absurd (λt=>by rw [h,B5 e]; grind) (FY tc (by omega))
  ·exact e
 ·rcases Q6 b.length with e | e
  ·exact absurd (λt=>by rw [h,B5 e]; grind) (FY tc (by omega))
  ·exact e
theorem IW {b:W9} (tb:Uu b) (hb:b.length≠0):∀ (i:Nat) (a q h:W9),Uu a->Uu h->(∀ t,Up a t=Up b t*Up h t)->a.length<b.length+i->i<=q.length->(∀ j,j<i->q.getD j 0=0)->∃ q',IK b i a q=some q'/\q'.length=q.length/\∀ t,Up q' t=Up q t+Up h t
 |
  0,a,q,h,ta,th,e,hl,_,_=>by
  have ha:a.length=0:=by
   rcases Q6 a.length with e' | e'
   ·exact e'
   ·obtain ⟨p1,p2⟩:=Hx ta (by omega) e;have:=S7 tb th ta e p1 p2; omega
  refine ⟨q,by simp only [IK]; rw [if_pos ha],rfl,λt=>?_⟩;have:∀ t,Up h t=0:=λt=>by
   have:=wW (p:=cz b) (q:=cz h) (r:=[]) (λh0=>FY tb (by omega) λt=>by rw [<-Uq]; exact h0 t) (λt=>by rw [Uq,Uq,<-e,B5 ha]; simp only [ev]; grind) t;rwa [Uq] at this
  rw [this]; grind
 |
  i+1,a,q,h,ta,th,e,hl,hq,h0=>by
  simp only [IK];by_cases hlt:a.length<b.length+i
  ·rw [if_pos hlt];exact IW tb hb i a q h ta th e hlt (by omega) λj hj=>h0 j (by omega)
  ·rw [if_neg hlt];obtain ⟨p1,p2⟩:=Hx ta (by omega) e;have hln:=S7 tb th ta e p1 p2;have hld:=xG tb th ta e p1 p2;have hlb:=Du tb hb;rw [hld,if_pos (Int.mul_emod_right _ _),Yx _ hlb];have hli:h.length=i+1:=by omega
   have e2:∀ t,Up (Nt a (Fv (trim (mono i (U3 h))) b)) t=Up b t*Up (Nt h (mono i (U3 h))) t:=λt=>by
    rw [Pq,Pq,Fe,Ap,e]; grind
   have hl2:(Nt a (Fv (trim (mono i (U3 h))) b)).length<b.length+i:=by
    have hl:=pH (i:=i) (x:=U3 h) (b:=b) (a:=a);unfold sta at hl;have:=Qbp (p:=Nt a (Fv (trim (mono i (U3 h))) b)) (n:=b.length+i-1) (Fc _ _) (by omega) (by
     rw [Aw,pN,if_pos (by omega),show b.length+i-1-i=b.length-1 by omega,show b.length+i-1=a.length-1 by omega];have:U3 a=a.getD (a.length-1) 0:=rfl;rw [<-this,hld];unfold U3;rw [Kn,Int.sub_eq_zero])
    omega
   obtain ⟨q',h1,h2,h3⟩:=IW tb hb i _ (q.set i (U3 h)) (Nt h (mono i (U3 h))) (Fc _ _) (Fc _ _) e2 hl2 (by simp; omega) λj hj=>by
    rw [Qj,J9,if_neg (by omega),<-Qj];exact h0 j (by omega)
   refine ⟨q',h1,by rw [h2,Xd],λt=>?_⟩;rw [h3,IV q i _ t (by omega),h0 i (by omega),Pq,O9]
   push_cast; grind
theorem Qc8 {a b h:W9} {s:Nat} (ta:Uu a) (tb:Uu b) (th:Uu h) (ha:a.length≠0) (la:a.length<=10) (ba:Bd s a) (hs:s+69<=16777216) (e:∀ t,Up a t=Up b t*Up h t):QX a b=some h:=by
 obtain ⟨p1,p2⟩:=Hx ta ha e;have hln:=S7 tb th ta e p1 p2;obtain ⟨q,h1,h2,h3⟩:=IW tb (by omega) (a.length+1-b.length) a (List.replicate (a.length+1-b.length) 0) h ta th e (by omega) (by simp) λj _=>Lm _ _
 have h4:trim q=h:=mF (Rf _) th λt=>by rw [Ap,h3,DW]; grind
 unfold QX;rw [if_neg (by omega),h1];show BH (trim q)=_;rw [h4];exact Ld (by omega) (Uk (Oh ba la ta th tb ha λt=>by rw [e]; grind) (by omega))
structure Pr1 (p:List Int):Prop where
 t:Uu p
 m:Prm p
 l:0<U3 p
theorem Pr1.n {p:W9} (h:Pr1 p):p.length≠0:=λe=>by
 have:=h.l;rw [Qh e] at this;exact absurd this (by decide)
theorem Pr1.one {p:W9} (h:Pr1 p) (hl:p.length<2):p=[1]:=by
 have hn:=h.n;obtain ⟨c,rfl⟩:∃ c,p=[c]:=V9.1 (by omega);have h1:=h.m c λk=>by cases k <;> simp
 have h2:0<c:=h.l;have:=Int.le_of_dvd (by decide) h1;rw [show c=1 by omega]
theorem Qh7 {p g h:W9} (hp:Prm p) (e:∀ t,Up p t=Up g t*Up h t):Prm h:=λd hd=>by
 refine hp d λk=>?_
 have:=Cq (p:=p) (q:=Fv g h) (λt=>by rw [e,Fe]) k;rw [this];have e2:∀ t,Up (Fv g h) t=(d:Rat)*Up (Fv g (h.map (· / d))) t:=λt=>by
  have h1:Up h t=(d:Rat)*Up (h.map (· / d)) t:=by
   have:=Nf d 0 t (max h.length (h.map (· / d)).length) (h.map (· / d)) [] h (by omega) (by simp) (by omega) λk=>by
    rw [YA,Ko (hd k)]; simp
   rw [this]; simp only [Up]; push_cast; grind
  rw [Fe,Fe,h1]; grind
 have:=Cq (p:=Fv g h) (q:=Fh (Fv g (h.map (· / d))) d) (λt=>by rw [e2,Hg]; grind) k;rw [this,Sv]; exact Yw _ _
theorem Qh6 {p g h:W9} (hp:Pr1 p) (hg:0<U3 g) (tg:Uu g) (th:Uu h) (e:∀ t,Up p t=Up g t*Up h t):Pr1 h:=by
 obtain ⟨p1,p2⟩:=Hx hp.t hp.n e;have:=xG tg th hp.t e p1 p2;refine ⟨th,Qh7 hp.m e,?_⟩;have hl:=hp.l;rw [this] at hl;rcases Wd (U3 h) 0 with h1 | h1 | h1
 ·have:=Vw hg h1; omega
 ·rw [h1] at hl; omega
 ·exact h1
structure Sqp (p g q:List Int):Prop where
 pp:Pr1 p
 pg:Pr1 g
 pq:Pr1 q
 e:∀ t,Up p t=Up g t*Up q t
 c:∃ U V,∀ t,Up g t=ev U t*Up p t+ev V t*dv (cz p) t
 d:∃ z,∀ t,dv (cz p) t=Up g t*ev z t
theorem Sqp.num {p g q:W9} (h:Sqp p g q) {d:Uc} (h1:I9 d (cz q)) (h2:I9 d (Mg (cz q))):∃ c:Rat,c≠0/\∀ t,ev d t=c:=by
 obtain ⟨U,V,hc⟩:=h.c;have hpow:=sqf (k:=1) (a:=cz p) (g:=cz g) (q:=cz q) (d:=d) (U:=U) (V:=V) (by decide) (λt=>by rw [Uq,Uq,Uq,h.e]) (λt=>by rw [Uq,Uq,hc]; grind) h1 h2;rcases SC d with h3 | ⟨m,_,h3⟩
 ·obtain ⟨u,hu⟩:=h1;exact absurd (λt=>by rw [<-Uq,hu,h3]; grind) (FY h.pq.t (by have:=h.pq.n; omega))
 ·obtain rfl:=DG h3 (FG h.pg.t (by have:=h.pg.n; omega)) hpow;refine ⟨d.getD 0 0,h3.1,λt=>?_⟩;cases d with
  | nil=>exact absurd (by simp) h3.1
  |
   cons c l =>
   have:=Cd (p:=l) λk=>by have:=h3.2 (k+1) (by omega); rwa [Q3] at this
   simp only [ev,this,Zn]; grind
theorem Sqp.bez {p g q:W9} (h:Sqp p g q):∃ X Y,∀ t,ev X t*ev (cz q) t+ev Y t*dv (cz q) t=1:=by
 obtain ⟨d,U,V,h1,h2,h3⟩:=Qa2 (cz q) (Mg (cz q));obtain ⟨c,hc,hd⟩:=h.num h1 h2;refine ⟨B7 (1 / c) U,B7 (1 / c) V,λt=>?_⟩;have h5:=h3 t;rw [hd,H9] at h5;have h4:1 / c*c=1:=Zd hc;rw [Fp,Fp];have:1 / c*ev U t*ev (cz q) t+1 / c*ev V t*dv (cz q) t=1 / c*(ev U t*ev (cz q) t+ev V t*dv (cz q) t):=by grind
 rw [this,<-h5,h4]
theorem Qd7 {n s:Nat} (h:Szz n s):s<=8388600:=by
 have:2*(s+8)*1<=2*(s+8)*3^(n-1):=Zs _ (Zy (by decide));have:=h.2; omega
theorem kG {s:Nat} {p:W9} (h:Bd s p) (hl:p.length<=10):Bd (s+4) (Gj p):=rB h (t:=4) (by omega)
theorem nW {n s:Nat} (hz:Szz n (s+73)) {p:W9} (pp:Pr1 p) (l2:2<=p.length) (lp:p.length<=n) (bp:Bd (s+69) p) {p0 h0:W9} (b0:Bd s p0) (l0:p0.length<=10) (t0:Uu p0) (th0:Uu h0) (z0:p0.length≠0) (e0:∀ t,Up p0 t=Up h0 t*Up p t) :
 ∃ g q,BH (Gj p)=some (Gj p)/\QY p (Gj p)=some g/\QX p g=some q/\Sqp p g q/\g.length<p.length:=by
 have hn:=hz.1;have hs:=Qd7 hz;have bd:=kG bp (by omega);have ld:=Cg p;have td:Uu (Gj p):=Fc _ _;obtain ⟨g,e1,hg,m,l⟩:=JI hz pp.t td lp (by omega) (Uk bp (by omega)) bd (.inl pp.n);obtain ⟨q,tq,eq⟩:=Qav m hg.da;have hdnz:(Gj p).length≠0:=λh=>by
  have h1:=Mm p (p.length-2);rw [Qh h,show p.length-2+1=p.length-1 by omega] at h1;have h2:p.getD (p.length-1) 0≠0:=Hu pp.t (by omega);rcases J3.1 (h1.symm.trans (by simp)) with h3 | h3
  ·exact h2 h3
  ·omega
 have pg:Pr1 g:=⟨hg.t,m,l⟩;have hql:=Qc8 (s:=s+69) pp.t hg.t tq pp.n (by omega) bp (by omega) eq;refine ⟨g,q,Ld (by omega) (Uk bd (by omega)),e1,hql,⟨pp,pg,Qh6 pp l hg.t tq eq,eq,?_,?_⟩,?_⟩
 ·obtain ⟨U,V,hc⟩:=hg.c;exact ⟨U,V,λt=>by rw [hc,Ao]⟩
 ·obtain ⟨z,hz⟩:=hg.db;exact ⟨z,λt=>by rw [<-Ao,<-Uq,hz,Uq]⟩
 ·obtain ⟨z,tz,ez⟩:=Qav m hg.db;obtain ⟨q1,q2⟩:=Hx td hdnz ez;have:=S7 hg.t tz td ez q1 q2;omega
theorem Qhx:Sqp [1] [1] [1]:=by
 have p1:Pr1 [1]:=⟨rfl,λd hd=>by have:=hd 0; rwa [Zn] at this,by decide⟩;have e1:∀ t,Up [1] t=1:=λt=>by simp only [Up]; push_cast; grind
 exact ⟨p1,p1,p1,λt=>by rw [e1]; grind,⟨[1],[],λt=>by rw [e1,Hw]; simp only [ev]; grind⟩,⟨[],λt=>by simp only [cz,Zx,X8,dv,ev]; grind⟩⟩
structure Okp (n s:Nat) (p:List Int):Prop where
 z:Szz n (s+73)
 t:Uu p
 nz:p.length≠0
 l:p.length<=n
 b:Bd s p
theorem Okp.pr {n s:Nat} {p:W9} (h:Okp n s p):Pr1 (Uv p)/\(Uv p).length=p.length/\Bd s (Uv p):=by
 obtain ⟨h1,h2,h3,h4,h5,_⟩:=Nh h.t h.nz;exact ⟨⟨h1,h3,h4⟩,h2,h5 s h.b⟩
theorem ZR {n s:Nat} {p:W9} (h:Okp n s p):∃ g q,Ts p=some q/\Sqp (Uv p) g q:=by
 obtain ⟨pp,hl,hb⟩:=h.pr;have hn:=h.z.1;have:=h.l;unfold Ts;by_cases h2:(Uv p).length<2
 ·rw [if_pos h2,pp.one h2]; exact ⟨[1],[1],rfl,Qhx⟩
 ·rw [if_neg h2];obtain ⟨g,q,h3,h4,h5,h6,_⟩:=nW h.z pp (by omega) (by omega) (Uk hb (by omega)) (p0:=Uv p) (h0:=[1]) hb (by omega) pp.t rfl pp.n λt=>by simp only [Up]; push_cast; grind
  exact ⟨g,q,by rw [h3]; show (QY (Uv p) (Gj (Uv p))).bind _=_; rw [h4]; exact h5,h6⟩
inductive LW:List Int->List (List Int)->Prop
 | nil:LW [1] []
 | cons {g h w:List Int} {ws:List (List Int)} (hs:Sqp g h w) (hl:LW h ws):LW g (w::ws)
theorem Qm4 {g:W9} {ws:Ua} (h:LW g ws):∀ t,Up g t=ev (Am (ws.map cz)) t:=by
 induction h with
 | nil=>intro t; simp only [X8,Am,Up]; rw [Hw]; push_cast; grind
 | cons hs hl ih=>intro t; simp only [Zx,Am]; rw [Ut,Uq,hs.e,ih]; grind
theorem pM {g:W9} {w v:W9} {ws:Ua} (h:LW g (w::v::ws)):∃ f,Uu f/\∀ t,Up w t=Up f t*Up v t:=by
 cases h with
 |
  @cons _ h _ _ hs hl =>
  cases hl with
  |
   @cons _ h2 _ _ hs2 hl2 =>
   obtain ⟨X,Y,hb⟩:=hs2.bez;obtain ⟨z,hz⟩:=hs.d;have hd:=Qiv (a:=cz g) (g:=cz h) (q:=cz w) (z:=z) (r:=cz v) (X:=X) (Y:=Y) (n:=h.length-1) (λt=>by rw [Uq,Uq,Uq,hs.e]) (λt=>by rw [hz,Uq]) (FG hs.pg.t (by have:=hs.pg.n; omega)) hb
    ⟨Gb (cz h2) (cz w),λt=>by rw [Ut,Uq,Uq,Uq,Uq,hs.e,hs2.e]; grind⟩
   obtain ⟨f,tf,ef⟩:=Qav hs2.pq.m hd;exact ⟨f,tf,λt=>by rw [ef]; grind⟩
theorem xM {g w:W9} {ws:Ua} (h:LW g (w::ws)):∀ v∈w::ws,Pr1 v/\I9 (cz v) (cz w):=by
 have key:∀ (ws:Ua) (g w:W9),LW g (w::ws)->∀ v∈w::ws,Pr1 v/\I9 (cz v) (cz w):=by
  intro ws
  induction ws with
  |
   nil =>
   intro g w h v hv;rw [Ql.1 hv];cases h with
   | cons hs hl=>exact ⟨hs.pq,dvd_refl _⟩
  |
   cons u ws ih =>
   intro g w h v hv;have hn:=pM h;cases h with
   |
    @cons _ h _ _ hs hl =>
    rcases Qk.1 hv with rfl | hv
    ·exact ⟨hs.pq,dvd_refl _⟩
    ·obtain ⟨i1,i2⟩:=ih h u hl v hv;obtain ⟨f,_,hf⟩:=hn;exact ⟨i1,dvd_trans i2 ⟨cz f,λt=>by rw [Uq,Uq,Uq,hf]; grind⟩⟩
 exact key ws g w h
theorem lay_ok {n s:Nat} (hz:Szz n (s+73)) {p0:W9} (b0:Bd s p0) (l0:p0.length<=10) (t0:Uu p0) (z0:p0.length≠0):∀ (k:Nat) (g h0:W9),Pr1 g->g.length<=k->g.length<=n->Uu h0->(∀ t,Up p0 t=Up h0 t*Up g t)->∃ ws,WE k g=some ws/\LW g ws
 | 0,g,_,pg,hk,_,_,_=>absurd pg.n (by omega)
 |
  k+1,g,h0,pg,hk,hn,th0,e0=>by
  simp only [WE];by_cases h2:g.length<2
  ·rw [if_pos h2,pg.one h2]; exact ⟨[],rfl,.nil⟩
  ·rw [if_neg h2];have bg:Bd (s+69) g:=Oh b0 l0 t0 pg.t th0 z0 λt=>by rw [e0]; grind
   obtain ⟨h,w,h3,h4,h5,h6,h7⟩:=nW hz pg (by omega) hn bg b0 l0 t0 th0 z0 e0;obtain ⟨ws,i1,i2⟩:=lay_ok hz b0 l0 t0 z0 k h (Fv h0 w) h6.pg (by omega) (by omega) (G6 _ _) λt=>by rw [e0,Fe,h6.e]; grind
   refine ⟨w::ws,?_,.cons h6 i2⟩;rw [h3];show (QY g (Gj g)).bind _=_;rw [h4];show (QX g h).bind _=_;rw [h5];show (WE k h).bind _=_;rw [i1]; rfl
theorem Qap {s:Nat} {p0:W9} (b0:Bd s p0) (l0:p0.length≤10) (t0:Uu p0) (z0:p0.length≠0) (hs:s+69+69≤16777216):∀ (ws:Ua) (g h0:W9),LW g ws->Uu h0->(∀ t,Up p0 t=Up h0 t*Up g t)->∃ fs,NU ws=some fs/\Lay (ws.map cz) (fs.map cz)/\∀ f∈fs,Uu f
 | [],g,_,_,_,_=>⟨[],rfl,trivial,λf hf=>by cases hf⟩
 |
  [w],g,_,hl,_,_=>by
  cases hl with
  | cons hs hl=>exact ⟨[w],rfl,λt=>rfl,λf hf=>by rw [Ql.1 hf]; exact hs.pq.t⟩
 |
  w::v::ws,g,h0,hl,th0,e0=>by
  obtain ⟨f,tf,ef⟩:=pM hl;cases hl with
  |
   @cons _ h _ _ hs1 hl =>
   have hpv:=(xM hl v (Qx ..)).1;obtain ⟨fs,i1,i2,i3⟩:=Qap b0 l0 t0 z0 hs (v::ws) h (Fv h0 w) hl (G6 _ _) λt=>by rw [e0,Fe,hs1.e]; grind
   have ew:∀ t,Up p0 t=Up w t*Up (Fv h0 h) t:=λt=>by rw [e0,Fe,hs1.e]; grind
   have bw:Bd (s+69) w:=Oh b0 l0 t0 hs1.pq.t (G6 _ _) z0 ew;obtain ⟨p1,p2⟩:=Hx t0 z0 ew;have lw:=S7 hs1.pq.t (G6 _ _) t0 ew p1 p2;have hq:=Qc8 (s:=s+69) hs1.pq.t hpv.t tf hs1.pq.n (by omega) bw hs λt=>by rw [ef]; grind
   refine ⟨f::fs,?_,⟨λt=>by rw [Uq,Uq,Uq,ef],i2⟩,λx hx=>?_⟩
   ·show (QX w v).bind _=_;rw [hq];show (NU (v::ws)).bind _=_;rw [i1]; rfl
   ·rcases Qk.1 hx with rfl | hx
    ·exact tf
    ·exact i3 x hx
def Pp:Ua->W9
 | []=>[1]
 | [f]=>f
 | f::_::l=>Fv f (Pp l)
theorem jK:∀ (fs:Ua) (t:Rat),ev (GW (fs.map cz)) t=Up (Pp fs) t
 | [],t=>by simp only [X8,GW,Pp,Up]; rw [Hw]; push_cast; grind
 | [f],t=>by simp only [Zx,X8,GW,Pp]; rw [Uq]
 | f::g::l,t=>by simp only [Zx,GW,Pp]; rw [Ut,Uq,Fe,jK l]
theorem P5 (t:Rat):Up [1] t=1:=by simp only [Up]; push_cast; grind
theorem BO:∀ {w:W9} {ws fs:Ua},Lay ((w::ws).map cz) (fs.map cz)->(∀ f∈fs,Uu f)->(∀ v∈w::ws,Uu v)->∃ E,Uu E/\∀ t,Up w t=Up (Pp fs) t*Up E t
 |
  w,[],[f],h,_,_=>⟨[1],rfl,λt=>by
  have:=h t;rw [Uq,Uq] at this;rw [this,P5]; simp only [Pp]; grind⟩
 |
  w,[v],[f,f2],h,_,hw=>⟨v,hw v (by simp),λt=>by
  have:=h.1 t;rw [Uq,Uq,Uq] at this;rw [this]; simp only [Pp]; rw [Fe,P5]; grind⟩
 |
  w,v::x::l,f::f2::fs,h,hf,hw=>by
  obtain ⟨E,hE,e⟩:=BO (w:=x) (ws:=l) (fs:=fs) h.2.2 (λg hg=>hf g (by simp [hg])) (λg hg=>hw g (by simp at hg ⊢; exact .inr (.inr hg)));refine ⟨Fv f2 E,G6 _ _,λt=>?_⟩;have a1:=h.1 t;have a2:=h.2.1 t;rw [Uq,Uq,Uq] at a1 a2;have e2:Up (Pp (f::f2::fs)) t=Up f t*Up (Pp fs) t:=by simp only [Pp]; rw [Fe]
  rw [a1,a2,e,e2,Fe]; grind
 | w,[],[],h,_,_=>h.elim
 | w,[],_::_::_,h,_,_=>h.elim
 | w,[v],[],h,_,_=>h.elim
 | w,[v],[f],h,_,_=>h.2.elim
 | w,[v],_::_::_::_,h,_,_=>h.2.elim
 | w,v::x::l,[f],h,_,_=>h.2.elim
 | w,v::x::l,[],h,_,_=>h.elim
theorem ZY {s:Nat} {p0:W9} (b0:Bd s p0) (l0:p0.length≤10) (t0:Uu p0) (z0:p0.length≠0) (hs:s+69≤16777216):∀ (fs:Ua) (i:Nat) (a E:W9),i % 2=0->Uu a->Uu E->(∀ f∈fs,Uu f)->(∀ t,Up p0 t=Up a t*Up (Pp fs) t*Up E t)->∃ o,VT i a fs=some o/\Uu o/\∀ t,Up o t=Up a t*Up (Pp fs) t
 | [],i,a,E,hi,ta,_,_,_=>⟨a,rfl,ta,λt=>by simp only [Pp]; rw [P5]; grind⟩
 |
  [f],i,a,E,hi,ta,tE,tf,hE=>by
  have e1:∀ t,Up p0 t=Up (Fv a f) t*Up E t:=λt=>by rw [hE,Fe]; rfl
  have b1:=Oh b0 l0 t0 (G6 a f) tE z0 e1;obtain ⟨p1,p2⟩:=Hx t0 z0 e1;have hl:=S7 (G6 a f) tE t0 e1 p1 p2;refine ⟨Fv a f,?_,G6 _ _,λt=>by rw [Fe]; rfl⟩;simp only [VT];rw [if_pos hi,Ld (by omega) (Uk b1 (by omega))]; rfl
 |
  f::g::fs,i,a,E,hi,ta,tE,tf,hE=>by
  have e0:∀ t,Up (Pp (f::g::fs)) t=Up f t*Up (Pp fs) t:=λt=>by simp only [Pp]; rw [Fe]
  have e1:∀ t,Up p0 t=Up (Fv a f) t*Up (Fv (Pp fs) E) t:=λt=>by rw [hE,e0,Fe,Fe]; grind
  have b1:=Oh b0 l0 t0 (G6 a f) (G6 _ _) z0 e1;obtain ⟨p1,p2⟩:=Hx t0 z0 e1;have hl:=S7 (G6 a f) (G6 _ _) t0 e1 p1 p2;obtain ⟨o,o1,o2,o3⟩:=ZY b0 l0 t0 z0 hs fs (i+2) (Fv a f) E (by omega) (G6 _ _) tE (λx hx=>tf x (by simp [hx])) λt=>by rw [hE,e0,Fe]; grind
  refine ⟨o,?_,o2,λt=>by rw [o3,e0,Fe]; grind⟩;have h1:VT (i+1) (Fv a f) (g::fs)=VT (i+2) (Fv a f) fs:=by
   show (if (i+1) % 2=0 then _ else _)=_;rw [if_neg (by omega)]
  show (if i % 2=0 then (BH (Fv a f)).bind λq=>VT (i+1) q (g::fs) else _)=_;rw [if_pos hi,Ld (by omega) (Uk b1 (by omega))];exact h1.trans o1
structure Parts (p q o:List Int):Prop where
 sq:∃ g,Sqp (Uv p) g q
 ws:∃ ws:List (List Int),(∀ w∈ws,Pr1 w/\I9 (cz w) (cz q))/\∀ t,Up (Uv p) t=ev (Am (ws.map cz)) t
 oq:I9 (cz o) (cz q)
 ot:Uu o
 oh:∃ h,Uu h/\∀ t,Up (Uv p) t=Up o t*Up h t
 os:∃ S,∀ t,Up (Uv p) t=Up o t*(ev S t*ev S t)
theorem Qcg {n s:Nat} {p:W9} (h:Okp n s p):∃ q o,Ts p=some q/\fJ p=some o/\Parts p q o:=by
 obtain ⟨pp,hl,hb⟩:=h.pr;have hn:=h.z.1;have hpl:=h.l;have hs:=Qd7 h.z;obtain ⟨g,q,hq,sq⟩:=ZR h;obtain ⟨ws,w1,w2⟩:=lay_ok h.z hb (by omega) pp.t pp.n 66 (Uv p) [1] pp (by omega) (by omega) rfl λt=>by rw [P5]; grind
 obtain ⟨fs,f1,f2,f3⟩:=Qap hb (by omega) pp.t pp.n (by omega) ws (Uv p) [1] w2 rfl λt=>by rw [P5]; grind
 have hw:=Qm4 w2;have hfirst:(∀ w∈ws,Pr1 w/\I9 (cz w) (cz q))/\∃ E,Uu E/\∀ t,Up q t=Up (Pp fs) t*Up E t:=by
  cases ws with
  |
   nil =>
   have e:fs=[]:=by
    cases fs with
    | nil=>rfl
    | cons f l=>exact f2.elim
   subst e;exact ⟨(λw hw=>by cases hw),q,sq.pq.t,λt=>by simp only [Pp]; rw [P5]; grind⟩
  |
   cons w ws =>
   have hwq:w=q:=by
    have w3:(if (Uv p).length<2 then some [] else (BH (Gj (Uv p))).bind λd=>(QY (Uv p) d).bind λh=>(QX (Uv p) h).bind λw=>(WE 65 h).bind λl=>some (w::l))=some (w::ws):=w1;have hlen:¬(Uv p).length<2:=λh2=>by
     rw [if_pos h2] at w3;injection w3 with w3;cases w3
    rw [if_neg hlen] at w3;unfold Ts at hq;rw [if_neg hlen] at hq;obtain ⟨d,d1,w3⟩:=Qc.1 w3;obtain ⟨h,d2,w3⟩:=Qc.1 w3;obtain ⟨w',d3,w3⟩:=Qc.1 w3;obtain ⟨l,d4,w3⟩:=Qc.1 w3;rw [d1] at hq;have hq:(QY (Uv p) d).bind (λg=>QX (Uv p) g)=some q:=hq;rw [d2] at hq;have hq:QX (Uv p) h=some q:=hq;rw [d3] at hq;injection hq with hq;injection w3 with w3;injection w3 with w3 _;rw [<-w3,hq]
   subst hwq;have hall:=xM w2;exact ⟨hall,BO f2 f3 λv hv=>(hall v hv).1.t⟩
 obtain ⟨ha,E,tE,hE⟩:=hfirst;obtain ⟨o,o1,o2,o3⟩:=ZY hb (by omega) pp.t pp.n (by omega) fs 0 [1] (Fv E g) rfl rfl (G6 _ _) f3 λt=>by rw [P5,Fe,sq.e,hE]; grind
 have o3:∀ t,Up o t=Up (Pp fs) t:=λt=>by rw [o3,P5]; grind
 refine ⟨q,o,hq,?_,⟨g,sq⟩,⟨ws,ha,hw⟩,⟨cz E,λt=>by rw [Uq,Uq,Uq,hE,o3]⟩,o2,⟨Fv E g,G6 _ _,λt=>by rw [sq.e,hE,o3,Fe]; grind⟩,?_⟩
 ·unfold fJ;rw [if_neg pp.n,w1];show (NU ws).bind _=_;rw [f1]; exact o1
 ·obtain ⟨S,hS⟩:=pU f2;exact ⟨S,λt=>by rw [hw,hS,jK,o3]⟩
theorem tN {s:Nat}:∀ (k:Nat) (a b:W9),Uu a->Uu b->b.length≠0->b.length<k->b.length<a.length->a.length<=60->Bd s a->Bd s b->(s+8)*3^(a.length-1)<=16777216->(∀ d,I9 d (cz a)->I9 d (cz b)->∃ c:Rat,c≠0/\∀ t,ev d t=c)->∃ l,vA k a b=some (b::l)/\SCl (cz a) (cz b) (l.map cz)
 | 0,_,_,_,_,_,h,_,_,_,_,_,_=>by omega
 |
  k+1,a,b,ta,tb,hb,hk,hab,hl,ba,bb,hs,hd=>by
  obtain ⟨h1,h2,h3,u,v,up,vp,X,hX⟩:=HC ta tb hb hl;have h3:=h3 s ba bb;obtain ⟨m,hm⟩:=nmE (a.length-b.length);have e1:a.length+1-b.length=m+1:=by omega
  rw [e1] at h3;have e2:s+(m+1)*(s+8)+8=(m+2)*(s+8):=by
   rw [show m+2=(m+1)+1 by omega,Z6 (m+1)]; omega
  have e3:(m+2)*(s+8)*3^(b.length-1)<=(s+8)*3^(a.length-1):=by
   rw [show a.length-1=m+(b.length-1) by omega,Xc,<-Xu,Zo (s+8)];exact Qz _ (Qz _ (Qni m (by omega)))
  have e4:s+(m+1)*(s+8)<=16777216:=by
   have:(m+2)*(s+8)<=(m+2)*(s+8)*3^(b.length-1):=Yf _ (Zy (by decide));omega
  simp only [vA];rw [if_neg hb,Ld (by omega) (Uk h3 e4)];show ∃ l,((vA k b (Db (Ht a b))).bind λl=>some (b::l))=some (b::l)/\_;have lneg:(Db (Ht a b)).length<=(Ht a b).length:=PK _;by_cases hr:(Ht a b).length=0
  ·have e:Db (Ht a b)=[]:=Qh (by omega);rw [e];refine ⟨[],?_,?_⟩
   ·obtain ⟨j,rfl⟩:∃ j,k=j+1:=⟨k-1,by omega⟩;rfl
   ·obtain ⟨c,hc,hcc⟩:=hd (cz b) ⟨B7 (1 / u) X,λt=>by
     have:=hX t;rw [B5 hr] at this;have hu:1 / u*u=1:=Gi up;rw [Uq,Uq,Fp];have:Up a t=1 / u*(u*Up a t):=by grind
     rw [this,hX,B5 hr]; grind⟩ (dvd_refl _)
    exact .base hc hcc
  ·have tn:Uu (Db (Ht a b)):=Fc _ _;have hn0:(Db (Ht a b)).length≠0:=λh0=>by
    have:=Io (c:=-1) h1 tn (by decide) λt=>by rw [VM]; grind
    omega
   obtain ⟨l,i1,i2⟩:=tN (s:=s+(m+1)*(s+8)) k b (Db (Ht a b)) tb tn hn0 (by omega) (by omega) (by omega) (Uk bb (by omega)) (LA h3) (by rw [e2]; omega) λd d1 d2=>by
    refine hd d ?_ d1;obtain ⟨y,hy⟩:=d1;obtain ⟨z,hz⟩:=d2;have hu:1 / u*u=1:=Gi up;refine ⟨B7 (1 / u) (Ru (Gb X y) (B7 (-v) z)),λt=>?_⟩;have a1:=hX t; have a2:=hy t; have a3:=hz t;rw [Uq] at a2 a3;rw [VM] at a3;rw [Uq,Fp,Fz,Ut,Fp];have:Up a t=1 / u*(u*Up a t):=by grind
    rw [this,a1,a2,show Up (Ht a b) t=-(ev d t*ev z t) by grind]; grind
   refine ⟨Db (Ht a b)::l,by rw [i1]; rfl,?_⟩;rw [Zx];exact .step (q:=X) up vp (λt=>by rw [Uq,Uq,Uq,hX,VM]; clear i2 i1 hd h3 hs; grind) i2
theorem JA (x:Rat):∀ (l:Ua) (n:Nat) (s:Int),(l.foldl (Tw λp=>Ha p x) (n,s)).1=n+tc x s (l.map cz)
 | [],n,s=>rfl
 |
  p::l,n,s=>by
  simp only [Z4,Zx,tc,Tw];rw [Pv,Uq]
  split
  ·exact JA x l n s
  ·rw [JA x l]
   split <;> omega
theorem Iv (l:Ua) (x:Rat):Np l x=vv (l.map cz) x:=by
 have:=JA x l 0 0;unfold Np No vv;rw [this]; omega
theorem oQ {n s:Nat} (hz:Szz n (s+73)) {P g q:W9} (sq:Sqp P g q) (lq:q.length<=n) (bq:Bd (s+69) q):∃ d,BH (Gj q)=some d/\∃ l,vA 66 q (Uv d)=some l/\KC (cz q) ((q::l).map cz)/\(q.length<2->l=[]):=by
 have hn:=hz.1;have hs:=Qd7 hz;have bd:=kG bq (by omega);have ld:=Cg q;refine ⟨Gj q,Ld (by omega) (Uk bd (by omega)),?_⟩;have hq0:=sq.pq.n;by_cases h2:q.length<2
 ·have e:Uv (Gj q)=[]:=by rw [Qh (l:=Gj q) (by omega)]; rfl
  rw [e];refine ⟨[],rfl,.inl ⟨1,by decide,λt=>?_,rfl⟩,λ_=>rfl⟩;rw [Uq,sq.pq.one h2,P5]
 ·have hdnz:(Gj q).length≠0:=λh=>by
   have h1:=Mm q (q.length-2);rw [Qh h,show q.length-2+1=q.length-1 by omega] at h1;have h3:q.getD (q.length-1) 0≠0:=Hu sq.pq.t (by omega);rcases J3.1 (h1.symm.trans (by simp)) with h4 | h4
   ·exact h3 h4
   ·omega
  obtain ⟨p1,p2,p3,p4,p5,p6,p7⟩:=Nh (p:=Gj q) (Fc _ _) hdnz;have hdl:U3 (Gj q)=U3 q*((q.length-1:Nat):Int):=by
   have hld:(Gj q).length=q.length-1:=by
    rcases Zc (Gj q).length (q.length-1) with h | h
    ·have h1:=Mm q (q.length-2);rw [Qj,Q0 (by omega),show q.length-2+1=q.length-1 by omega] at h1;have h3:q.getD (q.length-1) 0≠0:=Hu sq.pq.t (by omega);rcases J3.1 (h1.symm.trans (by simp)) with h4 | h4
     ·exact absurd h4 h3
     ·omega
    ·omega
   unfold U3;rw [hld,Mm,show q.length-1-1+1=q.length-1 by omega]
  have hfac:0<Gs (Gj q):=by
   have hlp:0<U3 (Gj q):=by rw [hdl]; exact Int.mul_pos sq.pq.l (by omega)
   have hc:=O8 (p:=Gj q) (Fc _ _) hdnz;unfold Gs;rw [if_neg (by omega)];unfold Tq at hc ⊢; omega
  have hfq:((0:Int):Rat)<(Gs (Gj q):Rat):=Jf.2 hfac;have hfq:(0:Rat)<(Gs (Gj q):Rat):=by simpa using hfq
  have hff:1 / (Gs (Gj q):Rat)*(Gs (Gj q):Rat)=1:=Gi hfq;have hz2:=hz.2;have hp3:(s+73+8)*3^(q.length-1)<=16777216:=by
   have:(s+73+8)*3^(q.length-1)<=(s+73+8)*3^(n-1):=Zs _ (Zr (by decide) (by omega));rw [Xu] at hz2; omega
  obtain ⟨l,h3,h4⟩:=tN (s:=s+73) 66 q (Uv (Gj q)) sq.pq.t p1 (by omega) (by omega) (by omega) (by omega) (Uk bq (by omega)) (p5 _ bd) hp3 λd d1 d2=>sq.num d1 (by
   obtain ⟨z,hz⟩:=d2;exact ⟨B7 (Gs (Gj q)) z,λt=>by
    have:=hz t;rw [Uq] at this;rw [H9,<-Ao,p7,this,Fp]; grind⟩)
  refine ⟨Uv (Gj q)::l,h3,.inr ⟨cz (Uv (Gj q)),l.map cz,1 / (Gs (Gj q):Rat),Lh (by decide) hfq,λt=>?_,h4,rfl⟩,λh=>absurd h h2⟩;rw [Uq,<-Ao,p7 t]; grind
theorem chain_ok {n s:Nat} {p:W9} (h:Okp n s p):∃ q l,Ts p=some q/\Dh p=some (q::l)/\KC (cz q) ((q::l).map cz)/\(q.length<2->l=[]):=by
 obtain ⟨pp,hl,hb⟩:=h.pr;have hn:=h.z.1;have hpl:=h.l;obtain ⟨g,q,hq,sq⟩:=ZR h;have e1:∀ t,Up (Uv p) t=Up q t*Up g t:=λt=>by rw [sq.e]; grind
 obtain ⟨p1,p2⟩:=Hx pp.t pp.n e1;have hll:=S7 sq.pq.t sq.pg.t pp.t e1 p1 p2;obtain ⟨d,d1,l,d2,d3⟩:=oQ h.z sq (by omega) (Oh hb (by omega) pp.t sq.pq.t sq.pg.t pp.n e1);refine ⟨q,l,hq,?_,d3⟩;unfold Dh;rw [hq];show (if q.length=0 then none else _)=_;rw [if_neg sq.pq.n,d1];show (vA 66 q (Uv d)).bind _=_;rw [d2]; rfl
structure Gr (D M k:Nat) (q:Rat):Prop where
 u:∃ u:Int,q*((D*2^k:Nat):Rat)=(u:Rat)
 b:Uw q<=(M:Rat)
 d:0<D
theorem nat_pos {n:Nat} (h:0<n):(0:Rat)<(n:Rat):=by
 have:((0:Nat):Rat)<(n:Rat):=Vd.2 h;simpa using this
theorem CP {D M k:Nat} {q:Rat} (h:Gr D M k q):Gr D M (k+1) q:=by
 obtain ⟨u,hu⟩:=h.u;refine ⟨⟨u*2,?_⟩,h.b,h.d⟩;rw [Zq,<-Xu]
 push_cast at hu ⊢
 rw [<-hu]; grind
theorem Qa9 {D M k:Nat} {a b:Rat} (ha:Gr D M k a) (hb:Gr D M k b):Gr D M (k+1) ((a+b) / 2):=by
 obtain ⟨u,hu⟩:=ha.u;obtain ⟨v,hv⟩:=hb.u;have h2:(a+b) / 2*2=a+b:=Gi (by decide);refine ⟨⟨u+v,?_⟩,?_,ha.d⟩
 ·rw [Zq,<-Xu]
  push_cast at hu hv ⊢
  rw [<-hu,<-hv];generalize (a+b) / 2=c at *;generalize (D:Rat)*2^k=z at *;have:c*(z*2)=(c*2)*z:=by grind
  rw [this,h2]; grind
 ·have h3:=ha.b;have h4:=hb.b;rw [Sx] at *;constructor <;> grind
theorem Qmr {D M k:Nat} {q:Rat} (h:Gr D M k q):q.den<=D*2^k:=by
 obtain ⟨u,hu⟩:=h.u;have hp:0<D*2^k:=Yl h.d (Zy (by decide));have e:q=Rat.divInt u ((D*2^k:Nat):Int):=by
  rw [<-G9,<-hu];have hz:=nat_pos hp;rw [show ((((D*2^k:Nat):Int)):Rat)=((D*2^k:Nat):Rat) from rfl];rw [J1];have:=Wa ((D*2^k:Nat):Rat) (by grind);generalize ((D*2^k:Nat):Rat)=z at *;have:q*z*z⁻¹=q*(z*z⁻¹):=by grind
  rw [this,‹z*z⁻¹=1›]; grind
 rw [e,K0,if_neg (by omega),Xk];exact Jr _ _
theorem PQ {a b k:Nat} {z:Int} (h:z.natAbs<=a*(b*2^k)):U0 z<=U0 (a:Int)+U0 (b:Int)+k:=by
 have h1:U0 (a:Int)<=U0 (a:Int):=Qn _;have h2:U0 (b:Int)<=U0 (b:Int):=Qn _;rw [M8] at h1 h2 ⊢;rw [Xk] at h1 h2;rw [Xc,Xc];have h3:a*b<2^U0 (a:Int)*2^U0 (b:Int):=Nat.mul_lt_mul_of_lt_of_le h1 (J7 h2) (Zy (by decide));have h4:=Xl h3 (show 0<2^k from Zy (by decide));rw [<-Xu] at h; omega
theorem CS {D M k B:Nat} {q:Rat} (h:Gr D M k q) (hM:0<M) (hs:U0 (D:Int)+U0 (M:Int)+k<=B):Qs B q:=by
 have hd:=Qmr h;have hden:=nat_pos q.den_pos;have h1:(q.num.natAbs:Rat)<=((M*(D*2^k):Nat):Rat):=by
  have e:(q.num:Rat)=q*(q.den:Rat):=by
   have:(q.num:Rat) / (((q.den:Int)):Rat)=q:=by rw [G9,X2]
   have h2:(q.num:Rat) / (q.den:Rat)*(q.den:Rat)=q.num:=Zd (by grind);rw [show (q.num:Rat) / (q.den:Rat)=q from this] at h2; exact h2.symm
  rw [<-Ry,e];have h3:=Gh (x:=q) (y:=(q.den:Rat)) (b:=((D*2^k:Nat):Rat)) h.b (by
   have:Uw (q.den:Rat)=(q.den:Rat):=by unfold Uw; rw [if_neg (by grind)]
   rw [this]; exact Zh.2 hd)
  push_cast at h3 ⊢; exact h3
 have h1:=Zh.1 h1;refine ⟨?_,?_⟩
 ·have:=PQ (z:=q.num) h1; omega
 ·have:=PQ (z:=(q.den:Int)) (a:=M) (b:=D) (k:=k) (by
   rw [Xk];exact Qd hd (Nat.le_mul_of_pos_left _ hM))
  omega
theorem uM (a b:Rat):mid a b=(a+b) / 2:=by
 unfold mid;rw [<-G9];have ha:(a.num:Rat)=a*(a.den:Rat):=by
  have:(a.num:Rat) / (((a.den:Int)):Rat)=a:=by rw [G9,X2]
  have h2:(a.num:Rat) / (a.den:Rat)*(a.den:Rat)=a.num:=Zd (by have:=nat_pos a.den_pos; grind);rw [show (a.num:Rat) / (a.den:Rat)=a from this] at h2; exact h2.symm
 have hb:(b.num:Rat)=b*(b.den:Rat):=by
  have:(b.num:Rat) / (((b.den:Int)):Rat)=b:=by rw [G9,X2]
  have h2:(b.num:Rat) / (b.den:Rat)*(b.den:Rat)=b.num:=Zd (by have:=nat_pos b.den_pos; grind);rw [show (b.num:Rat) / (b.den:Rat)=b from this] at h2; exact h2.symm
 have pa:=nat_pos a.den_pos;have pb:=nat_pos b.den_pos;rw [Ws,Js,Js,Js,Js,ha,hb];rw [show (((a.den:Int)):Rat)=(a.den:Rat) from rfl,show (((b.den:Int)):Rat)=(b.den:Rat) from rfl,show (((2:Int)):Rat)=2 from rfl];generalize (a.den:Rat)=x at *;generalize (b.den:Rat)=y at *;have hxy:=Ev (Ev pa pb) (show (0:Rat)<2 by decide);have h1:(a*x*y+b*y*x) / (x*y*2)*(x*y*2)=a*x*y+b*y*x:=Gi hxy;have h2:(a+b) / 2*2=a+b:=Gi (by decide);generalize (a*x*y+b*y*x) / (x*y*2)=c at *;generalize (a+b) / 2=d at *;have h3:(x*y*2)*(c-d)=0:=by grind
 rcases Yq.1 h3 with h4 | h4 <;> grind
theorem HE (a b:Rat):MR a b=a-b:=by
 unfold MR;rw [Rat.sub_def',<-Rat.divInt_ofNat]
 push_cast; rfl
theorem tI {a b:Rat}:Gm a b=0↔a=b:=by
 constructor
 ·intro h;have h1:¬a<b:=λh'=>by have:=P0.2 h'; omega
  have h2:¬b<a:=λh'=>by have:=Ds.2 h'; omega
  grind
 ·intro h; subst h; exact D3 a
theorem GI {a b:Rat}:Gm a b<=0↔a<=b:=by
 constructor
 ·intro h;have h2:¬b<a:=λh'=>by have:=Ds.2 h'; omega
  grind
 ·intro h;have h2:¬0<Gm a b:=λh'=>by have:=Ds.1 h'; grind
  omega
theorem GA {a b:Rat}:0<=Gm a b↔b<=a:=by
 constructor
 ·intro h;have h2:¬a<b:=λh'=>by have:=P0.2 h'; omega
  grind
 ·intro h;have h2:¬Gm a b<0:=λh'=>by have:=P0.1 h'; grind
  omega
theorem M6 (a b:Rat):Gm a b=1/\b<a\/Gm a b=0/\a=b\/Gm a b=-1/\a<b:=by
 have hb:=If a b;rcases (show Gm a b=1\/Gm a b=0\/Gm a b=-1 by omega) with h | h | h
 ·exact .inl ⟨h,Ds.1 (by omega)⟩
 ·exact .inr (.inl ⟨h,tI.1 h⟩)
 ·exact .inr (.inr ⟨h,P0.1 (by omega)⟩)
theorem xP (p:W9) (x:Rat):low p x=Tu (cz p) x:=by
 unfold low Tu;rw [Pv,Pv,Uq,Ao]
theorem M7 {t:Tm} (h:t.lo<t.hi) (q:Rat):Uz t q=cq (cz t.p) t.lo t.hi q:=by
 have hp:t.point=false:=by
  unfold Tm.point;have:¬0<=Gm t.lo t.hi:=λh'=>by have:=GA.1 h'; grind
  simp [this]
 unfold Uz cq;rw [hp,if_neg (by decide)];have e1:(Gm q t.lo<=0)=(q<=t.lo):=propext GI;have e2:(0<Gm q t.hi)=(t.hi<q):=propext Ds;rw [Pv,xP,<-Uq];simp only [e1,e2]
theorem S8 {t:Tm}:t.point=true↔t.hi<=t.lo:=by
 unfold Tm.point;rw [decide_eq_true_iff]; exact GA
theorem Ee {t:Tm} (h:t.lo=t.hi) (q:Rat):Uz t q=Gm t.lo q:=by
 have hp:t.point=true:=S8.2 (by rw [h]; exact Qo);unfold Uz; rw [if_pos hp]
theorem Ql9 {c:Rat->Int} {x:Rat} (h:∀ q,c q=Gm x q):Cut c where
 val q:=by rw [h]; have:=If x q; omega
 mono q r hqr h1:=by
  rw [h] at h1 ⊢;rcases M6 x q with ⟨e,e'⟩ | ⟨e,e'⟩ | ⟨e,e'⟩
  ·exact absurd e h1
  ·rcases M6 x r with ⟨f,f'⟩ | ⟨f,f'⟩ | ⟨f,f'⟩ <;> grind
  ·rcases M6 x r with ⟨f,f'⟩ | ⟨f,f'⟩ | ⟨f,f'⟩ <;> grind
 up q h1:=by
  rw [h] at h1;have h2:=Ds.1 (show 0<Gm x q by omega);have h3:(x+q) / 2*2=x+q:=Gi (by decide);have h4:=Ds.2 (show (x+q) / 2<x by grind);have:=If x ((x+q) / 2);exact ⟨(x+q) / 2,by grind,by rw [h]; omega⟩
 dn q h1:=by
  rw [h] at h1;have h2:=P0.1 (show Gm x q<0 by omega);have h3:(x+q) / 2*2=x+q:=Gi (by decide);have h4:=P0.2 (show x<(x+q) / 2 by grind);have:=If x ((x+q) / 2);exact ⟨(x+q) / 2,by grind,by rw [h]; omega⟩
 lo:=⟨x-1,by
  rw [h];have h4:=Ds.2 (show x-1<x by grind);have:=If x (x-1); omega⟩
 hi:=⟨x+1,by
  rw [h];have h4:=P0.2 (show x<x+1 by grind);have:=If x (x+1); omega⟩
def lim (t:Tm):Nat:=if t.point=true then 3300000 else 1000000
theorem AM {t:Tm} (h:t.point=false):lim t=1000000:=by simp [lim,h]
theorem Qmx (t:Tm):1000000<=lim t:=by unfold lim; split <;> omega
theorem Qmy (t:Tm):lim t<=3300000:=by unfold lim; split <;> omega
structure Va (t:Tm):Prop where
 i:t.lo=t.hi/\Up t.p t.lo=0\/∃ L,Vt (cz t.p) L t.lo t.hi
 tr:Uu t.p
 n:t.p.length<=9
 n2:2<=t.p.length
 b:Bd 3300000 t.p
 bi:t.point=false->Bd 1260 t.p
 sc:t.point=false->∃ (l:List (List Int)) (P g:List Int),vA 66 t.p (Uv (Gj t.p))=some l/\Sqp P g t.p/\Vt (cz t.p) ((t.p::l).map cz) t.lo t.hi
 g:∃ D M k,Gr D M k t.lo/\Gr D M k t.hi/\0<M/\U0 (D:Int)+U0 (M:Int)+k<=lim t
theorem Va.le {t:Tm} (h:Va t):t.lo<=t.hi:=by
 rcases h.i with ⟨e,_⟩ | ⟨L,V⟩
 ·rw [e]; exact Qo
 ·exact Qq V.l
theorem Va.pt {t:Tm} (h:Va t) (hp:t.point=true):t.lo=t.hi/\Up t.p t.lo=0:=by
 rcases h.i with e | ⟨L,V⟩
 ·exact e
 ·have:=S8.1 hp;have:=V.l;grind
theorem Va.iv {t:Tm} (h:Va t) (hp:t.point=false):∃ L,Vt (cz t.p) L t.lo t.hi:=by
 rcases h.i with ⟨e,_⟩ | h
 ·have:=S8.2 (show t.hi<=t.lo by rw [e]; exact Qo);rw [hp] at this; cases this
 ·exact h
theorem Va.cut {t:Tm} (h:Va t):Cut (Uz t):=by
 rcases h.i with ⟨e,_⟩ | ⟨L,V⟩
 ·exact Ql9 (x:=t.lo) λq=>Ee e q
 ·have:Uz t=cq (cz t.p) t.lo t.hi:=funext λq=>M7 V.l q
  rw [this]; exact V.cut
theorem Qob {c:Rat->Int} (hc:Cut c) {p:Uc} {x:Rat} (h:c x=0) (h0:ev p x=0):E8 p c:=by
 rcases QS hc p with h1 | ⟨s,hs,h1⟩
 ·exact h1
 ·have:=jV hc h h1;rw [Fj.2 h0] at this; exact absurd this.symm hs
theorem Va.van {t:Tm} (h:Va t):E8 (cz t.p) (Uz t):=by
 have hc:=h.cut;rcases h.i with ⟨e,h0⟩ | ⟨L,V⟩
 ·exact Qob hc (x:=t.lo) (by rw [Ee e,D3]) (by rw [Uq]; exact h0)
 ·have:Uz t=cq (cz t.p) t.lo t.hi:=funext λq=>M7 V.l q
  rw [this]; exact V.van
theorem Va.qs {t:Tm} (h:Va t):Qs 3300000 t.lo/\Qs 3300000 t.hi:=by
 obtain ⟨D,M,k,h1,h2,h3,h4⟩:=h.g;have h4:=Qd h4 (Qmy t);exact ⟨CS h1 h3 h4,CS h2 h3 h4⟩
theorem Va.qsn {t:Tm} (h:Va t) (hp:t.point=false):Qs 1000000 t.lo/\Qs 1000000 t.hi:=by
 obtain ⟨D,M,k,h1,h2,h3,h4⟩:=h.g;rw [AM hp] at h4;exact ⟨CS h1 h3 h4,CS h2 h3 h4⟩
theorem Va.tb {t:Tm} (h:Va t):Tb t:=⟨⟨h.tr,by have:=h.n; omega,Uk h.b (by omega)⟩,h.qs.1.mono (t:=16777216) (by omega),h.qs.2.mono (t:=16777216) (by omega)⟩
structure Hv (t:Tm) (D M k:Nat) (u:Tm):Prop where
 p:u.p=t.p
 i:u.lo=u.hi/\Up u.p u.lo=0\/∃ L,Vt (cz u.p) L u.lo u.hi
 c:∀ q,Uz u q=Uz t q
 l:Gr D M k u.lo
 h:Gr D M k u.hi
theorem zX {c:Rat->Int} (hc:Cut c) {x:Rat} (h:c x=0) (q:Rat):c q=Gm x q:=by
 rcases M6 x q with ⟨e,e'⟩ | ⟨e,e'⟩ | ⟨e,e'⟩
 ·rw [e]; exact hc.mono' e' (by omega)
 ·rw [e,<-e',h]
 ·rw [e]; exact hc.mono x q e' (by omega)
theorem AU {t u:Tm} {D M k:Nat} (hu:Hv t D M k u) (hM:0<M) (hs:U0 (D:Int)+U0 (M:Int)+(k+1)<=16777216):∃ v,AY u=some v/\Hv t D M (k+1) v/\v.hi-v.lo<=(u.hi-u.lo) / 2/\u.lo<=v.lo/\v.hi<=u.hi:=by
 have h2:∀ x:Rat,x / 2*2=x:=λx=>Gi (by decide)
 unfold AY;rcases hu.i with ⟨e,h0⟩ | ⟨L,V⟩
 ·have hp:u.point=true:=S8.2 (by rw [e]; exact Qo);rw [if_pos hp];refine ⟨u,rfl,⟨hu.p,hu.i,hu.c,CP hu.l,CP hu.h⟩,?_,Qo,Qo⟩;rw [e]; have:=h2 (u.hi-u.hi); grind
 ·have hp:u.point=false:=by
   have:¬u.point=true:=λh=>by have:=S8.1 h; have:=V.l; grind
   simpa using this
  rw [hp,if_neg (by decide)];obtain ⟨m,hm⟩:=nmE ((u.lo+u.hi) / 2);have hmg:Gr D M (k+1) m:=by rw [hm]; exact Qa9 hu.l hu.h
  have hmm:=h2 (u.lo+u.hi);rw [<-hm] at hmm;have hl:=V.l;have hl1:u.lo<m:=by grind
  have hl2:m<u.hi:=by grind
  have hch:lG (mid u.lo u.hi)=some m:=by
   rw [uM,<-hm];have:=CS hmg hM hs;unfold lG;rw [if_pos ⟨this.1,this.2⟩]
  have hcm:mid u.lo u.hi=m:=by rw [uM,<-hm]
  rw [hch];show ∃ v,some (if Uz u m=0 then (⟨u.p,m,m⟩:Tm) else if Uz u m=-1 then ⟨u.p,u.lo,m⟩ else ⟨u.p,m,u.hi⟩)=some v/\_;have hw:=h2 (u.hi-u.lo);have hcu:=M7 hl;have hcut:=V.cut;have hcut':Cut (Uz u):=by rw [show Uz u=cq (cz u.p) u.lo u.hi from funext hcu]; exact hcut
  by_cases c0:Uz u m=0
  ·rw [if_pos c0];have hz:Up u.p m=0:=by
    have:=UE hcut (q:=m) (by rw [<-hcu]; exact c0) V.van;rwa [Uq] at this
   refine ⟨_,rfl,⟨hu.p,.inl ⟨rfl,hz⟩,λq=>?_,hmg,hmg⟩,by show m-m<=_; grind,by show u.lo<=m; grind,by show m<=u.hi; grind⟩;rw [Ee rfl,<-hu.c];exact (zX hcut' c0 q).symm
  ·rw [if_neg c0];by_cases c1:Uz u m=-1
   ·rw [if_pos c1];have hv:vv L m=vv L u.hi:=V.eq_hi hl1 (Qq hl2) (by rw [<-hcu,c1]; decide);have V':Vt (cz u.p) L u.lo m:=⟨V.s,hl1,by rw [hv]; exact V.v⟩;refine ⟨_,rfl,⟨hu.p,.inr ⟨L,V'⟩,λq=>?_,CP hu.l,hmg⟩,by show m-u.lo<=_; grind,Qo,by show m<=u.hi; grind⟩;rw [M7 hl1,<-hu.c,hcu];exact V.uniq V'.cut (Lf Qo) (by rw [YP hl1 hl2]; decide) V'.van q
   ·rw [if_neg c1];have c2:Uz u m=1:=by rcases hcut'.val m with h | h | h <;> omega
    have hv:vv L m=vv L u.lo:=V.eq_lo hl1 (Qq hl2) (by rw [<-hcu]; exact c2);have V':Vt (cz u.p) L m u.hi:=⟨V.s,hl2,by rw [hv]; exact V.v⟩;refine ⟨_,rfl,⟨hu.p,.inr ⟨L,V'⟩,λq=>?_,hmg,CP hu.h⟩,by show u.hi-m<=_; grind,by show u.lo<=m; grind,Qo⟩;rw [M7 hl2,<-hu.c,hcu];exact V.uniq V'.cut (Lf (by grind)) V'.hi1 V'.van q
def Pz (a b:Tm):Prop:=∃ q,Uz a q=-1/\Uz b q=1
def TEq (a b:Tm):Prop:=∀ q,Uz a q=Uz b q
theorem tri {a b:Tm} (ha:Cut (Uz a)) (hb:Cut (Uz b)):Pz a b\/TEq a b\/Pz b a:=by
 rcases Classical.em (TEq a b) with h | h
 ·exact .inr (.inl h)
 ·obtain ⟨q,hq⟩:=Classical.not_forall.1 h;obtain ⟨r,⟨h1,h2⟩ | ⟨h1,h2⟩⟩:=zZ ha hb hq
  ·exact .inl ⟨r,h1,h2⟩
  ·exact .inr (.inr ⟨r,h2,h1⟩)
theorem Eu {a b:Tm} (ha:Cut (Uz a)) (hb:Cut (Uz b)) (h:Pz a b) (h':Pz b a):False:=by
 obtain ⟨q,q1,q2⟩:=h;obtain ⟨r,r1,r2⟩:=h';have:=ha.lt r2 q1;have:=hb.lt q2 r1;grind
theorem yY {p:W9} (k:Nat):(p.getD k 0).natAbs<=2^Ge p:=by
 have h:U0 (p.getD k 0)<=Ge p:=by
  have key:∀ (l:W9) (n:Nat),n≤l.foldl (λn z=>max n (U0 z)) n/\∀ z∈l,U0 z≤l.foldl (λn z=>max n (U0 z)) n:=by
   intro l
   induction l with
   | nil=>exact λn=>⟨Qn _,λz hz=>by cases hz⟩
   |
    cons y l ih =>
    intro n;obtain ⟨i1,i2⟩:=ih (max n (U0 y));refine ⟨by simp only [Z4]; omega,λz hz=>?_⟩;simp only [Z4];rcases Qk.1 hz with rfl | hz
    ·omega
    ·exact i2 z hz
  exact Ft (s:=Ge p) (λz hz=>(key p 0).2 z hz) k
 rw [M8] at h; omega
theorem Qkb {s:Nat}:∀ (B:W9),(∀ z∈B,z.natAbs≤2^s)->gB B≤2^(s+(B.length-1))
 | [],_=>Qi _
 |
  c::B,h=>by
  have h1:=h c (Qx ..);have h2:=Qkb B λz hz=>h z (Qf _ hz)
  simp only [gB,Q7,Jz];have h3:2^s<=2^(s+B.length):=Zr (by decide) (by omega);cases B with
  | nil=>simp only [gB,Jq] at *; omega
  |
   cons d B =>
   have h4:2^(s+(d::B).length)=2*2^(s+((d::B).length-1)):=by
    rw [Zo,<-Zq]; congr 1
   rw [h4]; omega
def Rk (A B:W9):Nat:=(Ge A+Ge B+(A.length+B.length)+8)*(2*(A.length+B.length-2)-1)
theorem Qat {A B:W9} (tA:Uu A) (tB:Uu B) (nA:A.length<=9) (nB:B.length<=9) (lA:2<=A.length) (lB:2<=B.length) {R d:Rat} (hR:1<=R) (dp:0<d)
 (hs:∀ e:Rat,0<e->∃ q r,Uw q<=R/\Uw r<=R/\d<=Uw (q-r)/\Uw (q-r)*((2^(Rk A B+1):Nat):Rat)<=1/\Uw (Up A q)<e/\Uw (Up B r)<e):False:=by
 obtain ⟨a,ha⟩:∃ a,A.length=a+1:=⟨A.length-1,by omega⟩;obtain ⟨b,hb⟩:∃ b,B.length=b+1:=⟨B.length-1,by omega⟩;obtain ⟨s,hsd⟩:=nmE (Ge A+Ge B+b);obtain ⟨N,hN⟩:∃ N,b*(2*(a*b))+a*(2*(a*b)-b)=N:=⟨_,rfl⟩;have hNt:N<=2^(a+9):=by
  rw [<-hN];have hab:∀ a b:Fin 9,b.1*(2*(a.1*b.1))+a.1*(2*(a.1*b.1)-b.1)<=2^(a.1+9):=by decide
  exact hab ⟨a,by omega⟩ ⟨b,by omega⟩
 have hK:Rk A B=(s+a+10)*(2*(a+b-1)+1):=by
  unfold Rk;rw [ha,hb,hsd,show a+1+(b+1)-2=a+b by omega,show 2*(a+b)-1=2*(a+b-1)+1 by omega];congr 1; omega
 have h0A:A.getD a 0≠0:=by have:=Hu tA (by omega); rwa [ha] at this
 have h0B:B.getD b 0≠0:=by have:=Hu tB (by omega); rwa [hb] at this
 have hp:∀ m,1<=2^m:=λm=>Zy (by decide)
 refine Qmn (N:=N) (D:=2^(Rk A B-1)) ha hb h0A h0B (by omega) (by omega) (h:=2^s) (hp s) (λk=>Qd (yY k) (Zr (by decide) (by omega))) ?_ hN ?_ hR dp λe ep=>?_
 ·refine Qd (Qkb (s:=Ge B) B λz hz=>?_) (Zr (by decide) (by omega));obtain ⟨i,hi⟩:=Zm.1 hz;have:=yY (p:=B) i;rwa [Qj,hi] at this
 ·have h1:2*(N*2^s)<=2^(s+a+10):=by
   have:N*2^s<=2^(a+9)*2^s:=Qz _ hNt;rw [<-Xc] at this;rw [show s+a+10=(a+9+s)+1 by omega,Zq]; omega
  have h2:N*2^s<=2^(s+a+9):=by
   rw [show s+a+9=(a+9)+s by omega,Xc]; exact Qz _ hNt
  have h3:=Nat.pow_le_pow_left h1 (2*(a+b-1));have h4:=Zk h2 h3;rw [<-Wx,<-Xc] at h4;rw [<-Xu];refine Qd h4 (Zr (by decide) ?_);rw [hK,Xg,Yk]; omega
 ·obtain ⟨q,r,h1,h2,h3,h4,h5,h6⟩:=hs e ep;refine ⟨q,r,h1,h2,h3,?_,h5,h6⟩;have hK1:1<=Rk A B:=by
   rw [hK]; exact Yl (by omega) (by omega)
  have e1:2^(Rk A B+1)=4*2^(Rk A B-1):=by
   obtain ⟨m,hm⟩:∃ m,Rk A B=m+1:=⟨Rk A B-1,by omega⟩;rw [hm,Jz,Zq,Zq]; omega
  rw [e1] at h4
  push_cast at h4 ⊢
  exact h4
theorem Hv.lo' {t:Tm} {D M k:Nat} {u:Tm} (h:Hv t D M k u):Uz t u.lo=1\/Uz t u.lo=0/\u.lo=u.hi:=by
 rw [<-h.c];rcases h.i with ⟨e,_⟩ | ⟨L,V⟩
 ·exact .inr ⟨by rw [Ee e,D3],e⟩
 ·exact .inl (by rw [M7 V.l]; exact Lf Qo)
theorem Hv.hi' {t:Tm} {D M k:Nat} {u:Tm} (h:Hv t D M k u):Uz t u.hi=0\/Uz t u.hi=-1:=by
 rw [<-h.c];rcases h.i with ⟨e,_⟩ | ⟨L,V⟩
 ·exact .inl (by rw [Ee e,e,D3])
 ·rw [M7 V.l];have:=V.hi1;rcases V.cut.val u.hi with h | h | h <;> omega
theorem Hv.le {t:Tm} {D M k:Nat} {u:Tm} (h:Hv t D M k u):u.lo<=u.hi:=by
 rcases h.i with ⟨e,_⟩ | ⟨L,V⟩
 ·rw [e]; exact Qo
 ·exact Qq V.l
theorem Qau {a b:Tm} (ha:Va a) (hb:Va b) {D M k D' M' k':Nat} {u v:Tm} (hu:Hv a D M k u) (hv:Hv b D' M' k' v) (h:Pz a b):1<(v.hi-u.lo)*((2^(Rk a.p b.p+1):Nat):Rat):=by
 rcases Fb ((v.hi-u.lo)*((2^(Rk a.p b.p+1):Nat):Rat)) 1 with hw | hw
 ·exfalso;have ca:=ha.cut;have cb:=hb.cut;obtain ⟨m,m1,m2⟩:=h;obtain ⟨m',hm',m3⟩:=ca.dn m m1;have hpow:(0:Rat)<=((2^(Rk a.p b.p+1):Nat):Rat):=Xf;obtain ⟨R,hR⟩:=nmE (Uw u.lo+Uw m'+Uw m+Uw v.hi+1);have n1:=Gz u.lo; have n2:=Gz m'; have n3:=Gz m; have n4:=Gz v.hi;refine Qat (R:=R) (d:=m-m') ha.tr hb.tr ha.n hb.n ha.n2 hb.n2 (by grind) (by grind) λe ep=>?_
  obtain ⟨q,q1,q2,q3⟩:∃ q,u.lo<=q/\q<=m'/\Uw (Up a.p q)<e:=by
   rcases hu.lo' with h1 | ⟨h1,_⟩
   ·obtain ⟨x,y,hx,hy,hq⟩:=ha.van e ep;rcases Fb x u.lo with e1 | e1
    ·exact ⟨u.lo,Qo,Qq (ca.lt h1 m3),by rw [<-Uq]; exact hq u.lo e1 (Qq (ca.lt h1 hy))⟩
    ·exact ⟨x,Qq e1,Qq (ca.lt hx m3),by rw [<-Uq]; exact hq x Qo (Qq (ca.lt hx hy))⟩
   ·refine ⟨u.lo,Qo,?_,by rw [<-Uq,UE ca h1 ha.van,He]; exact ep⟩;rcases Fb u.lo m' with e1 | e1
    ·exact e1
    ·have:=ca.mono m' u.lo e1 (by omega); omega
  obtain ⟨r,r1,r2,r3⟩:∃ r,r<=v.hi/\m<=r/\Uw (Up b.p r)<e:=by
   rcases hv.hi' with h1 | h1
   ·refine ⟨v.hi,Qo,?_,by rw [<-Uq,UE cb h1 hb.van,He]; exact ep⟩;rcases Fb m v.hi with e1 | e1
    ·exact e1
    ·have:=cb.mono v.hi m e1 (by omega); omega
   ·obtain ⟨x,y,hx,hy,hq⟩:=hb.van e ep;rcases Fb v.hi y with e1 | e1
    ·exact ⟨v.hi,Qo,Qq (cb.lt m2 h1),by rw [<-Uq]; exact hq v.hi (Qq (cb.lt hx h1)) e1⟩
    ·exact ⟨y,Qq e1,Qq (cb.lt m2 hy),by rw [<-Uq]; exact hq y (Qq (cb.lt hx hy)) Qo⟩
  have e1:Uw (q-r)=r-q:=by unfold Uw; split <;> grind
  have b1:Uw q<=R:=by
   have:=VQ (R:=R) (x:=u.lo) (y:=m') (t:=q) (by grind) (by grind) q1 q2; exact this
  have b2:Uw r<=R:=by
   have:=VQ (R:=R) (x:=m) (y:=v.hi) (t:=r) (by grind) (by grind) r2 r1; exact this
  refine ⟨q,r,b1,b2,by rw [e1]; grind,?_,q3,r3⟩;rw [e1];have:=Q9 (show r-q<=v.hi-u.lo by grind) hpow;exact Zg this hw
 ·exact hw
theorem qF {a b:Tm} (ha:Va a) (hb:Va b) {D M k D' M' k':Nat} {u v:Tm} (hu:Hv a D M k u) (hv:Hv b D' M' k' v) (hne:¬TEq a b) (h:B9 u v=true):Pz a b:=by
 have h1:=(of_decide_eq_true h).1;have h1:=GI.1 h1;rcases tri ha.cut hb.cut with h2 | h2 | ⟨m,m1,m2⟩
 ·exact h2
 ·exact absurd h2 hne
 ·exfalso;have e1:m<u.hi:=by
   rcases Fb u.hi m with e | e
   ·rcases Classical.em (u.hi=m) with e' | e'
    ·have:=hu.hi'; rw [e'] at this; omega
    ·have:=ha.cut.mono u.hi m (by grind) (by have:=hu.hi'; omega); omega
   ·exact e
  have e2:v.lo<m:=by
   rcases Fb m v.lo with e | e
   ·rcases Classical.em (m=v.lo) with e' | e'
    ·have:=hv.lo'; rw [<-e'] at this; omega
    ·have:=hb.cut.mono m v.lo (by grind) (by omega);have:=hv.lo'; omega
   ·exact e
  grind
theorem mY {a b:Tm} (ha:Va a) (hb:Va b) {D M k D' M' k':Nat} {u v:Tm} (hu:Hv a D M k u) (hv:Hv b D' M' k' v) (hlt:Pz a b) (h:B9 u v≠true):v.lo<=u.hi:=by
 rcases Fb v.lo u.hi with e | e
 ·exact e
 ·refine absurd (decide_eq_true ⟨GI.2 (Qq e),λh'=>?_⟩) h;have:=tI.1 h'.2; grind
theorem jI (m:Nat):((2^(m+1):Nat):Rat)=2*((2^m:Nat):Rat):=by rw [Zq]; push_cast; grind
def Qk2 (a b:Tm) (r:Tm×Tm×Int):Prop:=r.2.2=-1/\Pz a b\/r.2.2=1/\Pz b a
theorem cB (A B:W9):Rk A B=Rk B A:=by unfold Rk; rw [Nat.add_comm A.length,Nat.add_comm (Ge A)]
theorem Qor {a b:Tm} (ha:Va a) (hb:Va b) (hne:¬TEq a b) {D M D' M':Nat} (hM:0<M) (hM':0<M'):∀ (i j:Nat) (u v:Tm) (k k':Nat) (W:Rat),2*i+1<=j->Hv a D M k u->Hv b D' M' k' v->U0 (D:Int)+U0 (M:Int)+(k+j)<=16777216->U0 (D':Int)+U0 (M':Int)+(k'+j)<=16777216->u.hi-u.lo<=W->v.hi-v.lo<=W->2*W*((2^(Rk a.p b.p+1):Nat):Rat)<=((2^i:Nat):Rat)->∃ r,NY j u v=some r/\Qk2 a b r:=by
 intro i;have step:∀ (j:Nat) (u v:Tm) (k k':Nat),Hv a D M k u->Hv b D' M' k' v->U0 (D:Int)+U0 (M:Int)+(k+(j+1))<=16777216->U0 (D':Int)+U0 (M':Int)+(k'+(j+1))<=16777216->(∃ r,NY (j+1) u v=some r/\Qk2 a b r)\/(B9 u v≠true/\B9 v u≠true/\∃ u' v' k1 k1',NY (j+1) u v=NY j u' v'/\Hv a D M k1 u'/\Hv b D' M' k1' v'/\k1<=k+1/\k1'<=k'+1/\(v.hi-v.lo<=u.hi-u.lo/\u'.hi-u'.lo<=(u.hi-u.lo) / 2/\v'=v\/u.hi-u.lo<=v.hi-v.lo/\v'.hi-v'.lo<=(v.hi-v.lo) / 2/\u'=u)):=by
  intro j u v k k' hu hv hs hs';by_cases h1:B9 u v=true
  ·exact .inl ⟨(u,v,-1),by simp only [NY]; rw [if_pos h1],.inl ⟨rfl,qF ha hb hu hv hne h1⟩⟩
  by_cases h2:B9 v u=true
  ·exact .inl ⟨(u,v,1),by simp only [NY]; rw [if_neg h1,if_pos h2],.inr ⟨rfl,qF hb ha hv hu (λh=>hne λq=>(h q).symm) h2⟩⟩
  refine .inr ⟨h1,h2,?_⟩;by_cases h3:0<=Gm (MR u.hi u.lo) (MR v.hi v.lo)
  ·obtain ⟨x,x1,x2,x3,_⟩:=AU hu hM (by omega);refine ⟨x,v,k+1,k',?_,x2,hv,by omega,by omega,.inl ⟨?_,x3,rfl⟩⟩
   ·simp only [NY]; rw [if_neg h1,if_neg h2,if_pos h3,x1]; rfl
   ·have:=GA.1 h3; rwa [HE,HE] at this
  ·obtain ⟨x,x1,x2,x3,_⟩:=AU hv hM' (by omega);refine ⟨u,x,k,k'+1,?_,hu,x2,by omega,by omega,.inr ⟨?_,x3,rfl⟩⟩
   ·simp only [NY]; rw [if_neg h1,if_neg h2,if_neg h3,x1]; rfl
   ·rcases Fb (u.hi-u.lo) (v.hi-v.lo) with e | e
    ·exact e
    ·refine absurd (GA.2 ?_) h3;rw [HE,HE]; exact Qq e
 induction i with
 |
  zero =>
  intro j u v k k' W hj hu hv hs hs' hW hW' hK;obtain ⟨j,rfl⟩:∃ m,j=m+1:=⟨j-1,by omega⟩;rcases step j u v k k' hu hv hs hs' with h | ⟨h1,h2,_⟩
  ·exact h
  ·exfalso;have hpow:(0:Rat)<=((2^(Rk a.p b.p+1):Nat):Rat):=Xf;rw [Y4] at hK;rcases tri ha.cut hb.cut with h3 | h3 | h3
   ·have h4:=mY ha hb hu hv h3 h1;have h5:=Qau ha hb hu hv h3;have h6:=Q9 (show v.hi-u.lo<=2*W by clear step; grind) hpow;have h7:((1:Nat):Rat)=1:=rfl;rw [h7] at hK;clear step; grind
   ·exact hne h3
   ·have h4:=mY hb ha hv hu h3 h2;have h5:=Qau hb ha hv hu h3;rw [cB] at h5;have h6:=Q9 (show u.hi-v.lo<=2*W by clear step; grind) hpow;have h7:((1:Nat):Rat)=1:=rfl;rw [h7] at hK;clear step; grind
 |
  succ i ih =>
  intro j u v k k' W hj hu hv hs hs' hW hW' hK;obtain ⟨j,rfl⟩:∃ m,j=m+2:=⟨j-2,by omega⟩;have hd:∀ x:Rat,x / 2*2=x:=λx=>Gi (by decide)
  rcases step (j+1) u v k k' hu hv hs hs' with h | ⟨_,_,u1,v1,k1,k1',e1,hu1,hv1,hk1,hk1',hw1⟩
  ·exact h
  ·rw [e1];rcases step j u1 v1 k1 k1' hu1 hv1 (by omega) (by omega) with h | ⟨_,_,u2,v2,k2,k2',e2,hu2,hv2,hk2,hk2',hw2⟩
   ·exact h
   ·rw [e2];have a1:=hd (u.hi-u.lo); have a2:=hd (v.hi-v.lo); have a3:=hd (u1.hi-u1.lo); have a4:=hd (v1.hi-v1.lo); have a5:=hd W;have b1:=hu.le; have b2:=hv.le; have b3:=hu1.le; have b4:=hv1.le; have b5:=hu2.le; have b6:=hv2.le;have hww:u2.hi-u2.lo<=W / 2/\v2.hi-v2.lo<=W / 2:=by
     clear step ih;rcases hw1 with ⟨c1,c2,rfl⟩ | ⟨c1,c2,rfl⟩ <;> rcases hw2 with ⟨d1,d2,rfl⟩ | ⟨d1,d2,rfl⟩ <;> constructor <;> grind
    refine ih j u2 v2 k2 k2' (W / 2) (by omega) hu2 hv2 (by omega) (by omega) hww.1 hww.2 ?_;rw [jI i] at hK;have:2*(W / 2)*((2^(Rk a.p b.p+1):Nat):Rat)*2=2*W*((2^(Rk a.p b.p+1):Nat):Rat):=by clear step ih hw1 hw2; grind
    clear step ih hw1 hw2; grind
def CmpOk (a b:Tm) (c:Int):Prop:=c=-1/\Pz a b\/c=0/\TEq a b\/c=1/\Pz b a
theorem Va.hv0 {t:Tm} (h:Va t):∃ D M k,Hv t D M k t/\0<M/\U0 (D:Int)+U0 (M:Int)+k<=lim t:=by
 obtain ⟨D,M,k,h1,h2,h3,h4⟩:=h.g;exact ⟨D,M,k,⟨rfl,h.i,λ_=>rfl,h1,h2⟩,h3,h4⟩
theorem fK {a:Tm} (ha:Va a) (hp:a.point=true) (q:Rat):Uz a q=Gm a.lo q:=Ee (ha.pt hp).1 q
theorem oK {a b:Tm} (hb:Va b) {x:Rat} (hx:∀ q,Uz a q=Gm x q):CmpOk a b (-Uz b x):=by
 have cb:=hb.cut;rcases cb.val x with h | h | h
 ·obtain ⟨q,q1,q2⟩:=cb.up x h;refine .inl ⟨by omega,q,?_,q2⟩;rw [hx]; rcases M6 x q with ⟨e,e'⟩ | ⟨e,e'⟩ | ⟨e,e'⟩ <;> grind
 ·exact .inr (.inl ⟨by omega,λq=>by rw [hx,zX cb h]⟩)
 ·obtain ⟨q,q1,q2⟩:=cb.dn x h;refine .inr (.inr ⟨by omega,q,q2,?_⟩);rw [hx]; rcases M6 x q with ⟨e,e'⟩ | ⟨e,e'⟩ | ⟨e,e'⟩ <;> grind
theorem CmpOk.symm {a b:Tm} {c:Int} (h:CmpOk a b c):CmpOk b a (-c):=by
 rcases h with ⟨h1,h2⟩ | ⟨h1,h2⟩ | ⟨h1,h2⟩
 ·exact .inr (.inr ⟨by omega,h2⟩)
 ·exact .inr (.inl ⟨by omega,λq=>(h2 q).symm⟩)
 ·exact .inl ⟨by omega,h2⟩
theorem Qqk:Szz 9 1260:=⟨by decide,by decide⟩
theorem YO (g:W9) (lo hi:Rat):YI g lo hi=true↔uX (cz g) lo hi:=by
 unfold YI uX;rw [decide_eq_true_iff,Pv,xP,Uq]
theorem xQ {g:W9} (tg:Uu g) (hn:g.length≠0) {lo hi:Rat} (h:uX (cz g) lo hi):1<g.length:=by
 rcases Zc 1 g.length with e | e
 ·exact e
 ·exfalso;obtain ⟨c,rfl⟩:∃ c,g=[c]:=V9.1 (by omega);have hc:c≠0:=by have:=Hu tg (by simp); simpa using this
  have hv:∀ t,ev (cz [c]) t=(c:Rat):=λt=>by rw [Uq]; simp only [Up]; grind
  have hs:Us (c:Rat)≠0:=λh=>On hc (Fj.1 h)
  unfold uX at h;rw [hv,Lp (by rw [hv]; exact hs),hv] at h;rcases h with h | h
  ·exact hs h
  ·exact h rfl
theorem SO {q:Rat}:Uw q<=((2^U0 q.num:Nat):Rat):=by
 have h1:U0 q.num<=U0 q.num:=Qn _;rw [M8] at h1;have e:(q.num:Rat)=q*(q.den:Rat):=by
  have:(q.num:Rat) / (((q.den:Int)):Rat)=q:=by rw [G9,X2]
  have h2:(q.num:Rat) / (q.den:Rat)*(q.den:Rat)=q.num:=Zd (by have:=nat_pos q.den_pos; grind);rw [show (q.num:Rat) / (q.den:Rat)=q from this] at h2; exact h2.symm
 have hd:(1:Rat)<=(q.den:Rat):=by
  have:((1:Nat):Rat)<=(q.den:Rat):=Zh.2 q.den_pos;exact this
 have h2:Uw q<=Uw (q.num:Rat):=by
  rw [e,Ek];have:Uw (q.den:Rat)=(q.den:Rat):=by unfold Uw; rw [if_neg (by grind)]
  rw [this];have:=Nc (a:=Uw q) (c:=1) (Gz q) Qo (by decide) hd;grind
 rw [Ry] at h2;exact Zg h2 (Zh.2 (J7 h1))
theorem UA {a:Tm} {w:Nat} (h:U0 a.lo.num+U0 a.hi.num<=w):a.hi-a.lo<=((2^(w+1):Nat):Rat):=by
 have h1:=SO (q:=a.lo);have h2:=SO (q:=a.hi);have h3:((2^U0 a.lo.num:Nat):Rat)<=((2^w:Nat):Rat):=Zh.2 (Zr (by decide) (by omega));have h4:((2^U0 a.hi.num:Nat):Rat)<=((2^w:Nat):Rat):=Zh.2 (Zr (by decide) (by omega));rw [jI];rw [Sx] at h1 h2;grind
theorem Av {p:W9} {s:Nat} (h:Bd s p):Ge p<=s:=by
 have:=Sw h p.length; rwa [Q5] at this
theorem Qd2 {a b:Tm} (ha:Va a) (hb:Va b) (pa:a.point=false) (pb:b.point=false):Sj a b<=9000000:=by
 have q1:=ha.qsn pa; have q2:=hb.qsn pb;have l1:=ha.n; have l2:=hb.n;have s1:=Av (ha.bi pa); have s2:=Av (hb.bi pb);have b1:=q1.1.1; have b2:=q1.2.1; have b3:=q2.1.1; have b4:=q2.2.1;have:4*(a.p.length+b.p.length)*(Ge a.p+Ge b.p+(a.p.length+b.p.length)+8)<=4*18*2600:=Zk (by omega) (by omega);unfold Sj; omega
theorem lL {a b:Tm} (ha:Va a) (hb:Va b) (pa:a.point=false) (pb:b.point=false) (hne:¬TEq a b):∃ r,NY (Sj a b) a b=some r/\Qk2 a b r:=by
 obtain ⟨D,M,k,h1,h2,h3⟩:=ha.hv0;obtain ⟨D',M',k',h1',h2',h3'⟩:=hb.hv0;rw [AM pa] at h3;rw [AM pb] at h3';have hst:=Qd2 ha hb pa pb;obtain ⟨w,hw⟩:=nmE (U0 a.lo.num+U0 a.hi.num+U0 b.lo.num+U0 b.hi.num);obtain ⟨K,hK⟩:=nmE (Ge a.p+Ge b.p+(a.p.length+b.p.length)+8);obtain ⟨n,hn⟩:=nmE (a.p.length+b.p.length);have l1:=ha.n2; have l2:=hb.n2;have hsteps:Sj a b=64+2*w+4*n*K:=by unfold Sj; rw [hw,hK,hn]
 have hg:Rk a.p b.p=K*(2*(n-2)-1):=by unfold Rk; rw [hK,hn]
 have hgle:Rk a.p b.p+5*K<=2*n*K:=by
  rw [hg,Zo K,<-X4];exact Qz _ (by omega)
 have hKp:8<=K:=by omega
 refine Qor ha hb hne h2 h2' (31+w+2*n*K) (Sj a b) a b k k' ((2^(w+1):Nat):Rat) ?_ h1 h1' (by omega) (by omega) (UA (by omega)) (UA (by omega)) ?_
 ·rw [hsteps,Xg,Xu 4,Xu 2 n]; omega
 ·have e:2*(2^(w+1))*(2^(Rk a.p b.p+1))<=2^(31+w+2*n*K):=by
   rw [Zo 2,<-Zq,<-Xc];exact Zr (by decide) (by omega)
  have:=Zh.2 e
  push_cast at this ⊢
  exact this
theorem YS {a b:Tm} (ha:Va a) (hb:Va b):∃ c,YT a b=some c/\CmpOk a b c:=by
 unfold YT;by_cases pa:a.point=true
 ·rw [if_pos pa];exact ⟨_,rfl,oK hb (fK ha pa)⟩
 rw [if_neg pa];by_cases pb:b.point=true
 ·rw [if_pos pb];have:=(oK ha (fK hb pb)).symm;rw [Int.neg_neg] at this;exact ⟨_,rfl,this⟩
 rw [if_neg pb];have pa:a.point=false:=by simpa using pa
 have pb:b.point=false:=by simpa using pb
 obtain ⟨L,V⟩:=ha.iv pa;obtain ⟨L',V'⟩:=hb.iv pb;have eqa:∀ q,Uz a q=cq (cz a.p) a.lo a.hi q:=M7 V.l;have eqb:∀ q,Uz b q=cq (cz b.p) b.lo b.hi q:=M7 V'.l;obtain ⟨lo,hlo⟩:=nmE (if 0<Gm b.lo a.lo then b.lo else a.lo);obtain ⟨hi,hhi⟩:=nmE (if Gm b.hi a.hi<0 then b.hi else a.hi);show ∃ c,(if Gm (if 0<Gm b.lo a.lo then b.lo else a.lo) (if Gm b.hi a.hi<0 then b.hi else a.hi)<0 then _ else _)=some c/\_;rw [<-hlo,<-hhi];have e1:(0<Gm b.lo a.lo)=(a.lo<b.lo):=propext Ds;have e2:(Gm b.hi a.hi<0)=(b.hi<a.hi):=propext P0;have e3:(Gm lo hi<0)=(lo<hi):=propext P0;simp only [e1] at hlo;simp only [e2] at hhi;simp only [e3];obtain ⟨g,g1,g2,g3,g4⟩:=Qa3 Qqk ha.tr hb.tr ha.n hb.n (ha.bi pa) (hb.bi pb) (by have:=ha.n2; omega);obtain ⟨U,W,hc⟩:=g2.c;obtain ⟨u,hu⟩:=g2.da;obtain ⟨u',hu'⟩:=g2.db;have key:=V.same V' (g:=cz g) (u:=u) (u':=u') (U:=U) (W:=W) (k:=1) (by decide) hu hu' (λt=>by rw [Uq,Uq,Uq,hc]; grind) (a:=lo) (b:=hi) (by rw [hlo]; split <;> grind) (by rw [hlo]; split <;> grind) (by rw [hlo]; split <;> simp) (by rw [hhi]; split <;> grind) (by rw [hhi]; split <;> grind) (by rw [hhi]; split <;> simp);have hTE:(∀ q,cq (cz a.p) a.lo a.hi q=cq (cz b.p) b.lo b.hi q)↔TEq a b:=by
  unfold TEq; constructor
  ·intro h q; rw [eqa,eqb]; exact h q
  ·intro h q; rw [<-eqa,<-eqb]; exact h q
 rw [hTE] at key;have fin:¬TEq a b->∃ c,((NY (Sj a b) a b).bind λr=>some r.2.2)=some c/\CmpOk a b c:=λhne=>by
  obtain ⟨r,r1,r2⟩:=lL ha hb pa pb hne;refine ⟨r.2.2,by rw [r1]; rfl,?_⟩;rcases r2 with h | h
  ·exact .inl h
  ·exact .inr (.inr h)
 by_cases hl:lo<hi
 ·rw [if_pos hl,g1];show ∃ c,(if 1<g.length/\YI g lo hi=true then some 0 else (NY (Sj a b) a b).bind λr=>some r.2.2)=some c/\_;by_cases hh:YI g lo hi=true
  ·have hq:=(YO g lo hi).1 hh;rw [if_pos ⟨xQ g2.t g2.n hq,hh⟩];exact ⟨0,rfl,.inr (.inl ⟨rfl,key.1 ⟨hl,hq⟩⟩)⟩
  ·rw [if_neg λh=>hh h.2];exact fin λh=>hh ((YO g lo hi).2 (key.2 h).2)
 ·rw [if_neg hl];exact fin λh=>hl (key.2 h).1
def SgT (p:W9) (a:Tm) (s:Int):Prop:=s=0/\E8 (cz p) (Uz a)\/s≠0/\NZ (cz p) (Uz a) s
theorem Qnr {p:W9} {c:Rat->Int} (hc:Cut c) {x:Rat} (h:c x=0):Ha p x=0/\E8 (cz p) c\/Ha p x≠0/\NZ (cz p) c (Ha p x):=by
 rw [Pv,<-Uq];rcases QS hc (cz p) with h1 | ⟨s,hs,h1⟩
 ·exact .inl ⟨Fj.2 (UE hc h h1),h1⟩
 ·have:=jV hc h h1;rw [this]; exact .inr ⟨hs,h1⟩
theorem A8 {l:Ua} {lo hi:Rat} (h:lo<=hi):H8 l lo hi=(vv (l.map cz) lo:Int)-(vv (l.map cz) hi:Int):=by
 unfold H8;rw [if_neg λh'=>by have:=P0.1 h'; grind,Iv,Iv]
theorem Qns {p q:W9} {L:Ud} (hp:Uu p) (np:p.length<=9) (lp:2<=p.length) (hS:KC (cz q) L) (hpq:I9 (cz q) (cz p)) {a:Tm} (ha:Va a) {s:Int} (hnz:NZ (cz p) (Uz a) s) {D M k:Nat} {x:Tm} (hx:Hv a D M k x) (hl:x.lo<x.hi) (hv:vv L x.lo≠vv L x.hi):1<(x.hi-x.lo)*((2^(Rk a.p p+1):Nat):Rat):=by
 rcases Fb ((x.hi-x.lo)*((2^(Rk a.p p+1):Nat):Rat)) 1 with hw | hw
 ·exfalso;have ca:=ha.cut;obtain ⟨d,dp,x1,y1,c1,c2,hn⟩:=hnz;obtain ⟨x2,x12,c3⟩:=ca.up x1 c1;obtain ⟨y2,y12,c4⟩:=ca.dn y1 c2;have hpow:(0:Rat)<=((2^(Rk a.p p+1):Nat):Rat):=Xf;obtain ⟨z,zp,z1,z2⟩:=min2 (a:=x2-x1) (b:=y1-y2) (by clear hn; grind) (by clear hn; grind);obtain ⟨R0,hR0,r1,r2⟩:=LP x.lo x.hi;obtain ⟨u,hu⟩:=hpq;refine Qat (R:=R0+1) (d:=z) ha.tr hp ha.n np ha.n2 lp (by clear hn; grind) zp λe ep=>?_
  obtain ⟨q0,q1,q2,q3,q4,q5⟩:∃ q0,x.lo<=q0/\q0<=x.hi/\x2<=q0/\q0<=y2/\Uw (Up a.p q0)<e:=by
   rcases hx.lo' with h1 | ⟨h1,h2⟩
   ·obtain ⟨x',y',hx',hy',hq⟩:=ha.van e ep;obtain ⟨m,m1,m2,m3,m4⟩:∃ m,Uz a m=1/\x.lo<=m/\x2<=m/\x'<=m:=by
     rcases Fb x.lo x2 with e1 | e1
     ·rcases Fb x2 x' with e2 | e2
      ·exact ⟨x',hx',by clear hn hq; grind,e2,Qo⟩
      ·exact ⟨x2,c3,e1,Qo,Qq e2⟩
     ·rcases Fb x.lo x' with e2 | e2
      ·exact ⟨x',hx',e2,by clear hn hq; grind,Qo⟩
      ·exact ⟨x.lo,h1,Qo,Qq e1,Qq e2⟩
    refine ⟨m,m2,?_,m3,Qq (ca.lt m1 c4),by rw [<-Uq]; exact hq m m4 (Qq (ca.lt m1 hy'))⟩;rcases hx.hi' with h3 | h3
    ·rcases Fb m x.hi with e1 | e1
     ·exact e1
     ·have:=ca.mono x.hi m e1 (by omega); omega
    ·exact Qq (ca.lt m1 h3)
   ·exact absurd h2 (by clear hn; grind)
  obtain ⟨b,hb⟩:=nmE (zS R0 u);have hb0:0<=b:=by rw [hb]; exact Og hR0 u
  obtain ⟨f,fp,_,hf⟩:=Gl (b:=b) (d:=if e<=d then e else d) hb0 (by split <;> assumption);obtain ⟨r,r3,r4,r5⟩:=OF hS hl hv fp;have hrR:Uw r<=R0:=VQ r1 r2 r3 r4;have hpr:Uw (Up p r)<(if e<=d then e else d):=by
   rw [<-Uq,hu];have:=Gh (Qq r5) (FK hrR u);rw [<-hb] at this;exact Jj.1 λh=>absurd (Zg h this) (Jj.2 hf)
  have hpe:Uw (Up p r)<e:=by split at hpr <;> (clear hn; grind)
  have hpd:Uw (Up p r)<d:=by split at hpr <;> (clear hn; grind)
  have hrout:r<x1\/y1<r:=by
   rcases Fb x1 r with e1 | e1
   ·rcases Fb r y1 with e2 | e2
    ·have:=(hn r e1 e2).2;rw [Uq] at this;exact absurd this (Jj.2 hpd)
    ·exact .inr e2
   ·exact .inl e1
  have hqr:z<=Uw (q0-r):=by
   clear hn;rcases hrout with h | h
   ·have:Uw (q0-r)=q0-r:=by unfold Uw; split <;> grind
    rw [this]; grind
   ·have:Uw (q0-r)=r-q0:=by unfold Uw; split <;> grind
    rw [this]; grind
  have hq0R:Uw q0<=R0:=VQ r1 r2 q1 q2;refine ⟨q0,r,by clear hn; grind,by clear hn; grind,hqr,?_,q5,hpe⟩;have h1:Uw (q0-r)<=x.hi-x.lo:=by rw [Sx]; clear hn; constructor <;> grind
  exact Zg (Q9 h1 hpow) hw
 ·exact hw
theorem Qdp {p q:W9} {l:Ua} (hp:Uu p) (np:p.length<=9) (lp:2<=p.length) (hS:KC (cz q) (l.map cz)) (hpq:I9 (cz q) (cz p)) {a:Tm} (ha:Va a) {s:Int} (hnz:NZ (cz p) (Uz a) s) {D M:Nat} (hM:0<M):∀ (j i:Nat) (x:Tm) (k:Nat) (W:Rat),i+1<=j->Hv a D M k x->U0 (D:Int)+U0 (M:Int)+(k+j)<=16777216->x.hi-x.lo<=W->W*((2^(Rk a.p p+1):Nat):Rat)<=((2^i:Nat):Rat)->∃ u k',sgF l j x=some u/\Hv a D M k' u/\(u.point=true\/H8 l u.lo u.hi=0)
 | 0,i,x,k,W,h,_,_,_,_=>by omega
 |
  j+1,i,x,k,W,hj,hx,hs,hW,hK=>by
  simp only [sgF];by_cases h:x.point=true\/H8 l x.lo x.hi=0
  ·rw [if_pos h]; exact ⟨x,k,rfl,hx,h⟩
  ·rw [if_neg h];obtain ⟨v,v1,v2,v3,_⟩:=AU hx hM (by omega);rw [v1];show ∃ u k',sgF l j v=some u/\_;have hpt:¬x.hi<=x.lo:=λh'=>h (.inl (S8.2 h'))
   have hl:x.lo<x.hi:=by grind
   have hvv:vv (l.map cz) x.lo≠vv (l.map cz) x.hi:=λh'=>h (.inr (by rw [A8 (Qq hl)]; omega))
   have hg:=Qns hp np lp hS hpq ha hnz hx hl hvv;have hpow:(0:Rat)<=((2^(Rk a.p p+1):Nat):Rat):=Xf;have hd:∀ x:Rat,x / 2*2=x:=λx=>Gi (by decide)
   cases i with
   |
    zero =>
    exfalso;rw [Y4] at hK;have:=Q9 hW hpow;have h7:((1:Nat):Rat)=1:=rfl;rw [h7] at hK;grind
   |
    succ i =>
    refine Qdp hp np lp hS hpq ha hnz hM j i v (k+1) (W / 2) (by omega) v2 (by omega) ?_ ?_
    ·have:=hd (x.hi-x.lo); have:=hd W; grind
    ·rw [jI i] at hK;have:=hd W;have:W / 2*((2^(Rk a.p p+1):Nat):Rat)*2=W*((2^(Rk a.p p+1):Nat):Rat):=by grind
     grind
theorem jT {x y:Rat}:∀ {ws:Ud},(∀ w∈ws,Us (ev w x)=Us (ev w y))->Us (ev (Am ws) x)=Us (ev (Am ws) y)
 | [],_=>by simp only [Am]; rw [Hw,Hw]
 |
  w::l,h=>by
  simp only [Am];rw [Ut,Ut,Rw,Rw,h w (Qx ..),jT λv hv=>h v (Qf _ hv)]
theorem dT {p q o:W9} (hpt:Parts p q o) (tp:Uu p) (hp:p.length≠0) {L:Ud} (hS:KC (cz q) L) {x y:Rat} (hxy:x<y) (hv:vv L x=vv L y):∃ s,s≠0/\∀ z,x<z->z<=y->Us (Up p z)=s:=by
 obtain ⟨ws,w1,w2⟩:=hpt.ws;obtain ⟨_,_,_,_,_,p6,p7⟩:=Nh tp hp;have key:∀ z,x<z->z≤y->∀ w∈ws.map cz,Sm w x z:=λz h1 h2 w hw=>by
  obtain ⟨v,hv',rfl⟩:=Zf.1 hw;obtain ⟨u,hu⟩:=(w1 v hv').2;have a1:=L8 hS h1;have a2:vv L y<=vv L z:=by
   rcases Classical.em (z=y) with e | e
   ·rw [e]; exact Qn _
   ·exact L8 hS (by grind)
  exact XG hS hu h1 (by omega)
 have hval:∀ z,Up p z=(Gs p:Rat)*ev (Am (ws.map cz)) z:=λz=>by rw [p7,w2]
 refine ⟨Us (Up p y),λh0=>?_,λz h1 h2=>?_⟩
 ·rw [hval,Rw] at h0;rcases J3.1 h0 with h | h
  ·exact On p6 (Fj.1 h)
  ·have:∀ l:Ud,(∀ w∈l,Us (ev w y)≠0)->Us (ev (Am l) y)≠0:=by
    intro l
    induction l with
    | nil=>intro _; simp only [Am]; rw [Hw]; decide
    |
     cons w l ih =>
     intro h;simp only [Am];rw [Ut,Rw];exact Vv (h w (Qx ..)) (ih λv hv=>h v (Qf _ hv))
   refine this _ (λw hw=>?_) h;have hs:=key y hxy Qo w hw;rw [hs.s]; exact hs.n
 ·rw [hval,hval,Rw,Rw,jT (y:=y) λw hw=>(key z h1 h2 w hw).s.trans (key y hxy Qo w hw).s.symm]
theorem Qmo {g p P:W9} {c:Rat->Int} (hc:Cut c) (hg:Gc g p P):E8 (cz g) c↔E8 (cz p) c/\E8 (cz P) c:=by
 constructor
 ·intro h;obtain ⟨u,hu⟩:=hg.da;obtain ⟨v,hv⟩:=hg.db;exact ⟨So hc hu h,So hc hv h⟩
 ·rintro ⟨h1,h2⟩
  obtain ⟨U,V,hcc⟩:=hg.c;have a1:E8 (Gb U (cz p)) c:=So hc (p:=cz p) (q:=U) (λt=>by rw [Ut]; grind) h1;have a2:E8 (Gb V (cz P)) c:=So hc (p:=cz P) (q:=V) (λt=>by rw [Ut]; grind) h2;exact RX (λt=>by rw [Uq,hcc,Ut,Ut,Uq,Uq]) a1 a2
theorem Qdw {p:W9} (hp:Okp 9 1180 p) {a:Tm} (ha:Va a):∃ s,KX p a=some s/\SgT p a s:=by
 unfold KX;rw [if_neg hp.nz];have ca:=ha.cut;by_cases pa:a.point=true
 ·rw [if_pos pa];exact ⟨_,rfl,Qnr ca (x:=a.lo) (by rw [fK ha pa,D3])⟩
 rw [if_neg pa];have pa:a.point=false:=by simpa using pa
 obtain ⟨L,V⟩:=ha.iv pa;have eqa:∀ q,Uz a q=cq (cz a.p) a.lo a.hi q:=M7 V.l;obtain ⟨g,g1,g2,g3,g4⟩:=Qa3 Qqk hp.t ha.tr hp.l ha.n (Uk hp.b (by omega)) (ha.bi pa) hp.nz;obtain ⟨u',hu'⟩:=g2.db;have hhas:=V.has hu' (a:=a.lo) (b:=a.hi) Qo V.l Qo;have hvan:=Qmo ca g2;rw [show cq (cz a.p) a.lo a.hi=Uz a from (funext eqa).symm] at hhas;rw [g1];show ∃ s,(if 1<g.length/\YI g a.lo a.hi=true then some 0 else _)=some s/\_;by_cases hh:YI g a.lo a.hi=true
 ·have hq:=(YO g _ _).1 hh;rw [if_pos ⟨xQ g2.t g2.n hq,hh⟩];exact ⟨0,rfl,.inl ⟨rfl,(hvan.1 (hhas.1 hq).1).1⟩⟩
 ·rw [if_neg λh=>hh h.2];have hnv:¬E8 (cz p) (Uz a):=λh=>hh ((YO g _ _).2 (hhas.2 ⟨hvan.2 ⟨h,ha.van⟩,by rw [eqa]; exact Lf Qo,by rw [eqa]; exact V.hi1⟩))
  rcases QS ca (cz p) with h | ⟨s,NQ,hnz⟩
  ·exact absurd h hnv
  obtain ⟨q,o,q1,q2,hpt⟩:=Qcg hp;obtain ⟨q',l,r1,r2,hS,hl0⟩:=chain_ok hp;rw [q1] at r1;injection r1 with r1;subst r1;rw [r2];show ∃ s,((sgF (q::l) (64+2*(U0 a.lo.num+U0 a.hi.num)+4*(a.p.length+p.length)*(Ge a.p+Ge p+(a.p.length+p.length)+8)) a).bind λx=>some (Ha p x.hi))=some s/\_;obtain ⟨w,hw⟩:=nmE (U0 a.lo.num+U0 a.hi.num);obtain ⟨K,hK⟩:=nmE (Ge a.p+Ge p+(a.p.length+p.length)+8);obtain ⟨n,hn⟩:=nmE (a.p.length+p.length);rw [<-hw,<-hK,<-hn];obtain ⟨gg,sq⟩:=hpt.sq;obtain ⟨_,_,_,_,_,pf0,pfe⟩:=Nh hp.t hp.nz;have hpq:I9 (cz q) (cz p):=⟨B7 (Gs p) (cz gg),λt=>by rw [Uq,Uq,Fp,Uq,pfe,sq.e]; grind⟩;obtain ⟨D,M,k,h1,h2,h3⟩:=ha.hv0;rw [AM pa] at h3;have b1:=(ha.qsn pa).1.1; have b2:=(ha.qsn pa).2.1;have l1:=ha.n; have l2:=hp.l; have l3:=ha.n2;have s1:=Av (ha.bi pa); have s2:=Av hp.b;have hst:4*n*K<=4*18*2466:=Zk (by omega) (by omega);have hend:∃ u k',sgF (q::l) (64+2*w+4*n*K) a=some u/\Hv a D M k' u/\(u.point=true\/H8 (q::l) u.lo u.hi=0):=by
   by_cases hpl:p.length<2
   ·have hq1:(Uv p)=[1]:=hp.pr.1.one (by have:=hp.pr.2.1; omega);have hql:q.length<2:=by
     have e:=sq.e;rw [hq1] at e;obtain ⟨p1,p2⟩:=Hx (c:=[1]) rfl (by simp) e;have:=S7 sq.pg.t sq.pq.t (c:=[1]) rfl e p1 p2;simp at this; omega
    have hbt:H8 (q::l) a.lo a.hi=0:=by
     rw [A8 (Qq V.l),hl0 hql,sq.pq.one hql];have hv1:∀ x:Rat,ev (cz [1]) x=1:=λx=>by rw [Uq,P5]
     simp only [Zx,X8,vv,tc,hv1]; omega
    refine ⟨a,k,?_,h1,.inr hbt⟩;obtain ⟨m,hm⟩:∃ m,64+2*w+4*n*K=m+1:=⟨63+2*w+4*n*K,by omega⟩;rw [hm];simp only [sgF];rw [if_pos (.inr hbt)]
   ·have hg:Rk a.p p=K*(2*(n-2)-1):=by unfold Rk; rw [hK,hn]
    have hgle:Rk a.p p+5*K<=2*n*K:=by
     rw [hg,Zo K,<-X4];exact Qz _ (by omega)
    have hKp:8<=K:=by omega
    have hnK:2*n*K<=4*n*K:=Qz _ (by omega);obtain ⟨u,k',u1,u2,u3⟩:=Qdp hp.t hp.l (by omega) hS hpq ha hnz h2 (64+2*w+4*n*K) (2+w+2*n*K) a k ((2^(w+1):Nat):Rat) (by omega) h1 (by omega) (UA (by omega)) (by
     have e:(2^(w+1))*(2^(Rk a.p p+1))<=2^(2+w+2*n*K):=by
      rw [<-Xc];exact Zr (by decide) (by omega)
     have:=Zh.2 e
     push_cast at this ⊢
     exact this)
    exact ⟨u,k',u1,u2,u3⟩
  obtain ⟨u,k',u1,u2,u3⟩:=hend;rw [u1];refine ⟨_,rfl,.inr ?_⟩;have hfin:Ha p u.hi=s:=by
   rcases u2.hi' with hz | hz
   ·have:=jV ca hz hnz;rw [Pv,<-Uq]; exact this
   ·rcases u2.i with ⟨e,_⟩ | ⟨L',V'⟩
    ·have:=u2.c u.hi;rw [Ee e,e,D3] at this; omega
    ·have hup:u.point=false:=by
      have:¬u.point=true:=λh=>by have:=S8.1 h; have:=V'.l; grind
      simpa using this
     rcases u3 with h | h
     ·rw [hup] at h; cases h
     ·rw [A8 (Qq V'.l)] at h;obtain ⟨s',hs',hps⟩:=dT hpt hp.t hp.nz hS V'.l (by omega);obtain ⟨d,dp,x,y,hx,hy,hq⟩:=hnz;have hlo1:Uz a u.lo=1:=by
       rcases u2.lo' with h | ⟨_,h⟩
       ·exact h
       ·have:=V'.l; clear hps hq; grind
      obtain ⟨m,m1,m2,m3⟩:=TC ca hlo1 hx;have e1:=(hq m (Qq m3) (Qq (ca.lt m1 hy))).1;have e2:=hps m m2 (Qq (ca.lt m1 hz));have e3:=hps u.hi V'.l Qo;rw [Pv,e3,<-e2,<-Uq,e1]
  rw [hfin]; exact ⟨NQ,hnz⟩
structure Dp (p:List Int):Prop where
 t:Uu p
 l:p.length<=9
 b:Bd (1130+4*(9-p.length)) p
theorem mJ:Szz 9 1253:=⟨by decide,by decide⟩
theorem Dp.ok {p:W9} (h:Dp p) (h0:p.length≠0):Okp 9 1180 p:=⟨mJ,h.t,h0,h.l,Uk h.b (by omega)⟩
theorem Dp.der {p:W9} (h:Dp p):Dp (Gj p):=by
 have hl:=Cg p;have hl2:=h.l;refine ⟨Fc _ _,by omega,?_⟩;by_cases h0:p.length=0
 ·rw [Qh (l:=Gj p) (by omega)]; exact Eo
 ·exact Uk (kG h.b (by omega)) (by omega)
def U4 (a:Tm) (p:W9):Int:=(KX p a).getD 0
theorem Qdn {p:W9} (h:Dp p) {a:Tm} (ha:Va a):KX p a=some (U4 a p)/\SgT p a (U4 a p):=by
 by_cases h0:p.length=0
 ·have e:p=[]:=Qh h0;subst e;refine ⟨rfl,.inl ⟨rfl,λd dp=>?_⟩⟩;obtain ⟨x,y,h1,h2,_⟩:=ha.cut.near (e:=1) (by decide);exact ⟨x,y,h1,h2,λq _ _=>by simp only [cz,X8,ev,He]; exact dp⟩
 ·obtain ⟨s,h1,h2⟩:=Qdw (h.ok h0) ha;have e:U4 a p=s:=by unfold U4; rw [h1]; rfl
  rw [e]; exact ⟨h1,h2⟩
theorem Qno {c:Rat->Int} {p q:Uc} {s:Int} (h:∀ t,ev p t=ev q t) (hp:RS p c s):RS q c s:=by
 obtain ⟨y,h1,h2⟩:=hp;exact ⟨y,h1,λz h3 h4=>by rw [<-h]; exact h2 z h3 h4⟩
theorem CH {a:Tm} (ha:Va a):∀ (k:Nat) (p:W9),Dp p->p.length<=k->p.length≠0->RS (cz p) (Uz a) (Ri (U4 a) k p)/\Ri (U4 a) k p≠0
 | 0,p,_,h1,h2=>by omega
 |
  k+1,p,h,h1,h2=>by
  simp only [Ri];rw [if_neg h2];obtain ⟨_,hs⟩:=Qdn h ha;rcases hs with ⟨e,hv⟩ | ⟨e,hn⟩
  ·rw [if_pos e];have hdn:(Gj p).length≠0:=λh0=>by
    by_cases h3:p.length=1
    ·obtain ⟨c,rfl⟩:∃ c,p=[c]:=V9.1 h3;have hc:c≠0:=by have:=Hu h.t (by simp); simpa using this
     obtain ⟨q,hq,_⟩:=jY ha.cut (hv (Uw (c:Rat)) (Nj (On hc)));rw [Uq] at hq;have:Up [c] q=(c:Rat):=by simp only [Up]; grind
     rw [this] at hq; grind
    ·have h4:=Mm p (p.length-2);rw [Qh h0,show p.length-2+1=p.length-1 by omega] at h4;have h5:p.getD (p.length-1) 0≠0:=Hu h.t (by omega);rcases J3.1 (h4.symm.trans (by simp)) with h6 | h6
     ·exact h5 h6
     ·omega
   have hl:=Cg p;obtain ⟨i1,i2⟩:=CH ha k (Gj p) h.der (by omega) hdn;exact ⟨IE ha.cut hv (Qno (λt=>by rw [Uq,Ao,H9]) i1) i2,i2⟩
  ·rw [if_neg e]; exact ⟨DI ha.cut hn,e⟩
theorem Dt {a:Tm} (ha:Va a) {p:W9} (h:Dp p) (h0:p.length≠0):RS (cz p) (Uz a) (Gn (U4 a) p)/\Gn (U4 a) p≠0:=CH ha _ p h (Qn _) h0
theorem Oj {a:Tm}:Gn (U4 a) []=0:=rfl
theorem Qho {l:W9}:∀ z∈l,z.natAbs≤I6 l:=by
 have key:∀ (l:W9) (m:Nat),m≤l.foldl (λm z=>if m<z.natAbs then z.natAbs else m) m/\∀ z∈l,z.natAbs≤l.foldl (λm z=>if m<z.natAbs then z.natAbs else m) m:=by
  intro l
  induction l with
  | nil=>exact λm=>⟨Qn _,λz hz=>by cases hz⟩
  |
   cons y l ih =>
   intro m;obtain ⟨e,he⟩:=nmE (if m<y.natAbs then y.natAbs else m);have h1:m<=e/\y.natAbs<=e:=by rw [he]; split <;> omega
   obtain ⟨i1,i2⟩:=ih e;simp only [Z4];rw [<-he];refine ⟨by omega,λz hz=>?_⟩;rcases Qk.1 hz with rfl | hz
   ·omega
   ·exact i2 z hz
 exact (key l 0).2
theorem RN {p:W9} (h:U3 p≠0):Fy p*((U3 p).natAbs:Rat)=((U3 p).natAbs:Rat)+((I6 (p.take (p.length-1)):Nat):Rat):=by
 unfold Fy;rw [<-G9];have hp:0<(U3 p).natAbs:=by omega
 have:=nat_pos hp;rw [show ((((U3 p).natAbs:Int)):Rat)=((U3 p).natAbs:Rat) from rfl,Gi this];rw [Ws]; rfl
theorem sM {m:Nat} {x:Rat} (hx:1≤Uw x):∀ (p:W9) (lp:p.length≠0),(∀ z∈p.take (p.length-1),z.natAbs≤m)->U3 p≠0->(m:Rat)≤(Uw x-1)*((U3 p).natAbs:Rat)->((U3 p).natAbs:Rat)≤Up p x*(((Int.sign (U3 p))*(if x<0/\p.length % 2=0 then -1 else 1):Int):Rat)
 | [],lp,_,_,_=>absurd rfl lp
 |
  [c],_,_,hc,_=>by
  have hl:U3 [c]=c:=rfl;rw [hl] at hc ⊢;rw [if_neg (by simp),Int.mul_one];have h1:Up [c] x=(c:Rat):=by simp only [Up]; grind
  rw [h1];have h2:c*Int.sign c=(c.natAbs:Int):=Int.mul_sign_self c;have:=congrArg (λz:Int=>(z:Rat)) h2;rw [Js] at this;rw [this]; exact Qo
 |
  c::d::p,_,hm,hc,hb=>by
  have hl:U3 (c::d::p)=U3 (d::p):=by unfold U3; simp [List.getD_cons_succ]
  have ih:=sM hx (d::p) (by simp) (λz hz=>hm z (by
   have e:(c::d::p).take ((c::d::p).length-1)=c::(d::p).take ((d::p).length-1):=by simp
   rw [e]; exact Qf _ hz)) (by rw [<-hl]; exact hc) (by rw [<-hl]; exact hb)
  rw [hl] at hc hb ⊢;have hcm:=hm c (by simp);obtain ⟨s,hs⟩:∃ s:Int,s=Int.sign (U3 (d::p)):=⟨_,rfl⟩;have hsv:s=1\/s=-1:=by
   rw [hs];rcases V1 hc with h | h
   ·exact .inr (Jv h)
   ·exact .inl (Yj h)
  rw [<-hs] at ih ⊢;obtain ⟨ld,hld⟩:∃ ld:Rat,ld=((U3 (d::p)).natAbs:Rat):=⟨_,rfl⟩;rw [<-hld] at ih hb ⊢;have hcq:Uw (c:Rat)<=(m:Rat):=by rw [Ry]; exact Zh.2 hcm
  rw [Sx] at hcq;have e1:Up (c::d::p) x=(c:Rat)+x*Up (d::p) x:=rfl;rw [e1];have hlen:(c::d::p).length % 2=0↔¬(d::p).length % 2=0:=by simp only [Q7]; omega
  generalize Up (d::p) x=y at *;generalize (m:Rat)=mm at *;generalize (c:Rat)=cc at *;have hx0:=hx;by_cases hneg:x<0
  ·have hq:Uw x=-x:=by unfold Uw; rw [if_pos hneg]
   rw [hq] at hx0 hb;by_cases hpar:(d::p).length % 2=0
   ·rw [if_pos ⟨hneg,hpar⟩] at ih;rw [if_neg λh=>(hlen.1 h.2) hpar];rcases hsv with rfl | rfl
    ·have ih:ld<=y*(-1):=by simpa using ih
     have:=Zv ih (show 0<=-x by grind);have e:(((1:Int)*1:Int):Rat)=1:=rfl;rw [e]; grind
    ·have ih:ld<=y*1:=by simpa using ih
     have:=Zv ih (show 0<=-x by grind);have e:(((-1:Int)*1:Int):Rat)=-1:=rfl;rw [e]; grind
   ·rw [if_neg λh=>hpar h.2] at ih;rw [if_pos ⟨hneg,hlen.2 hpar⟩];rcases hsv with rfl | rfl
    ·have ih:ld<=y*1:=by simpa using ih
     have:=Zv ih (show 0<=-x by grind);have e:(((1:Int)*-1:Int):Rat)=-1:=rfl;rw [e]; grind
    ·have ih:ld<=y*(-1):=by simpa using ih
     have:=Zv ih (show 0<=-x by grind);have e:(((-1:Int)*-1:Int):Rat)=1:=rfl;rw [e]; grind
  ·have hq:Uw x=x:=by unfold Uw; rw [if_neg hneg]
   rw [hq] at hx0 hb;rw [if_neg λh=>hneg h.1] at ih ⊢;rcases hsv with rfl | rfl
   ·have ih:ld<=y*1:=by simpa using ih
    have:=Zv ih (show 0<=x by grind);have e:(((1:Int)*1:Int):Rat)=1:=rfl;rw [e]; grind
   ·have ih:ld<=y*(-1):=by simpa using ih
    have:=Zv ih (show 0<=x by grind);have e:(((-1:Int)*1:Int):Rat)=-1:=rfl;rw [e]; grind
theorem kN {p:W9} (tp:Uu p) (lp:p.length≠0) {x:Rat} (hx:Fy p<=Uw x):1<=Uw (Up p x)/\(0<=x->Ha p x=YC p)/\(x<0->Ha p x=I4 p):=by
 have hl:=Du tp lp;have hpos:0<(U3 p).natAbs:=by omega
 have h1:(1:Rat)<=((U3 p).natAbs:Rat):=by
  have:((1:Nat):Rat)<=((U3 p).natAbs:Rat):=Zh.2 hpos;exact this
 have hm0:(0:Rat)<=((I6 (p.take (p.length-1)):Nat):Rat):=Xf;have hb:=RN hl;have hx1:=Q9 hx (show (0:Rat)<=((U3 p).natAbs:Rat) by grind);have hx2:1<=Uw x:=by
  rcases Fb 1 (Uw x) with h | h
  ·exact h
  ·exfalso;have:=Vk h (show (0:Rat)<((U3 p).natAbs:Rat) by grind);grind
 have key:=sM (m:=I6 (p.take (p.length-1))) hx2 p lp (λz hz=>Qho z hz) hl (by grind);obtain ⟨s,hs⟩:∃ s:Int,s=Int.sign (U3 p)*(if x<0/\p.length % 2=0 then -1 else 1):=⟨_,rfl⟩;rw [<-hs] at key;have hsv:s=1\/s=-1:=by
  rw [hs];rcases V1 hl with h | h
  ·rw [Jv h]; split <;> simp
  ·rw [Yj h]; split <;> simp
 have hsg:Ha p x=s/\1<=Uw (Up p x):=by
  rw [Pv];rcases hsv with e | e
  ·rw [e] at key ⊢;have key:((U3 p).natAbs:Rat)<=Up p x:=by simpa using key
   exact ⟨G5.2 (by grind),by unfold Uw; rw [if_neg (by grind)]; grind⟩
  ·rw [e] at key ⊢;have key:((U3 p).natAbs:Rat)<=Up p x*(-1):=by simpa using key
   exact ⟨Tp.2 (by grind),by unfold Uw; rw [if_pos (by grind)]; grind⟩
 refine ⟨hsg.2,λh=>?_,λh=>?_⟩
 ·rw [hsg.1,hs,if_neg λh'=>by have:=h'.1; grind]; unfold YC; omega
 ·rw [hsg.1,hs]; unfold I4;by_cases he:p.length % 2=0
  ·rw [if_pos ⟨h,he⟩,if_pos he]; omega
  ·rw [if_neg λh'=>he h'.2,if_neg he]; omega
theorem QR {f g:W9->Int}:∀ {l:Ua} (s:Nat×Int),(∀ p∈l,f p=g p)->l.foldl (Tw f) s=l.foldl (Tw g) s
 | [],s,_=>rfl
 |
  p::l,s,h=>by
  simp only [Z4];have e:Tw f s p=Tw g s p:=by unfold Tw; rw [h p (List.mem_cons_self ..)]
  rw [e]; exact QR _ λq hq=>h q (Qf _ hq)
theorem sH:∀ (l:Ua),(∀ p∈l,Uu p/\p.length≠0)->∃ X:Rat,0<X/\∀ x,X≤x->(∀ p∈l,Ha p x=YC p)/\∀ p∈l,Ha p (-x)=I4 p
 | [],_=>⟨1,by decide,λx _=>⟨(λp hp=>by cases hp),(λp hp=>by cases hp)⟩⟩
 |
  p::l,h=>by
  obtain ⟨X,hX,hl⟩:=sH l λq hq=>h q (Qf _ hq)
  obtain ⟨tp,lp⟩:=h p (Qx ..);refine ⟨X+Uw (Fy p),by have:=Gz (Fy p); grind,λx hx=>?_⟩;have hb0:=Gz (Fy p);have hb1:Fy p<=Uw (Fy p):=by unfold Uw; split <;> grind
  obtain ⟨l1,l2⟩:=hl x (by grind);have e1:Uw x=x:=by unfold Uw; rw [if_neg (by grind)]
  have e2:Uw (-x)=x:=by rw [Dy,e1]
  refine ⟨λq hq=>?_,λq hq=>?_⟩
  ·rcases Qk.1 hq with rfl | hq
   ·exact (kN tp lp (x:=x) (by rw [e1]; grind)).2.1 (by grind)
   ·exact l1 q hq
  ·rcases Qk.1 hq with rfl | hq
   ·exact (kN tp lp (x:=-x) (by rw [e2]; grind)).2.2 (by grind)
   ·exact l2 q hq
theorem rY {q:W9} {L:Ud} (hS:KC (cz q) L) (tq:Uu q) (lq:q.length≠0) {x y:Rat} (hxy:x<y) (h:Fy q<=x\/y<=-Fy q) (hb:0<Fy q):vv L x=vv L y:=by
 rcases Classical.em (vv L x=vv L y) with e | e
 ·exact e
 ·exfalso;obtain ⟨r,r1,r2,r3⟩:=OF hS hxy e (d:=1) (by decide);have:=(kN tq lq (x:=r) (by rcases h with h | h <;> (unfold Uw; split <;> grind))).1;rw [Uq] at r3; grind
theorem KI {p:W9} (h:U3 p≠0):1<=Fy p:=by
 have hb:=RN h;have hp:=nat_pos (show 0<(U3 p).natAbs by omega);have hm0:(0:Rat)<=((I6 (p.take (p.length-1)):Nat):Rat):=Xf;rcases Fb 1 (Fy p) with h' | h'
 ·exact h'
 ·have:=Vk h' hp; grind
theorem dD {q:W9} {l:Ua} (hS:KC (cz q) ((q::l).map cz)) (hl:∀ p∈q::l,Uu p/\p.length≠0):JM (q::l)=(vv ((q::l).map cz) (-Fy q):Int)-(vv ((q::l).map cz) (Fy q):Int):=by
 obtain ⟨tq,lq⟩:=hl q (Qx ..);have hb:=KI (Du tq lq);obtain ⟨X,hX,hx⟩:=sH (q::l) hl;obtain ⟨h1,h2⟩:=hx (X+Fy q) (by grind);have e1:No YC (q::l)=vv ((q::l).map cz) (X+Fy q):=by
  rw [<-Iv]; unfold Np No;rw [QR (f:=YC) (g:=λp=>Ha p (X+Fy q)) (0,0) λp hp=>(h1 p hp).symm]
 have e2:No I4 (q::l)=vv ((q::l).map cz) (-(X+Fy q)):=by
  rw [<-Iv]; unfold Np No;rw [QR (f:=I4) (g:=λp=>Ha p (-(X+Fy q))) (0,0) λp hp=>(h2 p hp).symm]
 unfold JM;rw [e1,e2,rY hS tq lq (x:=-(X+Fy q)) (y:=-Fy q) (by grind) (.inr Qo) (by grind),<-rY hS tq lq (x:=Fy q) (y:=X+Fy q) (by grind) (.inl Qo) (by grind)]
theorem Qm5 {f:Uc} {L:Ud} (hS:KC f L) {x y:Rat} (hxy:x<y) (hv:vv L y+2<=vv L x):∃ m,x<m/\m<y/\vv L m<vv L x/\vv L y<vv L m/\ev f m≠0:=by
 obtain ⟨R,hR,hx,hy⟩:=LP x y;obtain ⟨e,ep,he⟩:=Qef hS R hR;have key:∀ n:Nat,∀ x,Uw x<=R->x<y->vv L y+2<=vv L x->y-x<=(n:Rat)*e->∃ m,x<m/\m<y/\vv L m<vv L x/\vv L y<vv L m:=by
  intro n
  induction n with
  | zero=>intro x _ hxy _ hn; rw [show ((0:Nat):Rat)=0 from rfl] at hn; exfalso; clear he; grind
  |
   succ n ih =>
   intro x hx hxy hv hn;have hn':(((n+1:Nat):Rat))=(n:Rat)+1:=by push_cast; rfl
   rw [hn'] at hn;rcases Fb (y-x) e with h1 | h1
   ·have:=he x y hx hy hxy h1; omega
   ·have hm:Uw (x+e)<=R:=VQ hx hy (by clear he ih; grind) (by clear he ih; grind);have h2:=he x (x+e) hx hm (by clear he ih; grind) (by clear he ih; grind);have h3:=L8 hS (show x<x+e by clear he ih; grind);by_cases h4:vv L x=vv L (x+e)
    ·obtain ⟨m,m1,m2,m3,m4⟩:=ih (x+e) hm (by clear he ih; grind) (by omega) (by clear he ih; grind);exact ⟨m,by clear he ih; grind,m2,by omega,m4⟩
    ·exact ⟨x+e,by clear he ih; grind,by clear he ih; grind,by omega,by omega⟩
 obtain ⟨n,hn⟩:=Oa (z:=y-x) ep;obtain ⟨m,m1,m2,m3,m4⟩:=key n x hx hxy hv hn;rcases Classical.em (ev f m=0) with h0 | h0
 ·-- a little farther on
  obtain ⟨e2,e2p,hl⟩:=loc hR hS (w:=f) (u:=[1]) (λt=>by rw [Hw]; grind);obtain ⟨d,dp,d1,d2⟩:=min2 (a:=e2) (b:=(y-m) / 2) e2p (Lh (by clear he key hl; grind) (by decide));have h2:(y-m) / 2*2=y-m:=Gi (by decide);have hmR:Uw m<=R:=VQ hx hy (Qq m1) (Qq m2);have hmR2:Uw (m+d)<=R:=VQ hx hy (by clear he key hl; grind) (by clear he key hl; grind);rcases hl m (m+d) hmR hmR2 (by clear he key hl; grind) (by clear he key hl; grind) with ⟨p1,p2,_⟩ | ⟨_,p1,_,p3,_⟩
  ·refine ⟨m+d,by clear he key hl; grind,by clear he key hl; grind,by omega,by omega,λh'=>?_⟩;have:=p2.s;rw [Fj.2 h'] at this; exact p2.n this.symm
  ·rw [Fj.2 h0] at p3; exact absurd p3.symm p1
 ·exact ⟨m,m1,m2,m3,m4,h0⟩
theorem Qi6 {q:W9} {L:Ud} (hS:KC (cz q) L) (tq:Uu q) (nq:q.length<=9) (lq:2<=q.length) {lo hi:Rat} (hl:lo<hi) (hv:vv L hi+2<=vv L lo):1<(hi-lo)*((2^(Rk q q+1):Nat):Rat):=by
 rcases Fb ((hi-lo)*((2^(Rk q q+1):Nat):Rat)) 1 with hw | hw
 ·exfalso;have hpow:(0:Rat)<=((2^(Rk q q+1):Nat):Rat):=Xf;obtain ⟨m,m1,m2,m3,m4,m0⟩:=Qm5 hS hl hv;obtain ⟨R,hR,r1,r2⟩:=LP lo hi;have hd:=Nj m0;obtain ⟨d,dp,_,db⟩:=Gl (b:=NW R (cz q)) (d:=Uw (ev (cz q) m) / 2) (Pi hR _) (Lh hd (by decide));have hd2:Uw (ev (cz q) m) / 2*2=Uw (ev (cz q) m):=Gi (by decide);have hmR:Uw m<=R:=VQ r1 r2 (Qq m1) (Qq m2);have hnear:∀ r,Uw r<=R->Uw (ev (cz q) r)<Uw (ev (cz q) m) / 2->d<Uw (r-m):=λr hr hs=>by
   rcases Fb (Uw (r-m)) d with h | h
   ·exfalso;have h1:=Su (p:=cz q) hmR hr hR h db;have h2:=Rt (ev (cz q) m-ev (cz q) r) (ev (cz q) r);rw [show ev (cz q) m-ev (cz q) r+ev (cz q) r=ev (cz q) m by grind,mA] at h2;grind
   ·exact h
  refine Qat (R:=R+1) (d:=d+d) tq tq nq nq lq lq (by grind) (by grind) λe ep=>?_
  obtain ⟨e',ep',e1,e2⟩:=min2 (a:=e) (b:=Uw (ev (cz q) m) / 2) ep (Lh hd (by decide));obtain ⟨x,x1,x2,x3⟩:=OF hS m1 (by omega) ep';obtain ⟨y,y1,y2,y3⟩:=OF hS m2 (by omega) ep';have hxR:Uw x<=R:=VQ r1 r2 x1 (by grind);have hyR:Uw y<=R:=VQ r1 r2 (by grind) y2;have nx:=hnear x hxR (by grind);have ny:=hnear y hyR (by grind);have ex:Uw (x-m)=m-x:=by unfold Uw; split <;> grind
  have ey:Uw (y-m)=y-m:=by unfold Uw; split <;> grind
  rw [ex] at nx;rw [ey] at ny;have exy:Uw (x-y)=y-x:=by unfold Uw; split <;> grind
  refine ⟨x,y,by grind,by grind,by rw [exy]; grind,?_,by rw [<-Uq]; grind,by rw [<-Uq]; grind⟩;rw [exy];exact Zg (Q9 (show y-x<=hi-lo by grind) hpow) hw
 ·exact hw
end Orq
