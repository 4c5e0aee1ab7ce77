/- T10 T11 T12 T13 T14 T15 T16 T17 F6 F7 F8 W1 T18 T19 T20 T21 -/
import Derived.Test.YtbhhcpcpionelaaGreatPart05
import Derived.Test.YtbhhcpcpionelaaGreatPart00
set_option linter.all false
namespace Orq
def CP (A B:Ui) (b J J' n k j:Nat):Int:=if n<b*J then RP (n / J) (n % J) (fA A) k j else RP ((n-b*J) / J') ((n-b*J) % J') (gc B) k j
theorem Qfc {F:Nat->Nat->Int} {h:Nat} (hF:∀ k j,(F k j).natAbs<=h) (i j' k j:Nat):(RP i j' F k j).natAbs<=h:=by
 unfold RP; split
 ·split
  ·exact hF _ _
  ·exact Qi _
 ·exact Qi _
theorem Ql1 {i b J j:Nat} (hi:i<b) (hj:j<J):i*J+j<b*J:=by
 have:(i+1)*J<=b*J:=Qx J hi;rw [Z8] at this; omega
theorem FH {i J j:Nat} (hj:j<J):(i*J+j) / J=i/\(i*J+j) % J=j:=by
 rw [Zn,W5 (by omega),W6,Vw hj,Xs hj]; exact ⟨by omega,rfl⟩
theorem AY (A B:Ui) (a b J J':Nat) (v:Nat->Int) (k j:Nat):sm (b*J+a*J') (λn=>CP A B b J J' n k j*v n) =
 (sm b λi=>sm J λj1=>RP i j1 (fA A) k j*v (i*J+j1))+sm a λi=>sm J' λj1=>RP i j1 (gc B) k j*v (b*J+(i*J'+j1)):=by
 rw [tG,tH,tH];congr 1
 ·refine Dt b λi hi=>Dt J λj1 hj=>?_
  unfold CP;rw [if_pos (Ql1 hi hj),(FH hj).1,(FH hj).2]
 ·refine Dt a λi hi=>Dt J' λj1 hj=>?_
  unfold CP;rw [if_neg (by omega),Jh,(FH hj).1,(FH hj).2]
theorem Qq9 (A:Ui) (v:Nat->Int) {i J k j:Nat} (hj:j<J):(sm J λj1=>RP i j1 (fA A) k j*v (i*J+j1))=if i<=k then A.getD (k-i) 0*v (i*J+j) else 0:=by
 rw [BR (k:=j) J hj λj1 _ hne=>?_]
 ·unfold RP fA;by_cases h:i<=k
  ·rw [if_pos h,if_pos h,if_pos (Ql _),if_pos (Kd _)]
  ·rw [if_neg h,if_neg h,Yx]
 ·unfold RP fA;by_cases h:i<=k
  ·rw [if_pos h];by_cases h':j1<=j
   ·rw [if_pos h',if_neg (by omega),Yx]
   ·rw [if_neg h',Yx]
  ·rw [if_neg h,Yx]
section
variable {A B:Ui} {a b J J':Nat} (hA:A.length=a+1) (hB:B.length=b+1) (lA:A.getD a 0≠0) (lB:B.getD b 0≠0) (hJ:J=J'+b) {v:Nat->Int} (hW:∀ k j,k<a+b->j<J->sm (b*J+a*J') (λn=>CP A B b J J' n k j*v n)=0)
include hA lA hW in
theorem Qlq {jj:Nat} (hj:jj<J) (hV:∀ k,a<=k->k<a+b->(sm a λi=>sm J' λj1=>RP i j1 (gc B) k jj*v (b*J+(i*J'+j1)))=0):∀ d i,i<b->b-i<=d->v (i*J+jj)=0:=by
 intro d
 induction d with
 | zero=>intro i hi hd; omega
 |
  succ d ih =>
  intro i hi hd;have h1:=hW (i+a) jj (by omega) hj;rw [AY,hV (i+a) (by omega) (by omega)] at h1;rw [Dt b (λi' hi'=>Qq9 A v hj)] at h1;rw [BR (k:=i) b hi λi' hi' hne=>?_] at h1
  ·rw [if_pos (by omega),Jh,Int.add_zero] at h1;rcases Jy.1 h1 with h2 | h2
   ·exact absurd h2 lA
   ·exact h2
  ·rcases Zd i i' with h | h
   ·rw [ih i' hi' (by omega)]; simp
   ·rw [if_pos (by omega),Qk,Qz (by omega)]; simp
include hA hB lA lB hJ hW in
theorem Qrc:∀ d js,js<J'->J'-js<=d->∀ i,i<a->v (b*J+(i*J'+js))=0:=by
 intro d
 induction d with
 | zero=>intro js hi hd; omega
 |
  succ d ih =>
  intro js hjs hd i hi;have hin:∀ i' k,i'<a->(sm J' λj1=>RP i' j1 (gc B) k (js+b)*v (b*J+(i'*J'+j1)))=if i'=k then gc B 0 b*v (b*J+(i'*J'+js)) else 0:=λi' k hi'=>by
   rw [BR (k:=js) J' hjs λj1 hj1 hne=>?_]
   ·unfold RP;by_cases h:i'<=k
    ·rw [if_pos h,if_pos (by omega),Jh];by_cases h':i'=k
     ·rw [if_pos h',h',Kd]
     ·rw [if_neg h',TR B _ _ (by omega),Yx]
    ·rw [if_neg h,if_neg (by omega),Yx]
   ·rcases Zd js j1 with h | h
    ·rw [ih j1 hj1 (by omega) i' hi',K0]
    ·unfold RP;by_cases h':i'<=k
     ·rw [if_pos h',if_pos (by omega),TR B _ _ (by omega),Yx]
     ·rw [if_neg h',Yx]
  have hU:=Qlq hA lA hW (jj:=js+b) (by omega) (λk hk hk'=>XE a λi' hi'=>by rw [hin i' k hi',if_neg (by omega)]) (b+1);have h1:=hW i (js+b) (by omega) (by omega);rw [AY,Dt a (λi' hi'=>hin i' i hi')] at h1;rw [XE b λi' hi'=>by
   rw [Qq9 A v (by omega),hU i' hi' (by omega)]; simp] at h1
  rw [BR (k:=i) a hi λi' hi' hne=>if_neg hne,if_pos rfl,Int.zero_add] at h1;rcases Jy.1 h1 with h2 | h2
  ·have:=Qcl B b hB; rw [h2] at this; omega
  ·exact h2
include hA hB lA lB hJ hW in
theorem iM:∀ n,n<b*J+a*J'->v n=0:=by
 intro n hn;have hV:=Qrc hA hB lA lB hJ hW;rcases Zd n (b*J) with h | h
 ·have hJp:0<J:=by
   rcases Q5 J with e | e
   ·rw [e,Yy] at h; omega
   ·exact e
  have e1:=Z6 n hJp;have e2:n / J<b:=X6 (by rw [Zn]; exact h);have:=Qlq hA lA hW e1 (λk _ _=>XE a λi hi=>XE J' λj1 hj1=>by rw [hV J' j1 hj1 (by omega) i hi,K0]) (b+1) (n / J) e2 (Qc (Nat.sub_le _ _) (Nat.le_succ _));rwa [Zn,Xb] at this
 ·have hJp:0<J':=by
   rcases Q5 J' with e | e
   ·rw [e,Yy] at hn; omega
   ·exact e
  have e1:=Z6 (n-b*J) hJp;have e2:(n-b*J) / J'<a:=X6 (by rw [Zn J' a]; omega);have:=hV J' _ e1 (by omega) _ e2;rw [Zn ((n-b*J) / J'),Xb] at this;rwa [show b*J+(n-b*J)=n by omega] at this
end
theorem XB {R x:Rat} (h1:1<=R) (hx:Fa x<=R):∀ k:Nat,Fa (x^k)<=R^k/\1<=R^k
 | 0=>by rw [Z4,Z4]; exact ⟨by decide,by decide⟩
 |
  k+1=>by
  obtain ⟨i1,i2⟩:=XB h1 hx k;rw [Zu,Zu];have:=Be (a:=1) (c:=1) (by decide) i2 (by decide) h1;exact ⟨Gx i1 hx,by grind⟩
theorem cM {R:Rat} (h1:1<=R) {i:Nat}:∀ k,i<=k->R^i<=R^k
 | 0,h=>by rw [show i=0 by omega]; exact Qp
 |
  k+1,h=>by
  rcases Vj h with e | e
  ·have:=cM h1 (i:=i) k (by omega);have h2:=(XB h1 (x:=0) (by rw [Hy]; grind) k).2;rw [Zu];have:=Be (a:=R^k) (b:=R^k) (c:=1) (d:=R) (by grind) Qp (by decide) h1;grind
  ·rw [e]; exact Qp
theorem Qfb {F:Nat->Nat->Int} {i j' K J:Nat} {x y R X:Rat} {K2 J2:Nat} (h1:1<=R) (hx:Fa x<=R) (hy:Fa y<=R) (hK:K=i+K2) (hJ:J=j'+J2) (hF:E2 F K2 J2 x y=X):Fa (E2 (RP i j' F) K J x y)<=R^(K+J)*Fa X:=by
 subst hK; subst hJ;rw [MK,hF,Ap];have a1:=(XB h1 hy i).1;have a2:=(XB h1 hx j').1;have a3:=Gx a1 a2;rw [<-WB] at a3;have a4:=cM h1 (i:=i+j') (i+K2+(j'+J2)) (by omega);exact Be (Hj _) (Zh a3 a4) (Hj _) Qp
theorem Qpl {A B:Ui} {a b h:Nat} (hA:A.length=a+1) (hB:B.length=b+1) (lA:A.getD a 0≠0) (lB:B.getD b 0≠0) (ha:0<a) (hb:0<b) (h0:1<=h) (bA:∀ k,(A.getD k 0).natAbs<=h) (bB:gB B<=h) {J J' N H:Nat} (hJ:J=2*(a*b)) (hJ':J=J'+b) (hN:N=b*J+a*J') (hH:H=(2*(N*h))^(2*(a+b-1))) :
 ∃ w:Nat->Int,(∃ j,j<J/\w j≠0)/\(∀ j,(w j).natAbs<=N*(h*H))/\∀ R:Rat,1<=R->∃ C:Rat,0<=C/\∀ x y,Fa x<=R->Fa y<=R->Fa (sq J λj=>(w j:Rat)*x^j)<=C*(Fa (Uy A y)+Fa (Uy B (y-x))):=by
 have hab:0<a*b:=J1 ha hb;have hbd:∀ n k j,(CP A B b J J' n k j).natAbs<=h:=λn k j=>by
  unfold CP
  split
  ·exact Qfc (λk j=>by unfold fA; split; exact bA k; exact Nat.zero_le _) _ _ _ _
  ·exact Qfc (λk j=>Qc (Qck B k j) bB) _ _ _ _
 have hJp:0<J:=by omega
 have hNp:1<=N:=by
  have:0<b*J:=J1 hb hJp;omega
 have hNh:1<=N*h:=J1 hNp h0;obtain ⟨E,hE⟩:=nmE ((a+b-1)*J);have hNE:N=E+a*b:=by
  have e1:(a+b-1)*J+J=(a+b)*J:=by
   rw [<-Z8]; congr 1; omega
  have e2:a*J=a*J'+a*b:=by rw [hJ',Xj]
  rw [X2] at e1;omega
 have hc:(2*(N*(h*H))+1)^E<(H+1)^N:=by
  have c1:2*(N*(h*H))+1<=2*(N*h)*(H+1):=by
   rw [Xj,Yv,Xx 2,Xx N]; omega
  refine Z3 (Nat.pow_le_pow_left c1 E) ?_;rw [Nat.mul_pow,hNE,Xe,Zn];refine Nat.mul_lt_mul_of_pos_left ?_ (Z2 (by omega));have e1:(2*(N*h))^E=H^(a*b):=by
   rw [hH,<-W8,hE,hJ]; congr 1;rw [Zn 2 (a+b-1),Xx]
  rw [<-hNE,e1];exact Nat.pow_lt_pow_left (by omega) (by omega)
 obtain ⟨v,v1,⟨n0,n1,n2⟩,v3⟩:=Qpp (M:=λe n=>CP A B b J J' n (e / J+1) (e % J)) (h:=h) (N:=N) (E:=E) (H:=H) (λe n=>hbd n _ _) hc;have hW:∀ k j,1<=k->k<a+b->j<J->sm N (λn=>CP A B b J J' n k j*v n)=0:=λk j k1 k2 hj=>by
  have:=v3 ((k-1)*J+j) (by rw [hE]; exact Ql1 (by omega) hj);rwa [(FH hj).1,(FH hj).2,show k-1+1=k by omega] at this
 refine ⟨λj=>sm N λn=>CP A B b J J' n 0 j*v n,?_,λj=>?_,λR hR=>?_⟩
 ·rcases Classical.em (∃ j,j<J/\(sm N λn=>CP A B b J J' n 0 j*v n)≠0) with e | e
  ·exact e
  ·exfalso;refine n2 (iM hA hB lA lB hJ' (v:=v) (λk j hk hj=>?_) n0 (by rw [<-hN]; exact n1));rw [<-hN];rcases Q5 k with e' | e'
   ·subst e';rcases Classical.em ((sm N λn=>CP A B b J J' n 0 j*v n)=0) with e2 | e2
    ·exact e2
    ·exact absurd ⟨j,hj,e2⟩ e
   ·exact hW k j e' hk hj
 ·refine Qfi N λn _=>?_
  rw [J6];exact Q7 (hbd n 0 j) (v1 n)
 ·have hRp:∀ k:Nat,1<=R^k:=λk=>(XB hR (x:=0) (by rw [Hy]; grind) k).2
  have hHn:(0:Rat)<=(H:Rat):=Xi;have hNn:(0:Rat)<=(N:Rat):=Xi;refine ⟨(N:Rat)*((H:Rat)*R^(a+b+J)),M4 hNn (M4 hHn (by have:=hRp (a+b+J); grind)),λx y hx hy=>?_⟩;have e1:(sq J λj=>((sm N λn=>CP A B b J J' n 0 j*v n:Int):Rat)*x^j)=E2 (λk j=>sm N λn=>CP A B b J J' n k j*v n) (a+b) J x y:=by
   unfold E2;obtain ⟨m,hm⟩:∃ m,a+b=m+1:=⟨a+b-1,by omega⟩;rw [hm,Iz,Bs (n:=m)]
   ·have:(sq J λj=>((sm N λn=>CP A B b J J' n 0 j*v n:Int):Rat)*(y^0*x^j))=sq J λj=>((sm N λn=>CP A B b J J' n 0 j*v n:Int):Rat)*x^j:=S5 J λj _=>by rw [Z4]; grind
    rw [this]; grind
   ·intro k hk;refine Bs J λj hj=>?_
    show ((sm N λn=>CP A B b J J' n (k+1) j*v n:Int):Rat)*_=0;rw [hW (k+1) j (by omega) (by omega) hj,show ((0:Int):Rat)=0 from rfl]; grind
  rw [e1,Qb3];have key:∀ n,n<N->Fa ((v n:Rat)*E2 (CP A B b J J' n) (a+b) J x y)<=(H:Rat)*(R^(a+b+J)*(Fa (Uy A y)+Fa (Uy B (y-x)))):=λn hn=>by
   have hvn:Fa (v n:Rat)<=(H:Rat):=by
    have h1:=v1 n;have h2:(v n)<=(H:Int):=by omega
    have h3:-(H:Int)<=v n:=by omega
    have h2:=Ja.2 h2;have h3:=Ja.2 h3;rw [V6] at h3;rw [Pq]; exact ⟨h3,h2⟩
   refine Gx hvn ?_;have hRk:=hRp (a+b+J);have n1:=Hj (Uy A y);have n2:=Hj (Uy B (y-x));rcases Zd n (b*J) with h | h
   ·have e:CP A B b J J' n=RP (n / J) (n % J) (fA A):=by funext k j; unfold CP; rw [if_pos h]
    have d1:n / J<b:=X6 (by rw [Zn]; exact h);have d2:=Z6 n hJp;rw [e];refine Zh (Qfb (K2:=a+b-n / J) (J2:=J-n % J) hR hx hy (by omega) (by omega) (X:=Uy A y) ?_) (Be (by grind) Qp n1 (by grind));obtain ⟨m,hm⟩:∃ m,J-n % J=m+1:=⟨J-n % J-1,by omega⟩;rw [hm]; exact Qre A _ _ x y (by omega)
   ·have e:CP A B b J J' n=RP ((n-b*J) / J') ((n-b*J) % J') (gc B):=by funext k j; unfold CP; rw [if_neg (by omega)]
    have hJp':0<J':=by
     rcases Q5 J' with e | e
     ·rw [e,Yy] at hN; omega
     ·exact e
    have d1:(n-b*J) / J'<a:=X6 (by rw [Zn J' a]; omega);have d2:=Z6 (n-b*J) hJp';rw [e];refine Zh (Qfb (K2:=a+b-(n-b*J) / J') (J2:=J-(n-b*J) % J') hR hx hy (by omega) (by omega) (X:=Uy B (y-x)) ?_) (Be (by grind) Qp n2 (by grind));exact Qnx x y B _ _ (by omega) (by omega)
  have:=Qmf N key;refine Zh this ?_;have:(N:Rat)*((H:Rat)*(R^(a+b+J)*(Fa (Uy A y)+Fa (Uy B (y-x)))))=(N:Rat)*((H:Rat)*R^(a+b+J))*(Fa (Uy A y)+Fa (Uy B (y-x))):=by grind
  rw [this]; exact Qp
end Orq
namespace Orq
theorem Qfm {w:Nat->Int} {x:Rat} {D:Rat} (hx:Fa x*2<=1) (hw:∀ j,Fa (w j:Rat)<=D):∀ J (k:Nat),Fa (sq J λj=>(w (k+j):Rat)*x^j)<=2*D
 | 0,k=>by have:=hw 0; have:=Hj (w 0:Rat); simp only [sq,Hy]; clear hw; grind
 |
  J+1,k=>by
  have ih:=Qfm hx hw J (k+1);rw [Iz];have e:(sq J λi=>(w (k+(i+1)):Rat)*x^(i+1))=x*sq J λi=>(w (k+1+i):Rat)*x^i:=by
   rw [<-ZL]; exact S5 J λi _=>by rw [Zu,show k+(i+1)=k+1+i by omega]; grind
  rw [e,Z4,Xk];have h1:=hw k;have h2:=To ((w k:Rat)*1) (x*sq J λi=>(w (k+1+i):Rat)*x^i);have h3:=Gx (x:=x) (y:=sq J λi=>(w (k+1+i):Rat)*x^i) Qp ih;have h4:=Q8 hx (show (0:Rat)<=D by have:=Hj (w k:Rat); clear hw; grind);have h5:(w k:Rat)*1=w k:=by grind
  rw [h5] at h2 ⊢;clear hw; grind
theorem YL {z:Int} (h:z≠0):1<=Fa (z:Rat):=by
 unfold Fa;rcases V8 h with h | h
 ·have:((z:Int):Rat)<((0:Int):Rat):=Jk.2 h;have h2:((1:Int):Rat)<=((-z:Int):Rat):=Ja.2 (by omega);rw [if_pos (by simpa using this)];rw [V6] at h2;simpa using h2
 ·have:((0:Int):Rat)<((z:Int):Rat):=Jk.2 h;have h2:((1:Int):Rat)<=((z:Int):Rat):=Ja.2 (by omega);rw [if_neg (by
   have:(0:Rat)<z:=by simpa using this
   grind)]
  simpa using h2
theorem gC {w:Nat->Int} {x:Rat} {D:Rat} (hD:1<=D) (hx0:0<Fa x) (hx:Fa x*(4*D)<=1) (hw:∀ j,Fa (w j:Rat)<=D):∀ J (k:Nat),(∃ j,j<J/\w (k+j)≠0)->Fa x^J / 2<=Fa (sq J λj=>(w (k+j):Rat)*x^j)
 | 0,k,⟨j,h,_⟩=>by omega
 |
  J+1,k,⟨j,h1,h2⟩=>by
  have hx2:Fa x*2<=1:=by
   have:=Be (a:=Fa x) (c:=2) (Qq hx0) Qp (by decide) (show (2:Rat)<=4*D by clear hw; grind);exact Zh this hx
  have hx1:Fa x<=1:=by clear hw; grind
  have hp:∀ k:Nat,Fa x^k<=1/\0<=Fa x^k:=λk=>by
   induction k with
   | zero=>rw [Z4]; exact ⟨by decide,by decide⟩
   |
    succ k ih =>
    rw [Zu];have:=Be ih.2 ih.1 (Qq hx0) hx1;have:=M4 ih.2 (Qq hx0);constructor <;> (clear hw; grind)
  rw [Iz];have e:(sq J λi=>(w (k+(i+1)):Rat)*x^(i+1))=x*sq J λi=>(w (k+1+i):Rat)*x^i:=by
   rw [<-ZL]; exact S5 J λi _=>by rw [Zu,show k+(i+1)=k+1+i by omega]; grind
  rw [e,Z4,Xk k,show (w k:Rat)*1=w k by grind];by_cases h0:w k=0
  ·have hj:j≠0:=λe=>h2 (by rw [e]; exact h0)
   have ih:=gC hD hx0 hx hw J (k+1) ⟨j-1,by omega,by rw [show k+1+(j-1)=k+j by omega]; exact h2⟩;rw [h0,show ((0:Int):Rat)+x*(sq J λi=>(w (k+1+i):Rat)*x^i)=x*sq J λi=>(w (k+1+i):Rat)*x^i by rw [show ((0:Int):Rat)=0 from rfl]; grind,Ap,Zu];have:=Zx ih (Qq hx0);have e2:Fa x*(Fa x^J / 2)=Fa x^J*Fa x / 2:=by rw [X3,X3]; grind
   rw [e2] at this; exact this
  ·have a1:=YL h0;have a2:=Qfm hx2 hw J (k+1);have a3:=Gx (x:=x) (y:=sq J λi=>(w (k+1+i):Rat)*x^i) Qp a2;have a4:=To ((w k:Rat)+x*sq J λi=>(w (k+1+i):Rat)*x^i) (-(x*sq J λi=>(w (k+1+i):Rat)*x^i));rw [Lp,show (w k:Rat)+(x*sq J λi=>(w (k+1+i):Rat)*x^i)+-(x*sq J λi=>(w (k+1+i):Rat)*x^i)=w k by grind] at a4;have a5:=(hp (J+1)).1;have a6:Fa x^(J+1) / 2*2=Fa x^(J+1):=Gy (by decide);have a7:Fa x*(2*D)*2=Fa x*(4*D):=by grind
   clear hw hp; grind
theorem Qn8 {A B:Ui} {a b h:Nat} (hA:A.length=a+1) (hB:B.length=b+1) (lA:A.getD a 0≠0) (lB:B.getD b 0≠0) (ha:0<a) (hb:0<b) (h0:1<=h) (bA:∀ k,(A.getD k 0).natAbs<=h) (bB:gB B<=h) {N D:Nat} (hN:b*(2*(a*b))+a*(2*(a*b)-b)=N) (hD:N*(h*(2*(N*h))^(2*(a+b-1)))<=D) {R d:Rat} (hR:1<=R) (dp:0<d)
 (hs:∀ e:Rat,0<e->∃ q r,Fa q<=R/\Fa r<=R/\d<=Fa (q-r)/\Fa (q-r)*(4*(D:Rat))<=1/\Fa (Uy A q)<e/\Fa (Uy B r)<e):False:=by
 have hab:0<a*b:=J1 ha hb;have hbab:b<=a*b:=by
  have:=Qx b (show 1<=a from ha); omega
 obtain ⟨w,⟨j,hj,hw0⟩,hw,hC⟩:=Qpl hA hB lA lB ha hb h0 bA bB (J:=2*(a*b)) (J':=2*(a*b)-b) rfl (by omega) hN.symm rfl;obtain ⟨C,hC0,hC⟩:=hC (2*R) (by grind);have hw':∀ j,Fa (w j:Rat)<=(D:Rat):=λj=>by
  have h1:=Qc (hw j) hD;have h2:w j<=(D:Int):=by omega
  have h3:-(D:Int)<=w j:=by omega
  have h2:=Ja.2 h2;have h3:=Ja.2 h3;rw [V6] at h3;rw [Pq]; exact ⟨h3,h2⟩
 have hD1:(1:Rat)<=(D:Rat):=by
  have:=YL hw0;exact Zh this (hw' j)
 have hdJ:0<d^(2*(a*b)) / 2:=Ed (Rat.pow_pos dp) (by decide);obtain ⟨e,ep,_,he⟩:=G5 (b:=C*2) (d:=d^(2*(a*b)) / 2) (by grind) hdJ;obtain ⟨q,r,q1,r1,d1,d2,aq,br⟩:=hs e ep;have h1:=hC (q-r) q (by
  have:=To q (-r); rw [Lp] at this; have:q-r=q+-r:=by grind
  grind) (by grind)
 rw [show q-(q-r)=r by grind] at h1;have h2:=gC (x:=q-r) hD1 (by grind) d2 hw' (2*(a*b)) 0 ⟨j,hj,by rw [Zv]; exact hw0⟩;simp only [Zv] at h2;have h3:C*(Fa (Uy A q)+Fa (Uy B r))<=C*(e+e):=Zx (by grind) hC0;have h4:d^(2*(a*b))<=Fa (q-r)^(2*(a*b)):=by
  generalize 2*(a*b)=J
  induction J with
  | zero=>rw [Z4,Z4]; exact Qp
  |
   succ J ih =>
   rw [Zu,Zu];exact Be (Qq (Rat.pow_pos dp)) ih (Qq dp) d1
 have h5:d^(2*(a*b)) / 2*2=d^(2*(a*b)):=Gy (by decide);have h6:Fa (q-r)^(2*(a*b)) / 2*2=Fa (q-r)^(2*(a*b)):=Gy (by decide);clear hC hs hw hw';grind
def HD (p:Ul) (n:Nat):Prop:=p.getD n 0≠0/\∀ k,n<k->p.getD k 0=0
theorem Hz:∀ (p q:Ul) (k:Nat),(Tp p q).getD k 0=p.getD k 0+q.getD k 0
 | [],q,k=>by simp only [Tp,Km]; grind
 | a::p,[],k=>by simp only [Tp,Km]; grind
 | a::p,b::q,0=>by simp only [Tp,Zr]
 | a::p,b::q,k+1=>by simp only [Tp,Q3]; exact Hz p q k
theorem Tl (c:Rat):∀ (p:Ul) (k:Nat),(C0 c p).getD k 0=c*p.getD k 0
 | [],k=>by simp only [C0,Jc,Km]; grind
 | a::p,0=>by simp [C0]
 | a::p,k+1=>by have:=Tl c p k; simp only [C0,Zz,Q3] at *; exact this
theorem Qct {p:Ul} {k:Nat} (h:∀ x∈p,x=0):p.getD k 0=0:=by
 rw [Qk];cases e:p[k]? with
 | none=>rfl
 | some x=>exact h x (Qa e)
theorem Cv {p q:Ul} (h:∀ t,ev p t=ev q t) (k:Nat):p.getD k 0=q.getD k 0:=by
 have h1:=Qct (k:=k) (VS (p:=Tp p (C0 (-1) q)) λt _ _=>by rw [Gp,Gh,h t]; grind);rw [Hz,Tl] at h1; grind
theorem Da:∀ {p:Ul},(∀ k,p.getD k 0=0)->∀ t,ev p t=0
 | [],_,t=>rfl
 |
  a::p,h,t=>by
  have h0:=h 0;have h1:=Da (p:=p) (λk=>by have:=h (k+1); rwa [Q3] at this) t;rw [Zr] at h0;simp only [ev,h0,h1]; grind
theorem ME:∀ (p:Ul),(∀ t,ev p t=0)\/∃ n,n<p.length/\HD p n
 | []=>.inl λ_=>rfl
 |
  a::p=>by
  rcases ME p with h | ⟨n,hn,h1,h2⟩
  ·rcases Classical.em (a=0) with e | e
   ·exact .inl λt=>by simp only [ev,e,h t]; grind
   ·refine .inr ⟨0,by simp,by simpa using e,λk hk=>?_⟩;obtain ⟨m,rfl⟩:∃ m,k=m+1:=⟨k-1,by omega⟩;rw [Q3];exact (Cv (p:=p) (q:=[]) h m).trans (by simp)
  ·refine .inr ⟨n+1,by simp; omega,by rw [Q3]; exact h1,λk hk=>?_⟩;obtain ⟨m,rfl⟩:∃ m,k=m+1:=⟨k-1,by omega⟩;rw [Q3]; exact h2 m (by omega)
theorem Qlz {p q:Ul} {n:Nat} (h:∀ t,ev p t=ev q t) (hp:HD p n):HD q n :=
 ⟨by rw [<-Cv h]; exact hp.1,λk hk=>by rw [<-Cv h]; exact hp.2 k hk⟩
theorem Ql0 {p:Ul} {n m:Nat} (h:HD p n) (h':HD p m):n=m:=by
 rcases Kh n m with e | e | e
 ·exact absurd (h.2 m e) h'.1
 ·exact e
 ·exact absurd (h'.2 n e) h.1
theorem mO {p:Ul} {n:Nat} (h:HD p n):¬∀ t,ev p t=0:=λh0=>h.1 ((Cv (p:=p) (q:=[]) h0 n).trans (by simp))
theorem HG {p q:Ul} (h:∀ k,p.getD k 0=0) (k:Nat):(Gt p q).getD k 0=0:=by
 have:=Cv (p:=Gt p q) (q:=[]) (λt=>by rw [U8,Da h t]; simp only [ev]; grind) k;rw [this]; simp
theorem MA:∀ {p q:Ul} {m n:Nat},HD p m->HD q n->HD (Gt p q) (m+n)
 | [],q,m,n,h,_=>absurd (by simp) h.1
 |
  a::p,q,0,n,h,h'=>by
  have h1:∀ k,p.getD k 0=0:=λk=>by have:=h.2 (k+1) (by omega); rwa [Q3] at this
  have h2:∀ k,(Gt (a::p) q).getD k 0=a*q.getD k 0:=λk=>by
   simp only [Gt];rw [Hz,Tl];cases k with
   | zero=>rw [Zr]; grind
   | succ k=>rw [Q3,HG h1]; grind
  have h3:=h.1;rw [Zr] at h3;refine ⟨?_,λk hk=>?_⟩
  ·rw [h2,Zv]; exact λh=>(X7.1 h).elim h3 h'.1
  ·rw [h2,h'.2 k (by omega)]; grind
 |
  a::p,q,m+1,n,h,h'=>by
  have ih:=MA (p:=p) (q:=q) (m:=m) ⟨by have:=h.1; rwa [Q3] at this,λk hk=>by have:=h.2 (k+1) (by omega); rwa [Q3] at this⟩ h';refine ⟨?_,λk hk=>?_⟩
  ·simp only [Gt];rw [Hz,Tl,show m+1+n=(m+n)+1 by omega,Q3,h'.2 _ (by omega)];have:=ih.1; grind
  ·obtain ⟨j,rfl⟩:∃ j,k=j+1:=⟨k-1,by omega⟩;simp only [Gt];rw [Hz,Tl,Q3,h'.2 _ (by omega),ih.2 j (by omega)]; grind
def QV (g f:Ul):Prop:=∃ u,∀ t,ev f t=ev g t*ev u t
theorem dvd_refl (f:Ul):QV f f:=⟨[1],λt=>by rw [Ro]; grind⟩
theorem dvd_trans {f g h:Ul}:QV f g->QV g h->QV f h
 | ⟨u,hu⟩,⟨v,hv⟩=>⟨Gt u v,λt=>by rw [hv,hu,U8]; grind⟩
theorem yO {p q:Ul} (h:∀ t,ev p t*ev q t=0) (hp:¬∀ t,ev p t=0):∀ t,ev q t=0:=by
 rcases ME p with h1 | ⟨m,_,h1⟩
 ·exact absurd h1 hp
 ·rcases ME q with h2 | ⟨n,_,h2⟩
  ·exact h2
  ·exact absurd (λt=>by rw [U8]; exact h t) (mO (MA h1 h2))
theorem fV {p q r:Ul} (hp:¬∀ t,ev p t=0) (h:∀ t,ev p t*ev q t=ev p t*ev r t) (t:Rat):ev q t=ev r t:=by
 have:=yO (p:=p) (q:=Tp q (C0 (-1) r)) (λt=>by rw [Gp,Gh]; have:=h t; grind) hp t;rw [Gp,Gh] at this; grind
theorem Qbx {b:Ul} {n:Nat} (hb:HD b n):∀ (l:Nat) (a:Ul),(∀ k,l<=k->a.getD k 0=0)->∃ q r,(∀ t,ev a t=ev q t*ev b t+ev r t)/\∀ k,n<=k->r.getD k 0=0
 | 0,a,ha=>⟨[],a,λt=>by simp only [ev]; grind,λk _=>ha k (Qi _)⟩
 |
  l+1,a,ha=>by
  rcases Zd l n with h | h
  ·exact ⟨[],a,λt=>by simp only [ev]; grind,λk hk=>ha k (by omega)⟩
  ·-- the leading term is taken away
   obtain ⟨c,hc⟩:=nmE (a.getD l 0 / b.getD n 0);have hcb:c*b.getD n 0=a.getD l 0:=by rw [hc]; exact Zc hb.1
   obtain ⟨m,hm⟩:∃ m:Ul,m=List.replicate (l-n) 0++[c]:=⟨_,rfl⟩;have hsh:∀ (i:Nat) (k:Nat),(Gt (List.replicate i 0++[c]) b).getD k 0=if i<=k then c*b.getD (k-i) 0 else 0:=λi=>by
    induction i with
    | zero=>intro k; simp only [Wc,Yf,Gt]; rw [Hz,Tl]; cases k <;> simp <;> grind
    |
     succ i ih =>
     intro k;simp only [Yp,Z9,Gt];rw [Hz,Tl];cases k with
     | zero=>rw [Zr,if_neg (by omega)]; grind
     |
      succ k =>
      rw [Q3,ih k];by_cases h:i<=k
      ·rw [if_pos h,if_pos (by omega),Nat.add_sub_add_right]; grind
      ·rw [if_neg h,if_neg (by omega)]; grind
   obtain ⟨q,r,h1,h2⟩:=Qbx hb l (Tp a (C0 (-1) (Gt m b))) λk hk=>by
    rw [Hz,Tl,hm,hsh,if_pos (by omega)];rcases Vj hk with e | e
    ·rw [ha k (by omega),hb.2 _ (by omega)]; grind
    ·subst e; rw [show l-(l-n)=n by omega,hcb]; grind
   refine ⟨Tp q m,r,λt=>?_,h2⟩;have:=h1 t;rw [Gp,Gh,U8] at this;rw [Gp]; grind
theorem fO:∀ (n:Nat) (a b:Ul),(∀ k,n<=k->b.getD k 0=0)->∃ g U V,QV g a/\QV g b/\∀ t,ev g t=ev U t*ev a t+ev V t*ev b t
 |
  0,a,b,h=>by
  have h0:=Da λk=>h k (Qi _)
  exact ⟨a,[1],[],dvd_refl a,⟨[],λt=>by rw [h0]; simp only [ev]; grind⟩,λt=>by rw [Ro]; simp only [ev]; grind⟩
 |
  n+1,a,b,h=>by
  rcases Classical.em (b.getD n 0=0) with e | e
  ·exact fO n a b λk hk=>by
    rcases Vj hk with e' | e'
    ·exact h k (by omega)
    ·rw [<-e']; exact e
  ·obtain ⟨q,r,h1,h2⟩:=Qbx (b:=b) (n:=n) ⟨e,λk hk=>h k (by omega)⟩ a.length a λk hk=>by rw [Qk,Qz hk]; rfl
   obtain ⟨g,U,V,⟨u,hu⟩,⟨v,hv⟩,hg⟩:=fO n b r h2;refine ⟨g,V,Tp U (C0 (-1) (Gt V q)),⟨Tp (Gt q u) v,λt=>?_⟩,⟨u,hu⟩,λt=>?_⟩
   ·rw [h1,hv,Gp,U8,hu]; grind
   ·rw [hg,Gp,Gh,U8,h1]; grind
theorem Qco (a b:Ul):∃ g U V,QV g a/\QV g b/\∀ t,ev g t=ev U t*ev a t+ev V t*ev b t :=
 fO b.length a b λk hk=>by rw [Qk,Qz hk]; rfl
def Cop (a b:Ul):Prop:=∃ U V,∀ t,ev U t*ev a t+ev V t*ev b t=1
theorem IR {c d e:Ul} (h:Cop c d) (h1:∃ u,∀ t,ev d t*ev e t=ev c t*ev u t):QV c e:=by
 obtain ⟨U,V,h⟩:=h;obtain ⟨u,hu⟩:=h1;refine ⟨Tp (Gt U e) (Gt V u),λt=>?_⟩;rw [Gp,U8,U8];have a1:=h t;have a2:=hu t;have:ev e t=(ev U t*ev c t+ev V t*ev d t)*ev e t:=by rw [a1]; grind
 rw [this];have:(ev U t*ev c t+ev V t*ev d t)*ev e t=ev U t*ev c t*ev e t+ev V t*(ev d t*ev e t):=by grind
 rw [this,a2]; grind
def BU (d:Ul):Nat->Ul
 | 0=>[1]
 | k+1=>Gt d (BU d k)
theorem rL (d:Ul) (t:Rat):∀ k:Nat,ev d t*dv (BU d k) t=(k:Rat)*(dv d t*ev (BU d k) t)
 | 0=>by simp only [BU,dv,ev]; rw [show ((0:Nat):Rat)=0 from rfl]; grind
 |
  k+1=>by
  have ih:=rL d t k;have hn':(((k+1:Nat):Rat))=(k:Rat)+1:=by push_cast; rfl
  simp only [BU];rw [IN,U8,hn']; grind
theorem Qer {d:Ul} {m:Nat} (h:HD d m):∀ k,HD (BU d k) (k*m)
 | 0=>by rw [Yh]; exact ⟨by simp [BU],λk hk=>by simp only [BU]; rw [Qk,Qz (by simp; omega)]; rfl⟩
 | k+1=>by rw [Z8,Jr (k*m) m]; exact MA h (Qer h k)
theorem EN {d g:Ul} {m n:Nat} (hd:HD d m) (hg:HD g n) (h:∀ k,QV (BU d k) g):m=0:=by
 obtain ⟨u,hu⟩:=h (n+1);rcases ME u with h1 | ⟨j,_,h1⟩
 ·exact absurd (λt=>by rw [hu,h1]; grind) (mO hg)
 ·have:=Ql0 (Qlz (λt=>by rw [hu,U8]) hg) (MA (Qer hd (n+1)) h1);rcases Q5 m with e | e
  ·exact e
  ·have:(n+1)*1<=(n+1)*m:=Zs _ e;omega
theorem sqf {a g q d U V:Ul} {k:Rat} (hk:k≠0) (ha:∀ t,ev a t=ev g t*ev q t) (hg:∀ t,k*ev g t=ev U t*ev a t+ev V t*dv a t) (h1:QV d q) (h2:QV d (M6 q)):∀ n,QV (BU d n) g
 | 0=>⟨g,λt=>by simp only [BU]; rw [Ro]; grind⟩
 |
  n+1=>by
  obtain ⟨g1,e1⟩:=sqf hk ha hg h1 h2 n;obtain ⟨q1,e2⟩:=h1;obtain ⟨q2,e3⟩:=h2;have d1:=λt=>Oh ha t
  have d2:=λt=>Oh e1 t
  have d3:=λt=>Oh e2 t
  have d4:=rL d;refine ⟨C0 (1 / k) (Tp (Gt U (Gt g1 q1)) (Gt V (Tp (Gt g1 q2) (Tp (C0 n (Gt g1 (Tp q2 (C0 (-1) (M6 q1))))) (Gt (M6 g1) q1))))),λt=>?_⟩;have hkk:1 / k*k=1:=Zc hk;simp only [BU,Gh,Gp,U8,Ry];have b1:=ha t; have b2:=hg t; have b3:=e1 t; have b4:=e2 t; have b5:=e3 t;have b6:=d1 t; have b7:=d2 t; have b8:=d3 t; have b9:=d4 t n;rw [Ry] at b5;generalize ev d t=x0 at *;generalize ev (BU d n) t=x1 at *;generalize ev g t=x2 at *;generalize ev q t=x3 at *;generalize ev a t=x4 at *;generalize dv a t=x5 at *;generalize dv g t=x6 at *;generalize dv q t=x7 at *;generalize ev g1 t=x8 at *;generalize dv g1 t=x9 at *;generalize ev q1 t=y0 at *;generalize dv q1 t=y1 at *;generalize ev q2 t=y2 at *;generalize dv d t=y3 at *;generalize dv (BU d n) t=y4 at *;generalize ev U t=y5 at *;generalize ev V t=y6 at *;generalize (n:Rat)=y7 at *;have:x2=1 / k*(k*x2):=by grind
  rw [this,b2];have c1:x5=x0*x1*(x8*y2+(y7*(x8*(y2+-1*y1))+x9*y0)):=by
   rw [b6,b7,b4,b3];have:y3*y0=x0*y2-x0*y1:=by grind
   have:x0*y4*(x8*y0)=y7*(x1*x8*(x0*y2-x0*y1)):=by rw [b9,<-this]; grind
   grind
  have c2:x4=x0*x1*(x8*y0):=by rw [b1,b3,b4]; grind
  rw [c1,c2]; grind
theorem Qh7 {a b c:Ul} (h1:Cop a b) (h2:Cop a c) {d:Ul} (hd:∀ t,ev d t=ev b t*ev c t):Cop a d:=by
 obtain ⟨U,V,h1⟩:=h1;obtain ⟨X,Y,h2⟩:=h2;refine ⟨Tp U (Gt (Gt V b) X),Gt V Y,λt=>?_⟩;have a1:=h1 t;have a2:=h2 t;simp only [Gp,U8,hd];have:ev V t*ev b t*(ev X t*ev a t+ev Y t*ev c t)=ev V t*ev b t:=by rw [a2]; grind
 grind
theorem Qkb {a g q z r X Y:Ul} {n:Nat} (ha:∀ t,ev a t=ev g t*ev q t) (hz:∀ t,dv a t=ev g t*ev z t) (hg:HD g n) (hr:∀ t,ev X t*ev r t+ev Y t*dv r t=1) (h:QV r a):QV r q:=by
 obtain ⟨b,hb⟩:=h;obtain ⟨e,U,V,⟨r1,e1⟩,⟨q3,e2⟩,e3⟩:=Qco r q;have hr0:¬∀ t,ev r t=0:=λh=>by
  have h1:=hr 0;have h2:dv r 0=0:=by have:=Qb1 (p:=r) (q:=[]) h 0; rw [this]; rfl
  rw [h,h2] at h1; grind
 have he0:¬∀ t,ev e t=0:=λh=>hr0 λt=>by rw [e1,h]; grind
 have d1:=λt=>Oh e1 t
 have c1:Cop r1 q3:=⟨U,V,λt=>by
  have:=fV (p:=e) (q:=Tp (Gt U r1) (Gt V q3)) (r:=[1]) he0 (λt=>by
   rw [Gp,U8,U8,Ro];have a1:=e1 t; have a2:=e2 t; have a3:=e3 t;rw [a1,a2] at a3; grind) t
  rw [Gp,U8,U8,Ro] at this; exact this⟩
 have c2:Cop r1 e:=⟨Tp (Gt X e) (Gt Y (M6 e)),Gt Y (M6 r1),λt=>by
  have a1:=hr t; have a2:=e1 t; have a3:=d1 t;simp only [Gp,U8,Ry];rw [a2,a3] at a1; grind⟩
 have c3:Cop r1 (M6 r1):=⟨Tp (Gt X e) (Gt Y (M6 e)),Gt Y e,λt=>by
  have a1:=hr t; have a2:=e1 t; have a3:=d1 t;simp only [Gp,U8,Ry];rw [a2,a3] at a1; grind⟩
 have c4:Cop r1 q:=Qh7 c2 c1 e2;have hgz:=mO hg;have hp:∀ k,QV (BU r1 k) g:=λk=>by
  induction k with
  | zero=>exact ⟨g,λt=>by simp only [BU]; rw [Ro]; grind⟩
  |
   succ k ih =>
   obtain ⟨h,eh⟩:=ih;have hpz:¬∀ t,ev (BU r1 k) t=0:=λh0=>hgz λt=>by rw [eh,h0]; grind
   have key:QV r1 h:=by
    cases k with
    |
     zero =>
     refine IR c4 ⟨Gt e b,λt=>?_⟩;have a1:=ha t; have a2:=hb t; have a3:=e1 t; have a4:=eh t;simp only [BU] at a4;rw [Ro] at a4;rw [U8]; grind
    |
     succ k =>
     have hn:((k+1:Nat):Rat)≠0:=by
      have:(0:Rat)<((k+1:Nat):Rat):=by
       have h1:((0:Nat):Rat)<((k+1:Nat):Rat):=Vl.2 (by omega);simpa using h1
      grind
     have d2:=λt=>Oh (f:=a) (w:=BU r1 (k+1)) (u:=Gt h q) (λt=>by rw [ha,eh,U8]; grind) t
     have d4:=rL r1;have h3:=fV (p:=BU r1 (k+1)) (q:=Gt (M6 r1) (Gt h q)) (r:=Gt r1 (C0 (1 / ((k+1:Nat):Rat)) (Tp (Gt h z) (C0 (-1) (M6 (Gt h q)))))) hpz λt=>by
      simp only [U8,Gh,Gp,Ry];have a1:=d2 t; have a2:=d4 t (k+1); have a3:=hz t; have a4:=eh t;rw [U8] at a1;generalize ((k+1:Nat):Rat)=c at *;have hc:1 / c*c=1:=Zc hn;generalize ev (BU r1 (k+1)) t=x0 at *;generalize dv (BU r1 (k+1)) t=x1 at *;generalize dv (Gt h q) t=x2 at *;generalize ev r1 t=x3 at *;generalize dv r1 t=x4 at *;generalize ev h t=x5 at *;generalize ev q t=x6 at *;generalize ev z t=x7 at *;generalize dv a t=x8 at *;generalize ev g t=x9 at *;generalize 1 / c=c' at *;have s1:x0*(x4*(x5*x6))=c'*(c*(x4*x0))*(x5*x6):=by
       have:c'*(c*(x4*x0))=(c'*c)*(x4*x0):=by grind
       rw [this,hc]; grind
      rw [s1,<-a2];have s2:x3*(x1*(x5*x6))=x3*(x0*(x5*x7+-1*x2)):=by
       rw [a3,a4] at a1; grind
      grind
     refine IR c4 ?_;obtain ⟨u,hu⟩:=IR (e:=Gt q h) c3 ⟨C0 (1 / ((k+1:Nat):Rat)) (Tp (Gt h z) (C0 (-1) (M6 (Gt h q)))),λt=>by
      have:=h3 t;simp only [U8] at this ⊢;rw [<-this]; grind⟩
     exact ⟨u,λt=>by rw [<-hu,U8]⟩
   obtain ⟨u,hu⟩:=key;exact ⟨u,λt=>by simp only [BU]; rw [U8,eh,hu]; grind⟩
 rcases ME r1 with h1 | ⟨m,_,h1⟩
 ·exact absurd (λt=>by rw [e1,h1]; grind) hr0
 ·obtain rfl:=EN h1 hg hp;have h2:∀ t,ev r1 t=r1.getD 0 0:=λt=>by
   cases r1 with
   | nil=>simp [ev]
   |
    cons c l =>
    have:∀ t,ev l t=0:=Da λk=>by have:=h1.2 (k+1) (by omega); rwa [Q3] at this
    simp only [ev,this,Zr]; grind
  have h3:=h1.1;refine ⟨C0 (1 / r1.getD 0 0) q3,λt=>?_⟩;rw [e2,e1,h2,Gh];have:1 / r1.getD 0 0*r1.getD 0 0=1:=Zc h3;have:ev e t*r1.getD 0 0*(1 / r1.getD 0 0*ev q3 t)=ev e t*ev q3 t*(1 / r1.getD 0 0*r1.getD 0 0):=by grind
  rw [this,Zc h3]; grind
def Im:Um->Ul
 | []=>[1]
 | w::l=>Gt w (Im l)
def Lay:Um->Um->Prop
 | [],[]=>True
 | [w],[f]=>∀ t,ev w t=ev f t
 | w::v::l,f::fs=>(∀ t,ev w t=ev f t*ev v t)/\Lay (v::l) fs
 | _,_=>False
def RG:Um->Ul
 | []=>[1]
 | [f]=>f
 | f::_::l=>Gt f (RG l)
theorem nH:∀ {ws fs:Um},Lay ws fs->∃ S,∀ t,ev (Im ws) t=ev (RG fs) t*(ev S t*ev S t)
 | [],[],_=>⟨[1],λt=>by simp only [Im,RG]; rw [Ro]; grind⟩
 | [w],[f],h=>⟨[1],λt=>by simp only [Im,RG]; rw [U8,Ro,h t]; grind⟩
 |
  [w,v],[f,f2],h=>⟨v,λt=>by
  have h1:=h.1 t;have h2:ev v t=ev f2 t:=h.2 t;simp only [Im,RG,U8]; rw [Ro,h1]; grind⟩
 |
  w::v::x::l,f::f2::fs,h=>by
  obtain ⟨S,hS⟩:=nH h.2.2;refine ⟨Gt v S,λt=>?_⟩;have h1:=h.1 t;have h2:=hS t;have e1:ev (Im (w::v::x::l)) t=ev w t*(ev v t*ev (Im (x::l)) t):=by simp only [Im,U8]
  rw [e1,h2,h1];have e2:ev (RG (f::f2::fs)) t=ev f t*ev (RG fs) t:=by
   cases fs with
   | nil=>cases l <;> exact False.elim h.2.2
   | cons y l=>simp only [RG,U8]
  rw [e2,U8]; grind
 | [w],[],h=>h.elim
 | [w],_::_::_,h=>h.elim
 | [],_::_,h=>h.elim
 | [w,v],[f],h=>h.2.elim
 | [w,v],_::_::_::_,h=>h.2.elim
 | w::v::x::l,[f],h=>h.2.elim
 | w::v::l,[],h=>h.elim
end Orq
namespace Orq
open Orr Go
theorem rH (p:Ui) (t:Rat):Uy p t=((p.getD 0 0:Int):Rat)+t*Uy p.tail t:=by
 cases p with
 | nil=>show (0:Rat)=((0:Int):Rat)+t*0; grind
 | cons a p=>rfl
theorem FU (p:Ui) (k:Nat):p.tail.getD k 0=p.getD (k+1) 0:=by
 cases p <;> simp
theorem Bf (c d:Int) (t:Rat):∀ (n:Nat) (p q r:Ui),p.length<=n->q.length<=n->r.length<=n->(∀ k,r.getD k 0=c*p.getD k 0+d*q.getD k 0)->Uy r t=(c:Rat)*Uy p t+(d:Rat)*Uy q t
 |
  0,p,q,r,hp,hq,hr,_=>by
  rw [Qh (Nat.le_zero.1 hp),Qh (Nat.le_zero.1 hq),Qh (Nat.le_zero.1 hr)];show (0:Rat)=_*0+_*0;grind
 |
  n+1,p,q,r,hp,hq,hr,h=>by
  have ih:=Bf c d t n p.tail q.tail r.tail (by rw [Ws]; omega) (by rw [Ws]; omega) (by rw [Ws]; omega) λk=>by
   rw [FU,FU,FU]; exact h (k+1)
  rw [rH p,rH q,rH r,ih,h 0]
  push_cast
  grind
theorem bL {p q:Ui} (h:∀ k,p.getD k 0=q.getD k 0) (t:Rat):Uy p t=Uy q t:=by
 have:=Bf 1 0 t (max p.length q.length) q q p (Ww ..) (Ww ..) (Nat.le_max_left ..) λk=>by rw [h k]; omega
 rw [this]
 push_cast
 grind
theorem Tn (p:Ui) (t:Rat):Uy (trim p) t=Uy p t:=bL (JZ p) t
theorem My {p:Ui} {k:Nat} (h:p.length<=k):p.getD k 0=0:=by
 rw [Qk,Qz h]; rfl
theorem EH (p q:Ui) (k:Nat):(A0 p q).getD k 0=p.getD k 0+q.getD k 0:=by
 unfold A0;rw [Cf]
 split
 ·rfl
 ·rename_i h; rw [My (p:=p) (by omega),My (p:=q) (by omega)]; rfl
theorem Iw (p q:Ui) (k:Nat):(Bz p q).getD k 0=p.getD k 0-q.getD k 0:=by
 unfold Bz;rw [Cf]
 split
 ·rfl
 ·rename_i h; rw [My (p:=p) (by omega),My (p:=q) (by omega)]; rfl
theorem Po (p:Ui) (c:Int) (k:Nat):(Fl p c).getD k 0=p.getD k 0*c:=by
 unfold Fl;rw [Cf]
 split
 ·rfl
 ·rename_i h; rw [My (p:=p) (by omega),Int.zero_mul]
theorem aG (p:Ui) (k:Nat):(D5 p).getD k 0=-(p.getD k 0):=by
 unfold D5;rw [Cf]
 split
 ·rfl
 ·rename_i h; rw [My (p:=p) (by omega)]; rfl
theorem Nf (p:Ui) (k:Nat):(Gz p).getD k 0=p.getD (k+1) 0*((k+1:Nat):Int):=by
 unfold Gz;rw [Cf]
 split
 ·rfl
 ·rename_i h; rw [My (p:=p) (by omega),Int.zero_mul]
theorem WF (p q:Ui) (t:Rat):Uy (A0 p q) t=Uy p t+Uy q t:=by
 have:=Bf 1 1 t (max (max p.length q.length) (A0 p q).length) p q (A0 p q) (by omega) (by omega) (by omega) λk=>by rw [EH]; omega
 rw [this]; push_cast; grind
theorem Mi (p q:Ui) (t:Rat):Uy (Bz p q) t=Uy p t-Uy q t:=by
 have:=Bf 1 (-1) t (max (max p.length q.length) (Bz p q).length) p q (Bz p q) (by omega) (by omega) (by omega) λk=>by rw [Iw]; omega
 rw [this]; push_cast; grind
theorem WG (p:Ui) (t:Rat):Uy (D5 p) t=-Uy p t:=by
 have:=Bf (-1) 0 t (max p.length (D5 p).length) p p (D5 p) (by omega) (by omega) (by omega) λk=>by rw [aG]; omega
 rw [this]; push_cast; grind
theorem Hq (p:Ui) (c:Int) (t:Rat):Uy (Fl p c) t=Uy p t*(c:Rat):=by
 have:=Bf c 0 t (max p.length (Fl p c).length) p p (Fl p c) (by omega) (by omega) (by omega) λk=>by rw [Po,Ky]; omega
 rw [this]; push_cast; grind
theorem OI:∀ (l:Ui) (j:Nat) (v:Int) (t:Rat),j<l.length->Uy (l.set j v) t=Uy l t+((v:Rat)-((l.getD j 0:Int):Rat))*t^j
 | [],_,_,_,h=>by simp at h
 |
  a::l,0,v,t,_=>by
  show (v:Rat)+t*Uy l t=(a:Rat)+t*Uy l t+((v:Rat)-(a:Rat))*t^0;rw [Z4]; grind
 |
  a::l,j+1,v,t,h=>by
  have ih:=OI l j v t (by simpa using h);show (a:Rat)+t*Uy (l.set j v) t=(a:Rat)+t*Uy l t+((v:Rat)-((l.getD j 0:Int):Rat))*t^(j+1);rw [ih,Zu]; grind
theorem ND:∀ (l:Ui) (k:Nat) (t:Rat),k<l.length->Uy (l.take (k+1)) t=Uy (l.take k) t+((l.getD k 0:Int):Rat)*t^k
 | [],_,_,h=>by simp at h
 |
  a::l,0,t,_=>by
  show (a:Rat)+t*Uy (l.take 0) t=0+(a:Rat)*t^0;rw [Z4,Vo];show (a:Rat)+t*0=_;grind
 |
  a::l,k+1,t,h=>by
  have ih:=ND l k t (by simpa using h);show (a:Rat)+t*Uy (l.take (k+1)) t=(a:Rat)+t*Uy (l.take k) t+((l.getD k 0:Int):Rat)*t^(k+1);rw [ih,Zu]; grind
theorem ES (n:Nat) (t:Rat):Uy (List.replicate n 0) t=0:=by
 induction n with
 | zero=>rfl
 |
  succ n ih =>
  show ((0:Int):Rat)+t*Uy (List.replicate n 0) t=0;rw [ih]; push_cast; grind
theorem ZB (t:Rat) (i:Nat):∀ k,t^(i+k)=t^i*t^k
 | 0=>by rw [Xk,Z4]; grind
 | k+1=>by rw [<-J4,Zu,Zu,ZB t i k]; grind
theorem vC (x:Int) (b:Ui) (i:Nat) (o:Ui) (t:Rat):∀ k,k<=b.length->i+k<=o.length->Uy (YB x b i o k) t=Uy o t+(x:Rat)*t^i*Uy (b.take k) t
 |
  0,_,_=>by
  show Uy o t=Uy o t+(x:Rat)*t^i*0;grind
 |
  k+1,h1,h2=>by
  have ih:=vC x b i o t k (by omega) (by omega);simp only [YB];rw [OI _ _ _ _ (by rw [ZY]; omega),ih,ND b k t (by omega)];have hp:t^(i+k)=t^i*t^k:=ZB t i k;rw [hp]
  push_cast
  grind
theorem vB (a b o:Ui) (t:Rat):∀ i,i<=a.length->i+b.length<=o.length+1->Uy (YN a b o i) t=Uy o t+Uy (a.take i) t*Uy b t
 |
  0,_,_=>by
  show Uy o t=Uy o t+0*Uy b t;grind
 |
  i+1,h1,h2=>by
  have ih:=vB a b o t i (by omega) (by omega);simp only [YN];rw [vC _ _ _ _ _ b.length (Ql _) (by rw [Ik]; omega),ih,ND a i t (by omega),Q6];grind
theorem Fw (a b:Ui) (t:Rat):Uy (Ge a b) t=Uy a t*Uy b t:=by
 unfold Ge
 split
 ·rename_i h;rcases h with h | h
  ·rw [Qh h]; show (0:Rat)=0*_; grind
  ·rw [Qh h]; show (0:Rat)=_*0; grind
 ·rename_i h;rw [Tn,vB a b _ t a.length (Ql _) (by rw [Y3]; omega),ES,Q6];grind
theorem Hk (z d:Int):(z:Rat) / (d:Rat)=Rat.divInt z d:=by
 by_cases h:d=0
 ·subst h; simp; grind
 ·rw [X3]; exact (Rat.divInt_eq_div z d ▸ by rw [X3])
theorem zY (a:Ui) (n d:Int) (hd:(d:Rat)≠0):∀ k,k<=a.length->(((D9 a n d k).2:Int):Rat)=(d:Rat)^k/\(((D9 a n d k).1:Int):Rat)*d=(d:Rat)^k*Uy (a.drop (a.length-k)) ((n:Rat) / d)
 |
  0,_=>by
  refine ⟨by rw [Z4]; rfl,?_⟩;rw [Wy,Ys];show ((0:Int):Rat)*d=(d:Rat)^0*0
  push_cast; grind
 |
  k+1,hk=>by
  obtain ⟨h1,h2⟩:=zY a n d hd k (by omega);have hi:a.length-1-k<a.length:=by omega
  have e1:a.drop (a.length-(k+1))=a.getD (a.length-1-k) 0::a.drop (a.length-k):=by
   rw [show a.length-(k+1)=a.length-1-k by omega,Zp hi,show a.length-1-k+1=a.length-k by omega];congr 1;rw [Qk,Qf hi]; rfl
  refine ⟨?_,?_⟩
  ·show (((D9 a n d k).2*d:Int):Rat)=_;rw [Xg,h1,Zu]
  ·rw [e1];show (((D9 a n d k).1*n+a.getD (a.length-1-k) 0*(D9 a n d k).2:Int):Rat)*d=_*(((a.getD (a.length-1-k) 0:Int):Rat)+(n:Rat) / d*Uy (a.drop (a.length-k)) ((n:Rat) / d));rw [K8,Xg,Xg,h1,Zu];have h3:(n:Rat) / d*d=n:=by rw [Zc hd]
   have h4:(d:Rat)^k*d*((n:Rat) / d*Uy (a.drop (a.length-k)) ((n:Rat) / d))=((n:Rat) / d*d)*((d:Rat)^k*Uy (a.drop (a.length-k)) ((n:Rat) / d)):=by grind
   have h5:(d:Rat)^k*d*(((a.getD (a.length-1-k) 0:Int):Rat)+(n:Rat) / d*Uy (a.drop (a.length-k)) ((n:Rat) / d))=(d:Rat)^k*d*((a.getD (a.length-1-k) 0:Int):Rat)+(d:Rat)^k*d*((n:Rat) / d*Uy (a.drop (a.length-k)) ((n:Rat) / d)):=by grind
   rw [h5,h4,h3,<-h2];grind
theorem cX {d:Rat} (h:0<d):∀ k:Nat,0<d^k
 | 0=>by rw [Z4]; decide
 | k+1=>by rw [Zu]; exact Xp (cX h k) h
theorem Bq {x y:Rat} (h:0<y):U4 (y*x)=U4 x:=by
 unfold U4;have h1:y*x<0↔x<0:=by
  constructor
  ·intro h2;rcases Vq (a:=0) (b:=x) with h3 | h3
   ·have:=Y8 (Qq h) h3; grind
   ·rcases Rat.le_iff_lt_or_eq.1 h3 with h4 | h4
    ·exact h4
    ·rw [h4] at h2; grind
  ·intro h2;have:=Xp h (show 0 < -x by grind);grind
 have h2:0<y*x↔0<x:=by
  constructor
  ·intro h2;rcases Vq (a:=x) (b:=0) with h3 | h3
   ·have:=Y8 (Qq h) (show 0<=-x by grind); grind
   ·rcases Rat.le_iff_lt_or_eq.1 h3 with h4 | h4
    ·exact h4
    ·rw [<-h4] at h2; grind
  ·intro h2; exact Xp h h2
 simp only [h1,h2]
theorem Qbm (z:Int):C9 z 0=U4 (z:Rat):=by
 unfold C9 U4;have h1:((z:Int):Rat)<0↔z<0:=by
  have := @Rat.intCast_lt_intCast z 0; simpa using this
 have h2:0<((z:Int):Rat)↔0<z:=by
  have := @Rat.intCast_lt_intCast 0 z; simpa using this
 simp only [h1,h2]
theorem Mk (p:Ui) (q:Rat):Hr p q=U4 (Uy p q):=by
 have hd0:(0:Rat)<((q.den:Int):Rat):=by
  have := @Rat.intCast_lt_intCast 0 (q.den:Int);rw [show ((0:Int):Rat)=0 from rfl] at this;exact this.2 (den_pos q)
 have hd:((q.den:Int):Rat)≠0:=by intro h; rw [h] at hd0; exact absurd hd0 (by decide)
 obtain ⟨_,h⟩:=zY p q.num q.den hd p.length (Ql _);rw [Kd,Xw,Hk,Xd] at h;unfold Hr;rw [Qbm,<-Bq hd0,W0];show U4 ((((D9 p q.num q.den p.length).1:Int):Rat)*_)=_;rw [h,Bq (cX hd0 _)]
def cz (p:Ui):Ul:=p.map λz:Int=>(z:Rat)
theorem U0 (t:Rat):∀ p,ev (cz p) t=Uy p t
 | []=>rfl
 | a::p=>by have:=U0 t p; simp only [cz,Zz,ev,Uy] at *; rw [this]
theorem Py:∀ (p:Ui) (k:Nat),(cz p).getD k 0=((p.getD k 0:Int):Rat)
 | [],k=>by simp [cz]
 | a::p,0=>by simp [cz]
 | a::p,k+1=>by have:=Py p k; simp only [cz,Zz,Q3] at *; exact this
theorem Do {p q:Ui} (h:∀ t,Uy p t=Uy q t) (k:Nat):p.getD k 0=q.getD k 0:=by
 have:=Cv (p:=cz p) (q:=cz q) (λt=>by rw [U0,U0,h]) k;rw [Py,Py] at this
 exact_mod_cast this
theorem Qkj {p q:Ui} (hp:U7 p) (hq:U7 q) (h:∀ k,p.getD k 0=q.getD k 0):p=q:=by
 have key:∀ {p q:Ui},U7 p->U7 q->(∀ k,p.getD k 0=q.getD k 0)->p.length<=q.length:=λ{p q} hp hq h=>by
  rcases Zd q.length p.length with e | e
  ·have:=Rm hp (by omega);rw [h,Qk,Qz (by omega)] at this;exact absurd rfl this
  ·exact e
 exact fM (K7 (key hp hq h) (key hq hp λk=>(h k).symm)) λj _=>h j
theorem bE {p q:Ui} (hp:U7 p) (hq:U7 q) (h:∀ t,Uy p t=Uy q t):p=q:=Qkj hp hq (Do h)
theorem Qjh {p:Ui} (hp:U7 p) (h:∀ t,Uy p t=0):p=[]:=bE hp rfl λt=>by rw [h]; rfl
theorem Cy {p:Ui} (h:p.length=0) (t:Rat):Uy p t=0:=by rw [Qh h]; rfl
theorem bC:∀ (p r:Ui) (t:Rat),(∀ k,r.getD k 0=p.getD (k+1) 0*((k+1:Nat):Int))->Uy r t=dv (cz p) t
 |
  [],r,t,h=>by
  rw [bL (q:=[]) (λk=>by rw [h]; simp) t]; rfl
 |
  a::p,r,t,h=>by
  have ih:=bC p (Gz p) t λk=>Nf p k
  have e:Uy r t=Uy p t+t*Uy (Gz p) t:=by
   have:=Bf 1 1 t (max (max p.length (0::Gz p).length) r.length) p (0::Gz p) r (by omega) (by omega) (by omega) λk=>by
    rw [h,Q3];cases k with
    | zero=>simp
    | succ k=>rw [Q3,Nf]; push_cast; grind
   rw [this]; simp only [Uy]; push_cast; grind
  rw [e,ih];show _=ev (cz p) t+t*dv (cz p) t;rw [U0]
theorem Ip (p:Ui) (t:Rat):Uy (Gz p) t=dv (cz p) t:=bC p _ t λk=>Nf p k
theorem HF {p:Ui} (hp:U7 p) (h:0<p.length):HD (cz p) (p.length-1):=by
 refine ⟨?_,λk hk=>?_⟩
 ·rw [Py];have:=Rm hp h;exact λe=>this (by exact_mod_cast e)
 ·rw [Py,Qk,Qz (by omega)]; rfl
theorem HY {p:Ui} (hp:U7 p) (h:0<p.length):¬∀ t,Uy p t=0:=λh0=>by
 rw [Qjh hp h0] at h; exact absurd h (by simp)
theorem P0 {a b c:Ui} (ha:U7 a) (hb:U7 b) (hc:U7 c) (h:∀ t,Uy c t=Uy a t*Uy b t) (la:0<a.length) (lb:0<b.length):c.length=a.length+b.length-1:=by
 have h1:=MA (HF ha la) (HF hb lb);have h2:HD (cz c) (a.length-1+(b.length-1)):=Qlz (λt=>by rw [U8,U0,U0,U0,h]) h1;have lc:0<c.length:=by
  rcases Q5 c.length with e | e
  ·exact absurd (λt=>by rw [U0]; exact Cy e t) (mO h2)
  ·exact e
 have:=Ql0 (HF hc lc) h2;omega
theorem kQ:∀ (n m:Nat),m<=n->2<=m->∃ P,2<=P/\P∣m/\∀ d,2<=d->d∣P->d=P
 | 0,m,h,h2=>by omega
 |
  n+1,m,h,h2=>by
  rcases Classical.em (∃ d,2<=d/\d<m/\d∣m) with ⟨d,d1,d2,d3⟩ | h0
  ·obtain ⟨P,p1,p2,p3⟩:=kQ n d (by omega) d1;exact ⟨P,p1,Nat.dvd_trans p2 d3,p3⟩
  ·refine ⟨m,h2,Nat.dvd_refl m,λd d1 d2=>?_⟩;rcases Vj (Wm (by omega) d2) with e | e
   ·exact absurd ⟨d,d1,e,d2⟩ h0
   ·exact e
theorem IL {P:Nat} (h2:2<=P) (hP:∀ d,2<=d->d∣P->d=P) {x y:Int} (h:(P:Int)∣x*y):(P:Int)∣x\/(P:Int)∣y:=by
 have h:=Jb.2 h;rw [J6,Xh] at h;have hg:=Wu P x.natAbs;rcases Zd (Nat.gcd P x.natAbs) 2 with e | e
 ·right;have h1:Nat.gcd P x.natAbs=1:=by
   have:=Nat.gcd_pos_of_pos_left x.natAbs (show 0<P by omega); omega
  have:=Nat.Coprime.dvd_of_dvd_mul_left h1 h;exact Jb.1 (by rwa [Xh])
 ·left;have:=hP _ e hg;have h3:=Nat.gcd_dvd_right P x.natAbs;rw [this] at h3;exact Jb.1 (by rwa [Xh])
def uZ (P:Int) (l:Ui):Prop:=∀ k,P∣l.getD k 0
theorem UH {P:Nat} (h2:2<=P) (hP:∀ d,2<=d->d∣P->d=P):∀ (n:Nat) (b h c:Ui),b.length+h.length<=n->(∀ t,Uy c t=Uy b t*Uy h t)->uZ P c->uZ P b\/uZ P h
 | _,[],h,c,_,_,_=>.inl λk=>by simp
 | _,x::b,[],c,_,_,_=>.inr λk=>by simp
 | 0,x::b,y::h,c,hn,_,_=>by simp at hn
 |
  n+1,x::b,y::h,c,hn,hc,hd=>by
  simp only [Q4] at hn;by_cases hx:(P:Int)∣x
  ·-- x h is taken away
   have e:∀ t,Uy (0::Ge b (y::h)) t=Uy (Bz c (Fl (y::h) x)) t:=λt=>by
    rw [Mi,Hq,hc]; simp only [Uy]; rw [Fw]; simp only [Uy]; push_cast; grind
   have hd':uZ P (Ge b (y::h)):=λk=>by
    have:=Do e (k+1);rw [Q3,Iw,Po] at this;rw [this];exact Int.dvd_sub (hd (k+1)) (Kl hx (Y9 _ _))
   rcases UH h2 hP n b (y::h) _ (by simp only [Q4]; omega) (λt=>Fw _ _ t) hd' with h1 | h1
   ·refine .inl λk=>?_
    cases k with
    | zero=>rw [Zr]; exact hx
    | succ k=>rw [Q3]; exact h1 k
   ·exact .inr h1
  ·have h0:(P:Int)∣y:=by
    have e:c.getD 0 0=x*y:=by
     have:=Do (p:=c) (q:=Ge (x::b) (y::h)) (λt=>by rw [hc,Fw]) 0;have e2:=Do (p:=Ge (x::b) (y::h)) (q:=A0 (Fl (y::h) x) (0::Ge b (y::h))) (λt=>by
      rw [WF,Hq,Fw]; simp only [Uy]; rw [Fw]; simp only [Uy]; push_cast; grind) 0
     rw [this,e2,EH,Po,Zr,Zr,Ky]; omega
    have:=hd 0;rw [e] at this;rcases IL h2 hP this with h1 | h1
    ·exact absurd h1 hx
    ·exact h1
   have e:∀ t,Uy (0::Ge (x::b) h) t=Uy (Bz c (Fl (x::b) y)) t:=λt=>by
    rw [Mi,Hq,hc]; simp only [Uy]; rw [Fw]; simp only [Uy]; push_cast; grind
   have hd':uZ P (Ge (x::b) h):=λk=>by
    have:=Do e (k+1);rw [Q3,Iw,Po] at this;rw [this];exact Int.dvd_sub (hd (k+1)) (Kl h0 (Y9 _ _))
   rcases UH h2 hP n (x::b) h _ (by simp only [Q4]; omega) (λt=>Fw _ _ t) hd' with h1 | h1
   ·exact absurd (by have:=h1 0; rwa [Zr] at this) hx
   ·refine .inr λk=>?_
    cases k with
    | zero=>rw [Zr]; exact h0
    | succ k=>rw [Q3]; exact h1 k
def Prm (b:Ui):Prop:=∀ d:Int,uZ d b->d∣1
theorem Qcj {a b:Ui} (hb:Prm b):∀ (n:Nat) (c:Int) (h:Ui),c.natAbs<=n->c≠0->(∀ t,(c:Rat)*Uy a t=Uy b t*Uy h t)->∃ h',∀ t,Uy a t=Uy b t*Uy h' t
 | 0,c,h,hn,h0,_=>absurd (by omega) h0
 |
  n+1,c,h,hn,h0,hc=>by
  rcases Zd c.natAbs 2 with h1 | h1
  ·refine ⟨Fl h c,λt=>?_⟩;have hcc:(c:Rat)*c=1:=by
    have:c*c=1:=by
     rcases (show c=1\/c=-1 by omega) with rfl | rfl <;> rfl
    have:=congrArg (λz:Int=>(z:Rat)) this
    push_cast at this; exact this
   rw [Hq];have:=hc t;have:Uy a t=(c:Rat)*((c:Rat)*Uy a t):=by
    have:(c:Rat)*((c:Rat)*Uy a t)=((c:Rat)*c)*Uy a t:=by grind
    rw [this,hcc]; grind
   rw [this,hc]; grind
  ·obtain ⟨P,p1,p2,p3⟩:=kQ c.natAbs c.natAbs (Ql _) h1;obtain ⟨d,hd⟩:∃ d,c=(P:Int)*d:=Wj.2 p2;have hall:uZ P (Fl a c):=λk=>by
    rw [Po,hd]; exact Kl (Int.dvd_mul_right _ _) (Y9 _ _)
   have hP0:(P:Rat)≠0:=by
    have:((0:Nat):Rat)<(P:Rat):=Vl.2 (by omega);grind
   rcases UH p1 p3 _ b h (Fl a c) (Ql _) (λt=>by rw [Hq,W0,hc]) hall with e | e
   ·have:=hb P e;have:=Jb.2 this;rw [Xh] at this;have:=Wm (by decide) this;exact absurd this (by show ¬P<=1; omega)
   ·refine Qcj hb n d (h.map (· / (P:Int))) ?_ (λe0=>h0 (by rw [hd,e0,K0])) λt=>?_
    ·rw [hd,J6,Xh] at hn h1;have:2*d.natAbs<=P*d.natAbs:=Qx _ p1;omega
    ·have e1:Uy h t=(P:Rat)*Uy (h.map (· / (P:Int))) t:=by
      have:=Bf P 0 t (max h.length (h.map (· / (P:Int))).length) (h.map (· / (P:Int))) [] h (by omega) (by simp) (by omega) λk=>by
       have:=e k;have e2:(h.map (· / (P:Int))).getD k 0=h.getD k 0 / (P:Int):=by
        rw [Qk,Qk,Zw];cases h[k]? <;> simp
       rw [e2,Kz this]; simp
      rw [this]; simp only [Uy]; push_cast; grind
     have:=hc t;rw [hd,e1] at this
     push_cast at this
     have h3:(P:Rat)*((d:Rat)*Uy a t)=(P:Rat)*(Uy b t*Uy (h.map (· / (P:Int))) t):=by grind
     have h4:=X7.1 (show (P:Rat)*((d:Rat)*Uy a t-Uy b t*Uy (h.map (· / (P:Int))) t)=0 by grind);rcases h4 with h4 | h4
     ·exact absurd h4 hP0
     ·grind
theorem DT:∀ u:Ul,∃ c:Int,c≠0/\∃ h:Ui,∀ t,(c:Rat)*ev u t=Uy h t
 | []=>⟨1,by decide,[],λt=>by simp only [ev,Uy]; grind⟩
 |
  a::u=>by
  obtain ⟨c,hc,h,hh⟩:=DT u;refine ⟨c*(a.den:Int),Yz hc (by have:=a.den_nz; omega),(c*a.num)::Fl h (a.den:Int),λt=>?_⟩;have e:(a.den:Rat)*a=a.num:=by
   rw [W0];have:(a.num:Rat) / (((a.den:Int)):Rat)=a:=by rw [Hk,Xd]
   have hd:(a.den:Rat)≠0:=by
    have:((0:Nat):Rat)<(a.den:Rat):=Vl.2 a.den_pos;grind
   have h2:(a.num:Rat) / (a.den:Rat)*(a.den:Rat)=a.num:=Zc hd;rw [show (a.num:Rat) / (a.den:Rat)=a from this] at h2; exact h2
  simp only [ev,Uy];rw [Hq,<-hh]
  push_cast
  rw [<-e];have e3:(((a.den:Int)):Rat)=(a.den:Rat):=rfl;grind
theorem Qci {a b:Ui} (hb:Prm b) (h:QV (cz b) (cz a)):∃ h',U7 h'/\∀ t,Uy a t=Uy b t*Uy h' t:=by
 obtain ⟨u,hu⟩:=h;obtain ⟨c,hc,h,hh⟩:=DT u;obtain ⟨h',e⟩:=Qcj hb c.natAbs c h (Ql _) hc λt=>by
  have:=hu t;rw [U0,U0] at this;rw [this,<-hh]; grind
 exact ⟨trim h',H6 _,λt=>by rw [Tn,e]⟩
def sd (x0:Rat):Ul->Ul
 | []=>[]
 | _::p=>Tp p (C0 x0 (sd x0 p))
theorem Qcb (x0 x:Rat):∀ p,ev (sd x0 p) x=dq p x x0
 | []=>rfl
 | a::p=>by simp only [sd,dq]; rw [Gp,Gh,Qcb x0 x p]
theorem tK (x0:Rat):∀ (g:Ul) (n:Nat),(∀ j,n<j->g.getD j 0=0)->∀ j,n<=j->(sd x0 g).getD j 0=0
 | [],n,_,j,_=>by simp [sd]
 |
  a::p,0,h,j,_=>by
  have hp:∀ j,p.getD j 0=0:=λj=>by have:=h (j+1) (by omega); rwa [Q3] at this
  simp only [sd];rw [Hz,Tl,hp,tK x0 p 0 (λj _=>hp j) j (Qi _)]; grind
 |
  a::p,n+1,h,j,hj=>by
  have hp:∀ j,n<j->p.getD j 0=0:=λj hj=>by have:=h (j+1) (by omega); rwa [Q3] at this
  simp only [sd];rw [Hz,Tl,hp j (by omega),tK x0 p n hp j (by omega)]; grind
theorem gJ {K:Rat} (hK:0≤K):∀ (e:Nat) (g:Ul) (pts:Ui) (M:Rat),pts.length=e+1->pts.Nodup->(∀ x∈pts,Fa (x:Rat)≤K)->(∀ k,e<k->g.getD k 0=0)->(∀ x∈pts,Fa (ev g (x:Rat))≤M)->∀ k,Fa (g.getD k 0)≤(2*K+3)^e*M
 | _,_,[],_,h,_,_,_,_=>by simp at h
 |
  0,g,x0::xs,M,_,_,_,hg,hM=>λk=>by
  have h0:=hM x0 (by simp);rw [Z4];cases k with
  |
   zero =>
   have e:ev g (x0:Rat)=g.getD 0 0:=by
    cases g with
    | nil=>rfl
    |
     cons a p =>
     have hp:=Da (p:=p) λj=>by have:=hg (j+1) (by omega); rwa [Q3] at this
     simp only [ev,hp,Zr]; grind
   rw [<-e]; grind
  |
   succ k =>
   rw [hg (k+1) (by omega),Hy];have:=Hj (ev g (x0:Rat)); grind
 |
  e+1,g,x0::xs,M,hl,hn,hb,hg,hM=>λk=>by
  have hx0:=hb x0 (by simp);have hM0:=hM x0 (by simp);have hMn:0<=M:=Zh (Hj _) hM0;rw [List.nodup_cons] at hn;have ih:=gJ hK e (sd x0 g) xs (2*M) (by simpa using hl) hn.2 (λx hx=>hb x (by simp [hx])) (λj hj=>tK _ g (e+1) hg j (by omega)) λx hx=>by
   have h1:=hM x (by simp [hx]);have h2:=LX (x:Rat) (x0:Rat) g;rw [<-Qcb] at h2;have hne:x-x0≠0:=λh=>hn.1 (by rw [show x0=x by omega]; exact hx)
   have h3:=YL hne;rw [Rat.intCast_sub] at h3;have h4:Fa (ev g (x:Rat)-ev g (x0:Rat))<=2*M:=by
    have:=To (ev g (x:Rat)) (-ev g (x0:Rat));rw [Lp,show ev g (x:Rat)+-ev g (x0:Rat)=ev g (x:Rat)-ev g (x0:Rat) by grind] at this;clear hM hb hg; grind
   rw [h2,Ap] at h4;have h5:=Q8 h3 (Hj (ev (sd x0 g) x));clear hM hb hg; grind
  have e1:∀ t,ev g t=ev (Tp [ev g x0] (Tp (C0 (-x0) (sd x0 g)) (0::sd x0 g))) t:=λt=>by
   have:=LX t (x0:Rat) g;rw [<-Qcb] at this;simp only [Gp,Gh,ev];grind
  have hp1:1<=(2*K+3)^e:=(XB (R:=2*K+3) (x:=0) (by grind) (by rw [Hy]; grind) e).2;have hpM:=M4 (x:=(2*K+3)^e) (y:=M) (by grind) hMn;have hpM1:=Q8 hp1 hMn;rw [Zu,Cv e1 k,Hz,Hz,Tl];have a1:=ih k;have a2:Fa (-(x0:Rat)*(sd (x0:Rat) g).getD k 0)<=K*((2*K+3)^e*(2*M)):=Gx (by rw [Lp]; exact hx0) a1;have fin:∀ u v w:Rat,Fa u<=M->Fa v<=K*((2*K+3)^e*(2*M))->Fa w<=(2*K+3)^e*(2*M)->Fa (u+(v+w))<=(2*K+3)^e*(2*K+3)*M:=λu v w h1 h2 h3=>by
   have b1:=To u (v+w);have b2:=To v w;clear ih e1 hM hb hg a1 a2; grind
  refine fin _ _ _ ?_ a2 ?_
  ·cases k with
   | zero=>rw [Zr]; exact hM0
   | succ k=>rw [Q3,Km,Hy]; exact hMn
  ·cases k with
   | zero=>rw [Zr,Hy]; clear ih e1 hM hb hg a1 a2 fin; grind
   | succ k=>rw [Q3]; exact ih k
theorem Qey {g:Ul} {e:Nat} (hg:∀ k,e<k->g.getD k 0=0) (hz:¬∀ t,ev g t=0) {pts:Ui} (hn:pts.Nodup) (hr:∀ x∈pts,ev g (x:Rat)=0):pts.length≤e:=by
 rcases Zd e pts.length with h | h
 ·exfalso;obtain ⟨K,hK,hb⟩:∃ K:Rat,0≤K/\∀ x∈pts,Fa (x:Rat)≤K:=by
   clear hn hr h
   induction pts with
   | nil=>exact ⟨0,by decide,λx hx=>by cases hx⟩
   |
    cons y pts ih =>
    obtain ⟨K,h1,h2⟩:=ih;refine ⟨K+Fa (y:Rat),by have:=Hj (y:Rat); grind,λx hx=>?_⟩;have hy:=Hj (y:Rat);rcases Qm.1 hx with rfl | hx
    ·grind
    ·have:=h2 x hx; grind
  refine hz (Da λk=>?_);have:=gJ hK e g (pts.take (e+1)) 0 (by rw [Qu]; omega) (hn.sublist (List.take_sublist ..)) (λx hx=>hb x (Qn hx)) hg (λx hx=>by rw [hr x (Qn hx),Hy]; exact Qp) k;have h2:=Hj (g.getD k 0);exact Qjt (by grind)
 ·exact h
def spots:Ui:=(List.range 19).map λi:Nat=>(i:Int)-9
theorem spots_nd:spots.Nodup:=by decide
theorem wQ:∀ x∈spots,x.natAbs≤9:=by decide
theorem MG {α:Type} (p:α->Bool):∀ l:List α,(l.filter p).length+(l.filter λx => !p x).length=l.length
 | []=>rfl
 |
  x::l=>by
  have:=MG p l;cases h:p x <;> simp [h] <;> omega
def geo:Nat->Nat
 | 0=>0
 | n+1=>1+9*geo n
theorem mN {B:Rat}:∀ (p:Ui),(∀ z∈p,Fa (z:Rat)≤B)->jN 9 (cz p)≤B*(geo p.length:Nat)
 | [],_=>by simp only [cz,Jc,jN,geo,Jd]; rw [show ((0:Nat):Rat)=0 from rfl]; grind
 |
  a::p,h=>by
  have h1:=mN p λz hz=>h z (Qg _ hz)
  have h2:=h a (Qw ..);simp only [cz,Zz,jN,geo,Q4] at *
  push_cast
  clear h; grind
theorem Qcr {m n:Nat} (h:m<=n):geo m<=geo n:=by
 induction h with
 | refl=>exact Ql _
 | step h ih=>simp only [geo]; omega
def pz:Ui->Int->Int
 | [],_=>0
 | a::p,x=>a+x*pz p x
theorem YI (x:Int):∀ p,Uy p (x:Rat)=((pz p x:Int):Rat)
 | []=>rfl
 | a::p=>by simp only [Uy,pz,YI x p]; push_cast; rfl
theorem Tv (z:Int):Fa (z:Rat)=((z.natAbs:Nat):Rat):=by
 unfold Fa;rcases Kx z 0 with h | h
 ·have h1:(z:Rat)<((0:Int):Rat):=Jk.2 h;rw [if_pos (by simpa using h1)];have:(z.natAbs:Int)=-z:=by omega
  have:=congrArg (λu:Int=>(u:Rat)) this
  push_cast at this
  exact this.symm
 ·have h1:((0:Int):Rat)<=(z:Rat):=Ja.2 h;have h1:(0:Rat)<=(z:Rat):=by simpa using h1
  rw [if_neg (by grind)];have:(z.natAbs:Int)=z:=by omega
  have:=congrArg (λu:Int=>(u:Rat)) this;exact this.symm
theorem QP {p g h:Ui} {s:Nat} (hp:Bd s p) (hl:p.length<=10) (tp:U7 p) (tg:U7 g) (th:U7 h) (h0:p.length≠0) (e:∀ t,Uy p t=Uy g t*Uy h t):Bd (s+69) g:=by
 have lg:0<g.length:=by
  rcases Q5 g.length with e' | e'
  ·exact absurd (λt=>by rw [e,Cy e']; grind) (HY tp (by omega))
  ·exact e'
 have lh:0<h.length:=by
  rcases Q5 h.length with e' | e'
  ·exact absurd (λt=>by rw [e,Cy e']; grind) (HY tp (by omega))
  ·exact e'
 have hlen:=P0 tg th tp e lg lh;obtain ⟨q,hq⟩:=nmE (spots.filter λx => !decide (pz p x=0));have hr:(spots.filter λx=>decide (pz p x=0)).length<=9:=by
  refine Qey (g:=cz p) (e:=9) (λk hk=>?_) (λh=>HY tp (by omega) λt=>by rw [<-U0]; exact h t) (spots_nd.sublist List.filter_sublist) λx hx=>?_
  ·rw [Py,Qk,Qz (by omega)]; rfl
  ·have:=(Ye.1 hx).2;rw [U0,YI,of_decide_eq_true this]; rfl
 have hc:=MG (λx=>decide (pz p x=0)) spots;rw [<-hq] at hc;have hsl:spots.length=19:=by decide
 have hB:∀ z∈p,Fa (z:Rat)≤((2^s:Nat):Rat):=λz hz=>by
  rw [Tv];have:=hp z hz;rw [Tu] at this;exact Zi.2 (Yg this)
 have key:=gJ (K:=9) (by decide) 9 (cz g) (q.take 10) (((2^s*435848050:Nat)):Rat) (by rw [Qu]; omega) ((spots_nd.sublist (by rw [hq]; exact List.filter_sublist)).sublist (List.take_sublist ..)) (λx hx=>by
  have hx:=Qn hx;rw [hq] at hx;have:=wQ x (Ye.1 hx).1;rw [Tv]
  exact_mod_cast Zi.2 this) (λk hk=>by rw [Py,Qk,Qz (by omega)]; rfl) (λx hx=>by
  have hx:=Qn hx;rw [hq] at hx;obtain ⟨hx1,hx2⟩:=Ye.1 hx;have hne:pz p x≠0:=by simpa using hx2
  have e1:=e (x:Rat);rw [YI,YI,YI] at e1;have e2:pz p x=pz g x*pz h x:=by exact_mod_cast e1
  have hh:1<=(pz h x).natAbs:=by
   rcases Q5 (pz h x).natAbs with e' | e'
   ·exact absurd (by rw [e2,Int.natAbs_eq_zero.1 e',K0]) hne
   ·exact e'
  have h3:(pz g x).natAbs<=(pz p x).natAbs:=by
   rw [e2,J6];exact Yo _ hh
  rw [U0,YI,Tv];refine Zh (Zi.2 h3) ?_;rw [<-Tv,<-YI,<-U0];refine Zh (HK (R:=9) (by
   have:=wQ x hx1;rw [Tv]
   exact_mod_cast Zi.2 this) _) ?_
  refine Zh (mN p hB) ?_;have:2^s*geo p.length<=2^s*435848050:=Zs _ (Qc (Qcr hl) (by decide));have:=Zi.2 this
  push_cast at this ⊢
  exact this)
 refine SL λk=>?_
 have h1:=key k;rw [Py,Tv] at h1;have e3:(2*(9:Rat)+3)^9*((2^s*435848050:Nat):Rat)=(((794280046581*(2^s*435848050)):Nat):Rat):=by
  rw [show (2*(9:Rat)+3)^9=794280046581 by grind]
  push_cast; rfl
 rw [e3] at h1;have h2:=Zi.1 h1;rw [Tu];refine Z3 h2 ?_;have:794280046581*(2^s*435848050)=2^s*(794280046581*435848050):=by
  rw [Nat.mul_left_comm]
 rw [this,Xe];exact Nat.mul_lt_mul_of_pos_left (by decide) (Z2 (by decide))
theorem jT {l:Ui} {d:Int} (h:∀ z∈l,d∣z):d∣((Rj l:Nat):Int):=by
 have key:∀ (l:Ui) (g:Nat),d.natAbs∣g->(∀ z∈l,d∣z)->d.natAbs∣l.foldl (λg z=>Nat.gcd g z.natAbs) g:=by
  intro l
  induction l with
  | nil=>exact λg h _=>h
  | cons z l ih=>exact λg hg h=>ih _ (Nat.dvd_gcd hg (Jb.2 (h z (Qw ..)))) λu hu=>h u (Qg _ hu)
 have:=key l 0 (Nat.dvd_zero _) h;exact Jb.1 (by rw [Xh]; exact this)
theorem KP (p:Ui) (c:Int) (k:Nat):(p.map (· / c)).getD k 0=p.getD k 0 / c:=by
 rw [Qk,Qk,Zw];cases p[k]? <;> simp
theorem YO (p:Ui) (c:Int) (k:Nat):(Bi p c).getD k 0=p.getD k 0 / c:=by
 unfold Bi; rw [JZ,KP]
theorem GX {p:Ui} {c:Int} (h:∀ z∈p,c∣z) (t:Rat):Uy p t=(c:Rat)*Uy (Bi p c) t:=by
 have:=Bf c 0 t (max p.length (Bi p c).length) (Bi p c) [] p (by omega) (by simp) (by omega) λk=>by
  rw [YO];have hd:c∣p.getD k 0:=by
   rw [Qk];cases e:p[k]? with
   | none=>exact Int.dvd_zero _
   | some z=>exact h z (Qa e)
  rw [Kz hd]; simp
 rw [this]; simp only [Uy]; push_cast; grind
theorem QD {c:Int} (h:c≠0):(c:Rat)≠0:=λe=>h (by exact_mod_cast e)
theorem Ot {p q:Ui} {c:Rat} (tp:U7 p) (tq:U7 q) (hc:c≠0) (h:∀ t,Uy p t=c*Uy q t):p.length=q.length:=by
 have key:∀ {p q:Ui} {c:Rat},U7 p->U7 q->c≠0->(∀ t,Uy p t=c*Uy q t)->p.length<=q.length:=λ{p q c} tp tq hc h=>by
  rcases Zd q.length p.length with e | e
  ·have h1:=Rm tp (by omega);have:=Cv (p:=cz p) (q:=C0 c (cz q)) (λt=>by rw [U0,Gh,U0,h]) (p.length-1);rw [Py,Tl,Py,Qk (l:=q),Qz (by omega)] at this;have:((p.getD (p.length-1) 0:Int):Rat)=0:=by rw [this]; simp
   exact absurd (by exact_mod_cast this) h1
  ·exact e
 refine K7 (key tp tq hc h) (key (c:=1 / c) tq tp (λe=>?_) λt=>?_)
 ·have:=Zc (a:=1) hc; rw [e] at this; grind
 ·rw [h]; have:=Zc (a:=1) hc; grind
theorem Bj {p:Ui} (tp:U7 p) (h:p.length≠0):U7 (U9 p)/\(U9 p).length=p.length/\Prm (U9 p)/\0<Ff (U9 p)/\(∀ s,Bd s p->Bd s (U9 p))/\He p≠0/\∀ t,Uy p t=(He p:Rat)*Uy (U9 p) t:=by
 have h0:=bO tp h;have e:U9 p=Bi p (He p):=by unfold U9; rw [if_neg h]
 have h1:=GX (p:=p) (c:=He p) WH;have hl:=Ot tp (Oz p (He p)) (QD h0) h1;have hcp:0<Sp p:=by
  have:=ZG tp h;unfold Sp at this ⊢; omega
 rw [e];refine ⟨Oz _ _,hl.symm,λd hd=>?_,?_,λs hs=>SE hs _,h0,h1⟩
 ·have h2:∀ z∈p,d*He p∣z:=λz hz=>by
   obtain ⟨i,hi⟩:=Zm.1 hz;have h3:=hd i;rw [YO,Qk,hi] at h3;obtain ⟨k,hk⟩:=h3;have h4:=WH z hz;refine ⟨k,?_⟩;have:z / He p*He p=z:=Int.ediv_mul_cancel h4;rw [<-this];rw [show z / He p=d*k from hk,Int.mul_right_comm]
  have h3:=jT h2;have h4:He p∣((Rj p:Nat):Int)/\((Rj p:Nat):Int)∣He p:=by
   unfold He Sp; split
   ·exact ⟨Int.neg_dvd.2 (Kv _),Int.dvd_neg.2 (Kv _)⟩
   ·exact ⟨Kv _,Kv _⟩
  obtain ⟨k,hk⟩:=Kl h3 h4.2;refine ⟨k,?_⟩;have:He p*(d*k)=He p*1:=by rw [Int.mul_one,<-Int.mul_assoc,Ky (He p) d,<-hk]
  exact (Int.eq_of_mul_eq_mul_left h0 this).symm
 ·have h2:Ff (Bi p (He p))=Ff p / He p:=by unfold Ff; rw [<-hl,YO]
  have h3:He p∣Ff p:=WH _ (NJ h);have h5:Ff p / He p*He p=Ff p:=Int.ediv_mul_cancel h3;rw [h2];have h6:=Ll tp h;rcases Kg (Ff p / He p) 0 with e1 | e1 | e1
  ·exfalso;by_cases hn:Ff p<0
   ·have:He p=-Sp p:=by unfold He; rw [if_pos hn]
    have:0<Ff p / He p*He p:=V2 e1 (by omega);omega
   ·have:He p=Sp p:=by unfold He; rw [if_neg hn]
    have:Ff p / He p*He p<0:=Int.mul_neg_of_neg_of_pos e1 (by omega);omega
  ·rw [e1] at h5; omega
  ·exact e1
theorem Qeg {r:Ui} (tr:U7 r):∃ c:Rat,0<c/\∀ t,Uy r t=c*Uy (JL r) t:=by
 unfold JL;by_cases h:r.length=0
 ·rw [if_pos h]; exact ⟨1,by decide,λt=>by rw [Cy h,Cy rfl]; grind⟩
 ·rw [if_neg h];have h1:0<Sp r:=by
   have:=ZG tr h;unfold Sp at this ⊢; omega
  have h2:((0:Int):Rat)<(Sp r:Rat):=Jk.2 h1;exact ⟨Sp r,by simpa using h2,GX Ly⟩
theorem ZH (x:Int) (t:Rat):∀ i,Uy (mono i x) t=(x:Rat)*t^i
 | 0=>by simp only [mono,Wc,Yf,Uy,Z4]; grind
 |
  i+1=>by
  have ih:=ZH x t i;simp only [mono,Yp,Z9,Uy] at *;rw [ih,Zu]; push_cast; grind
theorem nI (x:Int) (b:Ui) (i k:Nat):(Ge (trim (mono i x)) b).getD k 0=if i<=k then x*b.getD (k-i) 0 else 0:=by
 have e:∀ t,Uy (Ge (trim (mono i x)) b) t=Uy (List.replicate i 0++b.map (x * ·)) t:=λt=>by
  rw [Fw,Tn,ZH];have h2:∀ i,Uy (List.replicate i 0++b.map (x * ·)) t=t^i*((x:Rat)*Uy b t):=λi=>by
   induction i with
   |
    zero =>
    simp only [Wc,Yf,Z4];have:=Bf x 0 t (max b.length (b.map (x * ·)).length) b [] (b.map (x * ·)) (by omega) (by simp) (by omega) λk=>by
     rw [Qk,Qk,Zw];cases b[k]? <;> simp
    rw [this]; simp only [Uy]; push_cast; grind
   | succ i ih=>simp only [Yp,Z9,Uy,ih,Zu]; push_cast; grind
  rw [h2]; grind
 rw [Do e k,Qk,List.getElem?_append,Y3];by_cases h:i<=k
 ·rw [if_neg (by omega),if_pos h,Zw,Qk];cases b[k-i]? <;> simp
 ·rw [if_pos (by omega),if_neg h,Jv,if_pos (by omega)]; rfl
theorem Qda {p:Ui} {n:Nat} (tp:U7 p) (h:p.length<=n+1) (h0:p.getD n 0=0):p.length<=n:=by
 rcases Zd n p.length with e | e
 ·have:=Rm tp (by omega);rw [show p.length-1=n by omega] at this;exact absurd h0 this
 ·exact e
theorem Qke {b r:Ui} {i:Nat} (tr:U7 r) (h:r.length<=b.length+i) (hb:b.length≠0) {x:Int} (hx:x=if r.length=b.length+i then Ff r else 0):(str b (Ff b) i x r).length<b.length+i:=by
 have hl:=OW (c:=Ff b) (x:=x) (i:=i) (b:=b) (r:=r);have:=Qda (p:=str b (Ff b) i x r) (n:=b.length+i-1) (Fq _ _) (by omega) (by
  unfold str;rw [Iw,Po,nI,if_pos (by omega),hx,show b.length+i-1-i=b.length-1 by omega]
  split
  ·rename_i he;unfold Ff;rw [he,Int.sub_eq_zero]
  ·rw [Qk (l:=r),Qz (by omega)]; simp)
 omega
theorem Qpv (b r:Ui) (c:Int) (i:Nat) (x:Int) (t:Rat):(c:Rat)*Uy r t=(x:Rat)*t^i*Uy b t+Uy (str b c i x r) t:=by
 unfold str;rw [Mi,Hq,Fw,Tn,ZH]; grind
theorem Qek (b:Ui) (c:Int):∀ (i:Nat) (q r:Ui),∃ X:Ul,∀ t,((c^i:Int):Rat)*Uy r t=ev X t*Uy b t+Uy (kJ b c i (q,r)).2 t
 | 0,q,r=>⟨[],λt=>by simp only [kJ,ev]; rw [Wq]; push_cast; grind⟩
 |
  i+1,q,r=>by
  obtain ⟨x,hx⟩:=nmE (if r.length=b.length+i then Ff r else 0);obtain ⟨X,hX⟩:=Qek b c i (stq c i x q) (str b c i x r);obtain ⟨m,hm⟩:∃ m:Ul,∀ t,ev m t=(x:Rat)*t^i:=⟨cz (mono i x),λt=>by rw [U0,ZH]⟩;refine ⟨Tp (C0 ((c^i:Int):Rat) m) X,λt=>?_⟩;rw [ZP hx,Gp,Gh,hm];have h1:=hX t;have h2:=Qpv b r c i x t;rw [Wp]
  push_cast at h1 ⊢
  have:(c:Rat)^i*c*Uy r t=(c:Rat)^i*((c:Rat)*Uy r t):=by grind
  rw [this,h2]; grind
theorem cU {b:Ui} (hb:b.length≠0):∀ (i:Nat) (q r:Ui),U7 r->r.length<b.length+i->U7 (kJ b (Ff b) i (q,r)).2/\(kJ b (Ff b) i (q,r)).2.length<b.length
 | 0,q,r,tr,h=>⟨tr,h⟩
 |
  i+1,q,r,tr,h=>by
  rw [ZP rfl];exact cU hb i _ _ (Fq _ _) (Qke tr (by omega) hb rfl)
theorem Qej {b:Ui} {c:Int} {t:Nat} (hb:Bd t b) (hc:U5 c<=t):∀ (i u:Nat) (q r:Ui),i<=64->Bd u r->Bd (u+i*(t+8)) (kJ b c i (q,r)).2
 | 0,u,q,r,_,h=>by simpa [kJ] using h
 |
  i+1,u,q,r,hi,h=>by
  rw [ZP rfl];have hx:U5 (if r.length=b.length+i then Ff r else 0)<=u:=by
   split
   ·exact Mf h
   ·rw [Dc]; exact Qi _
  have:=Qej hb hc i (u+t+8) (stq c i (if r.length=b.length+i then Ff r else 0) q) (str b c i (if r.length=b.length+i then Ff r else 0) r) (by omega) (uR h hb hc hx (by omega));exact Uv this (by rw [Z8]; omega)
theorem BJ {c:Int} (h:c<0):∀ k:Nat,(k % 2=1->c^k<0)/\(k % 2=0->0<c^k)
 | 0=>⟨λh=>by omega,λ_=>by rw [Wq]; decide⟩
 |
  k+1=>by
  obtain ⟨i1,i2⟩:=BJ h k;rw [Wp];exact ⟨λhk=>V1 (i2 (by omega)) h,λhk=>V2 (i1 (by omega)) h⟩
theorem SJ {a b:Ui} (ta:U7 a) (tb:U7 b) (hb:b.length≠0) (hl:a.length<=60):U7 (Rl a b)/\(Rl a b).length<b.length/\(∀ s,Bd s a->Bd s b->Bd (s+(a.length+1-b.length)*(s+8)) (Rl a b)) /\
 ∃ u v:Rat,0<u/\0<v/\∃ X:Ul,∀ t,u*Uy a t=ev X t*Uy b t+v*Uy (Rl a b) t:=by
 obtain ⟨k,hk⟩:=nmE (a.length+1-b.length);have h1:U7 (Pl a b)/\(Pl a b).length<b.length:=cU hb _ _ _ ta (by omega);obtain ⟨X,hX⟩:=Qek b (Ff b) k [] a;have hX:∀ t,(((Ff b)^k:Int):Rat)*Uy a t=ev X t*Uy b t+Uy (Pl a b) t:=by unfold Pl; rw [<-hk]; exact hX
 have h2:=WP (a:=a) (b:=b) (r:=Pl a b) (n:=(Pl a b).length) (s:=(Pl a b).foldl (λm z=>m+U5 z) 0) h1.1 (Ql _) (λz hz=>by
  have key:∀ (l:Ui) (m:Nat),m≤l.foldl (λm z=>m+U5 z) m/\∀ z∈l,U5 z≤l.foldl (λm z=>m+U5 z) m:=by
   intro l
   induction l with
   | nil=>exact λm=>⟨Ql _,λz hz=>by cases hz⟩
   |
    cons y l ih =>
    intro m;obtain ⟨i1,i2⟩:=ih (m+U5 y);refine ⟨by simp only [Z7]; omega,λz hz=>?_⟩;simp only [Z7];rcases Qm.1 hz with rfl | hz
    ·omega
    ·exact i2 z hz
  exact (key _ 0).2 z hz)
 have h3:=NA (r:=Nh a b (Pl a b)) (n:=(Pl a b).length) h2.2.1 h2.2.2;refine ⟨h3.1,by unfold Rl; omega,λs ha hbs=>?_,?_⟩
 ·have h4:=Qej (c:=Ff b) hbs (Mf hbs) k s [] a (by omega) ha;have h5:=WP (a:=a) (b:=b) (n:=(Pl a b).length) h1.1 (Nat.le_refl _) (show Bd (s+k*(s+8)) (Pl a b) by unfold Pl; rw [<-hk]; exact h4);rw [<-hk];exact (NA h5.2.1 h5.2.2).2.2
 ·obtain ⟨v,vp,hv⟩:=Qeg h2.1;have hc:=Ll tb hb;by_cases ht:k % 2=1/\Ff b<0
  ·have e1:Nh a b (Pl a b)=D5 (Pl a b):=by unfold Nh; rw [<-hk,if_pos ht]
   have hneg:(Ff b)^k<0:=(BJ ht.2 k).1 ht.1;have h5:(((Ff b)^k:Int):Rat)<((0:Int):Rat):=Jk.2 hneg;have h5:(((Ff b)^k:Int):Rat)<0:=by simpa using h5
   refine ⟨-(((Ff b)^k:Int):Rat),v,by grind,vp,C0 (-1) X,λt=>?_⟩;have h6:=hX t;have h7:=hv t;rw [e1,WG] at h7;show _=_+v*Uy (JL (Nh a b (Pl a b))) t;rw [e1,<-h7,Gh]; grind
  ·have e1:Nh a b (Pl a b)=Pl a b:=by unfold Nh; rw [<-hk,if_neg ht]
   have hpos:0<(Ff b)^k:=by
    rcases V8 hc with h | h
    ·exact (BJ h k).2 (by omega)
    ·exact Int.pow_pos h
   have h5:((0:Int):Rat)<(((Ff b)^k:Int):Rat):=Jk.2 hpos;refine ⟨(((Ff b)^k:Int):Rat),v,by simpa using h5,vp,X,λt=>?_⟩;have h7:=hv t;show _=_+v*Uy (JL (Nh a b (Pl a b))) t;rw [<-h7,e1,hX]
end Orq
namespace Orr
open Go Go.Proofs Tryz Orq
set_option maxRecDepth 10000
theorem TM:∀ {k:Nat} {g:Ui} {l:Uj},Pb g->FS k g=some l->l.length≤k/\∀ p∈l,Pb p
 | 0,_,_,_,h=>by cases h
 |
  k+1,g,l,hg,h=>by
  simp only [FS] at h
  split at h
  ·injection h with h; subst h; exact ⟨by simp,λp hp=>by cases hp⟩
  ·obtain ⟨d,hd,h⟩:=Qd.1 h;obtain ⟨rfl,hdp⟩:=NB hd;obtain ⟨x,hx,h⟩:=Qd.1 h;obtain ⟨q,hq,h⟩:=Qd.1 h;obtain ⟨r,hr,h⟩:=Qd.1 h;injection h with h; subst h;obtain ⟨i1,i2⟩:=TM (GZ hg hdp hx) hr;refine ⟨by simp; exact i1,λp hp=>?_⟩;rcases Qm.1 hp with rfl | hp
   ·exact rG hq
   ·exact i2 p hp
theorem Qax {a:Ui} {l:Uj} (ha:Pb a) (h:FS 66 (U9 a)=some l):Uf 389 [pr a] [.one (.row (Sl l))]:=by
 have hp:=Rh ha;refine Gb func389 rfl ?_;refine W9 [.o 3 34 1,.k (Ae ha)] rfl ?_;refine Ue (S:=Nat×Uj×Ui) 1 (λL1 s=>(4,.v (pr s.2.2))::(3,.v (.one (.orow 0 1 none)))::L1) (λs=>[.row false 34 1 (Sl s.2.1)]) (λs=>s.1) (λs=>Pb s.2.2/\s.2.1.length+s.1<=66/\∃ m,FS s.1 s.2.2=some m/\s.2.1++m=l) (66,[],U9 a) ⟨hp,Ql _,l,h,rfl⟩ rfl rfl λ⟨k,out,g⟩ ⟨j1,j2,m,j3,j4⟩=>?_
 dsimp only at j1 j2 j3 j4 ⊢;cases k with
 | zero=>cases j3
 |
  succ k =>
  simp only [FS] at j3
  split at j3
  ·rename_i h0;injection j3 with j3; subst j3;rw [Zy] at j4;subst j4;exact Ub [.k (Ph _),.f (by simp; omega)] rfl
  ·rename_i h0;obtain ⟨d,hd,j3⟩:=Qd.1 j3;obtain ⟨rfl,hdp⟩:=NB hd;obtain ⟨x,hx,j3⟩:=Qd.1 j3;obtain ⟨q,hq,j3⟩:=Qd.1 j3;obtain ⟨r,hr,j3⟩:=Qd.1 j3;injection j3 with j3; subst j3;have hxp:=GZ j1 hdp hx;refine go tt [.k (Ph _),.t (by simp; omega),.k (A7 j1.ln j1.bd),.k (pE j1 hdp hx),.k (Qa4 j1 hxp hq),.s (sz:=1) (l:=[[pl q]]) (λc hc=>by rw [Qj.1 hc]; rfl)] rfl (by simp [Uw,Lz]; omega) ?_;exact rd (k,out++[q],x) (by dsimp only; omega) ⟨hxp,by simp; omega,r,hr,by rw [<-j4]; simp⟩ (by rw [NE]; rfl)
theorem MU:∀ {l r:Uj},CY l=some r->r.length=l.length/\∀ i w,l[i]? = some w->(match l[i+1]? with | some v=>∃ f,ZS w v=some f/\r[i]? = some f | none=>r[i]? = some w)
 | [],r,h=>by injection h with h; subst h; exact ⟨rfl,λi w hw=>by simp at hw⟩
 |
  [w],r,h=>by
  injection h with h; subst h;refine ⟨rfl,λi x hx=>?_⟩;cases i with
  | zero=>simpa using hx
  | succ i=>simp at hx
 |
  w::v::l,r,h=>by
  simp only [CY] at h;obtain ⟨f,hf,h⟩:=Qd.1 h;obtain ⟨s,hs,h⟩:=Qd.1 h;injection h with h; subst h;obtain ⟨i1,i2⟩:=MU hs;refine ⟨by simp [i1],λi x hx=>?_⟩;cases i with
  |
   zero =>
   injection hx with hx; subst hx;exact ⟨f,hf,rfl⟩
  |
   succ i =>
   have:=i2 i x (by simpa using hx);simpa using this
theorem IA:∀ {l r:Uj},(∀ p∈l,Pb p)->CY l=some r->∀ p∈r,Pb p
 | [],r,_,h=>by injection h with h; subst h; exact λp hp=>by cases hp
 | [w],r,hl,h=>by injection h with h; subst h; exact hl
 |
  w::v::l,r,hl,h=>by
  simp only [CY] at h;obtain ⟨f,hf,h⟩:=Qd.1 h;obtain ⟨s,hs,h⟩:=Qd.1 h;injection h with h; subst h;intro p hp;rcases Qm.1 hp with rfl | hp
  ·exact rG hf
  ·exact IA (λp hp=>hl p (Qg _ hp)) hs p hp
theorem dA {a:Ui} {l r:Uj} (ha:Pb a) (h:FS 66 (U9 a)=some l) (hr:CY l=some r):Uf 385 [pr a] [.one (.row (Sl r))]:=by
 obtain ⟨i1,i2⟩:=TM (Rh ha) h;obtain ⟨j1,j2⟩:=MU hr;have hw:=Lz l;refine Gb func385 rfl ?_;refine go tt [.k (Qax ha h),.i (Sl l).length,.i (Sl l).length] rfl (by simp [Uw,hw]; omega) ?_;rw [hw,Eg λi=>[pl (r.getD i [])]];refine Ue (S:=Nat) 1 (λL1 k=>(14,.v (.oi k))::L1) (λk=>[.row false 34 1 (BE (λi=>[pl (r.getD i [])]) [.nils] l.length k)]) (λk=>l.length-k) (λk=>k<=l.length) 0 (Qi _) rfl rfl λk hk=>?_
 by_cases hlt:k<l.length
 ·obtain ⟨w,hx⟩:=gxE (l:=l) (i:=k) hlt;have e:=Oj (λi=>[pl (r.getD i [])]) [.nils] hlt;have hg:=j2 k w hx;by_cases h2:k+1<l.length
  ·obtain ⟨v,hv⟩:=gxE (l:=l) (i:=k+1) h2;rw [hv] at hg;obtain ⟨f,f1,f2⟩:=hg;have e2:r.getD k []=f:=by rw [Qk,f2]; rfl
   rw [e2] at e;refine go tt [.t (by simp [hw]; omega),.x (H5 hx),.i k,.t (by simp [hw]; omega),.x (i:=k+1) (H5 hv),.k (Qa4 (i2 w (Qa hx)) (i2 v (Qa hv)) f1),.i k] rfl (by simp [Uw,An,hw]; omega) ?_;rw [List.set_set,e];exact rd (k+1) (by omega) hlt rfl
  ·have hv:l[k+1]? = none:=Qz (by omega);rw [hv] at hg;have e2:r.getD k []=w:=by rw [Qk,hg]; rfl
   rw [e2] at e;refine go tt [.t (by simp [hw]; omega),.x (H5 hx),.i k,.f (by simp [hw]; omega)] rfl (by simp [Uw,An,hw]; omega) ?_;rw [e];exact rd (k+1) (by omega) hlt rfl
 ·obtain rfl:k=l.length:=by omega
  have e:BE (λi=>[pl (r.getD i [])]) [.nils] l.length l.length=Sl r:=by
   rw [Oi,<-j1];refine Xl λi=>?_
   simp only [Sl,Zw];by_cases hi:i<r.length
   ·rw [Jl hi]; simp [Qk,Qf hi]
   ·rw [Qz (by simpa using hi),Qz (by simpa using hi)]; rfl
  rw [e];exact Ub [.f (by simp [hw])] rfl
theorem rS {p:Ui} (tp:U7 p):U9 (U9 p)=U9 p:=by
 by_cases h:p.length=0
 ·have e:U9 p=[]:=by unfold U9; rw [if_pos h]
  rw [e]; rfl
 ·obtain ⟨h1,h2,h3,h4,_⟩:=Bj tp h;have hc:Sp (U9 p)=1:=by
   have h5:Sp (U9 p)∣1:=h3 _ λk=>by
    by_cases hk:k<(U9 p).length
    ·rw [Qk,Qf hk]; exact Ly _ (Xy hk)
    ·rw [Qk,Qz (by omega)]; exact Int.dvd_zero _
   have h6:0<=Sp (U9 p):=by unfold Sp; omega
   exact Int.eq_one_of_dvd_one h6 h5
  have hf:∀ q:Ui,0<Ff q->He q=Sp q:=λq hq=>by unfold He; rw [if_neg (by omega)]
  have hf:=(hf _ h4).trans hc;have e0:∀ q:Ui,q.length≠0->U9 q=Bi q (He q):=λq hq=>by unfold U9; rw [if_neg hq]
  have e:=e0 (U9 p) (by omega);rw [hf] at e;rw [e];unfold Bi;have e2:(U9 p).map (· / (1:Int))=U9 p:=by
   conv=>rhs; rw [<-List.map_id (U9 p)]
   exact Xz λz _=>by simp
  rw [e2];exact h1
theorem dY (i:Nat):(i:Int).tmod 2=((i % 2:Nat):Int):=rfl
theorem Qnb {a:Ui} (ha:Pb a) (h:(U9 a).length=0):Uf 381 [pr a] [pr []] :=
 Uc func381 rfl [.k (Ae ha),.t (by simp [Qh h])] rfl
theorem XM:∀ {l:Uj} {i:Nat} {p o:Ui},Pb p->(∀ f∈l,Pb f)->WV i p l=some o->Pb o
 | [],i,p,o,hp,_,h=>by simp only [WV] at h; injection h with h; subst h; exact hp
 |
  f::l,i,p,o,hp,hl,h=>by
  simp only [WV] at h
  split at h
  ·obtain ⟨q,hq,h⟩:=Qd.1 h;obtain ⟨rfl,hq'⟩:=Od (Hm _ _) hq;exact XM hq' (λf hf=>hl f (Qg _ hf)) h
  ·exact XM hp (λf hf=>hl f (Qg _ hf)) h
theorem Qeb:Pb [1]:=⟨rfl,by decide,λz hz=>by rw [Qj.1 hz]; decide⟩
theorem Qqy {a o:Ui} (ha:Pb a) (h:rT a=some o):Uf 381 [pr a] [pr o]:=by
 unfold rT at h
 split at h
 ·rename_i h0;injection h with h; subst h;exact Qnb ha h0
 rename_i h0;obtain ⟨l,hl,h⟩:=Qd.1 h;obtain ⟨fs,hf,h⟩:=Qd.1 h;have hpa:=Rh ha;have hl':FS 66 (U9 (U9 a))=some l:=by rw [rS ha.t]; exact hl
 obtain ⟨i1,i2⟩:=TM (Rh ha) hl;have i3:=IA i2 hf;obtain ⟨j1,_⟩:=MU hf;have hw:=Lz fs;have co:=DY (p:=[1]) (by decide) (λz hz=>by rw [Qj.1 hz]; decide);rw [show trim [1]=[1] from rfl] at co;refine Gb func381 rfl ?_;refine W9 [.k (Ae ha),.f (by simpa using h0),.k co,.k (dA hpa hl' hf)] rfl ?_ (by simp [Uw]);refine Ue (S:=Nat×Ui) 0 (λL1 s=>(16,.v (.oi (s.1:Int)))::(3,.v (pr s.2))::L1) (λ_=>[]) (λs=>fs.length-s.1) (λs=>s.1<=fs.length/\Pb s.2/\WV s.1 s.2 (fs.drop s.1)=some o) (0,[1]) ⟨Qi _,Qeb,h⟩ rfl rfl λ⟨i,p⟩ ⟨k1,k2,k3⟩=>?_
 dsimp only at k1 k2 k3 ⊢;by_cases hlt:i<fs.length
 ·obtain ⟨f,hx⟩:=gxE (l:=fs) (i:=i) hlt;have hdr:fs.drop i=f::fs.drop (i+1):=by
   rw [Zp hlt]; congr 1;have:=Qf hlt; rw [hx] at this; injection this with this; exact this.symm
  rw [hdr] at k3;simp only [WV] at k3;have pf:=i3 f (Qa hx);by_cases h2:i % 2=0
  ·rw [if_pos h2] at k3;obtain ⟨q,hq,k3⟩:=Qd.1 k3;obtain ⟨rfl,hq'⟩:=Od (Hm _ _) hq;refine Ua [.t (by simp [hw]; omega),.x (H5 hx),.t (by rw [dY,h2]; rfl),.k (YJ k2.t pf.t (Z3 k2.l (by decide)) (Z3 pf.l (by decide)) k2.b pf.b (by decide))] rfl ?_;exact rd (i+1,Ge p f) (by dsimp only; omega) ⟨hlt,hq',k3⟩ rfl
  ·rw [if_neg h2] at k3;refine Ua [.t (by simp [hw]; omega),.x (H5 hx),.f (by rw [dY,show i % 2=1 by omega]; rfl)] rfl ?_;exact rd (i+1,p) (by dsimp only; omega) ⟨hlt,k2,k3⟩ rfl
 ·obtain rfl:i=fs.length:=by omega
  rw [Ys] at k3;simp only [WV] at k3;injection k3 with k3; subst k3;exact Ub [.f (by simp [hw])] rfl
theorem Om (z:Int):U5 (z.natAbs:Int)=U5 z:=by unfold U5; simp
theorem Qaq {x y:LV} {z:Int} (hi:Gk x y z) (hs:U5 z<=4294967295):Uf 386 [.agg [x,y]] [.agg (G6 (z.natAbs:Int))]:=by
 obtain ⟨b,l,rfl,rfl,hl,rfl⟩:=hi;have e:(U6 false (val l))=((U6 b (val l)).natAbs:Int):=by rw [Ra]; rfl
 rw [<-e];exact Uc func386 rfl [.k (YX hl (Qc (S8 hs) (by decide))),.k (Pa _ _)] rfl
theorem IW {n d:Int} (h0:d≠0) (hn:U5 n<=4294967295) (hd:U5 d<=4294967295):Uf 145 [.agg (G6 n),.agg (G6 d)] [.agg (rl (Rat.divInt n d)),.oi 0] :=
 Uc func145 rfl [.k (Pw (Uu d) hd),.k Nv,.f (by simpa using h0),.k (Pw (Uu n) hn),.k (A8 h0 hn hd)] rfl
theorem aQ (l:Ui) (z:Int):QX (l++[z])=if QX l<z.natAbs then z.natAbs else QX l:=by unfold QX; rw [List.foldl_append]; rfl
theorem bQ {s:Nat}:∀ {l:Ui},Bd s l->U5 (QX l:Int)<=s:=λ{l}=>by
 suffices h:∀ (l:Ui) (m:Nat),Bd s l->U5 (m:Int)<=s->U5 ((l.foldl (λm z=>if m<z.natAbs then z.natAbs else m) m:Nat):Int)<=s from λhb=>h l 0 hb (by simp [U5,sz])
 intro l
 induction l with
 | nil=>exact λm _ h=>h
 |
  cons z l ih =>
  intro m hb hm;refine ih _ (λy hy=>hb y (Qg _ hy)) ?_;show U5 ((if m<z.natAbs then z.natAbs else m:Nat):Int)<=s
  split
  ·rw [Om]; exact hb z (Qw ..)
  ·exact hm
def ozi:Option Nat->Un
 | none=>[.bool false,.nils]
 | some m=>G6 (m:Int)
def ozr:Option Nat->Un
 | none=>[.bool false,.row []]
 | some m=>G6 (m:Int)
theorem Qg9 {p:Ui} (hp:Pb p) (h0:p.length≠0):Uf 382 [pr p] [.agg (rl (Gm p)),.oi 0]:=by
 have hl:=hp.l;have hll:(p.take (p.length-1)).length=p.length-1:=by simp
 have hbt:Bd 16777216 (p.take (p.length-1)):=λz hz=>hp.b z (Qn hz)
 refine Gb func382 rfl ?_;refine Ua [.k (Hd hp.t hp.ln hp.bd),.f (by simpa using h0),.r 18 (eI (b:=((p.length-1:Nat):Int)) (by simp; omega)),.i (p.length-1)] rfl ?_;rw [<-Yl];refine Ue (S:=Nat×Option Nat) 2 (λL1 s=>(21,.v (.oi (s.1:Int)))::L1) (λs=>[.blk 43 [.bool false,.nils,.bool false,.nils],.blk 37 (ozi s.2)]) (λs=>p.length-1-s.1) (λs=>s.1<=p.length-1/\QX ((p.take (p.length-1)).take s.1)=s.2.getD 0) (0,none) ⟨Qi _,rfl⟩ rfl rfl λ⟨i,o⟩ ⟨j1,j2⟩=>?_
 dsimp only at j1 j2 ⊢;by_cases hlt:i<p.length-1
 ·obtain ⟨z,hz⟩:=gxE (l:=(p.take (p.length-1))) (i:=i) (by omega);have bz:U5 z<=16777216:=hbt z (Qa hz);have hst:QX ((p.take (p.length-1)).take (i+1))=if o.getD 0<z.natAbs then z.natAbs else o.getD 0:=by
   rw [Z5,hz]; show QX (_++[z])=_; rw [aQ,j2]
  have ca:=Qaq (Uu z) (Qc bz (by decide));have hl1:decide ((i:Int)<(((p.take (p.length-1)).map G6).length:Int))=true:=by simp; omega
  have bm:U5 ((o.getD 0:Nat):Int)<=16777216:=by rw [<-j2]; exact bQ λy hy=>hbt y (Qn hy)
  have hcm:C9 (z.natAbs:Int) ((o.getD 0:Nat):Int)>0↔o.getD 0<z.natAbs:=by unfold C9; split <;> (try split) <;> omega
  have cc:Uf 100 [.agg (G6 (z.natAbs:Int)),.agg (ozr o)] [.oi (C9 (z.natAbs:Int) ((o.getD 0:Nat):Int))]:=by
   cases o with
   | none=>exact UB (Uu _) Ol (by rw [Om]; omega) (by decide)
   | some m=>exact UB (Uu _) (Uu _) (by rw [Om]; omega) (Qc bm (by decide))
  by_cases hc:o.getD 0<z.natAbs
  ·rw [if_pos hc] at hst;have hd:decide (C9 (z.natAbs:Int) ((o.getD 0:Nat):Int)>0)=true:=by simpa using hcm.2 hc
   cases o <;> (refine Ua [.t hl1,.x (H9 (f:=G6) hz),.k ca,.k cc,.t hd] rfl ?_; exact rd (i+1,some z.natAbs) (by dsimp only; omega) ⟨hlt,hst⟩ rfl)
  ·rw [if_neg hc] at hst;have hd:decide (C9 (z.natAbs:Int) ((o.getD 0:Nat):Int)>0)=false:=by
    have:=mt hcm.1 hc; simpa using this
   cases o with
   | none=>refine Ua [.t hl1,.x (H9 (f:=G6) hz),.k ca,.k cc,.f hd] rfl ?_; exact rd (i+1,none) (by dsimp only; omega) ⟨hlt,hst⟩ rfl
   | some m=>refine Ua [.t hl1,.x (H9 (f:=G6) hz),.k ca,.k cc,.f hd] rfl ?_; exact rd (i+1,some m) (by dsimp only; omega) ⟨hlt,hst⟩ rfl
 ·obtain rfl:i=p.length-1:=by omega
  rw [Qo (by omega)] at j2;have bl:U5 (Ff p)<=16777216:=hp.b _ (NJ h0);have ln:((Ff p).natAbs:Int)≠0:=by have:=Ll hp.t h0; omega
  have cl:=Co hp.t hp.ln hp.bd;have ca:=Qaq (Uu (Ff p)) (Qc bl (by decide));have bm:U5 ((o.getD 0:Nat):Int)<=16777216:=by rw [<-j2]; exact bQ hbt
  have cd:Uf 185 [.agg (G6 ((Ff p).natAbs:Int)),.agg (ozr o)] [.agg (G6 (((Ff p).natAbs:Int)+(QX (p.take (p.length-1)):Int)))]:=by
   rw [j2];cases o with
   | none=>exact YY (Uu _) Ol (by rw [Om]; omega) (by decide)
   | some m=>exact YY (Uu _) (Uu _) (by rw [Om]; omega) (Qc bm (by decide))
  have cm:=IW (n:=((Ff p).natAbs:Int)+(QX (p.take (p.length-1)):Int)) ln (Qc (On _ _) (by rw [Om,j2]; omega)) (by rw [Om]; omega);have hf:decide (((p.length-1:Nat):Int)<(((p.take (p.length-1)).map G6).length:Int))=false:=by simp
  cases o <;> exact Ub [.f hf,.k cl,.k ca,.k cd,.k cm] rfl
theorem Qle {z:Int}:Uf 364 [.agg (G6 z)] [.oi (Int.sign z)]:=by
 by_cases h0:z=0
 ·subst h0;exact Uc func364 rfl [.t (by simp [Ux,Gw])] rfl
 ·have hl:(Fo z.natAbs).length≠0:=λh=>h0 (eD.1 h)
  have hl':decide (((lm (Fo z.natAbs)).length:Int)=0)=false:=by simpa [Ux] using hl
  by_cases h1:z<0
  ·rw [J3 h1];exact Uc func364 rfl [.f hl',.t (by simpa using h1)] rfl
  ·rw [Yt (by omega)];exact Uc func364 rfl [.f hl',.f (by simpa using h1)] rfl
theorem oU {p:Ui} (hp:Pb p):Uf 391 [pr p] [.oi (QQ p),.oi (KF p)]:=by
 have hb:-1<=(Ff p).sign/\(Ff p).sign<=1:=by rcases E5 (Ff p) with h | h | h <;> omega
 by_cases h:p.length % 2=0
 ·have e:QQ p=-(Ff p).sign:=by unfold QQ; rw [if_pos h]
  rw [e];exact Uc func391 rfl [.k (Hd hp.t hp.ln hp.bd),.k (Co hp.t hp.ln hp.bd),.k Qle,.t (by rw [dY]; simp [h])] rfl rfl (by simp [Uw,Ff] at hb ⊢; omega)
 ·have e:QQ p=(Ff p).sign:=by unfold QQ; rw [if_neg h]
  rw [e];exact Uc func391 rfl [.k (Hd hp.t hp.ln hp.bd),.k (Co hp.t hp.ln hp.bd),.k Qle,.f (by rw [dY]; simp; omega)] rfl rfl (by simp [Uw])
theorem Qaz {p:Ui} (hp:Pb p):Uf 390 [pr p] [.oi (QQ p)]:=Uc func390 rfl [.k (oU hp)] rfl
theorem Qh0 {p:Ui} (hp:Pb p):Uf 392 [pr p] [.oi (KF p)]:=Uc func392 rfl [.k (oU hp)] rfl
theorem Qa6 {q:Rat} (hq:Qs 4294967295 q):Uf 129 [.agg (rl q)] [.agg (rl (-q))]:=by
 exact Uc func129 rfl [.k (QU hq),.k (PX (Uu _) hq.1)] rfl
theorem xI {l:Uj} {fid:Nat} {sg:Ui->Int} (hl:l.length≤1000) (hs:∀ p,-1≤sg p/\sg p≤1) (h:∀ p∈l,BI prog fid [pr p] [.oi (sg p)]):Uf 305 [.one (.sh [.row (Sl l)]),.one (.fn fid [] [])] [.oi (Bu sg l:Nat)]:=by
 have hpl:=Lz l;refine Gb func305 rfl ?_;refine W9 [] rfl ?_;refine Ue (S:=Nat) 0 (λL1 i=>(15,.v (.oi i))::(5,.v (.oi ((JG sg l i).1:Int)))::(6,.v (.one (.int .i64 (JG sg l i).2)))::L1) (λ_=>[]) (λi=>l.length-i) (λi=>i<=l.length) 0 (Qi _) rfl rfl λi hi=>?_
 by_cases hlt:i<l.length
 ·obtain ⟨p,hp⟩:=gxE (l:=l) (i:=i) hlt;have hst:JG sg l (i+1)=S6 sg (JG sg l i) p:=Ti _ _ _ hp;obtain ⟨b1,b2,b3⟩:=qA hs l i;have b4:=hs p;by_cases h0:sg p=0
  ·refine Ua [.t (by simp [hpl]; omega),.x (H5 hp),.k (h p (Qa hp)),.t (by simpa using h0)] rfl ?_;exact rd (i+1) (by omega) hlt (by rw [hst,show S6 sg (JG sg l i) p=JG sg l i from by unfold S6; rw [if_pos h0]]; rfl)
  ·by_cases h1:(JG sg l i).2=-(sg p)
   ·refine Ua [.t (by simp [hpl]; omega),.x (H5 hp),.k (h p (Qa hp)),.f (by simpa using h0),.t (by simpa using h1)] rfl ?_;exact rd (i+1) (by omega) hlt (by rw [hst,show S6 sg (JG sg l i) p=((JG sg l i).1+1,sg p) from by unfold S6; rw [if_neg h0,if_pos h1]]; rfl)
   ·refine Ua [.t (by simp [hpl]; omega),.x (H5 hp),.k (h p (Qa hp)),.f (by simpa using h0),.f (by simpa using h1)] rfl ?_;exact rd (i+1) (by omega) hlt (by rw [hst,show S6 sg (JG sg l i) p=((JG sg l i).1,sg p) from by unfold S6; rw [if_neg h0,if_neg h1]]; rfl)
 ·obtain rfl:i=l.length:=by omega
  refine Ub [.f (by simp [hpl])] rfl ?_ trivial;unfold JG Bu; rw [List.take_length]
theorem FX (p:Ui):(-1<=QQ p/\QQ p<=1)/\-1<=KF p/\KF p<=1:=by
 have hb:-1<=(Ff p).sign/\(Ff p).sign<=1:=by rcases E5 (Ff p) with h | h | h <;> omega
 unfold QQ KF
 split <;> omega
theorem Qha {l:Uj} (hl:l.length≤1000) (hp:∀ p∈l,Pb p):Uf 384 [.one (.sh [.row (Sl l)])] [.oi (VY l)]:=by
 have c1:Uf 387 [.one (.sh [.row (Sl l)])] [.oi (Bu QQ l:Nat)] :=
  Uc func387 rfl [.k (xI hl (λp=>(FX p).1) λp h=>Qaz (hp p h))] rfl
 have c2:Uf 388 [.one (.sh [.row (Sl l)])] [.oi (Bu KF l:Nat)] :=
  Uc func388 rfl [.k (xI hl (λp=>(FX p).2) λp h=>Qh0 (hp p h))] rfl
 have b1:Bu QQ l<=l.length:=Dw (λp=>(FX p).1) l;have b2:Bu KF l<=l.length:=Dw (λp=>(FX p).2) l;exact Uc func384 rfl [.k c1,.k c2] rfl rfl (by simp [Uw]; omega)
theorem uS {l:Uj} {lo hi:Rat} (hl:l.length<=1000):-1000<=Rx l lo hi/\Rx l lo hi<=1000:=by
 have b1:Bv l lo<=l.length:=Dw (λp=>Iu p lo) l;have b2:Bv l hi<=l.length:=Dw (λp=>Iu p hi) l;unfold Rx; split <;> omega
end Orr
namespace Orr
open Go Go.Proofs Tryz
set_option maxRecDepth 10000
abbrev run1:Crv:=⟨[0,1],[],1⟩
theorem NH:QK run1:=⟨rfl,rfl,by decide,by decide⟩
theorem cs_run1:Cs 3 3 run1:=by
 refine ⟨λz hz=>?_,λz hz=>(by cases hz),by decide,by decide,by decide⟩;rcases Qm.1 hz with rfl | hz
 ·decide
 ·rw [Qj.1 hz]; decide
theorem Cs.up {s n s' n':Nat} {k:Crv} (h:Cs s n k) (hs:s<=s') (hn:n<=n'):Cs s' n' k:=⟨Uv h.x hs,Uv h.y hs,Qc h.d hs,Qc h.lx hn,Qc h.ly hn⟩
end Orr
namespace Orq
open Orr Go
theorem Eb {p:Ui} (h1:p.length<=64) (h2:Bd 16777216 p):DG p=some p:=by
 unfold DG;rw [if_pos ⟨h1,Vb.2 λz hz=>Nat.ble_eq_true_of_le (h2 z hz)⟩]
theorem DO {a b:Ui} {g:Ul} {c:Rat} (hc:c≠0) (h:∀ t,Uy a t=c*Uy b t):QV g (cz a)↔QV g (cz b):=by
 constructor
 ·rintro ⟨u,hu⟩
  refine ⟨C0 (1 / c) u,λt=>?_⟩;have h1:=hu t;rw [U0,h] at h1;rw [U0,Gh];have h2:1 / c*c=1:=Zc hc;have:Uy b t=1 / c*(c*Uy b t):=by grind
  rw [this,h1]; grind
 ·rintro ⟨u,hu⟩
  refine ⟨C0 c u,λt=>?_⟩;have h1:=hu t;rw [U0] at h1;rw [U0,Gh,h,h1]; grind
structure Gc (g a b:List Int):Prop where
 t:U7 g
 da:QV (cz g) (cz a)
 db:QV (cz g) (cz b)
 c:∃ U V,∀ t,Uy g t=ev U t*Uy a t+ev V t*Uy b t
 n:g.length≠0
theorem Gc.scale {g a b g' a' b':Ui} {x y z:Rat} (h:Gc g a b) (hx:x≠0) (hy:y≠0) (hz:z≠0) (tg:U7 g') (eg:∀ t,Uy g t=x*Uy g' t) (ea:∀ t,Uy a' t=y*Uy a t) (eb:∀ t,Uy b' t=z*Uy b t):Gc g' a' b':=by
 have hx1:1 / x*x=1:=Zc hx;have hy1:1 / y*y=1:=Zc hy;have hz1:1 / z*z=1:=Zc hz;have hg:∀ c,QV (cz g) c->QV (cz g') c:=λc ⟨u,hu⟩=>⟨C0 x u,λt=>by rw [hu,U0,U0,eg,Gh]; grind⟩
 obtain ⟨U,V,hc⟩:=h.c;refine ⟨tg,hg _ ((DO hy ea).2 h.da),hg _ ((DO hz eb).2 h.db),⟨C0 (1 / x*(1 / y)) U,C0 (1 / x*(1 / z)) V,λt=>?_⟩,?_⟩
 ·have h1:=hc t;have h2:Uy g' t=1 / x*Uy g t:=by rw [eg]; grind
  rw [h2,h1,Gh,Gh,ea,eb];generalize ev U t=u at *;generalize ev V t=v at *;grind
 ·rw [<-Ot h.t tg hx eg]; exact h.n
theorem Qo5:∀ d:Nat,1<=d->d+2<=3^d
 | 0,h=>by omega
 | 1,_=>by decide
 | d+2,_=>by have:=Qo5 (d+1) (by omega); rw [Zo]; omega
theorem wS {k:Nat} {a b:Ui} (ta:U7 a) (tb:U7 b) (hb:b.length≠0) (hl:a.length<=60) (hbl:b.length<=60) (hr:Bd 16777216 (Rl a b)) (ih:∃ g,GN k b (Rl a b)=some g/\Gc g b (Rl a b)):∃ g,GN (k+1) a b=some g/\Gc g a b:=by
 obtain ⟨h1,h2,h3,u,v,up,vp,X,hX⟩:=SJ ta tb hb hl;obtain ⟨g,e,hg⟩:=ih;refine ⟨g,?_,?_⟩
 ·simp only [GN];rw [if_neg hb,Eb (by omega) hr]; exact e
 ·obtain ⟨U,V,hc⟩:=hg.c;obtain ⟨y,hy⟩:=hg.da;obtain ⟨z,hz⟩:=hg.db;have hu:1 / u*u=1:=Gy up;have hv:1 / v*v=1:=Gy vp;refine ⟨hg.t,⟨C0 (1 / u) (Tp (Gt X y) (C0 v z)),λt=>?_⟩,hg.da,⟨C0 (u / v) V,Tp U (C0 (-1 / v) (Gt V X)),λt=>?_⟩,hg.n⟩
  ·have a1:=hX t; have a2:=hy t; have a3:=hz t;rw [U0,U0] at a2 a3;rw [U0,U0,Gh,Gp,U8,Gh];have:Uy a t=1 / u*(u*Uy a t):=by grind
   rw [this,a1,a2,a3]; grind
  ·have a1:=hX t; have a2:=hc t;rw [Gh,Gp,Gh,U8,a2];have:Uy (Rl a b) t=1 / v*(v*Uy (Rl a b) t):=by grind
   rw [this,show v*Uy (Rl a b) t=u*Uy a t-ev X t*Uy b t by grind,X3,X3,X3];grind
theorem dW {k:Nat} {a:Ui} (ta:U7 a) (ha:a.length≠0):∃ g,GN (k+1) a []=some g/\Gc g a [] :=
 ⟨a,rfl,ta,dvd_refl _,⟨[],λt=>by simp only [cz,Jc,ev]; grind⟩,⟨[1],[],λt=>by rw [Ro]; simp only [ev]; grind⟩,ha⟩
theorem GB {s:Nat}:∀ (k:Nat) (a b:Ui),U7 a->U7 b->b.length<k->b.length<a.length->a.length<=60->Bd s a->Bd s b->(s+8)*3^(a.length-1)<=16777216->∃ g,GN k a b=some g/\Gc g a b
 | 0,_,_,_,_,h,_,_,_,_,_=>by omega
 |
  k+1,a,b,ta,tb,hk,hab,hl,ba,bb,hs=>by
  by_cases hb:b.length=0
  ·rw [Qh hb]; exact dW ta (by omega)
  ·obtain ⟨h1,h2,h3,_⟩:=SJ ta tb hb hl;have h3:=h3 s ba bb;obtain ⟨m,hm⟩:=nmE (a.length-b.length);have e1:a.length+1-b.length=m+1:=by omega
   rw [e1] at h3;have e2:s+(m+1)*(s+8)+8=(m+2)*(s+8):=by
    rw [show m+2=(m+1)+1 by omega,Z8 (m+1)]; omega
   have e3:(m+2)*(s+8)*3^(b.length-1)<=(s+8)*3^(a.length-1):=by
    rw [show a.length-1=m+(b.length-1) by omega,Xe,<-Xx,Zn (s+8)];exact Qx _ (Qx _ (Qo5 m (by omega)))
   have e4:s+(m+1)*(s+8)<=16777216:=by
    have:(m+2)*(s+8)<=(m+2)*(s+8)*3^(b.length-1):=Yo _ (Z2 (by decide));omega
   refine wS ta tb hb hl (by omega) (Uv h3 e4) (GB (s:=s+(m+1)*(s+8)) k b (Rl a b) tb h1 (by omega) h2 (by omega) (Uv bb (by omega)) h3 ?_);rw [e2]; omega
def Szz (n s:Nat):Prop:=n<=10/\2*(s+8)*3^(n-1)<=16777216
theorem Qf0 {n s:Nat} (hz:Szz n s) {a b:Ui} (ta:U7 a) (tb:U7 b) (la:a.length<=n) (lb:b.length<=n) (ba:Bd s a) (bb:Bd s b) (h0:a.length≠0\/b.length≠0):∃ g,GN 66 a b=some g/\Gc g a b:=by
 obtain ⟨hn,hz⟩:=hz;have hp:∀ l,l<=n->(s+8)*3^(l-1)<=8388608:=λl hl=>by
  have:(s+8)*3^(l-1)<=(s+8)*3^(n-1):=Zs _ (Zt (by decide) (by omega));rw [Xx] at hz; omega
 rcases Zd b.length a.length with h | h
 ·exact GB 66 a b ta tb (by omega) h (by omega) ba bb (by have:=hp a.length la; omega)
 ·by_cases hb:b.length=0
  ·rw [Qh hb]; exact dW ta (by omega)
  ·obtain ⟨h1,h2,h3,_⟩:=SJ ta tb hb (by omega);have h3:=h3 s ba bb;have h4:(a.length+1-b.length)*(s+8)<=1*(s+8):=Qx _ (by omega);have h5:=hp b.length lb;have h6:(s+8)*1<=(s+8)*3^(b.length-1):=Zs _ (Z2 (by decide));refine wS ta tb hb (by omega) (by omega) (Uv h3 (by omega)) (GB (s:=2*s+8) 65 b (Rl a b) tb h1 (by omega) h2 (by omega) (Uv bb (by omega)) (Uv h3 (by omega)) ?_);rw [show 2*s+8+8=2*(s+8) by omega,Xx]; omega
theorem EB:U9 []=[]:=rfl
theorem WS {a:Ui} (ta:U7 a):U7 (U9 a)/\(U9 a).length=a.length/\(∀ s,Bd s a->Bd s (U9 a))/\∃ c:Rat,c≠0/\∀ t,Uy a t=c*Uy (U9 a) t:=by
 by_cases h:a.length=0
 ·rw [Qh h];exact ⟨rfl,rfl,λs _=>I5,1,by decide,λt=>by rw [EB]; grind⟩
 ·obtain ⟨h1,h2,h3,h4,h5,h6,h7⟩:=Bj ta h;exact ⟨h1,h2,h5,_,QD h6,h7⟩
theorem VR {n s:Nat} (hz:Szz n s) {a b:Ui} (ta:U7 a) (tb:U7 b) (la:a.length<=n) (lb:b.length<=n) (ba:Bd s a) (bb:Bd s b) (h0:a.length≠0\/b.length≠0):∃ g,ZM a b=some g/\Gc g a b/\Prm g/\0<Ff g:=by
 obtain ⟨a1,a2,a3,x,xn,ax⟩:=WS ta;obtain ⟨b1,b2,b3,y,yn,bx⟩:=WS tb;obtain ⟨g,e,hg⟩:=Qf0 hz a1 b1 (by omega) (by omega) (a3 s ba) (b3 s bb) (by omega);obtain ⟨g1,g2,g3,g4,g5,g6,g7⟩:=Bj hg.t hg.n;refine ⟨U9 g,?_,hg.scale (QD g6) xn yn g1 g7 ax bx,g3,g4⟩;unfold ZM; rw [e]; rfl
theorem aO {a:Ui} (ta:U7 a):ZM [] a=some (U9 (U9 a)):=by
 unfold ZM;rw [EB];by_cases h:(U9 a).length=0
 ·have e:U9 a=[]:=Qh h;rw [e]; rfl
 ·have e:Rl [] (U9 a)=[]:=by
   have e1:Pl [] (U9 a)=[]:=by unfold Pl; rw [show ([]:Ui).length+1-(U9 a).length=0 by simp; omega]; rfl
   unfold Rl;rw [e1];unfold Nh
   split <;> rfl
  have:GN 66 [] (U9 a)=some (U9 a):=by
   show (if (U9 a).length=0 then _ else _)=_;rw [if_neg h,e]; rfl
  rw [this]; rfl
theorem Qcp {n s:Nat} (hz:Szz n s) {a b:Ui} (ta:U7 a) (tb:U7 b) (la:a.length<=n) (lb:b.length<=n) (ba:Bd s a) (bb:Bd s b) (h0:a.length≠0):∃ g,qZ a b=some g/\Gc g a b/\Prm g/\0<Ff g:=by
 obtain ⟨a1,a2,a3,x,xn,ax⟩:=WS ta;obtain ⟨b1,b2,b3,y,yn,bx⟩:=WS a1;obtain ⟨g,e,hg,h1,h2⟩:=VR hz b1 tb (by omega) lb (b3 s (a3 s ba)) bb (by omega);refine ⟨g,?_,hg.scale (x:=1) (y:=x*y) (z:=1) (by decide) (λh=>(X7.1 h).elim xn yn) (by decide) hg.t (λt=>by grind) (λt=>by rw [ax,bx]; grind) (λt=>by grind),h1,h2⟩;unfold qZ;rw [aO ta]; exact e
theorem dV:∀ {p q:Ul} {m n:Nat},HD p m->HD q n->(Gt p q).getD (m+n) 0=p.getD m 0*q.getD n 0
 | [],q,m,n,h,_=>absurd (by simp) h.1
 |
  a::p,q,0,n,h,h'=>by
  have h1:∀ k,p.getD k 0=0:=λk=>by have:=h.2 (k+1) (by omega); rwa [Q3] at this
  simp only [Gt];rw [Hz,Tl,Zr,Zv];cases n with
  | zero=>rw [Zr]; grind
  | succ n=>rw [Q3,HG h1]; grind
 |
  a::p,q,m+1,n,h,h'=>by
  have ih:=dV (p:=p) (q:=q) (m:=m) ⟨by have:=h.1; rwa [Q3] at this,λk hk=>by have:=h.2 (k+1) (by omega); rwa [Q3] at this⟩ h';simp only [Gt];rw [Hz,Tl,show m+1+n=(m+n)+1 by omega,Q3,h'.2 _ (by omega),ih,Q3]; grind
theorem yH {a b c:Ui} (ta:U7 a) (tb:U7 b) (tc:U7 c) (h:∀ t,Uy c t=Uy a t*Uy b t) (la:0<a.length) (lb:0<b.length):Ff c=Ff a*Ff b:=by
 have h1:=HF ta la;have h2:=HF tb lb;have h3:=dV h1 h2;have hl:=P0 ta tb tc h la lb;rw [<-Cv (p:=cz c) (λt=>by rw [U8,U0,U0,U0,h]),Py,Py,Py,show a.length-1+(b.length-1)=c.length-1 by omega] at h3;unfold Ff; exact_mod_cast h3
theorem Rp {a b c:Ui} (tc:U7 c) (hc:c.length≠0) (h:∀ t,Uy c t=Uy a t*Uy b t):0<a.length/\0<b.length:=by
 constructor
 ·rcases Q5 a.length with e | e
  ·exact absurd (λt=>by rw [h,Cy e]; grind) (HY tc (by omega))
  ·exact e
 ·rcases Q5 b.length with e | e
  ·exact absurd (λt=>by rw [h,Cy e]; grind) (HY tc (by omega))
  ·exact e
theorem qQ {b:Ui} (tb:U7 b) (hb:b.length≠0):∀ (i:Nat) (a q h:Ui),U7 a->U7 h->(∀ t,Uy a t=Uy b t*Uy h t)->a.length<b.length+i->i<=q.length->(∀ j,j<i->q.getD j 0=0)->∃ q',OO b i a q=some q'/\q'.length=q.length/\∀ t,Uy q' t=Uy q t+Uy h t
 |
  0,a,q,h,ta,th,e,hl,_,_=>by
  have ha:a.length=0:=by
   rcases Q5 a.length with e' | e'
   ·exact e'
   ·obtain ⟨p1,p2⟩:=Rp ta (by omega) e;have:=P0 tb th ta e p1 p2; omega
  refine ⟨q,by simp only [OO]; rw [if_pos ha],rfl,λt=>?_⟩;have:∀ t,Uy h t=0:=λt=>by
   have:=fV (p:=cz b) (q:=cz h) (r:=[]) (λh0=>HY tb (by omega) λt=>by rw [<-U0]; exact h0 t) (λt=>by rw [U0,U0,<-e,Cy ha]; simp only [ev]; grind) t;rwa [U0] at this
  rw [this]; grind
 |
  i+1,a,q,h,ta,th,e,hl,hq,h0=>by
  simp only [OO];by_cases hlt:a.length<b.length+i
  ·rw [if_pos hlt];exact qQ tb hb i a q h ta th e hlt (by omega) λj hj=>h0 j (by omega)
  ·rw [if_neg hlt];obtain ⟨p1,p2⟩:=Rp ta (by omega) e;have hln:=P0 tb th ta e p1 p2;have hld:=yH tb th ta e p1 p2;have hlb:=Ll tb hb;rw [hld,if_pos (Int.mul_emod_right _ _),Jp _ hlb];have hli:h.length=i+1:=by omega
   have e2:∀ t,Uy (Bz a (Ge (trim (mono i (Ff h))) b)) t=Uy b t*Uy (Bz h (mono i (Ff h))) t:=λt=>by
    rw [Mi,Mi,Fw,Tn,e]; grind
   have hl2:(Bz a (Ge (trim (mono i (Ff h))) b)).length<b.length+i:=by
    have hl:=nS (i:=i) (x:=Ff h) (b:=b) (a:=a);unfold sta at hl;have:=Qda (p:=Bz a (Ge (trim (mono i (Ff h))) b)) (n:=b.length+i-1) (Fq _ _) (by omega) (by
     rw [Iw,nI,if_pos (by omega),show b.length+i-1-i=b.length-1 by omega,show b.length+i-1=a.length-1 by omega];have:Ff a=a.getD (a.length-1) 0:=rfl;rw [<-this,hld];unfold Ff;rw [Ky,Int.sub_eq_zero])
    omega
   obtain ⟨q',h1,h2,h3⟩:=qQ tb hb i _ (q.set i (Ff h)) (Bz h (mono i (Ff h))) (Fq _ _) (Fq _ _) e2 hl2 (by simp; omega) λj hj=>by
    rw [Qk,Yj,if_neg (by omega),<-Qk];exact h0 j (by omega)
   refine ⟨q',h1,by rw [h2,Xf],λt=>?_⟩;rw [h3,OI q i _ t (by omega),h0 i (by omega),Mi,ZH]
   push_cast; grind
theorem Qet {a b h:Ui} {s:Nat} (ta:U7 a) (tb:U7 b) (th:U7 h) (ha:a.length≠0) (la:a.length<=10) (ba:Bd s a) (hs:s+69<=16777216) (e:∀ t,Uy a t=Uy b t*Uy h t):ZS a b=some h:=by
 obtain ⟨p1,p2⟩:=Rp ta ha e;have hln:=P0 tb th ta e p1 p2;obtain ⟨q,h1,h2,h3⟩:=qQ tb (by omega) (a.length+1-b.length) a (List.replicate (a.length+1-b.length) 0) h ta th e (by omega) (by simp) λj _=>Ei _ _
 have h4:trim q=h:=bE (H6 _) th λt=>by rw [Tn,h3,ES]; grind
 unfold ZS;rw [if_neg (by omega),h1];show DG (trim q)=_;rw [h4];exact Eb (by omega) (Uv (QP ba la ta th tb ha λt=>by rw [e]; grind) (by omega))
structure Pr1 (p:List Int):Prop where
 t:U7 p
 m:Prm p
 l:0<Ff p
theorem Pr1.n {p:Ui} (h:Pr1 p):p.length≠0:=λe=>by
 have:=h.l;rw [Qh e] at this;exact absurd this (by decide)
theorem Pr1.one {p:Ui} (h:Pr1 p) (hl:p.length<2):p=[1]:=by
 have hn:=h.n;obtain ⟨c,rfl⟩:∃ c,p=[c]:=Kk.1 (by omega);have h1:=h.m c λk=>by cases k <;> simp
 have h2:0<c:=h.l;have:=Int.le_of_dvd (by decide) h1;rw [show c=1 by omega]
theorem Qjk {p g h:Ui} (hp:Prm p) (e:∀ t,Uy p t=Uy g t*Uy h t):Prm h:=λd hd=>by
 refine hp d λk=>?_
 have:=Do (p:=p) (q:=Ge g h) (λt=>by rw [e,Fw]) k;rw [this];have e2:∀ t,Uy (Ge g h) t=(d:Rat)*Uy (Ge g (h.map (· / d))) t:=λt=>by
  have h1:Uy h t=(d:Rat)*Uy (h.map (· / d)) t:=by
   have:=Bf d 0 t (max h.length (h.map (· / d)).length) (h.map (· / d)) [] h (by omega) (by simp) (by omega) λk=>by
    rw [KP,Kz (hd k)]; simp
   rw [this]; simp only [Uy]; push_cast; grind
  rw [Fw,Fw,h1]; grind
 have:=Do (p:=Ge g h) (q:=Fl (Ge g (h.map (· / d))) d) (λt=>by rw [e2,Hq]; grind) k;rw [this,Po]; exact Y9 _ _
theorem Qjj {p g h:Ui} (hp:Pr1 p) (hg:0<Ff g) (tg:U7 g) (th:U7 h) (e:∀ t,Uy p t=Uy g t*Uy h t):Pr1 h:=by
 obtain ⟨p1,p2⟩:=Rp hp.t hp.n e;have:=yH tg th hp.t e p1 p2;refine ⟨th,Qjk hp.m e,?_⟩;have hl:=hp.l;rw [this] at hl;rcases Kg (Ff h) 0 with h1 | h1 | h1
 ·have:=V1 hg h1; omega
 ·rw [h1] at hl; omega
 ·exact h1
structure Sqp (p g q:List Int):Prop where
 pp:Pr1 p
 pg:Pr1 g
 pq:Pr1 q
 e:∀ t,Uy p t=Uy g t*Uy q t
 c:∃ U V,∀ t,Uy g t=ev U t*Uy p t+ev V t*dv (cz p) t
 d:∃ z,∀ t,dv (cz p) t=Uy g t*ev z t
theorem Sqp.num {p g q:Ui} (h:Sqp p g q) {d:Ul} (h1:QV d (cz q)) (h2:QV d (M6 (cz q))):∃ c:Rat,c≠0/\∀ t,ev d t=c:=by
 obtain ⟨U,V,hc⟩:=h.c;have hpow:=sqf (k:=1) (a:=cz p) (g:=cz g) (q:=cz q) (d:=d) (U:=U) (V:=V) (by decide) (λt=>by rw [U0,U0,U0,h.e]) (λt=>by rw [U0,U0,hc]; grind) h1 h2;rcases ME d with h3 | ⟨m,_,h3⟩
 ·obtain ⟨u,hu⟩:=h1;exact absurd (λt=>by rw [<-U0,hu,h3]; grind) (HY h.pq.t (by have:=h.pq.n; omega))
 ·obtain rfl:=EN h3 (HF h.pg.t (by have:=h.pg.n; omega)) hpow;refine ⟨d.getD 0 0,h3.1,λt=>?_⟩;cases d with
  | nil=>exact absurd (by simp) h3.1
  |
   cons c l =>
   have:=Da (p:=l) λk=>by have:=h3.2 (k+1) (by omega); rwa [Q3] at this
   simp only [ev,this,Zr]; grind
theorem Sqp.bez {p g q:Ui} (h:Sqp p g q):∃ X Y,∀ t,ev X t*ev (cz q) t+ev Y t*dv (cz q) t=1:=by
 obtain ⟨d,U,V,h1,h2,h3⟩:=Qco (cz q) (M6 (cz q));obtain ⟨c,hc,hd⟩:=h.num h1 h2;refine ⟨C0 (1 / c) U,C0 (1 / c) V,λt=>?_⟩;have h5:=h3 t;rw [hd,Ry] at h5;have h4:1 / c*c=1:=Zc hc;rw [Gh,Gh];have:1 / c*ev U t*ev (cz q) t+1 / c*ev V t*dv (cz q) t=1 / c*(ev U t*ev (cz q) t+ev V t*dv (cz q) t):=by grind
 rw [this,<-h5,h4]
theorem Qft {n s:Nat} (h:Szz n s):s<=8388600:=by
 have:2*(s+8)*1<=2*(s+8)*3^(n-1):=Zs _ (Z2 (by decide));have:=h.2; omega
theorem uH {s:Nat} {p:Ui} (h:Bd s p) (hl:p.length<=10):Bd (s+4) (Gz p):=sL h (t:=4) (by omega)
theorem dZ {n s:Nat} (hz:Szz n (s+73)) {p:Ui} (pp:Pr1 p) (l2:2<=p.length) (lp:p.length<=n) (bp:Bd (s+69) p) {p0 h0:Ui} (b0:Bd s p0) (l0:p0.length<=10) (t0:U7 p0) (th0:U7 h0) (z0:p0.length≠0) (e0:∀ t,Uy p0 t=Uy h0 t*Uy p t) :
 ∃ g q,DG (Gz p)=some (Gz p)/\ZM p (Gz p)=some g/\ZS p g=some q/\Sqp p g q/\g.length<p.length:=by
 have hn:=hz.1;have hs:=Qft hz;have bd:=uH bp (by omega);have ld:=De p;have td:U7 (Gz p):=Fq _ _;obtain ⟨g,e1,hg,m,l⟩:=VR hz pp.t td lp (by omega) (Uv bp (by omega)) bd (.inl pp.n);obtain ⟨q,tq,eq⟩:=Qci m hg.da;have hdnz:(Gz p).length≠0:=λh=>by
  have h1:=Nf p (p.length-2);rw [Qh h,show p.length-2+1=p.length-1 by omega] at h1;have h2:p.getD (p.length-1) 0≠0:=Rm pp.t (by omega);rcases Jy.1 (h1.symm.trans (by simp)) with h3 | h3
  ·exact h2 h3
  ·omega
 have pg:Pr1 g:=⟨hg.t,m,l⟩;have hql:=Qet (s:=s+69) pp.t hg.t tq pp.n (by omega) bp (by omega) eq;refine ⟨g,q,Eb (by omega) (Uv bd (by omega)),e1,hql,⟨pp,pg,Qjj pp l hg.t tq eq,eq,?_,?_⟩,?_⟩
 ·obtain ⟨U,V,hc⟩:=hg.c;exact ⟨U,V,λt=>by rw [hc,Ip]⟩
 ·obtain ⟨z,hz⟩:=hg.db;exact ⟨z,λt=>by rw [<-Ip,<-U0,hz,U0]⟩
 ·obtain ⟨z,tz,ez⟩:=Qci m hg.db;obtain ⟨q1,q2⟩:=Rp td hdnz ez;have:=P0 hg.t tz td ez q1 q2;omega
theorem Qja:Sqp [1] [1] [1]:=by
 have p1:Pr1 [1]:=⟨rfl,λd hd=>by have:=hd 0; rwa [Zr] at this,by decide⟩;have e1:∀ t,Uy [1] t=1:=λt=>by simp only [Uy]; push_cast; grind
 exact ⟨p1,p1,p1,λt=>by rw [e1]; grind,⟨[1],[],λt=>by rw [e1,Ro]; simp only [ev]; grind⟩,⟨[],λt=>by simp only [cz,Zz,Jc,dv,ev]; grind⟩⟩
structure Okp (n s:Nat) (p:List Int):Prop where
 z:Szz n (s+73)
 t:U7 p
 nz:p.length≠0
 l:p.length<=n
 b:Bd s p
theorem Okp.pr {n s:Nat} {p:Ui} (h:Okp n s p):Pr1 (U9 p)/\(U9 p).length=p.length/\Bd s (U9 p):=by
 obtain ⟨h1,h2,h3,h4,h5,_⟩:=Bj h.t h.nz;exact ⟨⟨h1,h3,h4⟩,h2,h5 s h.b⟩
theorem XI {n s:Nat} {p:Ui} (h:Okp n s p):∃ g q,Sv p=some q/\Sqp (U9 p) g q:=by
 obtain ⟨pp,hl,hb⟩:=h.pr;have hn:=h.z.1;have:=h.l;unfold Sv;by_cases h2:(U9 p).length<2
 ·rw [if_pos h2,pp.one h2]; exact ⟨[1],[1],rfl,Qja⟩
 ·rw [if_neg h2];obtain ⟨g,q,h3,h4,h5,h6,_⟩:=dZ h.z pp (by omega) (by omega) (Uv hb (by omega)) (p0:=U9 p) (h0:=[1]) hb (by omega) pp.t rfl pp.n λt=>by simp only [Uy]; push_cast; grind
  exact ⟨g,q,by rw [h3]; show (ZM (U9 p) (Gz (U9 p))).bind _=_; rw [h4]; exact h5,h6⟩
inductive LW:List Int->List (List Int)->Prop
 | nil:LW [1] []
 | cons {g h w:List Int} {ws:List (List Int)} (hs:Sqp g h w) (hl:LW h ws):LW g (w::ws)
theorem Qop {g:Ui} {ws:Uj} (h:LW g ws):∀ t,Uy g t=ev (Im (ws.map cz)) t:=by
 induction h with
 | nil=>intro t; simp only [Jc,Im,Uy]; rw [Ro]; push_cast; grind
 | cons hs hl ih=>intro t; simp only [Zz,Im]; rw [U8,U0,hs.e,ih]; grind
theorem nL {g:Ui} {w v:Ui} {ws:Uj} (h:LW g (w::v::ws)):∃ f,U7 f/\∀ t,Uy w t=Uy f t*Uy v t:=by
 cases h with
 |
  @cons _ h _ _ hs hl =>
  cases hl with
  |
   @cons _ h2 _ _ hs2 hl2 =>
   obtain ⟨X,Y,hb⟩:=hs2.bez;obtain ⟨z,hz⟩:=hs.d;have hd:=Qkb (a:=cz g) (g:=cz h) (q:=cz w) (z:=z) (r:=cz v) (X:=X) (Y:=Y) (n:=h.length-1) (λt=>by rw [U0,U0,U0,hs.e]) (λt=>by rw [hz,U0]) (HF hs.pg.t (by have:=hs.pg.n; omega)) hb
    ⟨Gt (cz h2) (cz w),λt=>by rw [U8,U0,U0,U0,U0,hs.e,hs2.e]; grind⟩
   obtain ⟨f,tf,ef⟩:=Qci hs2.pq.m hd;exact ⟨f,tf,λt=>by rw [ef]; grind⟩
theorem yM {g w:Ui} {ws:Uj} (h:LW g (w::ws)):∀ v∈w::ws,Pr1 v/\QV (cz v) (cz w):=by
 have key:∀ (ws:Uj) (g w:Ui),LW g (w::ws)->∀ v∈w::ws,Pr1 v/\QV (cz v) (cz w):=by
  intro ws
  induction ws with
  |
   nil =>
   intro g w h v hv;rw [Qj.1 hv];cases h with
   | cons hs hl=>exact ⟨hs.pq,dvd_refl _⟩
  |
   cons u ws ih =>
   intro g w h v hv;have hn:=nL h;cases h with
   |
    @cons _ h _ _ hs hl =>
    rcases Qm.1 hv with rfl | hv
    ·exact ⟨hs.pq,dvd_refl _⟩
    ·obtain ⟨i1,i2⟩:=ih h u hl v hv;obtain ⟨f,_,hf⟩:=hn;exact ⟨i1,dvd_trans i2 ⟨cz f,λt=>by rw [U0,U0,U0,hf]; grind⟩⟩
 exact key ws g w h
theorem lay_ok {n s:Nat} (hz:Szz n (s+73)) {p0:Ui} (b0:Bd s p0) (l0:p0.length<=10) (t0:U7 p0) (z0:p0.length≠0):∀ (k:Nat) (g h0:Ui),Pr1 g->g.length<=k->g.length<=n->U7 h0->(∀ t,Uy p0 t=Uy h0 t*Uy g t)->∃ ws,FS k g=some ws/\LW g ws
 | 0,g,_,pg,hk,_,_,_=>absurd pg.n (by omega)
 |
  k+1,g,h0,pg,hk,hn,th0,e0=>by
  simp only [FS];by_cases h2:g.length<2
  ·rw [if_pos h2,pg.one h2]; exact ⟨[],rfl,.nil⟩
  ·rw [if_neg h2];have bg:Bd (s+69) g:=QP b0 l0 t0 pg.t th0 z0 λt=>by rw [e0]; grind
   obtain ⟨h,w,h3,h4,h5,h6,h7⟩:=dZ hz pg (by omega) hn bg b0 l0 t0 th0 z0 e0;obtain ⟨ws,i1,i2⟩:=lay_ok hz b0 l0 t0 z0 k h (Ge h0 w) h6.pg (by omega) (by omega) (Hm _ _) λt=>by rw [e0,Fw,h6.e]; grind
   refine ⟨w::ws,?_,.cons h6 i2⟩;rw [h3];show (ZM g (Gz g)).bind _=_;rw [h4];show (ZS g h).bind _=_;rw [h5];show (FS k h).bind _=_;rw [i1]; rfl
theorem Qcc {s:Nat} {p0:Ui} (b0:Bd s p0) (l0:p0.length≤10) (t0:U7 p0) (z0:p0.length≠0) (hs:s+69+69≤16777216):∀ (ws:Uj) (g h0:Ui),LW g ws->U7 h0->(∀ t,Uy p0 t=Uy h0 t*Uy g t)->∃ fs,CY ws=some fs/\Lay (ws.map cz) (fs.map cz)/\∀ f∈fs,U7 f
 | [],g,_,_,_,_=>⟨[],rfl,trivial,λf hf=>by cases hf⟩
 |
  [w],g,_,hl,_,_=>by
  cases hl with
  | cons hs hl=>exact ⟨[w],rfl,λt=>rfl,λf hf=>by rw [Qj.1 hf]; exact hs.pq.t⟩
 |
  w::v::ws,g,h0,hl,th0,e0=>by
  obtain ⟨f,tf,ef⟩:=nL hl;cases hl with
  |
   @cons _ h _ _ hs1 hl =>
   have hpv:=(yM hl v (Qw ..)).1;obtain ⟨fs,i1,i2,i3⟩:=Qcc b0 l0 t0 z0 hs (v::ws) h (Ge h0 w) hl (Hm _ _) λt=>by rw [e0,Fw,hs1.e]; grind
   have ew:∀ t,Uy p0 t=Uy w t*Uy (Ge h0 h) t:=λt=>by rw [e0,Fw,hs1.e]; grind
   have bw:Bd (s+69) w:=QP b0 l0 t0 hs1.pq.t (Hm _ _) z0 ew;obtain ⟨p1,p2⟩:=Rp t0 z0 ew;have lw:=P0 hs1.pq.t (Hm _ _) t0 ew p1 p2;have hq:=Qet (s:=s+69) hs1.pq.t hpv.t tf hs1.pq.n (by omega) bw hs λt=>by rw [ef]; grind
   refine ⟨f::fs,?_,⟨λt=>by rw [U0,U0,U0,ef],i2⟩,λx hx=>?_⟩
   ·show (ZS w v).bind _=_;rw [hq];show (CY (v::ws)).bind _=_;rw [i1]; rfl
   ·rcases Qm.1 hx with rfl | hx
    ·exact tf
    ·exact i3 x hx
def Mh:Uj->Ui
 | []=>[1]
 | [f]=>f
 | f::_::l=>Ge f (Mh l)
theorem vV:∀ (fs:Uj) (t:Rat),ev (RG (fs.map cz)) t=Uy (Mh fs) t
 | [],t=>by simp only [Jc,RG,Mh,Uy]; rw [Ro]; push_cast; grind
 | [f],t=>by simp only [Zz,Jc,RG,Mh]; rw [U0]
 | f::g::l,t=>by simp only [Zz,RG,Mh]; rw [U8,U0,Fw,vV l]
theorem Mr (t:Rat):Uy [1] t=1:=by simp only [Uy]; push_cast; grind
theorem LF:∀ {w:Ui} {ws fs:Uj},Lay ((w::ws).map cz) (fs.map cz)->(∀ f∈fs,U7 f)->(∀ v∈w::ws,U7 v)->∃ E,U7 E/\∀ t,Uy w t=Uy (Mh fs) t*Uy E t
 |
  w,[],[f],h,_,_=>⟨[1],rfl,λt=>by
  have:=h t;rw [U0,U0] at this;rw [this,Mr]; simp only [Mh]; grind⟩
 |
  w,[v],[f,f2],h,_,hw=>⟨v,hw v (by simp),λt=>by
  have:=h.1 t;rw [U0,U0,U0] at this;rw [this]; simp only [Mh]; rw [Fw,Mr]; grind⟩
 |
  w,v::x::l,f::f2::fs,h,hf,hw=>by
  obtain ⟨E,hE,e⟩:=LF (w:=x) (ws:=l) (fs:=fs) h.2.2 (λg hg=>hf g (by simp [hg])) (λg hg=>hw g (by simp at hg ⊢; exact .inr (.inr hg)));refine ⟨Ge f2 E,Hm _ _,λt=>?_⟩;have a1:=h.1 t;have a2:=h.2.1 t;rw [U0,U0,U0] at a1 a2;have e2:Uy (Mh (f::f2::fs)) t=Uy f t*Uy (Mh fs) t:=by simp only [Mh]; rw [Fw]
  rw [a1,a2,e,e2,Fw]; grind
 | w,[],[],h,_,_=>h.elim
 | w,[],_::_::_,h,_,_=>h.elim
 | w,[v],[],h,_,_=>h.elim
 | w,[v],[f],h,_,_=>h.2.elim
 | w,[v],_::_::_::_,h,_,_=>h.2.elim
 | w,v::x::l,[f],h,_,_=>h.2.elim
 | w,v::x::l,[],h,_,_=>h.elim
theorem XM {s:Nat} {p0:Ui} (b0:Bd s p0) (l0:p0.length≤10) (t0:U7 p0) (z0:p0.length≠0) (hs:s+69≤16777216):∀ (fs:Uj) (i:Nat) (a E:Ui),i % 2=0->U7 a->U7 E->(∀ f∈fs,U7 f)->(∀ t,Uy p0 t=Uy a t*Uy (Mh fs) t*Uy E t)->∃ o,WV i a fs=some o/\U7 o/\∀ t,Uy o t=Uy a t*Uy (Mh fs) t
 | [],i,a,E,hi,ta,_,_,_=>⟨a,rfl,ta,λt=>by simp only [Mh]; rw [Mr]; grind⟩
 |
  [f],i,a,E,hi,ta,tE,tf,hE=>by
  have e1:∀ t,Uy p0 t=Uy (Ge a f) t*Uy E t:=λt=>by rw [hE,Fw]; rfl
  have b1:=QP b0 l0 t0 (Hm a f) tE z0 e1;obtain ⟨p1,p2⟩:=Rp t0 z0 e1;have hl:=P0 (Hm a f) tE t0 e1 p1 p2;refine ⟨Ge a f,?_,Hm _ _,λt=>by rw [Fw]; rfl⟩;simp only [WV];rw [if_pos hi,Eb (by omega) (Uv b1 (by omega))]; rfl
 |
  f::g::fs,i,a,E,hi,ta,tE,tf,hE=>by
  have e0:∀ t,Uy (Mh (f::g::fs)) t=Uy f t*Uy (Mh fs) t:=λt=>by simp only [Mh]; rw [Fw]
  have e1:∀ t,Uy p0 t=Uy (Ge a f) t*Uy (Ge (Mh fs) E) t:=λt=>by rw [hE,e0,Fw,Fw]; grind
  have b1:=QP b0 l0 t0 (Hm a f) (Hm _ _) z0 e1;obtain ⟨p1,p2⟩:=Rp t0 z0 e1;have hl:=P0 (Hm a f) (Hm _ _) t0 e1 p1 p2;obtain ⟨o,o1,o2,o3⟩:=XM b0 l0 t0 z0 hs fs (i+2) (Ge a f) E (by omega) (Hm _ _) tE (λx hx=>tf x (by simp [hx])) λt=>by rw [hE,e0,Fw]; grind
  refine ⟨o,?_,o2,λt=>by rw [o3,e0,Fw]; grind⟩;have h1:WV (i+1) (Ge a f) (g::fs)=WV (i+2) (Ge a f) fs:=by
   show (if (i+1) % 2=0 then _ else _)=_;rw [if_neg (by omega)]
  show (if i % 2=0 then (DG (Ge a f)).bind λq=>WV (i+1) q (g::fs) else _)=_;rw [if_pos hi,Eb (by omega) (Uv b1 (by omega))];exact h1.trans o1
structure Parts (p q o:List Int):Prop where
 sq:∃ g,Sqp (U9 p) g q
 ws:∃ ws:List (List Int),(∀ w∈ws,Pr1 w/\QV (cz w) (cz q))/\∀ t,Uy (U9 p) t=ev (Im (ws.map cz)) t
 oq:QV (cz o) (cz q)
 ot:U7 o
 oh:∃ h,U7 h/\∀ t,Uy (U9 p) t=Uy o t*Uy h t
 os:∃ S,∀ t,Uy (U9 p) t=Uy o t*(ev S t*ev S t)
theorem Qd1 {n s:Nat} {p:Ui} (h:Okp n s p):∃ q o,Sv p=some q/\rT p=some o/\Parts p q o:=by
 obtain ⟨pp,hl,hb⟩:=h.pr;have hn:=h.z.1;have hpl:=h.l;have hs:=Qft h.z;obtain ⟨g,q,hq,sq⟩:=XI h;obtain ⟨ws,w1,w2⟩:=lay_ok h.z hb (by omega) pp.t pp.n 66 (U9 p) [1] pp (by omega) (by omega) rfl λt=>by rw [Mr]; grind
 obtain ⟨fs,f1,f2,f3⟩:=Qcc hb (by omega) pp.t pp.n (by omega) ws (U9 p) [1] w2 rfl λt=>by rw [Mr]; grind
 have hw:=Qop w2;have hfirst:(∀ w∈ws,Pr1 w/\QV (cz w) (cz q))/\∃ E,U7 E/\∀ t,Uy q t=Uy (Mh fs) t*Uy E t:=by
  cases ws with
  |
   nil =>
   have e:fs=[]:=by
    cases fs with
    | nil=>rfl
    | cons f l=>exact f2.elim
   subst e;exact ⟨(λw hw=>by cases hw),q,sq.pq.t,λt=>by simp only [Mh]; rw [Mr]; grind⟩
  |
   cons w ws =>
   have hwq:w=q:=by
    have w3:(if (U9 p).length<2 then some [] else (DG (Gz (U9 p))).bind λd=>(ZM (U9 p) d).bind λh=>(ZS (U9 p) h).bind λw=>(FS 65 h).bind λl=>some (w::l))=some (w::ws):=w1;have hlen:¬(U9 p).length<2:=λh2=>by
     rw [if_pos h2] at w3;injection w3 with w3;cases w3
    rw [if_neg hlen] at w3;unfold Sv at hq;rw [if_neg hlen] at hq;obtain ⟨d,d1,w3⟩:=Qd.1 w3;obtain ⟨h,d2,w3⟩:=Qd.1 w3;obtain ⟨w',d3,w3⟩:=Qd.1 w3;obtain ⟨l,d4,w3⟩:=Qd.1 w3;rw [d1] at hq;have hq:(ZM (U9 p) d).bind (λg=>ZS (U9 p) g)=some q:=hq;rw [d2] at hq;have hq:ZS (U9 p) h=some q:=hq;rw [d3] at hq;injection hq with hq;injection w3 with w3;injection w3 with w3 _;rw [<-w3,hq]
   subst hwq;have hall:=yM w2;exact ⟨hall,LF f2 f3 λv hv=>(hall v hv).1.t⟩
 obtain ⟨ha,E,tE,hE⟩:=hfirst;obtain ⟨o,o1,o2,o3⟩:=XM hb (by omega) pp.t pp.n (by omega) fs 0 [1] (Ge E g) rfl rfl (Hm _ _) f3 λt=>by rw [Mr,Fw,sq.e,hE]; grind
 have o3:∀ t,Uy o t=Uy (Mh fs) t:=λt=>by rw [o3,Mr]; grind
 refine ⟨q,o,hq,?_,⟨g,sq⟩,⟨ws,ha,hw⟩,⟨cz E,λt=>by rw [U0,U0,U0,hE,o3]⟩,o2,⟨Ge E g,Hm _ _,λt=>by rw [sq.e,hE,o3,Fw]; grind⟩,?_⟩
 ·unfold rT;rw [if_neg pp.n,w1];show (CY ws).bind _=_;rw [f1]; exact o1
 ·obtain ⟨S,hS⟩:=nH f2;exact ⟨S,λt=>by rw [hw,hS,vV,o3]⟩
theorem mQ {s:Nat}:∀ (k:Nat) (a b:Ui),U7 a->U7 b->b.length≠0->b.length<k->b.length<a.length->a.length<=60->Bd s a->Bd s b->(s+8)*3^(a.length-1)<=16777216->(∀ d,QV d (cz a)->QV d (cz b)->∃ c:Rat,c≠0/\∀ t,ev d t=c)->∃ l,wO k a b=some (b::l)/\SCl (cz a) (cz b) (l.map cz)
 | 0,_,_,_,_,_,h,_,_,_,_,_,_=>by omega
 |
  k+1,a,b,ta,tb,hb,hk,hab,hl,ba,bb,hs,hd=>by
  obtain ⟨h1,h2,h3,u,v,up,vp,X,hX⟩:=SJ ta tb hb hl;have h3:=h3 s ba bb;obtain ⟨m,hm⟩:=nmE (a.length-b.length);have e1:a.length+1-b.length=m+1:=by omega
  rw [e1] at h3;have e2:s+(m+1)*(s+8)+8=(m+2)*(s+8):=by
   rw [show m+2=(m+1)+1 by omega,Z8 (m+1)]; omega
  have e3:(m+2)*(s+8)*3^(b.length-1)<=(s+8)*3^(a.length-1):=by
   rw [show a.length-1=m+(b.length-1) by omega,Xe,<-Xx,Zn (s+8)];exact Qx _ (Qx _ (Qo5 m (by omega)))
  have e4:s+(m+1)*(s+8)<=16777216:=by
   have:(m+2)*(s+8)<=(m+2)*(s+8)*3^(b.length-1):=Yo _ (Z2 (by decide));omega
  simp only [wO];rw [if_neg hb,Eb (by omega) (Uv h3 e4)];show ∃ l,((wO k b (D5 (Rl a b))).bind λl=>some (b::l))=some (b::l)/\_;have lneg:(D5 (Rl a b)).length<=(Rl a b).length:=NV _;by_cases hr:(Rl a b).length=0
  ·have e:D5 (Rl a b)=[]:=Qh (by omega);rw [e];refine ⟨[],?_,?_⟩
   ·obtain ⟨j,rfl⟩:∃ j,k=j+1:=⟨k-1,by omega⟩;rfl
   ·obtain ⟨c,hc,hcc⟩:=hd (cz b) ⟨C0 (1 / u) X,λt=>by
     have:=hX t;rw [Cy hr] at this;have hu:1 / u*u=1:=Gy up;rw [U0,U0,Gh];have:Uy a t=1 / u*(u*Uy a t):=by grind
     rw [this,hX,Cy hr]; grind⟩ (dvd_refl _)
    exact .base hc hcc
  ·have tn:U7 (D5 (Rl a b)):=Fq _ _;have hn0:(D5 (Rl a b)).length≠0:=λh0=>by
    have:=Ot (c:=-1) h1 tn (by decide) λt=>by rw [WG]; grind
    omega
   obtain ⟨l,i1,i2⟩:=mQ (s:=s+(m+1)*(s+8)) k b (D5 (Rl a b)) tb tn hn0 (by omega) (by omega) (by omega) (Uv bb (by omega)) (AA h3) (by rw [e2]; omega) λd d1 d2=>by
    refine hd d ?_ d1;obtain ⟨y,hy⟩:=d1;obtain ⟨z,hz⟩:=d2;have hu:1 / u*u=1:=Gy up;refine ⟨C0 (1 / u) (Tp (Gt X y) (C0 (-v) z)),λt=>?_⟩;have a1:=hX t; have a2:=hy t; have a3:=hz t;rw [U0] at a2 a3;rw [WG] at a3;rw [U0,Gh,Gp,U8,Gh];have:Uy a t=1 / u*(u*Uy a t):=by grind
    rw [this,a1,a2,show Uy (Rl a b) t=-(ev d t*ev z t) by grind]; grind
   refine ⟨D5 (Rl a b)::l,by rw [i1]; rfl,?_⟩;rw [Zz];exact .step (q:=X) up vp (λt=>by rw [U0,U0,U0,hX,WG]; clear i2 i1 hd h3 hs; grind) i2
theorem VH (x:Rat):∀ (l:Uj) (n:Nat) (s:Int),(l.foldl (S6 λp=>Hr p x) (n,s)).1=n+tc x s (l.map cz)
 | [],n,s=>rfl
 |
  p::l,n,s=>by
  simp only [Z7,Zz,tc,S6];rw [Mk,U0]
  split
  ·exact VH x l n s
  ·rw [VH x l]
   split <;> omega
theorem O0 (l:Uj) (x:Rat):Bv l x=vv (l.map cz) x:=by
 have:=VH x l 0 0;unfold Bv Bu vv;rw [this]; omega
theorem Qbi {n s:Nat} (hz:Szz n (s+73)) {P g q:Ui} (sq:Sqp P g q) (lq:q.length<=n) (bq:Bd (s+69) q):∃ d,DG (Gz q)=some d/\∃ l,wO 66 q (U9 d)=some l/\UG (cz q) ((q::l).map cz)/\(q.length<2->l=[]):=by
 have hn:=hz.1;have hs:=Qft hz;have bd:=uH bq (by omega);have ld:=De q;refine ⟨Gz q,Eb (by omega) (Uv bd (by omega)),?_⟩;have hq0:=sq.pq.n;by_cases h2:q.length<2
 ·have e:U9 (Gz q)=[]:=by rw [Qh (l:=Gz q) (by omega)]; rfl
  rw [e];refine ⟨[],rfl,.inl ⟨1,by decide,λt=>?_,rfl⟩,λ_=>rfl⟩;rw [U0,sq.pq.one h2,Mr]
 ·have hdnz:(Gz q).length≠0:=λh=>by
   have h1:=Nf q (q.length-2);rw [Qh h,show q.length-2+1=q.length-1 by omega] at h1;have h3:q.getD (q.length-1) 0≠0:=Rm sq.pq.t (by omega);rcases Jy.1 (h1.symm.trans (by simp)) with h4 | h4
   ·exact h3 h4
   ·omega
  obtain ⟨p1,p2,p3,p4,p5,p6,p7⟩:=Bj (p:=Gz q) (Fq _ _) hdnz;have hdl:Ff (Gz q)=Ff q*((q.length-1:Nat):Int):=by
   have hld:(Gz q).length=q.length-1:=by
    rcases Zd (Gz q).length (q.length-1) with h | h
    ·have h1:=Nf q (q.length-2);rw [Qk,Qz (by omega),show q.length-2+1=q.length-1 by omega] at h1;have h3:q.getD (q.length-1) 0≠0:=Rm sq.pq.t (by omega);rcases Jy.1 (h1.symm.trans (by simp)) with h4 | h4
     ·exact absurd h4 h3
     ·omega
    ·omega
   unfold Ff;rw [hld,Nf,show q.length-1-1+1=q.length-1 by omega]
  have hfac:0<He (Gz q):=by
   have hlp:0<Ff (Gz q):=by rw [hdl]; exact Int.mul_pos sq.pq.l (by omega)
   have hc:=ZG (p:=Gz q) (Fq _ _) hdnz;unfold He;rw [if_neg (by omega)];unfold Sp at hc ⊢; omega
  have hfq:((0:Int):Rat)<(He (Gz q):Rat):=Jk.2 hfac;have hfq:(0:Rat)<(He (Gz q):Rat):=by simpa using hfq
  have hff:1 / (He (Gz q):Rat)*(He (Gz q):Rat)=1:=Gy hfq;have hz2:=hz.2;have hp3:(s+73+8)*3^(q.length-1)<=16777216:=by
   have:(s+73+8)*3^(q.length-1)<=(s+73+8)*3^(n-1):=Zs _ (Zt (by decide) (by omega));rw [Xx] at hz2; omega
  obtain ⟨l,h3,h4⟩:=mQ (s:=s+73) 66 q (U9 (Gz q)) sq.pq.t p1 (by omega) (by omega) (by omega) (by omega) (Uv bq (by omega)) (p5 _ bd) hp3 λd d1 d2=>sq.num d1 (by
   obtain ⟨z,hz⟩:=d2;exact ⟨C0 (He (Gz q)) z,λt=>by
    have:=hz t;rw [U0] at this;rw [Ry,<-Ip,p7,this,Gh]; grind⟩)
  refine ⟨U9 (Gz q)::l,h3,.inr ⟨cz (U9 (Gz q)),l.map cz,1 / (He (Gz q):Rat),Ed (by decide) hfq,λt=>?_,h4,rfl⟩,λh=>absurd h h2⟩;rw [U0,<-Ip,p7 t]; grind
theorem chain_ok {n s:Nat} {p:Ui} (h:Okp n s p):∃ q l,Sv p=some q/\La p=some (q::l)/\UG (cz q) ((q::l).map cz)/\(q.length<2->l=[]):=by
 obtain ⟨pp,hl,hb⟩:=h.pr;have hn:=h.z.1;have hpl:=h.l;obtain ⟨g,q,hq,sq⟩:=XI h;have e1:∀ t,Uy (U9 p) t=Uy q t*Uy g t:=λt=>by rw [sq.e]; grind
 obtain ⟨p1,p2⟩:=Rp pp.t pp.n e1;have hll:=P0 sq.pq.t sq.pg.t pp.t e1 p1 p2;obtain ⟨d,d1,l,d2,d3⟩:=Qbi h.z sq (by omega) (QP hb (by omega) pp.t sq.pq.t sq.pg.t pp.n e1);refine ⟨q,l,hq,?_,d3⟩;unfold La;rw [hq];show (if q.length=0 then none else _)=_;rw [if_neg sq.pq.n,d1];show (wO 66 q (U9 d)).bind _=_;rw [d2]; rfl
structure Gr (D M k:Nat) (q:Rat):Prop where
 u:∃ u:Int,q*((D*2^k:Nat):Rat)=(u:Rat)
 b:Fa q<=(M:Rat)
 d:0<D
theorem nat_pos {n:Nat} (h:0<n):(0:Rat)<(n:Rat):=by
 have:((0:Nat):Rat)<(n:Rat):=Vl.2 h;simpa using this
theorem EQ {D M k:Nat} {q:Rat} (h:Gr D M k q):Gr D M (k+1) q:=by
 obtain ⟨u,hu⟩:=h.u;refine ⟨⟨u*2,?_⟩,h.b,h.d⟩;rw [Zo,<-Xx]
 push_cast at hu ⊢
 rw [<-hu]; grind
theorem Qcv {D M k:Nat} {a b:Rat} (ha:Gr D M k a) (hb:Gr D M k b):Gr D M (k+1) ((a+b) / 2):=by
 obtain ⟨u,hu⟩:=ha.u;obtain ⟨v,hv⟩:=hb.u;have h2:(a+b) / 2*2=a+b:=Gy (by decide);refine ⟨⟨u+v,?_⟩,?_,ha.d⟩
 ·rw [Zo,<-Xx]
  push_cast at hu hv ⊢
  rw [<-hu,<-hv];generalize (a+b) / 2=c at *;generalize (D:Rat)*2^k=z at *;have:c*(z*2)=(c*2)*z:=by grind
  rw [this,h2]; grind
 ·have h3:=ha.b;have h4:=hb.b;rw [Pq] at *;constructor <;> grind
theorem Qoc {D M k:Nat} {q:Rat} (h:Gr D M k q):q.den<=D*2^k:=by
 obtain ⟨u,hu⟩:=h.u;have hp:0<D*2^k:=J1 h.d (Z2 (by decide));have e:q=Rat.divInt u ((D*2^k:Nat):Int):=by
  rw [<-Hk,<-hu];have hz:=nat_pos hp;rw [show ((((D*2^k:Nat):Int)):Rat)=((D*2^k:Nat):Rat) from rfl];rw [X3];have:=J8 ((D*2^k:Nat):Rat) (by grind);generalize ((D*2^k:Nat):Rat)=z at *;have:q*z*z⁻¹=q*(z*z⁻¹):=by grind
  rw [this,‹z*z⁻¹=1›]; grind
 rw [e,We,if_neg (by omega),Xh];exact Jz _ _
theorem NQ {a b k:Nat} {z:Int} (h:z.natAbs<=a*(b*2^k)):U5 z<=U5 (a:Int)+U5 (b:Int)+k:=by
 have h1:U5 (a:Int)<=U5 (a:Int):=Ql _;have h2:U5 (b:Int)<=U5 (b:Int):=Ql _;rw [Tu] at h1 h2 ⊢;rw [Xh] at h1 h2;rw [Xe,Xe];have h3:a*b<2^U5 (a:Int)*2^U5 (b:Int):=Nat.mul_lt_mul_of_lt_of_le h1 (Yg h2) (Z2 (by decide));have h4:=Xm h3 (show 0<2^k from Z2 (by decide));rw [<-Xx] at h; omega
theorem LO {D M k B:Nat} {q:Rat} (h:Gr D M k q) (hM:0<M) (hs:U5 (D:Int)+U5 (M:Int)+k<=B):Qs B q:=by
 have hd:=Qoc h;have hden:=nat_pos q.den_pos;have h1:(q.num.natAbs:Rat)<=((M*(D*2^k):Nat):Rat):=by
  have e:(q.num:Rat)=q*(q.den:Rat):=by
   have:(q.num:Rat) / (((q.den:Int)):Rat)=q:=by rw [Hk,Xd]
   have h2:(q.num:Rat) / (q.den:Rat)*(q.den:Rat)=q.num:=Zc (by grind);rw [show (q.num:Rat) / (q.den:Rat)=q from this] at h2; exact h2.symm
  rw [<-Tv,e];have h3:=Gx (x:=q) (y:=(q.den:Rat)) (b:=((D*2^k:Nat):Rat)) h.b (by
   have:Fa (q.den:Rat)=(q.den:Rat):=by unfold Fa; rw [if_neg (by grind)]
   rw [this]; exact Zi.2 hd)
  push_cast at h3 ⊢; exact h3
 have h1:=Zi.1 h1;refine ⟨?_,?_⟩
 ·have:=NQ (z:=q.num) h1; omega
 ·have:=NQ (z:=(q.den:Int)) (a:=M) (b:=D) (k:=k) (by
   rw [Xh];exact Qc hd (Nat.le_mul_of_pos_left _ hM))
  omega
theorem hZ (a b:Rat):mid a b=(a+b) / 2:=by
 unfold mid;rw [<-Hk];have ha:(a.num:Rat)=a*(a.den:Rat):=by
  have:(a.num:Rat) / (((a.den:Int)):Rat)=a:=by rw [Hk,Xd]
  have h2:(a.num:Rat) / (a.den:Rat)*(a.den:Rat)=a.num:=Zc (by have:=nat_pos a.den_pos; grind);rw [show (a.num:Rat) / (a.den:Rat)=a from this] at h2; exact h2.symm
 have hb:(b.num:Rat)=b*(b.den:Rat):=by
  have:(b.num:Rat) / (((b.den:Int)):Rat)=b:=by rw [Hk,Xd]
  have h2:(b.num:Rat) / (b.den:Rat)*(b.den:Rat)=b.num:=Zc (by have:=nat_pos b.den_pos; grind);rw [show (b.num:Rat) / (b.den:Rat)=b from this] at h2; exact h2.symm
 have pa:=nat_pos a.den_pos;have pb:=nat_pos b.den_pos;rw [K8,Xg,Xg,Xg,Xg,ha,hb];rw [show (((a.den:Int)):Rat)=(a.den:Rat) from rfl,show (((b.den:Int)):Rat)=(b.den:Rat) from rfl,show (((2:Int)):Rat)=2 from rfl];generalize (a.den:Rat)=x at *;generalize (b.den:Rat)=y at *;have hxy:=Ay (Ay pa pb) (show (0:Rat)<2 by decide);have h1:(a*x*y+b*y*x) / (x*y*2)*(x*y*2)=a*x*y+b*y*x:=Gy hxy;have h2:(a+b) / 2*2=a+b:=Gy (by decide);generalize (a*x*y+b*y*x) / (x*y*2)=c at *;generalize (a+b) / 2=d at *;have h3:(x*y*2)*(c-d)=0:=by grind
 rcases X7.1 h3 with h4 | h4 <;> grind
theorem SV (a b:Rat):BG a b=a-b:=by
 unfold BG;rw [Rat.sub_def',<-Rat.divInt_ofNat]
 push_cast; rfl
theorem mV {a b:Rat}:G7 a b=0↔a=b:=by
 constructor
 ·intro h;have h1:¬a<b:=λh'=>by have:=Mq.2 h'; omega
  have h2:¬b<a:=λh'=>by have:=Lj.2 h'; omega
  grind
 ·intro h; subst h; exact Ls a
theorem TK {a b:Rat}:G7 a b<=0↔a<=b:=by
 constructor
 ·intro h;have h2:¬b<a:=λh'=>by have:=Lj.2 h'; omega
  grind
 ·intro h;have h2:¬0<G7 a b:=λh'=>by have:=Lj.1 h'; grind
  omega
theorem TY {a b:Rat}:0<=G7 a b↔b<=a:=by
 constructor
 ·intro h;have h2:¬a<b:=λh'=>by have:=Mq.2 h'; omega
  grind
 ·intro h;have h2:¬G7 a b<0:=λh'=>by have:=Mq.1 h'; grind
  omega
theorem Nx (a b:Rat):G7 a b=1/\b<a\/G7 a b=0/\a=b\/G7 a b=-1/\a<b:=by
 have hb:=Oe a b;rcases (show G7 a b=1\/G7 a b=0\/G7 a b=-1 by omega) with h | h | h
 ·exact .inl ⟨h,Lj.1 (by omega)⟩
 ·exact .inr (.inl ⟨h,mV.1 h⟩)
 ·exact .inr (.inr ⟨h,Mq.1 (by omega)⟩)
theorem yP (p:Ui) (x:Rat):low p x=S4 (cz p) x:=by
 unfold low S4;rw [Mk,Mk,U0,Ip]
theorem Ny {t:Tm} (h:t.lo<t.hi) (q:Rat):Fe t q=cq (cz t.p) t.lo t.hi q:=by
 have hp:t.point=false:=by
  unfold Tm.point;have:¬0<=G7 t.lo t.hi:=λh'=>by have:=TY.1 h'; grind
  simp [this]
 unfold Fe cq;rw [hp,if_neg (by decide)];have e1:(G7 q t.lo<=0)=(q<=t.lo):=propext TK;have e2:(0<G7 q t.hi)=(t.hi<q):=propext Lj;rw [Mk,yP,<-U0];simp only [e1,e2]
theorem P5 {t:Tm}:t.point=true↔t.hi<=t.lo:=by
 unfold Tm.point;rw [decide_eq_true_iff]; exact TY
theorem Ag {t:Tm} (h:t.lo=t.hi) (q:Rat):Fe t q=G7 t.lo q:=by
 have hp:t.point=true:=P5.2 (by rw [h]; exact Qp);unfold Fe; rw [if_pos hp]
theorem Qnu {c:Rat->Int} {x:Rat} (h:∀ q,c q=G7 x q):Cut c where
 val q:=by rw [h]; have:=Oe x q; omega
 mono q r hqr h1:=by
  rw [h] at h1 ⊢;rcases Nx x q with ⟨e,e'⟩ | ⟨e,e'⟩ | ⟨e,e'⟩
  ·exact absurd e h1
  ·rcases Nx x r with ⟨f,f'⟩ | ⟨f,f'⟩ | ⟨f,f'⟩ <;> grind
  ·rcases Nx x r with ⟨f,f'⟩ | ⟨f,f'⟩ | ⟨f,f'⟩ <;> grind
 up q h1:=by
  rw [h] at h1;have h2:=Lj.1 (show 0<G7 x q by omega);have h3:(x+q) / 2*2=x+q:=Gy (by decide);have h4:=Lj.2 (show (x+q) / 2<x by grind);have:=Oe x ((x+q) / 2);exact ⟨(x+q) / 2,by grind,by rw [h]; omega⟩
 dn q h1:=by
  rw [h] at h1;have h2:=Mq.1 (show G7 x q<0 by omega);have h3:(x+q) / 2*2=x+q:=Gy (by decide);have h4:=Mq.2 (show x<(x+q) / 2 by grind);have:=Oe x ((x+q) / 2);exact ⟨(x+q) / 2,by grind,by rw [h]; omega⟩
 lo:=⟨x-1,by
  rw [h];have h4:=Lj.2 (show x-1<x by grind);have:=Oe x (x-1); omega⟩
 hi:=⟨x+1,by
  rw [h];have h4:=Mq.2 (show x<x+1 by grind);have:=Oe x (x+1); omega⟩
def lim (t:Tm):Nat:=if t.point=true then 3300000 else 1000000
theorem OU {t:Tm} (h:t.point=false):lim t=1000000:=by simp [lim,h]
theorem Qoi (t:Tm):1000000<=lim t:=by unfold lim; split <;> omega
theorem Qoj (t:Tm):lim t<=3300000:=by unfold lim; split <;> omega
structure Va (t:Tm):Prop where
 i:t.lo=t.hi/\Uy t.p t.lo=0\/∃ L,Vt (cz t.p) L t.lo t.hi
 tr:U7 t.p
 n:t.p.length<=9
 n2:2<=t.p.length
 b:Bd 3300000 t.p
 bi:t.point=false->Bd 1260 t.p
 sc:t.point=false->∃ (l:List (List Int)) (P g:List Int),wO 66 t.p (U9 (Gz t.p))=some l/\Sqp P g t.p/\Vt (cz t.p) ((t.p::l).map cz) t.lo t.hi
 g:∃ D M k,Gr D M k t.lo/\Gr D M k t.hi/\0<M/\U5 (D:Int)+U5 (M:Int)+k<=lim t
theorem Va.le {t:Tm} (h:Va t):t.lo<=t.hi:=by
 rcases h.i with ⟨e,_⟩ | ⟨L,V⟩
 ·rw [e]; exact Qp
 ·exact Qq V.l
theorem Va.pt {t:Tm} (h:Va t) (hp:t.point=true):t.lo=t.hi/\Uy t.p t.lo=0:=by
 rcases h.i with e | ⟨L,V⟩
 ·exact e
 ·have:=P5.1 hp;have:=V.l;grind
theorem Va.iv {t:Tm} (h:Va t) (hp:t.point=false):∃ L,Vt (cz t.p) L t.lo t.hi:=by
 rcases h.i with ⟨e,_⟩ | h
 ·have:=P5.2 (show t.hi<=t.lo by rw [e]; exact Qp);rw [hp] at this; cases this
 ·exact h
theorem Va.cut {t:Tm} (h:Va t):Cut (Fe t):=by
 rcases h.i with ⟨e,_⟩ | ⟨L,V⟩
 ·exact Qnu (x:=t.lo) λq=>Ag e q
 ·have:Fe t=cq (cz t.p) t.lo t.hi:=funext λq=>Ny V.l q
  rw [this]; exact V.cut
theorem Qp6 {c:Rat->Int} (hc:Cut c) {p:Ul} {x:Rat} (h:c x=0) (h0:ev p x=0):A6 p c:=by
 rcases ZO hc p with h1 | ⟨s,hs,h1⟩
 ·exact h1
 ·have:=vY hc h h1;rw [Gd.2 h0] at this; exact absurd this.symm hs
theorem Va.van {t:Tm} (h:Va t):A6 (cz t.p) (Fe t):=by
 have hc:=h.cut;rcases h.i with ⟨e,h0⟩ | ⟨L,V⟩
 ·exact Qp6 hc (x:=t.lo) (by rw [Ag e,Ls]) (by rw [U0]; exact h0)
 ·have:Fe t=cq (cz t.p) t.lo t.hi:=funext λq=>Ny V.l q
  rw [this]; exact V.van
theorem Va.qs {t:Tm} (h:Va t):Qs 3300000 t.lo/\Qs 3300000 t.hi:=by
 obtain ⟨D,M,k,h1,h2,h3,h4⟩:=h.g;have h4:=Qc h4 (Qoj t);exact ⟨LO h1 h3 h4,LO h2 h3 h4⟩
theorem Va.qsn {t:Tm} (h:Va t) (hp:t.point=false):Qs 1000000 t.lo/\Qs 1000000 t.hi:=by
 obtain ⟨D,M,k,h1,h2,h3,h4⟩:=h.g;rw [OU hp] at h4;exact ⟨LO h1 h3 h4,LO h2 h3 h4⟩
theorem Va.tb {t:Tm} (h:Va t):Tb t:=⟨⟨h.tr,by have:=h.n; omega,Uv h.b (by omega)⟩,h.qs.1.mono (t:=16777216) (by omega),h.qs.2.mono (t:=16777216) (by omega)⟩
structure Hv (t:Tm) (D M k:Nat) (u:Tm):Prop where
 p:u.p=t.p
 i:u.lo=u.hi/\Uy u.p u.lo=0\/∃ L,Vt (cz u.p) L u.lo u.hi
 c:∀ q,Fe u q=Fe t q
 l:Gr D M k u.lo
 h:Gr D M k u.hi
theorem jV {c:Rat->Int} (hc:Cut c) {x:Rat} (h:c x=0) (q:Rat):c q=G7 x q:=by
 rcases Nx x q with ⟨e,e'⟩ | ⟨e,e'⟩ | ⟨e,e'⟩
 ·rw [e]; exact hc.mono' e' (by omega)
 ·rw [e,<-e',h]
 ·rw [e]; exact hc.mono x q e' (by omega)
theorem OX {t u:Tm} {D M k:Nat} (hu:Hv t D M k u) (hM:0<M) (hs:U5 (D:Int)+U5 (M:Int)+(k+1)<=16777216):∃ v,OZ u=some v/\Hv t D M (k+1) v/\v.hi-v.lo<=(u.hi-u.lo) / 2/\u.lo<=v.lo/\v.hi<=u.hi:=by
 have h2:∀ x:Rat,x / 2*2=x:=λx=>Gy (by decide)
 unfold OZ;rcases hu.i with ⟨e,h0⟩ | ⟨L,V⟩
 ·have hp:u.point=true:=P5.2 (by rw [e]; exact Qp);rw [if_pos hp];refine ⟨u,rfl,⟨hu.p,hu.i,hu.c,EQ hu.l,EQ hu.h⟩,?_,Qp,Qp⟩;rw [e]; have:=h2 (u.hi-u.hi); grind
 ·have hp:u.point=false:=by
   have:¬u.point=true:=λh=>by have:=P5.1 h; have:=V.l; grind
   simpa using this
  rw [hp,if_neg (by decide)];obtain ⟨m,hm⟩:=nmE ((u.lo+u.hi) / 2);have hmg:Gr D M (k+1) m:=by rw [hm]; exact Qcv hu.l hu.h
  have hmm:=h2 (u.lo+u.hi);rw [<-hm] at hmm;have hl:=V.l;have hl1:u.lo<m:=by grind
  have hl2:m<u.hi:=by grind
  have hch:iW (mid u.lo u.hi)=some m:=by
   rw [hZ,<-hm];have:=LO hmg hM hs;unfold iW;rw [if_pos ⟨this.1,this.2⟩]
  have hcm:mid u.lo u.hi=m:=by rw [hZ,<-hm]
  rw [hch];show ∃ v,some (if Fe u m=0 then (⟨u.p,m,m⟩:Tm) else if Fe u m=-1 then ⟨u.p,u.lo,m⟩ else ⟨u.p,m,u.hi⟩)=some v/\_;have hw:=h2 (u.hi-u.lo);have hcu:=Ny hl;have hcut:=V.cut;have hcut':Cut (Fe u):=by rw [show Fe u=cq (cz u.p) u.lo u.hi from funext hcu]; exact hcut
  by_cases c0:Fe u m=0
  ·rw [if_pos c0];have hz:Uy u.p m=0:=by
    have:=GE hcut (q:=m) (by rw [<-hcu]; exact c0) V.van;rwa [U0] at this
   refine ⟨_,rfl,⟨hu.p,.inl ⟨rfl,hz⟩,λq=>?_,hmg,hmg⟩,by show m-m<=_; grind,by show u.lo<=m; grind,by show m<=u.hi; grind⟩;rw [Ag rfl,<-hu.c];exact (jV hcut' c0 q).symm
  ·rw [if_neg c0];by_cases c1:Fe u m=-1
   ·rw [if_pos c1];have hv:vv L m=vv L u.hi:=V.eq_hi hl1 (Qq hl2) (by rw [<-hcu,c1]; decide);have V':Vt (cz u.p) L u.lo m:=⟨V.s,hl1,by rw [hv]; exact V.v⟩;refine ⟨_,rfl,⟨hu.p,.inr ⟨L,V'⟩,λq=>?_,EQ hu.l,hmg⟩,by show m-u.lo<=_; grind,Qp,by show m<=u.hi; grind⟩;rw [Ny hl1,<-hu.c,hcu];exact V.uniq V'.cut (Ec Qp) (by rw [KJ hl1 hl2]; decide) V'.van q
   ·rw [if_neg c1];have c2:Fe u m=1:=by rcases hcut'.val m with h | h | h <;> omega
    have hv:vv L m=vv L u.lo:=V.eq_lo hl1 (Qq hl2) (by rw [<-hcu]; exact c2);have V':Vt (cz u.p) L m u.hi:=⟨V.s,hl2,by rw [hv]; exact V.v⟩;refine ⟨_,rfl,⟨hu.p,.inr ⟨L,V'⟩,λq=>?_,hmg,EQ hu.h⟩,by show u.hi-m<=_; grind,by show u.lo<=m; grind,Qp⟩;rw [Ny hl2,<-hu.c,hcu];exact V.uniq V'.cut (Ec (by grind)) V'.hi1 V'.van q
def Mp (a b:Tm):Prop:=∃ q,Fe a q=-1/\Fe b q=1
def TEq (a b:Tm):Prop:=∀ q,Fe a q=Fe b q
theorem tri {a b:Tm} (ha:Cut (Fe a)) (hb:Cut (Fe b)):Mp a b\/TEq a b\/Mp b a:=by
 rcases Classical.em (TEq a b) with h | h
 ·exact .inr (.inl h)
 ·obtain ⟨q,hq⟩:=Classical.not_forall.1 h;obtain ⟨r,⟨h1,h2⟩ | ⟨h1,h2⟩⟩:=jY ha hb hq
  ·exact .inl ⟨r,h1,h2⟩
  ·exact .inr (.inr ⟨r,h2,h1⟩)
theorem Aw {a b:Tm} (ha:Cut (Fe a)) (hb:Cut (Fe b)) (h:Mp a b) (h':Mp b a):False:=by
 obtain ⟨q,q1,q2⟩:=h;obtain ⟨r,r1,r2⟩:=h';have:=ha.lt r2 q1;have:=hb.lt q2 r1;grind
theorem kY {p:Ui} (k:Nat):(p.getD k 0).natAbs<=2^Gv p:=by
 have h:U5 (p.getD k 0)<=Gv p:=by
  have key:∀ (l:Ui) (n:Nat),n≤l.foldl (λn z=>max n (U5 z)) n/\∀ z∈l,U5 z≤l.foldl (λn z=>max n (U5 z)) n:=by
   intro l
   induction l with
   | nil=>exact λn=>⟨Ql _,λz hz=>by cases hz⟩
   |
    cons y l ih =>
    intro n;obtain ⟨i1,i2⟩:=ih (max n (U5 y));refine ⟨by simp only [Z7]; omega,λz hz=>?_⟩;simp only [Z7];rcases Qm.1 hz with rfl | hz
    ·omega
    ·exact i2 z hz
  exact Gj (s:=Gv p) (λz hz=>(key p 0).2 z hz) k
 rw [Tu] at h; omega
theorem Qlv {s:Nat}:∀ (B:Ui),(∀ z∈B,z.natAbs≤2^s)->gB B≤2^(s+(B.length-1))
 | [],_=>Qi _
 |
  c::B,h=>by
  have h1:=h c (Qw ..);have h2:=Qlv B λz hz=>h z (Qg _ hz)
  simp only [gB,Q4,Js];have h3:2^s<=2^(s+B.length):=Zt (by decide) (by omega);cases B with
  | nil=>simp only [gB,Jd] at *; omega
  |
   cons d B =>
   have h4:2^(s+(d::B).length)=2*2^(s+((d::B).length-1)):=by
    rw [Zn,<-Zo]; congr 1
   rw [h4]; omega
def Te (A B:Ui):Nat:=(Gv A+Gv B+(A.length+B.length)+8)*(2*(A.length+B.length-2)-1)
theorem Qcg {A B:Ui} (tA:U7 A) (tB:U7 B) (nA:A.length<=9) (nB:B.length<=9) (lA:2<=A.length) (lB:2<=B.length) {R d:Rat} (hR:1<=R) (dp:0<d)
 (hs:∀ e:Rat,0<e->∃ q r,Fa q<=R/\Fa r<=R/\d<=Fa (q-r)/\Fa (q-r)*((2^(Te A B+1):Nat):Rat)<=1/\Fa (Uy A q)<e/\Fa (Uy B r)<e):False:=by
 obtain ⟨a,ha⟩:∃ a,A.length=a+1:=⟨A.length-1,by omega⟩;obtain ⟨b,hb⟩:∃ b,B.length=b+1:=⟨B.length-1,by omega⟩;obtain ⟨s,hsd⟩:=nmE (Gv A+Gv B+b);obtain ⟨N,hN⟩:∃ N,b*(2*(a*b))+a*(2*(a*b)-b)=N:=⟨_,rfl⟩;have hNt:N<=2^(a+9):=by
  rw [<-hN];have hab:∀ a b:Fin 9,b.1*(2*(a.1*b.1))+a.1*(2*(a.1*b.1)-b.1)<=2^(a.1+9):=by decide
  exact hab ⟨a,by omega⟩ ⟨b,by omega⟩
 have hK:Te A B=(s+a+10)*(2*(a+b-1)+1):=by
  unfold Te;rw [ha,hb,hsd,show a+1+(b+1)-2=a+b by omega,show 2*(a+b)-1=2*(a+b-1)+1 by omega];congr 1; omega
 have h0A:A.getD a 0≠0:=by have:=Rm tA (by omega); rwa [ha] at this
 have h0B:B.getD b 0≠0:=by have:=Rm tB (by omega); rwa [hb] at this
 have hp:∀ m,1<=2^m:=λm=>Z2 (by decide)
 refine Qn8 (N:=N) (D:=2^(Te A B-1)) ha hb h0A h0B (by omega) (by omega) (h:=2^s) (hp s) (λk=>Qc (kY k) (Zt (by decide) (by omega))) ?_ hN ?_ hR dp λe ep=>?_
 ·refine Qc (Qlv (s:=Gv B) B λz hz=>?_) (Zt (by decide) (by omega));obtain ⟨i,hi⟩:=Zm.1 hz;have:=kY (p:=B) i;rwa [Qk,hi] at this
 ·have h1:2*(N*2^s)<=2^(s+a+10):=by
   have:N*2^s<=2^(a+9)*2^s:=Qx _ hNt;rw [<-Xe] at this;rw [show s+a+10=(a+9+s)+1 by omega,Zo]; omega
  have h2:N*2^s<=2^(s+a+9):=by
   rw [show s+a+9=(a+9)+s by omega,Xe]; exact Qx _ hNt
  have h3:=Nat.pow_le_pow_left h1 (2*(a+b-1));have h4:=Q7 h2 h3;rw [<-W8,<-Xe] at h4;rw [<-Xx];refine Qc h4 (Zt (by decide) ?_);rw [hK,Xj,Yv]; omega
 ·obtain ⟨q,r,h1,h2,h3,h4,h5,h6⟩:=hs e ep;refine ⟨q,r,h1,h2,h3,?_,h5,h6⟩;have hK1:1<=Te A B:=by
   rw [hK]; exact J1 (by omega) (by omega)
  have e1:2^(Te A B+1)=4*2^(Te A B-1):=by
   obtain ⟨m,hm⟩:∃ m,Te A B=m+1:=⟨Te A B-1,by omega⟩;rw [hm,Js,Zo,Zo]; omega
  rw [e1] at h4
  push_cast at h4 ⊢
  exact h4
theorem Hv.lo' {t:Tm} {D M k:Nat} {u:Tm} (h:Hv t D M k u):Fe t u.lo=1\/Fe t u.lo=0/\u.lo=u.hi:=by
 rw [<-h.c];rcases h.i with ⟨e,_⟩ | ⟨L,V⟩
 ·exact .inr ⟨by rw [Ag e,Ls],e⟩
 ·exact .inl (by rw [Ny V.l]; exact Ec Qp)
theorem Hv.hi' {t:Tm} {D M k:Nat} {u:Tm} (h:Hv t D M k u):Fe t u.hi=0\/Fe t u.hi=-1:=by
 rw [<-h.c];rcases h.i with ⟨e,_⟩ | ⟨L,V⟩
 ·exact .inl (by rw [Ag e,e,Ls])
 ·rw [Ny V.l];have:=V.hi1;rcases V.cut.val u.hi with h | h | h <;> omega
theorem Hv.le {t:Tm} {D M k:Nat} {u:Tm} (h:Hv t D M k u):u.lo<=u.hi:=by
 rcases h.i with ⟨e,_⟩ | ⟨L,V⟩
 ·rw [e]; exact Qp
 ·exact Qq V.l
theorem Qch {a b:Tm} (ha:Va a) (hb:Va b) {D M k D' M' k':Nat} {u v:Tm} (hu:Hv a D M k u) (hv:Hv b D' M' k' v) (h:Mp a b):1<(v.hi-u.lo)*((2^(Te a.p b.p+1):Nat):Rat):=by
 rcases Fv ((v.hi-u.lo)*((2^(Te a.p b.p+1):Nat):Rat)) 1 with hw | hw
 ·exfalso;have ca:=ha.cut;have cb:=hb.cut;obtain ⟨m,m1,m2⟩:=h;obtain ⟨m',hm',m3⟩:=ca.dn m m1;have hpow:(0:Rat)<=((2^(Te a.p b.p+1):Nat):Rat):=Xi;obtain ⟨R,hR⟩:=nmE (Fa u.lo+Fa m'+Fa m+Fa v.hi+1);have n1:=Hj u.lo; have n2:=Hj m'; have n3:=Hj m; have n4:=Hj v.hi;refine Qcg (R:=R) (d:=m-m') ha.tr hb.tr ha.n hb.n ha.n2 hb.n2 (by grind) (by grind) λe ep=>?_
  obtain ⟨q,q1,q2,q3⟩:∃ q,u.lo<=q/\q<=m'/\Fa (Uy a.p q)<e:=by
   rcases hu.lo' with h1 | ⟨h1,_⟩
   ·obtain ⟨x,y,hx,hy,hq⟩:=ha.van e ep;rcases Fv x u.lo with e1 | e1
    ·exact ⟨u.lo,Qp,Qq (ca.lt h1 m3),by rw [<-U0]; exact hq u.lo e1 (Qq (ca.lt h1 hy))⟩
    ·exact ⟨x,Qq e1,Qq (ca.lt hx m3),by rw [<-U0]; exact hq x Qp (Qq (ca.lt hx hy))⟩
   ·refine ⟨u.lo,Qp,?_,by rw [<-U0,GE ca h1 ha.van,Hy]; exact ep⟩;rcases Fv u.lo m' with e1 | e1
    ·exact e1
    ·have:=ca.mono m' u.lo e1 (by omega); omega
  obtain ⟨r,r1,r2,r3⟩:∃ r,r<=v.hi/\m<=r/\Fa (Uy b.p r)<e:=by
   rcases hv.hi' with h1 | h1
   ·refine ⟨v.hi,Qp,?_,by rw [<-U0,GE cb h1 hb.van,Hy]; exact ep⟩;rcases Fv m v.hi with e1 | e1
    ·exact e1
    ·have:=cb.mono v.hi m e1 (by omega); omega
   ·obtain ⟨x,y,hx,hy,hq⟩:=hb.van e ep;rcases Fv v.hi y with e1 | e1
    ·exact ⟨v.hi,Qp,Qq (cb.lt m2 h1),by rw [<-U0]; exact hq v.hi (Qq (cb.lt hx h1)) e1⟩
    ·exact ⟨y,Qq e1,Qq (cb.lt m2 hy),by rw [<-U0]; exact hq y (Qq (cb.lt hx hy)) Qp⟩
  have e1:Fa (q-r)=r-q:=by unfold Fa; split <;> grind
  have b1:Fa q<=R:=by
   have:=KC (R:=R) (x:=u.lo) (y:=m') (t:=q) (by grind) (by grind) q1 q2; exact this
  have b2:Fa r<=R:=by
   have:=KC (R:=R) (x:=m) (y:=v.hi) (t:=r) (by grind) (by grind) r2 r1; exact this
  refine ⟨q,r,b1,b2,by rw [e1]; grind,?_,q3,r3⟩;rw [e1];have:=Q8 (show r-q<=v.hi-u.lo by grind) hpow;exact Zh this hw
 ·exact hw
theorem xX {a b:Tm} (ha:Va a) (hb:Va b) {D M k D' M' k':Nat} {u v:Tm} (hu:Hv a D M k u) (hv:Hv b D' M' k' v) (hne:¬TEq a b) (h:C6 u v=true):Mp a b:=by
 have h1:=(of_decide_eq_true h).1;have h1:=TK.1 h1;rcases tri ha.cut hb.cut with h2 | h2 | ⟨m,m1,m2⟩
 ·exact h2
 ·exact absurd h2 hne
 ·exfalso;have e1:m<u.hi:=by
   rcases Fv u.hi m with e | e
   ·rcases Classical.em (u.hi=m) with e' | e'
    ·have:=hu.hi'; rw [e'] at this; omega
    ·have:=ha.cut.mono u.hi m (by grind) (by have:=hu.hi'; omega); omega
   ·exact e
  have e2:v.lo<m:=by
   rcases Fv m v.lo with e | e
   ·rcases Classical.em (m=v.lo) with e' | e'
    ·have:=hv.lo'; rw [<-e'] at this; omega
    ·have:=hb.cut.mono m v.lo (by grind) (by omega);have:=hv.lo'; omega
   ·exact e
  grind
theorem bR {a b:Tm} (ha:Va a) (hb:Va b) {D M k D' M' k':Nat} {u v:Tm} (hu:Hv a D M k u) (hv:Hv b D' M' k' v) (hlt:Mp a b) (h:C6 u v≠true):v.lo<=u.hi:=by
 rcases Fv v.lo u.hi with e | e
 ·exact e
 ·refine absurd (decide_eq_true ⟨TK.2 (Qq e),λh'=>?_⟩) h;have:=mV.1 h'.2; grind
theorem vI (m:Nat):((2^(m+1):Nat):Rat)=2*((2^m:Nat):Rat):=by rw [Zo]; push_cast; grind
def Qmm (a b:Tm) (r:Tm×Tm×Int):Prop:=r.2.2=-1/\Mp a b\/r.2.2=1/\Mp b a
theorem eK (A B:Ui):Te A B=Te B A:=by unfold Te; rw [Nat.add_comm A.length,Nat.add_comm (Gv A)]
theorem Qqm {a b:Tm} (ha:Va a) (hb:Va b) (hne:¬TEq a b) {D M D' M':Nat} (hM:0<M) (hM':0<M'):∀ (i j:Nat) (u v:Tm) (k k':Nat) (W:Rat),2*i+1<=j->Hv a D M k u->Hv b D' M' k' v->U5 (D:Int)+U5 (M:Int)+(k+j)<=16777216->U5 (D':Int)+U5 (M':Int)+(k'+j)<=16777216->u.hi-u.lo<=W->v.hi-v.lo<=W->2*W*((2^(Te a.p b.p+1):Nat):Rat)<=((2^i:Nat):Rat)->∃ r,CQ j u v=some r/\Qmm a b r:=by
 intro i;have step:∀ (j:Nat) (u v:Tm) (k k':Nat),Hv a D M k u->Hv b D' M' k' v->U5 (D:Int)+U5 (M:Int)+(k+(j+1))<=16777216->U5 (D':Int)+U5 (M':Int)+(k'+(j+1))<=16777216->(∃ r,CQ (j+1) u v=some r/\Qmm a b r)\/(C6 u v≠true/\C6 v u≠true/\∃ u' v' k1 k1',CQ (j+1) u v=CQ j u' v'/\Hv a D M k1 u'/\Hv b D' M' k1' v'/\k1<=k+1/\k1'<=k'+1/\(v.hi-v.lo<=u.hi-u.lo/\u'.hi-u'.lo<=(u.hi-u.lo) / 2/\v'=v\/u.hi-u.lo<=v.hi-v.lo/\v'.hi-v'.lo<=(v.hi-v.lo) / 2/\u'=u)):=by
  intro j u v k k' hu hv hs hs';by_cases h1:C6 u v=true
  ·exact .inl ⟨(u,v,-1),by simp only [CQ]; rw [if_pos h1],.inl ⟨rfl,xX ha hb hu hv hne h1⟩⟩
  by_cases h2:C6 v u=true
  ·exact .inl ⟨(u,v,1),by simp only [CQ]; rw [if_neg h1,if_pos h2],.inr ⟨rfl,xX hb ha hv hu (λh=>hne λq=>(h q).symm) h2⟩⟩
  refine .inr ⟨h1,h2,?_⟩;by_cases h3:0<=G7 (BG u.hi u.lo) (BG v.hi v.lo)
  ·obtain ⟨x,x1,x2,x3,_⟩:=OX hu hM (by omega);refine ⟨x,v,k+1,k',?_,x2,hv,by omega,by omega,.inl ⟨?_,x3,rfl⟩⟩
   ·simp only [CQ]; rw [if_neg h1,if_neg h2,if_pos h3,x1]; rfl
   ·have:=TY.1 h3; rwa [SV,SV] at this
  ·obtain ⟨x,x1,x2,x3,_⟩:=OX hv hM' (by omega);refine ⟨u,x,k,k'+1,?_,hu,x2,by omega,by omega,.inr ⟨?_,x3,rfl⟩⟩
   ·simp only [CQ]; rw [if_neg h1,if_neg h2,if_neg h3,x1]; rfl
   ·rcases Fv (u.hi-u.lo) (v.hi-v.lo) with e | e
    ·exact e
    ·refine absurd (TY.2 ?_) h3;rw [SV,SV]; exact Qq e
 induction i with
 |
  zero =>
  intro j u v k k' W hj hu hv hs hs' hW hW' hK;obtain ⟨j,rfl⟩:∃ m,j=m+1:=⟨j-1,by omega⟩;rcases step j u v k k' hu hv hs hs' with h | ⟨h1,h2,_⟩
  ·exact h
  ·exfalso;have hpow:(0:Rat)<=((2^(Te a.p b.p+1):Nat):Rat):=Xi;rw [Ve] at hK;rcases tri ha.cut hb.cut with h3 | h3 | h3
   ·have h4:=bR ha hb hu hv h3 h1;have h5:=Qch ha hb hu hv h3;have h6:=Q8 (show v.hi-u.lo<=2*W by clear step; grind) hpow;have h7:((1:Nat):Rat)=1:=rfl;rw [h7] at hK;clear step; grind
   ·exact hne h3
   ·have h4:=bR hb ha hv hu h3 h2;have h5:=Qch hb ha hv hu h3;rw [eK] at h5;have h6:=Q8 (show u.hi-v.lo<=2*W by clear step; grind) hpow;have h7:((1:Nat):Rat)=1:=rfl;rw [h7] at hK;clear step; grind
 |
  succ i ih =>
  intro j u v k k' W hj hu hv hs hs' hW hW' hK;obtain ⟨j,rfl⟩:∃ m,j=m+2:=⟨j-2,by omega⟩;have hd:∀ x:Rat,x / 2*2=x:=λx=>Gy (by decide)
  rcases step (j+1) u v k k' hu hv hs hs' with h | ⟨_,_,u1,v1,k1,k1',e1,hu1,hv1,hk1,hk1',hw1⟩
  ·exact h
  ·rw [e1];rcases step j u1 v1 k1 k1' hu1 hv1 (by omega) (by omega) with h | ⟨_,_,u2,v2,k2,k2',e2,hu2,hv2,hk2,hk2',hw2⟩
   ·exact h
   ·rw [e2];have a1:=hd (u.hi-u.lo); have a2:=hd (v.hi-v.lo); have a3:=hd (u1.hi-u1.lo); have a4:=hd (v1.hi-v1.lo); have a5:=hd W;have b1:=hu.le; have b2:=hv.le; have b3:=hu1.le; have b4:=hv1.le; have b5:=hu2.le; have b6:=hv2.le;have hww:u2.hi-u2.lo<=W / 2/\v2.hi-v2.lo<=W / 2:=by
     clear step ih;rcases hw1 with ⟨c1,c2,rfl⟩ | ⟨c1,c2,rfl⟩ <;> rcases hw2 with ⟨d1,d2,rfl⟩ | ⟨d1,d2,rfl⟩ <;> constructor <;> grind
    refine ih j u2 v2 k2 k2' (W / 2) (by omega) hu2 hv2 (by omega) (by omega) hww.1 hww.2 ?_;rw [vI i] at hK;have:2*(W / 2)*((2^(Te a.p b.p+1):Nat):Rat)*2=2*W*((2^(Te a.p b.p+1):Nat):Rat):=by clear step ih hw1 hw2; grind
    clear step ih hw1 hw2; grind
end Orq
