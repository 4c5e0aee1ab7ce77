/- T10 T11 T12 T13 T14 T15 T16 T17 T18 T19 T20 T21 T22 T23 -/
import Derived.Test.YtbhhcpcpionelabGreatPart05
import Derived.Test.YtbhhcpcpionelabGreatPart00
set_option linter.all false
namespace Orq
def EI (A B:Uk) (b J J' n k j:Nat):Int:=if n<b*J then PZ (n / J) (n % J) (fA A) k j else PZ ((n-b*J) / J') ((n-b*J) % J') (gc B) k j
theorem Qjf {F:Nat->Nat->Int} {h:Nat} (hF:∀ k j,(F k j).natAbs<=h) (i j' k j:Nat):(PZ i j' F k j).natAbs<=h:=by
 unfold PZ; split
 ·split
  ·exact hF _ _
  ·exact Qh _
 ·exact Qh _
theorem Qq2 {i b J j:Nat} (hi:i<b) (hj:j<J):i*J+j<b*J:=by
 have:(i+1)*J<=b*J:=Q0 J hi;rw [Z9] at this; omega
theorem HG {i J j:Nat} (hj:j<J):(i*J+j) / J=i/\(i*J+j) % J=j:=by
 rw [Zp,W7 (by omega),W8,V2 hj,Xt hj]; exact ⟨by omega,rfl⟩
theorem qC (A B:Uk) (a b J J':Nat) (v:Nat->Int) (k j:Nat):sm (b*J+a*J') (λn=>EI A B b J J' n k j*v n) =
 (sm b λi=>sm J λj1=>PZ i j1 (fA A) k j*v (i*J+j1))+sm a λi=>sm J' λj1=>PZ i j1 (gc B) k j*v (b*J+(i*J'+j1)):=by
 rw [bE,bI,bI];congr 1
 ·refine La b λi hi=>La J λj1 hj=>?_
  unfold EI;rw [if_pos (Qq2 hi hj),(HG hj).1,(HG hj).2]
 ·refine La a λi hi=>La J' λj1 hj=>?_
  unfold EI;rw [if_neg (by omega),Jj,(HG hj).1,(HG hj).2]
theorem Qws (A:Uk) (v:Nat->Int) {i J k j:Nat} (hj:j<J):(sm J λj1=>PZ i j1 (fA A) k j*v (i*J+j1))=if i<=k then A.getD (k-i) 0*v (i*J+j) else 0:=by
 rw [LM (k:=j) J hj λj1 _ hne=>?_]
 ·unfold PZ fA;by_cases h:i<=k
  ·rw [if_pos h,if_pos h,if_pos (Qm _),if_pos (Kg _)]
  ·rw [if_neg h,if_neg h,Yx]
 ·unfold PZ fA;by_cases h:i<=k
  ·rw [if_pos h];by_cases h':j1<=j
   ·rw [if_pos h',if_neg (by omega),Yx]
   ·rw [if_neg h',Yx]
  ·rw [if_neg h,Yx]
section
variable {A B:Uk} {a b J J':Nat} (hA:A.length=a+1) (hB:B.length=b+1) (lA:A.getD a 0≠0) (lB:B.getD b 0≠0) (hJ:J=J'+b) {v:Nat->Int} (hW:∀ k j,k<a+b->j<J->sm (b*J+a*J') (λn=>EI A B b J J' n k j*v n)=0)
include hA lA hW in
theorem Qqr {jj:Nat} (hj:jj<J) (hV:∀ k,a<=k->k<a+b->(sm a λi=>sm J' λj1=>PZ i j1 (gc B) k jj*v (b*J+(i*J'+j1)))=0):∀ d i,i<b->b-i<=d->v (i*J+jj)=0:=by
 intro d
 induction d with
 | zero=>intro i hi hd; omega
 |
  succ d ih =>
  intro i hi hd;have h1:=hW (i+a) jj (by omega) hj;rw [qC,hV (i+a) (by omega) (by omega)] at h1;rw [La b (λi' hi'=>Qws A v hj)] at h1;rw [LM (k:=i) b hi λi' hi' hne=>?_] at h1
  ·rw [if_pos (by omega),Jj,Int.add_zero] at h1;rcases Yc.1 h1 with h2 | h2
   ·exact absurd h2 lA
   ·exact h2
  ·rcases Zb i i' with h | h
   ·rw [ih i' hi' (by omega)]; simp
   ·rw [if_pos (by omega),Qi,Qw (by omega)]; simp
include hA hB lA lB hJ hW in
theorem Qwy:∀ d js,js<J'->J'-js<=d->∀ i,i<a->v (b*J+(i*J'+js))=0:=by
 intro d
 induction d with
 | zero=>intro js hi hd; omega
 |
  succ d ih =>
  intro js hjs hd i hi;have hin:∀ i' k,i'<a->(sm J' λj1=>PZ i' j1 (gc B) k (js+b)*v (b*J+(i'*J'+j1)))=if i'=k then gc B 0 b*v (b*J+(i'*J'+js)) else 0:=λi' k hi'=>by
   rw [LM (k:=js) J' hjs λj1 hj1 hne=>?_]
   ·unfold PZ;by_cases h:i'<=k
    ·rw [if_pos h,if_pos (by omega),Jj];by_cases h':i'=k
     ·rw [if_pos h',h',Kg]
     ·rw [if_neg h',PO B _ _ (by omega),Yx]
    ·rw [if_neg h,if_neg (by omega),Yx]
   ·rcases Zb js j1 with h | h
    ·rw [ih j1 hj1 (by omega) i' hi',Wb]
    ·unfold PZ;by_cases h':i'<=k
     ·rw [if_pos h',if_pos (by omega),PO B _ _ (by omega),Yx]
     ·rw [if_neg h',Yx]
  have hU:=Qqr hA lA hW (jj:=js+b) (by omega) (λk hk hk'=>YH a λi' hi'=>by rw [hin i' k hi',if_neg (by omega)]) (b+1);have h1:=hW i (js+b) (by omega) (by omega);rw [qC,La a (λi' hi'=>hin i' i hi')] at h1;rw [YH b λi' hi'=>by
   rw [Qws A v (by omega),hU i' hi' (by omega)]; simp] at h1
  rw [LM (k:=i) a hi λi' hi' hne=>if_neg hne,if_pos rfl,Int.zero_add] at h1;rcases Yc.1 h1 with h2 | h2
  ·have:=Qgj B b hB; rw [h2] at this; omega
  ·exact h2
include hA hB lA lB hJ hW in
theorem Qc6:∀ n,n<b*J+a*J'->v n=0:=by
 intro n hn;have hV:=Qwy hA hB lA lB hJ hW;rcases Zb n (b*J) with h | h
 ·have hJp:0<J:=by
   rcases Q3 J with e | e
   ·rw [e,Yy] at h; omega
   ·exact e
  have e1:=Z5 n hJp;have e2:n / J<b:=X9 (by rw [Zp]; exact h);have:=Qqr hA lA hW e1 (λk _ _=>YH a λi hi=>YH J' λj1 hj1=>by rw [hV J' j1 hj1 (by omega) i hi,Wb]) (b+1) (n / J) e2 (Qc (Nat.sub_le _ _) (Nat.le_succ _));rwa [Zp,Xc] at this
 ·have hJp:0<J':=by
   rcases Q3 J' with e | e
   ·rw [e,Yy] at hn; omega
   ·exact e
  have e1:=Z5 (n-b*J) hJp;have e2:(n-b*J) / J'<a:=X9 (by rw [Zp J' a]; omega);have:=hV J' _ e1 (by omega) _ e2;rw [Zp ((n-b*J) / J'),Xc] at this;rwa [show b*J+(n-b*J)=n by omega] at this
end
theorem YW {R x:Rat} (h1:1<=R) (hx:Fe x<=R):∀ k:Nat,Fe (x^k)<=R^k/\1<=R^k
 | 0=>by rw [Xe,Xe]; exact ⟨by decide,by decide⟩
 |
  k+1=>by
  obtain ⟨i1,i2⟩:=YW h1 hx k;rw [Z7,Z7];have:=B9 (a:=1) (c:=1) (by decide) i2 (by decide) h1;exact ⟨G6 i1 hx,by grind⟩
theorem iF {R:Rat} (h1:1<=R) {i:Nat}:∀ k,i<=k->R^i<=R^k
 | 0,h=>by rw [show i=0 by omega]; exact Qp
 |
  k+1,h=>by
  rcases Vm h with e | e
  ·have:=iF h1 (i:=i) k (by omega);have h2:=(YW h1 (x:=0) (by rw [H8]; grind) k).2;rw [Z7];have:=B9 (a:=R^k) (b:=R^k) (c:=1) (d:=R) (by grind) Qp (by decide) h1;grind
  ·rw [e]; exact Qp
theorem Qje {F:Nat->Nat->Int} {i j' K J:Nat} {x y R X:Rat} {K2 J2:Nat} (h1:1<=R) (hx:Fe x<=R) (hy:Fe y<=R) (hK:K=i+K2) (hJ:J=j'+J2) (hF:E2 F K2 J2 x y=X):Fe (E2 (PZ i j' F) K J x y)<=R^(K+J)*Fe X:=by
 subst hK; subst hJ;rw [BM,hF,Ia];have a1:=(YW h1 hy i).1;have a2:=(YW h1 hx j').1;have a3:=G6 a1 a2;rw [<-FH] at a3;have a4:=iF h1 (i:=i+j') (i+K2+(j'+J2)) (by omega);exact B9 (Hm _) (Zk a3 a4) (Hm _) Qp
theorem Quz {A B:Uk} {a b h:Nat} (hA:A.length=a+1) (hB:B.length=b+1) (lA:A.getD a 0≠0) (lB:B.getD b 0≠0) (ha:0<a) (hb:0<b) (h0:1<=h) (bA:∀ k,(A.getD k 0).natAbs<=h) (bB:gB B<=h) {J J' N H:Nat} (hJ:J=2*(a*b)) (hJ':J=J'+b) (hN:N=b*J+a*J') (hH:H=(2*(N*h))^(2*(a+b-1))) :
 ∃ w:Nat->Int,(∃ j,j<J/\w j≠0)/\(∀ j,(w j).natAbs<=N*(h*H))/\∀ R:Rat,1<=R->∃ C:Rat,0<=C/\∀ x y,Fe x<=R->Fe y<=R->Fe (sq J λj=>(w j:Rat)*x^j)<=C*(Fe (U4 A y)+Fe (U4 B (y-x))):=by
 have hab:0<a*b:=J3 ha hb;have hbd:∀ n k j,(EI A B b J J' n k j).natAbs<=h:=λn k j=>by
  unfold EI
  split
  ·exact Qjf (λk j=>by unfold fA; split; exact bA k; exact Nat.zero_le _) _ _ _ _
  ·exact Qjf (λk j=>Qc (Qgi B k j) bB) _ _ _ _
 have hJp:0<J:=by omega
 have hNp:1<=N:=by
  have:0<b*J:=J3 hb hJp;omega
 have hNh:1<=N*h:=J3 hNp h0;obtain ⟨E,hE⟩:=nmE ((a+b-1)*J);have hNE:N=E+a*b:=by
  have e1:(a+b-1)*J+J=(a+b)*J:=by
   rw [<-Z9]; congr 1; omega
  have e2:a*J=a*J'+a*b:=by rw [hJ',Xi]
  rw [X2] at e1;omega
 have hc:(2*(N*(h*H))+1)^E<(H+1)^N:=by
  have c1:2*(N*(h*H))+1<=2*(N*h)*(H+1):=by
   rw [Xi,Yu,Xy 2,Xy N]; omega
  refine Z3 (Nat.pow_le_pow_left c1 E) ?_;rw [Nat.mul_pow,hNE,Xd,Zp];refine Nat.mul_lt_mul_of_pos_left ?_ (Z2 (by omega));have e1:(2*(N*h))^E=H^(a*b):=by
   rw [hH,<-Wn,hE,hJ]; congr 1;rw [Zp 2 (a+b-1),Xy]
  rw [<-hNE,e1];exact Nat.pow_lt_pow_left (by omega) (by omega)
 obtain ⟨v,v1,⟨n0,n1,n2⟩,v3⟩:=Qu3 (M:=λe n=>EI A B b J J' n (e / J+1) (e % J)) (h:=h) (N:=N) (E:=E) (H:=H) (λe n=>hbd n _ _) hc;have hW:∀ k j,1<=k->k<a+b->j<J->sm N (λn=>EI A B b J J' n k j*v n)=0:=λk j k1 k2 hj=>by
  have:=v3 ((k-1)*J+j) (by rw [hE]; exact Qq2 (by omega) hj);rwa [(HG hj).1,(HG hj).2,show k-1+1=k by omega] at this
 refine ⟨λj=>sm N λn=>EI A B b J J' n 0 j*v n,?_,λj=>?_,λR hR=>?_⟩
 ·rcases Classical.em (∃ j,j<J/\(sm N λn=>EI A B b J J' n 0 j*v n)≠0) with e | e
  ·exact e
  ·exfalso;refine n2 (Qc6 hA hB lA lB hJ' (v:=v) (λk j hk hj=>?_) n0 (by rw [<-hN]; exact n1));rw [<-hN];rcases Q3 k with e' | e'
   ·subst e';rcases Classical.em ((sm N λn=>EI A B b J J' n 0 j*v n)=0) with e2 | e2
    ·exact e2
    ·exact absurd ⟨j,hj,e2⟩ e
   ·exact hW k j e' hk hj
 ·refine Qjl N λn _=>?_
  rw [J7];exact Zh (hbd n 0 j) (v1 n)
 ·have hRp:∀ k:Nat,1<=R^k:=λk=>(YW hR (x:=0) (by rw [H8]; grind) k).2
  have hHn:(0:Rat)<=(H:Rat):=Xh;have hNn:(0:Rat)<=(N:Rat):=Xh;refine ⟨(N:Rat)*((H:Rat)*R^(a+b+J)),Np hNn (Np hHn (by have:=hRp (a+b+J); grind)),λx y hx hy=>?_⟩;have e1:(sq J λj=>((sm N λn=>EI A B b J J' n 0 j*v n:Int):Rat)*x^j)=E2 (λk j=>sm N λn=>EI A B b J J' n k j*v n) (a+b) J x y:=by
   unfold E2;obtain ⟨m,hm⟩:∃ m,a+b=m+1:=⟨a+b-1,by omega⟩;rw [hm,Ow,Ci (n:=m)]
   ·have:(sq J λj=>((sm N λn=>EI A B b J J' n 0 j*v n:Int):Rat)*(y^0*x^j))=sq J λj=>((sm N λn=>EI A B b J J' n 0 j*v n:Int):Rat)*x^j:=Pg J λj _=>by rw [Xe]; grind
    rw [this]; grind
   ·intro k hk;refine Ci J λj hj=>?_
    show ((sm N λn=>EI A B b J J' n (k+1) j*v n:Int):Rat)*_=0;rw [hW (k+1) j (by omega) (by omega) hj,show ((0:Int):Rat)=0 from rfl]; grind
  rw [e1,Qfy];have key:∀ n,n<N->Fe ((v n:Rat)*E2 (EI A B b J J' n) (a+b) J x y)<=(H:Rat)*(R^(a+b+J)*(Fe (U4 A y)+Fe (U4 B (y-x)))):=λn hn=>by
   have hvn:Fe (v n:Rat)<=(H:Rat):=by
    have h1:=v1 n;have h2:(v n)<=(H:Int):=by omega
    have h3:-(H:Int)<=v n:=by omega
    have h2:=Jc.2 h2;have h3:=Jc.2 h3;rw [Vn] at h3;rw [P6]; exact ⟨h3,h2⟩
   refine G6 hvn ?_;have hRk:=hRp (a+b+J);have n1:=Hm (U4 A y);have n2:=Hm (U4 B (y-x));rcases Zb n (b*J) with h | h
   ·have e:EI A B b J J' n=PZ (n / J) (n % J) (fA A):=by funext k j; unfold EI; rw [if_pos h]
    have d1:n / J<b:=X9 (by rw [Zp]; exact h);have d2:=Z5 n hJp;rw [e];refine Zk (Qje (K2:=a+b-n / J) (J2:=J-n % J) hR hx hy (by omega) (by omega) (X:=U4 A y) ?_) (B9 (by grind) Qp n1 (by grind));obtain ⟨m,hm⟩:∃ m,J-n % J=m+1:=⟨J-n % J-1,by omega⟩;rw [hm]; exact Qw0 A _ _ x y (by omega)
   ·have e:EI A B b J J' n=PZ ((n-b*J) / J') ((n-b*J) % J') (gc B):=by funext k j; unfold EI; rw [if_neg (by omega)]
    have hJp':0<J':=by
     rcases Q3 J' with e | e
     ·rw [e,Yy] at hN; omega
     ·exact e
    have d1:(n-b*J) / J'<a:=X9 (by rw [Zp J' a]; omega);have d2:=Z5 (n-b*J) hJp';rw [e];refine Zk (Qje (K2:=a+b-(n-b*J) / J') (J2:=J-(n-b*J) % J') hR hx hy (by omega) (by omega) (X:=U4 B (y-x)) ?_) (B9 (by grind) Qp n2 (by grind));exact Qs9 x y B _ _ (by omega) (by omega)
  have:=Qrg N key;refine Zk this ?_;have:(N:Rat)*((H:Rat)*(R^(a+b+J)*(Fe (U4 A y)+Fe (U4 B (y-x)))))=(N:Rat)*((H:Rat)*R^(a+b+J))*(Fe (U4 A y)+Fe (U4 B (y-x))):=by grind
  rw [this]; exact Qp
end Orq
namespace Orq
theorem Qjq {w:Nat->Int} {x:Rat} {D:Rat} (hx:Fe x*2<=1) (hw:∀ j,Fe (w j:Rat)<=D):∀ J (k:Nat),Fe (sq J λj=>(w (k+j):Rat)*x^j)<=2*D
 | 0,k=>by have:=hw 0; have:=Hm (w 0:Rat); simp only [sq,H8]; clear hw; grind
 |
  J+1,k=>by
  have ih:=Qjq hx hw J (k+1);rw [Ow];have e:(sq J λi=>(w (k+(i+1)):Rat)*x^(i+1))=x*sq J λi=>(w (k+1+i):Rat)*x^i:=by
   rw [<-JY]; exact Pg J λi _=>by rw [Z7,show k+(i+1)=k+1+i by omega]; grind
  rw [e,Xe,Xk];have h1:=hw k;have h2:=Tw ((w k:Rat)*1) (x*sq J λi=>(w (k+1+i):Rat)*x^i);have h3:=G6 (x:=x) (y:=sq J λi=>(w (k+1+i):Rat)*x^i) Qp ih;have h4:=Ze hx (show (0:Rat)<=D by have:=Hm (w k:Rat); clear hw; grind);have h5:(w k:Rat)*1=w k:=by grind
  rw [h5] at h2 ⊢;clear hw; grind
theorem KG {z:Int} (h:z≠0):1<=Fe (z:Rat):=by
 unfold Fe;rcases Kc h with h | h
 ·have:((z:Int):Rat)<((0:Int):Rat):=Jm.2 h;have h2:((1:Int):Rat)<=((-z:Int):Rat):=Jc.2 (by omega);rw [if_pos (by simpa using this)];rw [Vn] at h2;simpa using h2
 ·have:((0:Int):Rat)<((z:Int):Rat):=Jm.2 h;have h2:((1:Int):Rat)<=((z:Int):Rat):=Jc.2 (by omega);rw [if_neg (by
   have:(0:Rat)<z:=by simpa using this
   grind)]
  simpa using h2
theorem mL {w:Nat->Int} {x:Rat} {D:Rat} (hD:1<=D) (hx0:0<Fe x) (hx:Fe x*(4*D)<=1) (hw:∀ j,Fe (w j:Rat)<=D):∀ J (k:Nat),(∃ j,j<J/\w (k+j)≠0)->Fe x^J / 2<=Fe (sq J λj=>(w (k+j):Rat)*x^j)
 | 0,k,⟨j,h,_⟩=>by omega
 |
  J+1,k,⟨j,h1,h2⟩=>by
  have hx2:Fe x*2<=1:=by
   have:=B9 (a:=Fe x) (c:=2) (Qt hx0) Qp (by decide) (show (2:Rat)<=4*D by clear hw; grind);exact Zk this hx
  have hx1:Fe x<=1:=by clear hw; grind
  have hp:∀ k:Nat,Fe x^k<=1/\0<=Fe x^k:=λk=>by
   induction k with
   | zero=>rw [Xe]; exact ⟨by decide,by decide⟩
   |
    succ k ih =>
    rw [Z7];have:=B9 ih.2 ih.1 (Qt hx0) hx1;have:=Np ih.2 (Qt hx0);constructor <;> (clear hw; grind)
  rw [Ow];have e:(sq J λi=>(w (k+(i+1)):Rat)*x^(i+1))=x*sq J λi=>(w (k+1+i):Rat)*x^i:=by
   rw [<-JY]; exact Pg J λi _=>by rw [Z7,show k+(i+1)=k+1+i by omega]; grind
  rw [e,Xe,Xk k,show (w k:Rat)*1=w k by grind];by_cases h0:w k=0
  ·have hj:j≠0:=λe=>h2 (by rw [e]; exact h0)
   have ih:=mL hD hx0 hx hw J (k+1) ⟨j-1,by omega,by rw [show k+1+(j-1)=k+j by omega]; exact h2⟩;rw [h0,show ((0:Int):Rat)+x*(sq J λi=>(w (k+1+i):Rat)*x^i)=x*sq J λi=>(w (k+1+i):Rat)*x^i by rw [show ((0:Int):Rat)=0 from rfl]; grind,Ia,Z7];have:=Zu ih (Qt hx0);have e2:Fe x*(Fe x^J / 2)=Fe x^J*Fe x / 2:=by rw [X3,X3]; grind
   rw [e2] at this; exact this
  ·have a1:=KG h0;have a2:=Qjq hx2 hw J (k+1);have a3:=G6 (x:=x) (y:=sq J λi=>(w (k+1+i):Rat)*x^i) Qp a2;have a4:=Tw ((w k:Rat)+x*sq J λi=>(w (k+1+i):Rat)*x^i) (-(x*sq J λi=>(w (k+1+i):Rat)*x^i));rw [Ed,show (w k:Rat)+(x*sq J λi=>(w (k+1+i):Rat)*x^i)+-(x*sq J λi=>(w (k+1+i):Rat)*x^i)=w k by grind] at a4;have a5:=(hp (J+1)).1;have a6:Fe x^(J+1) / 2*2=Fe x^(J+1):=G8 (by decide);have a7:Fe x*(2*D)*2=Fe x*(4*D):=by grind
   clear hw hp; grind
theorem Qtq {A B:Uk} {a b h:Nat} (hA:A.length=a+1) (hB:B.length=b+1) (lA:A.getD a 0≠0) (lB:B.getD b 0≠0) (ha:0<a) (hb:0<b) (h0:1<=h) (bA:∀ k,(A.getD k 0).natAbs<=h) (bB:gB B<=h) {N D:Nat} (hN:b*(2*(a*b))+a*(2*(a*b)-b)=N) (hD:N*(h*(2*(N*h))^(2*(a+b-1)))<=D) {R d:Rat} (hR:1<=R) (dp:0<d)
 (hs:∀ e:Rat,0<e->∃ q r,Fe q<=R/\Fe r<=R/\d<=Fe (q-r)/\Fe (q-r)*(4*(D:Rat))<=1/\Fe (U4 A q)<e/\Fe (U4 B r)<e):False:=by
 have hab:0<a*b:=J3 ha hb;have hbab:b<=a*b:=by
  have:=Q0 b (show 1<=a from ha); omega
 obtain ⟨w,⟨j,hj,hw0⟩,hw,hC⟩:=Quz hA hB lA lB ha hb h0 bA bB (J:=2*(a*b)) (J':=2*(a*b)-b) rfl (by omega) hN.symm rfl;obtain ⟨C,hC0,hC⟩:=hC (2*R) (by grind);have hw':∀ j,Fe (w j:Rat)<=(D:Rat):=λj=>by
  have h1:=Qc (hw j) hD;have h2:w j<=(D:Int):=by omega
  have h3:-(D:Int)<=w j:=by omega
  have h2:=Jc.2 h2;have h3:=Jc.2 h3;rw [Vn] at h3;rw [P6]; exact ⟨h3,h2⟩
 have hD1:(1:Rat)<=(D:Rat):=by
  have:=KG hw0;exact Zk this (hw' j)
 have hdJ:0<d^(2*(a*b)) / 2:=E5 (Rat.pow_pos dp) (by decide);obtain ⟨e,ep,_,he⟩:=Hb (b:=C*2) (d:=d^(2*(a*b)) / 2) (by grind) hdJ;obtain ⟨q,r,q1,r1,d1,d2,aq,br⟩:=hs e ep;have h1:=hC (q-r) q (by
  have:=Tw q (-r); rw [Ed] at this; have:q-r=q+-r:=by grind
  grind) (by grind)
 rw [show q-(q-r)=r by grind] at h1;have h2:=mL (x:=q-r) hD1 (by grind) d2 hw' (2*(a*b)) 0 ⟨j,hj,by rw [Z0]; exact hw0⟩;simp only [Z0] at h2;have h3:C*(Fe (U4 A q)+Fe (U4 B r))<=C*(e+e):=Zu (by grind) hC0;have h4:d^(2*(a*b))<=Fe (q-r)^(2*(a*b)):=by
  generalize 2*(a*b)=J
  induction J with
  | zero=>rw [Xe,Xe]; exact Qp
  |
   succ J ih =>
   rw [Z7,Z7];exact B9 (Qt (Rat.pow_pos dp)) ih (Qt dp) d1
 have h5:d^(2*(a*b)) / 2*2=d^(2*(a*b)):=G8 (by decide);have h6:Fe (q-r)^(2*(a*b)) / 2*2=Fe (q-r)^(2*(a*b)):=G8 (by decide);clear hC hs hw hw';grind
def HD (p:Un) (n:Nat):Prop:=p.getD n 0≠0/\∀ k,n<k->p.getD k 0=0
theorem Ra:∀ (p q:Un) (k:Nat),(Tx p q).getD k 0=p.getD k 0+q.getD k 0
 | [],q,k=>by simp only [Tx,Ks]; grind
 | a::p,[],k=>by simp only [Tx,Ks]; grind
 | a::p,b::q,0=>by simp only [Tx,Zs]
 | a::p,b::q,k+1=>by simp only [Tx,Q4]; exact Ra p q k
theorem Tv (c:Rat):∀ (p:Un) (k:Nat),(Dm c p).getD k 0=c*p.getD k 0
 | [],k=>by simp only [Dm,X7,Ks]; grind
 | a::p,0=>by simp [Dm]
 | a::p,k+1=>by have:=Tv c p k; simp only [Dm,Z1,Q4] at *; exact this
theorem Qgr {p:Un} {k:Nat} (h:∀ x∈p,x=0):p.getD k 0=0:=by
 rw [Qi];cases e:p[k]? with
 | none=>rfl
 | some x=>exact h x (Qa e)
theorem Df {p q:Un} (h:∀ t,ev p t=ev q t) (k:Nat):p.getD k 0=q.getD k 0:=by
 have h1:=Qgr (k:=k) (WY (p:=Tx p (Dm (-1) q)) λt _ _=>by rw [Gt,Gk,h t]; grind);rw [Ra,Tv] at h1; grind
theorem Du:∀ {p:Un},(∀ k,p.getD k 0=0)->∀ t,ev p t=0
 | [],_,t=>rfl
 |
  a::p,h,t=>by
  have h0:=h 0;have h1:=Du (p:=p) (λk=>by have:=h (k+1); rwa [Q4] at this) t;rw [Zs] at h0;simp only [ev,h0,h1]; grind
theorem CW:∀ (p:Un),(∀ t,ev p t=0)\/∃ n,n<p.length/\HD p n
 | []=>.inl λ_=>rfl
 |
  a::p=>by
  rcases CW p with h | ⟨n,hn,h1,h2⟩
  ·rcases Classical.em (a=0) with e | e
   ·exact .inl λt=>by simp only [ev,e,h t]; grind
   ·refine .inr ⟨0,by simp,by simpa using e,λk hk=>?_⟩;obtain ⟨m,rfl⟩:∃ m,k=m+1:=⟨k-1,by omega⟩;rw [Q4];exact (Df (p:=p) (q:=[]) h m).trans (by simp)
  ·refine .inr ⟨n+1,by simp; omega,by rw [Q4]; exact h1,λk hk=>?_⟩;obtain ⟨m,rfl⟩:∃ m,k=m+1:=⟨k-1,by omega⟩;rw [Q4]; exact h2 m (by omega)
theorem Qq0 {p q:Un} {n:Nat} (h:∀ t,ev p t=ev q t) (hp:HD p n):HD q n :=
 ⟨by rw [<-Df h]; exact hp.1,λk hk=>by rw [<-Df h]; exact hp.2 k hk⟩
theorem Qq1 {p:Un} {n m:Nat} (h:HD p n) (h':HD p m):n=m:=by
 rcases Km n m with e | e | e
 ·exact absurd (h.2 m e) h'.1
 ·exact e
 ·exact absurd (h'.2 n e) h.1
theorem lO {p:Un} {n:Nat} (h:HD p n):¬∀ t,ev p t=0:=λh0=>h.1 ((Df (p:=p) (q:=[]) h0 n).trans (by simp))
theorem TB {p q:Un} (h:∀ k,p.getD k 0=0) (k:Nat):(Gw p q).getD k 0=0:=by
 have:=Df (p:=Gw p q) (q:=[]) (λt=>by rw [Fb,Du h t]; simp only [ev]; grind) k;rw [this]; simp
theorem CU:∀ {p q:Un} {m n:Nat},HD p m->HD q n->HD (Gw p q) (m+n)
 | [],q,m,n,h,_=>absurd (by simp) h.1
 |
  a::p,q,0,n,h,h'=>by
  have h1:∀ k,p.getD k 0=0:=λk=>by have:=h.2 (k+1) (by omega); rwa [Q4] at this
  have h2:∀ k,(Gw (a::p) q).getD k 0=a*q.getD k 0:=λk=>by
   simp only [Gw];rw [Ra,Tv];cases k with
   | zero=>rw [Zs]; grind
   | succ k=>rw [Q4,TB h1]; grind
  have h3:=h.1;rw [Zs] at h3;refine ⟨?_,λk hk=>?_⟩
  ·rw [h2,Z0]; exact λh=>(Y0.1 h).elim h3 h'.1
  ·rw [h2,h'.2 k (by omega)]; grind
 |
  a::p,q,m+1,n,h,h'=>by
  have ih:=CU (p:=p) (q:=q) (m:=m) ⟨by have:=h.1; rwa [Q4] at this,λk hk=>by have:=h.2 (k+1) (by omega); rwa [Q4] at this⟩ h';refine ⟨?_,λk hk=>?_⟩
  ·simp only [Gw];rw [Ra,Tv,show m+1+n=(m+n)+1 by omega,Q4,h'.2 _ (by omega)];have:=ih.1; grind
  ·obtain ⟨j,rfl⟩:∃ j,k=j+1:=⟨k-1,by omega⟩;simp only [Gw];rw [Ra,Tv,Q4,h'.2 _ (by omega),ih.2 j (by omega)]; grind
def ZH (g f:Un):Prop:=∃ u,∀ t,ev f t=ev g t*ev u t
theorem dvd_refl (f:Un):ZH f f:=⟨[1],λt=>by rw [Rt]; grind⟩
theorem dvd_trans {f g h:Un}:ZH f g->ZH g h->ZH f h
 | ⟨u,hu⟩,⟨v,hv⟩=>⟨Gw u v,λt=>by rw [hv,hu,Fb]; grind⟩
theorem fF {p q:Un} (h:∀ t,ev p t*ev q t=0) (hp:¬∀ t,ev p t=0):∀ t,ev q t=0:=by
 rcases CW p with h1 | ⟨m,_,h1⟩
 ·exact absurd h1 hp
 ·rcases CW q with h2 | ⟨n,_,h2⟩
  ·exact h2
  ·exact absurd (λt=>by rw [Fb]; exact h t) (lO (CU h1 h2))
theorem pU {p q r:Un} (hp:¬∀ t,ev p t=0) (h:∀ t,ev p t*ev q t=ev p t*ev r t) (t:Rat):ev q t=ev r t:=by
 have:=fF (p:=p) (q:=Tx q (Dm (-1) r)) (λt=>by rw [Gt,Gk]; have:=h t; grind) hp t;rw [Gt,Gk] at this; grind
theorem Qfr {b:Un} {n:Nat} (hb:HD b n):∀ (l:Nat) (a:Un),(∀ k,l<=k->a.getD k 0=0)->∃ q r,(∀ t,ev a t=ev q t*ev b t+ev r t)/\∀ k,n<=k->r.getD k 0=0
 | 0,a,ha=>⟨[],a,λt=>by simp only [ev]; grind,λk _=>ha k (Qh _)⟩
 |
  l+1,a,ha=>by
  rcases Zb l n with h | h
  ·exact ⟨[],a,λt=>by simp only [ev]; grind,λk hk=>ha k (by omega)⟩
  ·-- the leading term is taken away
   obtain ⟨c,hc⟩:=nmE (a.getD l 0 / b.getD n 0);have hcb:c*b.getD n 0=a.getD l 0:=by rw [hc]; exact Zi hb.1
   obtain ⟨m,hm⟩:∃ m:Un,m=List.replicate (l-n) 0++[c]:=⟨_,rfl⟩;have hsh:∀ (i:Nat) (k:Nat),(Gw (List.replicate i 0++[c]) b).getD k 0=if i<=k then c*b.getD (k-i) 0 else 0:=λi=>by
    induction i with
    | zero=>intro k; simp only [Wi,Yg,Gw]; rw [Ra,Tv]; cases k <;> simp <;> grind
    |
     succ i ih =>
     intro k;simp only [J1,Xa,Gw];rw [Ra,Tv];cases k with
     | zero=>rw [Zs,if_neg (by omega)]; grind
     |
      succ k =>
      rw [Q4,ih k];by_cases h:i<=k
      ·rw [if_pos h,if_pos (by omega),Nat.add_sub_add_right]; grind
      ·rw [if_neg h,if_neg (by omega)]; grind
   obtain ⟨q,r,h1,h2⟩:=Qfr hb l (Tx a (Dm (-1) (Gw m b))) λk hk=>by
    rw [Ra,Tv,hm,hsh,if_pos (by omega)];rcases Vm hk with e | e
    ·rw [ha k (by omega),hb.2 _ (by omega)]; grind
    ·subst e; rw [show l-(l-n)=n by omega,hcb]; grind
   refine ⟨Tx q m,r,λt=>?_,h2⟩;have:=h1 t;rw [Gt,Gk,Fb] at this;rw [Gt]; grind
theorem mY:∀ (n:Nat) (a b:Un),(∀ k,n<=k->b.getD k 0=0)->∃ g U V,ZH g a/\ZH g b/\∀ t,ev g t=ev U t*ev a t+ev V t*ev b t
 |
  0,a,b,h=>by
  have h0:=Du λk=>h k (Qh _)
  exact ⟨a,[1],[],dvd_refl a,⟨[],λt=>by rw [h0]; simp only [ev]; grind⟩,λt=>by rw [Rt]; simp only [ev]; grind⟩
 |
  n+1,a,b,h=>by
  rcases Classical.em (b.getD n 0=0) with e | e
  ·exact mY n a b λk hk=>by
    rcases Vm hk with e' | e'
    ·exact h k (by omega)
    ·rw [<-e']; exact e
  ·obtain ⟨q,r,h1,h2⟩:=Qfr (b:=b) (n:=n) ⟨e,λk hk=>h k (by omega)⟩ a.length a λk hk=>by rw [Qi,Qw hk]; rfl
   obtain ⟨g,U,V,⟨u,hu⟩,⟨v,hv⟩,hg⟩:=mY n b r h2;refine ⟨g,V,Tx U (Dm (-1) (Gw V q)),⟨Tx (Gw q u) v,λt=>?_⟩,⟨u,hu⟩,λt=>?_⟩
   ·rw [h1,hv,Gt,Fb,hu]; grind
   ·rw [hg,Gt,Gk,Fb,h1]; grind
theorem Qgm (a b:Un):∃ g U V,ZH g a/\ZH g b/\∀ t,ev g t=ev U t*ev a t+ev V t*ev b t :=
 mY b.length a b λk hk=>by rw [Qi,Qw hk]; rfl
def Cop (a b:Un):Prop:=∃ U V,∀ t,ev U t*ev a t+ev V t*ev b t=1
theorem zI {c d e:Un} (h:Cop c d) (h1:∃ u,∀ t,ev d t*ev e t=ev c t*ev u t):ZH c e:=by
 obtain ⟨U,V,h⟩:=h;obtain ⟨u,hu⟩:=h1;refine ⟨Tx (Gw U e) (Gw V u),λt=>?_⟩;rw [Gt,Fb,Fb];have a1:=h t;have a2:=hu t;have:ev e t=(ev U t*ev c t+ev V t*ev d t)*ev e t:=by rw [a1]; grind
 rw [this];have:(ev U t*ev c t+ev V t*ev d t)*ev e t=ev U t*ev c t*ev e t+ev V t*(ev d t*ev e t):=by grind
 rw [this,a2]; grind
def LY (d:Un):Nat->Un
 | 0=>[1]
 | k+1=>Gw d (LY d k)
theorem nO (d:Un) (t:Rat):∀ k:Nat,ev d t*dv (LY d k) t=(k:Rat)*(dv d t*ev (LY d k) t)
 | 0=>by simp only [LY,dv,ev]; rw [show ((0:Nat):Rat)=0 from rfl]; grind
 |
  k+1=>by
  have ih:=nO d t k;have hn':(((k+1:Nat):Rat))=(k:Rat)+1:=by push_cast; rfl
  simp only [LY];rw [xJ,Fb,hn']; grind
theorem Qiq {d:Un} {m:Nat} (h:HD d m):∀ k,HD (LY d k) (k*m)
 | 0=>by rw [Yi]; exact ⟨by simp [LY],λk hk=>by simp only [LY]; rw [Qi,Qw (by simp; omega)]; rfl⟩
 | k+1=>by rw [Z9,Js (k*m) m]; exact CU h (Qiq h k)
theorem qQ {d g:Un} {m n:Nat} (hd:HD d m) (hg:HD g n) (h:∀ k,ZH (LY d k) g):m=0:=by
 obtain ⟨u,hu⟩:=h (n+1);rcases CW u with h1 | ⟨j,_,h1⟩
 ·exact absurd (λt=>by rw [hu,h1]; grind) (lO hg)
 ·have:=Qq1 (Qq0 (λt=>by rw [hu,Fb]) hg) (CU (Qiq hd (n+1)) h1);rcases Q3 m with e | e
  ·exact e
  ·have:(n+1)*1<=(n+1)*m:=Zt _ e;omega
theorem sqf {a g q d U V:Un} {k:Rat} (hk:k≠0) (ha:∀ t,ev a t=ev g t*ev q t) (hg:∀ t,k*ev g t=ev U t*ev a t+ev V t*dv a t) (h1:ZH d q) (h2:ZH d (Nu q)):∀ n,ZH (LY d n) g
 | 0=>⟨g,λt=>by simp only [LY]; rw [Rt]; grind⟩
 |
  n+1=>by
  obtain ⟨g1,e1⟩:=sqf hk ha hg h1 h2 n;obtain ⟨q1,e2⟩:=h1;obtain ⟨q2,e3⟩:=h2;have d1:=λt=>QK ha t
  have d2:=λt=>QK e1 t
  have d3:=λt=>QK e2 t
  have d4:=nO d;refine ⟨Dm (1 / k) (Tx (Gw U (Gw g1 q1)) (Gw V (Tx (Gw g1 q2) (Tx (Dm n (Gw g1 (Tx q2 (Dm (-1) (Nu q1))))) (Gw (Nu g1) q1))))),λt=>?_⟩;have hkk:1 / k*k=1:=Zi hk;simp only [LY,Gk,Gt,Fb,Te];have b1:=ha t; have b2:=hg t; have b3:=e1 t; have b4:=e2 t; have b5:=e3 t;have b6:=d1 t; have b7:=d2 t; have b8:=d3 t; have b9:=d4 t n;rw [Te] at b5;generalize ev d t=x0 at *;generalize ev (LY d n) t=x1 at *;generalize ev g t=x2 at *;generalize ev q t=x3 at *;generalize ev a t=x4 at *;generalize dv a t=x5 at *;generalize dv g t=x6 at *;generalize dv q t=x7 at *;generalize ev g1 t=x8 at *;generalize dv g1 t=x9 at *;generalize ev q1 t=y0 at *;generalize dv q1 t=y1 at *;generalize ev q2 t=y2 at *;generalize dv d t=y3 at *;generalize dv (LY d n) t=y4 at *;generalize ev U t=y5 at *;generalize ev V t=y6 at *;generalize (n:Rat)=y7 at *;have:x2=1 / k*(k*x2):=by grind
  rw [this,b2];have c1:x5=x0*x1*(x8*y2+(y7*(x8*(y2+-1*y1))+x9*y0)):=by
   rw [b6,b7,b4,b3];have:y3*y0=x0*y2-x0*y1:=by grind
   have:x0*y4*(x8*y0)=y7*(x1*x8*(x0*y2-x0*y1)):=by rw [b9,<-this]; grind
   grind
  have c2:x4=x0*x1*(x8*y0):=by rw [b1,b3,b4]; grind
  rw [c1,c2]; grind
theorem Qmw {a b c:Un} (h1:Cop a b) (h2:Cop a c) {d:Un} (hd:∀ t,ev d t=ev b t*ev c t):Cop a d:=by
 obtain ⟨U,V,h1⟩:=h1;obtain ⟨X,Y,h2⟩:=h2;refine ⟨Tx U (Gw (Gw V b) X),Gw V Y,λt=>?_⟩;have a1:=h1 t;have a2:=h2 t;simp only [Gt,Fb,hd];have:ev V t*ev b t*(ev X t*ev a t+ev Y t*ev c t)=ev V t*ev b t:=by rw [a2]; grind
 grind
theorem Qpf {a g q z r X Y:Un} {n:Nat} (ha:∀ t,ev a t=ev g t*ev q t) (hz:∀ t,dv a t=ev g t*ev z t) (hg:HD g n) (hr:∀ t,ev X t*ev r t+ev Y t*dv r t=1) (h:ZH r a):ZH r q:=by
 obtain ⟨b,hb⟩:=h;obtain ⟨e,U,V,⟨r1,e1⟩,⟨q3,e2⟩,e3⟩:=Qgm r q;have hr0:¬∀ t,ev r t=0:=λh=>by
  have h1:=hr 0;have h2:dv r 0=0:=by have:=Qfw (p:=r) (q:=[]) h 0; rw [this]; rfl
  rw [h,h2] at h1; grind
 have he0:¬∀ t,ev e t=0:=λh=>hr0 λt=>by rw [e1,h]; grind
 have d1:=λt=>QK e1 t
 have c1:Cop r1 q3:=⟨U,V,λt=>by
  have:=pU (p:=e) (q:=Tx (Gw U r1) (Gw V q3)) (r:=[1]) he0 (λt=>by
   rw [Gt,Fb,Fb,Rt];have a1:=e1 t; have a2:=e2 t; have a3:=e3 t;rw [a1,a2] at a3; grind) t
  rw [Gt,Fb,Fb,Rt] at this; exact this⟩
 have c2:Cop r1 e:=⟨Tx (Gw X e) (Gw Y (Nu e)),Gw Y (Nu r1),λt=>by
  have a1:=hr t; have a2:=e1 t; have a3:=d1 t;simp only [Gt,Fb,Te];rw [a2,a3] at a1; grind⟩
 have c3:Cop r1 (Nu r1):=⟨Tx (Gw X e) (Gw Y (Nu e)),Gw Y e,λt=>by
  have a1:=hr t; have a2:=e1 t; have a3:=d1 t;simp only [Gt,Fb,Te];rw [a2,a3] at a1; grind⟩
 have c4:Cop r1 q:=Qmw c2 c1 e2;have hgz:=lO hg;have hp:∀ k,ZH (LY r1 k) g:=λk=>by
  induction k with
  | zero=>exact ⟨g,λt=>by simp only [LY]; rw [Rt]; grind⟩
  |
   succ k ih =>
   obtain ⟨h,eh⟩:=ih;have hpz:¬∀ t,ev (LY r1 k) t=0:=λh0=>hgz λt=>by rw [eh,h0]; grind
   have key:ZH r1 h:=by
    cases k with
    |
     zero =>
     refine zI c4 ⟨Gw e b,λt=>?_⟩;have a1:=ha t; have a2:=hb t; have a3:=e1 t; have a4:=eh t;simp only [LY] at a4;rw [Rt] at a4;rw [Fb]; grind
    |
     succ k =>
     have hn:((k+1:Nat):Rat)≠0:=by
      have:(0:Rat)<((k+1:Nat):Rat):=by
       have h1:((0:Nat):Rat)<((k+1:Nat):Rat):=Vp.2 (by omega);simpa using h1
      grind
     have d2:=λt=>QK (f:=a) (w:=LY r1 (k+1)) (u:=Gw h q) (λt=>by rw [ha,eh,Fb]; grind) t
     have d4:=nO r1;have h3:=pU (p:=LY r1 (k+1)) (q:=Gw (Nu r1) (Gw h q)) (r:=Gw r1 (Dm (1 / ((k+1:Nat):Rat)) (Tx (Gw h z) (Dm (-1) (Nu (Gw h q)))))) hpz λt=>by
      simp only [Fb,Gk,Gt,Te];have a1:=d2 t; have a2:=d4 t (k+1); have a3:=hz t; have a4:=eh t;rw [Fb] at a1;generalize ((k+1:Nat):Rat)=c at *;have hc:1 / c*c=1:=Zi hn;generalize ev (LY r1 (k+1)) t=x0 at *;generalize dv (LY r1 (k+1)) t=x1 at *;generalize dv (Gw h q) t=x2 at *;generalize ev r1 t=x3 at *;generalize dv r1 t=x4 at *;generalize ev h t=x5 at *;generalize ev q t=x6 at *;generalize ev z t=x7 at *;generalize dv a t=x8 at *;generalize ev g t=x9 at *;generalize 1 / c=c' at *;have s1:x0*(x4*(x5*x6))=c'*(c*(x4*x0))*(x5*x6):=by
       have:c'*(c*(x4*x0))=(c'*c)*(x4*x0):=by grind
       rw [this,hc]; grind
      rw [s1,<-a2];have s2:x3*(x1*(x5*x6))=x3*(x0*(x5*x7+-1*x2)):=by
       rw [a3,a4] at a1; grind
      grind
     refine zI c4 ?_;obtain ⟨u,hu⟩:=zI (e:=Gw q h) c3 ⟨Dm (1 / ((k+1:Nat):Rat)) (Tx (Gw h z) (Dm (-1) (Nu (Gw h q)))),λt=>by
      have:=h3 t;simp only [Fb] at this ⊢;rw [<-this]; grind⟩
     exact ⟨u,λt=>by rw [<-hu,Fb]⟩
   obtain ⟨u,hu⟩:=key;exact ⟨u,λt=>by simp only [LY]; rw [Fb,eh,hu]; grind⟩
 rcases CW r1 with h1 | ⟨m,_,h1⟩
 ·exact absurd (λt=>by rw [e1,h1]; grind) hr0
 ·obtain rfl:=qQ h1 hg hp;have h2:∀ t,ev r1 t=r1.getD 0 0:=λt=>by
   cases r1 with
   | nil=>simp [ev]
   |
    cons c l =>
    have:∀ t,ev l t=0:=Du λk=>by have:=h1.2 (k+1) (by omega); rwa [Q4] at this
    simp only [ev,this,Zs]; grind
  have h3:=h1.1;refine ⟨Dm (1 / r1.getD 0 0) q3,λt=>?_⟩;rw [e2,e1,h2,Gk];have:1 / r1.getD 0 0*r1.getD 0 0=1:=Zi h3;have:ev e t*r1.getD 0 0*(1 / r1.getD 0 0*ev q3 t)=ev e t*ev q3 t*(1 / r1.getD 0 0*r1.getD 0 0):=by grind
  rw [this,Zi h3]; grind
def Od:Uo->Un
 | []=>[1]
 | w::l=>Gw w (Od l)
def Lay:Uo->Uo->Prop
 | [],[]=>True
 | [w],[f]=>∀ t,ev w t=ev f t
 | w::v::l,f::fs=>(∀ t,ev w t=ev f t*ev v t)/\Lay (v::l) fs
 | _,_=>False
def SI:Uo->Un
 | []=>[1]
 | [f]=>f
 | f::_::l=>Gw f (SI l)
theorem eD:∀ {ws fs:Uo},Lay ws fs->∃ S,∀ t,ev (Od ws) t=ev (SI fs) t*(ev S t*ev S t)
 | [],[],_=>⟨[1],λt=>by simp only [Od,SI]; rw [Rt]; grind⟩
 | [w],[f],h=>⟨[1],λt=>by simp only [Od,SI]; rw [Fb,Rt,h t]; grind⟩
 |
  [w,v],[f,f2],h=>⟨v,λt=>by
  have h1:=h.1 t;have h2:ev v t=ev f2 t:=h.2 t;simp only [Od,SI,Fb]; rw [Rt,h1]; grind⟩
 |
  w::v::x::l,f::f2::fs,h=>by
  obtain ⟨S,hS⟩:=eD h.2.2;refine ⟨Gw v S,λt=>?_⟩;have h1:=h.1 t;have h2:=hS t;have e1:ev (Od (w::v::x::l)) t=ev w t*(ev v t*ev (Od (x::l)) t):=by simp only [Od,Fb]
  rw [e1,h2,h1];have e2:ev (SI (f::f2::fs)) t=ev f t*ev (SI fs) t:=by
   cases fs with
   | nil=>cases l <;> exact False.elim h.2.2
   | cons y l=>simp only [SI,Fb]
  rw [e2,Fb]; grind
 | [w],[],h=>h.elim
 | [w],_::_::_,h=>h.elim
 | [],_::_,h=>h.elim
 | [w,v],[f],h=>h.2.elim
 | [w,v],_::_::_::_,h=>h.2.elim
 | w::v::x::l,[f],h=>h.2.elim
 | w::v::l,[],h=>h.elim
end Orq
namespace Orq
open Orr Go
theorem nG (p:Uk) (t:Rat):U4 p t=((p.getD 0 0:Int):Rat)+t*U4 p.tail t:=by
 cases p with
 | nil=>show (0:Rat)=((0:Int):Rat)+t*0; grind
 | cons a p=>rfl
theorem HU (p:Uk) (k:Nat):p.tail.getD k 0=p.getD (k+1) 0:=by
 cases p <;> simp
theorem Ca (c d:Int) (t:Rat):∀ (n:Nat) (p q r:Uk),p.length<=n->q.length<=n->r.length<=n->(∀ k,r.getD k 0=c*p.getD k 0+d*q.getD k 0)->U4 r t=(c:Rat)*U4 p t+(d:Rat)*U4 q t
 |
  0,p,q,r,hp,hq,hr,_=>by
  rw [Qj (Nat.le_zero.1 hp),Qj (Nat.le_zero.1 hq),Qj (Nat.le_zero.1 hr)];show (0:Rat)=_*0+_*0;grind
 |
  n+1,p,q,r,hp,hq,hr,h=>by
  have ih:=Ca c d t n p.tail q.tail r.tail (by rw [Wx]; omega) (by rw [Wx]; omega) (by rw [Wx]; omega) λk=>by
   rw [HU,HU,HU]; exact h (k+1)
  rw [nG p,nG q,nG r,ih,h 0]
  push_cast
  grind
theorem aL {p q:Uk} (h:∀ k,p.getD k 0=q.getD k 0) (t:Rat):U4 p t=U4 q t:=by
 have:=Ca 1 0 t (max p.length q.length) q q p (Wz ..) (Wz ..) (Nat.le_max_left ..) λk=>by rw [h k]; omega
 rw [this]
 push_cast
 grind
theorem Og (p:Uk) (t:Rat):U4 (trim p) t=U4 p t:=aL (YP p) t
theorem Nm {p:Uk} {k:Nat} (h:p.length<=k):p.getD k 0=0:=by
 rw [Qi,Qw h]; rfl
theorem OD (p q:Uk) (k:Nat):(ZU p q).getD k 0=p.getD k 0+q.getD k 0:=by
 unfold ZU;rw [Sv]
 split
 ·rfl
 ·rename_i h; rw [Nm (p:=p) (by omega),Nm (p:=q) (by omega)]; rfl
theorem Oo (p q:Uk) (k:Nat):(Mq p q).getD k 0=p.getD k 0-q.getD k 0:=by
 unfold Mq;rw [Sv]
 split
 ·rfl
 ·rename_i h; rw [Nm (p:=p) (by omega),Nm (p:=q) (by omega)]; rfl
theorem Pz (p:Uk) (c:Int) (k:Nat):(Fo p c).getD k 0=p.getD k 0*c:=by
 unfold Fo;rw [Sv]
 split
 ·rfl
 ·rename_i h; rw [Nm (p:=p) (by omega),Int.zero_mul]
theorem Qb3 (p:Uk) (k:Nat):(Me p).getD k 0=-(p.getD k 0):=by
 unfold Me;rw [Sv]
 split
 ·rfl
 ·rename_i h; rw [Nm (p:=p) (by omega)]; rfl
theorem Bb (p:Uk) (k:Nat):(Gp p).getD k 0=p.getD (k+1) 0*((k+1:Nat):Int):=by
 unfold Gp;rw [Sv]
 split
 ·rfl
 ·rename_i h; rw [Nm (p:=p) (by omega),Int.zero_mul]
theorem DG (p q:Uk) (t:Rat):U4 (ZU p q) t=U4 p t+U4 q t:=by
 have:=Ca 1 1 t (max (max p.length q.length) (ZU p q).length) p q (ZU p q) (by omega) (by omega) (by omega) λk=>by rw [OD]; omega
 rw [this]; push_cast; grind
theorem M6 (p q:Uk) (t:Rat):U4 (Mq p q) t=U4 p t-U4 q t:=by
 have:=Ca 1 (-1) t (max (max p.length q.length) (Mq p q).length) p q (Mq p q) (by omega) (by omega) (by omega) λk=>by rw [Oo]; omega
 rw [this]; push_cast; grind
theorem FQ (p:Uk) (t:Rat):U4 (Me p) t=-U4 p t:=by
 have:=Ca (-1) 0 t (max p.length (Me p).length) p p (Me p) (by omega) (by omega) (by omega) λk=>by rw [Qb3]; omega
 rw [this]; push_cast; grind
theorem Re (p:Uk) (c:Int) (t:Rat):U4 (Fo p c) t=U4 p t*(c:Rat):=by
 have:=Ca c 0 t (max p.length (Fo p c).length) p p (Fo p c) (by omega) (by omega) (by omega) λk=>by rw [Pz,K9]; omega
 rw [this]; push_cast; grind
theorem jN:∀ (l:Uk) (j:Nat) (v:Int) (t:Rat),j<l.length->U4 (l.set j v) t=U4 l t+((v:Rat)-((l.getD j 0:Int):Rat))*t^j
 | [],_,_,_,h=>by simp at h
 |
  a::l,0,v,t,_=>by
  show (v:Rat)+t*U4 l t=(a:Rat)+t*U4 l t+((v:Rat)-(a:Rat))*t^0;rw [Xe]; grind
 |
  a::l,j+1,v,t,h=>by
  have ih:=jN l j v t (by simpa using h);show (a:Rat)+t*U4 (l.set j v) t=(a:Rat)+t*U4 l t+((v:Rat)-((l.getD j 0:Int):Rat))*t^(j+1);rw [ih,Z7]; grind
theorem DT:∀ (l:Uk) (k:Nat) (t:Rat),k<l.length->U4 (l.take (k+1)) t=U4 (l.take k) t+((l.getD k 0:Int):Rat)*t^k
 | [],_,_,h=>by simp at h
 |
  a::l,0,t,_=>by
  show (a:Rat)+t*U4 (l.take 0) t=0+(a:Rat)*t^0;rw [Xe,Vv];show (a:Rat)+t*0=_;grind
 |
  a::l,k+1,t,h=>by
  have ih:=DT l k t (by simpa using h);show (a:Rat)+t*U4 (l.take (k+1)) t=(a:Rat)+t*U4 (l.take k) t+((l.getD k 0:Int):Rat)*t^(k+1);rw [ih,Z7]; grind
theorem OA (n:Nat) (t:Rat):U4 (List.replicate n 0) t=0:=by
 induction n with
 | zero=>rfl
 |
  succ n ih =>
  show ((0:Int):Rat)+t*U4 (List.replicate n 0) t=0;rw [ih]; push_cast; grind
theorem rG (t:Rat) (i:Nat):∀ k,t^(i+k)=t^i*t^k
 | 0=>by rw [Xk,Xe]; grind
 | k+1=>by rw [<-Ym,Z7,Z7,rG t i k]; grind
theorem gY (x:Int) (b:Uk) (i:Nat) (o:Uk) (t:Rat):∀ k,k<=b.length->i+k<=o.length->U4 (Oa x b i o k) t=U4 o t+(x:Rat)*t^i*U4 (b.take k) t
 |
  0,_,_=>by
  show U4 o t=U4 o t+(x:Rat)*t^i*0;grind
 |
  k+1,h1,h2=>by
  have ih:=gY x b i o t k (by omega) (by omega);simp only [Oa];rw [jN _ _ _ _ (by rw [Ob]; omega),ih,DT b k t (by omega)];have hp:t^(i+k)=t^i*t^k:=rG t i k;rw [hp]
  push_cast
  grind
theorem gJ (a b o:Uk) (t:Rat):∀ i,i<=a.length->i+b.length<=o.length+1->U4 (Ak a b o i) t=U4 o t+U4 (a.take i) t*U4 b t
 |
  0,_,_=>by
  show U4 o t=U4 o t+0*U4 b t;grind
 |
  i+1,h1,h2=>by
  have ih:=gJ a b o t i (by omega) (by omega);simp only [Ak];rw [gY _ _ _ _ _ b.length (Qm _) (by rw [Dz]; omega),ih,DT a i t (by omega),Q5];grind
theorem Fy (a b:Uk) (t:Rat):U4 (Gh a b) t=U4 a t*U4 b t:=by
 unfold Gh
 split
 ·rename_i h;rcases h with h | h
  ·rw [Qj h]; show (0:Rat)=0*_; grind
  ·rw [Qj h]; show (0:Rat)=_*0; grind
 ·rename_i h;rw [Og,gJ a b _ t a.length (Qm _) (by rw [Je]; omega),OA,Q5];grind
theorem Hy (z d:Int):(z:Rat) / (d:Rat)=Rat.divInt z d:=by
 by_cases h:d=0
 ·subst h; simp; grind
 ·rw [X3]; exact (Rat.divInt_eq_div z d ▸ by rw [X3])
theorem oV (a:Uk) (n d:Int) (hd:(d:Rat)≠0):∀ k,k<=a.length->(((Lp a n d k).2:Int):Rat)=(d:Rat)^k/\(((Lp a n d k).1:Int):Rat)*d=(d:Rat)^k*U4 (a.drop (a.length-k)) ((n:Rat) / d)
 |
  0,_=>by
  refine ⟨by rw [Xe]; rfl,?_⟩;rw [W0,Y9];show ((0:Int):Rat)*d=(d:Rat)^0*0
  push_cast; grind
 |
  k+1,hk=>by
  obtain ⟨h1,h2⟩:=oV a n d hd k (by omega);have hi:a.length-1-k<a.length:=by omega
  have e1:a.drop (a.length-(k+1))=a.getD (a.length-1-k) 0::a.drop (a.length-k):=by
   rw [show a.length-(k+1)=a.length-1-k by omega,Zv hi,show a.length-1-k+1=a.length-k by omega];congr 1;rw [Qi,Qe hi]; rfl
  refine ⟨?_,?_⟩
  ·show (((Lp a n d k).2*d:Int):Rat)=_;rw [Xm,h1,Z7]
  ·rw [e1];show (((Lp a n d k).1*n+a.getD (a.length-1-k) 0*(Lp a n d k).2:Int):Rat)*d=_*(((a.getD (a.length-1-k) 0:Int):Rat)+(n:Rat) / d*U4 (a.drop (a.length-k)) ((n:Rat) / d));rw [Kb,Xm,Xm,h1,Z7];have h3:(n:Rat) / d*d=n:=by rw [Zi hd]
   have h4:(d:Rat)^k*d*((n:Rat) / d*U4 (a.drop (a.length-k)) ((n:Rat) / d))=((n:Rat) / d*d)*((d:Rat)^k*U4 (a.drop (a.length-k)) ((n:Rat) / d)):=by grind
   have h5:(d:Rat)^k*d*(((a.getD (a.length-1-k) 0:Int):Rat)+(n:Rat) / d*U4 (a.drop (a.length-k)) ((n:Rat) / d))=(d:Rat)^k*d*((a.getD (a.length-1-k) 0:Int):Rat)+(d:Rat)^k*d*((n:Rat) / d*U4 (a.drop (a.length-k)) ((n:Rat) / d)):=by grind
   rw [h5,h4,h3,<-h2];grind
theorem iQ {d:Rat} (h:0<d):∀ k:Nat,0<d^k
 | 0=>by rw [Xe]; decide
 | k+1=>by rw [Z7]; exact Xq (iQ h k) h
theorem Ch {x y:Rat} (h:0<y):U9 (y*x)=U9 x:=by
 unfold U9;have h1:y*x<0↔x<0:=by
  constructor
  ·intro h2;rcases Vx (a:=0) (b:=x) with h3 | h3
   ·have:=Yq (Qt h) h3; grind
   ·rcases Rat.le_iff_lt_or_eq.1 h3 with h4 | h4
    ·exact h4
    ·rw [h4] at h2; grind
  ·intro h2;have:=Xq h (show 0 < -x by grind);grind
 have h2:0<y*x↔0<x:=by
  constructor
  ·intro h2;rcases Vx (a:=x) (b:=0) with h3 | h3
   ·have:=Yq (Qt h) (show 0<=-x by grind); grind
   ·rcases Rat.le_iff_lt_or_eq.1 h3 with h4 | h4
    ·exact h4
    ·rw [<-h4] at h2; grind
  ·intro h2; exact Xq h h2
 simp only [h1,h2]
theorem Qfh (z:Int):Dt z 0=U9 (z:Rat):=by
 unfold Dt U9;have h1:((z:Int):Rat)<0↔z<0:=by
  have := @Rat.intCast_lt_intCast z 0; simpa using this
 have h2:0<((z:Int):Rat)↔0<z:=by
  have := @Rat.intCast_lt_intCast 0 z; simpa using this
 simp only [h1,h2]
theorem M8 (p:Uk) (q:Rat):Hz p q=U9 (U4 p q):=by
 have hd0:(0:Rat)<((q.den:Int):Rat):=by
  have := @Rat.intCast_lt_intCast 0 (q.den:Int);rw [show ((0:Int):Rat)=0 from rfl] at this;exact this.2 (den_pos q)
 have hd:((q.den:Int):Rat)≠0:=by intro h; rw [h] at hd0; exact absurd hd0 (by decide)
 obtain ⟨_,h⟩:=oV p q.num q.den hd p.length (Qm _);rw [Kg,X5,Hy,Z4] at h;unfold Hz;rw [Qfh,<-Ch hd0,W4];show U9 ((((Lp p q.num q.den p.length).1:Int):Rat)*_)=_;rw [h,Ch (iQ hd0 _)]
def cz (p:Uk):Un:=p.map λz:Int=>(z:Rat)
theorem U5 (t:Rat):∀ p,ev (cz p) t=U4 p t
 | []=>rfl
 | a::p=>by have:=U5 t p; simp only [cz,Z1,ev,U4] at *; rw [this]
theorem Mb:∀ (p:Uk) (k:Nat),(cz p).getD k 0=((p.getD k 0:Int):Rat)
 | [],k=>by simp [cz]
 | a::p,0=>by simp [cz]
 | a::p,k+1=>by have:=Mb p k; simp only [cz,Z1,Q4] at *; exact this
theorem D8 {p q:Uk} (h:∀ t,U4 p t=U4 q t) (k:Nat):p.getD k 0=q.getD k 0:=by
 have:=Df (p:=cz p) (q:=cz q) (λt=>by rw [U5,U5,h]) k;rw [Mb,Mb] at this
 exact_mod_cast this
theorem Qpo {p q:Uk} (hp:U7 p) (hq:U7 q) (h:∀ k,p.getD k 0=q.getD k 0):p=q:=by
 have key:∀ {p q:Uk},U7 p->U7 q->(∀ k,p.getD k 0=q.getD k 0)->p.length<=q.length:=λ{p q} hp hq h=>by
  rcases Zb q.length p.length with e | e
  ·have:=Hx hp (by omega);rw [h,Qi,Qw (by omega)] at this;exact absurd rfl this
  ·exact e
 exact BB (Ka (key hp hq h) (key hq hp λk=>(h k).symm)) λj _=>h j
theorem aE {p q:Uk} (hp:U7 p) (hq:U7 q) (h:∀ t,U4 p t=U4 q t):p=q:=Qpo hp hq (D8 h)
theorem Qod {p:Uk} (hp:U7 p) (h:∀ t,U4 p t=0):p=[]:=aE hp rfl λt=>by rw [h]; rfl
theorem Dk {p:Uk} (h:p.length=0) (t:Rat):U4 p t=0:=by rw [Qj h]; rfl
theorem aD:∀ (p r:Uk) (t:Rat),(∀ k,r.getD k 0=p.getD (k+1) 0*((k+1:Nat):Int))->U4 r t=dv (cz p) t
 |
  [],r,t,h=>by
  rw [aL (q:=[]) (λk=>by rw [h]; simp) t]; rfl
 |
  a::p,r,t,h=>by
  have ih:=aD p (Gp p) t λk=>Bb p k
  have e:U4 r t=U4 p t+t*U4 (Gp p) t:=by
   have:=Ca 1 1 t (max (max p.length (0::Gp p).length) r.length) p (0::Gp p) r (by omega) (by omega) (by omega) λk=>by
    rw [h,Q4];cases k with
    | zero=>simp
    | succ k=>rw [Q4,Bb]; push_cast; grind
   rw [this]; simp only [U4]; push_cast; grind
  rw [e,ih];show _=ev (cz p) t+t*dv (cz p) t;rw [U5]
theorem Of (p:Uk) (t:Rat):U4 (Gp p) t=dv (cz p) t:=aD p _ t λk=>Bb p k
theorem TN {p:Uk} (hp:U7 p) (h:0<p.length):HD (cz p) (p.length-1):=by
 refine ⟨?_,λk hk=>?_⟩
 ·rw [Mb];have:=Hx hp h;exact λe=>this (by exact_mod_cast e)
 ·rw [Mb,Qi,Qw (by omega)]; rfl
theorem TG {p:Uk} (hp:U7 p) (h:0<p.length):¬∀ t,U4 p t=0:=λh0=>by
 rw [Qod hp h0] at h; exact absurd h (by simp)
theorem Md {a b c:Uk} (ha:U7 a) (hb:U7 b) (hc:U7 c) (h:∀ t,U4 c t=U4 a t*U4 b t) (la:0<a.length) (lb:0<b.length):c.length=a.length+b.length-1:=by
 have h1:=CU (TN ha la) (TN hb lb);have h2:HD (cz c) (a.length-1+(b.length-1)):=Qq0 (λt=>by rw [Fb,U5,U5,U5,h]) h1;have lc:0<c.length:=by
  rcases Q3 c.length with e | e
  ·exact absurd (λt=>by rw [U5]; exact Dk e t) (lO h2)
  ·exact e
 have:=Qq1 (TN hc lc) h2;omega
theorem gC:∀ (n m:Nat),m<=n->2<=m->∃ P,2<=P/\P∣m/\∀ d,2<=d->d∣P->d=P
 | 0,m,h,h2=>by omega
 |
  n+1,m,h,h2=>by
  rcases Classical.em (∃ d,2<=d/\d<m/\d∣m) with ⟨d,d1,d2,d3⟩ | h0
  ·obtain ⟨P,p1,p2,p3⟩:=gC n d (by omega) d1;exact ⟨P,p1,Nat.dvd_trans p2 d3,p3⟩
  ·refine ⟨m,h2,Nat.dvd_refl m,λd d1 d2=>?_⟩;rcases Vm (Ku (by omega) d2) with e | e
   ·exact absurd ⟨d,d1,e,d2⟩ h0
   ·exact e
theorem xK {P:Nat} (h2:2<=P) (hP:∀ d,2<=d->d∣P->d=P) {x y:Int} (h:(P:Int)∣x*y):(P:Int)∣x\/(P:Int)∣y:=by
 have h:=X1.2 h;rw [J7,Xf] at h;have hg:=Wy P x.natAbs;rcases Zb (Nat.gcd P x.natAbs) 2 with e | e
 ·right;have h1:Nat.gcd P x.natAbs=1:=by
   have:=Nat.gcd_pos_of_pos_left x.natAbs (show 0<P by omega); omega
  have:=Nat.Coprime.dvd_of_dvd_mul_left h1 h;exact X1.1 (by rwa [Xf])
 ·left;have:=hP _ e hg;have h3:=Nat.gcd_dvd_right P x.natAbs;rw [this] at h3;exact X1.1 (by rwa [Xf])
def tI (P:Int) (l:Uk):Prop:=∀ k,P∣l.getD k 0
theorem GU {P:Nat} (h2:2<=P) (hP:∀ d,2<=d->d∣P->d=P):∀ (n:Nat) (b h c:Uk),b.length+h.length<=n->(∀ t,U4 c t=U4 b t*U4 h t)->tI P c->tI P b\/tI P h
 | _,[],h,c,_,_,_=>.inl λk=>by simp
 | _,x::b,[],c,_,_,_=>.inr λk=>by simp
 | 0,x::b,y::h,c,hn,_,_=>by simp at hn
 |
  n+1,x::b,y::h,c,hn,hc,hd=>by
  simp only [Q6] at hn;by_cases hx:(P:Int)∣x
  ·-- x h is taken away
   have e:∀ t,U4 (0::Gh b (y::h)) t=U4 (Mq c (Fo (y::h) x)) t:=λt=>by
    rw [M6,Re,hc]; simp only [U4]; rw [Fy]; simp only [U4]; push_cast; grind
   have hd':tI P (Gh b (y::h)):=λk=>by
    have:=D8 e (k+1);rw [Q4,Oo,Pz] at this;rw [this];exact Int.dvd_sub (hd (k+1)) (V5 hx (Y8 _ _))
   rcases GU h2 hP n b (y::h) _ (by simp only [Q6]; omega) (λt=>Fy _ _ t) hd' with h1 | h1
   ·refine .inl λk=>?_
    cases k with
    | zero=>rw [Zs]; exact hx
    | succ k=>rw [Q4]; exact h1 k
   ·exact .inr h1
  ·have h0:(P:Int)∣y:=by
    have e:c.getD 0 0=x*y:=by
     have:=D8 (p:=c) (q:=Gh (x::b) (y::h)) (λt=>by rw [hc,Fy]) 0;have e2:=D8 (p:=Gh (x::b) (y::h)) (q:=ZU (Fo (y::h) x) (0::Gh b (y::h))) (λt=>by
      rw [DG,Re,Fy]; simp only [U4]; rw [Fy]; simp only [U4]; push_cast; grind) 0
     rw [this,e2,OD,Pz,Zs,Zs,K9]; omega
    have:=hd 0;rw [e] at this;rcases xK h2 hP this with h1 | h1
    ·exact absurd h1 hx
    ·exact h1
   have e:∀ t,U4 (0::Gh (x::b) h) t=U4 (Mq c (Fo (x::b) y)) t:=λt=>by
    rw [M6,Re,hc]; simp only [U4]; rw [Fy]; simp only [U4]; push_cast; grind
   have hd':tI P (Gh (x::b) h):=λk=>by
    have:=D8 e (k+1);rw [Q4,Oo,Pz] at this;rw [this];exact Int.dvd_sub (hd (k+1)) (V5 h0 (Y8 _ _))
   rcases GU h2 hP n (x::b) h _ (by simp only [Q6]; omega) (λt=>Fy _ _ t) hd' with h1 | h1
   ·exact absurd (by have:=h1 0; rwa [Zs] at this) hx
   ·refine .inr λk=>?_
    cases k with
    | zero=>rw [Zs]; exact h0
    | succ k=>rw [Q4]; exact h1 k
def Prm (b:Uk):Prop:=∀ d:Int,tI d b->d∣1
theorem Qgh {a b:Uk} (hb:Prm b):∀ (n:Nat) (c:Int) (h:Uk),c.natAbs<=n->c≠0->(∀ t,(c:Rat)*U4 a t=U4 b t*U4 h t)->∃ h',∀ t,U4 a t=U4 b t*U4 h' t
 | 0,c,h,hn,h0,_=>absurd (by omega) h0
 |
  n+1,c,h,hn,h0,hc=>by
  rcases Zb c.natAbs 2 with h1 | h1
  ·refine ⟨Fo h c,λt=>?_⟩;have hcc:(c:Rat)*c=1:=by
    have:c*c=1:=by
     rcases (show c=1\/c=-1 by omega) with rfl | rfl <;> rfl
    have:=congrArg (λz:Int=>(z:Rat)) this
    push_cast at this; exact this
   rw [Re];have:=hc t;have:U4 a t=(c:Rat)*((c:Rat)*U4 a t):=by
    have:(c:Rat)*((c:Rat)*U4 a t)=((c:Rat)*c)*U4 a t:=by grind
    rw [this,hcc]; grind
   rw [this,hc]; grind
  ·obtain ⟨P,p1,p2,p3⟩:=gC c.natAbs c.natAbs (Qm _) h1;obtain ⟨d,hd⟩:∃ d,c=(P:Int)*d:=Wp.2 p2;have hall:tI P (Fo a c):=λk=>by
    rw [Pz,hd]; exact V5 (Int.dvd_mul_right _ _) (Y8 _ _)
   have hP0:(P:Rat)≠0:=by
    have:((0:Nat):Rat)<(P:Rat):=Vp.2 (by omega);grind
   rcases GU p1 p3 _ b h (Fo a c) (Qm _) (λt=>by rw [Re,W4,hc]) hall with e | e
   ·have:=hb P e;have:=X1.2 this;rw [Xf] at this;have:=Ku (by decide) this;exact absurd this (by show ¬P<=1; omega)
   ·refine Qgh hb n d (h.map (· / (P:Int))) ?_ (λe0=>h0 (by rw [hd,e0,Wb])) λt=>?_
    ·rw [hd,J7,Xf] at hn h1;have:2*d.natAbs<=P*d.natAbs:=Q0 _ p1;omega
    ·have e1:U4 h t=(P:Rat)*U4 (h.map (· / (P:Int))) t:=by
      have:=Ca P 0 t (max h.length (h.map (· / (P:Int))).length) (h.map (· / (P:Int))) [] h (by omega) (by simp) (by omega) λk=>by
       have:=e k;have e2:(h.map (· / (P:Int))).getD k 0=h.getD k 0 / (P:Int):=by
        rw [Qi,Qi,Zd];cases h[k]? <;> simp
       rw [e2,Wa this]; simp
      rw [this]; simp only [U4]; push_cast; grind
     have:=hc t;rw [hd,e1] at this
     push_cast at this
     have h3:(P:Rat)*((d:Rat)*U4 a t)=(P:Rat)*(U4 b t*U4 (h.map (· / (P:Int))) t):=by grind
     have h4:=Y0.1 (show (P:Rat)*((d:Rat)*U4 a t-U4 b t*U4 (h.map (· / (P:Int))) t)=0 by grind);rcases h4 with h4 | h4
     ·exact absurd h4 hP0
     ·grind
theorem AA:∀ u:Un,∃ c:Int,c≠0/\∃ h:Uk,∀ t,(c:Rat)*ev u t=U4 h t
 | []=>⟨1,by decide,[],λt=>by simp only [ev,U4]; grind⟩
 |
  a::u=>by
  obtain ⟨c,hc,h,hh⟩:=AA u;refine ⟨c*(a.den:Int),Jn hc (by have:=a.den_nz; omega),(c*a.num)::Fo h (a.den:Int),λt=>?_⟩;have e:(a.den:Rat)*a=a.num:=by
   rw [W4];have:(a.num:Rat) / (((a.den:Int)):Rat)=a:=by rw [Hy,Z4]
   have hd:(a.den:Rat)≠0:=by
    have:((0:Nat):Rat)<(a.den:Rat):=Vp.2 a.den_pos;grind
   have h2:(a.num:Rat) / (a.den:Rat)*(a.den:Rat)=a.num:=Zi hd;rw [show (a.num:Rat) / (a.den:Rat)=a from this] at h2; exact h2
  simp only [ev,U4];rw [Re,<-hh]
  push_cast
  rw [<-e];have e3:(((a.den:Int)):Rat)=(a.den:Rat):=rfl;grind
theorem Qgg {a b:Uk} (hb:Prm b) (h:ZH (cz b) (cz a)):∃ h',U7 h'/\∀ t,U4 a t=U4 b t*U4 h' t:=by
 obtain ⟨u,hu⟩:=h;obtain ⟨c,hc,h,hh⟩:=AA u;obtain ⟨h',e⟩:=Qgh hb c.natAbs c h (Qm _) hc λt=>by
  have:=hu t;rw [U5,U5] at this;rw [this,<-hh]; grind
 exact ⟨trim h',Tf _,λt=>by rw [Og,e]⟩
def sd (x0:Rat):Un->Un
 | []=>[]
 | _::p=>Tx p (Dm x0 (sd x0 p))
theorem Qf8 (x0 x:Rat):∀ p,ev (sd x0 p) x=dq p x x0
 | []=>rfl
 | a::p=>by simp only [sd,dq]; rw [Gt,Gk,Qf8 x0 x p]
theorem bM (x0:Rat):∀ (g:Un) (n:Nat),(∀ j,n<j->g.getD j 0=0)->∀ j,n<=j->(sd x0 g).getD j 0=0
 | [],n,_,j,_=>by simp [sd]
 |
  a::p,0,h,j,_=>by
  have hp:∀ j,p.getD j 0=0:=λj=>by have:=h (j+1) (by omega); rwa [Q4] at this
  simp only [sd];rw [Ra,Tv,hp,bM x0 p 0 (λj _=>hp j) j (Qh _)]; grind
 |
  a::p,n+1,h,j,hj=>by
  have hp:∀ j,n<j->p.getD j 0=0:=λj hj=>by have:=h (j+1) (by omega); rwa [Q4] at this
  simp only [sd];rw [Ra,Tv,hp j (by omega),bM x0 p n hp j (by omega)]; grind
theorem mF {K:Rat} (hK:0≤K):∀ (e:Nat) (g:Un) (pts:Uk) (M:Rat),pts.length=e+1->pts.Nodup->(∀ x∈pts,Fe (x:Rat)≤K)->(∀ k,e<k->g.getD k 0=0)->(∀ x∈pts,Fe (ev g (x:Rat))≤M)->∀ k,Fe (g.getD k 0)≤(2*K+3)^e*M
 | _,_,[],_,h,_,_,_,_=>by simp at h
 |
  0,g,x0::xs,M,_,_,_,hg,hM=>λk=>by
  have h0:=hM x0 (by simp);rw [Xe];cases k with
  |
   zero =>
   have e:ev g (x0:Rat)=g.getD 0 0:=by
    cases g with
    | nil=>rfl
    |
     cons a p =>
     have hp:=Du (p:=p) λj=>by have:=hg (j+1) (by omega); rwa [Q4] at this
     simp only [ev,hp,Zs]; grind
   rw [<-e]; grind
  |
   succ k =>
   rw [hg (k+1) (by omega),H8];have:=Hm (ev g (x0:Rat)); grind
 |
  e+1,g,x0::xs,M,hl,hn,hb,hg,hM=>λk=>by
  have hx0:=hb x0 (by simp);have hM0:=hM x0 (by simp);have hMn:0<=M:=Zk (Hm _) hM0;rw [List.nodup_cons] at hn;have ih:=mF hK e (sd x0 g) xs (2*M) (by simpa using hl) hn.2 (λx hx=>hb x (by simp [hx])) (λj hj=>bM _ g (e+1) hg j (by omega)) λx hx=>by
   have h1:=hM x (by simp [hx]);have h2:=IK (x:Rat) (x0:Rat) g;rw [<-Qf8] at h2;have hne:x-x0≠0:=λh=>hn.1 (by rw [show x0=x by omega]; exact hx)
   have h3:=KG hne;rw [Rat.intCast_sub] at h3;have h4:Fe (ev g (x:Rat)-ev g (x0:Rat))<=2*M:=by
    have:=Tw (ev g (x:Rat)) (-ev g (x0:Rat));rw [Ed,show ev g (x:Rat)+-ev g (x0:Rat)=ev g (x:Rat)-ev g (x0:Rat) by grind] at this;clear hM hb hg; grind
   rw [h2,Ia] at h4;have h5:=Ze h3 (Hm (ev (sd x0 g) x));clear hM hb hg; grind
  have e1:∀ t,ev g t=ev (Tx [ev g x0] (Tx (Dm (-x0) (sd x0 g)) (0::sd x0 g))) t:=λt=>by
   have:=IK t (x0:Rat) g;rw [<-Qf8] at this;simp only [Gt,Gk,ev];grind
  have hp1:1<=(2*K+3)^e:=(YW (R:=2*K+3) (x:=0) (by grind) (by rw [H8]; grind) e).2;have hpM:=Np (x:=(2*K+3)^e) (y:=M) (by grind) hMn;have hpM1:=Ze hp1 hMn;rw [Z7,Df e1 k,Ra,Ra,Tv];have a1:=ih k;have a2:Fe (-(x0:Rat)*(sd (x0:Rat) g).getD k 0)<=K*((2*K+3)^e*(2*M)):=G6 (by rw [Ed]; exact hx0) a1;have fin:∀ u v w:Rat,Fe u<=M->Fe v<=K*((2*K+3)^e*(2*M))->Fe w<=(2*K+3)^e*(2*M)->Fe (u+(v+w))<=(2*K+3)^e*(2*K+3)*M:=λu v w h1 h2 h3=>by
   have b1:=Tw u (v+w);have b2:=Tw v w;clear ih e1 hM hb hg a1 a2; grind
  refine fin _ _ _ ?_ a2 ?_
  ·cases k with
   | zero=>rw [Zs]; exact hM0
   | succ k=>rw [Q4,Ks,H8]; exact hMn
  ·cases k with
   | zero=>rw [Zs,H8]; clear ih e1 hM hb hg a1 a2 fin; grind
   | succ k=>rw [Q4]; exact ih k
theorem Qiz {g:Un} {e:Nat} (hg:∀ k,e<k->g.getD k 0=0) (hz:¬∀ t,ev g t=0) {pts:Uk} (hn:pts.Nodup) (hr:∀ x∈pts,ev g (x:Rat)=0):pts.length≤e:=by
 rcases Zb e pts.length with h | h
 ·exfalso;obtain ⟨K,hK,hb⟩:∃ K:Rat,0≤K/\∀ x∈pts,Fe (x:Rat)≤K:=by
   clear hn hr h
   induction pts with
   | nil=>exact ⟨0,by decide,λx hx=>by cases hx⟩
   |
    cons y pts ih =>
    obtain ⟨K,h1,h2⟩:=ih;refine ⟨K+Fe (y:Rat),by have:=Hm (y:Rat); grind,λx hx=>?_⟩;have hy:=Hm (y:Rat);rcases Ql.1 hx with rfl | hx
    ·grind
    ·have:=h2 x hx; grind
  refine hz (Du λk=>?_);have:=mF hK e g (pts.take (e+1)) 0 (by rw [Qq]; omega) (hn.sublist (List.take_sublist ..)) (λx hx=>hb x (Qo hx)) hg (λx hx=>by rw [hr x (Qo hx),H8]; exact Qp) k;have h2:=Hm (g.getD k 0);exact Qoo (by grind)
 ·exact h
def spots:Uk:=(List.range 19).map λi:Nat=>(i:Int)-9
theorem spots_nd:spots.Nodup:=by decide
theorem rB:∀ x∈spots,x.natAbs≤9:=by decide
theorem BL {α:Type} (p:α->Bool):∀ l:List α,(l.filter p).length+(l.filter λx => !p x).length=l.length
 | []=>rfl
 |
  x::l=>by
  have:=BL p l;cases h:p x <;> simp [h] <;> omega
def geo:Nat->Nat
 | 0=>0
 | n+1=>1+9*geo n
theorem lM {B:Rat}:∀ (p:Uk),(∀ z∈p,Fe (z:Rat)≤B)->uZ 9 (cz p)≤B*(geo p.length:Nat)
 | [],_=>by simp only [cz,X7,uZ,geo,Xx]; rw [show ((0:Nat):Rat)=0 from rfl]; grind
 |
  a::p,h=>by
  have h1:=lM p λz hz=>h z (Qg _ hz)
  have h2:=h a (Qy ..);simp only [cz,Z1,uZ,geo,Q6] at *
  push_cast
  clear h; grind
theorem Qgp {m n:Nat} (h:m<=n):geo m<=geo n:=by
 induction h with
 | refl=>exact Qm _
 | step h ih=>simp only [geo]; omega
def pz:Uk->Int->Int
 | [],_=>0
 | a::p,x=>a+x*pz p x
theorem KP (x:Int):∀ p,U4 p (x:Rat)=((pz p x:Int):Rat)
 | []=>rfl
 | a::p=>by simp only [U4,pz,KP x p]; push_cast; rfl
theorem T0 (z:Int):Fe (z:Rat)=((z.natAbs:Nat):Rat):=by
 unfold Fe;rcases K8 z 0 with h | h
 ·have h1:(z:Rat)<((0:Int):Rat):=Jm.2 h;rw [if_pos (by simpa using h1)];have:(z.natAbs:Int)=-z:=by omega
  have:=congrArg (λu:Int=>(u:Rat)) this
  push_cast at this
  exact this.symm
 ·have h1:((0:Int):Rat)<=(z:Rat):=Jc.2 h;have h1:(0:Rat)<=(z:Rat):=by simpa using h1
  rw [if_neg (by grind)];have:(z.natAbs:Int)=z:=by omega
  have:=congrArg (λu:Int=>(u:Rat)) this;exact this.symm
theorem ZA {p g h:Uk} {s:Nat} (hp:Bd s p) (hl:p.length<=10) (tp:U7 p) (tg:U7 g) (th:U7 h) (h0:p.length≠0) (e:∀ t,U4 p t=U4 g t*U4 h t):Bd (s+69) g:=by
 have lg:0<g.length:=by
  rcases Q3 g.length with e' | e'
  ·exact absurd (λt=>by rw [e,Dk e']; grind) (TG tp (by omega))
  ·exact e'
 have lh:0<h.length:=by
  rcases Q3 h.length with e' | e'
  ·exact absurd (λt=>by rw [e,Dk e']; grind) (TG tp (by omega))
  ·exact e'
 have hlen:=Md tg th tp e lg lh;obtain ⟨q,hq⟩:=nmE (spots.filter λx => !decide (pz p x=0));have hr:(spots.filter λx=>decide (pz p x=0)).length<=9:=by
  refine Qiz (g:=cz p) (e:=9) (λk hk=>?_) (λh=>TG tp (by omega) λt=>by rw [<-U5]; exact h t) (spots_nd.sublist List.filter_sublist) λx hx=>?_
  ·rw [Mb,Qi,Qw (by omega)]; rfl
  ·have:=(Yf.1 hx).2;rw [U5,KP,of_decide_eq_true this]; rfl
 have hc:=BL (λx=>decide (pz p x=0)) spots;rw [<-hq] at hc;have hsl:spots.length=19:=by decide
 have hB:∀ z∈p,Fe (z:Rat)≤((2^s:Nat):Rat):=λz hz=>by
  rw [T0];have:=hp z hz;rw [Tz] at this;exact Zl.2 (Yh this)
 have key:=mF (K:=9) (by decide) 9 (cz g) (q.take 10) (((2^s*435848050:Nat)):Rat) (by rw [Qq]; omega) ((spots_nd.sublist (by rw [hq]; exact List.filter_sublist)).sublist (List.take_sublist ..)) (λx hx=>by
  have hx:=Qo hx;rw [hq] at hx;have:=rB x (Yf.1 hx).1;rw [T0]
  exact_mod_cast Zl.2 this) (λk hk=>by rw [Mb,Qi,Qw (by omega)]; rfl) (λx hx=>by
  have hx:=Qo hx;rw [hq] at hx;obtain ⟨hx1,hx2⟩:=Yf.1 hx;have hne:pz p x≠0:=by simpa using hx2
  have e1:=e (x:Rat);rw [KP,KP,KP] at e1;have e2:pz p x=pz g x*pz h x:=by exact_mod_cast e1
  have hh:1<=(pz h x).natAbs:=by
   rcases Q3 (pz h x).natAbs with e' | e'
   ·exact absurd (by rw [e2,Int.natAbs_eq_zero.1 e',Wb]) hne
   ·exact e'
  have h3:(pz g x).natAbs<=(pz p x).natAbs:=by
   rw [e2,J7];exact Yp _ hh
  rw [U5,KP,T0];refine Zk (Zl.2 h3) ?_;rw [<-T0,<-KP,<-U5];refine Zk (TS (R:=9) (by
   have:=rB x hx1;rw [T0]
   exact_mod_cast Zl.2 this) _) ?_
  refine Zk (lM p hB) ?_;have:2^s*geo p.length<=2^s*435848050:=Zt _ (Qc (Qgp hl) (by decide));have:=Zl.2 this
  push_cast at this ⊢
  exact this)
 refine NX λk=>?_
 have h1:=key k;rw [Mb,T0] at h1;have e3:(2*(9:Rat)+3)^9*((2^s*435848050:Nat):Rat)=(((794280046581*(2^s*435848050)):Nat):Rat):=by
  rw [show (2*(9:Rat)+3)^9=794280046581 by grind]
  push_cast; rfl
 rw [e3] at h1;have h2:=Zl.1 h1;rw [Tz];refine Z3 h2 ?_;have:794280046581*(2^s*435848050)=2^s*(794280046581*435848050):=by
  rw [Nat.mul_left_comm]
 rw [this,Xd];exact Nat.mul_lt_mul_of_pos_left (by decide) (Z2 (by decide))
theorem wB {l:Uk} {d:Int} (h:∀ z∈l,d∣z):d∣((Ro l:Nat):Int):=by
 have key:∀ (l:Uk) (g:Nat),d.natAbs∣g->(∀ z∈l,d∣z)->d.natAbs∣l.foldl (λg z=>Nat.gcd g z.natAbs) g:=by
  intro l
  induction l with
  | nil=>exact λg h _=>h
  | cons z l ih=>exact λg hg h=>ih _ (Nat.dvd_gcd hg (X1.2 (h z (Qy ..)))) λu hu=>h u (Qg _ hu)
 have:=key l 0 (Nat.dvd_zero _) h;exact X1.1 (by rw [Xf]; exact this)
theorem UF (p:Uk) (c:Int) (k:Nat):(p.map (· / c)).getD k 0=p.getD k 0 / c:=by
 rw [Qi,Qi,Zd];cases p[k]? <;> simp
theorem KN (p:Uk) (c:Int) (k:Nat):(Cv p c).getD k 0=p.getD k 0 / c:=by
 unfold Cv; rw [YP,UF]
theorem OE {p:Uk} {c:Int} (h:∀ z∈p,c∣z) (t:Rat):U4 p t=(c:Rat)*U4 (Cv p c) t:=by
 have:=Ca c 0 t (max p.length (Cv p c).length) (Cv p c) [] p (by omega) (by simp) (by omega) λk=>by
  rw [KN];have hd:c∣p.getD k 0:=by
   rw [Qi];cases e:p[k]? with
   | none=>exact Int.dvd_zero _
   | some z=>exact h z (Qa e)
  rw [Wa hd]; simp
 rw [this]; simp only [U4]; push_cast; grind
theorem XJ {c:Int} (h:c≠0):(c:Rat)≠0:=λe=>h (by exact_mod_cast e)
theorem QT {p q:Uk} {c:Rat} (tp:U7 p) (tq:U7 q) (hc:c≠0) (h:∀ t,U4 p t=c*U4 q t):p.length=q.length:=by
 have key:∀ {p q:Uk} {c:Rat},U7 p->U7 q->c≠0->(∀ t,U4 p t=c*U4 q t)->p.length<=q.length:=λ{p q c} tp tq hc h=>by
  rcases Zb q.length p.length with e | e
  ·have h1:=Hx tp (by omega);have:=Df (p:=cz p) (q:=Dm c (cz q)) (λt=>by rw [U5,Gk,U5,h]) (p.length-1);rw [Mb,Tv,Mb,Qi (l:=q),Qw (by omega)] at this;have:((p.getD (p.length-1) 0:Int):Rat)=0:=by rw [this]; simp
   exact absurd (by exact_mod_cast this) h1
  ·exact e
 refine Ka (key tp tq hc h) (key (c:=1 / c) tq tp (λe=>?_) λt=>?_)
 ·have:=Zi (a:=1) hc; rw [e] at this; grind
 ·rw [h]; have:=Zi (a:=1) hc; grind
theorem Cd {p:Uk} (tp:U7 p) (h:p.length≠0):U7 (Fc p)/\(Fc p).length=p.length/\Prm (Fc p)/\0<Fi (Fc p)/\(∀ s,Bd s p->Bd s (Fc p))/\Hh p≠0/\∀ t,U4 p t=(Hh p:Rat)*U4 (Fc p) t:=by
 have h0:=aA tp h;have e:Fc p=Cv p (Hh p):=by unfold Fc; rw [if_neg h]
 have h1:=OE (p:=p) (c:=Hh p) FZ;have hl:=QT tp (QD p (Hh p)) (XJ h0) h1;have hcp:0<S6 p:=by
  have:=XC tp h;unfold S6 at this ⊢; omega
 rw [e];refine ⟨QD _ _,hl.symm,λd hd=>?_,?_,λs hs=>NJ hs _,h0,h1⟩
 ·have h2:∀ z∈p,d*Hh p∣z:=λz hz=>by
   obtain ⟨i,hi⟩:=Zj.1 hz;have h3:=hd i;rw [KN,Qi,hi] at h3;obtain ⟨k,hk⟩:=h3;have h4:=FZ z hz;refine ⟨k,?_⟩;have:z / Hh p*Hh p=z:=Int.ediv_mul_cancel h4;rw [<-this];rw [show z / Hh p=d*k from hk,Int.mul_right_comm]
  have h3:=wB h2;have h4:Hh p∣((Ro p:Nat):Int)/\((Ro p:Nat):Int)∣Hh p:=by
   unfold Hh S6; split
   ·exact ⟨Ua.2 (K7 _),Int.dvd_neg.2 (K7 _)⟩
   ·exact ⟨K7 _,K7 _⟩
  obtain ⟨k,hk⟩:=V5 h3 h4.2;refine ⟨k,?_⟩;have:Hh p*(d*k)=Hh p*1:=by rw [W9,<-Int.mul_assoc,K9 (Hh p) d,<-hk]
  exact (Int.eq_of_mul_eq_mul_left h0 this).symm
 ·have h2:Fi (Cv p (Hh p))=Fi p / Hh p:=by unfold Fi; rw [<-hl,KN]
  have h3:Hh p∣Fi p:=FZ _ (CM h);have h5:Fi p / Hh p*Hh p=Fi p:=Int.ediv_mul_cancel h3;rw [h2];have h6:=L9 tp h;rcases Kl (Fi p / Hh p) 0 with e1 | e1 | e1
  ·exfalso;by_cases hn:Fi p<0
   ·have:Hh p=-S6 p:=by unfold Hh; rw [if_pos hn]
    have:0<Fi p / Hh p*Hh p:=V8 e1 (by omega);omega
   ·have:Hh p=S6 p:=by unfold Hh; rw [if_neg hn]
    have:Fi p / Hh p*Hh p<0:=Int.mul_neg_of_neg_of_pos e1 (by omega);omega
  ·rw [e1] at h5; omega
  ·exact e1
theorem Qie {r:Uk} (tr:U7 r):∃ c:Rat,0<c/\∀ t,U4 r t=c*U4 (VG r) t:=by
 unfold VG;by_cases h:r.length=0
 ·rw [if_pos h]; exact ⟨1,by decide,λt=>by rw [Dk h,Dk rfl]; grind⟩
 ·rw [if_neg h];have h1:0<S6 r:=by
   have:=XC tr h;unfold S6 at this ⊢; omega
  have h2:((0:Int):Rat)<(S6 r:Rat):=Jm.2 h1;exact ⟨S6 r,by simpa using h2,OE Eo⟩
theorem XD (x:Int) (t:Rat):∀ i,U4 (mono i x) t=(x:Rat)*t^i
 | 0=>by simp only [mono,Wi,Yg,U4,Xe]; grind
 |
  i+1=>by
  have ih:=XD x t i;simp only [mono,J1,Xa,U4] at *;rw [ih,Z7]; push_cast; grind
theorem aK (x:Int) (b:Uk) (i k:Nat):(Gh (trim (mono i x)) b).getD k 0=if i<=k then x*b.getD (k-i) 0 else 0:=by
 have e:∀ t,U4 (Gh (trim (mono i x)) b) t=U4 (List.replicate i 0++b.map (x * ·)) t:=λt=>by
  rw [Fy,Og,XD];have h2:∀ i,U4 (List.replicate i 0++b.map (x * ·)) t=t^i*((x:Rat)*U4 b t):=λi=>by
   induction i with
   |
    zero =>
    simp only [Wi,Yg,Xe];have:=Ca x 0 t (max b.length (b.map (x * ·)).length) b [] (b.map (x * ·)) (by omega) (by simp) (by omega) λk=>by
     rw [Qi,Qi,Zd];cases b[k]? <;> simp
    rw [this]; simp only [U4]; push_cast; grind
   | succ i ih=>simp only [J1,Xa,U4,ih,Z7]; push_cast; grind
  rw [h2]; grind
 rw [D8 e k,Qi,List.getElem?_append,Je];by_cases h:i<=k
 ·rw [if_neg (by omega),if_pos h,Zd,Qi];cases b[k-i]? <;> simp
 ·rw [if_pos (by omega),if_neg h,Jw,if_pos (by omega)]; rfl
theorem Qha {p:Uk} {n:Nat} (tp:U7 p) (h:p.length<=n+1) (h0:p.getD n 0=0):p.length<=n:=by
 rcases Zb n p.length with e | e
 ·have:=Hx tp (by omega);rw [show p.length-1=n by omega] at this;exact absurd h0 this
 ·exact e
theorem Qpi {b r:Uk} {i:Nat} (tr:U7 r) (h:r.length<=b.length+i) (hb:b.length≠0) {x:Int} (hx:x=if r.length=b.length+i then Fi r else 0):(str b (Fi b) i x r).length<b.length+i:=by
 have hl:=xA (c:=Fi b) (x:=x) (i:=i) (b:=b) (r:=r);have:=Qha (p:=str b (Fi b) i x r) (n:=b.length+i-1) (Fq _ _) (by omega) (by
  unfold str;rw [Oo,Pz,aK,if_pos (by omega),hx,show b.length+i-1-i=b.length-1 by omega]
  split
  ·rename_i he;unfold Fi;rw [he,Int.sub_eq_zero]
  ·rw [Qi (l:=r),Qw (by omega)]; simp)
 omega
theorem Qu9 (b r:Uk) (c:Int) (i:Nat) (x:Int) (t:Rat):(c:Rat)*U4 r t=(x:Rat)*t^i*U4 b t+U4 (str b c i x r) t:=by
 unfold str;rw [M6,Re,Fy,Og,XD]; grind
theorem Qii (b:Uk) (c:Int):∀ (i:Nat) (q r:Uk),∃ X:Un,∀ t,((c^i:Int):Rat)*U4 r t=ev X t*U4 b t+U4 (hQ b c i (q,r)).2 t
 | 0,q,r=>⟨[],λt=>by simp only [hQ,ev]; rw [Int.pow_zero]; push_cast; grind⟩
 |
  i+1,q,r=>by
  obtain ⟨x,hx⟩:=nmE (if r.length=b.length+i then Fi r else 0);obtain ⟨X,hX⟩:=Qii b c i (stq c i x q) (str b c i x r);obtain ⟨m,hm⟩:∃ m:Un,∀ t,ev m t=(x:Rat)*t^i:=⟨cz (mono i x),λt=>by rw [U5,XD]⟩;refine ⟨Tx (Dm ((c^i:Int):Rat) m) X,λt=>?_⟩;rw [XI hx,Gt,Gk,hm];have h1:=hX t;have h2:=Qu9 b r c i x t;rw [Int.pow_succ]
  push_cast at h1 ⊢
  have:(c:Rat)^i*c*U4 r t=(c:Rat)^i*((c:Rat)*U4 r t):=by grind
  rw [this,h2]; grind
theorem iY {b:Uk} (hb:b.length≠0):∀ (i:Nat) (q r:Uk),U7 r->r.length<b.length+i->U7 (hQ b (Fi b) i (q,r)).2/\(hQ b (Fi b) i (q,r)).2.length<b.length
 | 0,q,r,tr,h=>⟨tr,h⟩
 |
  i+1,q,r,tr,h=>by
  rw [XI rfl];exact iY hb i _ _ (Fq _ _) (Qpi tr (by omega) hb rfl)
theorem Qih {b:Uk} {c:Int} {t:Nat} (hb:Bd t b) (hc:Fa c<=t):∀ (i u:Nat) (q r:Uk),i<=64->Bd u r->Bd (u+i*(t+8)) (hQ b c i (q,r)).2
 | 0,u,q,r,_,h=>by simpa [hQ] using h
 |
  i+1,u,q,r,hi,h=>by
  rw [XI rfl];have hx:Fa (if r.length=b.length+i then Fi r else 0)<=u:=by
   split
   ·exact Mx h
   ·rw [My]; exact Qh _
  have:=Qih hb hc i (u+t+8) (stq c i (if r.length=b.length+i then Fi r else 0) q) (str b c i (if r.length=b.length+i then Fi r else 0) r) (by omega) (sG h hb hc hx (by omega));exact Ux this (by rw [Z9]; omega)
theorem DO {c:Int} (h:c<0):∀ k:Nat,(k % 2=1->c^k<0)/\(k % 2=0->0<c^k)
 | 0=>⟨λh=>by omega,λ_=>by rw [Int.pow_zero]; decide⟩
 |
  k+1=>by
  obtain ⟨i1,i2⟩:=DO h k;rw [Int.pow_succ];exact ⟨λhk=>V7 (i2 (by omega)) h,λhk=>V8 (i1 (by omega)) h⟩
theorem MR {a b:Uk} (ta:U7 a) (tb:U7 b) (hb:b.length≠0) (hl:a.length<=60):U7 (Rq a b)/\(Rq a b).length<b.length/\(∀ s,Bd s a->Bd s b->Bd (s+(a.length+1-b.length)*(s+8)) (Rq a b)) /\
 ∃ u v:Rat,0<u/\0<v/\∃ X:Un,∀ t,u*U4 a t=ev X t*U4 b t+v*U4 (Rq a b) t:=by
 obtain ⟨k,hk⟩:=nmE (a.length+1-b.length);have h1:U7 (Pw a b)/\(Pw a b).length<b.length:=iY hb _ _ _ ta (by omega);obtain ⟨X,hX⟩:=Qii b (Fi b) k [] a;have hX:∀ t,(((Fi b)^k:Int):Rat)*U4 a t=ev X t*U4 b t+U4 (Pw a b) t:=by unfold Pw; rw [<-hk]; exact hX
 have h2:=FK (a:=a) (b:=b) (r:=Pw a b) (n:=(Pw a b).length) (s:=(Pw a b).foldl (λm z=>m+Fa z) 0) h1.1 (Qm _) (λz hz=>by
  have key:∀ (l:Uk) (m:Nat),m≤l.foldl (λm z=>m+Fa z) m/\∀ z∈l,Fa z≤l.foldl (λm z=>m+Fa z) m:=by
   intro l
   induction l with
   | nil=>exact λm=>⟨Qm _,λz hz=>by cases hz⟩
   |
    cons y l ih =>
    intro m;obtain ⟨i1,i2⟩:=ih (m+Fa y);refine ⟨by simp only [Z8]; omega,λz hz=>?_⟩;simp only [Z8];rcases Ql.1 hz with rfl | hz
    ·omega
    ·exact i2 z hz
  exact (key _ 0).2 z hz)
 have h3:=DD (r:=Be a b (Pw a b)) (n:=(Pw a b).length) h2.2.1 h2.2.2;refine ⟨h3.1,by unfold Rq; omega,λs ha hbs=>?_,?_⟩
 ·have h4:=Qih (c:=Fi b) hbs (Mx hbs) k s [] a (by omega) ha;have h5:=FK (a:=a) (b:=b) (n:=(Pw a b).length) h1.1 (Nat.le_refl _) (show Bd (s+k*(s+8)) (Pw a b) by unfold Pw; rw [<-hk]; exact h4);rw [<-hk];exact (DD h5.2.1 h5.2.2).2.2
 ·obtain ⟨v,vp,hv⟩:=Qie h2.1;have hc:=L9 tb hb;by_cases ht:k % 2=1/\Fi b<0
  ·have e1:Be a b (Pw a b)=Me (Pw a b):=by unfold Be; rw [<-hk,if_pos ht]
   have hneg:(Fi b)^k<0:=(DO ht.2 k).1 ht.1;have h5:(((Fi b)^k:Int):Rat)<((0:Int):Rat):=Jm.2 hneg;have h5:(((Fi b)^k:Int):Rat)<0:=by simpa using h5
   refine ⟨-(((Fi b)^k:Int):Rat),v,by grind,vp,Dm (-1) X,λt=>?_⟩;have h6:=hX t;have h7:=hv t;rw [e1,FQ] at h7;show _=_+v*U4 (VG (Be a b (Pw a b))) t;rw [e1,<-h7,Gk]; grind
  ·have e1:Be a b (Pw a b)=Pw a b:=by unfold Be; rw [<-hk,if_neg ht]
   have hpos:0<(Fi b)^k:=by
    rcases Kc hc with h | h
    ·exact (DO h k).2 (by omega)
    ·exact Int.pow_pos h
   have h5:((0:Int):Rat)<(((Fi b)^k:Int):Rat):=Jm.2 hpos;refine ⟨(((Fi b)^k:Int):Rat),v,by simpa using h5,vp,X,λt=>?_⟩;have h7:=hv t;show _=_+v*U4 (VG (Be a b (Pw a b))) t;rw [<-h7,e1,hX]
theorem Ey {p:Uk} (h1:p.length<=64) (h2:Bd 16777216 p):AE p=some p:=by
 unfold AE;rw [if_pos ⟨h1,Jr.2 λz hz=>Nat.ble_eq_true_of_le (h2 z hz)⟩]
theorem IJ {a b:Uk} {g:Un} {c:Rat} (hc:c≠0) (h:∀ t,U4 a t=c*U4 b t):ZH g (cz a)↔ZH g (cz b):=by
 constructor
 ·rintro ⟨u,hu⟩
  refine ⟨Dm (1 / c) u,λt=>?_⟩;have h1:=hu t;rw [U5,h] at h1;rw [U5,Gk];have h2:1 / c*c=1:=Zi hc;have:U4 b t=1 / c*(c*U4 b t):=by grind
  rw [this,h1]; grind
 ·rintro ⟨u,hu⟩
  refine ⟨Dm c u,λt=>?_⟩;have h1:=hu t;rw [U5] at h1;rw [U5,Gk,h,h1]; grind
structure Gc (g a b:List Int):Prop where
 t:U7 g
 da:ZH (cz g) (cz a)
 db:ZH (cz g) (cz b)
 c:∃ U V,∀ t,U4 g t=ev U t*U4 a t+ev V t*U4 b t
 n:g.length≠0
theorem Gc.scale {g a b g' a' b':Uk} {x y z:Rat} (h:Gc g a b) (hx:x≠0) (hy:y≠0) (hz:z≠0) (tg:U7 g') (eg:∀ t,U4 g t=x*U4 g' t) (ea:∀ t,U4 a' t=y*U4 a t) (eb:∀ t,U4 b' t=z*U4 b t):Gc g' a' b':=by
 have hx1:1 / x*x=1:=Zi hx;have hy1:1 / y*y=1:=Zi hy;have hz1:1 / z*z=1:=Zi hz;have hg:∀ c,ZH (cz g) c->ZH (cz g') c:=λc ⟨u,hu⟩=>⟨Dm x u,λt=>by rw [hu,U5,U5,eg,Gk]; grind⟩
 obtain ⟨U,V,hc⟩:=h.c;refine ⟨tg,hg _ ((IJ hy ea).2 h.da),hg _ ((IJ hz eb).2 h.db),⟨Dm (1 / x*(1 / y)) U,Dm (1 / x*(1 / z)) V,λt=>?_⟩,?_⟩
 ·have h1:=hc t;have h2:U4 g' t=1 / x*U4 g t:=by rw [eg]; grind
  rw [h2,h1,Gk,Gk,ea,eb];generalize ev U t=u at *;generalize ev V t=v at *;grind
 ·rw [<-QT h.t tg hx eg]; exact h.n
theorem Qun:∀ d:Nat,1<=d->d+2<=3^d
 | 0,h=>by omega
 | 1,_=>by decide
 | d+2,_=>by have:=Qun (d+1) (by omega); rw [Zq]; omega
theorem tW {k:Nat} {a b:Uk} (ta:U7 a) (tb:U7 b) (hb:b.length≠0) (hl:a.length<=60) (hbl:b.length<=60) (hr:Bd 16777216 (Rq a b)) (ih:∃ g,RA k b (Rq a b)=some g/\Gc g b (Rq a b)):∃ g,RA (k+1) a b=some g/\Gc g a b:=by
 obtain ⟨h1,h2,h3,u,v,up,vp,X,hX⟩:=MR ta tb hb hl;obtain ⟨g,e,hg⟩:=ih;refine ⟨g,?_,?_⟩
 ·simp only [RA];rw [if_neg hb,Ey (by omega) hr]; exact e
 ·obtain ⟨U,V,hc⟩:=hg.c;obtain ⟨y,hy⟩:=hg.da;obtain ⟨z,hz⟩:=hg.db;have hu:1 / u*u=1:=G8 up;have hv:1 / v*v=1:=G8 vp;refine ⟨hg.t,⟨Dm (1 / u) (Tx (Gw X y) (Dm v z)),λt=>?_⟩,hg.da,⟨Dm (u / v) V,Tx U (Dm (-1 / v) (Gw V X)),λt=>?_⟩,hg.n⟩
  ·have a1:=hX t; have a2:=hy t; have a3:=hz t;rw [U5,U5] at a2 a3;rw [U5,U5,Gk,Gt,Fb,Gk];have:U4 a t=1 / u*(u*U4 a t):=by grind
   rw [this,a1,a2,a3]; grind
  ·have a1:=hX t; have a2:=hc t;rw [Gk,Gt,Gk,Fb,a2];have:U4 (Rq a b) t=1 / v*(v*U4 (Rq a b) t):=by grind
   rw [this,show v*U4 (Rq a b) t=u*U4 a t-ev X t*U4 b t by grind,X3,X3,X3];grind
theorem oQ {k:Nat} {a:Uk} (ta:U7 a) (ha:a.length≠0):∃ g,RA (k+1) a []=some g/\Gc g a [] :=
 ⟨a,rfl,ta,dvd_refl _,⟨[],λt=>by simp only [cz,X7,ev]; grind⟩,⟨[1],[],λt=>by rw [Rt]; simp only [ev]; grind⟩,ha⟩
theorem RO {s:Nat}:∀ (k:Nat) (a b:Uk),U7 a->U7 b->b.length<k->b.length<a.length->a.length<=60->Bd s a->Bd s b->(s+8)*3^(a.length-1)<=16777216->∃ g,RA k a b=some g/\Gc g a b
 | 0,_,_,_,_,h,_,_,_,_,_=>by omega
 |
  k+1,a,b,ta,tb,hk,hab,hl,ba,bb,hs=>by
  by_cases hb:b.length=0
  ·rw [Qj hb]; exact oQ ta (by omega)
  ·obtain ⟨h1,h2,h3,_⟩:=MR ta tb hb hl;have h3:=h3 s ba bb;obtain ⟨m,hm⟩:=nmE (a.length-b.length);have e1:a.length+1-b.length=m+1:=by omega
   rw [e1] at h3;have e2:s+(m+1)*(s+8)+8=(m+2)*(s+8):=by
    rw [show m+2=(m+1)+1 by omega,Z9 (m+1)]; omega
   have e3:(m+2)*(s+8)*3^(b.length-1)<=(s+8)*3^(a.length-1):=by
    rw [show a.length-1=m+(b.length-1) by omega,Xd,<-Xy,Zp (s+8)];exact Q0 _ (Q0 _ (Qun m (by omega)))
   have e4:s+(m+1)*(s+8)<=16777216:=by
    have:(m+2)*(s+8)<=(m+2)*(s+8)*3^(b.length-1):=Yp _ (Z2 (by decide));omega
   refine tW ta tb hb hl (by omega) (Ux h3 e4) (RO (s:=s+(m+1)*(s+8)) k b (Rq a b) tb h1 (by omega) h2 (by omega) (Ux bb (by omega)) h3 ?_);rw [e2]; omega
def Szz (n s:Nat):Prop:=n<=10/\2*(s+8)*3^(n-1)<=16777216
theorem Qj6 {n s:Nat} (hz:Szz n s) {a b:Uk} (ta:U7 a) (tb:U7 b) (la:a.length<=n) (lb:b.length<=n) (ba:Bd s a) (bb:Bd s b) (h0:a.length≠0\/b.length≠0):∃ g,RA 66 a b=some g/\Gc g a b:=by
 obtain ⟨hn,hz⟩:=hz;have hp:∀ l,l<=n->(s+8)*3^(l-1)<=8388608:=λl hl=>by
  have:(s+8)*3^(l-1)<=(s+8)*3^(n-1):=Zt _ (Zr (by decide) (by omega));rw [Xy] at hz; omega
 rcases Zb b.length a.length with h | h
 ·exact RO 66 a b ta tb (by omega) h (by omega) ba bb (by have:=hp a.length la; omega)
 ·by_cases hb:b.length=0
  ·rw [Qj hb]; exact oQ ta (by omega)
  ·obtain ⟨h1,h2,h3,_⟩:=MR ta tb hb (by omega);have h3:=h3 s ba bb;have h4:(a.length+1-b.length)*(s+8)<=1*(s+8):=Q0 _ (by omega);have h5:=hp b.length lb;have h6:(s+8)*1<=(s+8)*3^(b.length-1):=Zt _ (Z2 (by decide));refine tW ta tb hb (by omega) (by omega) (Ux h3 (by omega)) (RO (s:=2*s+8) 65 b (Rq a b) tb h1 (by omega) h2 (by omega) (Ux bb (by omega)) (Ux h3 (by omega)) ?_);rw [show 2*s+8+8=2*(s+8) by omega,Xy]; omega
theorem qZ:Fc []=[]:=rfl
theorem FV {a:Uk} (ta:U7 a):U7 (Fc a)/\(Fc a).length=a.length/\(∀ s,Bd s a->Bd s (Fc a))/\∃ c:Rat,c≠0/\∀ t,U4 a t=c*U4 (Fc a) t:=by
 by_cases h:a.length=0
 ·rw [Qj h];exact ⟨rfl,rfl,λs _=>VM,1,by decide,λt=>by rw [qZ]; grind⟩
 ·obtain ⟨h1,h2,h3,h4,h5,h6,h7⟩:=Cd ta h;exact ⟨h1,h2,h5,_,XJ h6,h7⟩
theorem WJ {n s:Nat} (hz:Szz n s) {a b:Uk} (ta:U7 a) (tb:U7 b) (la:a.length<=n) (lb:b.length<=n) (ba:Bd s a) (bb:Bd s b) (h0:a.length≠0\/b.length≠0):∃ g,XO a b=some g/\Gc g a b/\Prm g/\0<Fi g:=by
 obtain ⟨a1,a2,a3,x,xn,ax⟩:=FV ta;obtain ⟨b1,b2,b3,y,yn,bx⟩:=FV tb;obtain ⟨g,e,hg⟩:=Qj6 hz a1 b1 (by omega) (by omega) (a3 s ba) (b3 s bb) (by omega);obtain ⟨g1,g2,g3,g4,g5,g6,g7⟩:=Cd hg.t hg.n;refine ⟨Fc g,?_,hg.scale (XJ g6) xn yn g1 g7 ax bx,g3,g4⟩;unfold XO; rw [e]; rfl
theorem Qcl {a:Uk} (ta:U7 a):XO [] a=some (Fc (Fc a)):=by
 unfold XO;rw [qZ];by_cases h:(Fc a).length=0
 ·have e:Fc a=[]:=Qj h;rw [e]; rfl
 ·have e:Rq [] (Fc a)=[]:=by
   have e1:Pw [] (Fc a)=[]:=by unfold Pw; rw [show ([]:Uk).length+1-(Fc a).length=0 by simp; omega]; rfl
   unfold Rq;rw [e1];unfold Be
   split <;> rfl
  have:RA 66 [] (Fc a)=some (Fc a):=by
   show (if (Fc a).length=0 then _ else _)=_;rw [if_neg h,e]; rfl
  rw [this]; rfl
theorem Qgn {n s:Nat} (hz:Szz n s) {a b:Uk} (ta:U7 a) (tb:U7 b) (la:a.length<=n) (lb:b.length<=n) (ba:Bd s a) (bb:Bd s b) (h0:a.length≠0):∃ g,jD a b=some g/\Gc g a b/\Prm g/\0<Fi g:=by
 obtain ⟨a1,a2,a3,x,xn,ax⟩:=FV ta;obtain ⟨b1,b2,b3,y,yn,bx⟩:=FV a1;obtain ⟨g,e,hg,h1,h2⟩:=WJ hz b1 tb (by omega) lb (b3 s (a3 s ba)) bb (by omega);refine ⟨g,?_,hg.scale (x:=1) (y:=x*y) (z:=1) (by decide) (λh=>(Y0.1 h).elim xn yn) (by decide) hg.t (λt=>by grind) (λt=>by rw [ax,bx]; grind) (λt=>by grind),h1,h2⟩;unfold jD;rw [Qcl ta]; exact e
theorem iE:∀ {p q:Un} {m n:Nat},HD p m->HD q n->(Gw p q).getD (m+n) 0=p.getD m 0*q.getD n 0
 | [],q,m,n,h,_=>absurd (by simp) h.1
 |
  a::p,q,0,n,h,h'=>by
  have h1:∀ k,p.getD k 0=0:=λk=>by have:=h.2 (k+1) (by omega); rwa [Q4] at this
  simp only [Gw];rw [Ra,Tv,Zs,Z0];cases n with
  | zero=>rw [Zs]; grind
  | succ n=>rw [Q4,TB h1]; grind
 |
  a::p,q,m+1,n,h,h'=>by
  have ih:=iE (p:=p) (q:=q) (m:=m) ⟨by have:=h.1; rwa [Q4] at this,λk hk=>by have:=h.2 (k+1) (by omega); rwa [Q4] at this⟩ h';simp only [Gw];rw [Ra,Tv,show m+1+n=(m+n)+1 by omega,Q4,h'.2 _ (by omega),ih,Q4]; grind
theorem uA {a b c:Uk} (ta:U7 a) (tb:U7 b) (tc:U7 c) (h:∀ t,U4 c t=U4 a t*U4 b t) (la:0<a.length) (lb:0<b.length):Fi c=Fi a*Fi b:=by
 have h1:=TN ta la;have h2:=TN tb lb;have h3:=iE h1 h2;have hl:=Md ta tb tc h la lb;rw [<-Df (p:=cz c) (λt=>by rw [Fb,U5,U5,U5,h]),Mb,Mb,Mb,show a.length-1+(b.length-1)=c.length-1 by omega] at h3;unfold Fi; exact_mod_cast h3
theorem Ru {a b c:Uk} (tc:U7 c) (hc:c.length≠0) (h:∀ t,U4 c t=U4 a t*U4 b t):0<a.length/\0<b.length:=by
 constructor
 ·rcases Q3 a.length with e | e
  ·exact absurd (λt=>by rw [h,Dk e]; grind) (TG tc (by omega))
  ·exact e
 ·rcases Q3 b.length with e | e
  ·exact absurd (λt=>by rw [h,Dk e]; grind) (TG tc (by omega))
  ·exact e
theorem jC {b:Uk} (tb:U7 b) (hb:b.length≠0):∀ (i:Nat) (a q h:Uk),U7 a->U7 h->(∀ t,U4 a t=U4 b t*U4 h t)->a.length<b.length+i->i<=q.length->(∀ j,j<i->q.getD j 0=0)->∃ q',jB b i a q=some q'/\q'.length=q.length/\∀ t,U4 q' t=U4 q t+U4 h t
 |
  0,a,q,h,ta,th,e,hl,_,_=>by
  have ha:a.length=0:=by
   rcases Q3 a.length with e' | e'
   ·exact e'
   ·obtain ⟨p1,p2⟩:=Ru ta (by omega) e;have:=Md tb th ta e p1 p2; omega
  refine ⟨q,by simp only [jB]; rw [if_pos ha],rfl,λt=>?_⟩;have:∀ t,U4 h t=0:=λt=>by
   have:=pU (p:=cz b) (q:=cz h) (r:=[]) (λh0=>TG tb (by omega) λt=>by rw [<-U5]; exact h0 t) (λt=>by rw [U5,U5,<-e,Dk ha]; simp only [ev]; grind) t;rwa [U5] at this
  rw [this]; grind
 |
  i+1,a,q,h,ta,th,e,hl,hq,h0=>by
  simp only [jB];by_cases hlt:a.length<b.length+i
  ·rw [if_pos hlt];exact jC tb hb i a q h ta th e hlt (by omega) λj hj=>h0 j (by omega)
  ·rw [if_neg hlt];obtain ⟨p1,p2⟩:=Ru ta (by omega) e;have hln:=Md tb th ta e p1 p2;have hld:=uA tb th ta e p1 p2;have hlb:=L9 tb hb;rw [hld,if_pos (Int.mul_emod_right _ _),Jd _ hlb];have hli:h.length=i+1:=by omega
   have e2:∀ t,U4 (Mq a (Gh (trim (mono i (Fi h))) b)) t=U4 b t*U4 (Mq h (mono i (Fi h))) t:=λt=>by
    rw [M6,M6,Fy,Og,e]; grind
   have hl2:(Mq a (Gh (trim (mono i (Fi h))) b)).length<b.length+i:=by
    have hl:=eO (i:=i) (x:=Fi h) (b:=b) (a:=a);unfold sta at hl;have:=Qha (p:=Mq a (Gh (trim (mono i (Fi h))) b)) (n:=b.length+i-1) (Fq _ _) (by omega) (by
     rw [Oo,aK,if_pos (by omega),show b.length+i-1-i=b.length-1 by omega,show b.length+i-1=a.length-1 by omega];have:Fi a=a.getD (a.length-1) 0:=rfl;rw [<-this,hld];unfold Fi;rw [K9,Int.sub_eq_zero])
    omega
   obtain ⟨q',h1,h2,h3⟩:=jC tb hb i _ (q.set i (Fi h)) (Mq h (mono i (Fi h))) (Fq _ _) (Fq _ _) e2 hl2 (by simp; omega) λj hj=>by
    rw [Qi,Yk,if_neg (by omega),<-Qi];exact h0 j (by omega)
   refine ⟨q',h1,by rw [h2,Jp],λt=>?_⟩;rw [h3,jN q i _ t (by omega),h0 i (by omega),M6,XD]
   push_cast; grind
theorem Qir {a b h:Uk} {s:Nat} (ta:U7 a) (tb:U7 b) (th:U7 h) (ha:a.length≠0) (la:a.length<=10) (ba:Bd s a) (hs:s+69<=16777216) (e:∀ t,U4 a t=U4 b t*U4 h t):XA a b=some h:=by
 obtain ⟨p1,p2⟩:=Ru ta ha e;have hln:=Md tb th ta e p1 p2;obtain ⟨q,h1,h2,h3⟩:=jC tb (by omega) (a.length+1-b.length) a (List.replicate (a.length+1-b.length) 0) h ta th e (by omega) (by simp) λj _=>B6 _ _
 have h4:trim q=h:=aE (Tf _) th λt=>by rw [Og,h3,OA]; grind
 unfold XA;rw [if_neg (by omega),h1];show AE (trim q)=_;rw [h4];exact Ey (by omega) (Ux (ZA ba la ta th tb ha λt=>by rw [e]; grind) (by omega))
structure Pr1 (p:List Int):Prop where
 t:U7 p
 m:Prm p
 l:0<Fi p
theorem Pr1.n {p:Uk} (h:Pr1 p):p.length≠0:=λe=>by
 have:=h.l;rw [Qj e] at this;exact absurd this (by decide)
theorem Pr1.one {p:Uk} (h:Pr1 p) (hl:p.length<2):p=[1]:=by
 have hn:=h.n;obtain ⟨c,rfl⟩:∃ c,p=[c]:=Kr.1 (by omega);have h1:=h.m c λk=>by cases k <;> simp
 have h2:0<c:=h.l;have:=Int.le_of_dvd (by decide) h1;rw [show c=1 by omega]
theorem Qog {p g h:Uk} (hp:Prm p) (e:∀ t,U4 p t=U4 g t*U4 h t):Prm h:=λd hd=>by
 refine hp d λk=>?_
 have:=D8 (p:=p) (q:=Gh g h) (λt=>by rw [e,Fy]) k;rw [this];have e2:∀ t,U4 (Gh g h) t=(d:Rat)*U4 (Gh g (h.map (· / d))) t:=λt=>by
  have h1:U4 h t=(d:Rat)*U4 (h.map (· / d)) t:=by
   have:=Ca d 0 t (max h.length (h.map (· / d)).length) (h.map (· / d)) [] h (by omega) (by simp) (by omega) λk=>by
    rw [UF,Wa (hd k)]; simp
   rw [this]; simp only [U4]; push_cast; grind
  rw [Fy,Fy,h1]; grind
 have:=D8 (p:=Gh g h) (q:=Fo (Gh g (h.map (· / d))) d) (λt=>by rw [e2,Re]; grind) k;rw [this,Pz]; exact Y8 _ _
theorem Qof {p g h:Uk} (hp:Pr1 p) (hg:0<Fi g) (tg:U7 g) (th:U7 h) (e:∀ t,U4 p t=U4 g t*U4 h t):Pr1 h:=by
 obtain ⟨p1,p2⟩:=Ru hp.t hp.n e;have:=uA tg th hp.t e p1 p2;refine ⟨th,Qog hp.m e,?_⟩;have hl:=hp.l;rw [this] at hl;rcases Kl (Fi h) 0 with h1 | h1 | h1
 ·have:=V7 hg h1; omega
 ·rw [h1] at hl; omega
 ·exact h1
structure Sqp (p g q:List Int):Prop where
 pp:Pr1 p
 pg:Pr1 g
 pq:Pr1 q
 e:∀ t,U4 p t=U4 g t*U4 q t
 c:∃ U V,∀ t,U4 g t=ev U t*U4 p t+ev V t*dv (cz p) t
 d:∃ z,∀ t,dv (cz p) t=U4 g t*ev z t
theorem Sqp.num {p g q:Uk} (h:Sqp p g q) {d:Un} (h1:ZH d (cz q)) (h2:ZH d (Nu (cz q))):∃ c:Rat,c≠0/\∀ t,ev d t=c:=by
 obtain ⟨U,V,hc⟩:=h.c;have hpow:=sqf (k:=1) (a:=cz p) (g:=cz g) (q:=cz q) (d:=d) (U:=U) (V:=V) (by decide) (λt=>by rw [U5,U5,U5,h.e]) (λt=>by rw [U5,U5,hc]; grind) h1 h2;rcases CW d with h3 | ⟨m,_,h3⟩
 ·obtain ⟨u,hu⟩:=h1;exact absurd (λt=>by rw [<-U5,hu,h3]; grind) (TG h.pq.t (by have:=h.pq.n; omega))
 ·obtain rfl:=qQ h3 (TN h.pg.t (by have:=h.pg.n; omega)) hpow;refine ⟨d.getD 0 0,h3.1,λt=>?_⟩;cases d with
  | nil=>exact absurd (by simp) h3.1
  |
   cons c l =>
   have:=Du (p:=l) λk=>by have:=h3.2 (k+1) (by omega); rwa [Q4] at this
   simp only [ev,this,Zs]; grind
theorem Sqp.bez {p g q:Uk} (h:Sqp p g q):∃ X Y,∀ t,ev X t*ev (cz q) t+ev Y t*dv (cz q) t=1:=by
 obtain ⟨d,U,V,h1,h2,h3⟩:=Qgm (cz q) (Nu (cz q));obtain ⟨c,hc,hd⟩:=h.num h1 h2;refine ⟨Dm (1 / c) U,Dm (1 / c) V,λt=>?_⟩;have h5:=h3 t;rw [hd,Te] at h5;have h4:1 / c*c=1:=Zi hc;rw [Gk,Gk];have:1 / c*ev U t*ev (cz q) t+1 / c*ev V t*dv (cz q) t=1 / c*(ev U t*ev (cz q) t+ev V t*dv (cz q) t):=by grind
 rw [this,<-h5,h4]
theorem Qjx {n s:Nat} (h:Szz n s):s<=8388600:=by
 have:2*(s+8)*1<=2*(s+8)*3^(n-1):=Zt _ (Z2 (by decide));have:=h.2; omega
theorem sF {s:Nat} {p:Uk} (h:Bd s p) (hl:p.length<=10):Bd (s+4) (Gp p):=zW h (t:=4) (by omega)
theorem iN {n s:Nat} (hz:Szz n (s+73)) {p:Uk} (pp:Pr1 p) (l2:2<=p.length) (lp:p.length<=n) (bp:Bd (s+69) p) {p0 h0:Uk} (b0:Bd s p0) (l0:p0.length<=10) (t0:U7 p0) (th0:U7 h0) (z0:p0.length≠0) (e0:∀ t,U4 p0 t=U4 h0 t*U4 p t) :
 ∃ g q,AE (Gp p)=some (Gp p)/\XO p (Gp p)=some g/\XA p g=some q/\Sqp p g q/\g.length<p.length:=by
 have hn:=hz.1;have hs:=Qjx hz;have bd:=sF bp (by omega);have ld:=Mz p;have td:U7 (Gp p):=Fq _ _;obtain ⟨g,e1,hg,m,l⟩:=WJ hz pp.t td lp (by omega) (Ux bp (by omega)) bd (.inl pp.n);obtain ⟨q,tq,eq⟩:=Qgg m hg.da;have hdnz:(Gp p).length≠0:=λh=>by
  have h1:=Bb p (p.length-2);rw [Qj h,show p.length-2+1=p.length-1 by omega] at h1;have h2:p.getD (p.length-1) 0≠0:=Hx pp.t (by omega);rcases Yc.1 (h1.symm.trans (by simp)) with h3 | h3
  ·exact h2 h3
  ·omega
 have pg:Pr1 g:=⟨hg.t,m,l⟩;have hql:=Qir (s:=s+69) pp.t hg.t tq pp.n (by omega) bp (by omega) eq;refine ⟨g,q,Ey (by omega) (Ux bd (by omega)),e1,hql,⟨pp,pg,Qof pp l hg.t tq eq,eq,?_,?_⟩,?_⟩
 ·obtain ⟨U,V,hc⟩:=hg.c;exact ⟨U,V,λt=>by rw [hc,Of]⟩
 ·obtain ⟨z,hz⟩:=hg.db;exact ⟨z,λt=>by rw [<-Of,<-U5,hz,U5]⟩
 ·obtain ⟨z,tz,ez⟩:=Qgg m hg.db;obtain ⟨q1,q2⟩:=Ru td hdnz ez;have:=Md hg.t tz td ez q1 q2;omega
theorem Qn5:Sqp [1] [1] [1]:=by
 have p1:Pr1 [1]:=⟨rfl,λd hd=>by have:=hd 0; rwa [Zs] at this,by decide⟩;have e1:∀ t,U4 [1] t=1:=λt=>by simp only [U4]; push_cast; grind
 exact ⟨p1,p1,p1,λt=>by rw [e1]; grind,⟨[1],[],λt=>by rw [e1,Rt]; simp only [ev]; grind⟩,⟨[],λt=>by simp only [cz,Z1,X7,dv,ev]; grind⟩⟩
structure Okp (n s:Nat) (p:List Int):Prop where
 z:Szz n (s+73)
 t:U7 p
 nz:p.length≠0
 l:p.length<=n
 b:Bd s p
theorem Okp.pr {n s:Nat} {p:Uk} (h:Okp n s p):Pr1 (Fc p)/\(Fc p).length=p.length/\Bd s (Fc p):=by
 obtain ⟨h1,h2,h3,h4,h5,_⟩:=Cd h.t h.nz;exact ⟨⟨h1,h3,h4⟩,h2,h5 s h.b⟩
theorem YR {n s:Nat} {p:Uk} (h:Okp n s p):∃ g q,Pd p=some q/\Sqp (Fc p) g q:=by
 obtain ⟨pp,hl,hb⟩:=h.pr;have hn:=h.z.1;have:=h.l;unfold Pd;by_cases h2:(Fc p).length<2
 ·rw [if_pos h2,pp.one h2]; exact ⟨[1],[1],rfl,Qn5⟩
 ·rw [if_neg h2];obtain ⟨g,q,h3,h4,h5,h6,_⟩:=iN h.z pp (by omega) (by omega) (Ux hb (by omega)) (p0:=Fc p) (h0:=[1]) hb (by omega) pp.t rfl pp.n λt=>by simp only [U4]; push_cast; grind
  exact ⟨g,q,by rw [h3]; show (XO (Fc p) (Gp (Fc p))).bind _=_; rw [h4]; exact h5,h6⟩
inductive LW:List Int->List (List Int)->Prop
 | nil:LW [1] []
 | cons {g h w:List Int} {ws:List (List Int)} (hs:Sqp g h w) (hl:LW h ws):LW g (w::ws)
theorem Qt7 {g:Uk} {ws:Ul} (h:LW g ws):∀ t,U4 g t=ev (Od (ws.map cz)) t:=by
 induction h with
 | nil=>intro t; simp only [X7,Od,U4]; rw [Rt]; push_cast; grind
 | cons hs hl ih=>intro t; simp only [Z1,Od]; rw [Fb,U5,hs.e,ih]; grind
theorem aV {g:Uk} {w v:Uk} {ws:Ul} (h:LW g (w::v::ws)):∃ f,U7 f/\∀ t,U4 w t=U4 f t*U4 v t:=by
 cases h with
 |
  @cons _ h _ _ hs hl =>
  cases hl with
  |
   @cons _ h2 _ _ hs2 hl2 =>
   obtain ⟨X,Y,hb⟩:=hs2.bez;obtain ⟨z,hz⟩:=hs.d;have hd:=Qpf (a:=cz g) (g:=cz h) (q:=cz w) (z:=z) (r:=cz v) (X:=X) (Y:=Y) (n:=h.length-1) (λt=>by rw [U5,U5,U5,hs.e]) (λt=>by rw [hz,U5]) (TN hs.pg.t (by have:=hs.pg.n; omega)) hb
    ⟨Gw (cz h2) (cz w),λt=>by rw [Fb,U5,U5,U5,U5,hs.e,hs2.e]; grind⟩
   obtain ⟨f,tf,ef⟩:=Qgg hs2.pq.m hd;exact ⟨f,tf,λt=>by rw [ef]; grind⟩
theorem fX {g w:Uk} {ws:Ul} (h:LW g (w::ws)):∀ v∈w::ws,Pr1 v/\ZH (cz v) (cz w):=by
 have key:∀ (ws:Ul) (g w:Uk),LW g (w::ws)->∀ v∈w::ws,Pr1 v/\ZH (cz v) (cz w):=by
  intro ws
  induction ws with
  |
   nil =>
   intro g w h v hv;rw [Qk.1 hv];cases h with
   | cons hs hl=>exact ⟨hs.pq,dvd_refl _⟩
  |
   cons u ws ih =>
   intro g w h v hv;have hn:=aV h;cases h with
   |
    @cons _ h _ _ hs hl =>
    rcases Ql.1 hv with rfl | hv
    ·exact ⟨hs.pq,dvd_refl _⟩
    ·obtain ⟨i1,i2⟩:=ih h u hl v hv;obtain ⟨f,_,hf⟩:=hn;exact ⟨i1,dvd_trans i2 ⟨cz f,λt=>by rw [U5,U5,U5,hf]; grind⟩⟩
 exact key ws g w h
theorem lay_ok {n s:Nat} (hz:Szz n (s+73)) {p0:Uk} (b0:Bd s p0) (l0:p0.length<=10) (t0:U7 p0) (z0:p0.length≠0):∀ (k:Nat) (g h0:Uk),Pr1 g->g.length<=k->g.length<=n->U7 h0->(∀ t,U4 p0 t=U4 h0 t*U4 g t)->∃ ws,HM k g=some ws/\LW g ws
 | 0,g,_,pg,hk,_,_,_=>absurd pg.n (by omega)
 |
  k+1,g,h0,pg,hk,hn,th0,e0=>by
  simp only [HM];by_cases h2:g.length<2
  ·rw [if_pos h2,pg.one h2]; exact ⟨[],rfl,.nil⟩
  ·rw [if_neg h2];have bg:Bd (s+69) g:=ZA b0 l0 t0 pg.t th0 z0 λt=>by rw [e0]; grind
   obtain ⟨h,w,h3,h4,h5,h6,h7⟩:=iN hz pg (by omega) hn bg b0 l0 t0 th0 z0 e0;obtain ⟨ws,i1,i2⟩:=lay_ok hz b0 l0 t0 z0 k h (Gh h0 w) h6.pg (by omega) (by omega) (Hp _ _) λt=>by rw [e0,Fy,h6.e]; grind
   refine ⟨w::ws,?_,.cons h6 i2⟩;rw [h3];show (XO g (Gp g)).bind _=_;rw [h4];show (XA g h).bind _=_;rw [h5];show (HM k h).bind _=_;rw [i1]; rfl
theorem Qf9 {s:Nat} {p0:Uk} (b0:Bd s p0) (l0:p0.length≤10) (t0:U7 p0) (z0:p0.length≠0) (hs:s+69+69≤16777216):∀ (ws:Ul) (g h0:Uk),LW g ws->U7 h0->(∀ t,U4 p0 t=U4 h0 t*U4 g t)->∃ fs,EN ws=some fs/\Lay (ws.map cz) (fs.map cz)/\∀ f∈fs,U7 f
 | [],g,_,_,_,_=>⟨[],rfl,trivial,λf hf=>by cases hf⟩
 |
  [w],g,_,hl,_,_=>by
  cases hl with
  | cons hs hl=>exact ⟨[w],rfl,λt=>rfl,λf hf=>by rw [Qk.1 hf]; exact hs.pq.t⟩
 |
  w::v::ws,g,h0,hl,th0,e0=>by
  obtain ⟨f,tf,ef⟩:=aV hl;cases hl with
  |
   @cons _ h _ _ hs1 hl =>
   have hpv:=(fX hl v (Qy ..)).1;obtain ⟨fs,i1,i2,i3⟩:=Qf9 b0 l0 t0 z0 hs (v::ws) h (Gh h0 w) hl (Hp _ _) λt=>by rw [e0,Fy,hs1.e]; grind
   have ew:∀ t,U4 p0 t=U4 w t*U4 (Gh h0 h) t:=λt=>by rw [e0,Fy,hs1.e]; grind
   have bw:Bd (s+69) w:=ZA b0 l0 t0 hs1.pq.t (Hp _ _) z0 ew;obtain ⟨p1,p2⟩:=Ru t0 z0 ew;have lw:=Md hs1.pq.t (Hp _ _) t0 ew p1 p2;have hq:=Qir (s:=s+69) hs1.pq.t hpv.t tf hs1.pq.n (by omega) bw hs λt=>by rw [ef]; grind
   refine ⟨f::fs,?_,⟨λt=>by rw [U5,U5,U5,ef],i2⟩,λx hx=>?_⟩
   ·show (XA w v).bind _=_;rw [hq];show (EN (v::ws)).bind _=_;rw [i1]; rfl
   ·rcases Ql.1 hx with rfl | hx
    ·exact tf
    ·exact i3 x hx
def M5:Ul->Uk
 | []=>[1]
 | [f]=>f
 | f::_::l=>Gh f (M5 l)
theorem fP:∀ (fs:Ul) (t:Rat),ev (SI (fs.map cz)) t=U4 (M5 fs) t
 | [],t=>by simp only [X7,SI,M5,U4]; rw [Rt]; push_cast; grind
 | [f],t=>by simp only [Z1,X7,SI,M5]; rw [U5]
 | f::g::l,t=>by simp only [Z1,SI,M5]; rw [Fb,U5,Fy,fP l]
theorem Nh (t:Rat):U4 [1] t=1:=by simp only [U4]; push_cast; grind
theorem IT:∀ {w:Uk} {ws fs:Ul},Lay ((w::ws).map cz) (fs.map cz)->(∀ f∈fs,U7 f)->(∀ v∈w::ws,U7 v)->∃ E,U7 E/\∀ t,U4 w t=U4 (M5 fs) t*U4 E t
 |
  w,[],[f],h,_,_=>⟨[1],rfl,λt=>by
  have:=h t;rw [U5,U5] at this;rw [this,Nh]; simp only [M5]; grind⟩
 |
  w,[v],[f,f2],h,_,hw=>⟨v,hw v (by simp),λt=>by
  have:=h.1 t;rw [U5,U5,U5] at this;rw [this]; simp only [M5]; rw [Fy,Nh]; grind⟩
 |
  w,v::x::l,f::f2::fs,h,hf,hw=>by
  obtain ⟨E,hE,e⟩:=IT (w:=x) (ws:=l) (fs:=fs) h.2.2 (λg hg=>hf g (by simp [hg])) (λg hg=>hw g (by simp at hg ⊢; exact .inr (.inr hg)));refine ⟨Gh f2 E,Hp _ _,λt=>?_⟩;have a1:=h.1 t;have a2:=h.2.1 t;rw [U5,U5,U5] at a1 a2;have e2:U4 (M5 (f::f2::fs)) t=U4 f t*U4 (M5 fs) t:=by simp only [M5]; rw [Fy]
  rw [a1,a2,e,e2,Fy]; grind
 | w,[],[],h,_,_=>h.elim
 | w,[],_::_::_,h,_,_=>h.elim
 | w,[v],[],h,_,_=>h.elim
 | w,[v],[f],h,_,_=>h.2.elim
 | w,[v],_::_::_::_,h,_,_=>h.2.elim
 | w,v::x::l,[f],h,_,_=>h.2.elim
 | w,v::x::l,[],h,_,_=>h.elim
theorem YV {s:Nat} {p0:Uk} (b0:Bd s p0) (l0:p0.length≤10) (t0:U7 p0) (z0:p0.length≠0) (hs:s+69≤16777216):∀ (fs:Ul) (i:Nat) (a E:Uk),i % 2=0->U7 a->U7 E->(∀ f∈fs,U7 f)->(∀ t,U4 p0 t=U4 a t*U4 (M5 fs) t*U4 E t)->∃ o,UA i a fs=some o/\U7 o/\∀ t,U4 o t=U4 a t*U4 (M5 fs) t
 | [],i,a,E,hi,ta,_,_,_=>⟨a,rfl,ta,λt=>by simp only [M5]; rw [Nh]; grind⟩
 |
  [f],i,a,E,hi,ta,tE,tf,hE=>by
  have e1:∀ t,U4 p0 t=U4 (Gh a f) t*U4 E t:=λt=>by rw [hE,Fy]; rfl
  have b1:=ZA b0 l0 t0 (Hp a f) tE z0 e1;obtain ⟨p1,p2⟩:=Ru t0 z0 e1;have hl:=Md (Hp a f) tE t0 e1 p1 p2;refine ⟨Gh a f,?_,Hp _ _,λt=>by rw [Fy]; rfl⟩;simp only [UA];rw [if_pos hi,Ey (by omega) (Ux b1 (by omega))]; rfl
 |
  f::g::fs,i,a,E,hi,ta,tE,tf,hE=>by
  have e0:∀ t,U4 (M5 (f::g::fs)) t=U4 f t*U4 (M5 fs) t:=λt=>by simp only [M5]; rw [Fy]
  have e1:∀ t,U4 p0 t=U4 (Gh a f) t*U4 (Gh (M5 fs) E) t:=λt=>by rw [hE,e0,Fy,Fy]; grind
  have b1:=ZA b0 l0 t0 (Hp a f) (Hp _ _) z0 e1;obtain ⟨p1,p2⟩:=Ru t0 z0 e1;have hl:=Md (Hp a f) (Hp _ _) t0 e1 p1 p2;obtain ⟨o,o1,o2,o3⟩:=YV b0 l0 t0 z0 hs fs (i+2) (Gh a f) E (by omega) (Hp _ _) tE (λx hx=>tf x (by simp [hx])) λt=>by rw [hE,e0,Fy]; grind
  refine ⟨o,?_,o2,λt=>by rw [o3,e0,Fy]; grind⟩;have h1:UA (i+1) (Gh a f) (g::fs)=UA (i+2) (Gh a f) fs:=by
   show (if (i+1) % 2=0 then _ else _)=_;rw [if_neg (by omega)]
  show (if i % 2=0 then (AE (Gh a f)).bind λq=>UA (i+1) q (g::fs) else _)=_;rw [if_pos hi,Ey (by omega) (Ux b1 (by omega))];exact h1.trans o1
structure Parts (p q o:List Int):Prop where
 sq:∃ g,Sqp (Fc p) g q
 ws:∃ ws:List (List Int),(∀ w∈ws,Pr1 w/\ZH (cz w) (cz q))/\∀ t,U4 (Fc p) t=ev (Od (ws.map cz)) t
 oq:ZH (cz o) (cz q)
 ot:U7 o
 oh:∃ h,U7 h/\∀ t,U4 (Fc p) t=U4 o t*U4 h t
 os:∃ S,∀ t,U4 (Fc p) t=U4 o t*(ev S t*ev S t)
theorem Qhy {n s:Nat} {p:Uk} (h:Okp n s p):∃ q o,Pd p=some q/\nR p=some o/\Parts p q o:=by
 obtain ⟨pp,hl,hb⟩:=h.pr;have hn:=h.z.1;have hpl:=h.l;have hs:=Qjx h.z;obtain ⟨g,q,hq,sq⟩:=YR h;obtain ⟨ws,w1,w2⟩:=lay_ok h.z hb (by omega) pp.t pp.n 66 (Fc p) [1] pp (by omega) (by omega) rfl λt=>by rw [Nh]; grind
 obtain ⟨fs,f1,f2,f3⟩:=Qf9 hb (by omega) pp.t pp.n (by omega) ws (Fc p) [1] w2 rfl λt=>by rw [Nh]; grind
 have hw:=Qt7 w2;have hfirst:(∀ w∈ws,Pr1 w/\ZH (cz w) (cz q))/\∃ E,U7 E/\∀ t,U4 q t=U4 (M5 fs) t*U4 E t:=by
  cases ws with
  |
   nil =>
   have e:fs=[]:=by
    cases fs with
    | nil=>rfl
    | cons f l=>exact f2.elim
   subst e;exact ⟨(λw hw=>by cases hw),q,sq.pq.t,λt=>by simp only [M5]; rw [Nh]; grind⟩
  |
   cons w ws =>
   have hwq:w=q:=by
    have w3:(if (Fc p).length<2 then some [] else (AE (Gp (Fc p))).bind λd=>(XO (Fc p) d).bind λh=>(XA (Fc p) h).bind λw=>(HM 65 h).bind λl=>some (w::l))=some (w::ws):=w1;have hlen:¬(Fc p).length<2:=λh2=>by
     rw [if_pos h2] at w3;injection w3 with w3;cases w3
    rw [if_neg hlen] at w3;unfold Pd at hq;rw [if_neg hlen] at hq;obtain ⟨d,d1,w3⟩:=Qd.1 w3;obtain ⟨h,d2,w3⟩:=Qd.1 w3;obtain ⟨w',d3,w3⟩:=Qd.1 w3;obtain ⟨l,d4,w3⟩:=Qd.1 w3;rw [d1] at hq;have hq:(XO (Fc p) d).bind (λg=>XA (Fc p) g)=some q:=hq;rw [d2] at hq;have hq:XA (Fc p) h=some q:=hq;rw [d3] at hq;injection hq with hq;injection w3 with w3;injection w3 with w3 _;rw [<-w3,hq]
   subst hwq;have hall:=fX w2;exact ⟨hall,IT f2 f3 λv hv=>(hall v hv).1.t⟩
 obtain ⟨ha,E,tE,hE⟩:=hfirst;obtain ⟨o,o1,o2,o3⟩:=YV hb (by omega) pp.t pp.n (by omega) fs 0 [1] (Gh E g) rfl rfl (Hp _ _) f3 λt=>by rw [Nh,Fy,sq.e,hE]; grind
 have o3:∀ t,U4 o t=U4 (M5 fs) t:=λt=>by rw [o3,Nh]; grind
 refine ⟨q,o,hq,?_,⟨g,sq⟩,⟨ws,ha,hw⟩,⟨cz E,λt=>by rw [U5,U5,U5,hE,o3]⟩,o2,⟨Gh E g,Hp _ _,λt=>by rw [sq.e,hE,o3,Fy]; grind⟩,?_⟩
 ·unfold nR;rw [if_neg pp.n,w1];show (EN ws).bind _=_;rw [f1]; exact o1
 ·obtain ⟨S,hS⟩:=eD f2;exact ⟨S,λt=>by rw [hw,hS,fP,o3]⟩
theorem lQ {s:Nat}:∀ (k:Nat) (a b:Uk),U7 a->U7 b->b.length≠0->b.length<k->b.length<a.length->a.length<=60->Bd s a->Bd s b->(s+8)*3^(a.length-1)<=16777216->(∀ d,ZH d (cz a)->ZH d (cz b)->∃ c:Rat,c≠0/\∀ t,ev d t=c)->∃ l,tD k a b=some (b::l)/\SCl (cz a) (cz b) (l.map cz)
 | 0,_,_,_,_,_,h,_,_,_,_,_,_=>by omega
 |
  k+1,a,b,ta,tb,hb,hk,hab,hl,ba,bb,hs,hd=>by
  obtain ⟨h1,h2,h3,u,v,up,vp,X,hX⟩:=MR ta tb hb hl;have h3:=h3 s ba bb;obtain ⟨m,hm⟩:=nmE (a.length-b.length);have e1:a.length+1-b.length=m+1:=by omega
  rw [e1] at h3;have e2:s+(m+1)*(s+8)+8=(m+2)*(s+8):=by
   rw [show m+2=(m+1)+1 by omega,Z9 (m+1)]; omega
  have e3:(m+2)*(s+8)*3^(b.length-1)<=(s+8)*3^(a.length-1):=by
   rw [show a.length-1=m+(b.length-1) by omega,Xd,<-Xy,Zp (s+8)];exact Q0 _ (Q0 _ (Qun m (by omega)))
  have e4:s+(m+1)*(s+8)<=16777216:=by
   have:(m+2)*(s+8)<=(m+2)*(s+8)*3^(b.length-1):=Yp _ (Z2 (by decide));omega
  simp only [tD];rw [if_neg hb,Ey (by omega) (Ux h3 e4)];show ∃ l,((tD k b (Me (Rq a b))).bind λl=>some (b::l))=some (b::l)/\_;have lneg:(Me (Rq a b)).length<=(Rq a b).length:=XF _;by_cases hr:(Rq a b).length=0
  ·have e:Me (Rq a b)=[]:=Qj (by omega);rw [e];refine ⟨[],?_,?_⟩
   ·obtain ⟨j,rfl⟩:∃ j,k=j+1:=⟨k-1,by omega⟩;rfl
   ·obtain ⟨c,hc,hcc⟩:=hd (cz b) ⟨Dm (1 / u) X,λt=>by
     have:=hX t;rw [Dk hr] at this;have hu:1 / u*u=1:=G8 up;rw [U5,U5,Gk];have:U4 a t=1 / u*(u*U4 a t):=by grind
     rw [this,hX,Dk hr]; grind⟩ (dvd_refl _)
    exact .base hc hcc
  ·have tn:U7 (Me (Rq a b)):=Fq _ _;have hn0:(Me (Rq a b)).length≠0:=λh0=>by
    have:=QT (c:=-1) h1 tn (by decide) λt=>by rw [FQ]; grind
    omega
   obtain ⟨l,i1,i2⟩:=lQ (s:=s+(m+1)*(s+8)) k b (Me (Rq a b)) tb tn hn0 (by omega) (by omega) (by omega) (Ux bb (by omega)) (PU h3) (by rw [e2]; omega) λd d1 d2=>by
    refine hd d ?_ d1;obtain ⟨y,hy⟩:=d1;obtain ⟨z,hz⟩:=d2;have hu:1 / u*u=1:=G8 up;refine ⟨Dm (1 / u) (Tx (Gw X y) (Dm (-v) z)),λt=>?_⟩;have a1:=hX t; have a2:=hy t; have a3:=hz t;rw [U5] at a2 a3;rw [FQ] at a3;rw [U5,Gk,Gt,Fb,Gk];have:U4 a t=1 / u*(u*U4 a t):=by grind
    rw [this,a1,a2,show U4 (Rq a b) t=-(ev d t*ev z t) by grind]; grind
   refine ⟨Me (Rq a b)::l,by rw [i1]; rfl,?_⟩;rw [Z1];exact .step (q:=X) up vp (λt=>by rw [U5,U5,U5,hX,FQ]; clear i2 i1 hd h3 hs; grind) i2
theorem WX (x:Rat):∀ (l:Ul) (n:Nat) (s:Int),(l.foldl (Ph λp=>Hz p x) (n,s)).1=n+tc x s (l.map cz)
 | [],n,s=>rfl
 |
  p::l,n,s=>by
  simp only [Z8,Z1,tc,Ph];rw [M8,U5]
  split
  ·exact WX x l n s
  ·rw [WX x l]
   split <;> omega
theorem QE (l:Ul) (x:Rat):Ck l x=vv (l.map cz) x:=by
 have:=WX x l 0 0;unfold Ck Cj vv;rw [this]; omega
theorem Qfd {n s:Nat} (hz:Szz n (s+73)) {P g q:Uk} (sq:Sqp P g q) (lq:q.length<=n) (bq:Bd (s+69) q):∃ d,AE (Gp q)=some d/\∃ l,tD 66 q (Fc d)=some l/\GW (cz q) ((q::l).map cz)/\(q.length<2->l=[]):=by
 have hn:=hz.1;have hs:=Qjx hz;have bd:=sF bq (by omega);have ld:=Mz q;refine ⟨Gp q,Ey (by omega) (Ux bd (by omega)),?_⟩;have hq0:=sq.pq.n;by_cases h2:q.length<2
 ·have e:Fc (Gp q)=[]:=by rw [Qj (l:=Gp q) (by omega)]; rfl
  rw [e];refine ⟨[],rfl,.inl ⟨1,by decide,λt=>?_,rfl⟩,λ_=>rfl⟩;rw [U5,sq.pq.one h2,Nh]
 ·have hdnz:(Gp q).length≠0:=λh=>by
   have h1:=Bb q (q.length-2);rw [Qj h,show q.length-2+1=q.length-1 by omega] at h1;have h3:q.getD (q.length-1) 0≠0:=Hx sq.pq.t (by omega);rcases Yc.1 (h1.symm.trans (by simp)) with h4 | h4
   ·exact h3 h4
   ·omega
  obtain ⟨p1,p2,p3,p4,p5,p6,p7⟩:=Cd (p:=Gp q) (Fq _ _) hdnz;have hdl:Fi (Gp q)=Fi q*((q.length-1:Nat):Int):=by
   have hld:(Gp q).length=q.length-1:=by
    rcases Zb (Gp q).length (q.length-1) with h | h
    ·have h1:=Bb q (q.length-2);rw [Qi,Qw (by omega),show q.length-2+1=q.length-1 by omega] at h1;have h3:q.getD (q.length-1) 0≠0:=Hx sq.pq.t (by omega);rcases Yc.1 (h1.symm.trans (by simp)) with h4 | h4
     ·exact absurd h4 h3
     ·omega
    ·omega
   unfold Fi;rw [hld,Bb,show q.length-1-1+1=q.length-1 by omega]
  have hfac:0<Hh (Gp q):=by
   have hlp:0<Fi (Gp q):=by rw [hdl]; exact Int.mul_pos sq.pq.l (by omega)
   have hc:=XC (p:=Gp q) (Fq _ _) hdnz;unfold Hh;rw [if_neg (by omega)];unfold S6 at hc ⊢; omega
  have hfq:((0:Int):Rat)<(Hh (Gp q):Rat):=Jm.2 hfac;have hfq:(0:Rat)<(Hh (Gp q):Rat):=by simpa using hfq
  have hff:1 / (Hh (Gp q):Rat)*(Hh (Gp q):Rat)=1:=G8 hfq;have hz2:=hz.2;have hp3:(s+73+8)*3^(q.length-1)<=16777216:=by
   have:(s+73+8)*3^(q.length-1)<=(s+73+8)*3^(n-1):=Zt _ (Zr (by decide) (by omega));rw [Xy] at hz2; omega
  obtain ⟨l,h3,h4⟩:=lQ (s:=s+73) 66 q (Fc (Gp q)) sq.pq.t p1 (by omega) (by omega) (by omega) (by omega) (Ux bq (by omega)) (p5 _ bd) hp3 λd d1 d2=>sq.num d1 (by
   obtain ⟨z,hz⟩:=d2;exact ⟨Dm (Hh (Gp q)) z,λt=>by
    have:=hz t;rw [U5] at this;rw [Te,<-Of,p7,this,Gk]; grind⟩)
  refine ⟨Fc (Gp q)::l,h3,.inr ⟨cz (Fc (Gp q)),l.map cz,1 / (Hh (Gp q):Rat),E5 (by decide) hfq,λt=>?_,h4,rfl⟩,λh=>absurd h h2⟩;rw [U5,<-Of,p7 t]; grind
theorem chain_ok {n s:Nat} {p:Uk} (h:Okp n s p):∃ q l,Pd p=some q/\Lq p=some (q::l)/\GW (cz q) ((q::l).map cz)/\(q.length<2->l=[]):=by
 obtain ⟨pp,hl,hb⟩:=h.pr;have hn:=h.z.1;have hpl:=h.l;obtain ⟨g,q,hq,sq⟩:=YR h;have e1:∀ t,U4 (Fc p) t=U4 q t*U4 g t:=λt=>by rw [sq.e]; grind
 obtain ⟨p1,p2⟩:=Ru pp.t pp.n e1;have hll:=Md sq.pq.t sq.pg.t pp.t e1 p1 p2;obtain ⟨d,d1,l,d2,d3⟩:=Qfd h.z sq (by omega) (ZA hb (by omega) pp.t sq.pq.t sq.pg.t pp.n e1);refine ⟨q,l,hq,?_,d3⟩;unfold Lq;rw [hq];show (if q.length=0 then none else _)=_;rw [if_neg sq.pq.n,d1];show (tD 66 q (Fc d)).bind _=_;rw [d2]; rfl
structure Gr (D M k:Nat) (q:Rat):Prop where
 u:∃ u:Int,q*((D*2^k:Nat):Rat)=(u:Rat)
 b:Fe q<=(M:Rat)
 d:0<D
theorem nat_pos {n:Nat} (h:0<n):(0:Rat)<(n:Rat):=by
 have:((0:Nat):Rat)<(n:Rat):=Vp.2 h;simpa using this
theorem OJ {D M k:Nat} {q:Rat} (h:Gr D M k q):Gr D M (k+1) q:=by
 obtain ⟨u,hu⟩:=h.u;refine ⟨⟨u*2,?_⟩,h.b,h.d⟩;rw [Zq,<-Xy]
 push_cast at hu ⊢
 rw [<-hu]; grind
theorem Qgv {D M k:Nat} {a b:Rat} (ha:Gr D M k a) (hb:Gr D M k b):Gr D M (k+1) ((a+b) / 2):=by
 obtain ⟨u,hu⟩:=ha.u;obtain ⟨v,hv⟩:=hb.u;have h2:(a+b) / 2*2=a+b:=G8 (by decide);refine ⟨⟨u+v,?_⟩,?_,ha.d⟩
 ·rw [Zq,<-Xy]
  push_cast at hu hv ⊢
  rw [<-hu,<-hv];generalize (a+b) / 2=c at *;generalize (D:Rat)*2^k=z at *;have:c*(z*2)=(c*2)*z:=by grind
  rw [this,h2]; grind
 ·have h3:=ha.b;have h4:=hb.b;rw [P6] at *;constructor <;> grind
theorem Qtu {D M k:Nat} {q:Rat} (h:Gr D M k q):q.den<=D*2^k:=by
 obtain ⟨u,hu⟩:=h.u;have hp:0<D*2^k:=J3 h.d (Z2 (by decide));have e:q=Rat.divInt u ((D*2^k:Nat):Int):=by
  rw [<-Hy,<-hu];have hz:=nat_pos hp;rw [show ((((D*2^k:Nat):Int)):Rat)=((D*2^k:Nat):Rat) from rfl];rw [X3];have:=Ws ((D*2^k:Nat):Rat) (by grind);generalize ((D*2^k:Nat):Rat)=z at *;have:q*z*z⁻¹=q*(z*z⁻¹):=by grind
  rw [this,‹z*z⁻¹=1›]; grind
 rw [e,Wl,if_neg (by omega),Xf];exact Jz _ _
theorem CS {a b k:Nat} {z:Int} (h:z.natAbs<=a*(b*2^k)):Fa z<=Fa (a:Int)+Fa (b:Int)+k:=by
 have h1:Fa (a:Int)<=Fa (a:Int):=Qm _;have h2:Fa (b:Int)<=Fa (b:Int):=Qm _;rw [Tz] at h1 h2 ⊢;rw [Xf] at h1 h2;rw [Xd,Xd];have h3:a*b<2^Fa (a:Int)*2^Fa (b:Int):=Nat.mul_lt_mul_of_lt_of_le h1 (Yh h2) (Z2 (by decide));have h4:=Xl h3 (show 0<2^k from Z2 (by decide));rw [<-Xy] at h; omega
theorem OX {D M k B:Nat} {q:Rat} (h:Gr D M k q) (hM:0<M) (hs:Fa (D:Int)+Fa (M:Int)+k<=B):Qs B q:=by
 have hd:=Qtu h;have hden:=nat_pos q.den_pos;have h1:(q.num.natAbs:Rat)<=((M*(D*2^k):Nat):Rat):=by
  have e:(q.num:Rat)=q*(q.den:Rat):=by
   have:(q.num:Rat) / (((q.den:Int)):Rat)=q:=by rw [Hy,Z4]
   have h2:(q.num:Rat) / (q.den:Rat)*(q.den:Rat)=q.num:=Zi (by grind);rw [show (q.num:Rat) / (q.den:Rat)=q from this] at h2; exact h2.symm
  rw [<-T0,e];have h3:=G6 (x:=q) (y:=(q.den:Rat)) (b:=((D*2^k:Nat):Rat)) h.b (by
   have:Fe (q.den:Rat)=(q.den:Rat):=by unfold Fe; rw [if_neg (by grind)]
   rw [this]; exact Zl.2 hd)
  push_cast at h3 ⊢; exact h3
 have h1:=Zl.1 h1;refine ⟨?_,?_⟩
 ·have:=CS (z:=q.num) h1; omega
 ·have:=CS (z:=(q.den:Int)) (a:=M) (b:=D) (k:=k) (by
   rw [Xf];exact Qc hd (Nat.le_mul_of_pos_left _ hM))
  omega
theorem mI (a b:Rat):mid a b=(a+b) / 2:=by
 unfold mid;rw [<-Hy];have ha:(a.num:Rat)=a*(a.den:Rat):=by
  have:(a.num:Rat) / (((a.den:Int)):Rat)=a:=by rw [Hy,Z4]
  have h2:(a.num:Rat) / (a.den:Rat)*(a.den:Rat)=a.num:=Zi (by have:=nat_pos a.den_pos; grind);rw [show (a.num:Rat) / (a.den:Rat)=a from this] at h2; exact h2.symm
 have hb:(b.num:Rat)=b*(b.den:Rat):=by
  have:(b.num:Rat) / (((b.den:Int)):Rat)=b:=by rw [Hy,Z4]
  have h2:(b.num:Rat) / (b.den:Rat)*(b.den:Rat)=b.num:=Zi (by have:=nat_pos b.den_pos; grind);rw [show (b.num:Rat) / (b.den:Rat)=b from this] at h2; exact h2.symm
 have pa:=nat_pos a.den_pos;have pb:=nat_pos b.den_pos;rw [Kb,Xm,Xm,Xm,Xm,ha,hb];rw [show (((a.den:Int)):Rat)=(a.den:Rat) from rfl,show (((b.den:Int)):Rat)=(b.den:Rat) from rfl,show (((2:Int)):Rat)=2 from rfl];generalize (a.den:Rat)=x at *;generalize (b.den:Rat)=y at *;have hxy:=Im (Im pa pb) (show (0:Rat)<2 by decide);have h1:(a*x*y+b*y*x) / (x*y*2)*(x*y*2)=a*x*y+b*y*x:=G8 hxy;have h2:(a+b) / 2*2=a+b:=G8 (by decide);generalize (a*x*y+b*y*x) / (x*y*2)=c at *;generalize (a+b) / 2=d at *;have h3:(x*y*2)*(c-d)=0:=by grind
 rcases Y0.1 h3 with h4 | h4 <;> grind
theorem MP (a b:Rat):LF a b=a-b:=by
 unfold LF;rw [Rat.sub_def',<-Rat.divInt_ofNat]
 push_cast; rfl
theorem lV {a b:Rat}:G7 a b=0↔a=b:=by
 constructor
 ·intro h;have h1:¬a<b:=λh'=>by have:=Ng.2 h'; omega
  have h2:¬b<a:=λh'=>by have:=L6.2 h'; omega
  grind
 ·intro h; subst h; exact Eh a
theorem PD {a b:Rat}:G7 a b<=0↔a<=b:=by
 constructor
 ·intro h;have h2:¬b<a:=λh'=>by have:=L6.2 h'; omega
  grind
 ·intro h;have h2:¬0<G7 a b:=λh'=>by have:=L6.1 h'; grind
  omega
theorem PC {a b:Rat}:0<=G7 a b↔b<=a:=by
 constructor
 ·intro h;have h2:¬a<b:=λh'=>by have:=Ng.2 h'; omega
  grind
 ·intro h;have h2:¬G7 a b<0:=λh'=>by have:=Ng.1 h'; grind
  omega
theorem Ms (a b:Rat):G7 a b=1/\b<a\/G7 a b=0/\a=b\/G7 a b=-1/\a<b:=by
 have hb:=QJ a b;rcases (show G7 a b=1\/G7 a b=0\/G7 a b=-1 by omega) with h | h | h
 ·exact .inl ⟨h,L6.1 (by omega)⟩
 ·exact .inr (.inl ⟨h,lV.1 h⟩)
 ·exact .inr (.inr ⟨h,Ng.1 (by omega)⟩)
theorem fZ (p:Uk) (x:Rat):low p x=Pf (cz p) x:=by
 unfold low Pf;rw [M8,M8,U5,Of]
theorem By {t:Tm} (h:t.lo<t.hi) (q:Rat):Fh t q=cq (cz t.p) t.lo t.hi q:=by
 have hp:t.point=false:=by
  unfold Tm.point;have:¬0<=G7 t.lo t.hi:=λh'=>by have:=PC.1 h'; grind
  simp [this]
 unfold Fh cq;rw [hp,if_neg (by decide)];have e1:(G7 q t.lo<=0)=(q<=t.lo):=propext PD;have e2:(0<G7 q t.hi)=(t.hi<q):=propext L6;rw [M8,fZ,<-U5];simp only [e1,e2]
theorem Mf {t:Tm}:t.point=true↔t.hi<=t.lo:=by
 unfold Tm.point;rw [decide_eq_true_iff]; exact PC
theorem A0 {t:Tm} (h:t.lo=t.hi) (q:Rat):Fh t q=G7 t.lo q:=by
 have hp:t.point=true:=Mf.2 (by rw [h]; exact Qp);unfold Fh; rw [if_pos hp]
theorem Qs6 {c:Rat->Int} {x:Rat} (h:∀ q,c q=G7 x q):Cut c where
 val q:=by rw [h]; have:=QJ x q; omega
 mono q r hqr h1:=by
  rw [h] at h1 ⊢;rcases Ms x q with ⟨e,e'⟩ | ⟨e,e'⟩ | ⟨e,e'⟩
  ·exact absurd e h1
  ·rcases Ms x r with ⟨f,f'⟩ | ⟨f,f'⟩ | ⟨f,f'⟩ <;> grind
  ·rcases Ms x r with ⟨f,f'⟩ | ⟨f,f'⟩ | ⟨f,f'⟩ <;> grind
 up q h1:=by
  rw [h] at h1;have h2:=L6.1 (show 0<G7 x q by omega);have h3:(x+q) / 2*2=x+q:=G8 (by decide);have h4:=L6.2 (show (x+q) / 2<x by grind);have:=QJ x ((x+q) / 2);exact ⟨(x+q) / 2,by grind,by rw [h]; omega⟩
 dn q h1:=by
  rw [h] at h1;have h2:=Ng.1 (show G7 x q<0 by omega);have h3:(x+q) / 2*2=x+q:=G8 (by decide);have h4:=Ng.2 (show x<(x+q) / 2 by grind);have:=QJ x ((x+q) / 2);exact ⟨(x+q) / 2,by grind,by rw [h]; omega⟩
 lo:=⟨x-1,by
  rw [h];have h4:=L6.2 (show x-1<x by grind);have:=QJ x (x-1); omega⟩
 hi:=⟨x+1,by
  rw [h];have h4:=Ng.2 (show x<x+1 by grind);have:=QJ x (x+1); omega⟩
def lim (t:Tm):Nat:=if t.point=true then 3300000 else 1000000
theorem xI {t:Tm} (h:t.point=false):lim t=1000000:=by simp [lim,h]
theorem Qt0 (t:Tm):1000000<=lim t:=by unfold lim; split <;> omega
theorem Qt1 (t:Tm):lim t<=3300000:=by unfold lim; split <;> omega
structure Va (t:Tm):Prop where
 i:t.lo=t.hi/\U4 t.p t.lo=0\/∃ L,Vt (cz t.p) L t.lo t.hi
 tr:U7 t.p
 n:t.p.length<=9
 n2:2<=t.p.length
 b:Bd 3300000 t.p
 bi:t.point=false->Bd 1260 t.p
 sc:t.point=false->∃ (l:List (List Int)) (P g:List Int),tD 66 t.p (Fc (Gp t.p))=some l/\Sqp P g t.p/\Vt (cz t.p) ((t.p::l).map cz) t.lo t.hi
 g:∃ D M k,Gr D M k t.lo/\Gr D M k t.hi/\0<M/\Fa (D:Int)+Fa (M:Int)+k<=lim t
theorem Va.le {t:Tm} (h:Va t):t.lo<=t.hi:=by
 rcases h.i with ⟨e,_⟩ | ⟨L,V⟩
 ·rw [e]; exact Qp
 ·exact Qt V.l
theorem Va.pt {t:Tm} (h:Va t) (hp:t.point=true):t.lo=t.hi/\U4 t.p t.lo=0:=by
 rcases h.i with e | ⟨L,V⟩
 ·exact e
 ·have:=Mf.1 hp;have:=V.l;grind
theorem Va.iv {t:Tm} (h:Va t) (hp:t.point=false):∃ L,Vt (cz t.p) L t.lo t.hi:=by
 rcases h.i with ⟨e,_⟩ | h
 ·have:=Mf.2 (show t.hi<=t.lo by rw [e]; exact Qp);rw [hp] at this; cases this
 ·exact h
theorem Va.cut {t:Tm} (h:Va t):Cut (Fh t):=by
 rcases h.i with ⟨e,_⟩ | ⟨L,V⟩
 ·exact Qs6 (x:=t.lo) λq=>A0 e q
 ·have:Fh t=cq (cz t.p) t.lo t.hi:=funext λq=>By V.l q
  rw [this]; exact V.cut
theorem Qvk {c:Rat->Int} (hc:Cut c) {p:Un} {x:Rat} (h:c x=0) (h0:ev p x=0):Is p c:=by
 rcases JU hc p with h1 | ⟨s,hs,h1⟩
 ·exact h1
 ·have:=fS hc h h1;rw [Gg.2 h0] at this; exact absurd this.symm hs
theorem Va.van {t:Tm} (h:Va t):Is (cz t.p) (Fh t):=by
 have hc:=h.cut;rcases h.i with ⟨e,h0⟩ | ⟨L,V⟩
 ·exact Qvk hc (x:=t.lo) (by rw [A0 e,Eh]) (by rw [U5]; exact h0)
 ·have:Fh t=cq (cz t.p) t.lo t.hi:=funext λq=>By V.l q
  rw [this]; exact V.van
theorem Va.qs {t:Tm} (h:Va t):Qs 3300000 t.lo/\Qs 3300000 t.hi:=by
 obtain ⟨D,M,k,h1,h2,h3,h4⟩:=h.g;have h4:=Qc h4 (Qt1 t);exact ⟨OX h1 h3 h4,OX h2 h3 h4⟩
theorem Va.qsn {t:Tm} (h:Va t) (hp:t.point=false):Qs 1000000 t.lo/\Qs 1000000 t.hi:=by
 obtain ⟨D,M,k,h1,h2,h3,h4⟩:=h.g;rw [xI hp] at h4;exact ⟨OX h1 h3 h4,OX h2 h3 h4⟩
theorem Va.tb {t:Tm} (h:Va t):Tb t:=⟨⟨h.tr,by have:=h.n; omega,Ux h.b (by omega)⟩,h.qs.1.mono (t:=16777216) (by omega),h.qs.2.mono (t:=16777216) (by omega)⟩
structure Hv (t:Tm) (D M k:Nat) (u:Tm):Prop where
 p:u.p=t.p
 i:u.lo=u.hi/\U4 u.p u.lo=0\/∃ L,Vt (cz u.p) L u.lo u.hi
 c:∀ q,Fh u q=Fh t q
 l:Gr D M k u.lo
 h:Gr D M k u.hi
theorem wF {c:Rat->Int} (hc:Cut c) {x:Rat} (h:c x=0) (q:Rat):c q=G7 x q:=by
 rcases Ms x q with ⟨e,e'⟩ | ⟨e,e'⟩ | ⟨e,e'⟩
 ·rw [e]; exact hc.mono' e' (by omega)
 ·rw [e,<-e',h]
 ·rw [e]; exact hc.mono x q e' (by omega)
theorem xT {t u:Tm} {D M k:Nat} (hu:Hv t D M k u) (hM:0<M) (hs:Fa (D:Int)+Fa (M:Int)+(k+1)<=16777216):∃ v,xR u=some v/\Hv t D M (k+1) v/\v.hi-v.lo<=(u.hi-u.lo) / 2/\u.lo<=v.lo/\v.hi<=u.hi:=by
 have h2:∀ x:Rat,x / 2*2=x:=λx=>G8 (by decide)
 unfold xR;rcases hu.i with ⟨e,h0⟩ | ⟨L,V⟩
 ·have hp:u.point=true:=Mf.2 (by rw [e]; exact Qp);rw [if_pos hp];refine ⟨u,rfl,⟨hu.p,hu.i,hu.c,OJ hu.l,OJ hu.h⟩,?_,Qp,Qp⟩;rw [e]; have:=h2 (u.hi-u.hi); grind
 ·have hp:u.point=false:=by
   have:¬u.point=true:=λh=>by have:=Mf.1 h; have:=V.l; grind
   simpa using this
  rw [hp,if_neg (by decide)];obtain ⟨m,hm⟩:=nmE ((u.lo+u.hi) / 2);have hmg:Gr D M (k+1) m:=by rw [hm]; exact Qgv hu.l hu.h
  have hmm:=h2 (u.lo+u.hi);rw [<-hm] at hmm;have hl:=V.l;have hl1:u.lo<m:=by grind
  have hl2:m<u.hi:=by grind
  have hch:chq (mid u.lo u.hi)=some m:=by
   rw [mI,<-hm];have:=OX hmg hM hs;unfold chq;rw [if_pos ⟨this.1,this.2⟩]
  have hcm:mid u.lo u.hi=m:=by rw [mI,<-hm]
  rw [hch];show ∃ v,some (if Fh u m=0 then (⟨u.p,m,m⟩:Tm) else if Fh u m=-1 then ⟨u.p,u.lo,m⟩ else ⟨u.p,m,u.hi⟩)=some v/\_;have hw:=h2 (u.hi-u.lo);have hcu:=By hl;have hcut:=V.cut;have hcut':Cut (Fh u):=by rw [show Fh u=cq (cz u.p) u.lo u.hi from funext hcu]; exact hcut
  by_cases c0:Fh u m=0
  ·rw [if_pos c0];have hz:U4 u.p m=0:=by
    have:=TZ hcut (q:=m) (by rw [<-hcu]; exact c0) V.van;rwa [U5] at this
   refine ⟨_,rfl,⟨hu.p,.inl ⟨rfl,hz⟩,λq=>?_,hmg,hmg⟩,by show m-m<=_; grind,by show u.lo<=m; grind,by show m<=u.hi; grind⟩;rw [A0 rfl,<-hu.c];exact (wF hcut' c0 q).symm
  ·rw [if_neg c0];by_cases c1:Fh u m=-1
   ·rw [if_pos c1];have hv:vv L m=vv L u.hi:=V.eq_hi hl1 (Qt hl2) (by rw [<-hcu,c1]; decide);have V':Vt (cz u.p) L u.lo m:=⟨V.s,hl1,by rw [hv]; exact V.v⟩;refine ⟨_,rfl,⟨hu.p,.inr ⟨L,V'⟩,λq=>?_,OJ hu.l,hmg⟩,by show m-u.lo<=_; grind,Qp,by show m<=u.hi; grind⟩;rw [By hl1,<-hu.c,hcu];exact V.uniq V'.cut (Ez Qp) (by rw [WI hl1 hl2]; decide) V'.van q
   ·rw [if_neg c1];have c2:Fh u m=1:=by rcases hcut'.val m with h | h | h <;> omega
    have hv:vv L m=vv L u.lo:=V.eq_lo hl1 (Qt hl2) (by rw [<-hcu]; exact c2);have V':Vt (cz u.p) L m u.hi:=⟨V.s,hl2,by rw [hv]; exact V.v⟩;refine ⟨_,rfl,⟨hu.p,.inr ⟨L,V'⟩,λq=>?_,hmg,OJ hu.h⟩,by show u.hi-m<=_; grind,by show u.lo<=m; grind,Qp⟩;rw [By hl2,<-hu.c,hcu];exact V.uniq V'.cut (Ez (by grind)) V'.hi1 V'.van q
def Nf (a b:Tm):Prop:=∃ q,Fh a q=-1/\Fh b q=1
def TEq (a b:Tm):Prop:=∀ q,Fh a q=Fh b q
theorem tri {a b:Tm} (ha:Cut (Fh a)) (hb:Cut (Fh b)):Nf a b\/TEq a b\/Nf b a:=by
 rcases Classical.em (TEq a b) with h | h
 ·exact .inr (.inl h)
 ·obtain ⟨q,hq⟩:=Classical.not_forall.1 h;obtain ⟨r,⟨h1,h2⟩ | ⟨h1,h2⟩⟩:=wU ha hb hq
  ·exact .inl ⟨r,h1,h2⟩
  ·exact .inr (.inr ⟨r,h2,h1⟩)
theorem Il {a b:Tm} (ha:Cut (Fh a)) (hb:Cut (Fh b)) (h:Nf a b) (h':Nf b a):False:=by
 obtain ⟨q,q1,q2⟩:=h;obtain ⟨r,r1,r2⟩:=h';have:=ha.lt r2 q1;have:=hb.lt q2 r1;grind
theorem hZ {p:Uk} (k:Nat):(p.getD k 0).natAbs<=2^Gz p:=by
 have h:Fa (p.getD k 0)<=Gz p:=by
  have key:∀ (l:Uk) (n:Nat),n≤l.foldl (λn z=>max n (Fa z)) n/\∀ z∈l,Fa z≤l.foldl (λn z=>max n (Fa z)) n:=by
   intro l
   induction l with
   | nil=>exact λn=>⟨Qm _,λz hz=>by cases hz⟩
   |
    cons y l ih =>
    intro n;obtain ⟨i1,i2⟩:=ih (max n (Fa y));refine ⟨by simp only [Z8]; omega,λz hz=>?_⟩;simp only [Z8];rcases Ql.1 hz with rfl | hz
    ·omega
    ·exact i2 z hz
  exact Fj (s:=Gz p) (λz hz=>(key p 0).2 z hz) k
 rw [Tz] at h; omega
theorem Qqw {s:Nat}:∀ (B:Uk),(∀ z∈B,z.natAbs≤2^s)->gB B≤2^(s+(B.length-1))
 | [],_=>Qh _
 |
  c::B,h=>by
  have h1:=h c (Qy ..);have h2:=Qqw B λz hz=>h z (Qg _ hz)
  simp only [gB,Q6,J9];have h3:2^s<=2^(s+B.length):=Zr (by decide) (by omega);cases B with
  | nil=>simp only [gB,Xx] at *; omega
  |
   cons d B =>
   have h4:2^(s+(d::B).length)=2*2^(s+((d::B).length-1)):=by
    rw [Zp,<-Zq]; congr 1
   rw [h4]; omega
def To (A B:Uk):Nat:=(Gz A+Gz B+(A.length+B.length)+8)*(2*(A.length+B.length-2)-1)
theorem Qge {A B:Uk} (tA:U7 A) (tB:U7 B) (nA:A.length<=9) (nB:B.length<=9) (lA:2<=A.length) (lB:2<=B.length) {R d:Rat} (hR:1<=R) (dp:0<d)
 (hs:∀ e:Rat,0<e->∃ q r,Fe q<=R/\Fe r<=R/\d<=Fe (q-r)/\Fe (q-r)*((2^(To A B+1):Nat):Rat)<=1/\Fe (U4 A q)<e/\Fe (U4 B r)<e):False:=by
 obtain ⟨a,ha⟩:∃ a,A.length=a+1:=⟨A.length-1,by omega⟩;obtain ⟨b,hb⟩:∃ b,B.length=b+1:=⟨B.length-1,by omega⟩;obtain ⟨s,hsd⟩:=nmE (Gz A+Gz B+b);obtain ⟨N,hN⟩:∃ N,b*(2*(a*b))+a*(2*(a*b)-b)=N:=⟨_,rfl⟩;have hNt:N<=2^(a+9):=by
  rw [<-hN];have hab:∀ a b:Fin 9,b.1*(2*(a.1*b.1))+a.1*(2*(a.1*b.1)-b.1)<=2^(a.1+9):=by decide
  exact hab ⟨a,by omega⟩ ⟨b,by omega⟩
 have hK:To A B=(s+a+10)*(2*(a+b-1)+1):=by
  unfold To;rw [ha,hb,hsd,show a+1+(b+1)-2=a+b by omega,show 2*(a+b)-1=2*(a+b-1)+1 by omega];congr 1; omega
 have h0A:A.getD a 0≠0:=by have:=Hx tA (by omega); rwa [ha] at this
 have h0B:B.getD b 0≠0:=by have:=Hx tB (by omega); rwa [hb] at this
 have hp:∀ m,1<=2^m:=λm=>Z2 (by decide)
 refine Qtq (N:=N) (D:=2^(To A B-1)) ha hb h0A h0B (by omega) (by omega) (h:=2^s) (hp s) (λk=>Qc (hZ k) (Zr (by decide) (by omega))) ?_ hN ?_ hR dp λe ep=>?_
 ·refine Qc (Qqw (s:=Gz B) B λz hz=>?_) (Zr (by decide) (by omega));obtain ⟨i,hi⟩:=Zj.1 hz;have:=hZ (p:=B) i;rwa [Qi,hi] at this
 ·have h1:2*(N*2^s)<=2^(s+a+10):=by
   have:N*2^s<=2^(a+9)*2^s:=Q0 _ hNt;rw [<-Xd] at this;rw [show s+a+10=(a+9+s)+1 by omega,Zq]; omega
  have h2:N*2^s<=2^(s+a+9):=by
   rw [show s+a+9=(a+9)+s by omega,Xd]; exact Q0 _ hNt
  have h3:=Nat.pow_le_pow_left h1 (2*(a+b-1));have h4:=Zh h2 h3;rw [<-Wn,<-Xd] at h4;rw [<-Xy];refine Qc h4 (Zr (by decide) ?_);rw [hK,Xi,Yu]; omega
 ·obtain ⟨q,r,h1,h2,h3,h4,h5,h6⟩:=hs e ep;refine ⟨q,r,h1,h2,h3,?_,h5,h6⟩;have hK1:1<=To A B:=by
   rw [hK]; exact J3 (by omega) (by omega)
  have e1:2^(To A B+1)=4*2^(To A B-1):=by
   obtain ⟨m,hm⟩:∃ m,To A B=m+1:=⟨To A B-1,by omega⟩;rw [hm,J9,Zq,Zq]; omega
  rw [e1] at h4
  push_cast at h4 ⊢
  exact h4
theorem Hv.lo' {t:Tm} {D M k:Nat} {u:Tm} (h:Hv t D M k u):Fh t u.lo=1\/Fh t u.lo=0/\u.lo=u.hi:=by
 rw [<-h.c];rcases h.i with ⟨e,_⟩ | ⟨L,V⟩
 ·exact .inr ⟨by rw [A0 e,Eh],e⟩
 ·exact .inl (by rw [By V.l]; exact Ez Qp)
theorem Hv.hi' {t:Tm} {D M k:Nat} {u:Tm} (h:Hv t D M k u):Fh t u.hi=0\/Fh t u.hi=-1:=by
 rw [<-h.c];rcases h.i with ⟨e,_⟩ | ⟨L,V⟩
 ·exact .inl (by rw [A0 e,e,Eh])
 ·rw [By V.l];have:=V.hi1;rcases V.cut.val u.hi with h | h | h <;> omega
theorem Hv.le {t:Tm} {D M k:Nat} {u:Tm} (h:Hv t D M k u):u.lo<=u.hi:=by
 rcases h.i with ⟨e,_⟩ | ⟨L,V⟩
 ·rw [e]; exact Qp
 ·exact Qt V.l
theorem Qgf {a b:Tm} (ha:Va a) (hb:Va b) {D M k D' M' k':Nat} {u v:Tm} (hu:Hv a D M k u) (hv:Hv b D' M' k' v) (h:Nf a b):1<(v.hi-u.lo)*((2^(To a.p b.p+1):Nat):Rat):=by
 rcases Fx ((v.hi-u.lo)*((2^(To a.p b.p+1):Nat):Rat)) 1 with hw | hw
 ·exfalso;have ca:=ha.cut;have cb:=hb.cut;obtain ⟨m,m1,m2⟩:=h;obtain ⟨m',hm',m3⟩:=ca.dn m m1;have hpow:(0:Rat)<=((2^(To a.p b.p+1):Nat):Rat):=Xh;obtain ⟨R,hR⟩:=nmE (Fe u.lo+Fe m'+Fe m+Fe v.hi+1);have n1:=Hm u.lo; have n2:=Hm m'; have n3:=Hm m; have n4:=Hm v.hi;refine Qge (R:=R) (d:=m-m') ha.tr hb.tr ha.n hb.n ha.n2 hb.n2 (by grind) (by grind) λe ep=>?_
  obtain ⟨q,q1,q2,q3⟩:∃ q,u.lo<=q/\q<=m'/\Fe (U4 a.p q)<e:=by
   rcases hu.lo' with h1 | ⟨h1,_⟩
   ·obtain ⟨x,y,hx,hy,hq⟩:=ha.van e ep;rcases Fx x u.lo with e1 | e1
    ·exact ⟨u.lo,Qp,Qt (ca.lt h1 m3),by rw [<-U5]; exact hq u.lo e1 (Qt (ca.lt h1 hy))⟩
    ·exact ⟨x,Qt e1,Qt (ca.lt hx m3),by rw [<-U5]; exact hq x Qp (Qt (ca.lt hx hy))⟩
   ·refine ⟨u.lo,Qp,?_,by rw [<-U5,TZ ca h1 ha.van,H8]; exact ep⟩;rcases Fx u.lo m' with e1 | e1
    ·exact e1
    ·have:=ca.mono m' u.lo e1 (by omega); omega
  obtain ⟨r,r1,r2,r3⟩:∃ r,r<=v.hi/\m<=r/\Fe (U4 b.p r)<e:=by
   rcases hv.hi' with h1 | h1
   ·refine ⟨v.hi,Qp,?_,by rw [<-U5,TZ cb h1 hb.van,H8]; exact ep⟩;rcases Fx m v.hi with e1 | e1
    ·exact e1
    ·have:=cb.mono v.hi m e1 (by omega); omega
   ·obtain ⟨x,y,hx,hy,hq⟩:=hb.van e ep;rcases Fx v.hi y with e1 | e1
    ·exact ⟨v.hi,Qp,Qt (cb.lt m2 h1),by rw [<-U5]; exact hq v.hi (Qt (cb.lt hx h1)) e1⟩
    ·exact ⟨y,Qt e1,Qt (cb.lt m2 hy),by rw [<-U5]; exact hq y (Qt (cb.lt hx hy)) Qp⟩
  have e1:Fe (q-r)=r-q:=by unfold Fe; split <;> grind
  have b1:Fe q<=R:=by
   have:=UR (R:=R) (x:=u.lo) (y:=m') (t:=q) (by grind) (by grind) q1 q2; exact this
  have b2:Fe r<=R:=by
   have:=UR (R:=R) (x:=m) (y:=v.hi) (t:=r) (by grind) (by grind) r2 r1; exact this
  refine ⟨q,r,b1,b2,by rw [e1]; grind,?_,q3,r3⟩;rw [e1];have:=Ze (show r-q<=v.hi-u.lo by grind) hpow;exact Zk this hw
 ·exact hw
theorem vE {a b:Tm} (ha:Va a) (hb:Va b) {D M k D' M' k':Nat} {u v:Tm} (hu:Hv a D M k u) (hv:Hv b D' M' k' v) (hne:¬TEq a b) (h:Do u v=true):Nf a b:=by
 have h1:=(of_decide_eq_true h).1;have h1:=PD.1 h1;rcases tri ha.cut hb.cut with h2 | h2 | ⟨m,m1,m2⟩
 ·exact h2
 ·exact absurd h2 hne
 ·exfalso;have e1:m<u.hi:=by
   rcases Fx u.hi m with e | e
   ·rcases Classical.em (u.hi=m) with e' | e'
    ·have:=hu.hi'; rw [e'] at this; omega
    ·have:=ha.cut.mono u.hi m (by grind) (by have:=hu.hi'; omega); omega
   ·exact e
  have e2:v.lo<m:=by
   rcases Fx m v.lo with e | e
   ·rcases Classical.em (m=v.lo) with e' | e'
    ·have:=hv.lo'; rw [<-e'] at this; omega
    ·have:=hb.cut.mono m v.lo (by grind) (by omega);have:=hv.lo'; omega
   ·exact e
  grind
theorem aN {a b:Tm} (ha:Va a) (hb:Va b) {D M k D' M' k':Nat} {u v:Tm} (hu:Hv a D M k u) (hv:Hv b D' M' k' v) (hlt:Nf a b) (h:Do u v≠true):v.lo<=u.hi:=by
 rcases Fx v.lo u.hi with e | e
 ·exact e
 ·refine absurd (decide_eq_true ⟨PD.2 (Qt e),λh'=>?_⟩) h;have:=lV.1 h'.2; grind
theorem gG (m:Nat):((2^(m+1):Nat):Rat)=2*((2^m:Nat):Rat):=by rw [Zq]; push_cast; grind
def Qrn (a b:Tm) (r:Tm×Tm×Int):Prop:=r.2.2=-1/\Nf a b\/r.2.2=1/\Nf b a
theorem Qbg (A B:Uk):To A B=To B A:=by unfold To; rw [Nat.add_comm A.length,Nat.add_comm (Gz A)]
theorem Qv5 {a b:Tm} (ha:Va a) (hb:Va b) (hne:¬TEq a b) {D M D' M':Nat} (hM:0<M) (hM':0<M'):∀ (i j:Nat) (u v:Tm) (k k':Nat) (W:Rat),2*i+1<=j->Hv a D M k u->Hv b D' M' k' v->Fa (D:Int)+Fa (M:Int)+(k+j)<=16777216->Fa (D':Int)+Fa (M':Int)+(k'+j)<=16777216->u.hi-u.lo<=W->v.hi-v.lo<=W->2*W*((2^(To a.p b.p+1):Nat):Rat)<=((2^i:Nat):Rat)->∃ r,EH j u v=some r/\Qrn a b r:=by
 intro i;have step:∀ (j:Nat) (u v:Tm) (k k':Nat),Hv a D M k u->Hv b D' M' k' v->Fa (D:Int)+Fa (M:Int)+(k+(j+1))<=16777216->Fa (D':Int)+Fa (M':Int)+(k'+(j+1))<=16777216->(∃ r,EH (j+1) u v=some r/\Qrn a b r)\/(Do u v≠true/\Do v u≠true/\∃ u' v' k1 k1',EH (j+1) u v=EH j u' v'/\Hv a D M k1 u'/\Hv b D' M' k1' v'/\k1<=k+1/\k1'<=k'+1/\(v.hi-v.lo<=u.hi-u.lo/\u'.hi-u'.lo<=(u.hi-u.lo) / 2/\v'=v\/u.hi-u.lo<=v.hi-v.lo/\v'.hi-v'.lo<=(v.hi-v.lo) / 2/\u'=u)):=by
  intro j u v k k' hu hv hs hs';by_cases h1:Do u v=true
  ·exact .inl ⟨(u,v,-1),by simp only [EH]; rw [if_pos h1],.inl ⟨rfl,vE ha hb hu hv hne h1⟩⟩
  by_cases h2:Do v u=true
  ·exact .inl ⟨(u,v,1),by simp only [EH]; rw [if_neg h1,if_pos h2],.inr ⟨rfl,vE hb ha hv hu (λh=>hne λq=>(h q).symm) h2⟩⟩
  refine .inr ⟨h1,h2,?_⟩;by_cases h3:0<=G7 (LF u.hi u.lo) (LF v.hi v.lo)
  ·obtain ⟨x,x1,x2,x3,_⟩:=xT hu hM (by omega);refine ⟨x,v,k+1,k',?_,x2,hv,by omega,by omega,.inl ⟨?_,x3,rfl⟩⟩
   ·simp only [EH]; rw [if_neg h1,if_neg h2,if_pos h3,x1]; rfl
   ·have:=PC.1 h3; rwa [MP,MP] at this
  ·obtain ⟨x,x1,x2,x3,_⟩:=xT hv hM' (by omega);refine ⟨u,x,k,k'+1,?_,hu,x2,by omega,by omega,.inr ⟨?_,x3,rfl⟩⟩
   ·simp only [EH]; rw [if_neg h1,if_neg h2,if_neg h3,x1]; rfl
   ·rcases Fx (u.hi-u.lo) (v.hi-v.lo) with e | e
    ·exact e
    ·refine absurd (PC.2 ?_) h3;rw [MP,MP]; exact Qt e
 induction i with
 |
  zero =>
  intro j u v k k' W hj hu hv hs hs' hW hW' hK;obtain ⟨j,rfl⟩:∃ m,j=m+1:=⟨j-1,by omega⟩;rcases step j u v k k' hu hv hs hs' with h | ⟨h1,h2,_⟩
  ·exact h
  ·exfalso;have hpow:(0:Rat)<=((2^(To a.p b.p+1):Nat):Rat):=Xh;rw [Vd] at hK;rcases tri ha.cut hb.cut with h3 | h3 | h3
   ·have h4:=aN ha hb hu hv h3 h1;have h5:=Qgf ha hb hu hv h3;have h6:=Ze (show v.hi-u.lo<=2*W by clear step; grind) hpow;have h7:((1:Nat):Rat)=1:=rfl;rw [h7] at hK;clear step; grind
   ·exact hne h3
   ·have h4:=aN hb ha hv hu h3 h2;have h5:=Qgf hb ha hv hu h3;rw [Qbg] at h5;have h6:=Ze (show u.hi-v.lo<=2*W by clear step; grind) hpow;have h7:((1:Nat):Rat)=1:=rfl;rw [h7] at hK;clear step; grind
 |
  succ i ih =>
  intro j u v k k' W hj hu hv hs hs' hW hW' hK;obtain ⟨j,rfl⟩:∃ m,j=m+2:=⟨j-2,by omega⟩;have hd:∀ x:Rat,x / 2*2=x:=λx=>G8 (by decide)
  rcases step (j+1) u v k k' hu hv hs hs' with h | ⟨_,_,u1,v1,k1,k1',e1,hu1,hv1,hk1,hk1',hw1⟩
  ·exact h
  ·rw [e1];rcases step j u1 v1 k1 k1' hu1 hv1 (by omega) (by omega) with h | ⟨_,_,u2,v2,k2,k2',e2,hu2,hv2,hk2,hk2',hw2⟩
   ·exact h
   ·rw [e2];have a1:=hd (u.hi-u.lo); have a2:=hd (v.hi-v.lo); have a3:=hd (u1.hi-u1.lo); have a4:=hd (v1.hi-v1.lo); have a5:=hd W;have b1:=hu.le; have b2:=hv.le; have b3:=hu1.le; have b4:=hv1.le; have b5:=hu2.le; have b6:=hv2.le;have hww:u2.hi-u2.lo<=W / 2/\v2.hi-v2.lo<=W / 2:=by
     clear step ih;rcases hw1 with ⟨c1,c2,rfl⟩ | ⟨c1,c2,rfl⟩ <;> rcases hw2 with ⟨d1,d2,rfl⟩ | ⟨d1,d2,rfl⟩ <;> constructor <;> grind
    refine ih j u2 v2 k2 k2' (W / 2) (by omega) hu2 hv2 (by omega) (by omega) hww.1 hww.2 ?_;rw [gG i] at hK;have:2*(W / 2)*((2^(To a.p b.p+1):Nat):Rat)*2=2*W*((2^(To a.p b.p+1):Nat):Rat):=by clear step ih hw1 hw2; grind
    clear step ih hw1 hw2; grind
def CmpOk (a b:Tm) (c:Int):Prop:=c=-1/\Nf a b\/c=0/\TEq a b\/c=1/\Nf b a
theorem Va.hv0 {t:Tm} (h:Va t):∃ D M k,Hv t D M k t/\0<M/\Fa (D:Int)+Fa (M:Int)+k<=lim t:=by
 obtain ⟨D,M,k,h1,h2,h3,h4⟩:=h.g;exact ⟨D,M,k,⟨rfl,h.i,λ_=>rfl,h1,h2⟩,h3,h4⟩
theorem nC {a:Tm} (ha:Va a) (hp:a.point=true) (q:Rat):Fh a q=G7 a.lo q:=A0 (ha.pt hp).1 q
theorem Qfi {a b:Tm} (hb:Va b) {x:Rat} (hx:∀ q,Fh a q=G7 x q):CmpOk a b (-Fh b x):=by
 have cb:=hb.cut;rcases cb.val x with h | h | h
 ·obtain ⟨q,q1,q2⟩:=cb.up x h;refine .inl ⟨by omega,q,?_,q2⟩;rw [hx]; rcases Ms x q with ⟨e,e'⟩ | ⟨e,e'⟩ | ⟨e,e'⟩ <;> grind
 ·exact .inr (.inl ⟨by omega,λq=>by rw [hx,wF cb h]⟩)
 ·obtain ⟨q,q1,q2⟩:=cb.dn x h;refine .inr (.inr ⟨by omega,q,q2,?_⟩);rw [hx]; rcases Ms x q with ⟨e,e'⟩ | ⟨e,e'⟩ | ⟨e,e'⟩ <;> grind
theorem CmpOk.symm {a b:Tm} {c:Int} (h:CmpOk a b c):CmpOk b a (-c):=by
 rcases h with ⟨h1,h2⟩ | ⟨h1,h2⟩ | ⟨h1,h2⟩
 ·exact .inr (.inr ⟨by omega,h2⟩)
 ·exact .inr (.inl ⟨by omega,λq=>(h2 q).symm⟩)
 ·exact .inl ⟨by omega,h2⟩
theorem Qx0:Szz 9 1260:=⟨by decide,by decide⟩
theorem UH (g:Uk) (lo hi:Rat):UG g lo hi=true↔mK (cz g) lo hi:=by
 unfold UG mK;rw [decide_eq_true_iff,M8,fZ,U5]
theorem uS {g:Uk} (tg:U7 g) (hn:g.length≠0) {lo hi:Rat} (h:mK (cz g) lo hi):1<g.length:=by
 rcases Zb 1 g.length with e | e
 ·exact e
 ·exfalso;obtain ⟨c,rfl⟩:∃ c,g=[c]:=Kr.1 (by omega);have hc:c≠0:=by have:=Hx tg (by simp); simpa using this
  have hv:∀ t,ev (cz [c]) t=(c:Rat):=λt=>by rw [U5]; simp only [U4]; grind
  have hs:U9 (c:Rat)≠0:=λh=>XJ hc (Gg.1 h)
  unfold mK at h;rw [hv,Af (by rw [hv]; exact hs),hv] at h;rcases h with h | h
  ·exact hs h
  ·exact h rfl
theorem CH {q:Rat}:Fe q<=((2^Fa q.num:Nat):Rat):=by
 have h1:Fa q.num<=Fa q.num:=Qm _;rw [Tz] at h1;have e:(q.num:Rat)=q*(q.den:Rat):=by
  have:(q.num:Rat) / (((q.den:Int)):Rat)=q:=by rw [Hy,Z4]
  have h2:(q.num:Rat) / (q.den:Rat)*(q.den:Rat)=q.num:=Zi (by have:=nat_pos q.den_pos; grind);rw [show (q.num:Rat) / (q.den:Rat)=q from this] at h2; exact h2.symm
 have hd:(1:Rat)<=(q.den:Rat):=by
  have:((1:Nat):Rat)<=(q.den:Rat):=Zl.2 q.den_pos;exact this
 have h2:Fe q<=Fe (q.num:Rat):=by
  rw [e,Ia];have:Fe (q.den:Rat)=(q.den:Rat):=by unfold Fe; rw [if_neg (by grind)]
  rw [this];have:=B9 (a:=Fe q) (c:=1) (Hm q) Qp (by decide) hd;grind
 rw [T0] at h2;exact Zk h2 (Zl.2 (Yh h1))
theorem TX {a:Tm} {w:Nat} (h:Fa a.lo.num+Fa a.hi.num<=w):a.hi-a.lo<=((2^(w+1):Nat):Rat):=by
 have h1:=CH (q:=a.lo);have h2:=CH (q:=a.hi);have h3:((2^Fa a.lo.num:Nat):Rat)<=((2^w:Nat):Rat):=Zl.2 (Zr (by decide) (by omega));have h4:((2^Fa a.hi.num:Nat):Rat)<=((2^w:Nat):Rat):=Zl.2 (Zr (by decide) (by omega));rw [gG];rw [P6] at h1 h2;grind
theorem On {p:Uk} {s:Nat} (h:Bd s p):Gz p<=s:=by
 have:=P0 h p.length; rwa [Q5] at this
theorem Qjr {a b:Tm} (ha:Va a) (hb:Va b) (pa:a.point=false) (pb:b.point=false):Pp a b<=9000000:=by
 have q1:=ha.qsn pa; have q2:=hb.qsn pb;have l1:=ha.n; have l2:=hb.n;have s1:=On (ha.bi pa); have s2:=On (hb.bi pb);have b1:=q1.1.1; have b2:=q1.2.1; have b3:=q2.1.1; have b4:=q2.2.1;have:4*(a.p.length+b.p.length)*(Gz a.p+Gz b.p+(a.p.length+b.p.length)+8)<=4*18*2600:=Zh (by omega) (by omega);unfold Pp; omega
theorem Qc7 {a b:Tm} (ha:Va a) (hb:Va b) (pa:a.point=false) (pb:b.point=false) (hne:¬TEq a b):∃ r,EH (Pp a b) a b=some r/\Qrn a b r:=by
 obtain ⟨D,M,k,h1,h2,h3⟩:=ha.hv0;obtain ⟨D',M',k',h1',h2',h3'⟩:=hb.hv0;rw [xI pa] at h3;rw [xI pb] at h3';have hst:=Qjr ha hb pa pb;obtain ⟨w,hw⟩:=nmE (Fa a.lo.num+Fa a.hi.num+Fa b.lo.num+Fa b.hi.num);obtain ⟨K,hK⟩:=nmE (Gz a.p+Gz b.p+(a.p.length+b.p.length)+8);obtain ⟨n,hn⟩:=nmE (a.p.length+b.p.length);have l1:=ha.n2; have l2:=hb.n2;have hsteps:Pp a b=64+2*w+4*n*K:=by unfold Pp; rw [hw,hK,hn]
 have hg:To a.p b.p=K*(2*(n-2)-1):=by unfold To; rw [hK,hn]
 have hgle:To a.p b.p+5*K<=2*n*K:=by
  rw [hg,Zp K,<-X2];exact Q0 _ (by omega)
 have hKp:8<=K:=by omega
 refine Qv5 ha hb hne h2 h2' (31+w+2*n*K) (Pp a b) a b k k' ((2^(w+1):Nat):Rat) ?_ h1 h1' (by omega) (by omega) (TX (by omega)) (TX (by omega)) ?_
 ·rw [hsteps,Xi,Xy 4,Xy 2 n]; omega
 ·have e:2*(2^(w+1))*(2^(To a.p b.p+1))<=2^(31+w+2*n*K):=by
   rw [Zp 2,<-Zq,<-Xd];exact Zr (by decide) (by omega)
  have:=Zl.2 e
  push_cast at this ⊢
  exact this
theorem WE {a b:Tm} (ha:Va a) (hb:Va b):∃ c,WL a b=some c/\CmpOk a b c:=by
 unfold WL;by_cases pa:a.point=true
 ·rw [if_pos pa];exact ⟨_,rfl,Qfi hb (nC ha pa)⟩
 rw [if_neg pa];by_cases pb:b.point=true
 ·rw [if_pos pb];have:=(Qfi ha (nC hb pb)).symm;rw [Int.neg_neg] at this;exact ⟨_,rfl,this⟩
 rw [if_neg pb];have pa:a.point=false:=by simpa using pa
 have pb:b.point=false:=by simpa using pb
 obtain ⟨L,V⟩:=ha.iv pa;obtain ⟨L',V'⟩:=hb.iv pb;have eqa:∀ q,Fh a q=cq (cz a.p) a.lo a.hi q:=By V.l;have eqb:∀ q,Fh b q=cq (cz b.p) b.lo b.hi q:=By V'.l;obtain ⟨lo,hlo⟩:=nmE (if 0<G7 b.lo a.lo then b.lo else a.lo);obtain ⟨hi,hhi⟩:=nmE (if G7 b.hi a.hi<0 then b.hi else a.hi);show ∃ c,(if G7 (if 0<G7 b.lo a.lo then b.lo else a.lo) (if G7 b.hi a.hi<0 then b.hi else a.hi)<0 then _ else _)=some c/\_;rw [<-hlo,<-hhi];have e1:(0<G7 b.lo a.lo)=(a.lo<b.lo):=propext L6;have e2:(G7 b.hi a.hi<0)=(b.hi<a.hi):=propext Ng;have e3:(G7 lo hi<0)=(lo<hi):=propext Ng;simp only [e1] at hlo;simp only [e2] at hhi;simp only [e3];obtain ⟨g,g1,g2,g3,g4⟩:=Qgn Qx0 ha.tr hb.tr ha.n hb.n (ha.bi pa) (hb.bi pb) (by have:=ha.n2; omega);obtain ⟨U,W,hc⟩:=g2.c;obtain ⟨u,hu⟩:=g2.da;obtain ⟨u',hu'⟩:=g2.db;have key:=V.same V' (g:=cz g) (u:=u) (u':=u') (U:=U) (W:=W) (k:=1) (by decide) hu hu' (λt=>by rw [U5,U5,U5,hc]; grind) (a:=lo) (b:=hi) (by rw [hlo]; split <;> grind) (by rw [hlo]; split <;> grind) (by rw [hlo]; split <;> simp) (by rw [hhi]; split <;> grind) (by rw [hhi]; split <;> grind) (by rw [hhi]; split <;> simp);have hTE:(∀ q,cq (cz a.p) a.lo a.hi q=cq (cz b.p) b.lo b.hi q)↔TEq a b:=by
  unfold TEq; constructor
  ·intro h q; rw [eqa,eqb]; exact h q
  ·intro h q; rw [<-eqa,<-eqb]; exact h q
 rw [hTE] at key;have fin:¬TEq a b->∃ c,((EH (Pp a b) a b).bind λr=>some r.2.2)=some c/\CmpOk a b c:=λhne=>by
  obtain ⟨r,r1,r2⟩:=Qc7 ha hb pa pb hne;refine ⟨r.2.2,by rw [r1]; rfl,?_⟩;rcases r2 with h | h
  ·exact .inl h
  ·exact .inr (.inr h)
 by_cases hl:lo<hi
 ·rw [if_pos hl,g1];show ∃ c,(if 1<g.length/\UG g lo hi=true then some 0 else (EH (Pp a b) a b).bind λr=>some r.2.2)=some c/\_;by_cases hh:UG g lo hi=true
  ·have hq:=(UH g lo hi).1 hh;rw [if_pos ⟨uS g2.t g2.n hq,hh⟩];exact ⟨0,rfl,.inr (.inl ⟨rfl,key.1 ⟨hl,hq⟩⟩)⟩
  ·rw [if_neg λh=>hh h.2];exact fin λh=>hh ((UH g lo hi).2 (key.2 h).2)
 ·rw [if_neg hl];exact fin λh=>hl (key.2 h).1
def SgT (p:Uk) (a:Tm) (s:Int):Prop:=s=0/\Is (cz p) (Fh a)\/s≠0/\NZ (cz p) (Fh a) s
theorem Qu0 {p:Uk} {c:Rat->Int} (hc:Cut c) {x:Rat} (h:c x=0):Hz p x=0/\Is (cz p) c\/Hz p x≠0/\NZ (cz p) c (Hz p x):=by
 rw [M8,<-U5];rcases JU hc (cz p) with h1 | ⟨s,hs,h1⟩
 ·exact .inl ⟨Gg.2 (TZ hc h h1),h1⟩
 ·have:=fS hc h h1;rw [this]; exact .inr ⟨hs,h1⟩
theorem O3 {l:Ul} {lo hi:Rat} (h:lo<=hi):Td l lo hi=(vv (l.map cz) lo:Int)-(vv (l.map cz) hi:Int):=by
 unfold Td;rw [if_neg λh'=>by have:=Ng.1 h'; grind,QE,QE]
theorem Qu1 {p q:Uk} {L:Uo} (hp:U7 p) (np:p.length<=9) (lp:2<=p.length) (hS:GW (cz q) L) (hpq:ZH (cz q) (cz p)) {a:Tm} (ha:Va a) {s:Int} (hnz:NZ (cz p) (Fh a) s) {D M k:Nat} {x:Tm} (hx:Hv a D M k x) (hl:x.lo<x.hi) (hv:vv L x.lo≠vv L x.hi):1<(x.hi-x.lo)*((2^(To a.p p+1):Nat):Rat):=by
 rcases Fx ((x.hi-x.lo)*((2^(To a.p p+1):Nat):Rat)) 1 with hw | hw
 ·exfalso;have ca:=ha.cut;obtain ⟨d,dp,x1,y1,c1,c2,hn⟩:=hnz;obtain ⟨x2,x12,c3⟩:=ca.up x1 c1;obtain ⟨y2,y12,c4⟩:=ca.dn y1 c2;have hpow:(0:Rat)<=((2^(To a.p p+1):Nat):Rat):=Xh;obtain ⟨z,zp,z1,z2⟩:=min2 (a:=x2-x1) (b:=y1-y2) (by clear hn; grind) (by clear hn; grind);obtain ⟨R0,hR0,r1,r2⟩:=zZ x.lo x.hi;obtain ⟨u,hu⟩:=hpq;refine Qge (R:=R0+1) (d:=z) ha.tr hp ha.n np ha.n2 lp (by clear hn; grind) zp λe ep=>?_
  obtain ⟨q0,q1,q2,q3,q4,q5⟩:∃ q0,x.lo<=q0/\q0<=x.hi/\x2<=q0/\q0<=y2/\Fe (U4 a.p q0)<e:=by
   rcases hx.lo' with h1 | ⟨h1,h2⟩
   ·obtain ⟨x',y',hx',hy',hq⟩:=ha.van e ep;obtain ⟨m,m1,m2,m3,m4⟩:∃ m,Fh a m=1/\x.lo<=m/\x2<=m/\x'<=m:=by
     rcases Fx x.lo x2 with e1 | e1
     ·rcases Fx x2 x' with e2 | e2
      ·exact ⟨x',hx',by clear hn hq; grind,e2,Qp⟩
      ·exact ⟨x2,c3,e1,Qp,Qt e2⟩
     ·rcases Fx x.lo x' with e2 | e2
      ·exact ⟨x',hx',e2,by clear hn hq; grind,Qp⟩
      ·exact ⟨x.lo,h1,Qp,Qt e1,Qt e2⟩
    refine ⟨m,m2,?_,m3,Qt (ca.lt m1 c4),by rw [<-U5]; exact hq m m4 (Qt (ca.lt m1 hy'))⟩;rcases hx.hi' with h3 | h3
    ·rcases Fx m x.hi with e1 | e1
     ·exact e1
     ·have:=ca.mono x.hi m e1 (by omega); omega
    ·exact Qt (ca.lt m1 h3)
   ·exact absurd h2 (by clear hn; grind)
  obtain ⟨b,hb⟩:=nmE (uZ R0 u);have hb0:0<=b:=by rw [hb]; exact ZE hR0 u
  obtain ⟨f,fp,_,hf⟩:=Hb (b:=b) (d:=if e<=d then e else d) hb0 (by split <;> assumption);obtain ⟨r,r3,r4,r5⟩:=yD hS hl hv fp;have hrR:Fe r<=R0:=UR r1 r2 r3 r4;have hpr:Fe (U4 p r)<(if e<=d then e else d):=by
   rw [<-U5,hu];have:=G6 (Qt r5) (TS hrR u);rw [<-hb] at this;exact Jq.1 λh=>absurd (Zk h this) (Jq.2 hf)
  have hpe:Fe (U4 p r)<e:=by split at hpr <;> (clear hn; grind)
  have hpd:Fe (U4 p r)<d:=by split at hpr <;> (clear hn; grind)
  have hrout:r<x1\/y1<r:=by
   rcases Fx x1 r with e1 | e1
   ·rcases Fx r y1 with e2 | e2
    ·have:=(hn r e1 e2).2;rw [U5] at this;exact absurd this (Jq.2 hpd)
    ·exact .inr e2
   ·exact .inl e1
  have hqr:z<=Fe (q0-r):=by
   clear hn;rcases hrout with h | h
   ·have:Fe (q0-r)=q0-r:=by unfold Fe; split <;> grind
    rw [this]; grind
   ·have:Fe (q0-r)=r-q0:=by unfold Fe; split <;> grind
    rw [this]; grind
  have hq0R:Fe q0<=R0:=UR r1 r2 q1 q2;refine ⟨q0,r,by clear hn; grind,by clear hn; grind,hqr,?_,q5,hpe⟩;have h1:Fe (q0-r)<=x.hi-x.lo:=by rw [P6]; clear hn; constructor <;> grind
  exact Zk (Ze h1 hpow) hw
 ·exact hw
theorem Qjc {p q:Uk} {l:Ul} (hp:U7 p) (np:p.length<=9) (lp:2<=p.length) (hS:GW (cz q) (l.map cz)) (hpq:ZH (cz q) (cz p)) {a:Tm} (ha:Va a) {s:Int} (hnz:NZ (cz p) (Fh a) s) {D M:Nat} (hM:0<M):∀ (j i:Nat) (x:Tm) (k:Nat) (W:Rat),i+1<=j->Hv a D M k x->Fa (D:Int)+Fa (M:Int)+(k+j)<=16777216->x.hi-x.lo<=W->W*((2^(To a.p p+1):Nat):Rat)<=((2^i:Nat):Rat)->∃ u k',sgF l j x=some u/\Hv a D M k' u/\(u.point=true\/Td l u.lo u.hi=0)
 | 0,i,x,k,W,h,_,_,_,_=>by omega
 |
  j+1,i,x,k,W,hj,hx,hs,hW,hK=>by
  simp only [sgF];by_cases h:x.point=true\/Td l x.lo x.hi=0
  ·rw [if_pos h]; exact ⟨x,k,rfl,hx,h⟩
  ·rw [if_neg h];obtain ⟨v,v1,v2,v3,_⟩:=xT hx hM (by omega);rw [v1];show ∃ u k',sgF l j v=some u/\_;have hpt:¬x.hi<=x.lo:=λh'=>h (.inl (Mf.2 h'))
   have hl:x.lo<x.hi:=by grind
   have hvv:vv (l.map cz) x.lo≠vv (l.map cz) x.hi:=λh'=>h (.inr (by rw [O3 (Qt hl)]; omega))
   have hg:=Qu1 hp np lp hS hpq ha hnz hx hl hvv;have hpow:(0:Rat)<=((2^(To a.p p+1):Nat):Rat):=Xh;have hd:∀ x:Rat,x / 2*2=x:=λx=>G8 (by decide)
   cases i with
   |
    zero =>
    exfalso;rw [Vd] at hK;have:=Ze hW hpow;have h7:((1:Nat):Rat)=1:=rfl;rw [h7] at hK;grind
   |
    succ i =>
    refine Qjc hp np lp hS hpq ha hnz hM j i v (k+1) (W / 2) (by omega) v2 (by omega) ?_ ?_
    ·have:=hd (x.hi-x.lo); have:=hd W; grind
    ·rw [gG i] at hK;have:=hd W;have:W / 2*((2^(To a.p p+1):Nat):Rat)*2=W*((2^(To a.p p+1):Nat):Rat):=by grind
     grind
theorem fE {x y:Rat}:∀ {ws:Uo},(∀ w∈ws,U9 (ev w x)=U9 (ev w y))->U9 (ev (Od ws) x)=U9 (ev (Od ws) y)
 | [],_=>by simp only [Od]; rw [Rt,Rt]
 |
  w::l,h=>by
  simp only [Od];rw [Fb,Fb,Ty,Ty,h w (Qy ..),fE λv hv=>h v (Qg _ hv)]
theorem Qb2 {p q o:Uk} (hpt:Parts p q o) (tp:U7 p) (hp:p.length≠0) {L:Uo} (hS:GW (cz q) L) {x y:Rat} (hxy:x<y) (hv:vv L x=vv L y):∃ s,s≠0/\∀ z,x<z->z<=y->U9 (U4 p z)=s:=by
 obtain ⟨ws,w1,w2⟩:=hpt.ws;obtain ⟨_,_,_,_,_,p6,p7⟩:=Cd tp hp;have key:∀ z,x<z->z≤y->∀ w∈ws.map cz,Sm w x z:=λz h1 h2 w hw=>by
  obtain ⟨v,hv',rfl⟩:=Za.1 hw;obtain ⟨u,hu⟩:=(w1 v hv').2;have a1:=Ar hS h1;have a2:vv L y<=vv L z:=by
   rcases Classical.em (z=y) with e | e
   ·rw [e]; exact Qm _
   ·exact Ar hS (by grind)
  exact VT hS hu h1 (by omega)
 have hval:∀ z,U4 p z=(Hh p:Rat)*ev (Od (ws.map cz)) z:=λz=>by rw [p7,w2]
 refine ⟨U9 (U4 p y),λh0=>?_,λz h1 h2=>?_⟩
 ·rw [hval,Ty] at h0;rcases Yc.1 h0 with h | h
  ·exact XJ p6 (Gg.1 h)
  ·have:∀ l:Uo,(∀ w∈l,U9 (ev w y)≠0)->U9 (ev (Od l) y)≠0:=by
    intro l
    induction l with
    | nil=>intro _; simp only [Od]; rw [Rt]; decide
    |
     cons w l ih =>
     intro h;simp only [Od];rw [Fb,Ty];exact Jn (h w (Qy ..)) (ih λv hv=>h v (Qg _ hv))
   refine this _ (λw hw=>?_) h;have hs:=key y hxy Qp w hw;rw [hs.s]; exact hs.n
 ·rw [hval,hval,Ty,Ty,fE (y:=y) λw hw=>(key z h1 h2 w hw).s.trans (key y hxy Qp w hw).s.symm]
theorem Qtr {g p P:Uk} {c:Rat->Int} (hc:Cut c) (hg:Gc g p P):Is (cz g) c↔Is (cz p) c/\Is (cz P) c:=by
 constructor
 ·intro h;obtain ⟨u,hu⟩:=hg.da;obtain ⟨v,hv⟩:=hg.db;exact ⟨Pu hc hu h,Pu hc hv h⟩
 ·rintro ⟨h1,h2⟩
  obtain ⟨U,V,hcc⟩:=hg.c;have a1:Is (Gw U (cz p)) c:=Pu hc (p:=cz p) (q:=U) (λt=>by rw [Fb]; grind) h1;have a2:Is (Gw V (cz P)) c:=Pu hc (p:=cz P) (q:=V) (λt=>by rw [Fb]; grind) h2;exact MD (λt=>by rw [U5,hcc,Fb,Fb,U5,U5]) a1 a2
theorem Qjj {p:Uk} (hp:Okp 9 1180 p) {a:Tm} (ha:Va a):∃ s,FM p a=some s/\SgT p a s:=by
 unfold FM;rw [if_neg hp.nz];have ca:=ha.cut;by_cases pa:a.point=true
 ·rw [if_pos pa];exact ⟨_,rfl,Qu0 ca (x:=a.lo) (by rw [nC ha pa,Eh])⟩
 rw [if_neg pa];have pa:a.point=false:=by simpa using pa
 obtain ⟨L,V⟩:=ha.iv pa;have eqa:∀ q,Fh a q=cq (cz a.p) a.lo a.hi q:=By V.l;obtain ⟨g,g1,g2,g3,g4⟩:=Qgn Qx0 hp.t ha.tr hp.l ha.n (Ux hp.b (by omega)) (ha.bi pa) hp.nz;obtain ⟨u',hu'⟩:=g2.db;have hhas:=V.has hu' (a:=a.lo) (b:=a.hi) Qp V.l Qp;have hvan:=Qtr ca g2;rw [show cq (cz a.p) a.lo a.hi=Fh a from (funext eqa).symm] at hhas;rw [g1];show ∃ s,(if 1<g.length/\UG g a.lo a.hi=true then some 0 else _)=some s/\_;by_cases hh:UG g a.lo a.hi=true
 ·have hq:=(UH g _ _).1 hh;rw [if_pos ⟨uS g2.t g2.n hq,hh⟩];exact ⟨0,rfl,.inl ⟨rfl,(hvan.1 (hhas.1 hq).1).1⟩⟩
 ·rw [if_neg λh=>hh h.2];have hnv:¬Is (cz p) (Fh a):=λh=>hh ((UH g _ _).2 (hhas.2 ⟨hvan.2 ⟨h,ha.van⟩,by rw [eqa]; exact Ez Qp,by rw [eqa]; exact V.hi1⟩))
  rcases JU ca (cz p) with h | ⟨s,EU,hnz⟩
  ·exact absurd h hnv
  obtain ⟨q,o,q1,q2,hpt⟩:=Qhy hp;obtain ⟨q',l,r1,r2,hS,hl0⟩:=chain_ok hp;rw [q1] at r1;injection r1 with r1;subst r1;rw [r2];show ∃ s,((sgF (q::l) (64+2*(Fa a.lo.num+Fa a.hi.num)+4*(a.p.length+p.length)*(Gz a.p+Gz p+(a.p.length+p.length)+8)) a).bind λx=>some (Hz p x.hi))=some s/\_;obtain ⟨w,hw⟩:=nmE (Fa a.lo.num+Fa a.hi.num);obtain ⟨K,hK⟩:=nmE (Gz a.p+Gz p+(a.p.length+p.length)+8);obtain ⟨n,hn⟩:=nmE (a.p.length+p.length);rw [<-hw,<-hK,<-hn];obtain ⟨gg,sq⟩:=hpt.sq;obtain ⟨_,_,_,_,_,pf0,pfe⟩:=Cd hp.t hp.nz;have hpq:ZH (cz q) (cz p):=⟨Dm (Hh p) (cz gg),λt=>by rw [U5,U5,Gk,U5,pfe,sq.e]; grind⟩;obtain ⟨D,M,k,h1,h2,h3⟩:=ha.hv0;rw [xI pa] at h3;have b1:=(ha.qsn pa).1.1; have b2:=(ha.qsn pa).2.1;have l1:=ha.n; have l2:=hp.l; have l3:=ha.n2;have s1:=On (ha.bi pa); have s2:=On hp.b;have hst:4*n*K<=4*18*2466:=Zh (by omega) (by omega);have hend:∃ u k',sgF (q::l) (64+2*w+4*n*K) a=some u/\Hv a D M k' u/\(u.point=true\/Td (q::l) u.lo u.hi=0):=by
   by_cases hpl:p.length<2
   ·have hq1:(Fc p)=[1]:=hp.pr.1.one (by have:=hp.pr.2.1; omega);have hql:q.length<2:=by
     have e:=sq.e;rw [hq1] at e;obtain ⟨p1,p2⟩:=Ru (c:=[1]) rfl (by simp) e;have:=Md sq.pg.t sq.pq.t (c:=[1]) rfl e p1 p2;simp at this; omega
    have hbt:Td (q::l) a.lo a.hi=0:=by
     rw [O3 (Qt V.l),hl0 hql,sq.pq.one hql];have hv1:∀ x:Rat,ev (cz [1]) x=1:=λx=>by rw [U5,Nh]
     simp only [Z1,X7,vv,tc,hv1]; omega
    refine ⟨a,k,?_,h1,.inr hbt⟩;obtain ⟨m,hm⟩:∃ m,64+2*w+4*n*K=m+1:=⟨63+2*w+4*n*K,by omega⟩;rw [hm];simp only [sgF];rw [if_pos (.inr hbt)]
   ·have hg:To a.p p=K*(2*(n-2)-1):=by unfold To; rw [hK,hn]
    have hgle:To a.p p+5*K<=2*n*K:=by
     rw [hg,Zp K,<-X2];exact Q0 _ (by omega)
    have hKp:8<=K:=by omega
    have hnK:2*n*K<=4*n*K:=Q0 _ (by omega);obtain ⟨u,k',u1,u2,u3⟩:=Qjc hp.t hp.l (by omega) hS hpq ha hnz h2 (64+2*w+4*n*K) (2+w+2*n*K) a k ((2^(w+1):Nat):Rat) (by omega) h1 (by omega) (TX (by omega)) (by
     have e:(2^(w+1))*(2^(To a.p p+1))<=2^(2+w+2*n*K):=by
      rw [<-Xd];exact Zr (by decide) (by omega)
     have:=Zl.2 e
     push_cast at this ⊢
     exact this)
    exact ⟨u,k',u1,u2,u3⟩
  obtain ⟨u,k',u1,u2,u3⟩:=hend;rw [u1];refine ⟨_,rfl,.inr ?_⟩;have hfin:Hz p u.hi=s:=by
   rcases u2.hi' with hz | hz
   ·have:=fS ca hz hnz;rw [M8,<-U5]; exact this
   ·rcases u2.i with ⟨e,_⟩ | ⟨L',V'⟩
    ·have:=u2.c u.hi;rw [A0 e,e,Eh] at this; omega
    ·have hup:u.point=false:=by
      have:¬u.point=true:=λh=>by have:=Mf.1 h; have:=V'.l; grind
      simpa using this
     rcases u3 with h | h
     ·rw [hup] at h; cases h
     ·rw [O3 (Qt V'.l)] at h;obtain ⟨s',hs',hps⟩:=Qb2 hpt hp.t hp.nz hS V'.l (by omega);obtain ⟨d,dp,x,y,hx,hy,hq⟩:=hnz;have hlo1:Fh a u.lo=1:=by
       rcases u2.lo' with h | ⟨_,h⟩
       ·exact h
       ·have:=V'.l; clear hps hq; grind
      obtain ⟨m,m1,m2,m3⟩:=BY ca hlo1 hx;have e1:=(hq m (Qt m3) (Qt (ca.lt m1 hy))).1;have e2:=hps m m2 (Qt (ca.lt m1 hz));have e3:=hps u.hi V'.l Qp;rw [M8,e3,<-e2,<-U5,e1]
  rw [hfin]; exact ⟨EU,hnz⟩
structure Dp (p:List Int):Prop where
 t:U7 p
 l:p.length<=9
 b:Bd (1130+4*(9-p.length)) p
theorem aM:Szz 9 1253:=⟨by decide,by decide⟩
theorem Dp.ok {p:Uk} (h:Dp p) (h0:p.length≠0):Okp 9 1180 p:=⟨aM,h.t,h0,h.l,Ux h.b (by omega)⟩
theorem Dp.der {p:Uk} (h:Dp p):Dp (Gp p):=by
 have hl:=Mz p;have hl2:=h.l;refine ⟨Fq _ _,by omega,?_⟩;by_cases h0:p.length=0
 ·rw [Qj (l:=Gp p) (by omega)]; exact VM
 ·exact Ux (sF h.b (by omega)) (by omega)
def Fl (a:Tm) (p:Uk):Int:=(FM p a).getD 0
theorem Qja {p:Uk} (h:Dp p) {a:Tm} (ha:Va a):FM p a=some (Fl a p)/\SgT p a (Fl a p):=by
 by_cases h0:p.length=0
 ·have e:p=[]:=Qj h0;subst e;refine ⟨rfl,.inl ⟨rfl,λd dp=>?_⟩⟩;obtain ⟨x,y,h1,h2,_⟩:=ha.cut.near (e:=1) (by decide);exact ⟨x,y,h1,h2,λq _ _=>by simp only [cz,X7,ev,H8]; exact dp⟩
 ·obtain ⟨s,h1,h2⟩:=Qjj (h.ok h0) ha;have e:Fl a p=s:=by unfold Fl; rw [h1]; rfl
  rw [e]; exact ⟨h1,h2⟩
theorem Quy {c:Rat->Int} {p q:Un} {s:Int} (h:∀ t,ev p t=ev q t) (hp:RS p c s):RS q c s:=by
 obtain ⟨y,h1,h2⟩:=hp;exact ⟨y,h1,λz h3 h4=>by rw [<-h]; exact h2 z h3 h4⟩
theorem OZ {a:Tm} (ha:Va a):∀ (k:Nat) (p:Uk),Dp p->p.length<=k->p.length≠0->RS (cz p) (Fh a) (Tj (Fl a) k p)/\Tj (Fl a) k p≠0
 | 0,p,_,h1,h2=>by omega
 |
  k+1,p,h,h1,h2=>by
  simp only [Tj];rw [if_neg h2];obtain ⟨_,hs⟩:=Qja h ha;rcases hs with ⟨e,hv⟩ | ⟨e,hn⟩
  ·rw [if_pos e];have hdn:(Gp p).length≠0:=λh0=>by
    by_cases h3:p.length=1
    ·obtain ⟨c,rfl⟩:∃ c,p=[c]:=Kr.1 h3;have hc:c≠0:=by have:=Hx h.t (by simp); simpa using this
     obtain ⟨q,hq,_⟩:=fR ha.cut (hv (Fe (c:Rat)) (Cf (XJ hc)));rw [U5] at hq;have:U4 [c] q=(c:Rat):=by simp only [U4]; grind
     rw [this] at hq; grind
    ·have h4:=Bb p (p.length-2);rw [Qj h0,show p.length-2+1=p.length-1 by omega] at h4;have h5:p.getD (p.length-1) 0≠0:=Hx h.t (by omega);rcases Yc.1 (h4.symm.trans (by simp)) with h6 | h6
     ·exact h5 h6
     ·omega
   have hl:=Mz p;obtain ⟨i1,i2⟩:=OZ ha k (Gp p) h.der (by omega) hdn;exact ⟨yU ha.cut hv (Quy (λt=>by rw [U5,Of,Te]) i1) i2,i2⟩
  ·rw [if_neg e]; exact ⟨qF ha.cut hn,e⟩
theorem L8 {a:Tm} (ha:Va a) {p:Uk} (h:Dp p) (h0:p.length≠0):RS (cz p) (Fh a) (Hd (Fl a) p)/\Hd (Fl a) p≠0:=OZ ha _ p h (Qm _) h0
theorem XQ {a:Tm}:Hd (Fl a) []=0:=rfl
theorem Qnw {l:Uk}:∀ z∈l,z.natAbs≤most l:=by
 have key:∀ (l:Uk) (m:Nat),m≤l.foldl (λm z=>if m<z.natAbs then z.natAbs else m) m/\∀ z∈l,z.natAbs≤l.foldl (λm z=>if m<z.natAbs then z.natAbs else m) m:=by
  intro l
  induction l with
  | nil=>exact λm=>⟨Qm _,λz hz=>by cases hz⟩
  |
   cons y l ih =>
   intro m;obtain ⟨e,he⟩:=nmE (if m<y.natAbs then y.natAbs else m);have h1:m<=e/\y.natAbs<=e:=by rw [he]; split <;> omega
   obtain ⟨i1,i2⟩:=ih e;simp only [Z8];rw [<-he];refine ⟨by omega,λz hz=>?_⟩;rcases Ql.1 hz with rfl | hz
   ·omega
   ·exact i2 z hz
 exact (key l 0).2
theorem NW {p:Uk} (h:Fi p≠0):Gq p*((Fi p).natAbs:Rat)=((Fi p).natAbs:Rat)+((most (p.take (p.length-1)):Nat):Rat):=by
 unfold Gq;rw [<-Hy];have hp:0<(Fi p).natAbs:=by omega
 have:=nat_pos hp;rw [show ((((Fi p).natAbs:Int)):Rat)=((Fi p).natAbs:Rat) from rfl,G8 this];rw [Kb]; rfl
theorem lD {m:Nat} {x:Rat} (hx:1≤Fe x):∀ (p:Uk) (lp:p.length≠0),(∀ z∈p.take (p.length-1),z.natAbs≤m)->Fi p≠0->(m:Rat)≤(Fe x-1)*((Fi p).natAbs:Rat)->((Fi p).natAbs:Rat)≤U4 p x*(((Int.sign (Fi p))*(if x<0/\p.length % 2=0 then -1 else 1):Int):Rat)
 | [],lp,_,_,_=>absurd rfl lp
 |
  [c],_,_,hc,_=>by
  have hl:Fi [c]=c:=rfl;rw [hl] at hc ⊢;rw [if_neg (by simp),W9];have h1:U4 [c] x=(c:Rat):=by simp only [U4]; grind
  rw [h1];have h2:c*Int.sign c=(c.natAbs:Int):=Int.mul_sign_self c;have:=congrArg (λz:Int=>(z:Rat)) h2;rw [Xm] at this;rw [this]; exact Qp
 |
  c::d::p,_,hm,hc,hb=>by
  have hl:Fi (c::d::p)=Fi (d::p):=by unfold Fi; simp [List.getD_cons_succ]
  have ih:=lD hx (d::p) (by simp) (λz hz=>hm z (by
   have e:(c::d::p).take ((c::d::p).length-1)=c::(d::p).take ((d::p).length-1):=by simp
   rw [e]; exact Qg _ hz)) (by rw [<-hl]; exact hc) (by rw [<-hl]; exact hb)
  rw [hl] at hc hb ⊢;have hcm:=hm c (by simp);obtain ⟨s,hs⟩:∃ s:Int,s=Int.sign (Fi (d::p)):=⟨_,rfl⟩;have hsv:s=1\/s=-1:=by
   rw [hs];rcases Kc hc with h | h
   ·exact .inr (J4 h)
   ·exact .inl (Ys h)
  rw [<-hs] at ih ⊢;obtain ⟨ld,hld⟩:∃ ld:Rat,ld=((Fi (d::p)).natAbs:Rat):=⟨_,rfl⟩;rw [<-hld] at ih hb ⊢;have hcq:Fe (c:Rat)<=(m:Rat):=by rw [T0]; exact Zl.2 hcm
  rw [P6] at hcq;have e1:U4 (c::d::p) x=(c:Rat)+x*U4 (d::p) x:=rfl;rw [e1];have hlen:(c::d::p).length % 2=0↔¬(d::p).length % 2=0:=by simp only [Q6]; omega
  generalize U4 (d::p) x=y at *;generalize (m:Rat)=mm at *;generalize (c:Rat)=cc at *;have hx0:=hx;by_cases hneg:x<0
  ·have hq:Fe x=-x:=by unfold Fe; rw [if_pos hneg]
   rw [hq] at hx0 hb;by_cases hpar:(d::p).length % 2=0
   ·rw [if_pos ⟨hneg,hpar⟩] at ih;rw [if_neg λh=>(hlen.1 h.2) hpar];rcases hsv with rfl | rfl
    ·have ih:ld<=y*(-1):=by simpa using ih
     have:=Zu ih (show 0<=-x by grind);have e:(((1:Int)*1:Int):Rat)=1:=rfl;rw [e]; grind
    ·have ih:ld<=y*1:=by simpa using ih
     have:=Zu ih (show 0<=-x by grind);have e:(((-1:Int)*1:Int):Rat)=-1:=rfl;rw [e]; grind
   ·rw [if_neg λh=>hpar h.2] at ih;rw [if_pos ⟨hneg,hlen.2 hpar⟩];rcases hsv with rfl | rfl
    ·have ih:ld<=y*1:=by simpa using ih
     have:=Zu ih (show 0<=-x by grind);have e:(((1:Int)*-1:Int):Rat)=-1:=rfl;rw [e]; grind
    ·have ih:ld<=y*(-1):=by simpa using ih
     have:=Zu ih (show 0<=-x by grind);have e:(((-1:Int)*-1:Int):Rat)=1:=rfl;rw [e]; grind
  ·have hq:Fe x=x:=by unfold Fe; rw [if_neg hneg]
   rw [hq] at hx0 hb;rw [if_neg λh=>hneg h.1] at ih ⊢;rcases hsv with rfl | rfl
   ·have ih:ld<=y*1:=by simpa using ih
    have:=Zu ih (show 0<=x by grind);have e:(((1:Int)*1:Int):Rat)=1:=rfl;rw [e]; grind
   ·have ih:ld<=y*(-1):=by simpa using ih
    have:=Zu ih (show 0<=x by grind);have e:(((-1:Int)*1:Int):Rat)=-1:=rfl;rw [e]; grind
theorem sR {p:Uk} (tp:U7 p) (lp:p.length≠0) {x:Rat} (hx:Gq p<=Fe x):1<=Fe (U4 p x)/\(0<=x->Hz p x=UV p)/\(x<0->Hz p x=ZV p):=by
 have hl:=L9 tp lp;have hpos:0<(Fi p).natAbs:=by omega
 have h1:(1:Rat)<=((Fi p).natAbs:Rat):=by
  have:((1:Nat):Rat)<=((Fi p).natAbs:Rat):=Zl.2 hpos;exact this
 have hm0:(0:Rat)<=((most (p.take (p.length-1)):Nat):Rat):=Xh;have hb:=NW hl;have hx1:=Ze hx (show (0:Rat)<=((Fi p).natAbs:Rat) by grind);have hx2:1<=Fe x:=by
  rcases Fx 1 (Fe x) with h | h
  ·exact h
  ·exfalso;have:=Vy h (show (0:Rat)<((Fi p).natAbs:Rat) by grind);grind
 have key:=lD (m:=most (p.take (p.length-1))) hx2 p lp (λz hz=>Qnw z hz) hl (by grind);obtain ⟨s,hs⟩:∃ s:Int,s=Int.sign (Fi p)*(if x<0/\p.length % 2=0 then -1 else 1):=⟨_,rfl⟩;rw [<-hs] at key;have hsv:s=1\/s=-1:=by
  rw [hs];rcases Kc hl with h | h
  ·rw [J4 h]; split <;> simp
  ·rw [Ys h]; split <;> simp
 have hsg:Hz p x=s/\1<=Fe (U4 p x):=by
  rw [M8];rcases hsv with e | e
  ·rw [e] at key ⊢;have key:((Fi p).natAbs:Rat)<=U4 p x:=by simpa using key
   exact ⟨Ho.2 (by grind),by unfold Fe; rw [if_neg (by grind)]; grind⟩
  ·rw [e] at key ⊢;have key:((Fi p).natAbs:Rat)<=U4 p x*(-1):=by simpa using key
   exact ⟨Sy.2 (by grind),by unfold Fe; rw [if_pos (by grind)]; grind⟩
 refine ⟨hsg.2,λh=>?_,λh=>?_⟩
 ·rw [hsg.1,hs,if_neg λh'=>by have:=h'.1; grind]; unfold UV; omega
 ·rw [hsg.1,hs]; unfold ZV;by_cases he:p.length % 2=0
  ·rw [if_pos ⟨h,he⟩,if_pos he]; omega
  ·rw [if_neg λh'=>he h'.2,if_neg he]; omega
theorem JK {f g:Uk->Int}:∀ {l:Ul} (s:Nat×Int),(∀ p∈l,f p=g p)->l.foldl (Ph f) s=l.foldl (Ph g) s
 | [],s,_=>rfl
 |
  p::l,s,h=>by
  simp only [Z8];have e:Ph f s p=Ph g s p:=by unfold Ph; rw [h p (List.mem_cons_self ..)]
  rw [e]; exact JK _ λq hq=>h q (Qg _ hq)
theorem lS:∀ (l:Ul),(∀ p∈l,U7 p/\p.length≠0)->∃ X:Rat,0<X/\∀ x,X≤x->(∀ p∈l,Hz p x=UV p)/\∀ p∈l,Hz p (-x)=ZV p
 | [],_=>⟨1,by decide,λx _=>⟨(λp hp=>by cases hp),(λp hp=>by cases hp)⟩⟩
 |
  p::l,h=>by
  obtain ⟨X,hX,hl⟩:=lS l λq hq=>h q (Qg _ hq)
  obtain ⟨tp,lp⟩:=h p (Qy ..);refine ⟨X+Fe (Gq p),by have:=Hm (Gq p); grind,λx hx=>?_⟩;have hb0:=Hm (Gq p);have hb1:Gq p<=Fe (Gq p):=by unfold Fe; split <;> grind
  obtain ⟨l1,l2⟩:=hl x (by grind);have e1:Fe x=x:=by unfold Fe; rw [if_neg (by grind)]
  have e2:Fe (-x)=x:=by rw [Ed,e1]
  refine ⟨λq hq=>?_,λq hq=>?_⟩
  ·rcases Ql.1 hq with rfl | hq
   ·exact (sR tp lp (x:=x) (by rw [e1]; grind)).2.1 (by grind)
   ·exact l1 q hq
  ·rcases Ql.1 hq with rfl | hq
   ·exact (sR tp lp (x:=-x) (by rw [e2]; grind)).2.2 (by grind)
   ·exact l2 q hq
theorem cS {q:Uk} {L:Uo} (hS:GW (cz q) L) (tq:U7 q) (lq:q.length≠0) {x y:Rat} (hxy:x<y) (h:Gq q<=x\/y<=-Gq q) (hb:0<Gq q):vv L x=vv L y:=by
 rcases Classical.em (vv L x=vv L y) with e | e
 ·exact e
 ·exfalso;obtain ⟨r,r1,r2,r3⟩:=yD hS hxy e (d:=1) (by decide);have:=(sR tq lq (x:=r) (by rcases h with h | h <;> (unfold Fe; split <;> grind))).1;rw [U5] at r3; grind
theorem GR {p:Uk} (h:Fi p≠0):1<=Gq p:=by
 have hb:=NW h;have hp:=nat_pos (show 0<(Fi p).natAbs by omega);have hm0:(0:Rat)<=((most (p.take (p.length-1)):Nat):Rat):=Xh;rcases Fx 1 (Gq p) with h' | h'
 ·exact h'
 ·have:=Vy h' hp; grind
theorem Qcb {q:Uk} {l:Ul} (hS:GW (cz q) ((q::l).map cz)) (hl:∀ p∈q::l,U7 p/\p.length≠0):KE (q::l)=(vv ((q::l).map cz) (-Gq q):Int)-(vv ((q::l).map cz) (Gq q):Int):=by
 obtain ⟨tq,lq⟩:=hl q (Qy ..);have hb:=GR (L9 tq lq);obtain ⟨X,hX,hx⟩:=lS (q::l) hl;obtain ⟨h1,h2⟩:=hx (X+Gq q) (by grind);have e1:Cj UV (q::l)=vv ((q::l).map cz) (X+Gq q):=by
  rw [<-QE]; unfold Ck Cj;rw [JK (f:=UV) (g:=λp=>Hz p (X+Gq q)) (0,0) λp hp=>(h1 p hp).symm]
 have e2:Cj ZV (q::l)=vv ((q::l).map cz) (-(X+Gq q)):=by
  rw [<-QE]; unfold Ck Cj;rw [JK (f:=ZV) (g:=λp=>Hz p (-(X+Gq q))) (0,0) λp hp=>(h2 p hp).symm]
 unfold KE;rw [e1,e2,cS hS tq lq (x:=-(X+Gq q)) (y:=-Gq q) (by grind) (.inr Qp) (by grind),<-cS hS tq lq (x:=Gq q) (y:=X+Gq q) (by grind) (.inl Qp) (by grind)]
theorem Qt9 {f:Un} {L:Uo} (hS:GW f L) {x y:Rat} (hxy:x<y) (hv:vv L y+2<=vv L x):∃ m,x<m/\m<y/\vv L m<vv L x/\vv L y<vv L m/\ev f m≠0:=by
 obtain ⟨R,hR,hx,hy⟩:=zZ x y;obtain ⟨e,ep,he⟩:=Qj9 hS R hR;have key:∀ n:Nat,∀ x,Fe x<=R->x<y->vv L y+2<=vv L x->y-x<=(n:Rat)*e->∃ m,x<m/\m<y/\vv L m<vv L x/\vv L y<vv L m:=by
  intro n
  induction n with
  | zero=>intro x _ hxy _ hn; rw [show ((0:Nat):Rat)=0 from rfl] at hn; exfalso; clear he; grind
  |
   succ n ih =>
   intro x hx hxy hv hn;have hn':(((n+1:Nat):Rat))=(n:Rat)+1:=by push_cast; rfl
   rw [hn'] at hn;rcases Fx (y-x) e with h1 | h1
   ·have:=he x y hx hy hxy h1; omega
   ·have hm:Fe (x+e)<=R:=UR hx hy (by clear he ih; grind) (by clear he ih; grind);have h2:=he x (x+e) hx hm (by clear he ih; grind) (by clear he ih; grind);have h3:=Ar hS (show x<x+e by clear he ih; grind);by_cases h4:vv L x=vv L (x+e)
    ·obtain ⟨m,m1,m2,m3,m4⟩:=ih (x+e) hm (by clear he ih; grind) (by omega) (by clear he ih; grind);exact ⟨m,by clear he ih; grind,m2,by omega,m4⟩
    ·exact ⟨x+e,by clear he ih; grind,by clear he ih; grind,by omega,by omega⟩
 obtain ⟨n,hn⟩:=ZT (z:=y-x) ep;obtain ⟨m,m1,m2,m3,m4⟩:=key n x hx hxy hv hn;rcases Classical.em (ev f m=0) with h0 | h0
 ·-- a little farther on
  obtain ⟨e2,e2p,hl⟩:=loc hR hS (w:=f) (u:=[1]) (λt=>by rw [Rt]; grind);obtain ⟨d,dp,d1,d2⟩:=min2 (a:=e2) (b:=(y-m) / 2) e2p (E5 (by clear he key hl; grind) (by decide));have h2:(y-m) / 2*2=y-m:=G8 (by decide);have hmR:Fe m<=R:=UR hx hy (Qt m1) (Qt m2);have hmR2:Fe (m+d)<=R:=UR hx hy (by clear he key hl; grind) (by clear he key hl; grind);rcases hl m (m+d) hmR hmR2 (by clear he key hl; grind) (by clear he key hl; grind) with ⟨p1,p2,_⟩ | ⟨_,p1,_,p3,_⟩
  ·refine ⟨m+d,by clear he key hl; grind,by clear he key hl; grind,by omega,by omega,λh'=>?_⟩;have:=p2.s;rw [Gg.2 h'] at this; exact p2.n this.symm
  ·rw [Gg.2 h0] at p3; exact absurd p3.symm p1
 ·exact ⟨m,m1,m2,m3,m4,h0⟩
theorem Qpq {q:Uk} {L:Uo} (hS:GW (cz q) L) (tq:U7 q) (nq:q.length<=9) (lq:2<=q.length) {lo hi:Rat} (hl:lo<hi) (hv:vv L hi+2<=vv L lo):1<(hi-lo)*((2^(To q q+1):Nat):Rat):=by
 rcases Fx ((hi-lo)*((2^(To q q+1):Nat):Rat)) 1 with hw | hw
 ·exfalso;have hpow:(0:Rat)<=((2^(To q q+1):Nat):Rat):=Xh;obtain ⟨m,m1,m2,m3,m4,m0⟩:=Qt9 hS hl hv;obtain ⟨R,hR,r1,r2⟩:=zZ lo hi;have hd:=Cf m0;obtain ⟨d,dp,_,db⟩:=Hb (b:=EP R (cz q)) (d:=Fe (ev (cz q) m) / 2) (Mp hR _) (E5 hd (by decide));have hd2:Fe (ev (cz q) m) / 2*2=Fe (ev (cz q) m):=G8 (by decide);have hmR:Fe m<=R:=UR r1 r2 (Qt m1) (Qt m2);have hnear:∀ r,Fe r<=R->Fe (ev (cz q) r)<Fe (ev (cz q) m) / 2->d<Fe (r-m):=λr hr hs=>by
   rcases Fx (Fe (r-m)) d with h | h
   ·exfalso;have h1:=Py (p:=cz q) hmR hr hR h db;have h2:=Tw (ev (cz q) m-ev (cz q) r) (ev (cz q) r);rw [show ev (cz q) m-ev (cz q) r+ev (cz q) r=ev (cz q) m by grind,iU] at h2;grind
   ·exact h
  refine Qge (R:=R+1) (d:=d+d) tq tq nq nq lq lq (by grind) (by grind) λe ep=>?_
  obtain ⟨e',ep',e1,e2⟩:=min2 (a:=e) (b:=Fe (ev (cz q) m) / 2) ep (E5 hd (by decide));obtain ⟨x,x1,x2,x3⟩:=yD hS m1 (by omega) ep';obtain ⟨y,y1,y2,y3⟩:=yD hS m2 (by omega) ep';have hxR:Fe x<=R:=UR r1 r2 x1 (by grind);have hyR:Fe y<=R:=UR r1 r2 (by grind) y2;have nx:=hnear x hxR (by grind);have ny:=hnear y hyR (by grind);have ex:Fe (x-m)=m-x:=by unfold Fe; split <;> grind
  have ey:Fe (y-m)=y-m:=by unfold Fe; split <;> grind
  rw [ex] at nx;rw [ey] at ny;have exy:Fe (x-y)=y-x:=by unfold Fe; split <;> grind
  refine ⟨x,y,by grind,by grind,by rw [exy]; grind,?_,by rw [<-U5]; grind,by rw [<-U5]; grind⟩;rw [exy];exact Zk (Ze (show y-x<=hi-lo by grind) hpow) hw
 ·exact hw
end Orq
