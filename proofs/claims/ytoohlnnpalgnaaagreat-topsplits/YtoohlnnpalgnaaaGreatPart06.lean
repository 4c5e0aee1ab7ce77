/- T10 T11 T12 T13 T14 T15 T16 T17 T18 T19 T20 T21 T22 T23 -/
import Derived.Test.YtoohlnnpalgnaaaGreatPart05
import Derived.Test.YtoohlnnpalgnaaaGreatPart00
set_option linter.all false
namespace Orq
def AZ (A B:Uk) (b J J' n k j:Nat):Int:=if n<b*J then PW (n / J) (n % J) (fA A) k j else PW ((n-b*J) / J') ((n-b*J) % J') (gc B) k j
theorem Qjh {F:Nat->Nat->Int} {h:Nat} (hF:∀ k j,(F k j).natAbs<=h) (i j' k j:Nat):(PW i j' F k j).natAbs<=h:=by
 unfold PW; split
 ·split
  ·exact hF _ _
  ·exact Qh _
 ·exact Qh _
theorem Qq4 {i b J j:Nat} (hi:i<b) (hj:j<J):i*J+j<b*J:=by
 have:(i+1)*J<=b*J:=Qz J hi;rw [Z9] at this; omega
theorem HB {i J j:Nat} (hj:j<J):(i*J+j) / J=i/\(i*J+j) % J=j:=by
 rw [Zp,W7 (by omega),W8,V2 hj,Xs hj]; exact ⟨by omega,rfl⟩
theorem qE (A B:Uk) (a b J J':Nat) (v:Nat->Int) (k j:Nat):sm (b*J+a*J') (λn=>AZ A B b J J' n k j*v n) =
 (sm b λi=>sm J λj1=>PW i j1 (fA A) k j*v (i*J+j1))+sm a λi=>sm J' λj1=>PW i j1 (gc B) k j*v (b*J+(i*J'+j1)):=by
 rw [bK,bW,bW];congr 1
 ·refine Ld b λi hi=>Ld J λj1 hj=>?_
  unfold AZ;rw [if_pos (Qq4 hi hj),(HB hj).1,(HB hj).2]
 ·refine Ld a λi hi=>Ld J' λj1 hj=>?_
  unfold AZ;rw [if_neg (by omega),Jj,(HB hj).1,(HB hj).2]
theorem Qwy (A:Uk) (v:Nat->Int) {i J k j:Nat} (hj:j<J):(sm J λj1=>PW i j1 (fA A) k j*v (i*J+j1))=if i<=k then A.getD (k-i) 0*v (i*J+j) else 0:=by
 rw [LC (k:=j) J hj λj1 _ hne=>?_]
 ·unfold PW fA;by_cases h:i<=k
  ·rw [if_pos h,if_pos h,if_pos (Ql _),if_pos (Ki _)]
  ·rw [if_neg h,if_neg h,Yv]
 ·unfold PW fA;by_cases h:i<=k
  ·rw [if_pos h];by_cases h':j1<=j
   ·rw [if_pos h',if_neg (by omega),Yv]
   ·rw [if_neg h',Yv]
  ·rw [if_neg h,Yv]
section
variable {A B:Uk} {a b J J':Nat} (hA:A.length=a+1) (hB:B.length=b+1) (lA:A.getD a 0≠0) (lB:B.getD b 0≠0) (hJ:J=J'+b) {v:Nat->Int} (hW:∀ k j,k<a+b->j<J->sm (b*J+a*J') (λn=>AZ A B b J J' n k j*v n)=0)
include hA lA hW in
theorem Qqt {jj:Nat} (hj:jj<J) (hV:∀ k,a<=k->k<a+b->(sm a λi=>sm J' λj1=>PW i j1 (gc B) k jj*v (b*J+(i*J'+j1)))=0):∀ d i,i<b->b-i<=d->v (i*J+jj)=0:=by
 intro d
 induction d with
 | zero=>intro i hi hd; omega
 |
  succ d ih =>
  intro i hi hd;have h1:=hW (i+a) jj (by omega) hj;rw [qE,hV (i+a) (by omega) (by omega)] at h1;rw [Ld b (λi' hi'=>Qwy A v hj)] at h1;rw [LC (k:=i) b hi λi' hi' hne=>?_] at h1
  ·rw [if_pos (by omega),Jj,Int.add_zero] at h1;rcases Yb.1 h1 with h2 | h2
   ·exact absurd h2 lA
   ·exact h2
  ·rcases Q9 i i' with h | h
   ·rw [ih i' hi' (by omega)]; simp
   ·rw [if_pos (by omega),Qi,Qw (by omega)]; simp
include hA hB lA lB hJ hW in
theorem Qw4:∀ d js,js<J'->J'-js<=d->∀ i,i<a->v (b*J+(i*J'+js))=0:=by
 intro d
 induction d with
 | zero=>intro js hi hd; omega
 |
  succ d ih =>
  intro js hjs hd i hi;have hin:∀ i' k,i'<a->(sm J' λj1=>PW i' j1 (gc B) k (js+b)*v (b*J+(i'*J'+j1)))=if i'=k then gc B 0 b*v (b*J+(i'*J'+js)) else 0:=λi' k hi'=>by
   rw [LC (k:=js) J' hjs λj1 hj1 hne=>?_]
   ·unfold PW;by_cases h:i'<=k
    ·rw [if_pos h,if_pos (by omega),Jj];by_cases h':i'=k
     ·rw [if_pos h',h',Ki]
     ·rw [if_neg h',MJ B _ _ (by omega),Yv]
    ·rw [if_neg h,if_neg (by omega),Yv]
   ·rcases Q9 js j1 with h | h
    ·rw [ih j1 hj1 (by omega) i' hi',Wc]
    ·unfold PW;by_cases h':i'<=k
     ·rw [if_pos h',if_pos (by omega),MJ B _ _ (by omega),Yv]
     ·rw [if_neg h',Yv]
  have hU:=Qqt hA lA hW (jj:=js+b) (by omega) (λk hk hk'=>YP a λi' hi'=>by rw [hin i' k hi',if_neg (by omega)]) (b+1);have h1:=hW i (js+b) (by omega) (by omega);rw [qE,Ld a (λi' hi'=>hin i' i hi')] at h1;rw [YP b λi' hi'=>by
   rw [Qwy A v (by omega),hU i' hi' (by omega)]; simp] at h1
  rw [LC (k:=i) a hi λi' hi' hne=>if_neg hne,if_pos rfl,Int.zero_add] at h1;rcases Yb.1 h1 with h2 | h2
  ·have:=Qgm B b hB; rw [h2] at this; omega
  ·exact h2
include hA hB lA lB hJ hW in
theorem Qc7:∀ n,n<b*J+a*J'->v n=0:=by
 intro n hn;have hV:=Qw4 hA hB lA lB hJ hW;rcases Q9 n (b*J) with h | h
 ·have hJp:0<J:=by
   rcases Q0 J with e | e
   ·rw [e,Yw] at h; omega
   ·exact e
  have e1:=Z5 n hJp;have e2:n / J<b:=X9 (by rw [Zp]; exact h);have:=Qqt hA lA hW e1 (λk _ _=>YP a λi hi=>YP J' λj1 hj1=>by rw [hV J' j1 hj1 (by omega) i hi,Wc]) (b+1) (n / J) e2 (Qc (Nat.sub_le _ _) (Nat.le_succ _));rwa [Zp,Xc] at this
 ·have hJp:0<J':=by
   rcases Q0 J' with e | e
   ·rw [e,Yw] at hn; omega
   ·exact e
  have e1:=Z5 (n-b*J) hJp;have e2:(n-b*J) / J'<a:=X9 (by rw [Zp J' a]; omega);have:=hV J' _ e1 (by omega) _ e2;rw [Zp ((n-b*J) / J'),Xc] at this;rwa [show b*J+(n-b*J)=n by omega] at this
end
theorem YH {R x:Rat} (h1:1<=R) (hx:Fh x<=R):∀ k:Nat,Fh (x^k)<=R^k/\1<=R^k
 | 0=>by rw [Xe,Xe]; exact ⟨by decide,by decide⟩
 |
  k+1=>by
  obtain ⟨i1,i2⟩:=YH h1 hx k;rw [Z7,Z7];have:=Ce (a:=1) (c:=1) (by decide) i2 (by decide) h1;exact ⟨Ha i1 hx,by grind⟩
theorem iZ {R:Rat} (h1:1<=R) {i:Nat}:∀ k,i<=k->R^i<=R^k
 | 0,h=>by rw [show i=0 by omega]; exact Qp
 |
  k+1,h=>by
  rcases Vm h with e | e
  ·have:=iZ h1 (i:=i) k (by omega);have h2:=(YH h1 (x:=0) (by rw [Re]; grind) k).2;rw [Z7];have:=Ce (a:=R^k) (b:=R^k) (c:=1) (d:=R) (by grind) Qp (by decide) h1;grind
  ·rw [e]; exact Qp
theorem Qjg {F:Nat->Nat->Int} {i j' K J:Nat} {x y R X:Rat} {K2 J2:Nat} (h1:1<=R) (hx:Fh x<=R) (hy:Fh y<=R) (hK:K=i+K2) (hJ:J=j'+J2) (hF:E2 F K2 J2 x y=X):Fh (E2 (PW i j' F) K J x y)<=R^(K+J)*Fh X:=by
 subst hK; subst hJ;rw [BE,hF,Ia];have a1:=(YH h1 hy i).1;have a2:=(YH h1 hx j').1;have a3:=Ha a1 a2;rw [<-FT] at a3;have a4:=iZ h1 (i:=i+j') (i+K2+(j'+J2)) (by omega);exact Ce (Hq _) (Zk a3 a4) (Hq _) Qp
theorem Qu4 {A B:Uk} {a b h:Nat} (hA:A.length=a+1) (hB:B.length=b+1) (lA:A.getD a 0≠0) (lB:B.getD b 0≠0) (ha:0<a) (hb:0<b) (h0:1<=h) (bA:∀ k,(A.getD k 0).natAbs<=h) (bB:gB B<=h) {J J' N H:Nat} (hJ:J=2*(a*b)) (hJ':J=J'+b) (hN:N=b*J+a*J') (hH:H=(2*(N*h))^(2*(a+b-1))) :
 ∃ w:Nat->Int,(∃ j,j<J/\w j≠0)/\(∀ j,(w j).natAbs<=N*(h*H))/\∀ R:Rat,1<=R->∃ C:Rat,0<=C/\∀ x y,Fh x<=R->Fh y<=R->Fh (sq J λj=>(w j:Rat)*x^j)<=C*(Fh (U7 A y)+Fh (U7 B (y-x))):=by
 have hab:0<a*b:=J4 ha hb;have hbd:∀ n k j,(AZ A B b J J' n k j).natAbs<=h:=λn k j=>by
  unfold AZ
  split
  ·exact Qjh (λk j=>by unfold fA; split; exact bA k; exact Nat.zero_le _) _ _ _ _
  ·exact Qjh (λk j=>Qc (Qgl B k j) bB) _ _ _ _
 have hJp:0<J:=by omega
 have hNp:1<=N:=by
  have:0<b*J:=J4 hb hJp;omega
 have hNh:1<=N*h:=J4 hNp h0;obtain ⟨E,hE⟩:=nmE ((a+b-1)*J);have hNE:N=E+a*b:=by
  have e1:(a+b-1)*J+J=(a+b)*J:=by
   rw [<-Z9]; congr 1; omega
  have e2:a*J=a*J'+a*b:=by rw [hJ',Xi]
  rw [X2] at e1;omega
 have hc:(2*(N*(h*H))+1)^E<(H+1)^N:=by
  have c1:2*(N*(h*H))+1<=2*(N*h)*(H+1):=by
   rw [Xi,Ys,Xw 2,Xw N]; omega
  refine Z4 (Nat.pow_le_pow_left c1 E) ?_;rw [Nat.mul_pow,hNE,Xd,Zp];refine Nat.mul_lt_mul_of_pos_left ?_ (Z3 (by omega));have e1:(2*(N*h))^E=H^(a*b):=by
   rw [hH,<-Ks,hE,hJ]; congr 1;rw [Zp 2 (a+b-1),Xw]
  rw [<-hNE,e1];exact Nat.pow_lt_pow_left (by omega) (by omega)
 obtain ⟨v,v1,⟨n0,n1,n2⟩,v3⟩:=Qu8 (M:=λe n=>AZ A B b J J' n (e / J+1) (e % J)) (h:=h) (N:=N) (E:=E) (H:=H) (λe n=>hbd n _ _) hc;have hW:∀ k j,1<=k->k<a+b->j<J->sm N (λn=>AZ A B b J J' n k j*v n)=0:=λk j k1 k2 hj=>by
  have:=v3 ((k-1)*J+j) (by rw [hE]; exact Qq4 (by omega) hj);rwa [(HB hj).1,(HB hj).2,show k-1+1=k by omega] at this
 refine ⟨λj=>sm N λn=>AZ A B b J J' n 0 j*v n,?_,λj=>?_,λR hR=>?_⟩
 ·rcases Classical.em (∃ j,j<J/\(sm N λn=>AZ A B b J J' n 0 j*v n)≠0) with e | e
  ·exact e
  ·exfalso;refine n2 (Qc7 hA hB lA lB hJ' (v:=v) (λk j hk hj=>?_) n0 (by rw [<-hN]; exact n1));rw [<-hN];rcases Q0 k with e' | e'
   ·subst e';rcases Classical.em ((sm N λn=>AZ A B b J J' n 0 j*v n)=0) with e2 | e2
    ·exact e2
    ·exact absurd ⟨j,hj,e2⟩ e
   ·exact hW k j e' hk hj
 ·refine Qjo N λn _=>?_
  rw [J6];exact Zf (hbd n 0 j) (v1 n)
 ·have hRp:∀ k:Nat,1<=R^k:=λk=>(YH hR (x:=0) (by rw [Re]; grind) k).2
  have hHn:(0:Rat)<=(H:Rat):=Xh;have hNn:(0:Rat)<=(N:Rat):=Xh;refine ⟨(N:Rat)*((H:Rat)*R^(a+b+J)),Nw hNn (Nw hHn (by have:=hRp (a+b+J); grind)),λx y hx hy=>?_⟩;have e1:(sq J λj=>((sm N λn=>AZ A B b J J' n 0 j*v n:Int):Rat)*x^j)=E2 (λk j=>sm N λn=>AZ A B b J J' n k j*v n) (a+b) J x y:=by
   unfold E2;obtain ⟨m,hm⟩:∃ m,a+b=m+1:=⟨a+b-1,by omega⟩;rw [hm,Ow,Cn (n:=m)]
   ·have:(sq J λj=>((sm N λn=>AZ A B b J J' n 0 j*v n:Int):Rat)*(y^0*x^j))=sq J λj=>((sm N λn=>AZ A B b J J' n 0 j*v n:Int):Rat)*x^j:=Pi J λj _=>by rw [Xe]; grind
    rw [this]; grind
   ·intro k hk;refine Cn J λj hj=>?_
    show ((sm N λn=>AZ A B b J J' n (k+1) j*v n:Int):Rat)*_=0;rw [hW (k+1) j (by omega) (by omega) hj,show ((0:Int):Rat)=0 from rfl]; grind
  rw [e1,Qf3];have key:∀ n,n<N->Fh ((v n:Rat)*E2 (AZ A B b J J' n) (a+b) J x y)<=(H:Rat)*(R^(a+b+J)*(Fh (U7 A y)+Fh (U7 B (y-x)))):=λn hn=>by
   have hvn:Fh (v n:Rat)<=(H:Rat):=by
    have h1:=v1 n;have h2:(v n)<=(H:Int):=by omega
    have h3:-(H:Int)<=v n:=by omega
    have h2:=Jc.2 h2;have h3:=Jc.2 h3;rw [Vn] at h3;rw [P9]; exact ⟨h3,h2⟩
   refine Ha hvn ?_;have hRk:=hRp (a+b+J);have n1:=Hq (U7 A y);have n2:=Hq (U7 B (y-x));rcases Q9 n (b*J) with h | h
   ·have e:AZ A B b J J' n=PW (n / J) (n % J) (fA A):=by funext k j; unfold AZ; rw [if_pos h]
    have d1:n / J<b:=X9 (by rw [Zp]; exact h);have d2:=Z5 n hJp;rw [e];refine Zk (Qjg (K2:=a+b-n / J) (J2:=J-n % J) hR hx hy (by omega) (by omega) (X:=U7 A y) ?_) (Ce (by grind) Qp n1 (by grind));obtain ⟨m,hm⟩:∃ m,J-n % J=m+1:=⟨J-n % J-1,by omega⟩;rw [hm]; exact Qw6 A _ _ x y (by omega)
   ·have e:AZ A B b J J' n=PW ((n-b*J) / J') ((n-b*J) % J') (gc B):=by funext k j; unfold AZ; rw [if_neg (by omega)]
    have hJp':0<J':=by
     rcases Q0 J' with e | e
     ·rw [e,Yw] at hN; omega
     ·exact e
    have d1:(n-b*J) / J'<a:=X9 (by rw [Zp J' a]; omega);have d2:=Z5 (n-b*J) hJp';rw [e];refine Zk (Qjg (K2:=a+b-(n-b*J) / J') (J2:=J-(n-b*J) % J') hR hx hy (by omega) (by omega) (X:=U7 B (y-x)) ?_) (Ce (by grind) Qp n2 (by grind));exact Qtf x y B _ _ (by omega) (by omega)
  have:=Qrj N key;refine Zk this ?_;have:(N:Rat)*((H:Rat)*(R^(a+b+J)*(Fh (U7 A y)+Fh (U7 B (y-x)))))=(N:Rat)*((H:Rat)*R^(a+b+J))*(Fh (U7 A y)+Fh (U7 B (y-x))):=by grind
  rw [this]; exact Qp
end Orq
namespace Orq
theorem Qjs {w:Nat->Int} {x:Rat} {D:Rat} (hx:Fh x*2<=1) (hw:∀ j,Fh (w j:Rat)<=D):∀ J (k:Nat),Fh (sq J λj=>(w (k+j):Rat)*x^j)<=2*D
 | 0,k=>by have:=hw 0; have:=Hq (w 0:Rat); simp only [sq,Re]; clear hw; grind
 |
  J+1,k=>by
  have ih:=Qjs hx hw J (k+1);rw [Ow];have e:(sq J λi=>(w (k+(i+1)):Rat)*x^(i+1))=x*sq J λi=>(w (k+1+i):Rat)*x^i:=by
   rw [<-JY]; exact Pi J λi _=>by rw [Z7,show k+(i+1)=k+1+i by omega]; grind
  rw [e,Xe,Xk];have h1:=hw k;have h2:=Se ((w k:Rat)*1) (x*sq J λi=>(w (k+1+i):Rat)*x^i);have h3:=Ha (x:=x) (y:=sq J λi=>(w (k+1+i):Rat)*x^i) Qp ih;have h4:=Zc hx (show (0:Rat)<=D by have:=Hq (w k:Rat); clear hw; grind);have h5:(w k:Rat)*1=w k:=by grind
  rw [h5] at h2 ⊢;clear hw; grind
theorem KP {z:Int} (h:z≠0):1<=Fh (z:Rat):=by
 unfold Fh;rcases Ke h with h | h
 ·have:((z:Int):Rat)<((0:Int):Rat):=Jo.2 h;have h2:((1:Int):Rat)<=((-z:Int):Rat):=Jc.2 (by omega);rw [if_pos (by simpa using this)];rw [Vn] at h2;simpa using h2
 ·have:((0:Int):Rat)<((z:Int):Rat):=Jo.2 h;have h2:((1:Int):Rat)<=((z:Int):Rat):=Jc.2 (by omega);rw [if_neg (by
   have:(0:Rat)<z:=by simpa using this
   grind)]
  simpa using h2
theorem mG {w:Nat->Int} {x:Rat} {D:Rat} (hD:1<=D) (hx0:0<Fh x) (hx:Fh x*(4*D)<=1) (hw:∀ j,Fh (w j:Rat)<=D):∀ J (k:Nat),(∃ j,j<J/\w (k+j)≠0)->Fh x^J / 2<=Fh (sq J λj=>(w (k+j):Rat)*x^j)
 | 0,k,⟨j,h,_⟩=>by omega
 |
  J+1,k,⟨j,h1,h2⟩=>by
  have hx2:Fh x*2<=1:=by
   have:=Ce (a:=Fh x) (c:=2) (Qr hx0) Qp (by decide) (show (2:Rat)<=4*D by clear hw; grind);exact Zk this hx
  have hx1:Fh x<=1:=by clear hw; grind
  have hp:∀ k:Nat,Fh x^k<=1/\0<=Fh x^k:=λk=>by
   induction k with
   | zero=>rw [Xe]; exact ⟨by decide,by decide⟩
   |
    succ k ih =>
    rw [Z7];have:=Ce ih.2 ih.1 (Qr hx0) hx1;have:=Nw ih.2 (Qr hx0);constructor <;> (clear hw; grind)
  rw [Ow];have e:(sq J λi=>(w (k+(i+1)):Rat)*x^(i+1))=x*sq J λi=>(w (k+1+i):Rat)*x^i:=by
   rw [<-JY]; exact Pi J λi _=>by rw [Z7,show k+(i+1)=k+1+i by omega]; grind
  rw [e,Xe,Xk k,show (w k:Rat)*1=w k by grind];by_cases h0:w k=0
  ·have hj:j≠0:=λe=>h2 (by rw [e]; exact h0)
   have ih:=mG hD hx0 hx hw J (k+1) ⟨j-1,by omega,by rw [show k+1+(j-1)=k+j by omega]; exact h2⟩;rw [h0,show ((0:Int):Rat)+x*(sq J λi=>(w (k+1+i):Rat)*x^i)=x*sq J λi=>(w (k+1+i):Rat)*x^i by rw [show ((0:Int):Rat)=0 from rfl]; grind,Ia,Z7];have:=Z1 ih (Qr hx0);have e2:Fh x*(Fh x^J / 2)=Fh x^J*Fh x / 2:=by rw [Jn,Jn]; grind
   rw [e2] at this; exact this
  ·have a1:=KP h0;have a2:=Qjs hx2 hw J (k+1);have a3:=Ha (x:=x) (y:=sq J λi=>(w (k+1+i):Rat)*x^i) Qp a2;have a4:=Se ((w k:Rat)+x*sq J λi=>(w (k+1+i):Rat)*x^i) (-(x*sq J λi=>(w (k+1+i):Rat)*x^i));rw [Ef,show (w k:Rat)+(x*sq J λi=>(w (k+1+i):Rat)*x^i)+-(x*sq J λi=>(w (k+1+i):Rat)*x^i)=w k by grind] at a4;have a5:=(hp (J+1)).1;have a6:Fh x^(J+1) / 2*2=Fh x^(J+1):=Hb (by decide);have a7:Fh x*(2*D)*2=Fh x*(4*D):=by grind
   clear hw hp; grind
theorem Qtx {A B:Uk} {a b h:Nat} (hA:A.length=a+1) (hB:B.length=b+1) (lA:A.getD a 0≠0) (lB:B.getD b 0≠0) (ha:0<a) (hb:0<b) (h0:1<=h) (bA:∀ k,(A.getD k 0).natAbs<=h) (bB:gB B<=h) {N D:Nat} (hN:b*(2*(a*b))+a*(2*(a*b)-b)=N) (hD:N*(h*(2*(N*h))^(2*(a+b-1)))<=D) {R d:Rat} (hR:1<=R) (dp:0<d)
 (hs:∀ e:Rat,0<e->∃ q r,Fh q<=R/\Fh r<=R/\d<=Fh (q-r)/\Fh (q-r)*(4*(D:Rat))<=1/\Fh (U7 A q)<e/\Fh (U7 B r)<e):False:=by
 have hab:0<a*b:=J4 ha hb;have hbab:b<=a*b:=by
  have:=Qz b (show 1<=a from ha); omega
 obtain ⟨w,⟨j,hj,hw0⟩,hw,hC⟩:=Qu4 hA hB lA lB ha hb h0 bA bB (J:=2*(a*b)) (J':=2*(a*b)-b) rfl (by omega) hN.symm rfl;obtain ⟨C,hC0,hC⟩:=hC (2*R) (by grind);have hw':∀ j,Fh (w j:Rat)<=(D:Rat):=λj=>by
  have h1:=Qc (hw j) hD;have h2:w j<=(D:Int):=by omega
  have h3:-(D:Int)<=w j:=by omega
  have h2:=Jc.2 h2;have h3:=Jc.2 h3;rw [Vn] at h3;rw [P9]; exact ⟨h3,h2⟩
 have hD1:(1:Rat)<=(D:Rat):=by
  have:=KP hw0;exact Zk this (hw' j)
 have hdJ:0<d^(2*(a*b)) / 2:=E5 (Rat.pow_pos dp) (by decide);obtain ⟨e,ep,_,he⟩:=Hf (b:=C*2) (d:=d^(2*(a*b)) / 2) (by grind) hdJ;obtain ⟨q,r,q1,r1,d1,d2,aq,br⟩:=hs e ep;have h1:=hC (q-r) q (by
  have:=Se q (-r); rw [Ef] at this; have:q-r=q+-r:=by grind
  grind) (by grind)
 rw [show q-(q-r)=r by grind] at h1;have h2:=mG (x:=q-r) hD1 (by grind) d2 hw' (2*(a*b)) 0 ⟨j,hj,by rw [Zz]; exact hw0⟩;simp only [Zz] at h2;have h3:C*(Fh (U7 A q)+Fh (U7 B r))<=C*(e+e):=Z1 (by grind) hC0;have h4:d^(2*(a*b))<=Fh (q-r)^(2*(a*b)):=by
  generalize 2*(a*b)=J
  induction J with
  | zero=>rw [Xe,Xe]; exact Qp
  |
   succ J ih =>
   rw [Z7,Z7];exact Ce (Qr (Rat.pow_pos dp)) ih (Qr dp) d1
 have h5:d^(2*(a*b)) / 2*2=d^(2*(a*b)):=Hb (by decide);have h6:Fh (q-r)^(2*(a*b)) / 2*2=Fh (q-r)^(2*(a*b)):=Hb (by decide);clear hC hs hw hw';grind
def HD (p:Un) (n:Nat):Prop:=p.getD n 0≠0/\∀ k,n<k->p.getD k 0=0
theorem Rh:∀ (p q:Un) (k:Nat),(Sf p q).getD k 0=p.getD k 0+q.getD k 0
 | [],q,k=>by simp only [Sf,Kt]; grind
 | a::p,[],k=>by simp only [Sf,Kt]; grind
 | a::p,b::q,0=>by simp only [Sf,Zt]
 | a::p,b::q,k+1=>by simp only [Sf,Q4]; exact Rh p q k
theorem T0 (c:Rat):∀ (p:Un) (k:Nat),(Dt c p).getD k 0=c*p.getD k 0
 | [],k=>by simp only [Dt,X7,Kt]; grind
 | a::p,0=>by simp [Dt]
 | a::p,k+1=>by have:=T0 c p k; simp only [Dt,Z0,Q4] at *; exact this
theorem Qgu {p:Un} {k:Nat} (h:∀ x∈p,x=0):p.getD k 0=0:=by
 rw [Qi];cases e:p[k]? with
 | none=>rfl
 | some x=>exact h x (Qa e)
theorem Dm {p q:Un} (h:∀ t,ev p t=ev q t) (k:Nat):p.getD k 0=q.getD k 0:=by
 have h1:=Qgu (k:=k) (WU (p:=Sf p (Dt (-1) q)) λt _ _=>by rw [Gy,Gn,h t]; grind);rw [Rh,T0] at h1; grind
theorem Dy:∀ {p:Un},(∀ k,p.getD k 0=0)->∀ t,ev p t=0
 | [],_,t=>rfl
 |
  a::p,h,t=>by
  have h0:=h 0;have h1:=Dy (p:=p) (λk=>by have:=h (k+1); rwa [Q4] at this) t;rw [Zt] at h0;simp only [ev,h0,h1]; grind
theorem CM:∀ (p:Un),(∀ t,ev p t=0)\/∃ n,n<p.length/\HD p n
 | []=>.inl λ_=>rfl
 |
  a::p=>by
  rcases CM p with h | ⟨n,hn,h1,h2⟩
  ·rcases Classical.em (a=0) with e | e
   ·exact .inl λt=>by simp only [ev,e,h t]; grind
   ·refine .inr ⟨0,by simp,by simpa using e,λk hk=>?_⟩;obtain ⟨m,rfl⟩:∃ m,k=m+1:=⟨k-1,by omega⟩;rw [Q4];exact (Dm (p:=p) (q:=[]) h m).trans (by simp)
  ·refine .inr ⟨n+1,by simp; omega,by rw [Q4]; exact h1,λk hk=>?_⟩;obtain ⟨m,rfl⟩:∃ m,k=m+1:=⟨k-1,by omega⟩;rw [Q4]; exact h2 m (by omega)
theorem Qq2 {p q:Un} {n:Nat} (h:∀ t,ev p t=ev q t) (hp:HD p n):HD q n :=
 ⟨by rw [<-Dm h]; exact hp.1,λk hk=>by rw [<-Dm h]; exact hp.2 k hk⟩
theorem Qq3 {p:Un} {n m:Nat} (h:HD p n) (h':HD p m):n=m:=by
 rcases Km n m with e | e | e
 ·exact absurd (h.2 m e) h'.1
 ·exact e
 ·exact absurd (h'.2 n e) h.1
theorem lM {p:Un} {n:Nat} (h:HD p n):¬∀ t,ev p t=0:=λh0=>h.1 ((Dm (p:=p) (q:=[]) h0 n).trans (by simp))
theorem SQ {p q:Un} (h:∀ k,p.getD k 0=0) (k:Nat):(G5 p q).getD k 0=0:=by
 have:=Dm (p:=G5 p q) (q:=[]) (λt=>by rw [Ff,Dy h t]; simp only [ev]; grind) k;rw [this]; simp
theorem CN:∀ {p q:Un} {m n:Nat},HD p m->HD q n->HD (G5 p q) (m+n)
 | [],q,m,n,h,_=>absurd (by simp) h.1
 |
  a::p,q,0,n,h,h'=>by
  have h1:∀ k,p.getD k 0=0:=λk=>by have:=h.2 (k+1) (by omega); rwa [Q4] at this
  have h2:∀ k,(G5 (a::p) q).getD k 0=a*q.getD k 0:=λk=>by
   simp only [G5];rw [Rh,T0];cases k with
   | zero=>rw [Zt]; grind
   | succ k=>rw [Q4,SQ h1]; grind
  have h3:=h.1;rw [Zt] at h3;refine ⟨?_,λk hk=>?_⟩
  ·rw [h2,Zz]; exact λh=>(Yy.1 h).elim h3 h'.1
  ·rw [h2,h'.2 k (by omega)]; grind
 |
  a::p,q,m+1,n,h,h'=>by
  have ih:=CN (p:=p) (q:=q) (m:=m) ⟨by have:=h.1; rwa [Q4] at this,λk hk=>by have:=h.2 (k+1) (by omega); rwa [Q4] at this⟩ h';refine ⟨?_,λk hk=>?_⟩
  ·simp only [G5];rw [Rh,T0,show m+1+n=(m+n)+1 by omega,Q4,h'.2 _ (by omega)];have:=ih.1; grind
  ·obtain ⟨j,rfl⟩:∃ j,k=j+1:=⟨k-1,by omega⟩;simp only [G5];rw [Rh,T0,Q4,h'.2 _ (by omega),ih.2 j (by omega)]; grind
def ZF (g f:Un):Prop:=∃ u,∀ t,ev f t=ev g t*ev u t
theorem dvd_refl (f:Un):ZF f f:=⟨[1],λt=>by rw [Ry]; grind⟩
theorem dvd_trans {f g h:Un}:ZF f g->ZF g h->ZF f h
 | ⟨u,hu⟩,⟨v,hv⟩=>⟨G5 u v,λt=>by rw [hv,hu,Ff]; grind⟩
theorem fZ {p q:Un} (h:∀ t,ev p t*ev q t=0) (hp:¬∀ t,ev p t=0):∀ t,ev q t=0:=by
 rcases CM p with h1 | ⟨m,_,h1⟩
 ·exact absurd h1 hp
 ·rcases CM q with h2 | ⟨n,_,h2⟩
  ·exact h2
  ·exact absurd (λt=>by rw [Ff]; exact h t) (lM (CN h1 h2))
theorem sA {p q r:Un} (hp:¬∀ t,ev p t=0) (h:∀ t,ev p t*ev q t=ev p t*ev r t) (t:Rat):ev q t=ev r t:=by
 have:=fZ (p:=p) (q:=Sf q (Dt (-1) r)) (λt=>by rw [Gy,Gn]; have:=h t; grind) hp t;rw [Gy,Gn] at this; grind
theorem Qfw {b:Un} {n:Nat} (hb:HD b n):∀ (l:Nat) (a:Un),(∀ k,l<=k->a.getD k 0=0)->∃ q r,(∀ t,ev a t=ev q t*ev b t+ev r t)/\∀ k,n<=k->r.getD k 0=0
 | 0,a,ha=>⟨[],a,λt=>by simp only [ev]; grind,λk _=>ha k (Qh _)⟩
 |
  l+1,a,ha=>by
  rcases Q9 l n with h | h
  ·exact ⟨[],a,λt=>by simp only [ev]; grind,λk hk=>ha k (by omega)⟩
  ·-- the leading term is taken away
   obtain ⟨c,hc⟩:=nmE (a.getD l 0 / b.getD n 0);have hcb:c*b.getD n 0=a.getD l 0:=by rw [hc]; exact Zg hb.1
   obtain ⟨m,hm⟩:∃ m:Un,m=List.replicate (l-n) 0++[c]:=⟨_,rfl⟩;have hsh:∀ (i:Nat) (k:Nat),(G5 (List.replicate i 0++[c]) b).getD k 0=if i<=k then c*b.getD (k-i) 0 else 0:=λi=>by
    induction i with
    | zero=>intro k; simp only [Wj,Yf,G5]; rw [Rh,T0]; cases k <;> simp <;> grind
    |
     succ i ih =>
     intro k;simp only [J3,Xa,G5];rw [Rh,T0];cases k with
     | zero=>rw [Zt,if_neg (by omega)]; grind
     |
      succ k =>
      rw [Q4,ih k];by_cases h:i<=k
      ·rw [if_pos h,if_pos (by omega),Nat.add_sub_add_right]; grind
      ·rw [if_neg h,if_neg (by omega)]; grind
   obtain ⟨q,r,h1,h2⟩:=Qfw hb l (Sf a (Dt (-1) (G5 m b))) λk hk=>by
    rw [Rh,T0,hm,hsh,if_pos (by omega)];rcases Vm hk with e | e
    ·rw [ha k (by omega),hb.2 _ (by omega)]; grind
    ·subst e; rw [show l-(l-n)=n by omega,hcb]; grind
   refine ⟨Sf q m,r,λt=>?_,h2⟩;have:=h1 t;rw [Gy,Gn,Ff] at this;rw [Gy]; grind
theorem pL:∀ (n:Nat) (a b:Un),(∀ k,n<=k->b.getD k 0=0)->∃ g U V,ZF g a/\ZF g b/\∀ t,ev g t=ev U t*ev a t+ev V t*ev b t
 |
  0,a,b,h=>by
  have h0:=Dy λk=>h k (Qh _)
  exact ⟨a,[1],[],dvd_refl a,⟨[],λt=>by rw [h0]; simp only [ev]; grind⟩,λt=>by rw [Ry]; simp only [ev]; grind⟩
 |
  n+1,a,b,h=>by
  rcases Classical.em (b.getD n 0=0) with e | e
  ·exact pL n a b λk hk=>by
    rcases Vm hk with e' | e'
    ·exact h k (by omega)
    ·rw [<-e']; exact e
  ·obtain ⟨q,r,h1,h2⟩:=Qfw (b:=b) (n:=n) ⟨e,λk hk=>h k (by omega)⟩ a.length a λk hk=>by rw [Qi,Qw hk]; rfl
   obtain ⟨g,U,V,⟨u,hu⟩,⟨v,hv⟩,hg⟩:=pL n b r h2;refine ⟨g,V,Sf U (Dt (-1) (G5 V q)),⟨Sf (G5 q u) v,λt=>?_⟩,⟨u,hu⟩,λt=>?_⟩
   ·rw [h1,hv,Gy,Ff,hu]; grind
   ·rw [hg,Gy,Gn,Ff,h1]; grind
theorem Qgp (a b:Un):∃ g U V,ZF g a/\ZF g b/\∀ t,ev g t=ev U t*ev a t+ev V t*ev b t :=
 pL b.length a b λk hk=>by rw [Qi,Qw hk]; rfl
def Cop (a b:Un):Prop:=∃ U V,∀ t,ev U t*ev a t+ev V t*ev b t=1
theorem xX {c d e:Un} (h:Cop c d) (h1:∃ u,∀ t,ev d t*ev e t=ev c t*ev u t):ZF c e:=by
 obtain ⟨U,V,h⟩:=h;obtain ⟨u,hu⟩:=h1;refine ⟨Sf (G5 U e) (G5 V u),λt=>?_⟩;rw [Gy,Ff,Ff];have a1:=h t;have a2:=hu t;have:ev e t=(ev U t*ev c t+ev V t*ev d t)*ev e t:=by rw [a1]; grind
 rw [this];have:(ev U t*ev c t+ev V t*ev d t)*ev e t=ev U t*ev c t*ev e t+ev V t*(ev d t*ev e t):=by grind
 rw [this,a2]; grind
def LH (d:Un):Nat->Un
 | 0=>[1]
 | k+1=>G5 d (LH d k)
theorem nS (d:Un) (t:Rat):∀ k:Nat,ev d t*dv (LH d k) t=(k:Rat)*(dv d t*ev (LH d k) t)
 | 0=>by simp only [LH,dv,ev]; rw [show ((0:Nat):Rat)=0 from rfl]; grind
 |
  k+1=>by
  have ih:=nS d t k;have hn':(((k+1:Nat):Rat))=(k:Rat)+1:=by push_cast; rfl
  simp only [LH];rw [xF,Ff,hn']; grind
theorem Qiq {d:Un} {m:Nat} (h:HD d m):∀ k,HD (LH d k) (k*m)
 | 0=>by rw [Yh]; exact ⟨by simp [LH],λk hk=>by simp only [LH]; rw [Qi,Qw (by simp; omega)]; rfl⟩
 | k+1=>by rw [Z9,Ju (k*m) m]; exact CN h (Qiq h k)
theorem qX {d g:Un} {m n:Nat} (hd:HD d m) (hg:HD g n) (h:∀ k,ZF (LH d k) g):m=0:=by
 obtain ⟨u,hu⟩:=h (n+1);rcases CM u with h1 | ⟨j,_,h1⟩
 ·exact absurd (λt=>by rw [hu,h1]; grind) (lM hg)
 ·have:=Qq3 (Qq2 (λt=>by rw [hu,Ff]) hg) (CN (Qiq hd (n+1)) h1);rcases Q0 m with e | e
  ·exact e
  ·have:(n+1)*1<=(n+1)*m:=Zu _ e;omega
theorem sqf {a g q d U V:Un} {k:Rat} (hk:k≠0) (ha:∀ t,ev a t=ev g t*ev q t) (hg:∀ t,k*ev g t=ev U t*ev a t+ev V t*dv a t) (h1:ZF d q) (h2:ZF d (Nz q)):∀ n,ZF (LH d n) g
 | 0=>⟨g,λt=>by simp only [LH]; rw [Ry]; grind⟩
 |
  n+1=>by
  obtain ⟨g1,e1⟩:=sqf hk ha hg h1 h2 n;obtain ⟨q1,e2⟩:=h1;obtain ⟨q2,e3⟩:=h2;have d1:=λt=>QY ha t
  have d2:=λt=>QY e1 t
  have d3:=λt=>QY e2 t
  have d4:=nS d;refine ⟨Dt (1 / k) (Sf (G5 U (G5 g1 q1)) (G5 V (Sf (G5 g1 q2) (Sf (Dt n (G5 g1 (Sf q2 (Dt (-1) (Nz q1))))) (G5 (Nz g1) q1))))),λt=>?_⟩;have hkk:1 / k*k=1:=Zg hk;simp only [LH,Gn,Gy,Ff,Tk];have b1:=ha t; have b2:=hg t; have b3:=e1 t; have b4:=e2 t; have b5:=e3 t;have b6:=d1 t; have b7:=d2 t; have b8:=d3 t; have b9:=d4 t n;rw [Tk] at b5;generalize ev d t=x0 at *;generalize ev (LH d n) t=x1 at *;generalize ev g t=x2 at *;generalize ev q t=x3 at *;generalize ev a t=x4 at *;generalize dv a t=x5 at *;generalize dv g t=x6 at *;generalize dv q t=x7 at *;generalize ev g1 t=x8 at *;generalize dv g1 t=x9 at *;generalize ev q1 t=y0 at *;generalize dv q1 t=y1 at *;generalize ev q2 t=y2 at *;generalize dv d t=y3 at *;generalize dv (LH d n) t=y4 at *;generalize ev U t=y5 at *;generalize ev V t=y6 at *;generalize (n:Rat)=y7 at *;have:x2=1 / k*(k*x2):=by grind
  rw [this,b2];have c1:x5=x0*x1*(x8*y2+(y7*(x8*(y2+-1*y1))+x9*y0)):=by
   rw [b6,b7,b4,b3];have:y3*y0=x0*y2-x0*y1:=by grind
   have:x0*y4*(x8*y0)=y7*(x1*x8*(x0*y2-x0*y1)):=by rw [b9,<-this]; grind
   grind
  have c2:x4=x0*x1*(x8*y0):=by rw [b1,b3,b4]; grind
  rw [c1,c2]; grind
theorem Qm1 {a b c:Un} (h1:Cop a b) (h2:Cop a c) {d:Un} (hd:∀ t,ev d t=ev b t*ev c t):Cop a d:=by
 obtain ⟨U,V,h1⟩:=h1;obtain ⟨X,Y,h2⟩:=h2;refine ⟨Sf U (G5 (G5 V b) X),G5 V Y,λt=>?_⟩;have a1:=h1 t;have a2:=h2 t;simp only [Gy,Ff,hd];have:ev V t*ev b t*(ev X t*ev a t+ev Y t*ev c t)=ev V t*ev b t:=by rw [a2]; grind
 grind
theorem Qph {a g q z r X Y:Un} {n:Nat} (ha:∀ t,ev a t=ev g t*ev q t) (hz:∀ t,dv a t=ev g t*ev z t) (hg:HD g n) (hr:∀ t,ev X t*ev r t+ev Y t*dv r t=1) (h:ZF r a):ZF r q:=by
 obtain ⟨b,hb⟩:=h;obtain ⟨e,U,V,⟨r1,e1⟩,⟨q3,e2⟩,e3⟩:=Qgp r q;have hr0:¬∀ t,ev r t=0:=λh=>by
  have h1:=hr 0;have h2:dv r 0=0:=by have:=Qf1 (p:=r) (q:=[]) h 0; rw [this]; rfl
  rw [h,h2] at h1; grind
 have he0:¬∀ t,ev e t=0:=λh=>hr0 λt=>by rw [e1,h]; grind
 have d1:=λt=>QY e1 t
 have c1:Cop r1 q3:=⟨U,V,λt=>by
  have:=sA (p:=e) (q:=Sf (G5 U r1) (G5 V q3)) (r:=[1]) he0 (λt=>by
   rw [Gy,Ff,Ff,Ry];have a1:=e1 t; have a2:=e2 t; have a3:=e3 t;rw [a1,a2] at a3; grind) t
  rw [Gy,Ff,Ff,Ry] at this; exact this⟩
 have c2:Cop r1 e:=⟨Sf (G5 X e) (G5 Y (Nz e)),G5 Y (Nz r1),λt=>by
  have a1:=hr t; have a2:=e1 t; have a3:=d1 t;simp only [Gy,Ff,Tk];rw [a2,a3] at a1; grind⟩
 have c3:Cop r1 (Nz r1):=⟨Sf (G5 X e) (G5 Y (Nz e)),G5 Y e,λt=>by
  have a1:=hr t; have a2:=e1 t; have a3:=d1 t;simp only [Gy,Ff,Tk];rw [a2,a3] at a1; grind⟩
 have c4:Cop r1 q:=Qm1 c2 c1 e2;have hgz:=lM hg;have hp:∀ k,ZF (LH r1 k) g:=λk=>by
  induction k with
  | zero=>exact ⟨g,λt=>by simp only [LH]; rw [Ry]; grind⟩
  |
   succ k ih =>
   obtain ⟨h,eh⟩:=ih;have hpz:¬∀ t,ev (LH r1 k) t=0:=λh0=>hgz λt=>by rw [eh,h0]; grind
   have key:ZF r1 h:=by
    cases k with
    |
     zero =>
     refine xX c4 ⟨G5 e b,λt=>?_⟩;have a1:=ha t; have a2:=hb t; have a3:=e1 t; have a4:=eh t;simp only [LH] at a4;rw [Ry] at a4;rw [Ff]; grind
    |
     succ k =>
     have hn:((k+1:Nat):Rat)≠0:=by
      have:(0:Rat)<((k+1:Nat):Rat):=by
       have h1:((0:Nat):Rat)<((k+1:Nat):Rat):=Vp.2 (by omega);simpa using h1
      grind
     have d2:=λt=>QY (f:=a) (w:=LH r1 (k+1)) (u:=G5 h q) (λt=>by rw [ha,eh,Ff]; grind) t
     have d4:=nS r1;have h3:=sA (p:=LH r1 (k+1)) (q:=G5 (Nz r1) (G5 h q)) (r:=G5 r1 (Dt (1 / ((k+1:Nat):Rat)) (Sf (G5 h z) (Dt (-1) (Nz (G5 h q)))))) hpz λt=>by
      simp only [Ff,Gn,Gy,Tk];have a1:=d2 t; have a2:=d4 t (k+1); have a3:=hz t; have a4:=eh t;rw [Ff] at a1;generalize ((k+1:Nat):Rat)=c at *;have hc:1 / c*c=1:=Zg hn;generalize ev (LH r1 (k+1)) t=x0 at *;generalize dv (LH r1 (k+1)) t=x1 at *;generalize dv (G5 h q) t=x2 at *;generalize ev r1 t=x3 at *;generalize dv r1 t=x4 at *;generalize ev h t=x5 at *;generalize ev q t=x6 at *;generalize ev z t=x7 at *;generalize dv a t=x8 at *;generalize ev g t=x9 at *;generalize 1 / c=c' at *;have s1:x0*(x4*(x5*x6))=c'*(c*(x4*x0))*(x5*x6):=by
       have:c'*(c*(x4*x0))=(c'*c)*(x4*x0):=by grind
       rw [this,hc]; grind
      rw [s1,<-a2];have s2:x3*(x1*(x5*x6))=x3*(x0*(x5*x7+-1*x2)):=by
       rw [a3,a4] at a1; grind
      grind
     refine xX c4 ?_;obtain ⟨u,hu⟩:=xX (e:=G5 q h) c3 ⟨Dt (1 / ((k+1:Nat):Rat)) (Sf (G5 h z) (Dt (-1) (Nz (G5 h q)))),λt=>by
      have:=h3 t;simp only [Ff] at this ⊢;rw [<-this]; grind⟩
     exact ⟨u,λt=>by rw [<-hu,Ff]⟩
   obtain ⟨u,hu⟩:=key;exact ⟨u,λt=>by simp only [LH]; rw [Ff,eh,hu]; grind⟩
 rcases CM r1 with h1 | ⟨m,_,h1⟩
 ·exact absurd (λt=>by rw [e1,h1]; grind) hr0
 ·obtain rfl:=qX h1 hg hp;have h2:∀ t,ev r1 t=r1.getD 0 0:=λt=>by
   cases r1 with
   | nil=>simp [ev]
   |
    cons c l =>
    have:∀ t,ev l t=0:=Dy λk=>by have:=h1.2 (k+1) (by omega); rwa [Q4] at this
    simp only [ev,this,Zt]; grind
  have h3:=h1.1;refine ⟨Dt (1 / r1.getD 0 0) q3,λt=>?_⟩;rw [e2,e1,h2,Gn];have:1 / r1.getD 0 0*r1.getD 0 0=1:=Zg h3;have:ev e t*r1.getD 0 0*(1 / r1.getD 0 0*ev q3 t)=ev e t*ev q3 t*(1 / r1.getD 0 0*r1.getD 0 0):=by grind
  rw [this,Zg h3]; grind
def Od:Uo->Un
 | []=>[1]
 | w::l=>G5 w (Od l)
def Lay:Uo->Uo->Prop
 | [],[]=>True
 | [w],[f]=>∀ t,ev w t=ev f t
 | w::v::l,f::fs=>(∀ t,ev w t=ev f t*ev v t)/\Lay (v::l) fs
 | _,_=>False
def PX:Uo->Un
 | []=>[1]
 | [f]=>f
 | f::_::l=>G5 f (PX l)
theorem eK:∀ {ws fs:Uo},Lay ws fs->∃ S,∀ t,ev (Od ws) t=ev (PX fs) t*(ev S t*ev S t)
 | [],[],_=>⟨[1],λt=>by simp only [Od,PX]; rw [Ry]; grind⟩
 | [w],[f],h=>⟨[1],λt=>by simp only [Od,PX]; rw [Ff,Ry,h t]; grind⟩
 |
  [w,v],[f,f2],h=>⟨v,λt=>by
  have h1:=h.1 t;have h2:ev v t=ev f2 t:=h.2 t;simp only [Od,PX,Ff]; rw [Ry,h1]; grind⟩
 |
  w::v::x::l,f::f2::fs,h=>by
  obtain ⟨S,hS⟩:=eK h.2.2;refine ⟨G5 v S,λt=>?_⟩;have h1:=h.1 t;have h2:=hS t;have e1:ev (Od (w::v::x::l)) t=ev w t*(ev v t*ev (Od (x::l)) t):=by simp only [Od,Ff]
  rw [e1,h2,h1];have e2:ev (PX (f::f2::fs)) t=ev f t*ev (PX fs) t:=by
   cases fs with
   | nil=>cases l <;> exact False.elim h.2.2
   | cons y l=>simp only [PX,Ff]
  rw [e2,Ff]; grind
 | [w],[],h=>h.elim
 | [w],_::_::_,h=>h.elim
 | [],_::_,h=>h.elim
 | [w,v],[f],h=>h.2.elim
 | [w,v],_::_::_::_,h=>h.2.elim
 | w::v::x::l,[f],h=>h.2.elim
 | w::v::l,[],h=>h.elim
end Orq
namespace Orq
open Orr Go
theorem nQ (p:Uk) (t:Rat):U7 p t=((p.getD 0 0:Int):Rat)+t*U7 p.tail t:=by
 cases p with
 | nil=>show (0:Rat)=((0:Int):Rat)+t*0; grind
 | cons a p=>rfl
theorem HM (p:Uk) (k:Nat):p.tail.getD k 0=p.getD (k+1) 0:=by
 cases p <;> simp
theorem Cf (c d:Int) (t:Rat):∀ (n:Nat) (p q r:Uk),p.length<=n->q.length<=n->r.length<=n->(∀ k,r.getD k 0=c*p.getD k 0+d*q.getD k 0)->U7 r t=(c:Rat)*U7 p t+(d:Rat)*U7 q t
 |
  0,p,q,r,hp,hq,hr,_=>by
  rw [Qj (Nat.le_zero.1 hp),Qj (Nat.le_zero.1 hq),Qj (Nat.le_zero.1 hr)];show (0:Rat)=_*0+_*0;grind
 |
  n+1,p,q,r,hp,hq,hr,h=>by
  have ih:=Cf c d t n p.tail q.tail r.tail (by rw [Wx]; omega) (by rw [Wx]; omega) (by rw [Wx]; omega) λk=>by
   rw [HM,HM,HM]; exact h (k+1)
  rw [nQ p,nQ q,nQ r,ih,h 0]
  push_cast
  grind
theorem aT {p q:Uk} (h:∀ k,p.getD k 0=q.getD k 0) (t:Rat):U7 p t=U7 q t:=by
 have:=Cf 1 0 t (max p.length q.length) q q p (Wz ..) (Wz ..) (Nat.le_max_left ..) λk=>by rw [h k]; omega
 rw [this]
 push_cast
 grind
theorem Og (p:Uk) (t:Rat):U7 (trim p) t=U7 p t:=aT (YC p) t
theorem Nt {p:Uk} {k:Nat} (h:p.length<=k):p.getD k 0=0:=by
 rw [Qi,Qw h]; rfl
theorem OE (p q:Uk) (k:Nat):(ZK p q).getD k 0=p.getD k 0+q.getD k 0:=by
 unfold ZK;rw [Sy]
 split
 ·rfl
 ·rename_i h; rw [Nt (p:=p) (by omega),Nt (p:=q) (by omega)]; rfl
theorem Oo (p q:Uk) (k:Nat):(Mx p q).getD k 0=p.getD k 0-q.getD k 0:=by
 unfold Mx;rw [Sy]
 split
 ·rfl
 ·rename_i h; rw [Nt (p:=p) (by omega),Nt (p:=q) (by omega)]; rfl
theorem P7 (p:Uk) (c:Int) (k:Nat):(Ft p c).getD k 0=p.getD k 0*c:=by
 unfold Ft;rw [Sy]
 split
 ·rfl
 ·rename_i h; rw [Nt (p:=p) (by omega),Int.zero_mul]
theorem Qb0 (p:Uk) (k:Nat):(Mi p).getD k 0=-(p.getD k 0):=by
 unfold Mi;rw [Sy]
 split
 ·rfl
 ·rename_i h; rw [Nt (p:=p) (by omega)]; rfl
theorem Bl (p:Uk) (k:Nat):(Gv p).getD k 0=p.getD (k+1) 0*((k+1:Nat):Int):=by
 unfold Gv;rw [Sy]
 split
 ·rfl
 ·rename_i h; rw [Nt (p:=p) (by omega),Int.zero_mul]
theorem DD (p q:Uk) (t:Rat):U7 (ZK p q) t=U7 p t+U7 q t:=by
 have:=Cf 1 1 t (max (max p.length q.length) (ZK p q).length) p q (ZK p q) (by omega) (by omega) (by omega) λk=>by rw [OE]; omega
 rw [this]; push_cast; grind
theorem Nb (p q:Uk) (t:Rat):U7 (Mx p q) t=U7 p t-U7 q t:=by
 have:=Cf 1 (-1) t (max (max p.length q.length) (Mx p q).length) p q (Mx p q) (by omega) (by omega) (by omega) λk=>by rw [Oo]; omega
 rw [this]; push_cast; grind
theorem FY (p:Uk) (t:Rat):U7 (Mi p) t=-U7 p t:=by
 have:=Cf (-1) 0 t (max p.length (Mi p).length) p p (Mi p) (by omega) (by omega) (by omega) λk=>by rw [Qb0]; omega
 rw [this]; push_cast; grind
theorem Rj (p:Uk) (c:Int) (t:Rat):U7 (Ft p c) t=U7 p t*(c:Rat):=by
 have:=Cf c 0 t (max p.length (Ft p c).length) p p (Ft p c) (by omega) (by omega) (by omega) λk=>by rw [P7,Wa]; omega
 rw [this]; push_cast; grind
theorem jE:∀ (l:Uk) (j:Nat) (v:Int) (t:Rat),j<l.length->U7 (l.set j v) t=U7 l t+((v:Rat)-((l.getD j 0:Int):Rat))*t^j
 | [],_,_,_,h=>by simp at h
 |
  a::l,0,v,t,_=>by
  show (v:Rat)+t*U7 l t=(a:Rat)+t*U7 l t+((v:Rat)-(a:Rat))*t^0;rw [Xe]; grind
 |
  a::l,j+1,v,t,h=>by
  have ih:=jE l j v t (by simpa using h);show (a:Rat)+t*U7 (l.set j v) t=(a:Rat)+t*U7 l t+((v:Rat)-((l.getD j 0:Int):Rat))*t^(j+1);rw [ih,Z7]; grind
theorem DL:∀ (l:Uk) (k:Nat) (t:Rat),k<l.length->U7 (l.take (k+1)) t=U7 (l.take k) t+((l.getD k 0:Int):Rat)*t^k
 | [],_,_,h=>by simp at h
 |
  a::l,0,t,_=>by
  show (a:Rat)+t*U7 (l.take 0) t=0+(a:Rat)*t^0;rw [Xe,Vv];show (a:Rat)+t*0=_;grind
 |
  a::l,k+1,t,h=>by
  have ih:=DL l k t (by simpa using h);show (a:Rat)+t*U7 (l.take (k+1)) t=(a:Rat)+t*U7 (l.take k) t+((l.getD k 0:Int):Rat)*t^(k+1);rw [ih,Z7]; grind
theorem OO (n:Nat) (t:Rat):U7 (List.replicate n 0) t=0:=by
 induction n with
 | zero=>rfl
 |
  succ n ih =>
  show ((0:Int):Rat)+t*U7 (List.replicate n 0) t=0;rw [ih]; push_cast; grind
theorem rY (t:Rat) (i:Nat):∀ k,t^(i+k)=t^i*t^k
 | 0=>by rw [Xk,Xe]; grind
 | k+1=>by rw [<-Yl,Z7,Z7,rY t i k]; grind
theorem fL (x:Int) (b:Uk) (i:Nat) (o:Uk) (t:Rat):∀ k,k<=b.length->i+k<=o.length->U7 (Oa x b i o k) t=U7 o t+(x:Rat)*t^i*U7 (b.take k) t
 |
  0,_,_=>by
  show U7 o t=U7 o t+(x:Rat)*t^i*0;grind
 |
  k+1,h1,h2=>by
  have ih:=fL x b i o t k (by omega) (by omega);simp only [Oa];rw [jE _ _ _ _ (by rw [Ob]; omega),ih,DL b k t (by omega)];have hp:t^(i+k)=t^i*t^k:=rY t i k;rw [hp]
  push_cast
  grind
theorem fD (a b o:Uk) (t:Rat):∀ i,i<=a.length->i+b.length<=o.length+1->U7 (Aj a b o i) t=U7 o t+U7 (a.take i) t*U7 b t
 |
  0,_,_=>by
  show U7 o t=U7 o t+0*U7 b t;grind
 |
  i+1,h1,h2=>by
  have ih:=fD a b o t i (by omega) (by omega);simp only [Aj];rw [fL _ _ _ _ _ b.length (Ql _) (by rw [D5]; omega),ih,DL a i t (by omega),Q5];grind
theorem Ge (a b:Uk) (t:Rat):U7 (Gk a b) t=U7 a t*U7 b t:=by
 unfold Gk
 split
 ·rename_i h;rcases h with h | h
  ·rw [Qj h]; show (0:Rat)=0*_; grind
  ·rw [Qj h]; show (0:Rat)=_*0; grind
 ·rename_i h;rw [Og,fD a b _ t a.length (Ql _) (by rw [Je]; omega),OO,Q5];grind
theorem H6 (z d:Int):(z:Rat) / (d:Rat)=Rat.divInt z d:=by
 by_cases h:d=0
 ·subst h; simp; grind
 ·rw [Jn]; exact (Rat.divInt_eq_div z d ▸ by rw [Jn])
theorem iO (a:Uk) (n d:Int) (hd:(d:Rat)≠0):∀ k,k<=a.length->(((Ls a n d k).2:Int):Rat)=(d:Rat)^k/\(((Ls a n d k).1:Int):Rat)*d=(d:Rat)^k*U7 (a.drop (a.length-k)) ((n:Rat) / d)
 |
  0,_=>by
  refine ⟨by rw [Xe]; rfl,?_⟩;rw [W0,Y9];show ((0:Int):Rat)*d=(d:Rat)^0*0
  push_cast; grind
 |
  k+1,hk=>by
  obtain ⟨h1,h2⟩:=iO a n d hd k (by omega);have hi:a.length-1-k<a.length:=by omega
  have e1:a.drop (a.length-(k+1))=a.getD (a.length-1-k) 0::a.drop (a.length-k):=by
   rw [show a.length-(k+1)=a.length-1-k by omega,Zr hi,show a.length-1-k+1=a.length-k by omega];congr 1;rw [Qi,Qe hi]; rfl
  refine ⟨?_,?_⟩
  ·show (((Ls a n d k).2*d:Int):Rat)=_;rw [Xx,h1,Z7]
  ·rw [e1];show (((Ls a n d k).1*n+a.getD (a.length-1-k) 0*(Ls a n d k).2:Int):Rat)*d=_*(((a.getD (a.length-1-k) 0:Int):Rat)+(n:Rat) / d*U7 (a.drop (a.length-k)) ((n:Rat) / d));rw [Kd,Xx,Xx,h1,Z7];have h3:(n:Rat) / d*d=n:=by rw [Zg hd]
   have h4:(d:Rat)^k*d*((n:Rat) / d*U7 (a.drop (a.length-k)) ((n:Rat) / d))=((n:Rat) / d*d)*((d:Rat)^k*U7 (a.drop (a.length-k)) ((n:Rat) / d)):=by grind
   have h5:(d:Rat)^k*d*(((a.getD (a.length-1-k) 0:Int):Rat)+(n:Rat) / d*U7 (a.drop (a.length-k)) ((n:Rat) / d))=(d:Rat)^k*d*((a.getD (a.length-1-k) 0:Int):Rat)+(d:Rat)^k*d*((n:Rat) / d*U7 (a.drop (a.length-k)) ((n:Rat) / d)):=by grind
   rw [h5,h4,h3,<-h2];grind
theorem aB {d:Rat} (h:0<d):∀ k:Nat,0<d^k
 | 0=>by rw [Xe]; decide
 | k+1=>by rw [Z7]; exact Xp (aB h k) h
theorem Cm {x y:Rat} (h:0<y):Fc (y*x)=Fc x:=by
 unfold Fc;have h1:y*x<0↔x<0:=by
  constructor
  ·intro h2;rcases Vx (a:=0) (b:=x) with h3 | h3
   ·have:=Y7 (Qr h) h3; grind
   ·rcases Rat.le_iff_lt_or_eq.1 h3 with h4 | h4
    ·exact h4
    ·rw [h4] at h2; grind
  ·intro h2;have:=Xp h (show 0 < -x by grind);grind
 have h2:0<y*x↔0<x:=by
  constructor
  ·intro h2;rcases Vx (a:=x) (b:=0) with h3 | h3
   ·have:=Y7 (Qr h) (show 0<=-x by grind); grind
   ·rcases Rat.le_iff_lt_or_eq.1 h3 with h4 | h4
    ·exact h4
    ·rw [<-h4] at h2; grind
  ·intro h2; exact Xp h h2
 simp only [h1,h2]
theorem Qfm (z:Int):B7 z 0=Fc (z:Rat):=by
 unfold B7 Fc;have h1:((z:Int):Rat)<0↔z<0:=by
  have := @Rat.intCast_lt_intCast z 0; simpa using this
 have h2:0<((z:Int):Rat)↔0<z:=by
  have := @Rat.intCast_lt_intCast 0 z; simpa using this
 simp only [h1,h2]
theorem Nf (p:Uk) (q:Rat):H7 p q=Fc (U7 p q):=by
 have hd0:(0:Rat)<((q.den:Int):Rat):=by
  have := @Rat.intCast_lt_intCast 0 (q.den:Int);rw [show ((0:Int):Rat)=0 from rfl] at this;exact this.2 (den_pos q)
 have hd:((q.den:Int):Rat)≠0:=by intro h; rw [h] at hd0; exact absurd hd0 (by decide)
 obtain ⟨_,h⟩:=iO p q.num q.den hd p.length (Ql _);rw [Ki,Xv,H6,Z2] at h;unfold H7;rw [Qfm,<-Cm hd0,W4];show Fc ((((Ls p q.num q.den p.length).1:Int):Rat)*_)=_;rw [h,Cm (aB hd0 _)]
def cz (p:Uk):Un:=p.map λz:Int=>(z:Rat)
theorem U8 (t:Rat):∀ p,ev (cz p) t=U7 p t
 | []=>rfl
 | a::p=>by have:=U8 t p; simp only [cz,Z0,ev,U7] at *; rw [this]
theorem Mf:∀ (p:Uk) (k:Nat),(cz p).getD k 0=((p.getD k 0:Int):Rat)
 | [],k=>by simp [cz]
 | a::p,0=>by simp [cz]
 | a::p,k+1=>by have:=Mf p k; simp only [cz,Z0,Q4] at *; exact this
theorem Lb {p q:Uk} (h:∀ t,U7 p t=U7 q t) (k:Nat):p.getD k 0=q.getD k 0:=by
 have:=Dm (p:=cz p) (q:=cz q) (λt=>by rw [U8,U8,h]) k;rw [Mf,Mf] at this
 exact_mod_cast this
theorem Qpp {p q:Uk} (hp:U9 p) (hq:U9 q) (h:∀ k,p.getD k 0=q.getD k 0):p=q:=by
 have key:∀ {p q:Uk},U9 p->U9 q->(∀ k,p.getD k 0=q.getD k 0)->p.length<=q.length:=λ{p q} hp hq h=>by
  rcases Q9 q.length p.length with e | e
  ·have:=H5 hp (by omega);rw [h,Qi,Qw (by omega)] at this;exact absurd rfl this
  ·exact e
 exact BI (Kc (key hp hq h) (key hq hp λk=>(h k).symm)) λj _=>h j
theorem aS {p q:Uk} (hp:U9 p) (hq:U9 q) (h:∀ t,U7 p t=U7 q t):p=q:=Qpp hp hq (Lb h)
theorem Qoj {p:Uk} (hp:U9 p) (h:∀ t,U7 p t=0):p=[]:=aS hp rfl λt=>by rw [h]; rfl
theorem Dq {p:Uk} (h:p.length=0) (t:Rat):U7 p t=0:=by rw [Qj h]; rfl
theorem aR:∀ (p r:Uk) (t:Rat),(∀ k,r.getD k 0=p.getD (k+1) 0*((k+1:Nat):Int))->U7 r t=dv (cz p) t
 |
  [],r,t,h=>by
  rw [aT (q:=[]) (λk=>by rw [h]; simp) t]; rfl
 |
  a::p,r,t,h=>by
  have ih:=aR p (Gv p) t λk=>Bl p k
  have e:U7 r t=U7 p t+t*U7 (Gv p) t:=by
   have:=Cf 1 1 t (max (max p.length (0::Gv p).length) r.length) p (0::Gv p) r (by omega) (by omega) (by omega) λk=>by
    rw [h,Q4];cases k with
    | zero=>simp
    | succ k=>rw [Q4,Bl]; push_cast; grind
   rw [this]; simp only [U7]; push_cast; grind
  rw [e,ih];show _=ev (cz p) t+t*dv (cz p) t;rw [U8]
theorem Of (p:Uk) (t:Rat):U7 (Gv p) t=dv (cz p) t:=aR p _ t λk=>Bl p k
theorem TO {p:Uk} (hp:U9 p) (h:0<p.length):HD (cz p) (p.length-1):=by
 refine ⟨?_,λk hk=>?_⟩
 ·rw [Mf];have:=H5 hp h;exact λe=>this (by exact_mod_cast e)
 ·rw [Mf,Qi,Qw (by omega)]; rfl
theorem TC {p:Uk} (hp:U9 p) (h:0<p.length):¬∀ t,U7 p t=0:=λh0=>by
 rw [Qoj hp h0] at h; exact absurd h (by simp)
theorem Mh {a b c:Uk} (ha:U9 a) (hb:U9 b) (hc:U9 c) (h:∀ t,U7 c t=U7 a t*U7 b t) (la:0<a.length) (lb:0<b.length):c.length=a.length+b.length-1:=by
 have h1:=CN (TO ha la) (TO hb lb);have h2:HD (cz c) (a.length-1+(b.length-1)):=Qq2 (λt=>by rw [Ff,U8,U8,U8,h]) h1;have lc:0<c.length:=by
  rcases Q0 c.length with e | e
  ·exact absurd (λt=>by rw [U8]; exact Dq e t) (lM h2)
  ·exact e
 have:=Qq3 (TO hc lc) h2;omega
theorem gY:∀ (n m:Nat),m<=n->2<=m->∃ P,2<=P/\P∣m/\∀ d,2<=d->d∣P->d=P
 | 0,m,h,h2=>by omega
 |
  n+1,m,h,h2=>by
  rcases Classical.em (∃ d,2<=d/\d<m/\d∣m) with ⟨d,d1,d2,d3⟩ | h0
  ·obtain ⟨P,p1,p2,p3⟩:=gY n d (by omega) d1;exact ⟨P,p1,Nat.dvd_trans p2 d3,p3⟩
  ·refine ⟨m,h2,Nat.dvd_refl m,λd d1 d2=>?_⟩;rcases Vm (Kv (by omega) d2) with e | e
   ·exact absurd ⟨d,d1,e,d2⟩ h0
   ·exact e
theorem xH {P:Nat} (h2:2<=P) (hP:∀ d,2<=d->d∣P->d=P) {x y:Int} (h:(P:Int)∣x*y):(P:Int)∣x\/(P:Int)∣y:=by
 have h:=X1.2 h;rw [J6,Xf] at h;have hg:=Wy P x.natAbs;rcases Q9 (Nat.gcd P x.natAbs) 2 with e | e
 ·right;have h1:Nat.gcd P x.natAbs=1:=by
   have:=Nat.gcd_pos_of_pos_left x.natAbs (show 0<P by omega); omega
  have:=Nat.Coprime.dvd_of_dvd_mul_left h1 h;exact X1.1 (by rwa [Xf])
 ·left;have:=hP _ e hg;have h3:=Nat.gcd_dvd_right P x.natAbs;rw [this] at h3;exact X1.1 (by rwa [Xf])
def tH (P:Int) (l:Uk):Prop:=∀ k,P∣l.getD k 0
theorem GR {P:Nat} (h2:2<=P) (hP:∀ d,2<=d->d∣P->d=P):∀ (n:Nat) (b h c:Uk),b.length+h.length<=n->(∀ t,U7 c t=U7 b t*U7 h t)->tH P c->tH P b\/tH P h
 | _,[],h,c,_,_,_=>.inl λk=>by simp
 | _,x::b,[],c,_,_,_=>.inr λk=>by simp
 | 0,x::b,y::h,c,hn,_,_=>by simp at hn
 |
  n+1,x::b,y::h,c,hn,hc,hd=>by
  simp only [Q7] at hn;by_cases hx:(P:Int)∣x
  ·-- x h is taken away
   have e:∀ t,U7 (0::Gk b (y::h)) t=U7 (Mx c (Ft (y::h) x)) t:=λt=>by
    rw [Nb,Rj,hc]; simp only [U7]; rw [Ge]; simp only [U7]; push_cast; grind
   have hd':tH P (Gk b (y::h)):=λk=>by
    have:=Lb e (k+1);rw [Q4,Oo,P7] at this;rw [this];exact Int.dvd_sub (hd (k+1)) (V6 hx (Y8 _ _))
   rcases GR h2 hP n b (y::h) _ (by simp only [Q7]; omega) (λt=>Ge _ _ t) hd' with h1 | h1
   ·refine .inl λk=>?_
    cases k with
    | zero=>rw [Zt]; exact hx
    | succ k=>rw [Q4]; exact h1 k
   ·exact .inr h1
  ·have h0:(P:Int)∣y:=by
    have e:c.getD 0 0=x*y:=by
     have:=Lb (p:=c) (q:=Gk (x::b) (y::h)) (λt=>by rw [hc,Ge]) 0;have e2:=Lb (p:=Gk (x::b) (y::h)) (q:=ZK (Ft (y::h) x) (0::Gk b (y::h))) (λt=>by
      rw [DD,Rj,Ge]; simp only [U7]; rw [Ge]; simp only [U7]; push_cast; grind) 0
     rw [this,e2,OE,P7,Zt,Zt,Wa]; omega
    have:=hd 0;rw [e] at this;rcases xH h2 hP this with h1 | h1
    ·exact absurd h1 hx
    ·exact h1
   have e:∀ t,U7 (0::Gk (x::b) h) t=U7 (Mx c (Ft (x::b) y)) t:=λt=>by
    rw [Nb,Rj,hc]; simp only [U7]; rw [Ge]; simp only [U7]; push_cast; grind
   have hd':tH P (Gk (x::b) h):=λk=>by
    have:=Lb e (k+1);rw [Q4,Oo,P7] at this;rw [this];exact Int.dvd_sub (hd (k+1)) (V6 h0 (Y8 _ _))
   rcases GR h2 hP n (x::b) h _ (by simp only [Q7]; omega) (λt=>Ge _ _ t) hd' with h1 | h1
   ·exact absurd (by have:=h1 0; rwa [Zt] at this) hx
   ·refine .inr λk=>?_
    cases k with
    | zero=>rw [Zt]; exact h0
    | succ k=>rw [Q4]; exact h1 k
def Prm (b:Uk):Prop:=∀ d:Int,tH d b->d∣1
theorem Qgk {a b:Uk} (hb:Prm b):∀ (n:Nat) (c:Int) (h:Uk),c.natAbs<=n->c≠0->(∀ t,(c:Rat)*U7 a t=U7 b t*U7 h t)->∃ h',∀ t,U7 a t=U7 b t*U7 h' t
 | 0,c,h,hn,h0,_=>absurd (by omega) h0
 |
  n+1,c,h,hn,h0,hc=>by
  rcases Q9 c.natAbs 2 with h1 | h1
  ·refine ⟨Ft h c,λt=>?_⟩;have hcc:(c:Rat)*c=1:=by
    have:c*c=1:=by
     rcases (show c=1\/c=-1 by omega) with rfl | rfl <;> rfl
    have:=congrArg (λz:Int=>(z:Rat)) this
    push_cast at this; exact this
   rw [Rj];have:=hc t;have:U7 a t=(c:Rat)*((c:Rat)*U7 a t):=by
    have:(c:Rat)*((c:Rat)*U7 a t)=((c:Rat)*c)*U7 a t:=by grind
    rw [this,hcc]; grind
   rw [this,hc]; grind
  ·obtain ⟨P,p1,p2,p3⟩:=gY c.natAbs c.natAbs (Ql _) h1;obtain ⟨d,hd⟩:∃ d,c=(P:Int)*d:=Wp.2 p2;have hall:tH P (Ft a c):=λk=>by
    rw [P7,hd]; exact V6 (Int.dvd_mul_right _ _) (Y8 _ _)
   have hP0:(P:Rat)≠0:=by
    have:((0:Nat):Rat)<(P:Rat):=Vp.2 (by omega);grind
   rcases GR p1 p3 _ b h (Ft a c) (Ql _) (λt=>by rw [Rj,W4,hc]) hall with e | e
   ·have:=hb P e;have:=X1.2 this;rw [Xf] at this;have:=Kv (by decide) this;exact absurd this (by show ¬P<=1; omega)
   ·refine Qgk hb n d (h.map (· / (P:Int))) ?_ (λe0=>h0 (by rw [hd,e0,Wc])) λt=>?_
    ·rw [hd,J6,Xf] at hn h1;have:2*d.natAbs<=P*d.natAbs:=Qz _ p1;omega
    ·have e1:U7 h t=(P:Rat)*U7 (h.map (· / (P:Int))) t:=by
      have:=Cf P 0 t (max h.length (h.map (· / (P:Int))).length) (h.map (· / (P:Int))) [] h (by omega) (by simp) (by omega) λk=>by
       have:=e k;have e2:(h.map (· / (P:Int))).getD k 0=h.getD k 0 / (P:Int):=by
        rw [Qi,Qi,Zb];cases h[k]? <;> simp
       rw [e2,Wb this]; simp
      rw [this]; simp only [U7]; push_cast; grind
     have:=hc t;rw [hd,e1] at this
     push_cast at this
     have h3:(P:Rat)*((d:Rat)*U7 a t)=(P:Rat)*(U7 b t*U7 (h.map (· / (P:Int))) t):=by grind
     have h4:=Yy.1 (show (P:Rat)*((d:Rat)*U7 a t-U7 b t*U7 (h.map (· / (P:Int))) t)=0 by grind);rcases h4 with h4 | h4
     ·exact absurd h4 hP0
     ·grind
theorem AI:∀ u:Un,∃ c:Int,c≠0/\∃ h:Uk,∀ t,(c:Rat)*ev u t=U7 h t
 | []=>⟨1,by decide,[],λt=>by simp only [ev,U7]; grind⟩
 |
  a::u=>by
  obtain ⟨c,hc,h,hh⟩:=AI u;refine ⟨c*(a.den:Int),Jp hc (by have:=a.den_nz; omega),(c*a.num)::Ft h (a.den:Int),λt=>?_⟩;have e:(a.den:Rat)*a=a.num:=by
   rw [W4];have:(a.num:Rat) / (((a.den:Int)):Rat)=a:=by rw [H6,Z2]
   have hd:(a.den:Rat)≠0:=by
    have:((0:Nat):Rat)<(a.den:Rat):=Vp.2 a.den_pos;grind
   have h2:(a.num:Rat) / (a.den:Rat)*(a.den:Rat)=a.num:=Zg hd;rw [show (a.num:Rat) / (a.den:Rat)=a from this] at h2; exact h2
  simp only [ev,U7];rw [Rj,<-hh]
  push_cast
  rw [<-e];have e3:(((a.den:Int)):Rat)=(a.den:Rat):=rfl;grind
theorem Qgj {a b:Uk} (hb:Prm b) (h:ZF (cz b) (cz a)):∃ h',U9 h'/\∀ t,U7 a t=U7 b t*U7 h' t:=by
 obtain ⟨u,hu⟩:=h;obtain ⟨c,hc,h,hh⟩:=AI u;obtain ⟨h',e⟩:=Qgk hb c.natAbs c h (Ql _) hc λt=>by
  have:=hu t;rw [U8,U8] at this;rw [this,<-hh]; grind
 exact ⟨trim h',Tl _,λt=>by rw [Og,e]⟩
def sd (x0:Rat):Un->Un
 | []=>[]
 | _::p=>Sf p (Dt x0 (sd x0 p))
theorem Qgb (x0 x:Rat):∀ p,ev (sd x0 p) x=dq p x x0
 | []=>rfl
 | a::p=>by simp only [sd,dq]; rw [Gy,Gn,Qgb x0 x p]
theorem bJ (x0:Rat):∀ (g:Un) (n:Nat),(∀ j,n<j->g.getD j 0=0)->∀ j,n<=j->(sd x0 g).getD j 0=0
 | [],n,_,j,_=>by simp [sd]
 |
  a::p,0,h,j,_=>by
  have hp:∀ j,p.getD j 0=0:=λj=>by have:=h (j+1) (by omega); rwa [Q4] at this
  simp only [sd];rw [Rh,T0,hp,bJ x0 p 0 (λj _=>hp j) j (Qh _)]; grind
 |
  a::p,n+1,h,j,hj=>by
  have hp:∀ j,n<j->p.getD j 0=0:=λj hj=>by have:=h (j+1) (by omega); rwa [Q4] at this
  simp only [sd];rw [Rh,T0,hp j (by omega),bJ x0 p n hp j (by omega)]; grind
theorem mQ {K:Rat} (hK:0≤K):∀ (e:Nat) (g:Un) (pts:Uk) (M:Rat),pts.length=e+1->pts.Nodup->(∀ x∈pts,Fh (x:Rat)≤K)->(∀ k,e<k->g.getD k 0=0)->(∀ x∈pts,Fh (ev g (x:Rat))≤M)->∀ k,Fh (g.getD k 0)≤(2*K+3)^e*M
 | _,_,[],_,h,_,_,_,_=>by simp at h
 |
  0,g,x0::xs,M,_,_,_,hg,hM=>λk=>by
  have h0:=hM x0 (by simp);rw [Xe];cases k with
  |
   zero =>
   have e:ev g (x0:Rat)=g.getD 0 0:=by
    cases g with
    | nil=>rfl
    |
     cons a p =>
     have hp:=Dy (p:=p) λj=>by have:=hg (j+1) (by omega); rwa [Q4] at this
     simp only [ev,hp,Zt]; grind
   rw [<-e]; grind
  |
   succ k =>
   rw [hg (k+1) (by omega),Re];have:=Hq (ev g (x0:Rat)); grind
 |
  e+1,g,x0::xs,M,hl,hn,hb,hg,hM=>λk=>by
  have hx0:=hb x0 (by simp);have hM0:=hM x0 (by simp);have hMn:0<=M:=Zk (Hq _) hM0;rw [List.nodup_cons] at hn;have ih:=mQ hK e (sd x0 g) xs (2*M) (by simpa using hl) hn.2 (λx hx=>hb x (by simp [hx])) (λj hj=>bJ _ g (e+1) hg j (by omega)) λx hx=>by
   have h1:=hM x (by simp [hx]);have h2:=IW (x:Rat) (x0:Rat) g;rw [<-Qgb] at h2;have hne:x-x0≠0:=λh=>hn.1 (by rw [show x0=x by omega]; exact hx)
   have h3:=KP hne;rw [Rat.intCast_sub] at h3;have h4:Fh (ev g (x:Rat)-ev g (x0:Rat))<=2*M:=by
    have:=Se (ev g (x:Rat)) (-ev g (x0:Rat));rw [Ef,show ev g (x:Rat)+-ev g (x0:Rat)=ev g (x:Rat)-ev g (x0:Rat) by grind] at this;clear hM hb hg; grind
   rw [h2,Ia] at h4;have h5:=Zc h3 (Hq (ev (sd x0 g) x));clear hM hb hg; grind
  have e1:∀ t,ev g t=ev (Sf [ev g x0] (Sf (Dt (-x0) (sd x0 g)) (0::sd x0 g))) t:=λt=>by
   have:=IW t (x0:Rat) g;rw [<-Qgb] at this;simp only [Gy,Gn,ev];grind
  have hp1:1<=(2*K+3)^e:=(YH (R:=2*K+3) (x:=0) (by grind) (by rw [Re]; grind) e).2;have hpM:=Nw (x:=(2*K+3)^e) (y:=M) (by grind) hMn;have hpM1:=Zc hp1 hMn;rw [Z7,Dm e1 k,Rh,Rh,T0];have a1:=ih k;have a2:Fh (-(x0:Rat)*(sd (x0:Rat) g).getD k 0)<=K*((2*K+3)^e*(2*M)):=Ha (by rw [Ef]; exact hx0) a1;have fin:∀ u v w:Rat,Fh u<=M->Fh v<=K*((2*K+3)^e*(2*M))->Fh w<=(2*K+3)^e*(2*M)->Fh (u+(v+w))<=(2*K+3)^e*(2*K+3)*M:=λu v w h1 h2 h3=>by
   have b1:=Se u (v+w);have b2:=Se v w;clear ih e1 hM hb hg a1 a2; grind
  refine fin _ _ _ ?_ a2 ?_
  ·cases k with
   | zero=>rw [Zt]; exact hM0
   | succ k=>rw [Q4,Kt,Re]; exact hMn
  ·cases k with
   | zero=>rw [Zt,Re]; clear ih e1 hM hb hg a1 a2 fin; grind
   | succ k=>rw [Q4]; exact ih k
theorem Qi0 {g:Un} {e:Nat} (hg:∀ k,e<k->g.getD k 0=0) (hz:¬∀ t,ev g t=0) {pts:Uk} (hn:pts.Nodup) (hr:∀ x∈pts,ev g (x:Rat)=0):pts.length≤e:=by
 rcases Q9 e pts.length with h | h
 ·exfalso;obtain ⟨K,hK,hb⟩:∃ K:Rat,0≤K/\∀ x∈pts,Fh (x:Rat)≤K:=by
   clear hn hr h
   induction pts with
   | nil=>exact ⟨0,by decide,λx hx=>by cases hx⟩
   |
    cons y pts ih =>
    obtain ⟨K,h1,h2⟩:=ih;refine ⟨K+Fh (y:Rat),by have:=Hq (y:Rat); grind,λx hx=>?_⟩;have hy:=Hq (y:Rat);rcases Qm.1 hx with rfl | hx
    ·grind
    ·have:=h2 x hx; grind
  refine hz (Dy λk=>?_);have:=mQ hK e g (pts.take (e+1)) 0 (by rw [Qt]; omega) (hn.sublist (List.take_sublist ..)) (λx hx=>hb x (Qo hx)) hg (λx hx=>by rw [hr x (Qo hx),Re]; exact Qp) k;have h2:=Hq (g.getD k 0);exact Qos (by grind)
 ·exact h
def spots:Uk:=(List.range 19).map λi:Nat=>(i:Int)-9
theorem spots_nd:spots.Nodup:=by decide
theorem rR:∀ x∈spots,x.natAbs≤9:=by decide
theorem CZ {α:Type} (p:α->Bool):∀ l:List α,(l.filter p).length+(l.filter λx => !p x).length=l.length
 | []=>rfl
 |
  x::l=>by
  have:=CZ p l;cases h:p x <;> simp [h] <;> omega
def geo:Nat->Nat
 | 0=>0
 | n+1=>1+9*geo n
theorem lF {B:Rat}:∀ (p:Uk),(∀ z∈p,Fh (z:Rat)≤B)->wB 9 (cz p)≤B*(geo p.length:Nat)
 | [],_=>by simp only [cz,X7,wB,geo,X6]; rw [show ((0:Nat):Rat)=0 from rfl]; grind
 |
  a::p,h=>by
  have h1:=lF p λz hz=>h z (Qg _ hz)
  have h2:=h a (Qx ..);simp only [cz,Z0,wB,geo,Q7] at *
  push_cast
  clear h; grind
theorem Qgs {m n:Nat} (h:m<=n):geo m<=geo n:=by
 induction h with
 | refl=>exact Ql _
 | step h ih=>simp only [geo]; omega
def pz:Uk->Int->Int
 | [],_=>0
 | a::p,x=>a+x*pz p x
theorem KC (x:Int):∀ p,U7 p (x:Rat)=((pz p x:Int):Rat)
 | []=>rfl
 | a::p=>by simp only [U7,pz,KC x p]; push_cast; rfl
theorem Sk (z:Int):Fh (z:Rat)=((z.natAbs:Nat):Rat):=by
 unfold Fh;rcases K9 z 0 with h | h
 ·have h1:(z:Rat)<((0:Int):Rat):=Jo.2 h;rw [if_pos (by simpa using h1)];have:(z.natAbs:Int)=-z:=by omega
  have:=congrArg (λu:Int=>(u:Rat)) this
  push_cast at this
  exact this.symm
 ·have h1:((0:Int):Rat)<=(z:Rat):=Jc.2 h;have h1:(0:Rat)<=(z:Rat):=by simpa using h1
  rw [if_neg (by grind)];have:(z.natAbs:Int)=z:=by omega
  have:=congrArg (λu:Int=>(u:Rat)) this;exact this.symm
theorem ZE {p g h:Uk} {s:Nat} (hp:Bd s p) (hl:p.length<=10) (tp:U9 p) (tg:U9 g) (th:U9 h) (h0:p.length≠0) (e:∀ t,U7 p t=U7 g t*U7 h t):Bd (s+69) g:=by
 have lg:0<g.length:=by
  rcases Q0 g.length with e' | e'
  ·exact absurd (λt=>by rw [e,Dq e']; grind) (TC tp (by omega))
  ·exact e'
 have lh:0<h.length:=by
  rcases Q0 h.length with e' | e'
  ·exact absurd (λt=>by rw [e,Dq e']; grind) (TC tp (by omega))
  ·exact e'
 have hlen:=Mh tg th tp e lg lh;obtain ⟨q,hq⟩:=nmE (spots.filter λx => !decide (pz p x=0));have hr:(spots.filter λx=>decide (pz p x=0)).length<=9:=by
  refine Qi0 (g:=cz p) (e:=9) (λk hk=>?_) (λh=>TC tp (by omega) λt=>by rw [<-U8]; exact h t) (spots_nd.sublist List.filter_sublist) λx hx=>?_
  ·rw [Mf,Qi,Qw (by omega)]; rfl
  ·have:=(Ye.1 hx).2;rw [U8,KC,of_decide_eq_true this]; rfl
 have hc:=CZ (λx=>decide (pz p x=0)) spots;rw [<-hq] at hc;have hsl:spots.length=19:=by decide
 have hB:∀ z∈p,Fh (z:Rat)≤((2^s:Nat):Rat):=λz hz=>by
  rw [Sk];have:=hp z hz;rw [Sj] at this;exact Zl.2 (Yg this)
 have key:=mQ (K:=9) (by decide) 9 (cz g) (q.take 10) (((2^s*435848050:Nat)):Rat) (by rw [Qt]; omega) ((spots_nd.sublist (by rw [hq]; exact List.filter_sublist)).sublist (List.take_sublist ..)) (λx hx=>by
  have hx:=Qo hx;rw [hq] at hx;have:=rR x (Ye.1 hx).1;rw [Sk]
  exact_mod_cast Zl.2 this) (λk hk=>by rw [Mf,Qi,Qw (by omega)]; rfl) (λx hx=>by
  have hx:=Qo hx;rw [hq] at hx;obtain ⟨hx1,hx2⟩:=Ye.1 hx;have hne:pz p x≠0:=by simpa using hx2
  have e1:=e (x:Rat);rw [KC,KC,KC] at e1;have e2:pz p x=pz g x*pz h x:=by exact_mod_cast e1
  have hh:1<=(pz h x).natAbs:=by
   rcases Q0 (pz h x).natAbs with e' | e'
   ·exact absurd (by rw [e2,Int.natAbs_eq_zero.1 e',Wc]) hne
   ·exact e'
  have h3:(pz g x).natAbs<=(pz p x).natAbs:=by
   rw [e2,J6];exact Yo _ hh
  rw [U8,KC,Sk];refine Zk (Zl.2 h3) ?_;rw [<-Sk,<-KC,<-U8];refine Zk (TL (R:=9) (by
   have:=rR x hx1;rw [Sk]
   exact_mod_cast Zl.2 this) _) ?_
  refine Zk (lF p hB) ?_;have:2^s*geo p.length<=2^s*435848050:=Zu _ (Qc (Qgs hl) (by decide));have:=Zl.2 this
  push_cast at this ⊢
  exact this)
 refine NF λk=>?_
 have h1:=key k;rw [Mf,Sk] at h1;have e3:(2*(9:Rat)+3)^9*((2^s*435848050:Nat):Rat)=(((794280046581*(2^s*435848050)):Nat):Rat):=by
  rw [show (2*(9:Rat)+3)^9=794280046581 by grind]
  push_cast; rfl
 rw [e3] at h1;have h2:=Zl.1 h1;rw [Sj];refine Z4 h2 ?_;have:794280046581*(2^s*435848050)=2^s*(794280046581*435848050):=by
  rw [Nat.mul_left_comm]
 rw [this,Xd];exact Nat.mul_lt_mul_of_pos_left (by decide) (Z3 (by decide))
theorem wH {l:Uk} {d:Int} (h:∀ z∈l,d∣z):d∣((Ru l:Nat):Int):=by
 have key:∀ (l:Uk) (g:Nat),d.natAbs∣g->(∀ z∈l,d∣z)->d.natAbs∣l.foldl (λg z=>Nat.gcd g z.natAbs) g:=by
  intro l
  induction l with
  | nil=>exact λg h _=>h
  | cons z l ih=>exact λg hg h=>ih _ (Nat.dvd_gcd hg (X1.2 (h z (Qx ..)))) λu hu=>h u (Qg _ hu)
 have:=key l 0 (Nat.dvd_zero _) h;exact X1.1 (by rw [Xf]; exact this)
theorem UH (p:Uk) (c:Int) (k:Nat):(p.map (· / c)).getD k 0=p.getD k 0 / c:=by
 rw [Qi,Qi,Zb];cases p[k]? <;> simp
theorem KD (p:Uk) (c:Int) (k:Nat):(Cy p c).getD k 0=p.getD k 0 / c:=by
 unfold Cy; rw [YC,UH]
theorem OI {p:Uk} {c:Int} (h:∀ z∈p,c∣z) (t:Rat):U7 p t=(c:Rat)*U7 (Cy p c) t:=by
 have:=Cf c 0 t (max p.length (Cy p c).length) (Cy p c) [] p (by omega) (by simp) (by omega) λk=>by
  rw [KD];have hd:c∣p.getD k 0:=by
   rw [Qi];cases e:p[k]? with
   | none=>exact Int.dvd_zero _
   | some z=>exact h z (Qa e)
  rw [Wb hd]; simp
 rw [this]; simp only [U7]; push_cast; grind
theorem XX {c:Int} (h:c≠0):(c:Rat)≠0:=λe=>h (by exact_mod_cast e)
theorem QH {p q:Uk} {c:Rat} (tp:U9 p) (tq:U9 q) (hc:c≠0) (h:∀ t,U7 p t=c*U7 q t):p.length=q.length:=by
 have key:∀ {p q:Uk} {c:Rat},U9 p->U9 q->c≠0->(∀ t,U7 p t=c*U7 q t)->p.length<=q.length:=λ{p q c} tp tq hc h=>by
  rcases Q9 q.length p.length with e | e
  ·have h1:=H5 tp (by omega);have:=Dm (p:=cz p) (q:=Dt c (cz q)) (λt=>by rw [U8,Gn,U8,h]) (p.length-1);rw [Mf,T0,Mf,Qi (l:=q),Qw (by omega)] at this;have:((p.getD (p.length-1) 0:Int):Rat)=0:=by rw [this]; simp
   exact absurd (by exact_mod_cast this) h1
  ·exact e
 refine Kc (key tp tq hc h) (key (c:=1 / c) tq tp (λe=>?_) λt=>?_)
 ·have:=Zg (a:=1) hc; rw [e] at this; grind
 ·rw [h]; have:=Zg (a:=1) hc; grind
theorem Ch {p:Uk} (tp:U9 p) (h:p.length≠0):U9 (Fg p)/\(Fg p).length=p.length/\Prm (Fg p)/\0<Fl (Fg p)/\(∀ s,Bd s p->Bd s (Fg p))/\Hk p≠0/\∀ t,U7 p t=(Hk p:Rat)*U7 (Fg p) t:=by
 have h0:=aP tp h;have e:Fg p=Cy p (Hk p):=by unfold Fg; rw [if_neg h]
 have h1:=OI (p:=p) (c:=Hk p) FV;have hl:=QH tp (QC p (Hk p)) (XX h0) h1;have hcp:0<S8 p:=by
  have:=XB tp h;unfold S8 at this ⊢; omega
 rw [e];refine ⟨QC _ _,hl.symm,λd hd=>?_,?_,λs hs=>NG hs _,h0,h1⟩
 ·have h2:∀ z∈p,d*Hk p∣z:=λz hz=>by
   obtain ⟨i,hi⟩:=Zh.1 hz;have h3:=hd i;rw [KD,Qi,hi] at h3;obtain ⟨k,hk⟩:=h3;have h4:=FV z hz;refine ⟨k,?_⟩;have:z / Hk p*Hk p=z:=Int.ediv_mul_cancel h4;rw [<-this];rw [show z / Hk p=d*k from hk,Int.mul_right_comm]
  have h3:=wH h2;have h4:Hk p∣((Ru p:Nat):Int)/\((Ru p:Nat):Int)∣Hk p:=by
   unfold Hk S8; split
   ·exact ⟨Ua.2 (K8 _),Int.dvd_neg.2 (K8 _)⟩
   ·exact ⟨K8 _,K8 _⟩
  obtain ⟨k,hk⟩:=V6 h3 h4.2;refine ⟨k,?_⟩;have:Hk p*(d*k)=Hk p*1:=by rw [W9,<-Int.mul_assoc,Wa (Hk p) d,<-hk]
  exact (Int.eq_of_mul_eq_mul_left h0 this).symm
 ·have h2:Fl (Cy p (Hk p))=Fl p / Hk p:=by unfold Fl; rw [<-hl,KD]
  have h3:Hk p∣Fl p:=FV _ (CO h);have h5:Fl p / Hk p*Hk p=Fl p:=Int.ediv_mul_cancel h3;rw [h2];have h6:=Eb tp h;rcases Y3 (Fl p / Hk p) 0 with e1 | e1 | e1
  ·exfalso;by_cases hn:Fl p<0
   ·have:Hk p=-S8 p:=by unfold Hk; rw [if_pos hn]
    have:0<Fl p / Hk p*Hk p:=V9 e1 (by omega);omega
   ·have:Hk p=S8 p:=by unfold Hk; rw [if_neg hn]
    have:Fl p / Hk p*Hk p<0:=Int.mul_neg_of_neg_of_pos e1 (by omega);omega
  ·rw [e1] at h5; omega
  ·exact e1
theorem Qif {r:Uk} (tr:U9 r):∃ c:Rat,0<c/\∀ t,U7 r t=c*U7 (VT r) t:=by
 unfold VT;by_cases h:r.length=0
 ·rw [if_pos h]; exact ⟨1,by decide,λt=>by rw [Dq h,Dq rfl]; grind⟩
 ·rw [if_neg h];have h1:0<S8 r:=by
   have:=XB tr h;unfold S8 at this ⊢; omega
  have h2:((0:Int):Rat)<(S8 r:Rat):=Jo.2 h1;exact ⟨S8 r,by simpa using h2,OI Ep⟩
theorem XC (x:Int) (t:Rat):∀ i,U7 (mono i x) t=(x:Rat)*t^i
 | 0=>by simp only [mono,Wj,Yf,U7,Xe]; grind
 |
  i+1=>by
  have ih:=XC x t i;simp only [mono,J3,Xa,U7] at *;rw [ih,Z7]; push_cast; grind
theorem eA (x:Int) (b:Uk) (i k:Nat):(Gk (trim (mono i x)) b).getD k 0=if i<=k then x*b.getD (k-i) 0 else 0:=by
 have e:∀ t,U7 (Gk (trim (mono i x)) b) t=U7 (List.replicate i 0++b.map (x * ·)) t:=λt=>by
  rw [Ge,Og,XC];have h2:∀ i,U7 (List.replicate i 0++b.map (x * ·)) t=t^i*((x:Rat)*U7 b t):=λi=>by
   induction i with
   |
    zero =>
    simp only [Wj,Yf,Xe];have:=Cf x 0 t (max b.length (b.map (x * ·)).length) b [] (b.map (x * ·)) (by omega) (by simp) (by omega) λk=>by
     rw [Qi,Qi,Zb];cases b[k]? <;> simp
    rw [this]; simp only [U7]; push_cast; grind
   | succ i ih=>simp only [J3,Xa,U7,ih,Z7]; push_cast; grind
  rw [h2]; grind
 rw [Lb e k,Qi,List.getElem?_append,Je];by_cases h:i<=k
 ·rw [if_neg (by omega),if_pos h,Zb,Qi];cases b[k-i]? <;> simp
 ·rw [if_pos (by omega),if_neg h,Jx,if_pos (by omega)]; rfl
theorem Qhd {p:Uk} {n:Nat} (tp:U9 p) (h:p.length<=n+1) (h0:p.getD n 0=0):p.length<=n:=by
 rcases Q9 n p.length with e | e
 ·have:=H5 tp (by omega);rw [show p.length-1=n by omega] at this;exact absurd h0 this
 ·exact e
theorem Qpk {b r:Uk} {i:Nat} (tr:U9 r) (h:r.length<=b.length+i) (hb:b.length≠0) {x:Int} (hx:x=if r.length=b.length+i then Fl r else 0):(str b (Fl b) i x r).length<b.length+i:=by
 have hl:=jZ (c:=Fl b) (x:=x) (i:=i) (b:=b) (r:=r);have:=Qhd (p:=str b (Fl b) i x r) (n:=b.length+i-1) (Fv _ _) (by omega) (by
  unfold str;rw [Oo,P7,eA,if_pos (by omega),hx,show b.length+i-1-i=b.length-1 by omega]
  split
  ·rename_i he;unfold Fl;rw [he,Int.sub_eq_zero]
  ·rw [Qi (l:=r),Qw (by omega)]; simp)
 omega
theorem Qve (b r:Uk) (c:Int) (i:Nat) (x:Int) (t:Rat):(c:Rat)*U7 r t=(x:Rat)*t^i*U7 b t+U7 (str b c i x r) t:=by
 unfold str;rw [Nb,Rj,Ge,Og,XC]; grind
theorem Qij (b:Uk) (c:Int):∀ (i:Nat) (q r:Uk),∃ X:Un,∀ t,((c^i:Int):Rat)*U7 r t=ev X t*U7 b t+U7 (gW b c i (q,r)).2 t
 | 0,q,r=>⟨[],λt=>by simp only [gW,ev]; rw [Int.pow_zero]; push_cast; grind⟩
 |
  i+1,q,r=>by
  obtain ⟨x,hx⟩:=nmE (if r.length=b.length+i then Fl r else 0);obtain ⟨X,hX⟩:=Qij b c i (stq c i x q) (str b c i x r);obtain ⟨m,hm⟩:∃ m:Un,∀ t,ev m t=(x:Rat)*t^i:=⟨cz (mono i x),λt=>by rw [U8,XC]⟩;refine ⟨Sf (Dt ((c^i:Int):Rat) m) X,λt=>?_⟩;rw [XA hx,Gy,Gn,hm];have h1:=hX t;have h2:=Qve b r c i x t;rw [Int.pow_succ]
  push_cast at h1 ⊢
  have:(c:Rat)^i*c*U7 r t=(c:Rat)^i*((c:Rat)*U7 r t):=by grind
  rw [this,h2]; grind
theorem aL {b:Uk} (hb:b.length≠0):∀ (i:Nat) (q r:Uk),U9 r->r.length<b.length+i->U9 (gW b (Fl b) i (q,r)).2/\(gW b (Fl b) i (q,r)).2.length<b.length
 | 0,q,r,tr,h=>⟨tr,h⟩
 |
  i+1,q,r,tr,h=>by
  rw [XA rfl];exact aL hb i _ _ (Fv _ _) (Qpk tr (by omega) hb rfl)
theorem Qii {b:Uk} {c:Int} {t:Nat} (hb:Bd t b) (hc:Fe c<=t):∀ (i u:Nat) (q r:Uk),i<=64->Bd u r->Bd (u+i*(t+8)) (gW b c i (q,r)).2
 | 0,u,q,r,_,h=>by simpa [gW] using h
 |
  i+1,u,q,r,hi,h=>by
  rw [XA rfl];have hx:Fe (if r.length=b.length+i then Fl r else 0)<=u:=by
   split
   ·exact M5 h
   ·rw [M6]; exact Qh _
  have:=Qii hb hc i (u+t+8) (stq c i (if r.length=b.length+i then Fl r else 0) q) (str b c i (if r.length=b.length+i then Fl r else 0) r) (by omega) (sX h hb hc hx (by omega));exact U0 this (by rw [Z9]; omega)
theorem LY {c:Int} (h:c<0):∀ k:Nat,(k % 2=1->c^k<0)/\(k % 2=0->0<c^k)
 | 0=>⟨λh=>by omega,λ_=>by rw [Int.pow_zero]; decide⟩
 |
  k+1=>by
  obtain ⟨i1,i2⟩:=LY h k;rw [Int.pow_succ];exact ⟨λhk=>V8 (i2 (by omega)) h,λhk=>V9 (i1 (by omega)) h⟩
theorem MB {a b:Uk} (ta:U9 a) (tb:U9 b) (hb:b.length≠0) (hl:a.length<=60):U9 (Rv a b)/\(Rv a b).length<b.length/\(∀ s,Bd s a->Bd s b->Bd (s+(a.length+1-b.length)*(s+8)) (Rv a b)) /\
 ∃ u v:Rat,0<u/\0<v/\∃ X:Un,∀ t,u*U7 a t=ev X t*U7 b t+v*U7 (Rv a b) t:=by
 obtain ⟨k,hk⟩:=nmE (a.length+1-b.length);have h1:U9 (Py a b)/\(Py a b).length<b.length:=aL hb _ _ _ ta (by omega);obtain ⟨X,hX⟩:=Qij b (Fl b) k [] a;have hX:∀ t,(((Fl b)^k:Int):Rat)*U7 a t=ev X t*U7 b t+U7 (Py a b) t:=by unfold Py; rw [<-hk]; exact hX
 have h2:=FG (a:=a) (b:=b) (r:=Py a b) (n:=(Py a b).length) (s:=(Py a b).foldl (λm z=>m+Fe z) 0) h1.1 (Ql _) (λz hz=>by
  have key:∀ (l:Uk) (m:Nat),m≤l.foldl (λm z=>m+Fe z) m/\∀ z∈l,Fe z≤l.foldl (λm z=>m+Fe z) m:=by
   intro l
   induction l with
   | nil=>exact λm=>⟨Ql _,λz hz=>by cases hz⟩
   |
    cons y l ih =>
    intro m;obtain ⟨i1,i2⟩:=ih (m+Fe y);refine ⟨by simp only [Z8]; omega,λz hz=>?_⟩;simp only [Z8];rcases Qm.1 hz with rfl | hz
    ·omega
    ·exact i2 z hz
  exact (key _ 0).2 z hz)
 have h3:=LQ (r:=Bm a b (Py a b)) (n:=(Py a b).length) h2.2.1 h2.2.2;refine ⟨h3.1,by unfold Rv; omega,λs ha hbs=>?_,?_⟩
 ·have h4:=Qii (c:=Fl b) hbs (M5 hbs) k s [] a (by omega) ha;have h5:=FG (a:=a) (b:=b) (n:=(Py a b).length) h1.1 (Nat.le_refl _) (show Bd (s+k*(s+8)) (Py a b) by unfold Py; rw [<-hk]; exact h4);rw [<-hk];exact (LQ h5.2.1 h5.2.2).2.2
 ·obtain ⟨v,vp,hv⟩:=Qif h2.1;have hc:=Eb tb hb;by_cases ht:k % 2=1/\Fl b<0
  ·have e1:Bm a b (Py a b)=Mi (Py a b):=by unfold Bm; rw [<-hk,if_pos ht]
   have hneg:(Fl b)^k<0:=(LY ht.2 k).1 ht.1;have h5:(((Fl b)^k:Int):Rat)<((0:Int):Rat):=Jo.2 hneg;have h5:(((Fl b)^k:Int):Rat)<0:=by simpa using h5
   refine ⟨-(((Fl b)^k:Int):Rat),v,by grind,vp,Dt (-1) X,λt=>?_⟩;have h6:=hX t;have h7:=hv t;rw [e1,FY] at h7;show _=_+v*U7 (VT (Bm a b (Py a b))) t;rw [e1,<-h7,Gn]; grind
  ·have e1:Bm a b (Py a b)=Py a b:=by unfold Bm; rw [<-hk,if_neg ht]
   have hpos:0<(Fl b)^k:=by
    rcases Ke hc with h | h
    ·exact (LY h k).2 (by omega)
    ·exact Int.pow_pos h
   have h5:((0:Int):Rat)<(((Fl b)^k:Int):Rat):=Jo.2 hpos;refine ⟨(((Fl b)^k:Int):Rat),v,by simpa using h5,vp,X,λt=>?_⟩;have h7:=hv t;show _=_+v*U7 (VT (Bm a b (Py a b))) t;rw [<-h7,e1,hX]
theorem Ey {p:Uk} (h1:p.length<=64) (h2:Bd 16777216 p):AA p=some p:=by
 unfold AA;rw [if_pos ⟨h1,Jt.2 λz hz=>Nat.ble_eq_true_of_le (h2 z hz)⟩]
theorem IY {a b:Uk} {g:Un} {c:Rat} (hc:c≠0) (h:∀ t,U7 a t=c*U7 b t):ZF g (cz a)↔ZF g (cz b):=by
 constructor
 ·rintro ⟨u,hu⟩
  refine ⟨Dt (1 / c) u,λt=>?_⟩;have h1:=hu t;rw [U8,h] at h1;rw [U8,Gn];have h2:1 / c*c=1:=Zg hc;have:U7 b t=1 / c*(c*U7 b t):=by grind
  rw [this,h1]; grind
 ·rintro ⟨u,hu⟩
  refine ⟨Dt c u,λt=>?_⟩;have h1:=hu t;rw [U8] at h1;rw [U8,Gn,h,h1]; grind
structure Gc (g a b:List Int):Prop where
 t:U9 g
 da:ZF (cz g) (cz a)
 db:ZF (cz g) (cz b)
 c:∃ U V,∀ t,U7 g t=ev U t*U7 a t+ev V t*U7 b t
 n:g.length≠0
theorem Gc.scale {g a b g' a' b':Uk} {x y z:Rat} (h:Gc g a b) (hx:x≠0) (hy:y≠0) (hz:z≠0) (tg:U9 g') (eg:∀ t,U7 g t=x*U7 g' t) (ea:∀ t,U7 a' t=y*U7 a t) (eb:∀ t,U7 b' t=z*U7 b t):Gc g' a' b':=by
 have hx1:1 / x*x=1:=Zg hx;have hy1:1 / y*y=1:=Zg hy;have hz1:1 / z*z=1:=Zg hz;have hg:∀ c,ZF (cz g) c->ZF (cz g') c:=λc ⟨u,hu⟩=>⟨Dt x u,λt=>by rw [hu,U8,U8,eg,Gn]; grind⟩
 obtain ⟨U,V,hc⟩:=h.c;refine ⟨tg,hg _ ((IY hy ea).2 h.da),hg _ ((IY hz eb).2 h.db),⟨Dt (1 / x*(1 / y)) U,Dt (1 / x*(1 / z)) V,λt=>?_⟩,?_⟩
 ·have h1:=hc t;have h2:U7 g' t=1 / x*U7 g t:=by rw [eg]; grind
  rw [h2,h1,Gn,Gn,ea,eb];generalize ev U t=u at *;generalize ev V t=v at *;grind
 ·rw [<-QH h.t tg hx eg]; exact h.n
theorem Qut:∀ d:Nat,1<=d->d+2<=3^d
 | 0,h=>by omega
 | 1,_=>by decide
 | d+2,_=>by have:=Qut (d+1) (by omega); rw [Zq]; omega
theorem rO {k:Nat} {a b:Uk} (ta:U9 a) (tb:U9 b) (hb:b.length≠0) (hl:a.length<=60) (hbl:b.length<=60) (hr:Bd 16777216 (Rv a b)) (ih:∃ g,TJ k b (Rv a b)=some g/\Gc g b (Rv a b)):∃ g,TJ (k+1) a b=some g/\Gc g a b:=by
 obtain ⟨h1,h2,h3,u,v,up,vp,X,hX⟩:=MB ta tb hb hl;obtain ⟨g,e,hg⟩:=ih;refine ⟨g,?_,?_⟩
 ·simp only [TJ];rw [if_neg hb,Ey (by omega) hr]; exact e
 ·obtain ⟨U,V,hc⟩:=hg.c;obtain ⟨y,hy⟩:=hg.da;obtain ⟨z,hz⟩:=hg.db;have hu:1 / u*u=1:=Hb up;have hv:1 / v*v=1:=Hb vp;refine ⟨hg.t,⟨Dt (1 / u) (Sf (G5 X y) (Dt v z)),λt=>?_⟩,hg.da,⟨Dt (u / v) V,Sf U (Dt (-1 / v) (G5 V X)),λt=>?_⟩,hg.n⟩
  ·have a1:=hX t; have a2:=hy t; have a3:=hz t;rw [U8,U8] at a2 a3;rw [U8,U8,Gn,Gy,Ff,Gn];have:U7 a t=1 / u*(u*U7 a t):=by grind
   rw [this,a1,a2,a3]; grind
  ·have a1:=hX t; have a2:=hc t;rw [Gn,Gy,Gn,Ff,a2];have:U7 (Rv a b) t=1 / v*(v*U7 (Rv a b) t):=by grind
   rw [this,show v*U7 (Rv a b) t=u*U7 a t-ev X t*U7 b t by grind,Jn,Jn,Jn];grind
theorem iD {k:Nat} {a:Uk} (ta:U9 a) (ha:a.length≠0):∃ g,TJ (k+1) a []=some g/\Gc g a [] :=
 ⟨a,rfl,ta,dvd_refl _,⟨[],λt=>by simp only [cz,X7,ev]; grind⟩,⟨[1],[],λt=>by rw [Ry]; simp only [ev]; grind⟩,ha⟩
theorem TY {s:Nat}:∀ (k:Nat) (a b:Uk),U9 a->U9 b->b.length<k->b.length<a.length->a.length<=60->Bd s a->Bd s b->(s+8)*3^(a.length-1)<=16777216->∃ g,TJ k a b=some g/\Gc g a b
 | 0,_,_,_,_,h,_,_,_,_,_=>by omega
 |
  k+1,a,b,ta,tb,hk,hab,hl,ba,bb,hs=>by
  by_cases hb:b.length=0
  ·rw [Qj hb]; exact iD ta (by omega)
  ·obtain ⟨h1,h2,h3,_⟩:=MB ta tb hb hl;have h3:=h3 s ba bb;obtain ⟨m,hm⟩:=nmE (a.length-b.length);have e1:a.length+1-b.length=m+1:=by omega
   rw [e1] at h3;have e2:s+(m+1)*(s+8)+8=(m+2)*(s+8):=by
    rw [show m+2=(m+1)+1 by omega,Z9 (m+1)]; omega
   have e3:(m+2)*(s+8)*3^(b.length-1)<=(s+8)*3^(a.length-1):=by
    rw [show a.length-1=m+(b.length-1) by omega,Xd,<-Xw,Zp (s+8)];exact Qz _ (Qz _ (Qut m (by omega)))
   have e4:s+(m+1)*(s+8)<=16777216:=by
    have:(m+2)*(s+8)<=(m+2)*(s+8)*3^(b.length-1):=Yo _ (Z3 (by decide));omega
   refine rO ta tb hb hl (by omega) (U0 h3 e4) (TY (s:=s+(m+1)*(s+8)) k b (Rv a b) tb h1 (by omega) h2 (by omega) (U0 bb (by omega)) h3 ?_);rw [e2]; omega
def Szz (n s:Nat):Prop:=n<=10/\2*(s+8)*3^(n-1)<=16777216
theorem Qj5 {n s:Nat} (hz:Szz n s) {a b:Uk} (ta:U9 a) (tb:U9 b) (la:a.length<=n) (lb:b.length<=n) (ba:Bd s a) (bb:Bd s b) (h0:a.length≠0\/b.length≠0):∃ g,TJ 66 a b=some g/\Gc g a b:=by
 obtain ⟨hn,hz⟩:=hz;have hp:∀ l,l<=n->(s+8)*3^(l-1)<=8388608:=λl hl=>by
  have:(s+8)*3^(l-1)<=(s+8)*3^(n-1):=Zu _ (Zs (by decide) (by omega));rw [Xw] at hz; omega
 rcases Q9 b.length a.length with h | h
 ·exact TY 66 a b ta tb (by omega) h (by omega) ba bb (by have:=hp a.length la; omega)
 ·by_cases hb:b.length=0
  ·rw [Qj hb]; exact iD ta (by omega)
  ·obtain ⟨h1,h2,h3,_⟩:=MB ta tb hb (by omega);have h3:=h3 s ba bb;have h4:(a.length+1-b.length)*(s+8)<=1*(s+8):=Qz _ (by omega);have h5:=hp b.length lb;have h6:(s+8)*1<=(s+8)*3^(b.length-1):=Zu _ (Z3 (by decide));refine rO ta tb hb (by omega) (by omega) (U0 h3 (by omega)) (TY (s:=2*s+8) 65 b (Rv a b) tb h1 (by omega) h2 (by omega) (U0 bb (by omega)) (U0 h3 (by omega)) ?_);rw [show 2*s+8+8=2*(s+8) by omega,Xw]; omega
theorem qJ:Fg []=[]:=rfl
theorem FU {a:Uk} (ta:U9 a):U9 (Fg a)/\(Fg a).length=a.length/\(∀ s,Bd s a->Bd s (Fg a))/\∃ c:Rat,c≠0/\∀ t,U7 a t=c*U7 (Fg a) t:=by
 by_cases h:a.length=0
 ·rw [Qj h];exact ⟨rfl,rfl,λs _=>GN,1,by decide,λt=>by rw [qJ]; grind⟩
 ·obtain ⟨h1,h2,h3,h4,h5,h6,h7⟩:=Ch ta h;exact ⟨h1,h2,h5,_,XX h6,h7⟩
theorem WW {n s:Nat} (hz:Szz n s) {a b:Uk} (ta:U9 a) (tb:U9 b) (la:a.length<=n) (lb:b.length<=n) (ba:Bd s a) (bb:Bd s b) (h0:a.length≠0\/b.length≠0):∃ g,XO a b=some g/\Gc g a b/\Prm g/\0<Fl g:=by
 obtain ⟨a1,a2,a3,x,xn,ax⟩:=FU ta;obtain ⟨b1,b2,b3,y,yn,bx⟩:=FU tb;obtain ⟨g,e,hg⟩:=Qj5 hz a1 b1 (by omega) (by omega) (a3 s ba) (b3 s bb) (by omega);obtain ⟨g1,g2,g3,g4,g5,g6,g7⟩:=Ch hg.t hg.n;refine ⟨Fg g,?_,hg.scale (XX g6) xn yn g1 g7 ax bx,g3,g4⟩;unfold XO; rw [e]; rfl
theorem Qci {a:Uk} (ta:U9 a):XO [] a=some (Fg (Fg a)):=by
 unfold XO;rw [qJ];by_cases h:(Fg a).length=0
 ·have e:Fg a=[]:=Qj h;rw [e]; rfl
 ·have e:Rv [] (Fg a)=[]:=by
   have e1:Py [] (Fg a)=[]:=by unfold Py; rw [show ([]:Uk).length+1-(Fg a).length=0 by simp; omega]; rfl
   unfold Rv;rw [e1];unfold Bm
   split <;> rfl
  have:TJ 66 [] (Fg a)=some (Fg a):=by
   show (if (Fg a).length=0 then _ else _)=_;rw [if_neg h,e]; rfl
  rw [this]; rfl
theorem Qgq {n s:Nat} (hz:Szz n s) {a b:Uk} (ta:U9 a) (tb:U9 b) (la:a.length<=n) (lb:b.length<=n) (ba:Bd s a) (bb:Bd s b) (h0:a.length≠0):∃ g,jO a b=some g/\Gc g a b/\Prm g/\0<Fl g:=by
 obtain ⟨a1,a2,a3,x,xn,ax⟩:=FU ta;obtain ⟨b1,b2,b3,y,yn,bx⟩:=FU a1;obtain ⟨g,e,hg,h1,h2⟩:=WW hz b1 tb (by omega) lb (b3 s (a3 s ba)) bb (by omega);refine ⟨g,?_,hg.scale (x:=1) (y:=x*y) (z:=1) (by decide) (λh=>(Yy.1 h).elim xn yn) (by decide) hg.t (λt=>by grind) (λt=>by rw [ax,bx]; grind) (λt=>by grind),h1,h2⟩;unfold jO;rw [Qci ta]; exact e
theorem iM:∀ {p q:Un} {m n:Nat},HD p m->HD q n->(G5 p q).getD (m+n) 0=p.getD m 0*q.getD n 0
 | [],q,m,n,h,_=>absurd (by simp) h.1
 |
  a::p,q,0,n,h,h'=>by
  have h1:∀ k,p.getD k 0=0:=λk=>by have:=h.2 (k+1) (by omega); rwa [Q4] at this
  simp only [G5];rw [Rh,T0,Zt,Zz];cases n with
  | zero=>rw [Zt]; grind
  | succ n=>rw [Q4,SQ h1]; grind
 |
  a::p,q,m+1,n,h,h'=>by
  have ih:=iM (p:=p) (q:=q) (m:=m) ⟨by have:=h.1; rwa [Q4] at this,λk hk=>by have:=h.2 (k+1) (by omega); rwa [Q4] at this⟩ h';simp only [G5];rw [Rh,T0,show m+1+n=(m+n)+1 by omega,Q4,h'.2 _ (by omega),ih,Q4]; grind
theorem uP {a b c:Uk} (ta:U9 a) (tb:U9 b) (tc:U9 c) (h:∀ t,U7 c t=U7 a t*U7 b t) (la:0<a.length) (lb:0<b.length):Fl c=Fl a*Fl b:=by
 have h1:=TO ta la;have h2:=TO tb lb;have h3:=iM h1 h2;have hl:=Mh ta tb tc h la lb;rw [<-Dm (p:=cz c) (λt=>by rw [Ff,U8,U8,U8,h]),Mf,Mf,Mf,show a.length-1+(b.length-1)=c.length-1 by omega] at h3;unfold Fl; exact_mod_cast h3
theorem Rz {a b c:Uk} (tc:U9 c) (hc:c.length≠0) (h:∀ t,U7 c t=U7 a t*U7 b t):0<a.length/\0<b.length:=by
 constructor
 ·rcases Q0 a.length with e | e
  ·exact absurd (λt=>by rw [h,Dq e]; grind) (TC tc (by omega))
  ·exact e
 ·rcases Q0 b.length with e | e
  ·exact absurd (λt=>by rw [h,Dq e]; grind) (TC tc (by omega))
  ·exact e
theorem jI {b:Uk} (tb:U9 b) (hb:b.length≠0):∀ (i:Nat) (a q h:Uk),U9 a->U9 h->(∀ t,U7 a t=U7 b t*U7 h t)->a.length<b.length+i->i<=q.length->(∀ j,j<i->q.getD j 0=0)->∃ q',jA b i a q=some q'/\q'.length=q.length/\∀ t,U7 q' t=U7 q t+U7 h t
 |
  0,a,q,h,ta,th,e,hl,_,_=>by
  have ha:a.length=0:=by
   rcases Q0 a.length with e' | e'
   ·exact e'
   ·obtain ⟨p1,p2⟩:=Rz ta (by omega) e;have:=Mh tb th ta e p1 p2; omega
  refine ⟨q,by simp only [jA]; rw [if_pos ha],rfl,λt=>?_⟩;have:∀ t,U7 h t=0:=λt=>by
   have:=sA (p:=cz b) (q:=cz h) (r:=[]) (λh0=>TC tb (by omega) λt=>by rw [<-U8]; exact h0 t) (λt=>by rw [U8,U8,<-e,Dq ha]; simp only [ev]; grind) t;rwa [U8] at this
  rw [this]; grind
 |
  i+1,a,q,h,ta,th,e,hl,hq,h0=>by
  simp only [jA];by_cases hlt:a.length<b.length+i
  ·rw [if_pos hlt];exact jI tb hb i a q h ta th e hlt (by omega) λj hj=>h0 j (by omega)
  ·rw [if_neg hlt];obtain ⟨p1,p2⟩:=Rz ta (by omega) e;have hln:=Mh tb th ta e p1 p2;have hld:=uP tb th ta e p1 p2;have hlb:=Eb tb hb;rw [hld,if_pos (Int.mul_emod_right _ _),Jd _ hlb];have hli:h.length=i+1:=by omega
   have e2:∀ t,U7 (Mx a (Gk (trim (mono i (Fl h))) b)) t=U7 b t*U7 (Mx h (mono i (Fl h))) t:=λt=>by
    rw [Nb,Nb,Ge,Og,e]; grind
   have hl2:(Mx a (Gk (trim (mono i (Fl h))) b)).length<b.length+i:=by
    have hl:=eH (i:=i) (x:=Fl h) (b:=b) (a:=a);unfold sta at hl;have:=Qhd (p:=Mx a (Gk (trim (mono i (Fl h))) b)) (n:=b.length+i-1) (Fv _ _) (by omega) (by
     rw [Oo,eA,if_pos (by omega),show b.length+i-1-i=b.length-1 by omega,show b.length+i-1=a.length-1 by omega];have:Fl a=a.getD (a.length-1) 0:=rfl;rw [<-this,hld];unfold Fl;rw [Wa,Int.sub_eq_zero])
    omega
   obtain ⟨q',h1,h2,h3⟩:=jI tb hb i _ (q.set i (Fl h)) (Mx h (mono i (Fl h))) (Fv _ _) (Fv _ _) e2 hl2 (by simp; omega) λj hj=>by
    rw [Qi,Yj,if_neg (by omega),<-Qi];exact h0 j (by omega)
   refine ⟨q',h1,by rw [h2,Jr],λt=>?_⟩;rw [h3,jE q i _ t (by omega),h0 i (by omega),Nb,XC]
   push_cast; grind
theorem Qir {a b h:Uk} {s:Nat} (ta:U9 a) (tb:U9 b) (th:U9 h) (ha:a.length≠0) (la:a.length<=10) (ba:Bd s a) (hs:s+69<=16777216) (e:∀ t,U7 a t=U7 b t*U7 h t):XE a b=some h:=by
 obtain ⟨p1,p2⟩:=Rz ta ha e;have hln:=Mh tb th ta e p1 p2;obtain ⟨q,h1,h2,h3⟩:=jI tb (by omega) (a.length+1-b.length) a (List.replicate (a.length+1-b.length) 0) h ta th e (by omega) (by simp) λj _=>Ca _ _
 have h4:trim q=h:=aS (Tl _) th λt=>by rw [Og,h3,OO]; grind
 unfold XE;rw [if_neg (by omega),h1];show AA (trim q)=_;rw [h4];exact Ey (by omega) (U0 (ZE ba la ta th tb ha λt=>by rw [e]; grind) (by omega))
structure Pr1 (p:List Int):Prop where
 t:U9 p
 m:Prm p
 l:0<Fl p
theorem Pr1.n {p:Uk} (h:Pr1 p):p.length≠0:=λe=>by
 have:=h.l;rw [Qj e] at this;exact absurd this (by decide)
theorem Pr1.one {p:Uk} (h:Pr1 p) (hl:p.length<2):p=[1]:=by
 have hn:=h.n;obtain ⟨c,rfl⟩:∃ c,p=[c]:=Kr.1 (by omega);have h1:=h.m c λk=>by cases k <;> simp
 have h2:0<c:=h.l;have:=Int.le_of_dvd (by decide) h1;rw [show c=1 by omega]
theorem Qom {p g h:Uk} (hp:Prm p) (e:∀ t,U7 p t=U7 g t*U7 h t):Prm h:=λd hd=>by
 refine hp d λk=>?_
 have:=Lb (p:=p) (q:=Gk g h) (λt=>by rw [e,Ge]) k;rw [this];have e2:∀ t,U7 (Gk g h) t=(d:Rat)*U7 (Gk g (h.map (· / d))) t:=λt=>by
  have h1:U7 h t=(d:Rat)*U7 (h.map (· / d)) t:=by
   have:=Cf d 0 t (max h.length (h.map (· / d)).length) (h.map (· / d)) [] h (by omega) (by simp) (by omega) λk=>by
    rw [UH,Wb (hd k)]; simp
   rw [this]; simp only [U7]; push_cast; grind
  rw [Ge,Ge,h1]; grind
 have:=Lb (p:=Gk g h) (q:=Ft (Gk g (h.map (· / d))) d) (λt=>by rw [e2,Rj]; grind) k;rw [this,P7]; exact Y8 _ _
theorem Qol {p g h:Uk} (hp:Pr1 p) (hg:0<Fl g) (tg:U9 g) (th:U9 h) (e:∀ t,U7 p t=U7 g t*U7 h t):Pr1 h:=by
 obtain ⟨p1,p2⟩:=Rz hp.t hp.n e;have:=uP tg th hp.t e p1 p2;refine ⟨th,Qom hp.m e,?_⟩;have hl:=hp.l;rw [this] at hl;rcases Y3 (Fl h) 0 with h1 | h1 | h1
 ·have:=V8 hg h1; omega
 ·rw [h1] at hl; omega
 ·exact h1
structure Sqp (p g q:List Int):Prop where
 pp:Pr1 p
 pg:Pr1 g
 pq:Pr1 q
 e:∀ t,U7 p t=U7 g t*U7 q t
 c:∃ U V,∀ t,U7 g t=ev U t*U7 p t+ev V t*dv (cz p) t
 d:∃ z,∀ t,dv (cz p) t=U7 g t*ev z t
theorem Sqp.num {p g q:Uk} (h:Sqp p g q) {d:Un} (h1:ZF d (cz q)) (h2:ZF d (Nz (cz q))):∃ c:Rat,c≠0/\∀ t,ev d t=c:=by
 obtain ⟨U,V,hc⟩:=h.c;have hpow:=sqf (k:=1) (a:=cz p) (g:=cz g) (q:=cz q) (d:=d) (U:=U) (V:=V) (by decide) (λt=>by rw [U8,U8,U8,h.e]) (λt=>by rw [U8,U8,hc]; grind) h1 h2;rcases CM d with h3 | ⟨m,_,h3⟩
 ·obtain ⟨u,hu⟩:=h1;exact absurd (λt=>by rw [<-U8,hu,h3]; grind) (TC h.pq.t (by have:=h.pq.n; omega))
 ·obtain rfl:=qX h3 (TO h.pg.t (by have:=h.pg.n; omega)) hpow;refine ⟨d.getD 0 0,h3.1,λt=>?_⟩;cases d with
  | nil=>exact absurd (by simp) h3.1
  |
   cons c l =>
   have:=Dy (p:=l) λk=>by have:=h3.2 (k+1) (by omega); rwa [Q4] at this
   simp only [ev,this,Zt]; grind
theorem Sqp.bez {p g q:Uk} (h:Sqp p g q):∃ X Y,∀ t,ev X t*ev (cz q) t+ev Y t*dv (cz q) t=1:=by
 obtain ⟨d,U,V,h1,h2,h3⟩:=Qgp (cz q) (Nz (cz q));obtain ⟨c,hc,hd⟩:=h.num h1 h2;refine ⟨Dt (1 / c) U,Dt (1 / c) V,λt=>?_⟩;have h5:=h3 t;rw [hd,Tk] at h5;have h4:1 / c*c=1:=Zg hc;rw [Gn,Gn];have:1 / c*ev U t*ev (cz q) t+1 / c*ev V t*dv (cz q) t=1 / c*(ev U t*ev (cz q) t+ev V t*dv (cz q) t):=by grind
 rw [this,<-h5,h4]
theorem Qjz {n s:Nat} (h:Szz n s):s<=8388600:=by
 have:2*(s+8)*1<=2*(s+8)*3^(n-1):=Zu _ (Z3 (by decide));have:=h.2; omega
theorem sZ {s:Nat} {p:Uk} (h:Bd s p) (hl:p.length<=10):Bd (s+4) (Gv p):=zG h (t:=4) (by omega)
theorem iR {n s:Nat} (hz:Szz n (s+73)) {p:Uk} (pp:Pr1 p) (l2:2<=p.length) (lp:p.length<=n) (bp:Bd (s+69) p) {p0 h0:Uk} (b0:Bd s p0) (l0:p0.length<=10) (t0:U9 p0) (th0:U9 h0) (z0:p0.length≠0) (e0:∀ t,U7 p0 t=U7 h0 t*U7 p t) :
 ∃ g q,AA (Gv p)=some (Gv p)/\XO p (Gv p)=some g/\XE p g=some q/\Sqp p g q/\g.length<p.length:=by
 have hn:=hz.1;have hs:=Qjz hz;have bd:=sZ bp (by omega);have ld:=M7 p;have td:U9 (Gv p):=Fv _ _;obtain ⟨g,e1,hg,m,l⟩:=WW hz pp.t td lp (by omega) (U0 bp (by omega)) bd (.inl pp.n);obtain ⟨q,tq,eq⟩:=Qgj m hg.da;have hdnz:(Gv p).length≠0:=λh=>by
  have h1:=Bl p (p.length-2);rw [Qj h,show p.length-2+1=p.length-1 by omega] at h1;have h2:p.getD (p.length-1) 0≠0:=H5 pp.t (by omega);rcases Yb.1 (h1.symm.trans (by simp)) with h3 | h3
  ·exact h2 h3
  ·omega
 have pg:Pr1 g:=⟨hg.t,m,l⟩;have hql:=Qir (s:=s+69) pp.t hg.t tq pp.n (by omega) bp (by omega) eq;refine ⟨g,q,Ey (by omega) (U0 bd (by omega)),e1,hql,⟨pp,pg,Qol pp l hg.t tq eq,eq,?_,?_⟩,?_⟩
 ·obtain ⟨U,V,hc⟩:=hg.c;exact ⟨U,V,λt=>by rw [hc,Of]⟩
 ·obtain ⟨z,hz⟩:=hg.db;exact ⟨z,λt=>by rw [<-Of,<-U8,hz,U8]⟩
 ·obtain ⟨z,tz,ez⟩:=Qgj m hg.db;obtain ⟨q1,q2⟩:=Rz td hdnz ez;have:=Mh hg.t tz td ez q1 q2;omega
theorem Qob:Sqp [1] [1] [1]:=by
 have p1:Pr1 [1]:=⟨rfl,λd hd=>by have:=hd 0; rwa [Zt] at this,by decide⟩;have e1:∀ t,U7 [1] t=1:=λt=>by simp only [U7]; push_cast; grind
 exact ⟨p1,p1,p1,λt=>by rw [e1]; grind,⟨[1],[],λt=>by rw [e1,Ry]; simp only [ev]; grind⟩,⟨[],λt=>by simp only [cz,Z0,X7,dv,ev]; grind⟩⟩
structure Okp (n s:Nat) (p:List Int):Prop where
 z:Szz n (s+73)
 t:U9 p
 nz:p.length≠0
 l:p.length<=n
 b:Bd s p
theorem Okp.pr {n s:Nat} {p:Uk} (h:Okp n s p):Pr1 (Fg p)/\(Fg p).length=p.length/\Bd s (Fg p):=by
 obtain ⟨h1,h2,h3,h4,h5,_⟩:=Ch h.t h.nz;exact ⟨⟨h1,h3,h4⟩,h2,h5 s h.b⟩
theorem YM {n s:Nat} {p:Uk} (h:Okp n s p):∃ g q,Pf p=some q/\Sqp (Fg p) g q:=by
 obtain ⟨pp,hl,hb⟩:=h.pr;have hn:=h.z.1;have:=h.l;unfold Pf;by_cases h2:(Fg p).length<2
 ·rw [if_pos h2,pp.one h2]; exact ⟨[1],[1],rfl,Qob⟩
 ·rw [if_neg h2];obtain ⟨g,q,h3,h4,h5,h6,_⟩:=iR h.z pp (by omega) (by omega) (U0 hb (by omega)) (p0:=Fg p) (h0:=[1]) hb (by omega) pp.t rfl pp.n λt=>by simp only [U7]; push_cast; grind
  exact ⟨g,q,by rw [h3]; show (XO (Fg p) (Gv (Fg p))).bind _=_; rw [h4]; exact h5,h6⟩
inductive LW:List Int->List (List Int)->Prop
 | nil:LW [1] []
 | cons {g h w:List Int} {ws:List (List Int)} (hs:Sqp g h w) (hl:LW h ws):LW g (w::ws)
theorem Que {g:Uk} {ws:Ul} (h:LW g ws):∀ t,U7 g t=ev (Od (ws.map cz)) t:=by
 induction h with
 | nil=>intro t; simp only [X7,Od,U7]; rw [Ry]; push_cast; grind
 | cons hs hl ih=>intro t; simp only [Z0,Od]; rw [Ff,U8,hs.e,ih]; grind
theorem eL {g:Uk} {w v:Uk} {ws:Ul} (h:LW g (w::v::ws)):∃ f,U9 f/\∀ t,U7 w t=U7 f t*U7 v t:=by
 cases h with
 |
  @cons _ h _ _ hs hl =>
  cases hl with
  |
   @cons _ h2 _ _ hs2 hl2 =>
   obtain ⟨X,Y,hb⟩:=hs2.bez;obtain ⟨z,hz⟩:=hs.d;have hd:=Qph (a:=cz g) (g:=cz h) (q:=cz w) (z:=z) (r:=cz v) (X:=X) (Y:=Y) (n:=h.length-1) (λt=>by rw [U8,U8,U8,hs.e]) (λt=>by rw [hz,U8]) (TO hs.pg.t (by have:=hs.pg.n; omega)) hb
    ⟨G5 (cz h2) (cz w),λt=>by rw [Ff,U8,U8,U8,U8,hs.e,hs2.e]; grind⟩
   obtain ⟨f,tf,ef⟩:=Qgj hs2.pq.m hd;exact ⟨f,tf,λt=>by rw [ef]; grind⟩
theorem uD {g w:Uk} {ws:Ul} (h:LW g (w::ws)):∀ v∈w::ws,Pr1 v/\ZF (cz v) (cz w):=by
 have key:∀ (ws:Ul) (g w:Uk),LW g (w::ws)->∀ v∈w::ws,Pr1 v/\ZF (cz v) (cz w):=by
  intro ws
  induction ws with
  |
   nil =>
   intro g w h v hv;rw [Qk.1 hv];cases h with
   | cons hs hl=>exact ⟨hs.pq,dvd_refl _⟩
  |
   cons u ws ih =>
   intro g w h v hv;have hn:=eL h;cases h with
   |
    @cons _ h _ _ hs hl =>
    rcases Qm.1 hv with rfl | hv
    ·exact ⟨hs.pq,dvd_refl _⟩
    ·obtain ⟨i1,i2⟩:=ih h u hl v hv;obtain ⟨f,_,hf⟩:=hn;exact ⟨i1,dvd_trans i2 ⟨cz f,λt=>by rw [U8,U8,U8,hf]; grind⟩⟩
 exact key ws g w h
theorem lay_ok {n s:Nat} (hz:Szz n (s+73)) {p0:Uk} (b0:Bd s p0) (l0:p0.length<=10) (t0:U9 p0) (z0:p0.length≠0):∀ (k:Nat) (g h0:Uk),Pr1 g->g.length<=k->g.length<=n->U9 h0->(∀ t,U7 p0 t=U7 h0 t*U7 g t)->∃ ws,HE k g=some ws/\LW g ws
 | 0,g,_,pg,hk,_,_,_=>absurd pg.n (by omega)
 |
  k+1,g,h0,pg,hk,hn,th0,e0=>by
  simp only [HE];by_cases h2:g.length<2
  ·rw [if_pos h2,pg.one h2]; exact ⟨[],rfl,.nil⟩
  ·rw [if_neg h2];have bg:Bd (s+69) g:=ZE b0 l0 t0 pg.t th0 z0 λt=>by rw [e0]; grind
   obtain ⟨h,w,h3,h4,h5,h6,h7⟩:=iR hz pg (by omega) hn bg b0 l0 t0 th0 z0 e0;obtain ⟨ws,i1,i2⟩:=lay_ok hz b0 l0 t0 z0 k h (Gk h0 w) h6.pg (by omega) (by omega) (Hw _ _) λt=>by rw [e0,Ge,h6.e]; grind
   refine ⟨w::ws,?_,.cons h6 i2⟩;rw [h3];show (XO g (Gv g)).bind _=_;rw [h4];show (XE g h).bind _=_;rw [h5];show (HE k h).bind _=_;rw [i1]; rfl
theorem Qgc {s:Nat} {p0:Uk} (b0:Bd s p0) (l0:p0.length≤10) (t0:U9 p0) (z0:p0.length≠0) (hs:s+69+69≤16777216):∀ (ws:Ul) (g h0:Uk),LW g ws->U9 h0->(∀ t,U7 p0 t=U7 h0 t*U7 g t)->∃ fs,EC ws=some fs/\Lay (ws.map cz) (fs.map cz)/\∀ f∈fs,U9 f
 | [],g,_,_,_,_=>⟨[],rfl,trivial,λf hf=>by cases hf⟩
 |
  [w],g,_,hl,_,_=>by
  cases hl with
  | cons hs hl=>exact ⟨[w],rfl,λt=>rfl,λf hf=>by rw [Qk.1 hf]; exact hs.pq.t⟩
 |
  w::v::ws,g,h0,hl,th0,e0=>by
  obtain ⟨f,tf,ef⟩:=eL hl;cases hl with
  |
   @cons _ h _ _ hs1 hl =>
   have hpv:=(uD hl v (Qx ..)).1;obtain ⟨fs,i1,i2,i3⟩:=Qgc b0 l0 t0 z0 hs (v::ws) h (Gk h0 w) hl (Hw _ _) λt=>by rw [e0,Ge,hs1.e]; grind
   have ew:∀ t,U7 p0 t=U7 w t*U7 (Gk h0 h) t:=λt=>by rw [e0,Ge,hs1.e]; grind
   have bw:Bd (s+69) w:=ZE b0 l0 t0 hs1.pq.t (Hw _ _) z0 ew;obtain ⟨p1,p2⟩:=Rz t0 z0 ew;have lw:=Mh hs1.pq.t (Hw _ _) t0 ew p1 p2;have hq:=Qir (s:=s+69) hs1.pq.t hpv.t tf hs1.pq.n (by omega) bw hs λt=>by rw [ef]; grind
   refine ⟨f::fs,?_,⟨λt=>by rw [U8,U8,U8,ef],i2⟩,λx hx=>?_⟩
   ·show (XE w v).bind _=_;rw [hq];show (EC (v::ws)).bind _=_;rw [i1]; rfl
   ·rcases Qm.1 hx with rfl | hx
    ·exact tf
    ·exact i3 x hx
def Na:Ul->Uk
 | []=>[1]
 | [f]=>f
 | f::_::l=>Gk f (Na l)
theorem fW:∀ (fs:Ul) (t:Rat),ev (PX (fs.map cz)) t=U7 (Na fs) t
 | [],t=>by simp only [X7,PX,Na,U7]; rw [Ry]; push_cast; grind
 | [f],t=>by simp only [Z0,X7,PX,Na]; rw [U8]
 | f::g::l,t=>by simp only [Z0,PX,Na]; rw [Ff,U8,Ge,fW l]
theorem Nn (t:Rat):U7 [1] t=1:=by simp only [U7]; push_cast; grind
theorem IP:∀ {w:Uk} {ws fs:Ul},Lay ((w::ws).map cz) (fs.map cz)->(∀ f∈fs,U9 f)->(∀ v∈w::ws,U9 v)->∃ E,U9 E/\∀ t,U7 w t=U7 (Na fs) t*U7 E t
 |
  w,[],[f],h,_,_=>⟨[1],rfl,λt=>by
  have:=h t;rw [U8,U8] at this;rw [this,Nn]; simp only [Na]; grind⟩
 |
  w,[v],[f,f2],h,_,hw=>⟨v,hw v (by simp),λt=>by
  have:=h.1 t;rw [U8,U8,U8] at this;rw [this]; simp only [Na]; rw [Ge,Nn]; grind⟩
 |
  w,v::x::l,f::f2::fs,h,hf,hw=>by
  obtain ⟨E,hE,e⟩:=IP (w:=x) (ws:=l) (fs:=fs) h.2.2 (λg hg=>hf g (by simp [hg])) (λg hg=>hw g (by simp at hg ⊢; exact .inr (.inr hg)));refine ⟨Gk f2 E,Hw _ _,λt=>?_⟩;have a1:=h.1 t;have a2:=h.2.1 t;rw [U8,U8,U8] at a1 a2;have e2:U7 (Na (f::f2::fs)) t=U7 f t*U7 (Na fs) t:=by simp only [Na]; rw [Ge]
  rw [a1,a2,e,e2,Ge]; grind
 | w,[],[],h,_,_=>h.elim
 | w,[],_::_::_,h,_,_=>h.elim
 | w,[v],[],h,_,_=>h.elim
 | w,[v],[f],h,_,_=>h.2.elim
 | w,[v],_::_::_::_,h,_,_=>h.2.elim
 | w,v::x::l,[f],h,_,_=>h.2.elim
 | w,v::x::l,[],h,_,_=>h.elim
theorem YF {s:Nat} {p0:Uk} (b0:Bd s p0) (l0:p0.length≤10) (t0:U9 p0) (z0:p0.length≠0) (hs:s+69≤16777216):∀ (fs:Ul) (i:Nat) (a E:Uk),i % 2=0->U9 a->U9 E->(∀ f∈fs,U9 f)->(∀ t,U7 p0 t=U7 a t*U7 (Na fs) t*U7 E t)->∃ o,FQ i a fs=some o/\U9 o/\∀ t,U7 o t=U7 a t*U7 (Na fs) t
 | [],i,a,E,hi,ta,_,_,_=>⟨a,rfl,ta,λt=>by simp only [Na]; rw [Nn]; grind⟩
 |
  [f],i,a,E,hi,ta,tE,tf,hE=>by
  have e1:∀ t,U7 p0 t=U7 (Gk a f) t*U7 E t:=λt=>by rw [hE,Ge]; rfl
  have b1:=ZE b0 l0 t0 (Hw a f) tE z0 e1;obtain ⟨p1,p2⟩:=Rz t0 z0 e1;have hl:=Mh (Hw a f) tE t0 e1 p1 p2;refine ⟨Gk a f,?_,Hw _ _,λt=>by rw [Ge]; rfl⟩;simp only [FQ];rw [if_pos hi,Ey (by omega) (U0 b1 (by omega))]; rfl
 |
  f::g::fs,i,a,E,hi,ta,tE,tf,hE=>by
  have e0:∀ t,U7 (Na (f::g::fs)) t=U7 f t*U7 (Na fs) t:=λt=>by simp only [Na]; rw [Ge]
  have e1:∀ t,U7 p0 t=U7 (Gk a f) t*U7 (Gk (Na fs) E) t:=λt=>by rw [hE,e0,Ge,Ge]; grind
  have b1:=ZE b0 l0 t0 (Hw a f) (Hw _ _) z0 e1;obtain ⟨p1,p2⟩:=Rz t0 z0 e1;have hl:=Mh (Hw a f) (Hw _ _) t0 e1 p1 p2;obtain ⟨o,o1,o2,o3⟩:=YF b0 l0 t0 z0 hs fs (i+2) (Gk a f) E (by omega) (Hw _ _) tE (λx hx=>tf x (by simp [hx])) λt=>by rw [hE,e0,Ge]; grind
  refine ⟨o,?_,o2,λt=>by rw [o3,e0,Ge]; grind⟩;have h1:FQ (i+1) (Gk a f) (g::fs)=FQ (i+2) (Gk a f) fs:=by
   show (if (i+1) % 2=0 then _ else _)=_;rw [if_neg (by omega)]
  show (if i % 2=0 then (AA (Gk a f)).bind λq=>FQ (i+1) q (g::fs) else _)=_;rw [if_pos hi,Ey (by omega) (U0 b1 (by omega))];exact h1.trans o1
structure Parts (p q o:List Int):Prop where
 sq:∃ g,Sqp (Fg p) g q
 ws:∃ ws:List (List Int),(∀ w∈ws,Pr1 w/\ZF (cz w) (cz q))/\∀ t,U7 (Fg p) t=ev (Od (ws.map cz)) t
 oq:ZF (cz o) (cz q)
 ot:U9 o
 oh:∃ h,U9 h/\∀ t,U7 (Fg p) t=U7 o t*U7 h t
 os:∃ S,∀ t,U7 (Fg p) t=U7 o t*(ev S t*ev S t)
theorem Qhz {n s:Nat} {p:Uk} (h:Okp n s p):∃ q o,Pf p=some q/\nX p=some o/\Parts p q o:=by
 obtain ⟨pp,hl,hb⟩:=h.pr;have hn:=h.z.1;have hpl:=h.l;have hs:=Qjz h.z;obtain ⟨g,q,hq,sq⟩:=YM h;obtain ⟨ws,w1,w2⟩:=lay_ok h.z hb (by omega) pp.t pp.n 66 (Fg p) [1] pp (by omega) (by omega) rfl λt=>by rw [Nn]; grind
 obtain ⟨fs,f1,f2,f3⟩:=Qgc hb (by omega) pp.t pp.n (by omega) ws (Fg p) [1] w2 rfl λt=>by rw [Nn]; grind
 have hw:=Que w2;have hfirst:(∀ w∈ws,Pr1 w/\ZF (cz w) (cz q))/\∃ E,U9 E/\∀ t,U7 q t=U7 (Na fs) t*U7 E t:=by
  cases ws with
  |
   nil =>
   have e:fs=[]:=by
    cases fs with
    | nil=>rfl
    | cons f l=>exact f2.elim
   subst e;exact ⟨(λw hw=>by cases hw),q,sq.pq.t,λt=>by simp only [Na]; rw [Nn]; grind⟩
  |
   cons w ws =>
   have hwq:w=q:=by
    have w3:(if (Fg p).length<2 then some [] else (AA (Gv (Fg p))).bind λd=>(XO (Fg p) d).bind λh=>(XE (Fg p) h).bind λw=>(HE 65 h).bind λl=>some (w::l))=some (w::ws):=w1;have hlen:¬(Fg p).length<2:=λh2=>by
     rw [if_pos h2] at w3;injection w3 with w3;cases w3
    rw [if_neg hlen] at w3;unfold Pf at hq;rw [if_neg hlen] at hq;obtain ⟨d,d1,w3⟩:=Qd.1 w3;obtain ⟨h,d2,w3⟩:=Qd.1 w3;obtain ⟨w',d3,w3⟩:=Qd.1 w3;obtain ⟨l,d4,w3⟩:=Qd.1 w3;rw [d1] at hq;have hq:(XO (Fg p) d).bind (λg=>XE (Fg p) g)=some q:=hq;rw [d2] at hq;have hq:XE (Fg p) h=some q:=hq;rw [d3] at hq;injection hq with hq;injection w3 with w3;injection w3 with w3 _;rw [<-w3,hq]
   subst hwq;have hall:=uD w2;exact ⟨hall,IP f2 f3 λv hv=>(hall v hv).1.t⟩
 obtain ⟨ha,E,tE,hE⟩:=hfirst;obtain ⟨o,o1,o2,o3⟩:=YF hb (by omega) pp.t pp.n (by omega) fs 0 [1] (Gk E g) rfl rfl (Hw _ _) f3 λt=>by rw [Nn,Ge,sq.e,hE]; grind
 have o3:∀ t,U7 o t=U7 (Na fs) t:=λt=>by rw [o3,Nn]; grind
 refine ⟨q,o,hq,?_,⟨g,sq⟩,⟨ws,ha,hw⟩,⟨cz E,λt=>by rw [U8,U8,U8,hE,o3]⟩,o2,⟨Gk E g,Hw _ _,λt=>by rw [sq.e,hE,o3,Ge]; grind⟩,?_⟩
 ·unfold nX;rw [if_neg pp.n,w1];show (EC ws).bind _=_;rw [f1]; exact o1
 ·obtain ⟨S,hS⟩:=eK f2;exact ⟨S,λt=>by rw [hw,hS,fW,o3]⟩
theorem dN {s:Nat}:∀ (k:Nat) (a b:Uk),U9 a->U9 b->b.length≠0->b.length<k->b.length<a.length->a.length<=60->Bd s a->Bd s b->(s+8)*3^(a.length-1)<=16777216->(∀ d,ZF d (cz a)->ZF d (cz b)->∃ c:Rat,c≠0/\∀ t,ev d t=c)->∃ l,tU k a b=some (b::l)/\SCl (cz a) (cz b) (l.map cz)
 | 0,_,_,_,_,_,h,_,_,_,_,_,_=>by omega
 |
  k+1,a,b,ta,tb,hb,hk,hab,hl,ba,bb,hs,hd=>by
  obtain ⟨h1,h2,h3,u,v,up,vp,X,hX⟩:=MB ta tb hb hl;have h3:=h3 s ba bb;obtain ⟨m,hm⟩:=nmE (a.length-b.length);have e1:a.length+1-b.length=m+1:=by omega
  rw [e1] at h3;have e2:s+(m+1)*(s+8)+8=(m+2)*(s+8):=by
   rw [show m+2=(m+1)+1 by omega,Z9 (m+1)]; omega
  have e3:(m+2)*(s+8)*3^(b.length-1)<=(s+8)*3^(a.length-1):=by
   rw [show a.length-1=m+(b.length-1) by omega,Xd,<-Xw,Zp (s+8)];exact Qz _ (Qz _ (Qut m (by omega)))
  have e4:s+(m+1)*(s+8)<=16777216:=by
   have:(m+2)*(s+8)<=(m+2)*(s+8)*3^(b.length-1):=Yo _ (Z3 (by decide));omega
  simp only [tU];rw [if_neg hb,Ey (by omega) (U0 h3 e4)];show ∃ l,((tU k b (Mi (Rv a b))).bind λl=>some (b::l))=some (b::l)/\_;have lneg:(Mi (Rv a b)).length<=(Rv a b).length:=XU _;by_cases hr:(Rv a b).length=0
  ·have e:Mi (Rv a b)=[]:=Qj (by omega);rw [e];refine ⟨[],?_,?_⟩
   ·obtain ⟨j,rfl⟩:∃ j,k=j+1:=⟨k-1,by omega⟩;rfl
   ·obtain ⟨c,hc,hcc⟩:=hd (cz b) ⟨Dt (1 / u) X,λt=>by
     have:=hX t;rw [Dq hr] at this;have hu:1 / u*u=1:=Hb up;rw [U8,U8,Gn];have:U7 a t=1 / u*(u*U7 a t):=by grind
     rw [this,hX,Dq hr]; grind⟩ (dvd_refl _)
    exact .base hc hcc
  ·have tn:U9 (Mi (Rv a b)):=Fv _ _;have hn0:(Mi (Rv a b)).length≠0:=λh0=>by
    have:=QH (c:=-1) h1 tn (by decide) λt=>by rw [FY]; grind
    omega
   obtain ⟨l,i1,i2⟩:=dN (s:=s+(m+1)*(s+8)) k b (Mi (Rv a b)) tb tn hn0 (by omega) (by omega) (by omega) (U0 bb (by omega)) (PP h3) (by rw [e2]; omega) λd d1 d2=>by
    refine hd d ?_ d1;obtain ⟨y,hy⟩:=d1;obtain ⟨z,hz⟩:=d2;have hu:1 / u*u=1:=Hb up;refine ⟨Dt (1 / u) (Sf (G5 X y) (Dt (-v) z)),λt=>?_⟩;have a1:=hX t; have a2:=hy t; have a3:=hz t;rw [U8] at a2 a3;rw [FY] at a3;rw [U8,Gn,Gy,Ff,Gn];have:U7 a t=1 / u*(u*U7 a t):=by grind
    rw [this,a1,a2,show U7 (Rv a b) t=-(ev d t*ev z t) by grind]; grind
   refine ⟨Mi (Rv a b)::l,by rw [i1]; rfl,?_⟩;rw [Z0];exact .step (q:=X) up vp (λt=>by rw [U8,U8,U8,hX,FY]; clear i2 i1 hd h3 hs; grind) i2
theorem WV (x:Rat):∀ (l:Ul) (n:Nat) (s:Int),(l.foldl (Pj λp=>H7 p x) (n,s)).1=n+tc x s (l.map cz)
 | [],n,s=>rfl
 |
  p::l,n,s=>by
  simp only [Z8,Z0,tc,Pj];rw [Nf,U8]
  split
  ·exact WV x l n s
  ·rw [WV x l]
   split <;> omega
theorem QL (l:Ul) (x:Rat):Cq l x=vv (l.map cz) x:=by
 have:=WV x l 0 0;unfold Cq Co vv;rw [this]; omega
theorem Qfi {n s:Nat} (hz:Szz n (s+73)) {P g q:Uk} (sq:Sqp P g q) (lq:q.length<=n) (bq:Bd (s+69) q):∃ d,AA (Gv q)=some d/\∃ l,tU 66 q (Fg d)=some l/\GH (cz q) ((q::l).map cz)/\(q.length<2->l=[]):=by
 have hn:=hz.1;have hs:=Qjz hz;have bd:=sZ bq (by omega);have ld:=M7 q;refine ⟨Gv q,Ey (by omega) (U0 bd (by omega)),?_⟩;have hq0:=sq.pq.n;by_cases h2:q.length<2
 ·have e:Fg (Gv q)=[]:=by rw [Qj (l:=Gv q) (by omega)]; rfl
  rw [e];refine ⟨[],rfl,.inl ⟨1,by decide,λt=>?_,rfl⟩,λ_=>rfl⟩;rw [U8,sq.pq.one h2,Nn]
 ·have hdnz:(Gv q).length≠0:=λh=>by
   have h1:=Bl q (q.length-2);rw [Qj h,show q.length-2+1=q.length-1 by omega] at h1;have h3:q.getD (q.length-1) 0≠0:=H5 sq.pq.t (by omega);rcases Yb.1 (h1.symm.trans (by simp)) with h4 | h4
   ·exact h3 h4
   ·omega
  obtain ⟨p1,p2,p3,p4,p5,p6,p7⟩:=Ch (p:=Gv q) (Fv _ _) hdnz;have hdl:Fl (Gv q)=Fl q*((q.length-1:Nat):Int):=by
   have hld:(Gv q).length=q.length-1:=by
    rcases Q9 (Gv q).length (q.length-1) with h | h
    ·have h1:=Bl q (q.length-2);rw [Qi,Qw (by omega),show q.length-2+1=q.length-1 by omega] at h1;have h3:q.getD (q.length-1) 0≠0:=H5 sq.pq.t (by omega);rcases Yb.1 (h1.symm.trans (by simp)) with h4 | h4
     ·exact absurd h4 h3
     ·omega
    ·omega
   unfold Fl;rw [hld,Bl,show q.length-1-1+1=q.length-1 by omega]
  have hfac:0<Hk (Gv q):=by
   have hlp:0<Fl (Gv q):=by rw [hdl]; exact Int.mul_pos sq.pq.l (by omega)
   have hc:=XB (p:=Gv q) (Fv _ _) hdnz;unfold Hk;rw [if_neg (by omega)];unfold S8 at hc ⊢; omega
  have hfq:((0:Int):Rat)<(Hk (Gv q):Rat):=Jo.2 hfac;have hfq:(0:Rat)<(Hk (Gv q):Rat):=by simpa using hfq
  have hff:1 / (Hk (Gv q):Rat)*(Hk (Gv q):Rat)=1:=Hb hfq;have hz2:=hz.2;have hp3:(s+73+8)*3^(q.length-1)<=16777216:=by
   have:(s+73+8)*3^(q.length-1)<=(s+73+8)*3^(n-1):=Zu _ (Zs (by decide) (by omega));rw [Xw] at hz2; omega
  obtain ⟨l,h3,h4⟩:=dN (s:=s+73) 66 q (Fg (Gv q)) sq.pq.t p1 (by omega) (by omega) (by omega) (by omega) (U0 bq (by omega)) (p5 _ bd) hp3 λd d1 d2=>sq.num d1 (by
   obtain ⟨z,hz⟩:=d2;exact ⟨Dt (Hk (Gv q)) z,λt=>by
    have:=hz t;rw [U8] at this;rw [Tk,<-Of,p7,this,Gn]; grind⟩)
  refine ⟨Fg (Gv q)::l,h3,.inr ⟨cz (Fg (Gv q)),l.map cz,1 / (Hk (Gv q):Rat),E5 (by decide) hfq,λt=>?_,h4,rfl⟩,λh=>absurd h h2⟩;rw [U8,<-Of,p7 t]; grind
theorem chain_ok {n s:Nat} {p:Uk} (h:Okp n s p):∃ q l,Pf p=some q/\Lt p=some (q::l)/\GH (cz q) ((q::l).map cz)/\(q.length<2->l=[]):=by
 obtain ⟨pp,hl,hb⟩:=h.pr;have hn:=h.z.1;have hpl:=h.l;obtain ⟨g,q,hq,sq⟩:=YM h;have e1:∀ t,U7 (Fg p) t=U7 q t*U7 g t:=λt=>by rw [sq.e]; grind
 obtain ⟨p1,p2⟩:=Rz pp.t pp.n e1;have hll:=Mh sq.pq.t sq.pg.t pp.t e1 p1 p2;obtain ⟨d,d1,l,d2,d3⟩:=Qfi h.z sq (by omega) (ZE hb (by omega) pp.t sq.pq.t sq.pg.t pp.n e1);refine ⟨q,l,hq,?_,d3⟩;unfold Lt;rw [hq];show (if q.length=0 then none else _)=_;rw [if_neg sq.pq.n,d1];show (tU 66 q (Fg d)).bind _=_;rw [d2]; rfl
structure Gr (D M k:Nat) (q:Rat):Prop where
 u:∃ u:Int,q*((D*2^k:Nat):Rat)=(u:Rat)
 b:Fh q<=(M:Rat)
 d:0<D
theorem nat_pos {n:Nat} (h:0<n):(0:Rat)<(n:Rat):=by
 have:((0:Nat):Rat)<(n:Rat):=Vp.2 h;simpa using this
theorem OV {D M k:Nat} {q:Rat} (h:Gr D M k q):Gr D M (k+1) q:=by
 obtain ⟨u,hu⟩:=h.u;refine ⟨⟨u*2,?_⟩,h.b,h.d⟩;rw [Zq,<-Xw]
 push_cast at hu ⊢
 rw [<-hu]; grind
theorem Qgx {D M k:Nat} {a b:Rat} (ha:Gr D M k a) (hb:Gr D M k b):Gr D M (k+1) ((a+b) / 2):=by
 obtain ⟨u,hu⟩:=ha.u;obtain ⟨v,hv⟩:=hb.u;have h2:(a+b) / 2*2=a+b:=Hb (by decide);refine ⟨⟨u+v,?_⟩,?_,ha.d⟩
 ·rw [Zq,<-Xw]
  push_cast at hu hv ⊢
  rw [<-hu,<-hv];generalize (a+b) / 2=c at *;generalize (D:Rat)*2^k=z at *;have:c*(z*2)=(c*2)*z:=by grind
  rw [this,h2]; grind
 ·have h3:=ha.b;have h4:=hb.b;rw [P9] at *;constructor <;> grind
theorem Qt1 {D M k:Nat} {q:Rat} (h:Gr D M k q):q.den<=D*2^k:=by
 obtain ⟨u,hu⟩:=h.u;have hp:0<D*2^k:=J4 h.d (Z3 (by decide));have e:q=Rat.divInt u ((D*2^k:Nat):Int):=by
  rw [<-H6,<-hu];have hz:=nat_pos hp;rw [show ((((D*2^k:Nat):Int)):Rat)=((D*2^k:Nat):Rat) from rfl];rw [Jn];have:=Ws ((D*2^k:Nat):Rat) (by grind);generalize ((D*2^k:Nat):Rat)=z at *;have:q*z*z⁻¹=q*(z*z⁻¹):=by grind
  rw [this,‹z*z⁻¹=1›]; grind
 rw [e,Wm,if_neg (by omega),Xf];exact J0 _ _
theorem CL {a b k:Nat} {z:Int} (h:z.natAbs<=a*(b*2^k)):Fe z<=Fe (a:Int)+Fe (b:Int)+k:=by
 have h1:Fe (a:Int)<=Fe (a:Int):=Ql _;have h2:Fe (b:Int)<=Fe (b:Int):=Ql _;rw [Sj] at h1 h2 ⊢;rw [Xf] at h1 h2;rw [Xd,Xd];have h3:a*b<2^Fe (a:Int)*2^Fe (b:Int):=Nat.mul_lt_mul_of_lt_of_le h1 (Yg h2) (Z3 (by decide));have h4:=Xl h3 (show 0<2^k from Z3 (by decide));rw [<-Xw] at h; omega
theorem OY {D M k B:Nat} {q:Rat} (h:Gr D M k q) (hM:0<M) (hs:Fe (D:Int)+Fe (M:Int)+k<=B):Qs B q:=by
 have hd:=Qt1 h;have hden:=nat_pos q.den_pos;have h1:(q.num.natAbs:Rat)<=((M*(D*2^k):Nat):Rat):=by
  have e:(q.num:Rat)=q*(q.den:Rat):=by
   have:(q.num:Rat) / (((q.den:Int)):Rat)=q:=by rw [H6,Z2]
   have h2:(q.num:Rat) / (q.den:Rat)*(q.den:Rat)=q.num:=Zg (by grind);rw [show (q.num:Rat) / (q.den:Rat)=q from this] at h2; exact h2.symm
  rw [<-Sk,e];have h3:=Ha (x:=q) (y:=(q.den:Rat)) (b:=((D*2^k:Nat):Rat)) h.b (by
   have:Fh (q.den:Rat)=(q.den:Rat):=by unfold Fh; rw [if_neg (by grind)]
   rw [this]; exact Zl.2 hd)
  push_cast at h3 ⊢; exact h3
 have h1:=Zl.1 h1;refine ⟨?_,?_⟩
 ·have:=CL (z:=q.num) h1; omega
 ·have:=CL (z:=(q.den:Int)) (a:=M) (b:=D) (k:=k) (by
   rw [Xf];exact Qc hd (Nat.le_mul_of_pos_left _ hM))
  omega
theorem mS (a b:Rat):mid a b=(a+b) / 2:=by
 unfold mid;rw [<-H6];have ha:(a.num:Rat)=a*(a.den:Rat):=by
  have:(a.num:Rat) / (((a.den:Int)):Rat)=a:=by rw [H6,Z2]
  have h2:(a.num:Rat) / (a.den:Rat)*(a.den:Rat)=a.num:=Zg (by have:=nat_pos a.den_pos; grind);rw [show (a.num:Rat) / (a.den:Rat)=a from this] at h2; exact h2.symm
 have hb:(b.num:Rat)=b*(b.den:Rat):=by
  have:(b.num:Rat) / (((b.den:Int)):Rat)=b:=by rw [H6,Z2]
  have h2:(b.num:Rat) / (b.den:Rat)*(b.den:Rat)=b.num:=Zg (by have:=nat_pos b.den_pos; grind);rw [show (b.num:Rat) / (b.den:Rat)=b from this] at h2; exact h2.symm
 have pa:=nat_pos a.den_pos;have pb:=nat_pos b.den_pos;rw [Kd,Xx,Xx,Xx,Xx,ha,hb];rw [show (((a.den:Int)):Rat)=(a.den:Rat) from rfl,show (((b.den:Int)):Rat)=(b.den:Rat) from rfl,show (((2:Int)):Rat)=2 from rfl];generalize (a.den:Rat)=x at *;generalize (b.den:Rat)=y at *;have hxy:=Il (Il pa pb) (show (0:Rat)<2 by decide);have h1:(a*x*y+b*y*x) / (x*y*2)*(x*y*2)=a*x*y+b*y*x:=Hb hxy;have h2:(a+b) / 2*2=a+b:=Hb (by decide);generalize (a*x*y+b*y*x) / (x*y*2)=c at *;generalize (a+b) / 2=d at *;have h3:(x*y*2)*(c-d)=0:=by grind
 rcases Yy.1 h3 with h4 | h4 <;> grind
theorem MD (a b:Rat):LP a b=a-b:=by
 unfold LP;rw [Rat.sub_def',<-Rat.divInt_ofNat]
 push_cast; rfl
theorem dE {a b:Rat}:G6 a b=0↔a=b:=by
 constructor
 ·intro h;have h1:¬a<b:=λh'=>by have:=Nm.2 h'; omega
  have h2:¬b<a:=λh'=>by have:=Dk.2 h'; omega
  grind
 ·intro h; subst h; exact Ej a
theorem MQ {a b:Rat}:G6 a b<=0↔a<=b:=by
 constructor
 ·intro h;have h2:¬b<a:=λh'=>by have:=Dk.2 h'; omega
  grind
 ·intro h;have h2:¬0<G6 a b:=λh'=>by have:=Dk.1 h'; grind
  omega
theorem PO {a b:Rat}:0<=G6 a b↔b<=a:=by
 constructor
 ·intro h;have h2:¬a<b:=λh'=>by have:=Nm.2 h'; omega
  grind
 ·intro h;have h2:¬G6 a b<0:=λh'=>by have:=Nm.1 h'; grind
  omega
theorem Ty (a b:Rat):G6 a b=1/\b<a\/G6 a b=0/\a=b\/G6 a b=-1/\a<b:=by
 have hb:=QX a b;rcases (show G6 a b=1\/G6 a b=0\/G6 a b=-1 by omega) with h | h | h
 ·exact .inl ⟨h,Dk.1 (by omega)⟩
 ·exact .inr (.inl ⟨h,dE.1 h⟩)
 ·exact .inr (.inr ⟨h,Nm.1 (by omega)⟩)
theorem uC (p:Uk) (x:Rat):low p x=Ph (cz p) x:=by
 unfold low Ph;rw [Nf,Nf,U8,Of]
theorem B6 {t:Tm} (h:t.lo<t.hi) (q:Rat):Fj t q=cq (cz t.p) t.lo t.hi q:=by
 have hp:t.point=false:=by
  unfold Tm.point;have:¬0<=G6 t.lo t.hi:=λh'=>by have:=PO.1 h'; grind
  simp [this]
 unfold Fj cq;rw [hp,if_neg (by decide)];have e1:(G6 q t.lo<=0)=(q<=t.lo):=propext MQ;have e2:(0<G6 q t.hi)=(t.hi<q):=propext Dk;rw [Nf,uC,<-U8];simp only [e1,e2]
theorem Mj {t:Tm}:t.point=true↔t.hi<=t.lo:=by
 unfold Tm.point;rw [decide_eq_true_iff]; exact PO
theorem A1 {t:Tm} (h:t.lo=t.hi) (q:Rat):Fj t q=G6 t.lo q:=by
 have hp:t.point=true:=Mj.2 (by rw [h]; exact Qp);unfold Fj; rw [if_pos hp]
theorem Qtc {c:Rat->Int} {x:Rat} (h:∀ q,c q=G6 x q):Cut c where
 val q:=by rw [h]; have:=QX x q; omega
 mono q r hqr h1:=by
  rw [h] at h1 ⊢;rcases Ty x q with ⟨e,e'⟩ | ⟨e,e'⟩ | ⟨e,e'⟩
  ·exact absurd e h1
  ·rcases Ty x r with ⟨f,f'⟩ | ⟨f,f'⟩ | ⟨f,f'⟩ <;> grind
  ·rcases Ty x r with ⟨f,f'⟩ | ⟨f,f'⟩ | ⟨f,f'⟩ <;> grind
 up q h1:=by
  rw [h] at h1;have h2:=Dk.1 (show 0<G6 x q by omega);have h3:(x+q) / 2*2=x+q:=Hb (by decide);have h4:=Dk.2 (show (x+q) / 2<x by grind);have:=QX x ((x+q) / 2);exact ⟨(x+q) / 2,by grind,by rw [h]; omega⟩
 dn q h1:=by
  rw [h] at h1;have h2:=Nm.1 (show G6 x q<0 by omega);have h3:(x+q) / 2*2=x+q:=Hb (by decide);have h4:=Nm.2 (show x<(x+q) / 2 by grind);have:=QX x ((x+q) / 2);exact ⟨(x+q) / 2,by grind,by rw [h]; omega⟩
 lo:=⟨x-1,by
  rw [h];have h4:=Dk.2 (show x-1<x by grind);have:=QX x (x-1); omega⟩
 hi:=⟨x+1,by
  rw [h];have h4:=Nm.2 (show x<x+1 by grind);have:=QX x (x+1); omega⟩
def lim (t:Tm):Nat:=if t.point=true then 3300000 else 1000000
theorem jX {t:Tm} (h:t.point=false):lim t=1000000:=by simp [lim,h]
theorem Qt6 (t:Tm):1000000<=lim t:=by unfold lim; split <;> omega
theorem Qt7 (t:Tm):lim t<=3300000:=by unfold lim; split <;> omega
structure Va (t:Tm):Prop where
 i:t.lo=t.hi/\U7 t.p t.lo=0\/∃ L,Vt (cz t.p) L t.lo t.hi
 tr:U9 t.p
 n:t.p.length<=9
 n2:2<=t.p.length
 b:Bd 3300000 t.p
 bi:t.point=false->Bd 1260 t.p
 sc:t.point=false->∃ (l:List (List Int)) (P g:List Int),tU 66 t.p (Fg (Gv t.p))=some l/\Sqp P g t.p/\Vt (cz t.p) ((t.p::l).map cz) t.lo t.hi
 g:∃ D M k,Gr D M k t.lo/\Gr D M k t.hi/\0<M/\Fe (D:Int)+Fe (M:Int)+k<=lim t
theorem Va.le {t:Tm} (h:Va t):t.lo<=t.hi:=by
 rcases h.i with ⟨e,_⟩ | ⟨L,V⟩
 ·rw [e]; exact Qp
 ·exact Qr V.l
theorem Va.pt {t:Tm} (h:Va t) (hp:t.point=true):t.lo=t.hi/\U7 t.p t.lo=0:=by
 rcases h.i with e | ⟨L,V⟩
 ·exact e
 ·have:=Mj.1 hp;have:=V.l;grind
theorem Va.iv {t:Tm} (h:Va t) (hp:t.point=false):∃ L,Vt (cz t.p) L t.lo t.hi:=by
 rcases h.i with ⟨e,_⟩ | h
 ·have:=Mj.2 (show t.hi<=t.lo by rw [e]; exact Qp);rw [hp] at this; cases this
 ·exact h
theorem Va.cut {t:Tm} (h:Va t):Cut (Fj t):=by
 rcases h.i with ⟨e,_⟩ | ⟨L,V⟩
 ·exact Qtc (x:=t.lo) λq=>A1 e q
 ·have:Fj t=cq (cz t.p) t.lo t.hi:=funext λq=>B6 V.l q
  rw [this]; exact V.cut
theorem Qvp {c:Rat->Int} (hc:Cut c) {p:Un} {x:Rat} (h:c x=0) (h0:ev p x=0):Is p c:=by
 rcases JF hc p with h1 | ⟨s,hs,h1⟩
 ·exact h1
 ·have:=fK hc h h1;rw [Gj.2 h0] at this; exact absurd this.symm hs
theorem Va.van {t:Tm} (h:Va t):Is (cz t.p) (Fj t):=by
 have hc:=h.cut;rcases h.i with ⟨e,h0⟩ | ⟨L,V⟩
 ·exact Qvp hc (x:=t.lo) (by rw [A1 e,Ej]) (by rw [U8]; exact h0)
 ·have:Fj t=cq (cz t.p) t.lo t.hi:=funext λq=>B6 V.l q
  rw [this]; exact V.van
theorem Va.qs {t:Tm} (h:Va t):Qs 3300000 t.lo/\Qs 3300000 t.hi:=by
 obtain ⟨D,M,k,h1,h2,h3,h4⟩:=h.g;have h4:=Qc h4 (Qt7 t);exact ⟨OY h1 h3 h4,OY h2 h3 h4⟩
theorem Va.qsn {t:Tm} (h:Va t) (hp:t.point=false):Qs 1000000 t.lo/\Qs 1000000 t.hi:=by
 obtain ⟨D,M,k,h1,h2,h3,h4⟩:=h.g;rw [jX hp] at h4;exact ⟨OY h1 h3 h4,OY h2 h3 h4⟩
theorem Va.tb {t:Tm} (h:Va t):Tb t:=⟨⟨h.tr,by have:=h.n; omega,U0 h.b (by omega)⟩,h.qs.1.mono (t:=16777216) (by omega),h.qs.2.mono (t:=16777216) (by omega)⟩
structure Hv (t:Tm) (D M k:Nat) (u:Tm):Prop where
 p:u.p=t.p
 i:u.lo=u.hi/\U7 u.p u.lo=0\/∃ L,Vt (cz u.p) L u.lo u.hi
 c:∀ q,Fj u q=Fj t q
 l:Gr D M k u.lo
 h:Gr D M k u.hi
theorem wZ {c:Rat->Int} (hc:Cut c) {x:Rat} (h:c x=0) (q:Rat):c q=G6 x q:=by
 rcases Ty x q with ⟨e,e'⟩ | ⟨e,e'⟩ | ⟨e,e'⟩
 ·rw [e]; exact hc.mono' e' (by omega)
 ·rw [e,<-e',h]
 ·rw [e]; exact hc.mono x q e' (by omega)
theorem xC {t u:Tm} {D M k:Nat} (hu:Hv t D M k u) (hM:0<M) (hs:Fe (D:Int)+Fe (M:Int)+(k+1)<=16777216):∃ v,xB u=some v/\Hv t D M (k+1) v/\v.hi-v.lo<=(u.hi-u.lo) / 2/\u.lo<=v.lo/\v.hi<=u.hi:=by
 have h2:∀ x:Rat,x / 2*2=x:=λx=>Hb (by decide)
 unfold xB;rcases hu.i with ⟨e,h0⟩ | ⟨L,V⟩
 ·have hp:u.point=true:=Mj.2 (by rw [e]; exact Qp);rw [if_pos hp];refine ⟨u,rfl,⟨hu.p,hu.i,hu.c,OV hu.l,OV hu.h⟩,?_,Qp,Qp⟩;rw [e]; have:=h2 (u.hi-u.hi); grind
 ·have hp:u.point=false:=by
   have:¬u.point=true:=λh=>by have:=Mj.1 h; have:=V.l; grind
   simpa using this
  rw [hp,if_neg (by decide)];obtain ⟨m,hm⟩:=nmE ((u.lo+u.hi) / 2);have hmg:Gr D M (k+1) m:=by rw [hm]; exact Qgx hu.l hu.h
  have hmm:=h2 (u.lo+u.hi);rw [<-hm] at hmm;have hl:=V.l;have hl1:u.lo<m:=by grind
  have hl2:m<u.hi:=by grind
  have hch:chq (mid u.lo u.hi)=some m:=by
   rw [mS,<-hm];have:=OY hmg hM hs;unfold chq;rw [if_pos ⟨this.1,this.2⟩]
  have hcm:mid u.lo u.hi=m:=by rw [mS,<-hm]
  rw [hch];show ∃ v,some (if Fj u m=0 then (⟨u.p,m,m⟩:Tm) else if Fj u m=-1 then ⟨u.p,u.lo,m⟩ else ⟨u.p,m,u.hi⟩)=some v/\_;have hw:=h2 (u.hi-u.lo);have hcu:=B6 hl;have hcut:=V.cut;have hcut':Cut (Fj u):=by rw [show Fj u=cq (cz u.p) u.lo u.hi from funext hcu]; exact hcut
  by_cases c0:Fj u m=0
  ·rw [if_pos c0];have hz:U7 u.p m=0:=by
    have:=TU hcut (q:=m) (by rw [<-hcu]; exact c0) V.van;rwa [U8] at this
   refine ⟨_,rfl,⟨hu.p,.inl ⟨rfl,hz⟩,λq=>?_,hmg,hmg⟩,by show m-m<=_; grind,by show u.lo<=m; grind,by show m<=u.hi; grind⟩;rw [A1 rfl,<-hu.c];exact (wZ hcut' c0 q).symm
  ·rw [if_neg c0];by_cases c1:Fj u m=-1
   ·rw [if_pos c1];have hv:vv L m=vv L u.hi:=V.eq_hi hl1 (Qr hl2) (by rw [<-hcu,c1]; decide);have V':Vt (cz u.p) L u.lo m:=⟨V.s,hl1,by rw [hv]; exact V.v⟩;refine ⟨_,rfl,⟨hu.p,.inr ⟨L,V'⟩,λq=>?_,OV hu.l,hmg⟩,by show m-u.lo<=_; grind,Qp,by show m<=u.hi; grind⟩;rw [B6 hl1,<-hu.c,hcu];exact V.uniq V'.cut (Ez Qp) (by rw [UZ hl1 hl2]; decide) V'.van q
   ·rw [if_neg c1];have c2:Fj u m=1:=by rcases hcut'.val m with h | h | h <;> omega
    have hv:vv L m=vv L u.lo:=V.eq_lo hl1 (Qr hl2) (by rw [<-hcu]; exact c2);have V':Vt (cz u.p) L m u.hi:=⟨V.s,hl2,by rw [hv]; exact V.v⟩;refine ⟨_,rfl,⟨hu.p,.inr ⟨L,V'⟩,λq=>?_,hmg,OV hu.h⟩,by show u.hi-m<=_; grind,by show u.lo<=m; grind,Qp⟩;rw [B6 hl2,<-hu.c,hcu];exact V.uniq V'.cut (Ez (by grind)) V'.hi1 V'.van q
def Mb (a b:Tm):Prop:=∃ q,Fj a q=-1/\Fj b q=1
def TEq (a b:Tm):Prop:=∀ q,Fj a q=Fj b q
theorem tri {a b:Tm} (ha:Cut (Fj a)) (hb:Cut (Fj b)):Mb a b\/TEq a b\/Mb b a:=by
 rcases Classical.em (TEq a b) with h | h
 ·exact .inr (.inl h)
 ·obtain ⟨q,hq⟩:=Classical.not_forall.1 h;obtain ⟨r,⟨h1,h2⟩ | ⟨h1,h2⟩⟩:=wQ ha hb hq
  ·exact .inl ⟨r,h1,h2⟩
  ·exact .inr (.inr ⟨r,h2,h1⟩)
theorem Ik {a b:Tm} (ha:Cut (Fj a)) (hb:Cut (Fj b)) (h:Mb a b) (h':Mb b a):False:=by
 obtain ⟨q,q1,q2⟩:=h;obtain ⟨r,r1,r2⟩:=h';have:=ha.lt r2 q1;have:=hb.lt q2 r1;grind
theorem gU {p:Uk} (k:Nat):(p.getD k 0).natAbs<=2^G8 p:=by
 have h:Fe (p.getD k 0)<=G8 p:=by
  have key:∀ (l:Uk) (n:Nat),n≤l.foldl (λn z=>max n (Fe z)) n/\∀ z∈l,Fe z≤l.foldl (λn z=>max n (Fe z)) n:=by
   intro l
   induction l with
   | nil=>exact λn=>⟨Ql _,λz hz=>by cases hz⟩
   |
    cons y l ih =>
    intro n;obtain ⟨i1,i2⟩:=ih (max n (Fe y));refine ⟨by simp only [Z8]; omega,λz hz=>?_⟩;simp only [Z8];rcases Qm.1 hz with rfl | hz
    ·omega
    ·exact i2 z hz
  exact Fo (s:=G8 p) (λz hz=>(key p 0).2 z hz) k
 rw [Sj] at h; omega
theorem Qqz {s:Nat}:∀ (B:Uk),(∀ z∈B,z.natAbs≤2^s)->gB B≤2^(s+(B.length-1))
 | [],_=>Qh _
 |
  c::B,h=>by
  have h1:=h c (Qx ..);have h2:=Qqz B λz hz=>h z (Qg _ hz)
  simp only [gB,Q7,J8];have h3:2^s<=2^(s+B.length):=Zs (by decide) (by omega);cases B with
  | nil=>simp only [gB,X6] at *; omega
  |
   cons d B =>
   have h4:2^(s+(d::B).length)=2*2^(s+((d::B).length-1)):=by
    rw [Zp,<-Zq]; congr 1
   rw [h4]; omega
def Tt (A B:Uk):Nat:=(G8 A+G8 B+(A.length+B.length)+8)*(2*(A.length+B.length-2)-1)
theorem Qgh {A B:Uk} (tA:U9 A) (tB:U9 B) (nA:A.length<=9) (nB:B.length<=9) (lA:2<=A.length) (lB:2<=B.length) {R d:Rat} (hR:1<=R) (dp:0<d)
 (hs:∀ e:Rat,0<e->∃ q r,Fh q<=R/\Fh r<=R/\d<=Fh (q-r)/\Fh (q-r)*((2^(Tt A B+1):Nat):Rat)<=1/\Fh (U7 A q)<e/\Fh (U7 B r)<e):False:=by
 obtain ⟨a,ha⟩:∃ a,A.length=a+1:=⟨A.length-1,by omega⟩;obtain ⟨b,hb⟩:∃ b,B.length=b+1:=⟨B.length-1,by omega⟩;obtain ⟨s,hsd⟩:=nmE (G8 A+G8 B+b);obtain ⟨N,hN⟩:∃ N,b*(2*(a*b))+a*(2*(a*b)-b)=N:=⟨_,rfl⟩;have hNt:N<=2^(a+9):=by
  rw [<-hN];have hab:∀ a b:Fin 9,b.1*(2*(a.1*b.1))+a.1*(2*(a.1*b.1)-b.1)<=2^(a.1+9):=by decide
  exact hab ⟨a,by omega⟩ ⟨b,by omega⟩
 have hK:Tt A B=(s+a+10)*(2*(a+b-1)+1):=by
  unfold Tt;rw [ha,hb,hsd,show a+1+(b+1)-2=a+b by omega,show 2*(a+b)-1=2*(a+b-1)+1 by omega];congr 1; omega
 have h0A:A.getD a 0≠0:=by have:=H5 tA (by omega); rwa [ha] at this
 have h0B:B.getD b 0≠0:=by have:=H5 tB (by omega); rwa [hb] at this
 have hp:∀ m,1<=2^m:=λm=>Z3 (by decide)
 refine Qtx (N:=N) (D:=2^(Tt A B-1)) ha hb h0A h0B (by omega) (by omega) (h:=2^s) (hp s) (λk=>Qc (gU k) (Zs (by decide) (by omega))) ?_ hN ?_ hR dp λe ep=>?_
 ·refine Qc (Qqz (s:=G8 B) B λz hz=>?_) (Zs (by decide) (by omega));obtain ⟨i,hi⟩:=Zh.1 hz;have:=gU (p:=B) i;rwa [Qi,hi] at this
 ·have h1:2*(N*2^s)<=2^(s+a+10):=by
   have:N*2^s<=2^(a+9)*2^s:=Qz _ hNt;rw [<-Xd] at this;rw [show s+a+10=(a+9+s)+1 by omega,Zq]; omega
  have h2:N*2^s<=2^(s+a+9):=by
   rw [show s+a+9=(a+9)+s by omega,Xd]; exact Qz _ hNt
  have h3:=Nat.pow_le_pow_left h1 (2*(a+b-1));have h4:=Zf h2 h3;rw [<-Ks,<-Xd] at h4;rw [<-Xw];refine Qc h4 (Zs (by decide) ?_);rw [hK,Xi,Ys]; omega
 ·obtain ⟨q,r,h1,h2,h3,h4,h5,h6⟩:=hs e ep;refine ⟨q,r,h1,h2,h3,?_,h5,h6⟩;have hK1:1<=Tt A B:=by
   rw [hK]; exact J4 (by omega) (by omega)
  have e1:2^(Tt A B+1)=4*2^(Tt A B-1):=by
   obtain ⟨m,hm⟩:∃ m,Tt A B=m+1:=⟨Tt A B-1,by omega⟩;rw [hm,J8,Zq,Zq]; omega
  rw [e1] at h4
  push_cast at h4 ⊢
  exact h4
theorem Hv.lo' {t:Tm} {D M k:Nat} {u:Tm} (h:Hv t D M k u):Fj t u.lo=1\/Fj t u.lo=0/\u.lo=u.hi:=by
 rw [<-h.c];rcases h.i with ⟨e,_⟩ | ⟨L,V⟩
 ·exact .inr ⟨by rw [A1 e,Ej],e⟩
 ·exact .inl (by rw [B6 V.l]; exact Ez Qp)
theorem Hv.hi' {t:Tm} {D M k:Nat} {u:Tm} (h:Hv t D M k u):Fj t u.hi=0\/Fj t u.hi=-1:=by
 rw [<-h.c];rcases h.i with ⟨e,_⟩ | ⟨L,V⟩
 ·exact .inl (by rw [A1 e,e,Ej])
 ·rw [B6 V.l];have:=V.hi1;rcases V.cut.val u.hi with h | h | h <;> omega
theorem Hv.le {t:Tm} {D M k:Nat} {u:Tm} (h:Hv t D M k u):u.lo<=u.hi:=by
 rcases h.i with ⟨e,_⟩ | ⟨L,V⟩
 ·rw [e]; exact Qp
 ·exact Qr V.l
theorem Qgi {a b:Tm} (ha:Va a) (hb:Va b) {D M k D' M' k':Nat} {u v:Tm} (hu:Hv a D M k u) (hv:Hv b D' M' k' v) (h:Mb a b):1<(v.hi-u.lo)*((2^(Tt a.p b.p+1):Nat):Rat):=by
 rcases Gb ((v.hi-u.lo)*((2^(Tt a.p b.p+1):Nat):Rat)) 1 with hw | hw
 ·exfalso;have ca:=ha.cut;have cb:=hb.cut;obtain ⟨m,m1,m2⟩:=h;obtain ⟨m',hm',m3⟩:=ca.dn m m1;have hpow:(0:Rat)<=((2^(Tt a.p b.p+1):Nat):Rat):=Xh;obtain ⟨R,hR⟩:=nmE (Fh u.lo+Fh m'+Fh m+Fh v.hi+1);have n1:=Hq u.lo; have n2:=Hq m'; have n3:=Hq m; have n4:=Hq v.hi;refine Qgh (R:=R) (d:=m-m') ha.tr hb.tr ha.n hb.n ha.n2 hb.n2 (by grind) (by grind) λe ep=>?_
  obtain ⟨q,q1,q2,q3⟩:∃ q,u.lo<=q/\q<=m'/\Fh (U7 a.p q)<e:=by
   rcases hu.lo' with h1 | ⟨h1,_⟩
   ·obtain ⟨x,y,hx,hy,hq⟩:=ha.van e ep;rcases Gb x u.lo with e1 | e1
    ·exact ⟨u.lo,Qp,Qr (ca.lt h1 m3),by rw [<-U8]; exact hq u.lo e1 (Qr (ca.lt h1 hy))⟩
    ·exact ⟨x,Qr e1,Qr (ca.lt hx m3),by rw [<-U8]; exact hq x Qp (Qr (ca.lt hx hy))⟩
   ·refine ⟨u.lo,Qp,?_,by rw [<-U8,TU ca h1 ha.van,Re]; exact ep⟩;rcases Gb u.lo m' with e1 | e1
    ·exact e1
    ·have:=ca.mono m' u.lo e1 (by omega); omega
  obtain ⟨r,r1,r2,r3⟩:∃ r,r<=v.hi/\m<=r/\Fh (U7 b.p r)<e:=by
   rcases hv.hi' with h1 | h1
   ·refine ⟨v.hi,Qp,?_,by rw [<-U8,TU cb h1 hb.van,Re]; exact ep⟩;rcases Gb m v.hi with e1 | e1
    ·exact e1
    ·have:=cb.mono v.hi m e1 (by omega); omega
   ·obtain ⟨x,y,hx,hy,hq⟩:=hb.van e ep;rcases Gb v.hi y with e1 | e1
    ·exact ⟨v.hi,Qp,Qr (cb.lt m2 h1),by rw [<-U8]; exact hq v.hi (Qr (cb.lt hx h1)) e1⟩
    ·exact ⟨y,Qr e1,Qr (cb.lt m2 hy),by rw [<-U8]; exact hq y (Qr (cb.lt hx hy)) Qp⟩
  have e1:Fh (q-r)=r-q:=by unfold Fh; split <;> grind
  have b1:Fh q<=R:=by
   have:=UP (R:=R) (x:=u.lo) (y:=m') (t:=q) (by grind) (by grind) q1 q2; exact this
  have b2:Fh r<=R:=by
   have:=UP (R:=R) (x:=m) (y:=v.hi) (t:=r) (by grind) (by grind) r2 r1; exact this
  refine ⟨q,r,b1,b2,by rw [e1]; grind,?_,q3,r3⟩;rw [e1];have:=Zc (show r-q<=v.hi-u.lo by grind) hpow;exact Zk this hw
 ·exact hw
theorem vD {a b:Tm} (ha:Va a) (hb:Va b) {D M k D' M' k':Nat} {u v:Tm} (hu:Hv a D M k u) (hv:Hv b D' M' k' v) (hne:¬TEq a b) (h:Dv u v=true):Mb a b:=by
 have h1:=(of_decide_eq_true h).1;have h1:=MQ.1 h1;rcases tri ha.cut hb.cut with h2 | h2 | ⟨m,m1,m2⟩
 ·exact h2
 ·exact absurd h2 hne
 ·exfalso;have e1:m<u.hi:=by
   rcases Gb u.hi m with e | e
   ·rcases Classical.em (u.hi=m) with e' | e'
    ·have:=hu.hi'; rw [e'] at this; omega
    ·have:=ha.cut.mono u.hi m (by grind) (by have:=hu.hi'; omega); omega
   ·exact e
  have e2:v.lo<m:=by
   rcases Gb m v.lo with e | e
   ·rcases Classical.em (m=v.lo) with e' | e'
    ·have:=hv.lo'; rw [<-e'] at this; omega
    ·have:=hb.cut.mono m v.lo (by grind) (by omega);have:=hv.lo'; omega
   ·exact e
  grind
theorem aF {a b:Tm} (ha:Va a) (hb:Va b) {D M k D' M' k':Nat} {u v:Tm} (hu:Hv a D M k u) (hv:Hv b D' M' k' v) (hlt:Mb a b) (h:Dv u v≠true):v.lo<=u.hi:=by
 rcases Gb v.lo u.hi with e | e
 ·exact e
 ·refine absurd (decide_eq_true ⟨MQ.2 (Qr e),λh'=>?_⟩) h;have:=dE.1 h'.2; grind
theorem gX (m:Nat):((2^(m+1):Nat):Rat)=2*((2^m:Nat):Rat):=by rw [Zq]; push_cast; grind
def Qrq (a b:Tm) (r:Tm×Tm×Int):Prop:=r.2.2=-1/\Mb a b\/r.2.2=1/\Mb b a
theorem Qbb (A B:Uk):Tt A B=Tt B A:=by unfold Tt; rw [Nat.add_comm A.length,Nat.add_comm (G8 A)]
theorem Qv9 {a b:Tm} (ha:Va a) (hb:Va b) (hne:¬TEq a b) {D M D' M':Nat} (hM:0<M) (hM':0<M'):∀ (i j:Nat) (u v:Tm) (k k':Nat) (W:Rat),2*i+1<=j->Hv a D M k u->Hv b D' M' k' v->Fe (D:Int)+Fe (M:Int)+(k+j)<=16777216->Fe (D':Int)+Fe (M':Int)+(k'+j)<=16777216->u.hi-u.lo<=W->v.hi-v.lo<=W->2*W*((2^(Tt a.p b.p+1):Nat):Rat)<=((2^i:Nat):Rat)->∃ r,EM j u v=some r/\Qrq a b r:=by
 intro i;have step:∀ (j:Nat) (u v:Tm) (k k':Nat),Hv a D M k u->Hv b D' M' k' v->Fe (D:Int)+Fe (M:Int)+(k+(j+1))<=16777216->Fe (D':Int)+Fe (M':Int)+(k'+(j+1))<=16777216->(∃ r,EM (j+1) u v=some r/\Qrq a b r)\/(Dv u v≠true/\Dv v u≠true/\∃ u' v' k1 k1',EM (j+1) u v=EM j u' v'/\Hv a D M k1 u'/\Hv b D' M' k1' v'/\k1<=k+1/\k1'<=k'+1/\(v.hi-v.lo<=u.hi-u.lo/\u'.hi-u'.lo<=(u.hi-u.lo) / 2/\v'=v\/u.hi-u.lo<=v.hi-v.lo/\v'.hi-v'.lo<=(v.hi-v.lo) / 2/\u'=u)):=by
  intro j u v k k' hu hv hs hs';by_cases h1:Dv u v=true
  ·exact .inl ⟨(u,v,-1),by simp only [EM]; rw [if_pos h1],.inl ⟨rfl,vD ha hb hu hv hne h1⟩⟩
  by_cases h2:Dv v u=true
  ·exact .inl ⟨(u,v,1),by simp only [EM]; rw [if_neg h1,if_pos h2],.inr ⟨rfl,vD hb ha hv hu (λh=>hne λq=>(h q).symm) h2⟩⟩
  refine .inr ⟨h1,h2,?_⟩;by_cases h3:0<=G6 (LP u.hi u.lo) (LP v.hi v.lo)
  ·obtain ⟨x,x1,x2,x3,_⟩:=xC hu hM (by omega);refine ⟨x,v,k+1,k',?_,x2,hv,by omega,by omega,.inl ⟨?_,x3,rfl⟩⟩
   ·simp only [EM]; rw [if_neg h1,if_neg h2,if_pos h3,x1]; rfl
   ·have:=PO.1 h3; rwa [MD,MD] at this
  ·obtain ⟨x,x1,x2,x3,_⟩:=xC hv hM' (by omega);refine ⟨u,x,k,k'+1,?_,hu,x2,by omega,by omega,.inr ⟨?_,x3,rfl⟩⟩
   ·simp only [EM]; rw [if_neg h1,if_neg h2,if_neg h3,x1]; rfl
   ·rcases Gb (u.hi-u.lo) (v.hi-v.lo) with e | e
    ·exact e
    ·refine absurd (PO.2 ?_) h3;rw [MD,MD]; exact Qr e
 induction i with
 |
  zero =>
  intro j u v k k' W hj hu hv hs hs' hW hW' hK;obtain ⟨j,rfl⟩:∃ m,j=m+1:=⟨j-1,by omega⟩;rcases step j u v k k' hu hv hs hs' with h | ⟨h1,h2,_⟩
  ·exact h
  ·exfalso;have hpow:(0:Rat)<=((2^(Tt a.p b.p+1):Nat):Rat):=Xh;rw [Vd] at hK;rcases tri ha.cut hb.cut with h3 | h3 | h3
   ·have h4:=aF ha hb hu hv h3 h1;have h5:=Qgi ha hb hu hv h3;have h6:=Zc (show v.hi-u.lo<=2*W by clear step; grind) hpow;have h7:((1:Nat):Rat)=1:=rfl;rw [h7] at hK;clear step; grind
   ·exact hne h3
   ·have h4:=aF hb ha hv hu h3 h2;have h5:=Qgi hb ha hv hu h3;rw [Qbb] at h5;have h6:=Zc (show u.hi-v.lo<=2*W by clear step; grind) hpow;have h7:((1:Nat):Rat)=1:=rfl;rw [h7] at hK;clear step; grind
 |
  succ i ih =>
  intro j u v k k' W hj hu hv hs hs' hW hW' hK;obtain ⟨j,rfl⟩:∃ m,j=m+2:=⟨j-2,by omega⟩;have hd:∀ x:Rat,x / 2*2=x:=λx=>Hb (by decide)
  rcases step (j+1) u v k k' hu hv hs hs' with h | ⟨_,_,u1,v1,k1,k1',e1,hu1,hv1,hk1,hk1',hw1⟩
  ·exact h
  ·rw [e1];rcases step j u1 v1 k1 k1' hu1 hv1 (by omega) (by omega) with h | ⟨_,_,u2,v2,k2,k2',e2,hu2,hv2,hk2,hk2',hw2⟩
   ·exact h
   ·rw [e2];have a1:=hd (u.hi-u.lo); have a2:=hd (v.hi-v.lo); have a3:=hd (u1.hi-u1.lo); have a4:=hd (v1.hi-v1.lo); have a5:=hd W;have b1:=hu.le; have b2:=hv.le; have b3:=hu1.le; have b4:=hv1.le; have b5:=hu2.le; have b6:=hv2.le;have hww:u2.hi-u2.lo<=W / 2/\v2.hi-v2.lo<=W / 2:=by
     clear step ih;rcases hw1 with ⟨c1,c2,rfl⟩ | ⟨c1,c2,rfl⟩ <;> rcases hw2 with ⟨d1,d2,rfl⟩ | ⟨d1,d2,rfl⟩ <;> constructor <;> grind
    refine ih j u2 v2 k2 k2' (W / 2) (by omega) hu2 hv2 (by omega) (by omega) hww.1 hww.2 ?_;rw [gX i] at hK;have:2*(W / 2)*((2^(Tt a.p b.p+1):Nat):Rat)*2=2*W*((2^(Tt a.p b.p+1):Nat):Rat):=by clear step ih hw1 hw2; grind
    clear step ih hw1 hw2; grind
def CmpOk (a b:Tm) (c:Int):Prop:=c=-1/\Mb a b\/c=0/\TEq a b\/c=1/\Mb b a
theorem Va.hv0 {t:Tm} (h:Va t):∃ D M k,Hv t D M k t/\0<M/\Fe (D:Int)+Fe (M:Int)+k<=lim t:=by
 obtain ⟨D,M,k,h1,h2,h3,h4⟩:=h.g;exact ⟨D,M,k,⟨rfl,h.i,λ_=>rfl,h1,h2⟩,h3,h4⟩
theorem nU {a:Tm} (ha:Va a) (hp:a.point=true) (q:Rat):Fj a q=G6 a.lo q:=A1 (ha.pt hp).1 q
theorem Qfn {a b:Tm} (hb:Va b) {x:Rat} (hx:∀ q,Fj a q=G6 x q):CmpOk a b (-Fj b x):=by
 have cb:=hb.cut;rcases cb.val x with h | h | h
 ·obtain ⟨q,q1,q2⟩:=cb.up x h;refine .inl ⟨by omega,q,?_,q2⟩;rw [hx]; rcases Ty x q with ⟨e,e'⟩ | ⟨e,e'⟩ | ⟨e,e'⟩ <;> grind
 ·exact .inr (.inl ⟨by omega,λq=>by rw [hx,wZ cb h]⟩)
 ·obtain ⟨q,q1,q2⟩:=cb.dn x h;refine .inr (.inr ⟨by omega,q,q2,?_⟩);rw [hx]; rcases Ty x q with ⟨e,e'⟩ | ⟨e,e'⟩ | ⟨e,e'⟩ <;> grind
theorem CmpOk.symm {a b:Tm} {c:Int} (h:CmpOk a b c):CmpOk b a (-c):=by
 rcases h with ⟨h1,h2⟩ | ⟨h1,h2⟩ | ⟨h1,h2⟩
 ·exact .inr (.inr ⟨by omega,h2⟩)
 ·exact .inr (.inl ⟨by omega,λq=>(h2 q).symm⟩)
 ·exact .inl ⟨by omega,h2⟩
theorem Qx5:Szz 9 1260:=⟨by decide,by decide⟩
theorem US (g:Uk) (lo hi:Rat):UT g lo hi=true↔pA (cz g) lo hi:=by
 unfold UT pA;rw [decide_eq_true_iff,Nf,uC,U8]
theorem uW {g:Uk} (tg:U9 g) (hn:g.length≠0) {lo hi:Rat} (h:pA (cz g) lo hi):1<g.length:=by
 rcases Q9 1 g.length with e | e
 ·exact e
 ·exfalso;obtain ⟨c,rfl⟩:∃ c,g=[c]:=Kr.1 (by omega);have hc:c≠0:=by have:=H5 tg (by simp); simpa using this
  have hv:∀ t,ev (cz [c]) t=(c:Rat):=λt=>by rw [U8]; simp only [U7]; grind
  have hs:Fc (c:Rat)≠0:=λh=>XX hc (Gj.1 h)
  unfold pA at h;rw [hv,Ae (by rw [hv]; exact hs),hv] at h;rcases h with h | h
  ·exact hs h
  ·exact h rfl
theorem CC {q:Rat}:Fh q<=((2^Fe q.num:Nat):Rat):=by
 have h1:Fe q.num<=Fe q.num:=Ql _;rw [Sj] at h1;have e:(q.num:Rat)=q*(q.den:Rat):=by
  have:(q.num:Rat) / (((q.den:Int)):Rat)=q:=by rw [H6,Z2]
  have h2:(q.num:Rat) / (q.den:Rat)*(q.den:Rat)=q.num:=Zg (by have:=nat_pos q.den_pos; grind);rw [show (q.num:Rat) / (q.den:Rat)=q from this] at h2; exact h2.symm
 have hd:(1:Rat)<=(q.den:Rat):=by
  have:((1:Nat):Rat)<=(q.den:Rat):=Zl.2 q.den_pos;exact this
 have h2:Fh q<=Fh (q.num:Rat):=by
  rw [e,Ia];have:Fh (q.den:Rat)=(q.den:Rat):=by unfold Fh; rw [if_neg (by grind)]
  rw [this];have:=Ce (a:=Fh q) (c:=1) (Hq q) Qp (by decide) hd;grind
 rw [Sk] at h2;exact Zk h2 (Zl.2 (Yg h1))
theorem TF {a:Tm} {w:Nat} (h:Fe a.lo.num+Fe a.hi.num<=w):a.hi-a.lo<=((2^(w+1):Nat):Rat):=by
 have h1:=CC (q:=a.lo);have h2:=CC (q:=a.hi);have h3:((2^Fe a.lo.num:Nat):Rat)<=((2^w:Nat):Rat):=Zl.2 (Zs (by decide) (by omega));have h4:((2^Fe a.hi.num:Nat):Rat)<=((2^w:Nat):Rat):=Zl.2 (Zs (by decide) (by omega));rw [gX];rw [P9] at h1 h2;grind
theorem On {p:Uk} {s:Nat} (h:Bd s p):G8 p<=s:=by
 have:=P8 h p.length; rwa [Q5] at this
theorem Qjt {a b:Tm} (ha:Va a) (hb:Va b) (pa:a.point=false) (pb:b.point=false):Pu a b<=9000000:=by
 have q1:=ha.qsn pa; have q2:=hb.qsn pb;have l1:=ha.n; have l2:=hb.n;have s1:=On (ha.bi pa); have s2:=On (hb.bi pb);have b1:=q1.1.1; have b2:=q1.2.1; have b3:=q2.1.1; have b4:=q2.2.1;have:4*(a.p.length+b.p.length)*(G8 a.p+G8 b.p+(a.p.length+b.p.length)+8)<=4*18*2600:=Zf (by omega) (by omega);unfold Pu; omega
theorem Qc8 {a b:Tm} (ha:Va a) (hb:Va b) (pa:a.point=false) (pb:b.point=false) (hne:¬TEq a b):∃ r,EM (Pu a b) a b=some r/\Qrq a b r:=by
 obtain ⟨D,M,k,h1,h2,h3⟩:=ha.hv0;obtain ⟨D',M',k',h1',h2',h3'⟩:=hb.hv0;rw [jX pa] at h3;rw [jX pb] at h3';have hst:=Qjt ha hb pa pb;obtain ⟨w,hw⟩:=nmE (Fe a.lo.num+Fe a.hi.num+Fe b.lo.num+Fe b.hi.num);obtain ⟨K,hK⟩:=nmE (G8 a.p+G8 b.p+(a.p.length+b.p.length)+8);obtain ⟨n,hn⟩:=nmE (a.p.length+b.p.length);have l1:=ha.n2; have l2:=hb.n2;have hsteps:Pu a b=64+2*w+4*n*K:=by unfold Pu; rw [hw,hK,hn]
 have hg:Tt a.p b.p=K*(2*(n-2)-1):=by unfold Tt; rw [hK,hn]
 have hgle:Tt a.p b.p+5*K<=2*n*K:=by
  rw [hg,Zp K,<-X2];exact Qz _ (by omega)
 have hKp:8<=K:=by omega
 refine Qv9 ha hb hne h2 h2' (31+w+2*n*K) (Pu a b) a b k k' ((2^(w+1):Nat):Rat) ?_ h1 h1' (by omega) (by omega) (TF (by omega)) (TF (by omega)) ?_
 ·rw [hsteps,Xi,Xw 4,Xw 2 n]; omega
 ·have e:2*(2^(w+1))*(2^(Tt a.p b.p+1))<=2^(31+w+2*n*K):=by
   rw [Zp 2,<-Zq,<-Xd];exact Zs (by decide) (by omega)
  have:=Zl.2 e
  push_cast at this ⊢
  exact this
theorem WO {a b:Tm} (ha:Va a) (hb:Va b):∃ c,WI a b=some c/\CmpOk a b c:=by
 unfold WI;by_cases pa:a.point=true
 ·rw [if_pos pa];exact ⟨_,rfl,Qfn hb (nU ha pa)⟩
 rw [if_neg pa];by_cases pb:b.point=true
 ·rw [if_pos pb];have:=(Qfn ha (nU hb pb)).symm;rw [Int.neg_neg] at this;exact ⟨_,rfl,this⟩
 rw [if_neg pb];have pa:a.point=false:=by simpa using pa
 have pb:b.point=false:=by simpa using pb
 obtain ⟨L,V⟩:=ha.iv pa;obtain ⟨L',V'⟩:=hb.iv pb;have eqa:∀ q,Fj a q=cq (cz a.p) a.lo a.hi q:=B6 V.l;have eqb:∀ q,Fj b q=cq (cz b.p) b.lo b.hi q:=B6 V'.l;obtain ⟨lo,hlo⟩:=nmE (if 0<G6 b.lo a.lo then b.lo else a.lo);obtain ⟨hi,hhi⟩:=nmE (if G6 b.hi a.hi<0 then b.hi else a.hi);show ∃ c,(if G6 (if 0<G6 b.lo a.lo then b.lo else a.lo) (if G6 b.hi a.hi<0 then b.hi else a.hi)<0 then _ else _)=some c/\_;rw [<-hlo,<-hhi];have e1:(0<G6 b.lo a.lo)=(a.lo<b.lo):=propext Dk;have e2:(G6 b.hi a.hi<0)=(b.hi<a.hi):=propext Nm;have e3:(G6 lo hi<0)=(lo<hi):=propext Nm;simp only [e1] at hlo;simp only [e2] at hhi;simp only [e3];obtain ⟨g,g1,g2,g3,g4⟩:=Qgq Qx5 ha.tr hb.tr ha.n hb.n (ha.bi pa) (hb.bi pb) (by have:=ha.n2; omega);obtain ⟨U,W,hc⟩:=g2.c;obtain ⟨u,hu⟩:=g2.da;obtain ⟨u',hu'⟩:=g2.db;have key:=V.same V' (g:=cz g) (u:=u) (u':=u') (U:=U) (W:=W) (k:=1) (by decide) hu hu' (λt=>by rw [U8,U8,U8,hc]; grind) (a:=lo) (b:=hi) (by rw [hlo]; split <;> grind) (by rw [hlo]; split <;> grind) (by rw [hlo]; split <;> simp) (by rw [hhi]; split <;> grind) (by rw [hhi]; split <;> grind) (by rw [hhi]; split <;> simp);have hTE:(∀ q,cq (cz a.p) a.lo a.hi q=cq (cz b.p) b.lo b.hi q)↔TEq a b:=by
  unfold TEq; constructor
  ·intro h q; rw [eqa,eqb]; exact h q
  ·intro h q; rw [<-eqa,<-eqb]; exact h q
 rw [hTE] at key;have fin:¬TEq a b->∃ c,((EM (Pu a b) a b).bind λr=>some r.2.2)=some c/\CmpOk a b c:=λhne=>by
  obtain ⟨r,r1,r2⟩:=Qc8 ha hb pa pb hne;refine ⟨r.2.2,by rw [r1]; rfl,?_⟩;rcases r2 with h | h
  ·exact .inl h
  ·exact .inr (.inr h)
 by_cases hl:lo<hi
 ·rw [if_pos hl,g1];show ∃ c,(if 1<g.length/\UT g lo hi=true then some 0 else (EM (Pu a b) a b).bind λr=>some r.2.2)=some c/\_;by_cases hh:UT g lo hi=true
  ·have hq:=(US g lo hi).1 hh;rw [if_pos ⟨uW g2.t g2.n hq,hh⟩];exact ⟨0,rfl,.inr (.inl ⟨rfl,key.1 ⟨hl,hq⟩⟩)⟩
  ·rw [if_neg λh=>hh h.2];exact fin λh=>hh ((US g lo hi).2 (key.2 h).2)
 ·rw [if_neg hl];exact fin λh=>hl (key.2 h).1
def SgT (p:Uk) (a:Tm) (s:Int):Prop:=s=0/\Is (cz p) (Fj a)\/s≠0/\NZ (cz p) (Fj a) s
theorem Qu5 {p:Uk} {c:Rat->Int} (hc:Cut c) {x:Rat} (h:c x=0):H7 p x=0/\Is (cz p) c\/H7 p x≠0/\NZ (cz p) c (H7 p x):=by
 rw [Nf,<-U8];rcases JF hc (cz p) with h1 | ⟨s,hs,h1⟩
 ·exact .inl ⟨Gj.2 (TU hc h h1),h1⟩
 ·have:=fK hc h h1;rw [this]; exact .inr ⟨hs,h1⟩
theorem O3 {l:Ul} {lo hi:Rat} (h:lo<=hi):Tj l lo hi=(vv (l.map cz) lo:Int)-(vv (l.map cz) hi:Int):=by
 unfold Tj;rw [if_neg λh'=>by have:=Nm.1 h'; grind,QL,QL]
theorem Qu6 {p q:Uk} {L:Uo} (hp:U9 p) (np:p.length<=9) (lp:2<=p.length) (hS:GH (cz q) L) (hpq:ZF (cz q) (cz p)) {a:Tm} (ha:Va a) {s:Int} (hnz:NZ (cz p) (Fj a) s) {D M k:Nat} {x:Tm} (hx:Hv a D M k x) (hl:x.lo<x.hi) (hv:vv L x.lo≠vv L x.hi):1<(x.hi-x.lo)*((2^(Tt a.p p+1):Nat):Rat):=by
 rcases Gb ((x.hi-x.lo)*((2^(Tt a.p p+1):Nat):Rat)) 1 with hw | hw
 ·exfalso;have ca:=ha.cut;obtain ⟨d,dp,x1,y1,c1,c2,hn⟩:=hnz;obtain ⟨x2,x12,c3⟩:=ca.up x1 c1;obtain ⟨y2,y12,c4⟩:=ca.dn y1 c2;have hpow:(0:Rat)<=((2^(Tt a.p p+1):Nat):Rat):=Xh;obtain ⟨z,zp,z1,z2⟩:=min2 (a:=x2-x1) (b:=y1-y2) (by clear hn; grind) (by clear hn; grind);obtain ⟨R0,hR0,r1,r2⟩:=zJ x.lo x.hi;obtain ⟨u,hu⟩:=hpq;refine Qgh (R:=R0+1) (d:=z) ha.tr hp ha.n np ha.n2 lp (by clear hn; grind) zp λe ep=>?_
  obtain ⟨q0,q1,q2,q3,q4,q5⟩:∃ q0,x.lo<=q0/\q0<=x.hi/\x2<=q0/\q0<=y2/\Fh (U7 a.p q0)<e:=by
   rcases hx.lo' with h1 | ⟨h1,h2⟩
   ·obtain ⟨x',y',hx',hy',hq⟩:=ha.van e ep;obtain ⟨m,m1,m2,m3,m4⟩:∃ m,Fj a m=1/\x.lo<=m/\x2<=m/\x'<=m:=by
     rcases Gb x.lo x2 with e1 | e1
     ·rcases Gb x2 x' with e2 | e2
      ·exact ⟨x',hx',by clear hn hq; grind,e2,Qp⟩
      ·exact ⟨x2,c3,e1,Qp,Qr e2⟩
     ·rcases Gb x.lo x' with e2 | e2
      ·exact ⟨x',hx',e2,by clear hn hq; grind,Qp⟩
      ·exact ⟨x.lo,h1,Qp,Qr e1,Qr e2⟩
    refine ⟨m,m2,?_,m3,Qr (ca.lt m1 c4),by rw [<-U8]; exact hq m m4 (Qr (ca.lt m1 hy'))⟩;rcases hx.hi' with h3 | h3
    ·rcases Gb m x.hi with e1 | e1
     ·exact e1
     ·have:=ca.mono x.hi m e1 (by omega); omega
    ·exact Qr (ca.lt m1 h3)
   ·exact absurd h2 (by clear hn; grind)
  obtain ⟨b,hb⟩:=nmE (wB R0 u);have hb0:0<=b:=by rw [hb]; exact ZL hR0 u
  obtain ⟨f,fp,_,hf⟩:=Hf (b:=b) (d:=if e<=d then e else d) hb0 (by split <;> assumption);obtain ⟨r,r3,r4,r5⟩:=yE hS hl hv fp;have hrR:Fh r<=R0:=UP r1 r2 r3 r4;have hpr:Fh (U7 p r)<(if e<=d then e else d):=by
   rw [<-U8,hu];have:=Ha (Qr r5) (TL hrR u);rw [<-hb] at this;exact Js.1 λh=>absurd (Zk h this) (Js.2 hf)
  have hpe:Fh (U7 p r)<e:=by split at hpr <;> (clear hn; grind)
  have hpd:Fh (U7 p r)<d:=by split at hpr <;> (clear hn; grind)
  have hrout:r<x1\/y1<r:=by
   rcases Gb x1 r with e1 | e1
   ·rcases Gb r y1 with e2 | e2
    ·have:=(hn r e1 e2).2;rw [U8] at this;exact absurd this (Js.2 hpd)
    ·exact .inr e2
   ·exact .inl e1
  have hqr:z<=Fh (q0-r):=by
   clear hn;rcases hrout with h | h
   ·have:Fh (q0-r)=q0-r:=by unfold Fh; split <;> grind
    rw [this]; grind
   ·have:Fh (q0-r)=r-q0:=by unfold Fh; split <;> grind
    rw [this]; grind
  have hq0R:Fh q0<=R0:=UP r1 r2 q1 q2;refine ⟨q0,r,by clear hn; grind,by clear hn; grind,hqr,?_,q5,hpe⟩;have h1:Fh (q0-r)<=x.hi-x.lo:=by rw [P9]; clear hn; constructor <;> grind
  exact Zk (Zc h1 hpow) hw
 ·exact hw
theorem Qje {p q:Uk} {l:Ul} (hp:U9 p) (np:p.length<=9) (lp:2<=p.length) (hS:GH (cz q) (l.map cz)) (hpq:ZF (cz q) (cz p)) {a:Tm} (ha:Va a) {s:Int} (hnz:NZ (cz p) (Fj a) s) {D M:Nat} (hM:0<M):∀ (j i:Nat) (x:Tm) (k:Nat) (W:Rat),i+1<=j->Hv a D M k x->Fe (D:Int)+Fe (M:Int)+(k+j)<=16777216->x.hi-x.lo<=W->W*((2^(Tt a.p p+1):Nat):Rat)<=((2^i:Nat):Rat)->∃ u k',sgF l j x=some u/\Hv a D M k' u/\(u.point=true\/Tj l u.lo u.hi=0)
 | 0,i,x,k,W,h,_,_,_,_=>by omega
 |
  j+1,i,x,k,W,hj,hx,hs,hW,hK=>by
  simp only [sgF];by_cases h:x.point=true\/Tj l x.lo x.hi=0
  ·rw [if_pos h]; exact ⟨x,k,rfl,hx,h⟩
  ·rw [if_neg h];obtain ⟨v,v1,v2,v3,_⟩:=xC hx hM (by omega);rw [v1];show ∃ u k',sgF l j v=some u/\_;have hpt:¬x.hi<=x.lo:=λh'=>h (.inl (Mj.2 h'))
   have hl:x.lo<x.hi:=by grind
   have hvv:vv (l.map cz) x.lo≠vv (l.map cz) x.hi:=λh'=>h (.inr (by rw [O3 (Qr hl)]; omega))
   have hg:=Qu6 hp np lp hS hpq ha hnz hx hl hvv;have hpow:(0:Rat)<=((2^(Tt a.p p+1):Nat):Rat):=Xh;have hd:∀ x:Rat,x / 2*2=x:=λx=>Hb (by decide)
   cases i with
   |
    zero =>
    exfalso;rw [Vd] at hK;have:=Zc hW hpow;have h7:((1:Nat):Rat)=1:=rfl;rw [h7] at hK;grind
   |
    succ i =>
    refine Qje hp np lp hS hpq ha hnz hM j i v (k+1) (W / 2) (by omega) v2 (by omega) ?_ ?_
    ·have:=hd (x.hi-x.lo); have:=hd W; grind
    ·rw [gX i] at hK;have:=hd W;have:W / 2*((2^(Tt a.p p+1):Nat):Rat)*2=W*((2^(Tt a.p p+1):Nat):Rat):=by grind
     grind
theorem fP {x y:Rat}:∀ {ws:Uo},(∀ w∈ws,Fc (ev w x)=Fc (ev w y))->Fc (ev (Od ws) x)=Fc (ev (Od ws) y)
 | [],_=>by simp only [Od]; rw [Ry,Ry]
 |
  w::l,h=>by
  simp only [Od];rw [Ff,Ff,Si,Si,h w (Qx ..),fP λv hv=>h v (Qg _ hv)]
theorem Qbz {p q o:Uk} (hpt:Parts p q o) (tp:U9 p) (hp:p.length≠0) {L:Uo} (hS:GH (cz q) L) {x y:Rat} (hxy:x<y) (hv:vv L x=vv L y):∃ s,s≠0/\∀ z,x<z->z<=y->Fc (U7 p z)=s:=by
 obtain ⟨ws,w1,w2⟩:=hpt.ws;obtain ⟨_,_,_,_,_,p6,p7⟩:=Ch tp hp;have key:∀ z,x<z->z≤y->∀ w∈ws.map cz,Sm w x z:=λz h1 h2 w hw=>by
  obtain ⟨v,hv',rfl⟩:=Q8.1 hw;obtain ⟨u,hu⟩:=(w1 v hv').2;have a1:=Aq hS h1;have a2:vv L y<=vv L z:=by
   rcases Classical.em (z=y) with e | e
   ·rw [e]; exact Ql _
   ·exact Aq hS (by grind)
  exact VM hS hu h1 (by omega)
 have hval:∀ z,U7 p z=(Hk p:Rat)*ev (Od (ws.map cz)) z:=λz=>by rw [p7,w2]
 refine ⟨Fc (U7 p y),λh0=>?_,λz h1 h2=>?_⟩
 ·rw [hval,Si] at h0;rcases Yb.1 h0 with h | h
  ·exact XX p6 (Gj.1 h)
  ·have:∀ l:Uo,(∀ w∈l,Fc (ev w y)≠0)->Fc (ev (Od l) y)≠0:=by
    intro l
    induction l with
    | nil=>intro _; simp only [Od]; rw [Ry]; decide
    |
     cons w l ih =>
     intro h;simp only [Od];rw [Ff,Si];exact Jp (h w (Qx ..)) (ih λv hv=>h v (Qg _ hv))
   refine this _ (λw hw=>?_) h;have hs:=key y hxy Qp w hw;rw [hs.s]; exact hs.n
 ·rw [hval,hval,Si,Si,fP (y:=y) λw hw=>(key z h1 h2 w hw).s.trans (key y hxy Qp w hw).s.symm]
theorem Qty {g p P:Uk} {c:Rat->Int} (hc:Cut c) (hg:Gc g p P):Is (cz g) c↔Is (cz p) c/\Is (cz P) c:=by
 constructor
 ·intro h;obtain ⟨u,hu⟩:=hg.da;obtain ⟨v,hv⟩:=hg.db;exact ⟨Pw hc hu h,Pw hc hv h⟩
 ·rintro ⟨h1,h2⟩
  obtain ⟨U,V,hcc⟩:=hg.c;have a1:Is (G5 U (cz p)) c:=Pw hc (p:=cz p) (q:=U) (λt=>by rw [Ff]; grind) h1;have a2:Is (G5 V (cz P)) c:=Pw hc (p:=cz P) (q:=V) (λt=>by rw [Ff]; grind) h2;exact MO (λt=>by rw [U8,hcc,Ff,Ff,U8,U8]) a1 a2
theorem Qjl {p:Uk} (hp:Okp 9 1180 p) {a:Tm} (ha:Va a):∃ s,FB p a=some s/\SgT p a s:=by
 unfold FB;rw [if_neg hp.nz];have ca:=ha.cut;by_cases pa:a.point=true
 ·rw [if_pos pa];exact ⟨_,rfl,Qu5 ca (x:=a.lo) (by rw [nU ha pa,Ej])⟩
 rw [if_neg pa];have pa:a.point=false:=by simpa using pa
 obtain ⟨L,V⟩:=ha.iv pa;have eqa:∀ q,Fj a q=cq (cz a.p) a.lo a.hi q:=B6 V.l;obtain ⟨g,g1,g2,g3,g4⟩:=Qgq Qx5 hp.t ha.tr hp.l ha.n (U0 hp.b (by omega)) (ha.bi pa) hp.nz;obtain ⟨u',hu'⟩:=g2.db;have hhas:=V.has hu' (a:=a.lo) (b:=a.hi) Qp V.l Qp;have hvan:=Qty ca g2;rw [show cq (cz a.p) a.lo a.hi=Fj a from (funext eqa).symm] at hhas;rw [g1];show ∃ s,(if 1<g.length/\UT g a.lo a.hi=true then some 0 else _)=some s/\_;by_cases hh:UT g a.lo a.hi=true
 ·have hq:=(US g _ _).1 hh;rw [if_pos ⟨uW g2.t g2.n hq,hh⟩];exact ⟨0,rfl,.inl ⟨rfl,(hvan.1 (hhas.1 hq).1).1⟩⟩
 ·rw [if_neg λh=>hh h.2];have hnv:¬Is (cz p) (Fj a):=λh=>hh ((US g _ _).2 (hhas.2 ⟨hvan.2 ⟨h,ha.van⟩,by rw [eqa]; exact Ez Qp,by rw [eqa]; exact V.hi1⟩))
  rcases JF ca (cz p) with h | ⟨s,EH,hnz⟩
  ·exact absurd h hnv
  obtain ⟨q,o,q1,q2,hpt⟩:=Qhz hp;obtain ⟨q',l,r1,r2,hS,hl0⟩:=chain_ok hp;rw [q1] at r1;injection r1 with r1;subst r1;rw [r2];show ∃ s,((sgF (q::l) (64+2*(Fe a.lo.num+Fe a.hi.num)+4*(a.p.length+p.length)*(G8 a.p+G8 p+(a.p.length+p.length)+8)) a).bind λx=>some (H7 p x.hi))=some s/\_;obtain ⟨w,hw⟩:=nmE (Fe a.lo.num+Fe a.hi.num);obtain ⟨K,hK⟩:=nmE (G8 a.p+G8 p+(a.p.length+p.length)+8);obtain ⟨n,hn⟩:=nmE (a.p.length+p.length);rw [<-hw,<-hK,<-hn];obtain ⟨gg,sq⟩:=hpt.sq;obtain ⟨_,_,_,_,_,pf0,pfe⟩:=Ch hp.t hp.nz;have hpq:ZF (cz q) (cz p):=⟨Dt (Hk p) (cz gg),λt=>by rw [U8,U8,Gn,U8,pfe,sq.e]; grind⟩;obtain ⟨D,M,k,h1,h2,h3⟩:=ha.hv0;rw [jX pa] at h3;have b1:=(ha.qsn pa).1.1; have b2:=(ha.qsn pa).2.1;have l1:=ha.n; have l2:=hp.l; have l3:=ha.n2;have s1:=On (ha.bi pa); have s2:=On hp.b;have hst:4*n*K<=4*18*2466:=Zf (by omega) (by omega);have hend:∃ u k',sgF (q::l) (64+2*w+4*n*K) a=some u/\Hv a D M k' u/\(u.point=true\/Tj (q::l) u.lo u.hi=0):=by
   by_cases hpl:p.length<2
   ·have hq1:(Fg p)=[1]:=hp.pr.1.one (by have:=hp.pr.2.1; omega);have hql:q.length<2:=by
     have e:=sq.e;rw [hq1] at e;obtain ⟨p1,p2⟩:=Rz (c:=[1]) rfl (by simp) e;have:=Mh sq.pg.t sq.pq.t (c:=[1]) rfl e p1 p2;simp at this; omega
    have hbt:Tj (q::l) a.lo a.hi=0:=by
     rw [O3 (Qr V.l),hl0 hql,sq.pq.one hql];have hv1:∀ x:Rat,ev (cz [1]) x=1:=λx=>by rw [U8,Nn]
     simp only [Z0,X7,vv,tc,hv1]; omega
    refine ⟨a,k,?_,h1,.inr hbt⟩;obtain ⟨m,hm⟩:∃ m,64+2*w+4*n*K=m+1:=⟨63+2*w+4*n*K,by omega⟩;rw [hm];simp only [sgF];rw [if_pos (.inr hbt)]
   ·have hg:Tt a.p p=K*(2*(n-2)-1):=by unfold Tt; rw [hK,hn]
    have hgle:Tt a.p p+5*K<=2*n*K:=by
     rw [hg,Zp K,<-X2];exact Qz _ (by omega)
    have hKp:8<=K:=by omega
    have hnK:2*n*K<=4*n*K:=Qz _ (by omega);obtain ⟨u,k',u1,u2,u3⟩:=Qje hp.t hp.l (by omega) hS hpq ha hnz h2 (64+2*w+4*n*K) (2+w+2*n*K) a k ((2^(w+1):Nat):Rat) (by omega) h1 (by omega) (TF (by omega)) (by
     have e:(2^(w+1))*(2^(Tt a.p p+1))<=2^(2+w+2*n*K):=by
      rw [<-Xd];exact Zs (by decide) (by omega)
     have:=Zl.2 e
     push_cast at this ⊢
     exact this)
    exact ⟨u,k',u1,u2,u3⟩
  obtain ⟨u,k',u1,u2,u3⟩:=hend;rw [u1];refine ⟨_,rfl,.inr ?_⟩;have hfin:H7 p u.hi=s:=by
   rcases u2.hi' with hz | hz
   ·have:=fK ca hz hnz;rw [Nf,<-U8]; exact this
   ·rcases u2.i with ⟨e,_⟩ | ⟨L',V'⟩
    ·have:=u2.c u.hi;rw [A1 e,e,Ej] at this; omega
    ·have hup:u.point=false:=by
      have:¬u.point=true:=λh=>by have:=Mj.1 h; have:=V'.l; grind
      simpa using this
     rcases u3 with h | h
     ·rw [hup] at h; cases h
     ·rw [O3 (Qr V'.l)] at h;obtain ⟨s',hs',hps⟩:=Qbz hpt hp.t hp.nz hS V'.l (by omega);obtain ⟨d,dp,x,y,hx,hy,hq⟩:=hnz;have hlo1:Fj a u.lo=1:=by
       rcases u2.lo' with h | ⟨_,h⟩
       ·exact h
       ·have:=V'.l; clear hps hq; grind
      obtain ⟨m,m1,m2,m3⟩:=BH ca hlo1 hx;have e1:=(hq m (Qr m3) (Qr (ca.lt m1 hy))).1;have e2:=hps m m2 (Qr (ca.lt m1 hz));have e3:=hps u.hi V'.l Qp;rw [Nf,e3,<-e2,<-U8,e1]
  rw [hfin]; exact ⟨EH,hnz⟩
structure Dp (p:List Int):Prop where
 t:U9 p
 l:p.length<=9
 b:Bd (1130+4*(9-p.length)) p
theorem aU:Szz 9 1253:=⟨by decide,by decide⟩
theorem Dp.ok {p:Uk} (h:Dp p) (h0:p.length≠0):Okp 9 1180 p:=⟨aU,h.t,h0,h.l,U0 h.b (by omega)⟩
theorem Dp.der {p:Uk} (h:Dp p):Dp (Gv p):=by
 have hl:=M7 p;have hl2:=h.l;refine ⟨Fv _ _,by omega,?_⟩;by_cases h0:p.length=0
 ·rw [Qj (l:=Gv p) (by omega)]; exact GN
 ·exact U0 (sZ h.b (by omega)) (by omega)
def Fp (a:Tm) (p:Uk):Int:=(FB p a).getD 0
theorem Qjc {p:Uk} (h:Dp p) {a:Tm} (ha:Va a):FB p a=some (Fp a p)/\SgT p a (Fp a p):=by
 by_cases h0:p.length=0
 ·have e:p=[]:=Qj h0;subst e;refine ⟨rfl,.inl ⟨rfl,λd dp=>?_⟩⟩;obtain ⟨x,y,h1,h2,_⟩:=ha.cut.near (e:=1) (by decide);exact ⟨x,y,h1,h2,λq _ _=>by simp only [cz,X7,ev,Re]; exact dp⟩
 ·obtain ⟨s,h1,h2⟩:=Qjl (h.ok h0) ha;have e:Fp a p=s:=by unfold Fp; rw [h1]; rfl
  rw [e]; exact ⟨h1,h2⟩
theorem Qu3 {c:Rat->Int} {p q:Un} {s:Int} (h:∀ t,ev p t=ev q t) (hp:RS p c s):RS q c s:=by
 obtain ⟨y,h1,h2⟩:=hp;exact ⟨y,h1,λz h3 h4=>by rw [<-h]; exact h2 z h3 h4⟩
theorem OJ {a:Tm} (ha:Va a):∀ (k:Nat) (p:Uk),Dp p->p.length<=k->p.length≠0->RS (cz p) (Fj a) (Tq (Fp a) k p)/\Tq (Fp a) k p≠0
 | 0,p,_,h1,h2=>by omega
 |
  k+1,p,h,h1,h2=>by
  simp only [Tq];rw [if_neg h2];obtain ⟨_,hs⟩:=Qjc h ha;rcases hs with ⟨e,hv⟩ | ⟨e,hn⟩
  ·rw [if_pos e];have hdn:(Gv p).length≠0:=λh0=>by
    by_cases h3:p.length=1
    ·obtain ⟨c,rfl⟩:∃ c,p=[c]:=Kr.1 h3;have hc:c≠0:=by have:=H5 h.t (by simp); simpa using this
     obtain ⟨q,hq,_⟩:=fV ha.cut (hv (Fh (c:Rat)) (Cj (XX hc)));rw [U8] at hq;have:U7 [c] q=(c:Rat):=by simp only [U7]; grind
     rw [this] at hq; grind
    ·have h4:=Bl p (p.length-2);rw [Qj h0,show p.length-2+1=p.length-1 by omega] at h4;have h5:p.getD (p.length-1) 0≠0:=H5 h.t (by omega);rcases Yb.1 (h4.symm.trans (by simp)) with h6 | h6
     ·exact h5 h6
     ·omega
   have hl:=M7 p;obtain ⟨i1,i2⟩:=OJ ha k (Gv p) h.der (by omega) hdn;exact ⟨yG ha.cut hv (Qu3 (λt=>by rw [U8,Of,Tk]) i1) i2,i2⟩
  ·rw [if_neg e]; exact ⟨qT ha.cut hn,e⟩
theorem Ea {a:Tm} (ha:Va a) {p:Uk} (h:Dp p) (h0:p.length≠0):RS (cz p) (Fj a) (Hg (Fp a) p)/\Hg (Fp a) p≠0:=OJ ha _ p h (Ql _) h0
theorem ZO {a:Tm}:Hg (Fp a) []=0:=rfl
theorem Qn2 {l:Uk}:∀ z∈l,z.natAbs≤most l:=by
 have key:∀ (l:Uk) (m:Nat),m≤l.foldl (λm z=>if m<z.natAbs then z.natAbs else m) m/\∀ z∈l,z.natAbs≤l.foldl (λm z=>if m<z.natAbs then z.natAbs else m) m:=by
  intro l
  induction l with
  | nil=>exact λm=>⟨Ql _,λz hz=>by cases hz⟩
  |
   cons y l ih =>
   intro m;obtain ⟨e,he⟩:=nmE (if m<y.natAbs then y.natAbs else m);have h1:m<=e/\y.natAbs<=e:=by rw [he]; split <;> omega
   obtain ⟨i1,i2⟩:=ih e;simp only [Z8];rw [<-he];refine ⟨by omega,λz hz=>?_⟩;rcases Qm.1 hz with rfl | hz
   ·omega
   ·exact i2 z hz
 exact (key l 0).2
theorem NS {p:Uk} (h:Fl p≠0):Gw p*((Fl p).natAbs:Rat)=((Fl p).natAbs:Rat)+((most (p.take (p.length-1)):Nat):Rat):=by
 unfold Gw;rw [<-H6];have hp:0<(Fl p).natAbs:=by omega
 have:=nat_pos hp;rw [show ((((Fl p).natAbs:Int)):Rat)=((Fl p).natAbs:Rat) from rfl,Hb this];rw [Kd]; rfl
theorem lR {m:Nat} {x:Rat} (hx:1≤Fh x):∀ (p:Uk) (lp:p.length≠0),(∀ z∈p.take (p.length-1),z.natAbs≤m)->Fl p≠0->(m:Rat)≤(Fh x-1)*((Fl p).natAbs:Rat)->((Fl p).natAbs:Rat)≤U7 p x*(((Int.sign (Fl p))*(if x<0/\p.length % 2=0 then -1 else 1):Int):Rat)
 | [],lp,_,_,_=>absurd rfl lp
 |
  [c],_,_,hc,_=>by
  have hl:Fl [c]=c:=rfl;rw [hl] at hc ⊢;rw [if_neg (by simp),W9];have h1:U7 [c] x=(c:Rat):=by simp only [U7]; grind
  rw [h1];have h2:c*Int.sign c=(c.natAbs:Int):=Int.mul_sign_self c;have:=congrArg (λz:Int=>(z:Rat)) h2;rw [Xx] at this;rw [this]; exact Qp
 |
  c::d::p,_,hm,hc,hb=>by
  have hl:Fl (c::d::p)=Fl (d::p):=by unfold Fl; simp [List.getD_cons_succ]
  have ih:=lR hx (d::p) (by simp) (λz hz=>hm z (by
   have e:(c::d::p).take ((c::d::p).length-1)=c::(d::p).take ((d::p).length-1):=by simp
   rw [e]; exact Qg _ hz)) (by rw [<-hl]; exact hc) (by rw [<-hl]; exact hb)
  rw [hl] at hc hb ⊢;have hcm:=hm c (by simp);obtain ⟨s,hs⟩:∃ s:Int,s=Int.sign (Fl (d::p)):=⟨_,rfl⟩;have hsv:s=1\/s=-1:=by
   rw [hs];rcases Ke hc with h | h
   ·exact .inr (X4 h)
   ·exact .inl (Jm h)
  rw [<-hs] at ih ⊢;obtain ⟨ld,hld⟩:∃ ld:Rat,ld=((Fl (d::p)).natAbs:Rat):=⟨_,rfl⟩;rw [<-hld] at ih hb ⊢;have hcq:Fh (c:Rat)<=(m:Rat):=by rw [Sk]; exact Zl.2 hcm
  rw [P9] at hcq;have e1:U7 (c::d::p) x=(c:Rat)+x*U7 (d::p) x:=rfl;rw [e1];have hlen:(c::d::p).length % 2=0↔¬(d::p).length % 2=0:=by simp only [Q7]; omega
  generalize U7 (d::p) x=y at *;generalize (m:Rat)=mm at *;generalize (c:Rat)=cc at *;have hx0:=hx;by_cases hneg:x<0
  ·have hq:Fh x=-x:=by unfold Fh; rw [if_pos hneg]
   rw [hq] at hx0 hb;by_cases hpar:(d::p).length % 2=0
   ·rw [if_pos ⟨hneg,hpar⟩] at ih;rw [if_neg λh=>(hlen.1 h.2) hpar];rcases hsv with rfl | rfl
    ·have ih:ld<=y*(-1):=by simpa using ih
     have:=Z1 ih (show 0<=-x by grind);have e:(((1:Int)*1:Int):Rat)=1:=rfl;rw [e]; grind
    ·have ih:ld<=y*1:=by simpa using ih
     have:=Z1 ih (show 0<=-x by grind);have e:(((-1:Int)*1:Int):Rat)=-1:=rfl;rw [e]; grind
   ·rw [if_neg λh=>hpar h.2] at ih;rw [if_pos ⟨hneg,hlen.2 hpar⟩];rcases hsv with rfl | rfl
    ·have ih:ld<=y*1:=by simpa using ih
     have:=Z1 ih (show 0<=-x by grind);have e:(((1:Int)*-1:Int):Rat)=-1:=rfl;rw [e]; grind
    ·have ih:ld<=y*(-1):=by simpa using ih
     have:=Z1 ih (show 0<=-x by grind);have e:(((-1:Int)*-1:Int):Rat)=1:=rfl;rw [e]; grind
  ·have hq:Fh x=x:=by unfold Fh; rw [if_neg hneg]
   rw [hq] at hx0 hb;rw [if_neg λh=>hneg h.1] at ih ⊢;rcases hsv with rfl | rfl
   ·have ih:ld<=y*1:=by simpa using ih
    have:=Z1 ih (show 0<=x by grind);have e:(((1:Int)*1:Int):Rat)=1:=rfl;rw [e]; grind
   ·have ih:ld<=y*(-1):=by simpa using ih
    have:=Z1 ih (show 0<=x by grind);have e:(((-1:Int)*1:Int):Rat)=-1:=rfl;rw [e]; grind
theorem sY {p:Uk} (tp:U9 p) (lp:p.length≠0) {x:Rat} (hx:Gw p<=Fh x):1<=Fh (U7 p x)/\(0<=x->H7 p x=UW p)/\(x<0->H7 p x=ZY p):=by
 have hl:=Eb tp lp;have hpos:0<(Fl p).natAbs:=by omega
 have h1:(1:Rat)<=((Fl p).natAbs:Rat):=by
  have:((1:Nat):Rat)<=((Fl p).natAbs:Rat):=Zl.2 hpos;exact this
 have hm0:(0:Rat)<=((most (p.take (p.length-1)):Nat):Rat):=Xh;have hb:=NS hl;have hx1:=Zc hx (show (0:Rat)<=((Fl p).natAbs:Rat) by grind);have hx2:1<=Fh x:=by
  rcases Gb 1 (Fh x) with h | h
  ·exact h
  ·exfalso;have:=Vy h (show (0:Rat)<((Fl p).natAbs:Rat) by grind);grind
 have key:=lR (m:=most (p.take (p.length-1))) hx2 p lp (λz hz=>Qn2 z hz) hl (by grind);obtain ⟨s,hs⟩:∃ s:Int,s=Int.sign (Fl p)*(if x<0/\p.length % 2=0 then -1 else 1):=⟨_,rfl⟩;rw [<-hs] at key;have hsv:s=1\/s=-1:=by
  rw [hs];rcases Ke hl with h | h
  ·rw [X4 h]; split <;> simp
  ·rw [Jm h]; split <;> simp
 have hsg:H7 p x=s/\1<=Fh (U7 p x):=by
  rw [Nf];rcases hsv with e | e
  ·rw [e] at key ⊢;have key:((Fl p).natAbs:Rat)<=U7 p x:=by simpa using key
   exact ⟨Hu.2 (by grind),by unfold Fh; rw [if_neg (by grind)]; grind⟩
  ·rw [e] at key ⊢;have key:((Fl p).natAbs:Rat)<=U7 p x*(-1):=by simpa using key
   exact ⟨S7.2 (by grind),by unfold Fh; rw [if_pos (by grind)]; grind⟩
 refine ⟨hsg.2,λh=>?_,λh=>?_⟩
 ·rw [hsg.1,hs,if_neg λh'=>by have:=h'.1; grind]; unfold UW; omega
 ·rw [hsg.1,hs]; unfold ZY;by_cases he:p.length % 2=0
  ·rw [if_pos ⟨h,he⟩,if_pos he]; omega
  ·rw [if_neg λh'=>he h'.2,if_neg he]; omega
theorem JW {f g:Uk->Int}:∀ {l:Ul} (s:Nat×Int),(∀ p∈l,f p=g p)->l.foldl (Pj f) s=l.foldl (Pj g) s
 | [],s,_=>rfl
 |
  p::l,s,h=>by
  simp only [Z8];have e:Pj f s p=Pj g s p:=by unfold Pj; rw [h p (List.mem_cons_self ..)]
  rw [e]; exact JW _ λq hq=>h q (Qg _ hq)
theorem lW:∀ (l:Ul),(∀ p∈l,U9 p/\p.length≠0)->∃ X:Rat,0<X/\∀ x,X≤x->(∀ p∈l,H7 p x=UW p)/\∀ p∈l,H7 p (-x)=ZY p
 | [],_=>⟨1,by decide,λx _=>⟨(λp hp=>by cases hp),(λp hp=>by cases hp)⟩⟩
 |
  p::l,h=>by
  obtain ⟨X,hX,hl⟩:=lW l λq hq=>h q (Qg _ hq)
  obtain ⟨tp,lp⟩:=h p (Qx ..);refine ⟨X+Fh (Gw p),by have:=Hq (Gw p); grind,λx hx=>?_⟩;have hb0:=Hq (Gw p);have hb1:Gw p<=Fh (Gw p):=by unfold Fh; split <;> grind
  obtain ⟨l1,l2⟩:=hl x (by grind);have e1:Fh x=x:=by unfold Fh; rw [if_neg (by grind)]
  have e2:Fh (-x)=x:=by rw [Ef,e1]
  refine ⟨λq hq=>?_,λq hq=>?_⟩
  ·rcases Qm.1 hq with rfl | hq
   ·exact (sY tp lp (x:=x) (by rw [e1]; grind)).2.1 (by grind)
   ·exact l1 q hq
  ·rcases Qm.1 hq with rfl | hq
   ·exact (sY tp lp (x:=-x) (by rw [e2]; grind)).2.2 (by grind)
   ·exact l2 q hq
theorem cY {q:Uk} {L:Uo} (hS:GH (cz q) L) (tq:U9 q) (lq:q.length≠0) {x y:Rat} (hxy:x<y) (h:Gw q<=x\/y<=-Gw q) (hb:0<Gw q):vv L x=vv L y:=by
 rcases Classical.em (vv L x=vv L y) with e | e
 ·exact e
 ·exfalso;obtain ⟨r,r1,r2,r3⟩:=yE hS hxy e (d:=1) (by decide);have:=(sY tq lq (x:=r) (by rcases h with h | h <;> (unfold Fh; split <;> grind))).1;rw [U8] at r3; grind
theorem GB {p:Uk} (h:Fl p≠0):1<=Gw p:=by
 have hb:=NS h;have hp:=nat_pos (show 0<(Fl p).natAbs by omega);have hm0:(0:Rat)<=((most (p.take (p.length-1)):Nat):Rat):=Xh;rcases Gb 1 (Gw p) with h' | h'
 ·exact h'
 ·have:=Vy h' hp; grind
theorem Qb7 {q:Uk} {l:Ul} (hS:GH (cz q) ((q::l).map cz)) (hl:∀ p∈q::l,U9 p/\p.length≠0):KO (q::l)=(vv ((q::l).map cz) (-Gw q):Int)-(vv ((q::l).map cz) (Gw q):Int):=by
 obtain ⟨tq,lq⟩:=hl q (Qx ..);have hb:=GB (Eb tq lq);obtain ⟨X,hX,hx⟩:=lW (q::l) hl;obtain ⟨h1,h2⟩:=hx (X+Gw q) (by grind);have e1:Co UW (q::l)=vv ((q::l).map cz) (X+Gw q):=by
  rw [<-QL]; unfold Cq Co;rw [JW (f:=UW) (g:=λp=>H7 p (X+Gw q)) (0,0) λp hp=>(h1 p hp).symm]
 have e2:Co ZY (q::l)=vv ((q::l).map cz) (-(X+Gw q)):=by
  rw [<-QL]; unfold Cq Co;rw [JW (f:=ZY) (g:=λp=>H7 p (-(X+Gw q))) (0,0) λp hp=>(h2 p hp).symm]
 unfold KO;rw [e1,e2,cY hS tq lq (x:=-(X+Gw q)) (y:=-Gw q) (by grind) (.inr Qp) (by grind),<-cY hS tq lq (x:=Gw q) (y:=X+Gw q) (by grind) (.inl Qp) (by grind)]
theorem Qug {f:Un} {L:Uo} (hS:GH f L) {x y:Rat} (hxy:x<y) (hv:vv L y+2<=vv L x):∃ m,x<m/\m<y/\vv L m<vv L x/\vv L y<vv L m/\ev f m≠0:=by
 obtain ⟨R,hR,hx,hy⟩:=zJ x y;obtain ⟨e,ep,he⟩:=Qj8 hS R hR;have key:∀ n:Nat,∀ x,Fh x<=R->x<y->vv L y+2<=vv L x->y-x<=(n:Rat)*e->∃ m,x<m/\m<y/\vv L m<vv L x/\vv L y<vv L m:=by
  intro n
  induction n with
  | zero=>intro x _ hxy _ hn; rw [show ((0:Nat):Rat)=0 from rfl] at hn; exfalso; clear he; grind
  |
   succ n ih =>
   intro x hx hxy hv hn;have hn':(((n+1:Nat):Rat))=(n:Rat)+1:=by push_cast; rfl
   rw [hn'] at hn;rcases Gb (y-x) e with h1 | h1
   ·have:=he x y hx hy hxy h1; omega
   ·have hm:Fh (x+e)<=R:=UP hx hy (by clear he ih; grind) (by clear he ih; grind);have h2:=he x (x+e) hx hm (by clear he ih; grind) (by clear he ih; grind);have h3:=Aq hS (show x<x+e by clear he ih; grind);by_cases h4:vv L x=vv L (x+e)
    ·obtain ⟨m,m1,m2,m3,m4⟩:=ih (x+e) hm (by clear he ih; grind) (by omega) (by clear he ih; grind);exact ⟨m,by clear he ih; grind,m2,by omega,m4⟩
    ·exact ⟨x+e,by clear he ih; grind,by clear he ih; grind,by omega,by omega⟩
 obtain ⟨n,hn⟩:=ZG (z:=y-x) ep;obtain ⟨m,m1,m2,m3,m4⟩:=key n x hx hxy hv hn;rcases Classical.em (ev f m=0) with h0 | h0
 ·-- a little farther on
  obtain ⟨e2,e2p,hl⟩:=loc hR hS (w:=f) (u:=[1]) (λt=>by rw [Ry]; grind);obtain ⟨d,dp,d1,d2⟩:=min2 (a:=e2) (b:=(y-m) / 2) e2p (E5 (by clear he key hl; grind) (by decide));have h2:(y-m) / 2*2=y-m:=Hb (by decide);have hmR:Fh m<=R:=UP hx hy (Qr m1) (Qr m2);have hmR2:Fh (m+d)<=R:=UP hx hy (by clear he key hl; grind) (by clear he key hl; grind);rcases hl m (m+d) hmR hmR2 (by clear he key hl; grind) (by clear he key hl; grind) with ⟨p1,p2,_⟩ | ⟨_,p1,_,p3,_⟩
  ·refine ⟨m+d,by clear he key hl; grind,by clear he key hl; grind,by omega,by omega,λh'=>?_⟩;have:=p2.s;rw [Gj.2 h'] at this; exact p2.n this.symm
  ·rw [Gj.2 h0] at p3; exact absurd p3.symm p1
 ·exact ⟨m,m1,m2,m3,m4,h0⟩
theorem Qpr {q:Uk} {L:Uo} (hS:GH (cz q) L) (tq:U9 q) (nq:q.length<=9) (lq:2<=q.length) {lo hi:Rat} (hl:lo<hi) (hv:vv L hi+2<=vv L lo):1<(hi-lo)*((2^(Tt q q+1):Nat):Rat):=by
 rcases Gb ((hi-lo)*((2^(Tt q q+1):Nat):Rat)) 1 with hw | hw
 ·exfalso;have hpow:(0:Rat)<=((2^(Tt q q+1):Nat):Rat):=Xh;obtain ⟨m,m1,m2,m3,m4,m0⟩:=Qug hS hl hv;obtain ⟨R,hR,r1,r2⟩:=zJ lo hi;have hd:=Cj m0;obtain ⟨d,dp,_,db⟩:=Hf (b:=EB R (cz q)) (d:=Fh (ev (cz q) m) / 2) (Mv hR _) (E5 hd (by decide));have hd2:Fh (ev (cz q) m) / 2*2=Fh (ev (cz q) m):=Hb (by decide);have hmR:Fh m<=R:=UP r1 r2 (Qr m1) (Qr m2);have hnear:∀ r,Fh r<=R->Fh (ev (cz q) r)<Fh (ev (cz q) m) / 2->d<Fh (r-m):=λr hr hs=>by
   rcases Gb (Fh (r-m)) d with h | h
   ·exfalso;have h1:=P5 (p:=cz q) hmR hr hR h db;have h2:=Se (ev (cz q) m-ev (cz q) r) (ev (cz q) r);rw [show ev (cz q) m-ev (cz q) r+ev (cz q) r=ev (cz q) m by grind,iQ] at h2;grind
   ·exact h
  refine Qgh (R:=R+1) (d:=d+d) tq tq nq nq lq lq (by grind) (by grind) λe ep=>?_
  obtain ⟨e',ep',e1,e2⟩:=min2 (a:=e) (b:=Fh (ev (cz q) m) / 2) ep (E5 hd (by decide));obtain ⟨x,x1,x2,x3⟩:=yE hS m1 (by omega) ep';obtain ⟨y,y1,y2,y3⟩:=yE hS m2 (by omega) ep';have hxR:Fh x<=R:=UP r1 r2 x1 (by grind);have hyR:Fh y<=R:=UP r1 r2 (by grind) y2;have nx:=hnear x hxR (by grind);have ny:=hnear y hyR (by grind);have ex:Fh (x-m)=m-x:=by unfold Fh; split <;> grind
  have ey:Fh (y-m)=y-m:=by unfold Fh; split <;> grind
  rw [ex] at nx;rw [ey] at ny;have exy:Fh (x-y)=y-x:=by unfold Fh; split <;> grind
  refine ⟨x,y,by grind,by grind,by rw [exy]; grind,?_,by rw [<-U8]; grind,by rw [<-U8]; grind⟩;rw [exy];exact Zk (Zc (show y-x<=hi-lo by grind) hpow) hw
 ·exact hw
end Orq
