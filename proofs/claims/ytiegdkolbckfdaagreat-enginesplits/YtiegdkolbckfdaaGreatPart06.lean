/- T10 T11 T12 T13 T14 T15 T16 T17 T18 T19 T20 T21 T22 T23 -/
import Derived.Test.YtiegdkolbckfdaaGreatPart05
import Derived.Test.YtiegdkolbckfdaaGreatPart00
set_option linter.all false
namespace Orq
def AU (A B:Uj) (b J J' n k j:Nat):Int:=if n<b*J then PW (n / J) (n % J) (fA A) k j else PW ((n-b*J) / J') ((n-b*J) % J') (gc B) k j
theorem Qjg {F:Nat->Nat->Int} {h:Nat} (hF:∀ k j,(F k j).natAbs<=h) (i j' k j:Nat):(PW i j' F k j).natAbs<=h:=by
 unfold PW; split
 ·split
  ·exact hF _ _
  ·exact Qh _
 ·exact Qh _
theorem Qq4 {i b J j:Nat} (hi:i<b) (hj:j<J):i*J+j<b*J:=by
 have:(i+1)*J<=b*J:=Qz J hi;rw [Xa] at this; omega
theorem HB {i J j:Nat} (hj:j<J):(i*J+j) / J=i/\(i*J+j) % J=j:=by
 rw [Zp,W6 (by omega),W7,V1 hj,Xs hj]; exact ⟨by omega,rfl⟩
theorem qO (A B:Uj) (a b J J':Nat) (v:Nat->Int) (k j:Nat):sm (b*J+a*J') (λn=>AU A B b J J' n k j*v n) =
 (sm b λi=>sm J λj1=>PW i j1 (fA A) k j*v (i*J+j1))+sm a λi=>sm J' λj1=>PW i j1 (gc B) k j*v (b*J+(i*J'+j1)):=by
 rw [bU,bF,bF];congr 1
 ·refine Lc b λi hi=>Lc J λj1 hj=>?_
  unfold AU;rw [if_pos (Qq4 hi hj),(HB hj).1,(HB hj).2]
 ·refine Lc a λi hi=>Lc J' λj1 hj=>?_
  unfold AU;rw [if_neg (by omega),Jg,(HB hj).1,(HB hj).2]
theorem Qwu (A:Uj) (v:Nat->Int) {i J k j:Nat} (hj:j<J):(sm J λj1=>PW i j1 (fA A) k j*v (i*J+j1))=if i<=k then A.getD (k-i) 0*v (i*J+j) else 0:=by
 rw [EQ (k:=j) J hj λj1 _ hne=>?_]
 ·unfold PW fA;by_cases h:i<=k
  ·rw [if_pos h,if_pos h,if_pos (Ql _),if_pos (Kg _)]
  ·rw [if_neg h,if_neg h,Yv]
 ·unfold PW fA;by_cases h:i<=k
  ·rw [if_pos h];by_cases h':j1<=j
   ·rw [if_pos h',if_neg (by omega),Yv]
   ·rw [if_neg h',Yv]
  ·rw [if_neg h,Yv]
section
variable {A B:Uj} {a b J J':Nat} (hA:A.length=a+1) (hB:B.length=b+1) (lA:A.getD a 0≠0) (lB:B.getD b 0≠0) (hJ:J=J'+b) {v:Nat->Int} (hW:∀ k j,k<a+b->j<J->sm (b*J+a*J') (λn=>AU A B b J J' n k j*v n)=0)
include hA lA hW in
theorem Qqt {jj:Nat} (hj:jj<J) (hV:∀ k,a<=k->k<a+b->(sm a λi=>sm J' λj1=>PW i j1 (gc B) k jj*v (b*J+(i*J'+j1)))=0):∀ d i,i<b->b-i<=d->v (i*J+jj)=0:=by
 intro d
 induction d with
 | zero=>intro i hi hd; omega
 |
  succ d ih =>
  intro i hi hd;have h1:=hW (i+a) jj (by omega) hj;rw [qO,hV (i+a) (by omega) (by omega)] at h1;rw [Lc b (λi' hi'=>Qwu A v hj)] at h1;rw [EQ (k:=i) b hi λi' hi' hne=>?_] at h1
  ·rw [if_pos (by omega),Jg,Int.add_zero] at h1;rcases Ya.1 h1 with h2 | h2
   ·exact absurd h2 lA
   ·exact h2
  ·rcases Za i i' with h | h
   ·rw [ih i' hi' (by omega)]; simp
   ·rw [if_pos (by omega),Qi,Qw (by omega)]; simp
include hA hB lA lB hJ hW in
theorem Qw0:∀ d js,js<J'->J'-js<=d->∀ i,i<a->v (b*J+(i*J'+js))=0:=by
 intro d
 induction d with
 | zero=>intro js hi hd; omega
 |
  succ d ih =>
  intro js hjs hd i hi;have hin:∀ i' k,i'<a->(sm J' λj1=>PW i' j1 (gc B) k (js+b)*v (b*J+(i'*J'+j1)))=if i'=k then gc B 0 b*v (b*J+(i'*J'+js)) else 0:=λi' k hi'=>by
   rw [EQ (k:=js) J' hjs λj1 hj1 hne=>?_]
   ·unfold PW;by_cases h:i'<=k
    ·rw [if_pos h,if_pos (by omega),Jg];by_cases h':i'=k
     ·rw [if_pos h',h',Kg]
     ·rw [if_neg h',MY B _ _ (by omega),Yv]
    ·rw [if_neg h,if_neg (by omega),Yv]
   ·rcases Za js j1 with h | h
    ·rw [ih j1 hj1 (by omega) i' hi',Wb]
    ·unfold PW;by_cases h':i'<=k
     ·rw [if_pos h',if_pos (by omega),MY B _ _ (by omega),Yv]
     ·rw [if_neg h',Yv]
  have hU:=Qqt hA lA hW (jj:=js+b) (by omega) (λk hk hk'=>YN a λi' hi'=>by rw [hin i' k hi',if_neg (by omega)]) (b+1);have h1:=hW i (js+b) (by omega) (by omega);rw [qO,Lc a (λi' hi'=>hin i' i hi')] at h1;rw [YN b λi' hi'=>by
   rw [Qwu A v (by omega),hU i' hi' (by omega)]; simp] at h1
  rw [EQ (k:=i) a hi λi' hi' hne=>if_neg hne,if_pos rfl,Int.zero_add] at h1;rcases Ya.1 h1 with h2 | h2
  ·have:=Qgg B b hB; rw [h2] at this; omega
  ·exact h2
include hA hB lA lB hJ hW in
theorem Qc4:∀ n,n<b*J+a*J'->v n=0:=by
 intro n hn;have hV:=Qw0 hA hB lA lB hJ hW;rcases Za n (b*J) with h | h
 ·have hJp:0<J:=by
   rcases Q0 J with e | e
   ·rw [e,Yw] at h; omega
   ·exact e
  have e1:=Z5 n hJp;have e2:n / J<b:=X7 (by rw [Zp]; exact h);have:=Qqt hA lA hW e1 (λk _ _=>YN a λi hi=>YN J' λj1 hj1=>by rw [hV J' j1 hj1 (by omega) i hi,Wb]) (b+1) (n / J) e2 (Qc (Nat.sub_le _ _) (Nat.le_succ _));rwa [Zp,Xd] at this
 ·have hJp:0<J':=by
   rcases Q0 J' with e | e
   ·rw [e,Yw] at hn; omega
   ·exact e
  have e1:=Z5 (n-b*J) hJp;have e2:(n-b*J) / J'<a:=X7 (by rw [Zp J' a]; omega);have:=hV J' _ e1 (by omega) _ e2;rw [Zp ((n-b*J) / J'),Xd] at this;rwa [show b*J+(n-b*J)=n by omega] at this
end
theorem YT {R x:Rat} (h1:1<=R) (hx:Fh x<=R):∀ k:Nat,Fh (x^k)<=R^k/\1<=R^k
 | 0=>by rw [Xf,Xf]; exact ⟨by decide,by decide⟩
 |
  k+1=>by
  obtain ⟨i1,i2⟩:=YT h1 hx k;rw [Z7,Z7];have:=Cd (a:=1) (c:=1) (by decide) i2 (by decide) h1;exact ⟨G9 i1 hx,by grind⟩
theorem iJ {R:Rat} (h1:1<=R) {i:Nat}:∀ k,i<=k->R^i<=R^k
 | 0,h=>by rw [show i=0 by omega]; exact Qp
 |
  k+1,h=>by
  rcases Vl h with e | e
  ·have:=iJ h1 (i:=i) k (by omega);have h2:=(YT h1 (x:=0) (by rw [Re]; grind) k).2;rw [Z7];have:=Cd (a:=R^k) (b:=R^k) (c:=1) (d:=R) (by grind) Qp (by decide) h1;grind
  ·rw [e]; exact Qp
theorem Qjf {F:Nat->Nat->Int} {i j' K J:Nat} {x y R X:Rat} {K2 J2:Nat} (h1:1<=R) (hx:Fh x<=R) (hy:Fh y<=R) (hK:K=i+K2) (hJ:J=j'+J2) (hF:E2 F K2 J2 x y=X):Fh (E2 (PW i j' F) K J x y)<=R^(K+J)*Fh X:=by
 subst hK; subst hJ;rw [CZ,hF,Ib];have a1:=(YT h1 hy i).1;have a2:=(YT h1 hx j').1;have a3:=G9 a1 a2;rw [<-FR] at a3;have a4:=iJ h1 (i:=i+j') (i+K2+(j'+J2)) (by omega);exact Cd (Hp _) (Zh a3 a4) (Hp _) Qp
theorem Quy {A B:Uj} {a b h:Nat} (hA:A.length=a+1) (hB:B.length=b+1) (lA:A.getD a 0≠0) (lB:B.getD b 0≠0) (ha:0<a) (hb:0<b) (h0:1<=h) (bA:∀ k,(A.getD k 0).natAbs<=h) (bB:gB B<=h) {J J' N H:Nat} (hJ:J=2*(a*b)) (hJ':J=J'+b) (hN:N=b*J+a*J') (hH:H=(2*(N*h))^(2*(a+b-1))) :
 ∃ w:Nat->Int,(∃ j,j<J/\w j≠0)/\(∀ j,(w j).natAbs<=N*(h*H))/\∀ R:Rat,1<=R->∃ C:Rat,0<=C/\∀ x y,Fh x<=R->Fh y<=R->Fh (sq J λj=>(w j:Rat)*x^j)<=C*(Fh (U7 A y)+Fh (U7 B (y-x))):=by
 have hab:0<a*b:=J1 ha hb;have hbd:∀ n k j,(AU A B b J J' n k j).natAbs<=h:=λn k j=>by
  unfold AU
  split
  ·exact Qjg (λk j=>by unfold fA; split; exact bA k; exact Nat.zero_le _) _ _ _ _
  ·exact Qjg (λk j=>Qc (Qgf B k j) bB) _ _ _ _
 have hJp:0<J:=by omega
 have hNp:1<=N:=by
  have:0<b*J:=J1 hb hJp;omega
 have hNh:1<=N*h:=J1 hNp h0;obtain ⟨E,hE⟩:=nmE ((a+b-1)*J);have hNE:N=E+a*b:=by
  have e1:(a+b-1)*J+J=(a+b)*J:=by
   rw [<-Xa]; congr 1; omega
  have e2:a*J=a*J'+a*b:=by rw [hJ',Xi]
  rw [Xz] at e1;omega
 have hc:(2*(N*(h*H))+1)^E<(H+1)^N:=by
  have c1:2*(N*(h*H))+1<=2*(N*h)*(H+1):=by
   rw [Xi,Ys,Xv 2,Xv N]; omega
  refine Z3 (Nat.pow_le_pow_left c1 E) ?_;rw [Nat.mul_pow,hNE,Xe,Zp];refine Nat.mul_lt_mul_of_pos_left ?_ (Z2 (by omega));have e1:(2*(N*h))^E=H^(a*b):=by
   rw [hH,<-Wm,hE,hJ]; congr 1;rw [Zp 2 (a+b-1),Xv]
  rw [<-hNE,e1];exact Nat.pow_lt_pow_left (by omega) (by omega)
 obtain ⟨v,v1,⟨n0,n1,n2⟩,v3⟩:=Qu2 (M:=λe n=>AU A B b J J' n (e / J+1) (e % J)) (h:=h) (N:=N) (E:=E) (H:=H) (λe n=>hbd n _ _) hc;have hW:∀ k j,1<=k->k<a+b->j<J->sm N (λn=>AU A B b J J' n k j*v n)=0:=λk j k1 k2 hj=>by
  have:=v3 ((k-1)*J+j) (by rw [hE]; exact Qq4 (by omega) hj);rwa [(HB hj).1,(HB hj).2,show k-1+1=k by omega] at this
 refine ⟨λj=>sm N λn=>AU A B b J J' n 0 j*v n,?_,λj=>?_,λR hR=>?_⟩
 ·rcases Classical.em (∃ j,j<J/\(sm N λn=>AU A B b J J' n 0 j*v n)≠0) with e | e
  ·exact e
  ·exfalso;refine n2 (Qc4 hA hB lA lB hJ' (v:=v) (λk j hk hj=>?_) n0 (by rw [<-hN]; exact n1));rw [<-hN];rcases Q0 k with e' | e'
   ·subst e';rcases Classical.em ((sm N λn=>AU A B b J J' n 0 j*v n)=0) with e2 | e2
    ·exact e2
    ·exact absurd ⟨j,hj,e2⟩ e
   ·exact hW k j e' hk hj
 ·refine Qjn N λn _=>?_
  rw [J5];exact Zi (hbd n 0 j) (v1 n)
 ·have hRp:∀ k:Nat,1<=R^k:=λk=>(YT hR (x:=0) (by rw [Re]; grind) k).2
  have hHn:(0:Rat)<=(H:Rat):=Xh;have hNn:(0:Rat)<=(N:Rat):=Xh;refine ⟨(N:Rat)*((H:Rat)*R^(a+b+J)),Nv hNn (Nv hHn (by have:=hRp (a+b+J); grind)),λx y hx hy=>?_⟩;have e1:(sq J λj=>((sm N λn=>AU A B b J J' n 0 j*v n:Int):Rat)*x^j)=E2 (λk j=>sm N λn=>AU A B b J J' n k j*v n) (a+b) J x y:=by
   unfold E2;obtain ⟨m,hm⟩:∃ m,a+b=m+1:=⟨a+b-1,by omega⟩;rw [hm,Ot,Cm (n:=m)]
   ·have:(sq J λj=>((sm N λn=>AU A B b J J' n 0 j*v n:Int):Rat)*(y^0*x^j))=sq J λj=>((sm N λn=>AU A B b J J' n 0 j*v n:Int):Rat)*x^j:=Pi J λj _=>by rw [Xf]; grind
    rw [this]; grind
   ·intro k hk;refine Cm J λj hj=>?_
    show ((sm N λn=>AU A B b J J' n (k+1) j*v n:Int):Rat)*_=0;rw [hW (k+1) j (by omega) (by omega) hj,show ((0:Int):Rat)=0 from rfl]; grind
  rw [e1,Qfv];have key:∀ n,n<N->Fh ((v n:Rat)*E2 (AU A B b J J' n) (a+b) J x y)<=(H:Rat)*(R^(a+b+J)*(Fh (U7 A y)+Fh (U7 B (y-x)))):=λn hn=>by
   have hvn:Fh (v n:Rat)<=(H:Rat):=by
    have h1:=v1 n;have h2:(v n)<=(H:Int):=by omega
    have h3:-(H:Int)<=v n:=by omega
    have h2:=X9.2 h2;have h3:=X9.2 h3;rw [Vm] at h3;rw [Mb]; exact ⟨h3,h2⟩
   refine G9 hvn ?_;have hRk:=hRp (a+b+J);have n1:=Hp (U7 A y);have n2:=Hp (U7 B (y-x));rcases Za n (b*J) with h | h
   ·have e:AU A B b J J' n=PW (n / J) (n % J) (fA A):=by funext k j; unfold AU; rw [if_pos h]
    have d1:n / J<b:=X7 (by rw [Zp]; exact h);have d2:=Z5 n hJp;rw [e];refine Zh (Qjf (K2:=a+b-n / J) (J2:=J-n % J) hR hx hy (by omega) (by omega) (X:=U7 A y) ?_) (Cd (by grind) Qp n1 (by grind));obtain ⟨m,hm⟩:∃ m,J-n % J=m+1:=⟨J-n % J-1,by omega⟩;rw [hm]; exact Qw2 A _ _ x y (by omega)
   ·have e:AU A B b J J' n=PW ((n-b*J) / J') ((n-b*J) % J') (gc B):=by funext k j; unfold AU; rw [if_neg (by omega)]
    have hJp':0<J':=by
     rcases Q0 J' with e | e
     ·rw [e,Yw] at hN; omega
     ·exact e
    have d1:(n-b*J) / J'<a:=X7 (by rw [Zp J' a]; omega);have d2:=Z5 (n-b*J) hJp';rw [e];refine Zh (Qjf (K2:=a+b-(n-b*J) / J') (J2:=J-(n-b*J) % J') hR hx hy (by omega) (by omega) (X:=U7 B (y-x)) ?_) (Cd (by grind) Qp n2 (by grind));exact Qtb x y B _ _ (by omega) (by omega)
  have:=Qrh N key;refine Zh this ?_;have:(N:Rat)*((H:Rat)*(R^(a+b+J)*(Fh (U7 A y)+Fh (U7 B (y-x)))))=(N:Rat)*((H:Rat)*R^(a+b+J))*(Fh (U7 A y)+Fh (U7 B (y-x))):=by grind
  rw [this]; exact Qp
end Orq
namespace Orq
theorem Qjr {w:Nat->Int} {x:Rat} {D:Rat} (hx:Fh x*2<=1) (hw:∀ j,Fh (w j:Rat)<=D):∀ J (k:Nat),Fh (sq J λj=>(w (k+j):Rat)*x^j)<=2*D
 | 0,k=>by have:=hw 0; have:=Hp (w 0:Rat); simp only [sq,Re]; clear hw; grind
 |
  J+1,k=>by
  have ih:=Qjr hx hw J (k+1);rw [Ot];have e:(sq J λi=>(w (k+(i+1)):Rat)*x^(i+1))=x*sq J λi=>(w (k+1+i):Rat)*x^i:=by
   rw [<-JW]; exact Pi J λi _=>by rw [Z7,show k+(i+1)=k+1+i by omega]; grind
  rw [e,Xf,Xk];have h1:=hw k;have h2:=T0 ((w k:Rat)*1) (x*sq J λi=>(w (k+1+i):Rat)*x^i);have h3:=G9 (x:=x) (y:=sq J λi=>(w (k+1+i):Rat)*x^i) Qp ih;have h4:=Zc hx (show (0:Rat)<=D by have:=Hp (w k:Rat); clear hw; grind);have h5:(w k:Rat)*1=w k:=by grind
  rw [h5] at h2 ⊢;clear hw; grind
theorem KB {z:Int} (h:z≠0):1<=Fh (z:Rat):=by
 unfold Fh;rcases Kc h with h | h
 ·have:((z:Int):Rat)<((0:Int):Rat):=Jl.2 h;have h2:((1:Int):Rat)<=((-z:Int):Rat):=X9.2 (by omega);rw [if_pos (by simpa using this)];rw [Vm] at h2;simpa using h2
 ·have:((0:Int):Rat)<((z:Int):Rat):=Jl.2 h;have h2:((1:Int):Rat)<=((z:Int):Rat):=X9.2 (by omega);rw [if_neg (by
   have:(0:Rat)<z:=by simpa using this
   grind)]
  simpa using h2
theorem mS {w:Nat->Int} {x:Rat} {D:Rat} (hD:1<=D) (hx0:0<Fh x) (hx:Fh x*(4*D)<=1) (hw:∀ j,Fh (w j:Rat)<=D):∀ J (k:Nat),(∃ j,j<J/\w (k+j)≠0)->Fh x^J / 2<=Fh (sq J λj=>(w (k+j):Rat)*x^j)
 | 0,k,⟨j,h,_⟩=>by omega
 |
  J+1,k,⟨j,h1,h2⟩=>by
  have hx2:Fh x*2<=1:=by
   have:=Cd (a:=Fh x) (c:=2) (Qr hx0) Qp (by decide) (show (2:Rat)<=4*D by clear hw; grind);exact Zh this hx
  have hx1:Fh x<=1:=by clear hw; grind
  have hp:∀ k:Nat,Fh x^k<=1/\0<=Fh x^k:=λk=>by
   induction k with
   | zero=>rw [Xf]; exact ⟨by decide,by decide⟩
   |
    succ k ih =>
    rw [Z7];have:=Cd ih.2 ih.1 (Qr hx0) hx1;have:=Nv ih.2 (Qr hx0);constructor <;> (clear hw; grind)
  rw [Ot];have e:(sq J λi=>(w (k+(i+1)):Rat)*x^(i+1))=x*sq J λi=>(w (k+1+i):Rat)*x^i:=by
   rw [<-JW]; exact Pi J λi _=>by rw [Z7,show k+(i+1)=k+1+i by omega]; grind
  rw [e,Xf,Xk k,show (w k:Rat)*1=w k by grind];by_cases h0:w k=0
  ·have hj:j≠0:=λe=>h2 (by rw [e]; exact h0)
   have ih:=mS hD hx0 hx hw J (k+1) ⟨j-1,by omega,by rw [show k+1+(j-1)=k+j by omega]; exact h2⟩;rw [h0,show ((0:Int):Rat)+x*(sq J λi=>(w (k+1+i):Rat)*x^i)=x*sq J λi=>(w (k+1+i):Rat)*x^i by rw [show ((0:Int):Rat)=0 from rfl]; grind,Ib,Z7];have:=Z1 ih (Qr hx0);have e2:Fh x*(Fh x^J / 2)=Fh x^J*Fh x / 2:=by rw [Jt,Jt]; grind
   rw [e2] at this; exact this
  ·have a1:=KB h0;have a2:=Qjr hx2 hw J (k+1);have a3:=G9 (x:=x) (y:=sq J λi=>(w (k+1+i):Rat)*x^i) Qp a2;have a4:=T0 ((w k:Rat)+x*sq J λi=>(w (k+1+i):Rat)*x^i) (-(x*sq J λi=>(w (k+1+i):Rat)*x^i));rw [Ef,show (w k:Rat)+(x*sq J λi=>(w (k+1+i):Rat)*x^i)+-(x*sq J λi=>(w (k+1+i):Rat)*x^i)=w k by grind] at a4;have a5:=(hp (J+1)).1;have a6:Fh x^(J+1) / 2*2=Fh x^(J+1):=Hb (by decide);have a7:Fh x*(2*D)*2=Fh x*(4*D):=by grind
   clear hw hp; grind
theorem Qtr {A B:Uj} {a b h:Nat} (hA:A.length=a+1) (hB:B.length=b+1) (lA:A.getD a 0≠0) (lB:B.getD b 0≠0) (ha:0<a) (hb:0<b) (h0:1<=h) (bA:∀ k,(A.getD k 0).natAbs<=h) (bB:gB B<=h) {N D:Nat} (hN:b*(2*(a*b))+a*(2*(a*b)-b)=N) (hD:N*(h*(2*(N*h))^(2*(a+b-1)))<=D) {R d:Rat} (hR:1<=R) (dp:0<d)
 (hs:∀ e:Rat,0<e->∃ q r,Fh q<=R/\Fh r<=R/\d<=Fh (q-r)/\Fh (q-r)*(4*(D:Rat))<=1/\Fh (U7 A q)<e/\Fh (U7 B r)<e):False:=by
 have hab:0<a*b:=J1 ha hb;have hbab:b<=a*b:=by
  have:=Qz b (show 1<=a from ha); omega
 obtain ⟨w,⟨j,hj,hw0⟩,hw,hC⟩:=Quy hA hB lA lB ha hb h0 bA bB (J:=2*(a*b)) (J':=2*(a*b)-b) rfl (by omega) hN.symm rfl;obtain ⟨C,hC0,hC⟩:=hC (2*R) (by grind);have hw':∀ j,Fh (w j:Rat)<=(D:Rat):=λj=>by
  have h1:=Qc (hw j) hD;have h2:w j<=(D:Int):=by omega
  have h3:-(D:Int)<=w j:=by omega
  have h2:=X9.2 h2;have h3:=X9.2 h3;rw [Vm] at h3;rw [Mb]; exact ⟨h3,h2⟩
 have hD1:(1:Rat)<=(D:Rat):=by
  have:=KB hw0;exact Zh this (hw' j)
 have hdJ:0<d^(2*(a*b)) / 2:=E5 (Rat.pow_pos dp) (by decide);obtain ⟨e,ep,_,he⟩:=Hf (b:=C*2) (d:=d^(2*(a*b)) / 2) (by grind) hdJ;obtain ⟨q,r,q1,r1,d1,d2,aq,br⟩:=hs e ep;have h1:=hC (q-r) q (by
  have:=T0 q (-r); rw [Ef] at this; have:q-r=q+-r:=by grind
  grind) (by grind)
 rw [show q-(q-r)=r by grind] at h1;have h2:=mS (x:=q-r) hD1 (by grind) d2 hw' (2*(a*b)) 0 ⟨j,hj,by rw [Zz]; exact hw0⟩;simp only [Zz] at h2;have h3:C*(Fh (U7 A q)+Fh (U7 B r))<=C*(e+e):=Z1 (by grind) hC0;have h4:d^(2*(a*b))<=Fh (q-r)^(2*(a*b)):=by
  generalize 2*(a*b)=J
  induction J with
  | zero=>rw [Xf,Xf]; exact Qp
  |
   succ J ih =>
   rw [Z7,Z7];exact Cd (Qr (Rat.pow_pos dp)) ih (Qr dp) d1
 have h5:d^(2*(a*b)) / 2*2=d^(2*(a*b)):=Hb (by decide);have h6:Fh (q-r)^(2*(a*b)) / 2*2=Fh (q-r)^(2*(a*b)):=Hb (by decide);clear hC hs hw hw';grind
def HD (p:Um) (n:Nat):Prop:=p.getD n 0≠0/\∀ k,n<k->p.getD k 0=0
theorem Rh:∀ (p q:Um) (k:Nat),(Se p q).getD k 0=p.getD k 0+q.getD k 0
 | [],q,k=>by simp only [Se,Ks]; grind
 | a::p,[],k=>by simp only [Se,Ks]; grind
 | a::p,b::q,0=>by simp only [Se,Zs]
 | a::p,b::q,k+1=>by simp only [Se,Q4]; exact Rh p q k
theorem Ty (c:Rat):∀ (p:Um) (k:Nat),(Dq c p).getD k 0=c*p.getD k 0
 | [],k=>by simp only [Dq,X5,Ks]; grind
 | a::p,0=>by simp [Dq]
 | a::p,k+1=>by have:=Ty c p k; simp only [Dq,Z0,Q4] at *; exact this
theorem Qgo {p:Um} {k:Nat} (h:∀ x∈p,x=0):p.getD k 0=0:=by
 rw [Qi];cases e:p[k]? with
 | none=>rfl
 | some x=>exact h x (Qa e)
theorem Dk {p q:Um} (h:∀ t,ev p t=ev q t) (k:Nat):p.getD k 0=q.getD k 0:=by
 have h1:=Qgo (k:=k) (WF (p:=Se p (Dq (-1) q)) λt _ _=>by rw [Gy,Gm,h t]; grind);rw [Rh,Ty] at h1; grind
theorem Dx:∀ {p:Um},(∀ k,p.getD k 0=0)->∀ t,ev p t=0
 | [],_,t=>rfl
 |
  a::p,h,t=>by
  have h0:=h 0;have h1:=Dx (p:=p) (λk=>by have:=h (k+1); rwa [Q4] at this) t;rw [Zs] at h0;simp only [ev,h0,h1]; grind
theorem CO:∀ (p:Um),(∀ t,ev p t=0)\/∃ n,n<p.length/\HD p n
 | []=>.inl λ_=>rfl
 |
  a::p=>by
  rcases CO p with h | ⟨n,hn,h1,h2⟩
  ·rcases Classical.em (a=0) with e | e
   ·exact .inl λt=>by simp only [ev,e,h t]; grind
   ·refine .inr ⟨0,by simp,by simpa using e,λk hk=>?_⟩;obtain ⟨m,rfl⟩:∃ m,k=m+1:=⟨k-1,by omega⟩;rw [Q4];exact (Dk (p:=p) (q:=[]) h m).trans (by simp)
  ·refine .inr ⟨n+1,by simp; omega,by rw [Q4]; exact h1,λk hk=>?_⟩;obtain ⟨m,rfl⟩:∃ m,k=m+1:=⟨k-1,by omega⟩;rw [Q4]; exact h2 m (by omega)
theorem Qq2 {p q:Um} {n:Nat} (h:∀ t,ev p t=ev q t) (hp:HD p n):HD q n :=
 ⟨by rw [<-Dk h]; exact hp.1,λk hk=>by rw [<-Dk h]; exact hp.2 k hk⟩
theorem Qq3 {p:Um} {n m:Nat} (h:HD p n) (h':HD p m):n=m:=by
 rcases Km n m with e | e | e
 ·exact absurd (h.2 m e) h'.1
 ·exact e
 ·exact absurd (h'.2 n e) h.1
theorem lN {p:Um} {n:Nat} (h:HD p n):¬∀ t,ev p t=0:=λh0=>h.1 ((Dk (p:=p) (q:=[]) h0 n).trans (by simp))
theorem TO {p q:Um} (h:∀ k,p.getD k 0=0) (k:Nat):(G0 p q).getD k 0=0:=by
 have:=Dk (p:=G0 p q) (q:=[]) (λt=>by rw [Ff,Dx h t]; simp only [ev]; grind) k;rw [this]; simp
theorem DZ:∀ {p q:Um} {m n:Nat},HD p m->HD q n->HD (G0 p q) (m+n)
 | [],q,m,n,h,_=>absurd (by simp) h.1
 |
  a::p,q,0,n,h,h'=>by
  have h1:∀ k,p.getD k 0=0:=λk=>by have:=h.2 (k+1) (by omega); rwa [Q4] at this
  have h2:∀ k,(G0 (a::p) q).getD k 0=a*q.getD k 0:=λk=>by
   simp only [G0];rw [Rh,Ty];cases k with
   | zero=>rw [Zs]; grind
   | succ k=>rw [Q4,TO h1]; grind
  have h3:=h.1;rw [Zs] at h3;refine ⟨?_,λk hk=>?_⟩
  ·rw [h2,Zz]; exact λh=>(Yz.1 h).elim h3 h'.1
  ·rw [h2,h'.2 k (by omega)]; grind
 |
  a::p,q,m+1,n,h,h'=>by
  have ih:=DZ (p:=p) (q:=q) (m:=m) ⟨by have:=h.1; rwa [Q4] at this,λk hk=>by have:=h.2 (k+1) (by omega); rwa [Q4] at this⟩ h';refine ⟨?_,λk hk=>?_⟩
  ·simp only [G0];rw [Rh,Ty,show m+1+n=(m+n)+1 by omega,Q4,h'.2 _ (by omega)];have:=ih.1; grind
  ·obtain ⟨j,rfl⟩:∃ j,k=j+1:=⟨k-1,by omega⟩;simp only [G0];rw [Rh,Ty,Q4,h'.2 _ (by omega),ih.2 j (by omega)]; grind
def ZH (g f:Um):Prop:=∃ u,∀ t,ev f t=ev g t*ev u t
theorem dvd_refl (f:Um):ZH f f:=⟨[1],λt=>by rw [Rw]; grind⟩
theorem dvd_trans {f g h:Um}:ZH f g->ZH g h->ZH f h
 | ⟨u,hu⟩,⟨v,hv⟩=>⟨G0 u v,λt=>by rw [hv,hu,Ff]; grind⟩
theorem fK {p q:Um} (h:∀ t,ev p t*ev q t=0) (hp:¬∀ t,ev p t=0):∀ t,ev q t=0:=by
 rcases CO p with h1 | ⟨m,_,h1⟩
 ·exact absurd h1 hp
 ·rcases CO q with h2 | ⟨n,_,h2⟩
  ·exact h2
  ·exact absurd (λt=>by rw [Ff]; exact h t) (lN (DZ h1 h2))
theorem pZ {p q r:Um} (hp:¬∀ t,ev p t=0) (h:∀ t,ev p t*ev q t=ev p t*ev r t) (t:Rat):ev q t=ev r t:=by
 have:=fK (p:=p) (q:=Se q (Dq (-1) r)) (λt=>by rw [Gy,Gm]; have:=h t; grind) hp t;rw [Gy,Gm] at this; grind
theorem Qfo {b:Um} {n:Nat} (hb:HD b n):∀ (l:Nat) (a:Um),(∀ k,l<=k->a.getD k 0=0)->∃ q r,(∀ t,ev a t=ev q t*ev b t+ev r t)/\∀ k,n<=k->r.getD k 0=0
 | 0,a,ha=>⟨[],a,λt=>by simp only [ev]; grind,λk _=>ha k (Qh _)⟩
 |
  l+1,a,ha=>by
  rcases Za l n with h | h
  ·exact ⟨[],a,λt=>by simp only [ev]; grind,λk hk=>ha k (by omega)⟩
  ·-- the leading term is taken away
   obtain ⟨c,hc⟩:=nmE (a.getD l 0 / b.getD n 0);have hcb:c*b.getD n 0=a.getD l 0:=by rw [hc]; exact Zf hb.1
   obtain ⟨m,hm⟩:∃ m:Um,m=List.replicate (l-n) 0++[c]:=⟨_,rfl⟩;have hsh:∀ (i:Nat) (k:Nat),(G0 (List.replicate i 0++[c]) b).getD k 0=if i<=k then c*b.getD (k-i) 0 else 0:=λi=>by
    induction i with
    | zero=>intro k; simp only [Wh,Ye,G0]; rw [Rh,Ty]; cases k <;> simp <;> grind
    |
     succ i ih =>
     intro k;simp only [J0,Xb,G0];rw [Rh,Ty];cases k with
     | zero=>rw [Zs,if_neg (by omega)]; grind
     |
      succ k =>
      rw [Q4,ih k];by_cases h:i<=k
      ·rw [if_pos h,if_pos (by omega),Nat.add_sub_add_right]; grind
      ·rw [if_neg h,if_neg (by omega)]; grind
   obtain ⟨q,r,h1,h2⟩:=Qfo hb l (Se a (Dq (-1) (G0 m b))) λk hk=>by
    rw [Rh,Ty,hm,hsh,if_pos (by omega)];rcases Vl hk with e | e
    ·rw [ha k (by omega),hb.2 _ (by omega)]; grind
    ·subst e; rw [show l-(l-n)=n by omega,hcb]; grind
   refine ⟨Se q m,r,λt=>?_,h2⟩;have:=h1 t;rw [Gy,Gm,Ff] at this;rw [Gy]; grind
theorem pI:∀ (n:Nat) (a b:Um),(∀ k,n<=k->b.getD k 0=0)->∃ g U V,ZH g a/\ZH g b/\∀ t,ev g t=ev U t*ev a t+ev V t*ev b t
 |
  0,a,b,h=>by
  have h0:=Dx λk=>h k (Qh _)
  exact ⟨a,[1],[],dvd_refl a,⟨[],λt=>by rw [h0]; simp only [ev]; grind⟩,λt=>by rw [Rw]; simp only [ev]; grind⟩
 |
  n+1,a,b,h=>by
  rcases Classical.em (b.getD n 0=0) with e | e
  ·exact pI n a b λk hk=>by
    rcases Vl hk with e' | e'
    ·exact h k (by omega)
    ·rw [<-e']; exact e
  ·obtain ⟨q,r,h1,h2⟩:=Qfo (b:=b) (n:=n) ⟨e,λk hk=>h k (by omega)⟩ a.length a λk hk=>by rw [Qi,Qw hk]; rfl
   obtain ⟨g,U,V,⟨u,hu⟩,⟨v,hv⟩,hg⟩:=pI n b r h2;refine ⟨g,V,Se U (Dq (-1) (G0 V q)),⟨Se (G0 q u) v,λt=>?_⟩,⟨u,hu⟩,λt=>?_⟩
   ·rw [h1,hv,Gy,Ff,hu]; grind
   ·rw [hg,Gy,Gm,Ff,h1]; grind
theorem Qgj (a b:Um):∃ g U V,ZH g a/\ZH g b/\∀ t,ev g t=ev U t*ev a t+ev V t*ev b t :=
 pI b.length a b λk hk=>by rw [Qi,Qw hk]; rfl
def Cop (a b:Um):Prop:=∃ U V,∀ t,ev U t*ev a t+ev V t*ev b t=1
theorem xK {c d e:Um} (h:Cop c d) (h1:∃ u,∀ t,ev d t*ev e t=ev c t*ev u t):ZH c e:=by
 obtain ⟨U,V,h⟩:=h;obtain ⟨u,hu⟩:=h1;refine ⟨Se (G0 U e) (G0 V u),λt=>?_⟩;rw [Gy,Ff,Ff];have a1:=h t;have a2:=hu t;have:ev e t=(ev U t*ev c t+ev V t*ev d t)*ev e t:=by rw [a1]; grind
 rw [this];have:(ev U t*ev c t+ev V t*ev d t)*ev e t=ev U t*ev c t*ev e t+ev V t*(ev d t*ev e t):=by grind
 rw [this,a2]; grind
def LD (d:Um):Nat->Um
 | 0=>[1]
 | k+1=>G0 d (LD d k)
theorem nM (d:Um) (t:Rat):∀ k:Nat,ev d t*dv (LD d k) t=(k:Rat)*(dv d t*ev (LD d k) t)
 | 0=>by simp only [LD,dv,ev]; rw [show ((0:Nat):Rat)=0 from rfl]; grind
 |
  k+1=>by
  have ih:=nM d t k;have hn':(((k+1:Nat):Rat))=(k:Rat)+1:=by push_cast; rfl
  simp only [LD];rw [xH,Ff,hn']; grind
theorem Qio {d:Um} {m:Nat} (h:HD d m):∀ k,HD (LD d k) (k*m)
 | 0=>by rw [Yg]; exact ⟨by simp [LD],λk hk=>by simp only [LD]; rw [Qi,Qw (by simp; omega)]; rfl⟩
 | k+1=>by rw [Xa,Jr (k*m) m]; exact DZ h (Qio h k)
theorem qK {d g:Um} {m n:Nat} (hd:HD d m) (hg:HD g n) (h:∀ k,ZH (LD d k) g):m=0:=by
 obtain ⟨u,hu⟩:=h (n+1);rcases CO u with h1 | ⟨j,_,h1⟩
 ·exact absurd (λt=>by rw [hu,h1]; grind) (lN hg)
 ·have:=Qq3 (Qq2 (λt=>by rw [hu,Ff]) hg) (DZ (Qio hd (n+1)) h1);rcases Q0 m with e | e
  ·exact e
  ·have:(n+1)*1<=(n+1)*m:=Zt _ e;omega
theorem sqf {a g q d U V:Um} {k:Rat} (hk:k≠0) (ha:∀ t,ev a t=ev g t*ev q t) (hg:∀ t,k*ev g t=ev U t*ev a t+ev V t*dv a t) (h1:ZH d q) (h2:ZH d (Nz q)):∀ n,ZH (LD d n) g
 | 0=>⟨g,λt=>by simp only [LD]; rw [Rw]; grind⟩
 |
  n+1=>by
  obtain ⟨g1,e1⟩:=sqf hk ha hg h1 h2 n;obtain ⟨q1,e2⟩:=h1;obtain ⟨q2,e3⟩:=h2;have d1:=λt=>QK ha t
  have d2:=λt=>QK e1 t
  have d3:=λt=>QK e2 t
  have d4:=nM d;refine ⟨Dq (1 / k) (Se (G0 U (G0 g1 q1)) (G0 V (Se (G0 g1 q2) (Se (Dq n (G0 g1 (Se q2 (Dq (-1) (Nz q1))))) (G0 (Nz g1) q1))))),λt=>?_⟩;have hkk:1 / k*k=1:=Zf hk;simp only [LD,Gm,Gy,Ff,Ti];have b1:=ha t; have b2:=hg t; have b3:=e1 t; have b4:=e2 t; have b5:=e3 t;have b6:=d1 t; have b7:=d2 t; have b8:=d3 t; have b9:=d4 t n;rw [Ti] at b5;generalize ev d t=x0 at *;generalize ev (LD d n) t=x1 at *;generalize ev g t=x2 at *;generalize ev q t=x3 at *;generalize ev a t=x4 at *;generalize dv a t=x5 at *;generalize dv g t=x6 at *;generalize dv q t=x7 at *;generalize ev g1 t=x8 at *;generalize dv g1 t=x9 at *;generalize ev q1 t=y0 at *;generalize dv q1 t=y1 at *;generalize ev q2 t=y2 at *;generalize dv d t=y3 at *;generalize dv (LD d n) t=y4 at *;generalize ev U t=y5 at *;generalize ev V t=y6 at *;generalize (n:Rat)=y7 at *;have:x2=1 / k*(k*x2):=by grind
  rw [this,b2];have c1:x5=x0*x1*(x8*y2+(y7*(x8*(y2+-1*y1))+x9*y0)):=by
   rw [b6,b7,b4,b3];have:y3*y0=x0*y2-x0*y1:=by grind
   have:x0*y4*(x8*y0)=y7*(x1*x8*(x0*y2-x0*y1)):=by rw [b9,<-this]; grind
   grind
  have c2:x4=x0*x1*(x8*y0):=by rw [b1,b3,b4]; grind
  rw [c1,c2]; grind
theorem Qmx {a b c:Um} (h1:Cop a b) (h2:Cop a c) {d:Um} (hd:∀ t,ev d t=ev b t*ev c t):Cop a d:=by
 obtain ⟨U,V,h1⟩:=h1;obtain ⟨X,Y,h2⟩:=h2;refine ⟨Se U (G0 (G0 V b) X),G0 V Y,λt=>?_⟩;have a1:=h1 t;have a2:=h2 t;simp only [Gy,Ff,hd];have:ev V t*ev b t*(ev X t*ev a t+ev Y t*ev c t)=ev V t*ev b t:=by rw [a2]; grind
 grind
theorem Qpj {a g q z r X Y:Um} {n:Nat} (ha:∀ t,ev a t=ev g t*ev q t) (hz:∀ t,dv a t=ev g t*ev z t) (hg:HD g n) (hr:∀ t,ev X t*ev r t+ev Y t*dv r t=1) (h:ZH r a):ZH r q:=by
 obtain ⟨b,hb⟩:=h;obtain ⟨e,U,V,⟨r1,e1⟩,⟨q3,e2⟩,e3⟩:=Qgj r q;have hr0:¬∀ t,ev r t=0:=λh=>by
  have h1:=hr 0;have h2:dv r 0=0:=by have:=Qft (p:=r) (q:=[]) h 0; rw [this]; rfl
  rw [h,h2] at h1; grind
 have he0:¬∀ t,ev e t=0:=λh=>hr0 λt=>by rw [e1,h]; grind
 have d1:=λt=>QK e1 t
 have c1:Cop r1 q3:=⟨U,V,λt=>by
  have:=pZ (p:=e) (q:=Se (G0 U r1) (G0 V q3)) (r:=[1]) he0 (λt=>by
   rw [Gy,Ff,Ff,Rw];have a1:=e1 t; have a2:=e2 t; have a3:=e3 t;rw [a1,a2] at a3; grind) t
  rw [Gy,Ff,Ff,Rw] at this; exact this⟩
 have c2:Cop r1 e:=⟨Se (G0 X e) (G0 Y (Nz e)),G0 Y (Nz r1),λt=>by
  have a1:=hr t; have a2:=e1 t; have a3:=d1 t;simp only [Gy,Ff,Ti];rw [a2,a3] at a1; grind⟩
 have c3:Cop r1 (Nz r1):=⟨Se (G0 X e) (G0 Y (Nz e)),G0 Y e,λt=>by
  have a1:=hr t; have a2:=e1 t; have a3:=d1 t;simp only [Gy,Ff,Ti];rw [a2,a3] at a1; grind⟩
 have c4:Cop r1 q:=Qmx c2 c1 e2;have hgz:=lN hg;have hp:∀ k,ZH (LD r1 k) g:=λk=>by
  induction k with
  | zero=>exact ⟨g,λt=>by simp only [LD]; rw [Rw]; grind⟩
  |
   succ k ih =>
   obtain ⟨h,eh⟩:=ih;have hpz:¬∀ t,ev (LD r1 k) t=0:=λh0=>hgz λt=>by rw [eh,h0]; grind
   have key:ZH r1 h:=by
    cases k with
    |
     zero =>
     refine xK c4 ⟨G0 e b,λt=>?_⟩;have a1:=ha t; have a2:=hb t; have a3:=e1 t; have a4:=eh t;simp only [LD] at a4;rw [Rw] at a4;rw [Ff]; grind
    |
     succ k =>
     have hn:((k+1:Nat):Rat)≠0:=by
      have:(0:Rat)<((k+1:Nat):Rat):=by
       have h1:((0:Nat):Rat)<((k+1:Nat):Rat):=Vo.2 (by omega);simpa using h1
      grind
     have d2:=λt=>QK (f:=a) (w:=LD r1 (k+1)) (u:=G0 h q) (λt=>by rw [ha,eh,Ff]; grind) t
     have d4:=nM r1;have h3:=pZ (p:=LD r1 (k+1)) (q:=G0 (Nz r1) (G0 h q)) (r:=G0 r1 (Dq (1 / ((k+1:Nat):Rat)) (Se (G0 h z) (Dq (-1) (Nz (G0 h q)))))) hpz λt=>by
      simp only [Ff,Gm,Gy,Ti];have a1:=d2 t; have a2:=d4 t (k+1); have a3:=hz t; have a4:=eh t;rw [Ff] at a1;generalize ((k+1:Nat):Rat)=c at *;have hc:1 / c*c=1:=Zf hn;generalize ev (LD r1 (k+1)) t=x0 at *;generalize dv (LD r1 (k+1)) t=x1 at *;generalize dv (G0 h q) t=x2 at *;generalize ev r1 t=x3 at *;generalize dv r1 t=x4 at *;generalize ev h t=x5 at *;generalize ev q t=x6 at *;generalize ev z t=x7 at *;generalize dv a t=x8 at *;generalize ev g t=x9 at *;generalize 1 / c=c' at *;have s1:x0*(x4*(x5*x6))=c'*(c*(x4*x0))*(x5*x6):=by
       have:c'*(c*(x4*x0))=(c'*c)*(x4*x0):=by grind
       rw [this,hc]; grind
      rw [s1,<-a2];have s2:x3*(x1*(x5*x6))=x3*(x0*(x5*x7+-1*x2)):=by
       rw [a3,a4] at a1; grind
      grind
     refine xK c4 ?_;obtain ⟨u,hu⟩:=xK (e:=G0 q h) c3 ⟨Dq (1 / ((k+1:Nat):Rat)) (Se (G0 h z) (Dq (-1) (Nz (G0 h q)))),λt=>by
      have:=h3 t;simp only [Ff] at this ⊢;rw [<-this]; grind⟩
     exact ⟨u,λt=>by rw [<-hu,Ff]⟩
   obtain ⟨u,hu⟩:=key;exact ⟨u,λt=>by simp only [LD]; rw [Ff,eh,hu]; grind⟩
 rcases CO r1 with h1 | ⟨m,_,h1⟩
 ·exact absurd (λt=>by rw [e1,h1]; grind) hr0
 ·obtain rfl:=qK h1 hg hp;have h2:∀ t,ev r1 t=r1.getD 0 0:=λt=>by
   cases r1 with
   | nil=>simp [ev]
   |
    cons c l =>
    have:∀ t,ev l t=0:=Dx λk=>by have:=h1.2 (k+1) (by omega); rwa [Q4] at this
    simp only [ev,this,Zs]; grind
  have h3:=h1.1;refine ⟨Dq (1 / r1.getD 0 0) q3,λt=>?_⟩;rw [e2,e1,h2,Gm];have:1 / r1.getD 0 0*r1.getD 0 0=1:=Zf h3;have:ev e t*r1.getD 0 0*(1 / r1.getD 0 0*ev q3 t)=ev e t*ev q3 t*(1 / r1.getD 0 0*r1.getD 0 0):=by grind
  rw [this,Zf h3]; grind
def Ob:Un->Um
 | []=>[1]
 | w::l=>G0 w (Ob l)
def Lay:Un->Un->Prop
 | [],[]=>True
 | [w],[f]=>∀ t,ev w t=ev f t
 | w::v::l,f::fs=>(∀ t,ev w t=ev f t*ev v t)/\Lay (v::l) fs
 | _,_=>False
def PX:Un->Um
 | []=>[1]
 | [f]=>f
 | f::_::l=>G0 f (PX l)
theorem eW:∀ {ws fs:Un},Lay ws fs->∃ S,∀ t,ev (Ob ws) t=ev (PX fs) t*(ev S t*ev S t)
 | [],[],_=>⟨[1],λt=>by simp only [Ob,PX]; rw [Rw]; grind⟩
 | [w],[f],h=>⟨[1],λt=>by simp only [Ob,PX]; rw [Ff,Rw,h t]; grind⟩
 |
  [w,v],[f,f2],h=>⟨v,λt=>by
  have h1:=h.1 t;have h2:ev v t=ev f2 t:=h.2 t;simp only [Ob,PX,Ff]; rw [Rw,h1]; grind⟩
 |
  w::v::x::l,f::f2::fs,h=>by
  obtain ⟨S,hS⟩:=eW h.2.2;refine ⟨G0 v S,λt=>?_⟩;have h1:=h.1 t;have h2:=hS t;have e1:ev (Ob (w::v::x::l)) t=ev w t*(ev v t*ev (Ob (x::l)) t):=by simp only [Ob,Ff]
  rw [e1,h2,h1];have e2:ev (PX (f::f2::fs)) t=ev f t*ev (PX fs) t:=by
   cases fs with
   | nil=>cases l <;> exact False.elim h.2.2
   | cons y l=>simp only [PX,Ff]
  rw [e2,Ff]; grind
 | [w],[],h=>h.elim
 | [w],_::_::_,h=>h.elim
 | [],_::_,h=>h.elim
 | [w,v],[f],h=>h.2.elim
 | [w,v],_::_::_::_,h=>h.2.elim
 | w::v::x::l,[f],h=>h.2.elim
 | w::v::l,[],h=>h.elim
end Orq
namespace Orq
open Orr Go
theorem nJ (p:Uj) (t:Rat):U7 p t=((p.getD 0 0:Int):Rat)+t*U7 p.tail t:=by
 cases p with
 | nil=>show (0:Rat)=((0:Int):Rat)+t*0; grind
 | cons a p=>rfl
theorem HM (p:Uj) (k:Nat):p.tail.getD k 0=p.getD (k+1) 0:=by
 cases p <;> simp
theorem Ce (c d:Int) (t:Rat):∀ (n:Nat) (p q r:Uj),p.length<=n->q.length<=n->r.length<=n->(∀ k,r.getD k 0=c*p.getD k 0+d*q.getD k 0)->U7 r t=(c:Rat)*U7 p t+(d:Rat)*U7 q t
 |
  0,p,q,r,hp,hq,hr,_=>by
  rw [Qj (Nat.le_zero.1 hp),Qj (Nat.le_zero.1 hq),Qj (Nat.le_zero.1 hr)];show (0:Rat)=_*0+_*0;grind
 |
  n+1,p,q,r,hp,hq,hr,h=>by
  have ih:=Ce c d t n p.tail q.tail r.tail (by rw [Ww]; omega) (by rw [Ww]; omega) (by rw [Ww]; omega) λk=>by
   rw [HM,HM,HM]; exact h (k+1)
  rw [nJ p,nJ q,nJ r,ih,h 0]
  push_cast
  grind
theorem aS {p q:Uj} (h:∀ k,p.getD k 0=q.getD k 0) (t:Rat):U7 p t=U7 q t:=by
 have:=Ce 1 0 t (max p.length q.length) q q p (Wy ..) (Wy ..) (Nat.le_max_left ..) λk=>by rw [h k]; omega
 rw [this]
 push_cast
 grind
theorem Oe (p:Uj) (t:Rat):U7 (trim p) t=U7 p t:=aS (YL p) t
theorem Ns {p:Uj} {k:Nat} (h:p.length<=k):p.getD k 0=0:=by
 rw [Qi,Qw h]; rfl
theorem qQ (p q:Uj) (k:Nat):(ZU p q).getD k 0=p.getD k 0+q.getD k 0:=by
 unfold ZU;rw [Sx]
 split
 ·rfl
 ·rename_i h; rw [Ns (p:=p) (by omega),Ns (p:=q) (by omega)]; rfl
theorem Om (p q:Uj) (k:Nat):(Mx p q).getD k 0=p.getD k 0-q.getD k 0:=by
 unfold Mx;rw [Sx]
 split
 ·rfl
 ·rename_i h; rw [Ns (p:=p) (by omega),Ns (p:=q) (by omega)]; rfl
theorem P9 (p:Uj) (c:Int) (k:Nat):(Ft p c).getD k 0=p.getD k 0*c:=by
 unfold Ft;rw [Sx]
 split
 ·rfl
 ·rename_i h; rw [Ns (p:=p) (by omega),Int.zero_mul]
theorem Qbz (p:Uj) (k:Nat):(Mk p).getD k 0=-(p.getD k 0):=by
 unfold Mk;rw [Sx]
 split
 ·rfl
 ·rename_i h; rw [Ns (p:=p) (by omega)]; rfl
theorem Bi (p:Uj) (k:Nat):(Gu p).getD k 0=p.getD (k+1) 0*((k+1:Nat):Int):=by
 unfold Gu;rw [Sx]
 split
 ·rfl
 ·rename_i h; rw [Ns (p:=p) (by omega),Int.zero_mul]
theorem LX (p q:Uj) (t:Rat):U7 (ZU p q) t=U7 p t+U7 q t:=by
 have:=Ce 1 1 t (max (max p.length q.length) (ZU p q).length) p q (ZU p q) (by omega) (by omega) (by omega) λk=>by rw [qQ]; omega
 rw [this]; push_cast; grind
theorem Na (p q:Uj) (t:Rat):U7 (Mx p q) t=U7 p t-U7 q t:=by
 have:=Ce 1 (-1) t (max (max p.length q.length) (Mx p q).length) p q (Mx p q) (by omega) (by omega) (by omega) λk=>by rw [Om]; omega
 rw [this]; push_cast; grind
theorem FX (p:Uj) (t:Rat):U7 (Mk p) t=-U7 p t:=by
 have:=Ce (-1) 0 t (max p.length (Mk p).length) p p (Mk p) (by omega) (by omega) (by omega) λk=>by rw [Qbz]; omega
 rw [this]; push_cast; grind
theorem Ri (p:Uj) (c:Int) (t:Rat):U7 (Ft p c) t=U7 p t*(c:Rat):=by
 have:=Ce c 0 t (max p.length (Ft p c).length) p p (Ft p c) (by omega) (by omega) (by omega) λk=>by rw [P9,K9]; omega
 rw [this]; push_cast; grind
theorem jO:∀ (l:Uj) (j:Nat) (v:Int) (t:Rat),j<l.length->U7 (l.set j v) t=U7 l t+((v:Rat)-((l.getD j 0:Int):Rat))*t^j
 | [],_,_,_,h=>by simp at h
 |
  a::l,0,v,t,_=>by
  show (v:Rat)+t*U7 l t=(a:Rat)+t*U7 l t+((v:Rat)-(a:Rat))*t^0;rw [Xf]; grind
 |
  a::l,j+1,v,t,h=>by
  have ih:=jO l j v t (by simpa using h);show (a:Rat)+t*U7 (l.set j v) t=(a:Rat)+t*U7 l t+((v:Rat)-((l.getD j 0:Int):Rat))*t^(j+1);rw [ih,Z7]; grind
theorem LJ:∀ (l:Uj) (k:Nat) (t:Rat),k<l.length->U7 (l.take (k+1)) t=U7 (l.take k) t+((l.getD k 0:Int):Rat)*t^k
 | [],_,_,h=>by simp at h
 |
  a::l,0,t,_=>by
  show (a:Rat)+t*U7 (l.take 0) t=0+(a:Rat)*t^0;rw [Xf,Vu];show (a:Rat)+t*0=_;grind
 |
  a::l,k+1,t,h=>by
  have ih:=LJ l k t (by simpa using h);show (a:Rat)+t*U7 (l.take (k+1)) t=(a:Rat)+t*U7 (l.take k) t+((l.getD k 0:Int):Rat)*t^(k+1);rw [ih,Z7]; grind
theorem qJ (n:Nat) (t:Rat):U7 (List.replicate n 0) t=0:=by
 induction n with
 | zero=>rfl
 |
  succ n ih =>
  show ((0:Int):Rat)+t*U7 (List.replicate n 0) t=0;rw [ih]; push_cast; grind
theorem rW (t:Rat) (i:Nat):∀ k,t^(i+k)=t^i*t^k
 | 0=>by rw [Xk,Xf]; grind
 | k+1=>by rw [<-Yk,Z7,Z7,rW t i k]; grind
theorem gZ (x:Int) (b:Uj) (i:Nat) (o:Uj) (t:Rat):∀ k,k<=b.length->i+k<=o.length->U7 (I8 x b i o k) t=U7 o t+(x:Rat)*t^i*U7 (b.take k) t
 |
  0,_,_=>by
  show U7 o t=U7 o t+(x:Rat)*t^i*0;grind
 |
  k+1,h1,h2=>by
  have ih:=gZ x b i o t k (by omega) (by omega);simp only [I8];rw [jO _ _ _ _ (by rw [I9]; omega),ih,LJ b k t (by omega)];have hp:t^(i+k)=t^i*t^k:=rW t i k;rw [hp]
  push_cast
  grind
theorem gQ (a b o:Uj) (t:Rat):∀ i,i<=a.length->i+b.length<=o.length+1->U7 (Aj a b o i) t=U7 o t+U7 (a.take i) t*U7 b t
 |
  0,_,_=>by
  show U7 o t=U7 o t+0*U7 b t;grind
 |
  i+1,h1,h2=>by
  have ih:=gQ a b o t i (by omega) (by omega);simp only [Aj];rw [gZ _ _ _ _ _ b.length (Ql _) (by rw [D4]; omega),ih,LJ a i t (by omega),Q5];grind
theorem Gb (a b:Uj) (t:Rat):U7 (Gk a b) t=U7 a t*U7 b t:=by
 unfold Gk
 split
 ·rename_i h;rcases h with h | h
  ·rw [Qj h]; show (0:Rat)=0*_; grind
  ·rw [Qj h]; show (0:Rat)=_*0; grind
 ·rename_i h;rw [Oe,gQ a b _ t a.length (Ql _) (by rw [Jb]; omega),qJ,Q5];grind
theorem H6 (z d:Int):(z:Rat) / (d:Rat)=Rat.divInt z d:=by
 by_cases h:d=0
 ·subst h; simp; grind
 ·rw [Jt]; exact (Rat.divInt_eq_div z d ▸ by rw [Jt])
theorem iI (a:Uj) (n d:Int) (hd:(d:Rat)≠0):∀ k,k<=a.length->(((Lr a n d k).2:Int):Rat)=(d:Rat)^k/\(((Lr a n d k).1:Int):Rat)*d=(d:Rat)^k*U7 (a.drop (a.length-k)) ((n:Rat) / d)
 |
  0,_=>by
  refine ⟨by rw [Xf]; rfl,?_⟩;rw [Wz,Y8];show ((0:Int):Rat)*d=(d:Rat)^0*0
  push_cast; grind
 |
  k+1,hk=>by
  obtain ⟨h1,h2⟩:=iI a n d hd k (by omega);have hi:a.length-1-k<a.length:=by omega
  have e1:a.drop (a.length-(k+1))=a.getD (a.length-1-k) 0::a.drop (a.length-k):=by
   rw [show a.length-(k+1)=a.length-1-k by omega,Zu hi,show a.length-1-k+1=a.length-k by omega];congr 1;rw [Qi,Qe hi]; rfl
  refine ⟨?_,?_⟩
  ·show (((Lr a n d k).2*d:Int):Rat)=_;rw [Xw,h1,Z7]
  ·rw [e1];show (((Lr a n d k).1*n+a.getD (a.length-1-k) 0*(Lr a n d k).2:Int):Rat)*d=_*(((a.getD (a.length-1-k) 0:Int):Rat)+(n:Rat) / d*U7 (a.drop (a.length-k)) ((n:Rat) / d));rw [Kb,Xw,Xw,h1,Z7];have h3:(n:Rat) / d*d=n:=by rw [Zf hd]
   have h4:(d:Rat)^k*d*((n:Rat) / d*U7 (a.drop (a.length-k)) ((n:Rat) / d))=((n:Rat) / d*d)*((d:Rat)^k*U7 (a.drop (a.length-k)) ((n:Rat) / d)):=by grind
   have h5:(d:Rat)^k*d*(((a.getD (a.length-1-k) 0:Int):Rat)+(n:Rat) / d*U7 (a.drop (a.length-k)) ((n:Rat) / d))=(d:Rat)^k*d*((a.getD (a.length-1-k) 0:Int):Rat)+(d:Rat)^k*d*((n:Rat) / d*U7 (a.drop (a.length-k)) ((n:Rat) / d)):=by grind
   rw [h5,h4,h3,<-h2];grind
theorem aC {d:Rat} (h:0<d):∀ k:Nat,0<d^k
 | 0=>by rw [Xf]; decide
 | k+1=>by rw [Z7]; exact Xp (aC h k) h
theorem Ck {x y:Rat} (h:0<y):Fc (y*x)=Fc x:=by
 unfold Fc;have h1:y*x<0↔x<0:=by
  constructor
  ·intro h2;rcases Vw (a:=0) (b:=x) with h3 | h3
   ·have:=Vx (Qr h) h3; grind
   ·rcases Rat.le_iff_lt_or_eq.1 h3 with h4 | h4
    ·exact h4
    ·rw [h4] at h2; grind
  ·intro h2;have:=Xp h (show 0 < -x by grind);grind
 have h2:0<y*x↔0<x:=by
  constructor
  ·intro h2;rcases Vw (a:=x) (b:=0) with h3 | h3
   ·have:=Vx (Qr h) (show 0<=-x by grind); grind
   ·rcases Rat.le_iff_lt_or_eq.1 h3 with h4 | h4
    ·exact h4
    ·rw [<-h4] at h2; grind
  ·intro h2; exact Xp h h2
 simp only [h1,h2]
theorem Qff (z:Int):Dw z 0=Fc (z:Rat):=by
 unfold Dw Fc;have h1:((z:Int):Rat)<0↔z<0:=by
  have := @Rat.intCast_lt_intCast z 0; simpa using this
 have h2:0<((z:Int):Rat)↔0<z:=by
  have := @Rat.intCast_lt_intCast 0 z; simpa using this
 simp only [h1,h2]
theorem Nc (p:Uj) (q:Rat):H7 p q=Fc (U7 p q):=by
 have hd0:(0:Rat)<((q.den:Int):Rat):=by
  have := @Rat.intCast_lt_intCast 0 (q.den:Int);rw [show ((0:Int):Rat)=0 from rfl] at this;exact this.2 (den_pos q)
 have hd:((q.den:Int):Rat)≠0:=by intro h; rw [h] at hd0; exact absurd hd0 (by decide)
 obtain ⟨_,h⟩:=iI p q.num q.den hd p.length (Ql _);rw [Kg,X2,H6,Z4] at h;unfold H7;rw [Qff,<-Ck hd0,W3];show Fc ((((Lr p q.num q.den p.length).1:Int):Rat)*_)=_;rw [h,Ck (aC hd0 _)]
def cz (p:Uj):Um:=p.map λz:Int=>(z:Rat)
theorem U8 (t:Rat):∀ p,ev (cz p) t=U7 p t
 | []=>rfl
 | a::p=>by have:=U8 t p; simp only [cz,Z0,ev,U7] at *; rw [this]
theorem Mh:∀ (p:Uj) (k:Nat),(cz p).getD k 0=((p.getD k 0:Int):Rat)
 | [],k=>by simp [cz]
 | a::p,0=>by simp [cz]
 | a::p,k+1=>by have:=Mh p k; simp only [cz,Z0,Q4] at *; exact this
theorem La {p q:Uj} (h:∀ t,U7 p t=U7 q t) (k:Nat):p.getD k 0=q.getD k 0:=by
 have:=Dk (p:=cz p) (q:=cz q) (λt=>by rw [U8,U8,h]) k;rw [Mh,Mh] at this
 exact_mod_cast this
theorem Qpr {p q:Uj} (hp:U9 p) (hq:U9 q) (h:∀ k,p.getD k 0=q.getD k 0):p=q:=by
 have key:∀ {p q:Uj},U9 p->U9 q->(∀ k,p.getD k 0=q.getD k 0)->p.length<=q.length:=λ{p q} hp hq h=>by
  rcases Za q.length p.length with e | e
  ·have:=H5 hp (by omega);rw [h,Qi,Qw (by omega)] at this;exact absurd rfl this
  ·exact e
 exact CY (Ka (key hp hq h) (key hq hp λk=>(h k).symm)) λj _=>h j
theorem aP {p q:Uj} (hp:U9 p) (hq:U9 q) (h:∀ t,U7 p t=U7 q t):p=q:=Qpr hp hq (La h)
theorem Qog {p:Uj} (hp:U9 p) (h:∀ t,U7 p t=0):p=[]:=aP hp rfl λt=>by rw [h]; rfl
theorem Dn {p:Uj} (h:p.length=0) (t:Rat):U7 p t=0:=by rw [Qj h]; rfl
theorem aT:∀ (p r:Uj) (t:Rat),(∀ k,r.getD k 0=p.getD (k+1) 0*((k+1:Nat):Int))->U7 r t=dv (cz p) t
 |
  [],r,t,h=>by
  rw [aS (q:=[]) (λk=>by rw [h]; simp) t]; rfl
 |
  a::p,r,t,h=>by
  have ih:=aT p (Gu p) t λk=>Bi p k
  have e:U7 r t=U7 p t+t*U7 (Gu p) t:=by
   have:=Ce 1 1 t (max (max p.length (0::Gu p).length) r.length) p (0::Gu p) r (by omega) (by omega) (by omega) λk=>by
    rw [h,Q4];cases k with
    | zero=>simp
    | succ k=>rw [Q4,Bi]; push_cast; grind
   rw [this]; simp only [U7]; push_cast; grind
  rw [e,ih];show _=ev (cz p) t+t*dv (cz p) t;rw [U8]
theorem Od (p:Uj) (t:Rat):U7 (Gu p) t=dv (cz p) t:=aT p _ t λk=>Bi p k
theorem TA {p:Uj} (hp:U9 p) (h:0<p.length):HD (cz p) (p.length-1):=by
 refine ⟨?_,λk hk=>?_⟩
 ·rw [Mh];have:=H5 hp h;exact λe=>this (by exact_mod_cast e)
 ·rw [Mh,Qi,Qw (by omega)]; rfl
theorem TB {p:Uj} (hp:U9 p) (h:0<p.length):¬∀ t,U7 p t=0:=λh0=>by
 rw [Qog hp h0] at h; exact absurd h (by simp)
theorem Mj {a b c:Uj} (ha:U9 a) (hb:U9 b) (hc:U9 c) (h:∀ t,U7 c t=U7 a t*U7 b t) (la:0<a.length) (lb:0<b.length):c.length=a.length+b.length-1:=by
 have h1:=DZ (TA ha la) (TA hb lb);have h2:HD (cz c) (a.length-1+(b.length-1)):=Qq2 (λt=>by rw [Ff,U8,U8,U8,h]) h1;have lc:0<c.length:=by
  rcases Q0 c.length with e | e
  ·exact absurd (λt=>by rw [U8]; exact Dn e t) (lN h2)
  ·exact e
 have:=Qq3 (TA hc lc) h2;omega
theorem gU:∀ (n m:Nat),m<=n->2<=m->∃ P,2<=P/\P∣m/\∀ d,2<=d->d∣P->d=P
 | 0,m,h,h2=>by omega
 |
  n+1,m,h,h2=>by
  rcases Classical.em (∃ d,2<=d/\d<m/\d∣m) with ⟨d,d1,d2,d3⟩ | h0
  ·obtain ⟨P,p1,p2,p3⟩:=gU n d (by omega) d1;exact ⟨P,p1,Nat.dvd_trans p2 d3,p3⟩
  ·refine ⟨m,h2,Nat.dvd_refl m,λd d1 d2=>?_⟩;rcases Vl (Ku (by omega) d2) with e | e
   ·exact absurd ⟨d,d1,e,d2⟩ h0
   ·exact e
theorem xP {P:Nat} (h2:2<=P) (hP:∀ d,2<=d->d∣P->d=P) {x y:Int} (h:(P:Int)∣x*y):(P:Int)∣x\/(P:Int)∣y:=by
 have h:=Xy.2 h;rw [J5,Xg] at h;have hg:=Wx P x.natAbs;rcases Za (Nat.gcd P x.natAbs) 2 with e | e
 ·right;have h1:Nat.gcd P x.natAbs=1:=by
   have:=Nat.gcd_pos_of_pos_left x.natAbs (show 0<P by omega); omega
  have:=Nat.Coprime.dvd_of_dvd_mul_left h1 h;exact Xy.1 (by rwa [Xg])
 ·left;have:=hP _ e hg;have h3:=Nat.gcd_dvd_right P x.natAbs;rw [this] at h3;exact Xy.1 (by rwa [Xg])
def tM (P:Int) (l:Uj):Prop:=∀ k,P∣l.getD k 0
theorem GR {P:Nat} (h2:2<=P) (hP:∀ d,2<=d->d∣P->d=P):∀ (n:Nat) (b h c:Uj),b.length+h.length<=n->(∀ t,U7 c t=U7 b t*U7 h t)->tM P c->tM P b\/tM P h
 | _,[],h,c,_,_,_=>.inl λk=>by simp
 | _,x::b,[],c,_,_,_=>.inr λk=>by simp
 | 0,x::b,y::h,c,hn,_,_=>by simp at hn
 |
  n+1,x::b,y::h,c,hn,hc,hd=>by
  simp only [Q7] at hn;by_cases hx:(P:Int)∣x
  ·-- x h is taken away
   have e:∀ t,U7 (0::Gk b (y::h)) t=U7 (Mx c (Ft (y::h) x)) t:=λt=>by
    rw [Na,Ri,hc]; simp only [U7]; rw [Gb]; simp only [U7]; push_cast; grind
   have hd':tM P (Gk b (y::h)):=λk=>by
    have:=La e (k+1);rw [Q4,Om,P9] at this;rw [this];exact Int.dvd_sub (hd (k+1)) (V4 hx (Y7 _ _))
   rcases GR h2 hP n b (y::h) _ (by simp only [Q7]; omega) (λt=>Gb _ _ t) hd' with h1 | h1
   ·refine .inl λk=>?_
    cases k with
    | zero=>rw [Zs]; exact hx
    | succ k=>rw [Q4]; exact h1 k
   ·exact .inr h1
  ·have h0:(P:Int)∣y:=by
    have e:c.getD 0 0=x*y:=by
     have:=La (p:=c) (q:=Gk (x::b) (y::h)) (λt=>by rw [hc,Gb]) 0;have e2:=La (p:=Gk (x::b) (y::h)) (q:=ZU (Ft (y::h) x) (0::Gk b (y::h))) (λt=>by
      rw [LX,Ri,Gb]; simp only [U7]; rw [Gb]; simp only [U7]; push_cast; grind) 0
     rw [this,e2,qQ,P9,Zs,Zs,K9]; omega
    have:=hd 0;rw [e] at this;rcases xP h2 hP this with h1 | h1
    ·exact absurd h1 hx
    ·exact h1
   have e:∀ t,U7 (0::Gk (x::b) h) t=U7 (Mx c (Ft (x::b) y)) t:=λt=>by
    rw [Na,Ri,hc]; simp only [U7]; rw [Gb]; simp only [U7]; push_cast; grind
   have hd':tM P (Gk (x::b) h):=λk=>by
    have:=La e (k+1);rw [Q4,Om,P9] at this;rw [this];exact Int.dvd_sub (hd (k+1)) (V4 h0 (Y7 _ _))
   rcases GR h2 hP n (x::b) h _ (by simp only [Q7]; omega) (λt=>Gb _ _ t) hd' with h1 | h1
   ·exact absurd (by have:=h1 0; rwa [Zs] at this) hx
   ·refine .inr λk=>?_
    cases k with
    | zero=>rw [Zs]; exact h0
    | succ k=>rw [Q4]; exact h1 k
def Prm (b:Uj):Prop:=∀ d:Int,tM d b->d∣1
theorem Qge {a b:Uj} (hb:Prm b):∀ (n:Nat) (c:Int) (h:Uj),c.natAbs<=n->c≠0->(∀ t,(c:Rat)*U7 a t=U7 b t*U7 h t)->∃ h',∀ t,U7 a t=U7 b t*U7 h' t
 | 0,c,h,hn,h0,_=>absurd (by omega) h0
 |
  n+1,c,h,hn,h0,hc=>by
  rcases Za c.natAbs 2 with h1 | h1
  ·refine ⟨Ft h c,λt=>?_⟩;have hcc:(c:Rat)*c=1:=by
    have:c*c=1:=by
     rcases (show c=1\/c=-1 by omega) with rfl | rfl <;> rfl
    have:=congrArg (λz:Int=>(z:Rat)) this
    push_cast at this; exact this
   rw [Ri];have:=hc t;have:U7 a t=(c:Rat)*((c:Rat)*U7 a t):=by
    have:(c:Rat)*((c:Rat)*U7 a t)=((c:Rat)*c)*U7 a t:=by grind
    rw [this,hcc]; grind
   rw [this,hc]; grind
  ·obtain ⟨P,p1,p2,p3⟩:=gU c.natAbs c.natAbs (Ql _) h1;obtain ⟨d,hd⟩:∃ d,c=(P:Int)*d:=Wo.2 p2;have hall:tM P (Ft a c):=λk=>by
    rw [P9,hd]; exact V4 (Int.dvd_mul_right _ _) (Y7 _ _)
   have hP0:(P:Rat)≠0:=by
    have:((0:Nat):Rat)<(P:Rat):=Vo.2 (by omega);grind
   rcases GR p1 p3 _ b h (Ft a c) (Ql _) (λt=>by rw [Ri,W3,hc]) hall with e | e
   ·have:=hb P e;have:=Xy.2 this;rw [Xg] at this;have:=Ku (by decide) this;exact absurd this (by show ¬P<=1; omega)
   ·refine Qge hb n d (h.map (· / (P:Int))) ?_ (λe0=>h0 (by rw [hd,e0,Wb])) λt=>?_
    ·rw [hd,J5,Xg] at hn h1;have:2*d.natAbs<=P*d.natAbs:=Qz _ p1;omega
    ·have e1:U7 h t=(P:Rat)*U7 (h.map (· / (P:Int))) t:=by
      have:=Ce P 0 t (max h.length (h.map (· / (P:Int))).length) (h.map (· / (P:Int))) [] h (by omega) (by simp) (by omega) λk=>by
       have:=e k;have e2:(h.map (· / (P:Int))).getD k 0=h.getD k 0 / (P:Int):=by
        rw [Qi,Qi,Q6];cases h[k]? <;> simp
       rw [e2,Wa this]; simp
      rw [this]; simp only [U7]; push_cast; grind
     have:=hc t;rw [hd,e1] at this
     push_cast at this
     have h3:(P:Rat)*((d:Rat)*U7 a t)=(P:Rat)*(U7 b t*U7 (h.map (· / (P:Int))) t):=by grind
     have h4:=Yz.1 (show (P:Rat)*((d:Rat)*U7 a t-U7 b t*U7 (h.map (· / (P:Int))) t)=0 by grind);rcases h4 with h4 | h4
     ·exact absurd h4 hP0
     ·grind
theorem IQ:∀ u:Um,∃ c:Int,c≠0/\∃ h:Uj,∀ t,(c:Rat)*ev u t=U7 h t
 | []=>⟨1,by decide,[],λt=>by simp only [ev,U7]; grind⟩
 |
  a::u=>by
  obtain ⟨c,hc,h,hh⟩:=IQ u;refine ⟨c*(a.den:Int),Jm hc (by have:=a.den_nz; omega),(c*a.num)::Ft h (a.den:Int),λt=>?_⟩;have e:(a.den:Rat)*a=a.num:=by
   rw [W3];have:(a.num:Rat) / (((a.den:Int)):Rat)=a:=by rw [H6,Z4]
   have hd:(a.den:Rat)≠0:=by
    have:((0:Nat):Rat)<(a.den:Rat):=Vo.2 a.den_pos;grind
   have h2:(a.num:Rat) / (a.den:Rat)*(a.den:Rat)=a.num:=Zf hd;rw [show (a.num:Rat) / (a.den:Rat)=a from this] at h2; exact h2
  simp only [ev,U7];rw [Ri,<-hh]
  push_cast
  rw [<-e];have e3:(((a.den:Int)):Rat)=(a.den:Rat):=rfl;grind
theorem Qgd {a b:Uj} (hb:Prm b) (h:ZH (cz b) (cz a)):∃ h',U9 h'/\∀ t,U7 a t=U7 b t*U7 h' t:=by
 obtain ⟨u,hu⟩:=h;obtain ⟨c,hc,h,hh⟩:=IQ u;obtain ⟨h',e⟩:=Qge hb c.natAbs c h (Ql _) hc λt=>by
  have:=hu t;rw [U8,U8] at this;rw [this,<-hh]; grind
 exact ⟨trim h',Tj _,λt=>by rw [Oe,e]⟩
def sd (x0:Rat):Um->Um
 | []=>[]
 | _::p=>Se p (Dq x0 (sd x0 p))
theorem Qf5 (x0 x:Rat):∀ p,ev (sd x0 p) x=dq p x x0
 | []=>rfl
 | a::p=>by simp only [sd,dq]; rw [Gy,Gm,Qf5 x0 x p]
theorem bV (x0:Rat):∀ (g:Um) (n:Nat),(∀ j,n<j->g.getD j 0=0)->∀ j,n<=j->(sd x0 g).getD j 0=0
 | [],n,_,j,_=>by simp [sd]
 |
  a::p,0,h,j,_=>by
  have hp:∀ j,p.getD j 0=0:=λj=>by have:=h (j+1) (by omega); rwa [Q4] at this
  simp only [sd];rw [Rh,Ty,hp,bV x0 p 0 (λj _=>hp j) j (Qh _)]; grind
 |
  a::p,n+1,h,j,hj=>by
  have hp:∀ j,n<j->p.getD j 0=0:=λj hj=>by have:=h (j+1) (by omega); rwa [Q4] at this
  simp only [sd];rw [Rh,Ty,hp j (by omega),bV x0 p n hp j (by omega)]; grind
theorem mJ {K:Rat} (hK:0≤K):∀ (e:Nat) (g:Um) (pts:Uj) (M:Rat),pts.length=e+1->pts.Nodup->(∀ x∈pts,Fh (x:Rat)≤K)->(∀ k,e<k->g.getD k 0=0)->(∀ x∈pts,Fh (ev g (x:Rat))≤M)->∀ k,Fh (g.getD k 0)≤(2*K+3)^e*M
 | _,_,[],_,h,_,_,_,_=>by simp at h
 |
  0,g,x0::xs,M,_,_,_,hg,hM=>λk=>by
  have h0:=hM x0 (by simp);rw [Xf];cases k with
  |
   zero =>
   have e:ev g (x0:Rat)=g.getD 0 0:=by
    cases g with
    | nil=>rfl
    |
     cons a p =>
     have hp:=Dx (p:=p) λj=>by have:=hg (j+1) (by omega); rwa [Q4] at this
     simp only [ev,hp,Zs]; grind
   rw [<-e]; grind
  |
   succ k =>
   rw [hg (k+1) (by omega),Re];have:=Hp (ev g (x0:Rat)); grind
 |
  e+1,g,x0::xs,M,hl,hn,hb,hg,hM=>λk=>by
  have hx0:=hb x0 (by simp);have hM0:=hM x0 (by simp);have hMn:0<=M:=Zh (Hp _) hM0;rw [List.nodup_cons] at hn;have ih:=mJ hK e (sd x0 g) xs (2*M) (by simpa using hl) hn.2 (λx hx=>hb x (by simp [hx])) (λj hj=>bV _ g (e+1) hg j (by omega)) λx hx=>by
   have h1:=hM x (by simp [hx]);have h2:=IF (x:Rat) (x0:Rat) g;rw [<-Qf5] at h2;have hne:x-x0≠0:=λh=>hn.1 (by rw [show x0=x by omega]; exact hx)
   have h3:=KB hne;rw [Rat.intCast_sub] at h3;have h4:Fh (ev g (x:Rat)-ev g (x0:Rat))<=2*M:=by
    have:=T0 (ev g (x:Rat)) (-ev g (x0:Rat));rw [Ef,show ev g (x:Rat)+-ev g (x0:Rat)=ev g (x:Rat)-ev g (x0:Rat) by grind] at this;clear hM hb hg; grind
   rw [h2,Ib] at h4;have h5:=Zc h3 (Hp (ev (sd x0 g) x));clear hM hb hg; grind
  have e1:∀ t,ev g t=ev (Se [ev g x0] (Se (Dq (-x0) (sd x0 g)) (0::sd x0 g))) t:=λt=>by
   have:=IF t (x0:Rat) g;rw [<-Qf5] at this;simp only [Gy,Gm,ev];grind
  have hp1:1<=(2*K+3)^e:=(YT (R:=2*K+3) (x:=0) (by grind) (by rw [Re]; grind) e).2;have hpM:=Nv (x:=(2*K+3)^e) (y:=M) (by grind) hMn;have hpM1:=Zc hp1 hMn;rw [Z7,Dk e1 k,Rh,Rh,Ty];have a1:=ih k;have a2:Fh (-(x0:Rat)*(sd (x0:Rat) g).getD k 0)<=K*((2*K+3)^e*(2*M)):=G9 (by rw [Ef]; exact hx0) a1;have fin:∀ u v w:Rat,Fh u<=M->Fh v<=K*((2*K+3)^e*(2*M))->Fh w<=(2*K+3)^e*(2*M)->Fh (u+(v+w))<=(2*K+3)^e*(2*K+3)*M:=λu v w h1 h2 h3=>by
   have b1:=T0 u (v+w);have b2:=T0 v w;clear ih e1 hM hb hg a1 a2; grind
  refine fin _ _ _ ?_ a2 ?_
  ·cases k with
   | zero=>rw [Zs]; exact hM0
   | succ k=>rw [Q4,Ks,Re]; exact hMn
  ·cases k with
   | zero=>rw [Zs,Re]; clear ih e1 hM hb hg a1 a2 fin; grind
   | succ k=>rw [Q4]; exact ih k
theorem Qi0 {g:Um} {e:Nat} (hg:∀ k,e<k->g.getD k 0=0) (hz:¬∀ t,ev g t=0) {pts:Uj} (hn:pts.Nodup) (hr:∀ x∈pts,ev g (x:Rat)=0):pts.length≤e:=by
 rcases Za e pts.length with h | h
 ·exfalso;obtain ⟨K,hK,hb⟩:∃ K:Rat,0≤K/\∀ x∈pts,Fh (x:Rat)≤K:=by
   clear hn hr h
   induction pts with
   | nil=>exact ⟨0,by decide,λx hx=>by cases hx⟩
   |
    cons y pts ih =>
    obtain ⟨K,h1,h2⟩:=ih;refine ⟨K+Fh (y:Rat),by have:=Hp (y:Rat); grind,λx hx=>?_⟩;have hy:=Hp (y:Rat);rcases Qm.1 hx with rfl | hx
    ·grind
    ·have:=h2 x hx; grind
  refine hz (Dx λk=>?_);have:=mJ hK e g (pts.take (e+1)) 0 (by rw [Qt]; omega) (hn.sublist (List.take_sublist ..)) (λx hx=>hb x (Qo hx)) hg (λx hx=>by rw [hr x (Qo hx),Re]; exact Qp) k;have h2:=Hp (g.getD k 0);exact Qor (by grind)
 ·exact h
def spots:Uj:=(List.range 19).map λi:Nat=>(i:Int)-9
theorem spots_nd:spots.Nodup:=by decide
theorem rS:∀ x∈spots,x.natAbs≤9:=by decide
theorem CU {α:Type} (p:α->Bool):∀ l:List α,(l.filter p).length+(l.filter λx => !p x).length=l.length
 | []=>rfl
 |
  x::l=>by
  have:=CU p l;cases h:p x <;> simp [h] <;> omega
def geo:Nat->Nat
 | 0=>0
 | n+1=>1+9*geo n
theorem lF {B:Rat}:∀ (p:Uj),(∀ z∈p,Fh (z:Rat)≤B)->wO 9 (cz p)≤B*(geo p.length:Nat)
 | [],_=>by simp only [cz,X5,wO,geo,X4]; rw [show ((0:Nat):Rat)=0 from rfl]; grind
 |
  a::p,h=>by
  have h1:=lF p λz hz=>h z (Qg _ hz)
  have h2:=h a (Qx ..);simp only [cz,Z0,wO,geo,Q7] at *
  push_cast
  clear h; grind
theorem Qgm {m n:Nat} (h:m<=n):geo m<=geo n:=by
 induction h with
 | refl=>exact Ql _
 | step h ih=>simp only [geo]; omega
def pz:Uj->Int->Int
 | [],_=>0
 | a::p,x=>a+x*pz p x
theorem KL (x:Int):∀ p,U7 p (x:Rat)=((pz p x:Int):Rat)
 | []=>rfl
 | a::p=>by simp only [U7,pz,KL x p]; push_cast; rfl
theorem Sj (z:Int):Fh (z:Rat)=((z.natAbs:Nat):Rat):=by
 unfold Fh;rcases K8 z 0 with h | h
 ·have h1:(z:Rat)<((0:Int):Rat):=Jl.2 h;rw [if_pos (by simpa using h1)];have:(z.natAbs:Int)=-z:=by omega
  have:=congrArg (λu:Int=>(u:Rat)) this
  push_cast at this
  exact this.symm
 ·have h1:((0:Int):Rat)<=(z:Rat):=X9.2 h;have h1:(0:Rat)<=(z:Rat):=by simpa using h1
  rw [if_neg (by grind)];have:(z.natAbs:Int)=z:=by omega
  have:=congrArg (λu:Int=>(u:Rat)) this;exact this.symm
theorem ZA {p g h:Uj} {s:Nat} (hp:Bd s p) (hl:p.length<=10) (tp:U9 p) (tg:U9 g) (th:U9 h) (h0:p.length≠0) (e:∀ t,U7 p t=U7 g t*U7 h t):Bd (s+69) g:=by
 have lg:0<g.length:=by
  rcases Q0 g.length with e' | e'
  ·exact absurd (λt=>by rw [e,Dn e']; grind) (TB tp (by omega))
  ·exact e'
 have lh:0<h.length:=by
  rcases Q0 h.length with e' | e'
  ·exact absurd (λt=>by rw [e,Dn e']; grind) (TB tp (by omega))
  ·exact e'
 have hlen:=Mj tg th tp e lg lh;obtain ⟨q,hq⟩:=nmE (spots.filter λx => !decide (pz p x=0));have hr:(spots.filter λx=>decide (pz p x=0)).length<=9:=by
  refine Qi0 (g:=cz p) (e:=9) (λk hk=>?_) (λh=>TB tp (by omega) λt=>by rw [<-U8]; exact h t) (spots_nd.sublist List.filter_sublist) λx hx=>?_
  ·rw [Mh,Qi,Qw (by omega)]; rfl
  ·have:=(Yd.1 hx).2;rw [U8,KL,of_decide_eq_true this]; rfl
 have hc:=CU (λx=>decide (pz p x=0)) spots;rw [<-hq] at hc;have hsl:spots.length=19:=by decide
 have hB:∀ z∈p,Fh (z:Rat)≤((2^s:Nat):Rat):=λz hz=>by
  rw [Sj];have:=hp z hz;rw [Si] at this;exact Zm.2 (Yf this)
 have key:=mJ (K:=9) (by decide) 9 (cz g) (q.take 10) (((2^s*435848050:Nat)):Rat) (by rw [Qt]; omega) ((spots_nd.sublist (by rw [hq]; exact List.filter_sublist)).sublist (List.take_sublist ..)) (λx hx=>by
  have hx:=Qo hx;rw [hq] at hx;have:=rS x (Yd.1 hx).1;rw [Sj]
  exact_mod_cast Zm.2 this) (λk hk=>by rw [Mh,Qi,Qw (by omega)]; rfl) (λx hx=>by
  have hx:=Qo hx;rw [hq] at hx;obtain ⟨hx1,hx2⟩:=Yd.1 hx;have hne:pz p x≠0:=by simpa using hx2
  have e1:=e (x:Rat);rw [KL,KL,KL] at e1;have e2:pz p x=pz g x*pz h x:=by exact_mod_cast e1
  have hh:1<=(pz h x).natAbs:=by
   rcases Q0 (pz h x).natAbs with e' | e'
   ·exact absurd (by rw [e2,Int.natAbs_eq_zero.1 e',Wb]) hne
   ·exact e'
  have h3:(pz g x).natAbs<=(pz p x).natAbs:=by
   rw [e2,J5];exact Yn _ hh
  rw [U8,KL,Sj];refine Zh (Zm.2 h3) ?_;rw [<-Sj,<-KL,<-U8];refine Zh (TD (R:=9) (by
   have:=rS x hx1;rw [Sj]
   exact_mod_cast Zm.2 this) _) ?_
  refine Zh (lF p hB) ?_;have:2^s*geo p.length<=2^s*435848050:=Zt _ (Qc (Qgm hl) (by decide));have:=Zm.2 this
  push_cast at this ⊢
  exact this)
 refine NR λk=>?_
 have h1:=key k;rw [Mh,Sj] at h1;have e3:(2*(9:Rat)+3)^9*((2^s*435848050:Nat):Rat)=(((794280046581*(2^s*435848050)):Nat):Rat):=by
  rw [show (2*(9:Rat)+3)^9=794280046581 by grind]
  push_cast; rfl
 rw [e3] at h1;have h2:=Zm.1 h1;rw [Si];refine Z3 h2 ?_;have:794280046581*(2^s*435848050)=2^s*(794280046581*435848050):=by
  rw [Nat.mul_left_comm]
 rw [this,Xe];exact Nat.mul_lt_mul_of_pos_left (by decide) (Z2 (by decide))
theorem wM {l:Uj} {d:Int} (h:∀ z∈l,d∣z):d∣((Rr l:Nat):Int):=by
 have key:∀ (l:Uj) (g:Nat),d.natAbs∣g->(∀ z∈l,d∣z)->d.natAbs∣l.foldl (λg z=>Nat.gcd g z.natAbs) g:=by
  intro l
  induction l with
  | nil=>exact λg h _=>h
  | cons z l ih=>exact λg hg h=>ih _ (Nat.dvd_gcd hg (Xy.2 (h z (Qx ..)))) λu hu=>h u (Qg _ hu)
 have:=key l 0 (Nat.dvd_zero _) h;exact Xy.1 (by rw [Xg]; exact this)
theorem UH (p:Uj) (c:Int) (k:Nat):(p.map (· / c)).getD k 0=p.getD k 0 / c:=by
 rw [Qi,Qi,Q6];cases p[k]? <;> simp
theorem KE (p:Uj) (c:Int) (k:Nat):(Cy p c).getD k 0=p.getD k 0 / c:=by
 unfold Cy; rw [YL,UH]
theorem qX {p:Uj} {c:Int} (h:∀ z∈p,c∣z) (t:Rat):U7 p t=(c:Rat)*U7 (Cy p c) t:=by
 have:=Ce c 0 t (max p.length (Cy p c).length) (Cy p c) [] p (by omega) (by simp) (by omega) λk=>by
  rw [KE];have hd:c∣p.getD k 0:=by
   rw [Qi];cases e:p[k]? with
   | none=>exact Int.dvd_zero _
   | some z=>exact h z (Qa e)
  rw [Wa hd]; simp
 rw [this]; simp only [U7]; push_cast; grind
theorem XJ {c:Int} (h:c≠0):(c:Rat)≠0:=λe=>h (by exact_mod_cast e)
theorem QT {p q:Uj} {c:Rat} (tp:U9 p) (tq:U9 q) (hc:c≠0) (h:∀ t,U7 p t=c*U7 q t):p.length=q.length:=by
 have key:∀ {p q:Uj} {c:Rat},U9 p->U9 q->c≠0->(∀ t,U7 p t=c*U7 q t)->p.length<=q.length:=λ{p q c} tp tq hc h=>by
  rcases Za q.length p.length with e | e
  ·have h1:=H5 tp (by omega);have:=Dk (p:=cz p) (q:=Dq c (cz q)) (λt=>by rw [U8,Gm,U8,h]) (p.length-1);rw [Mh,Ty,Mh,Qi (l:=q),Qw (by omega)] at this;have:((p.getD (p.length-1) 0:Int):Rat)=0:=by rw [this]; simp
   exact absurd (by exact_mod_cast this) h1
  ·exact e
 refine Ka (key tp tq hc h) (key (c:=1 / c) tq tp (λe=>?_) λt=>?_)
 ·have:=Zf (a:=1) hc; rw [e] at this; grind
 ·rw [h]; have:=Zf (a:=1) hc; grind
theorem Cg {p:Uj} (tp:U9 p) (h:p.length≠0):U9 (Fg p)/\(Fg p).length=p.length/\Prm (Fg p)/\0<Fl (Fg p)/\(∀ s,Bd s p->Bd s (Fg p))/\Hk p≠0/\∀ t,U7 p t=(Hk p:Rat)*U7 (Fg p) t:=by
 have h0:=aM tp h;have e:Fg p=Cy p (Hk p):=by unfold Fg; rw [if_neg h]
 have h1:=qX (p:=p) (c:=Hk p) FY;have hl:=QT tp (QL p (Hk p)) (XJ h0) h1;have hcp:0<S8 p:=by
  have:=XD tp h;unfold S8 at this ⊢; omega
 rw [e];refine ⟨QL _ _,hl.symm,λd hd=>?_,?_,λs hs=>NT hs _,h0,h1⟩
 ·have h2:∀ z∈p,d*Hk p∣z:=λz hz=>by
   obtain ⟨i,hi⟩:=Zj.1 hz;have h3:=hd i;rw [KE,Qi,hi] at h3;obtain ⟨k,hk⟩:=h3;have h4:=FY z hz;refine ⟨k,?_⟩;have:z / Hk p*Hk p=z:=Int.ediv_mul_cancel h4;rw [<-this];rw [show z / Hk p=d*k from hk,Int.mul_right_comm]
  have h3:=wM h2;have h4:Hk p∣((Rr p:Nat):Int)/\((Rr p:Nat):Int)∣Hk p:=by
   unfold Hk S8; split
   ·exact ⟨W9.2 (K7 _),Int.dvd_neg.2 (K7 _)⟩
   ·exact ⟨K7 _,K7 _⟩
  obtain ⟨k,hk⟩:=V4 h3 h4.2;refine ⟨k,?_⟩;have:Hk p*(d*k)=Hk p*1:=by rw [W8,<-Int.mul_assoc,K9 (Hk p) d,<-hk]
  exact (Int.eq_of_mul_eq_mul_left h0 this).symm
 ·have h2:Fl (Cy p (Hk p))=Fl p / Hk p:=by unfold Fl; rw [<-hl,KE]
  have h3:Hk p∣Fl p:=FY _ (DV h);have h5:Fl p / Hk p*Hk p=Fl p:=Int.ediv_mul_cancel h3;rw [h2];have h6:=Eb tp h;rcases Kl (Fl p / Hk p) 0 with e1 | e1 | e1
  ·exfalso;by_cases hn:Fl p<0
   ·have:Hk p=-S8 p:=by unfold Hk; rw [if_pos hn]
    have:0<Fl p / Hk p*Hk p:=V7 e1 (by omega);omega
   ·have:Hk p=S8 p:=by unfold Hk; rw [if_neg hn]
    have:Fl p / Hk p*Hk p<0:=Int.mul_neg_of_neg_of_pos e1 (by omega);omega
  ·rw [e1] at h5; omega
  ·exact e1
theorem Qid {r:Uj} (tr:U9 r):∃ c:Rat,0<c/\∀ t,U7 r t=c*U7 (VP r) t:=by
 unfold VP;by_cases h:r.length=0
 ·rw [if_pos h]; exact ⟨1,by decide,λt=>by rw [Dn h,Dn rfl]; grind⟩
 ·rw [if_neg h];have h1:0<S8 r:=by
   have:=XD tr h;unfold S8 at this ⊢; omega
  have h2:((0:Int):Rat)<(S8 r:Rat):=Jl.2 h1;exact ⟨S8 r,by simpa using h2,qX Ep⟩
theorem XL (x:Int) (t:Rat):∀ i,U7 (mono i x) t=(x:Rat)*t^i
 | 0=>by simp only [mono,Wh,Ye,U7,Xf]; grind
 |
  i+1=>by
  have ih:=XL x t i;simp only [mono,J0,Xb,U7] at *;rw [ih,Z7]; push_cast; grind
theorem eO (x:Int) (b:Uj) (i k:Nat):(Gk (trim (mono i x)) b).getD k 0=if i<=k then x*b.getD (k-i) 0 else 0:=by
 have e:∀ t,U7 (Gk (trim (mono i x)) b) t=U7 (List.replicate i 0++b.map (x * ·)) t:=λt=>by
  rw [Gb,Oe,XL];have h2:∀ i,U7 (List.replicate i 0++b.map (x * ·)) t=t^i*((x:Rat)*U7 b t):=λi=>by
   induction i with
   |
    zero =>
    simp only [Wh,Ye,Xf];have:=Ce x 0 t (max b.length (b.map (x * ·)).length) b [] (b.map (x * ·)) (by omega) (by simp) (by omega) λk=>by
     rw [Qi,Qi,Q6];cases b[k]? <;> simp
    rw [this]; simp only [U7]; push_cast; grind
   | succ i ih=>simp only [J0,Xb,U7,ih,Z7]; push_cast; grind
  rw [h2]; grind
 rw [La e k,Qi,List.getElem?_append,Jb];by_cases h:i<=k
 ·rw [if_neg (by omega),if_pos h,Q6,Qi];cases b[k-i]? <;> simp
 ·rw [if_pos (by omega),if_neg h,Jv,if_pos (by omega)]; rfl
theorem Qg7 {p:Uj} {n:Nat} (tp:U9 p) (h:p.length<=n+1) (h0:p.getD n 0=0):p.length<=n:=by
 rcases Za n p.length with e | e
 ·have:=H5 tp (by omega);rw [show p.length-1=n by omega] at this;exact absurd h0 this
 ·exact e
theorem Qpm {b r:Uj} {i:Nat} (tr:U9 r) (h:r.length<=b.length+i) (hb:b.length≠0) {x:Int} (hx:x=if r.length=b.length+i then Fl r else 0):(str b (Fl b) i x r).length<b.length+i:=by
 have hl:=jY (c:=Fl b) (x:=x) (i:=i) (b:=b) (r:=r);have:=Qg7 (p:=str b (Fl b) i x r) (n:=b.length+i-1) (Fv _ _) (by omega) (by
  unfold str;rw [Om,P9,eO,if_pos (by omega),hx,show b.length+i-1-i=b.length-1 by omega]
  split
  ·rename_i he;unfold Fl;rw [he,Int.sub_eq_zero]
  ·rw [Qi (l:=r),Qw (by omega)]; simp)
 omega
theorem Qu8 (b r:Uj) (c:Int) (i:Nat) (x:Int) (t:Rat):(c:Rat)*U7 r t=(x:Rat)*t^i*U7 b t+U7 (str b c i x r) t:=by
 unfold str;rw [Na,Ri,Gb,Oe,XL]; grind
theorem Qih (b:Uj) (c:Int):∀ (i:Nat) (q r:Uj),∃ X:Um,∀ t,((c^i:Int):Rat)*U7 r t=ev X t*U7 b t+U7 (gC b c i (q,r)).2 t
 | 0,q,r=>⟨[],λt=>by simp only [gC,ev]; rw [Int.pow_zero]; push_cast; grind⟩
 |
  i+1,q,r=>by
  obtain ⟨x,hx⟩:=nmE (if r.length=b.length+i then Fl r else 0);obtain ⟨X,hX⟩:=Qih b c i (stq c i x q) (str b c i x r);obtain ⟨m,hm⟩:∃ m:Um,∀ t,ev m t=(x:Rat)*t^i:=⟨cz (mono i x),λt=>by rw [U8,XL]⟩;refine ⟨Se (Dq ((c^i:Int):Rat) m) X,λt=>?_⟩;rw [XO hx,Gy,Gm,hm];have h1:=hX t;have h2:=Qu8 b r c i x t;rw [Int.pow_succ]
  push_cast at h1 ⊢
  have:(c:Rat)^i*c*U7 r t=(c:Rat)^i*((c:Rat)*U7 r t):=by grind
  rw [this,h2]; grind
theorem aE {b:Uj} (hb:b.length≠0):∀ (i:Nat) (q r:Uj),U9 r->r.length<b.length+i->U9 (gC b (Fl b) i (q,r)).2/\(gC b (Fl b) i (q,r)).2.length<b.length
 | 0,q,r,tr,h=>⟨tr,h⟩
 |
  i+1,q,r,tr,h=>by
  rw [XO rfl];exact aE hb i _ _ (Fv _ _) (Qpm tr (by omega) hb rfl)
theorem Qig {b:Uj} {c:Int} {t:Nat} (hb:Bd t b) (hc:Fe c<=t):∀ (i u:Nat) (q r:Uj),i<=64->Bd u r->Bd (u+i*(t+8)) (gC b c i (q,r)).2
 | 0,u,q,r,_,h=>by simpa [gC] using h
 |
  i+1,u,q,r,hi,h=>by
  rw [XO rfl];have hx:Fe (if r.length=b.length+i then Fl r else 0)<=u:=by
   split
   ·exact M4 h
   ·rw [M5]; exact Qh _
  have:=Qig hb hc i (u+t+8) (stq c i (if r.length=b.length+i then Fl r else 0) q) (str b c i (if r.length=b.length+i then Fl r else 0) r) (by omega) (sV h hb hc hx (by omega));exact U0 this (by rw [Xa]; omega)
theorem LR {c:Int} (h:c<0):∀ k:Nat,(k % 2=1->c^k<0)/\(k % 2=0->0<c^k)
 | 0=>⟨λh=>by omega,λ_=>by rw [Int.pow_zero]; decide⟩
 |
  k+1=>by
  obtain ⟨i1,i2⟩:=LR h k;rw [Int.pow_succ];exact ⟨λhk=>V6 (i2 (by omega)) h,λhk=>V7 (i1 (by omega)) h⟩
theorem MC {a b:Uj} (ta:U9 a) (tb:U9 b) (hb:b.length≠0) (hl:a.length<=60):U9 (Ru a b)/\(Ru a b).length<b.length/\(∀ s,Bd s a->Bd s b->Bd (s+(a.length+1-b.length)*(s+8)) (Ru a b)) /\
 ∃ u v:Rat,0<u/\0<v/\∃ X:Um,∀ t,u*U7 a t=ev X t*U7 b t+v*U7 (Ru a b) t:=by
 obtain ⟨k,hk⟩:=nmE (a.length+1-b.length);have h1:U9 (Pz a b)/\(Pz a b).length<b.length:=aE hb _ _ _ ta (by omega);obtain ⟨X,hX⟩:=Qih b (Fl b) k [] a;have hX:∀ t,(((Fl b)^k:Int):Rat)*U7 a t=ev X t*U7 b t+U7 (Pz a b) t:=by unfold Pz; rw [<-hk]; exact hX
 have h2:=FU (a:=a) (b:=b) (r:=Pz a b) (n:=(Pz a b).length) (s:=(Pz a b).foldl (λm z=>m+Fe z) 0) h1.1 (Ql _) (λz hz=>by
  have key:∀ (l:Uj) (m:Nat),m≤l.foldl (λm z=>m+Fe z) m/\∀ z∈l,Fe z≤l.foldl (λm z=>m+Fe z) m:=by
   intro l
   induction l with
   | nil=>exact λm=>⟨Ql _,λz hz=>by cases hz⟩
   |
    cons y l ih =>
    intro m;obtain ⟨i1,i2⟩:=ih (m+Fe y);refine ⟨by simp only [Z9]; omega,λz hz=>?_⟩;simp only [Z9];rcases Qm.1 hz with rfl | hz
    ·omega
    ·exact i2 z hz
  exact (key _ 0).2 z hz)
 have h3:=LU (r:=Bj a b (Pz a b)) (n:=(Pz a b).length) h2.2.1 h2.2.2;refine ⟨h3.1,by unfold Ru; omega,λs ha hbs=>?_,?_⟩
 ·have h4:=Qig (c:=Fl b) hbs (M4 hbs) k s [] a (by omega) ha;have h5:=FU (a:=a) (b:=b) (n:=(Pz a b).length) h1.1 (Nat.le_refl _) (show Bd (s+k*(s+8)) (Pz a b) by unfold Pz; rw [<-hk]; exact h4);rw [<-hk];exact (LU h5.2.1 h5.2.2).2.2
 ·obtain ⟨v,vp,hv⟩:=Qid h2.1;have hc:=Eb tb hb;by_cases ht:k % 2=1/\Fl b<0
  ·have e1:Bj a b (Pz a b)=Mk (Pz a b):=by unfold Bj; rw [<-hk,if_pos ht]
   have hneg:(Fl b)^k<0:=(LR ht.2 k).1 ht.1;have h5:(((Fl b)^k:Int):Rat)<((0:Int):Rat):=Jl.2 hneg;have h5:(((Fl b)^k:Int):Rat)<0:=by simpa using h5
   refine ⟨-(((Fl b)^k:Int):Rat),v,by grind,vp,Dq (-1) X,λt=>?_⟩;have h6:=hX t;have h7:=hv t;rw [e1,FX] at h7;show _=_+v*U7 (VP (Bj a b (Pz a b))) t;rw [e1,<-h7,Gm]; grind
  ·have e1:Bj a b (Pz a b)=Pz a b:=by unfold Bj; rw [<-hk,if_neg ht]
   have hpos:0<(Fl b)^k:=by
    rcases Kc hc with h | h
    ·exact (LR h k).2 (by omega)
    ·exact Int.pow_pos h
   have h5:((0:Int):Rat)<(((Fl b)^k:Int):Rat):=Jl.2 hpos;refine ⟨(((Fl b)^k:Int):Rat),v,by simpa using h5,vp,X,λt=>?_⟩;have h7:=hv t;show _=_+v*U7 (VP (Bj a b (Pz a b))) t;rw [<-h7,e1,hX]
theorem Ey {p:Uj} (h1:p.length<=64) (h2:Bd 16777216 p):AO p=some p:=by
 unfold AO;rw [if_pos ⟨h1,Jq.2 λz hz=>Nat.ble_eq_true_of_le (h2 z hz)⟩]
theorem IW {a b:Uj} {g:Um} {c:Rat} (hc:c≠0) (h:∀ t,U7 a t=c*U7 b t):ZH g (cz a)↔ZH g (cz b):=by
 constructor
 ·rintro ⟨u,hu⟩
  refine ⟨Dq (1 / c) u,λt=>?_⟩;have h1:=hu t;rw [U8,h] at h1;rw [U8,Gm];have h2:1 / c*c=1:=Zf hc;have:U7 b t=1 / c*(c*U7 b t):=by grind
  rw [this,h1]; grind
 ·rintro ⟨u,hu⟩
  refine ⟨Dq c u,λt=>?_⟩;have h1:=hu t;rw [U8] at h1;rw [U8,Gm,h,h1]; grind
structure Gc (g a b:List Int):Prop where
 t:U9 g
 da:ZH (cz g) (cz a)
 db:ZH (cz g) (cz b)
 c:∃ U V,∀ t,U7 g t=ev U t*U7 a t+ev V t*U7 b t
 n:g.length≠0
theorem Gc.scale {g a b g' a' b':Uj} {x y z:Rat} (h:Gc g a b) (hx:x≠0) (hy:y≠0) (hz:z≠0) (tg:U9 g') (eg:∀ t,U7 g t=x*U7 g' t) (ea:∀ t,U7 a' t=y*U7 a t) (eb:∀ t,U7 b' t=z*U7 b t):Gc g' a' b':=by
 have hx1:1 / x*x=1:=Zf hx;have hy1:1 / y*y=1:=Zf hy;have hz1:1 / z*z=1:=Zf hz;have hg:∀ c,ZH (cz g) c->ZH (cz g') c:=λc ⟨u,hu⟩=>⟨Dq x u,λt=>by rw [hu,U8,U8,eg,Gm]; grind⟩
 obtain ⟨U,V,hc⟩:=h.c;refine ⟨tg,hg _ ((IW hy ea).2 h.da),hg _ ((IW hz eb).2 h.db),⟨Dq (1 / x*(1 / y)) U,Dq (1 / x*(1 / z)) V,λt=>?_⟩,?_⟩
 ·have h1:=hc t;have h2:U7 g' t=1 / x*U7 g t:=by rw [eg]; grind
  rw [h2,h1,Gm,Gm,ea,eb];generalize ev U t=u at *;generalize ev V t=v at *;grind
 ·rw [<-QT h.t tg hx eg]; exact h.n
theorem Qum:∀ d:Nat,1<=d->d+2<=3^d
 | 0,h=>by omega
 | 1,_=>by decide
 | d+2,_=>by have:=Qum (d+1) (by omega); rw [Zq]; omega
theorem tZ {k:Nat} {a b:Uj} (ta:U9 a) (tb:U9 b) (hb:b.length≠0) (hl:a.length<=60) (hbl:b.length<=60) (hr:Bd 16777216 (Ru a b)) (ih:∃ g,TJ k b (Ru a b)=some g/\Gc g b (Ru a b)):∃ g,TJ (k+1) a b=some g/\Gc g a b:=by
 obtain ⟨h1,h2,h3,u,v,up,vp,X,hX⟩:=MC ta tb hb hl;obtain ⟨g,e,hg⟩:=ih;refine ⟨g,?_,?_⟩
 ·simp only [TJ];rw [if_neg hb,Ey (by omega) hr]; exact e
 ·obtain ⟨U,V,hc⟩:=hg.c;obtain ⟨y,hy⟩:=hg.da;obtain ⟨z,hz⟩:=hg.db;have hu:1 / u*u=1:=Hb up;have hv:1 / v*v=1:=Hb vp;refine ⟨hg.t,⟨Dq (1 / u) (Se (G0 X y) (Dq v z)),λt=>?_⟩,hg.da,⟨Dq (u / v) V,Se U (Dq (-1 / v) (G0 V X)),λt=>?_⟩,hg.n⟩
  ·have a1:=hX t; have a2:=hy t; have a3:=hz t;rw [U8,U8] at a2 a3;rw [U8,U8,Gm,Gy,Ff,Gm];have:U7 a t=1 / u*(u*U7 a t):=by grind
   rw [this,a1,a2,a3]; grind
  ·have a1:=hX t; have a2:=hc t;rw [Gm,Gy,Gm,Ff,a2];have:U7 (Ru a b) t=1 / v*(v*U7 (Ru a b) t):=by grind
   rw [this,show v*U7 (Ru a b) t=u*U7 a t-ev X t*U7 b t by grind,Jt,Jt,Jt];grind
theorem iC {k:Nat} {a:Uj} (ta:U9 a) (ha:a.length≠0):∃ g,TJ (k+1) a []=some g/\Gc g a [] :=
 ⟨a,rfl,ta,dvd_refl _,⟨[],λt=>by simp only [cz,X5,ev]; grind⟩,⟨[1],[],λt=>by rw [Rw]; simp only [ev]; grind⟩,ha⟩
theorem TY {s:Nat}:∀ (k:Nat) (a b:Uj),U9 a->U9 b->b.length<k->b.length<a.length->a.length<=60->Bd s a->Bd s b->(s+8)*3^(a.length-1)<=16777216->∃ g,TJ k a b=some g/\Gc g a b
 | 0,_,_,_,_,h,_,_,_,_,_=>by omega
 |
  k+1,a,b,ta,tb,hk,hab,hl,ba,bb,hs=>by
  by_cases hb:b.length=0
  ·rw [Qj hb]; exact iC ta (by omega)
  ·obtain ⟨h1,h2,h3,_⟩:=MC ta tb hb hl;have h3:=h3 s ba bb;obtain ⟨m,hm⟩:=nmE (a.length-b.length);have e1:a.length+1-b.length=m+1:=by omega
   rw [e1] at h3;have e2:s+(m+1)*(s+8)+8=(m+2)*(s+8):=by
    rw [show m+2=(m+1)+1 by omega,Xa (m+1)]; omega
   have e3:(m+2)*(s+8)*3^(b.length-1)<=(s+8)*3^(a.length-1):=by
    rw [show a.length-1=m+(b.length-1) by omega,Xe,<-Xv,Zp (s+8)];exact Qz _ (Qz _ (Qum m (by omega)))
   have e4:s+(m+1)*(s+8)<=16777216:=by
    have:(m+2)*(s+8)<=(m+2)*(s+8)*3^(b.length-1):=Yn _ (Z2 (by decide));omega
   refine tZ ta tb hb hl (by omega) (U0 h3 e4) (TY (s:=s+(m+1)*(s+8)) k b (Ru a b) tb h1 (by omega) h2 (by omega) (U0 bb (by omega)) h3 ?_);rw [e2]; omega
def Szz (n s:Nat):Prop:=n<=10/\2*(s+8)*3^(n-1)<=16777216
theorem Qj4 {n s:Nat} (hz:Szz n s) {a b:Uj} (ta:U9 a) (tb:U9 b) (la:a.length<=n) (lb:b.length<=n) (ba:Bd s a) (bb:Bd s b) (h0:a.length≠0\/b.length≠0):∃ g,TJ 66 a b=some g/\Gc g a b:=by
 obtain ⟨hn,hz⟩:=hz;have hp:∀ l,l<=n->(s+8)*3^(l-1)<=8388608:=λl hl=>by
  have:(s+8)*3^(l-1)<=(s+8)*3^(n-1):=Zt _ (Zr (by decide) (by omega));rw [Xv] at hz; omega
 rcases Za b.length a.length with h | h
 ·exact TY 66 a b ta tb (by omega) h (by omega) ba bb (by have:=hp a.length la; omega)
 ·by_cases hb:b.length=0
  ·rw [Qj hb]; exact iC ta (by omega)
  ·obtain ⟨h1,h2,h3,_⟩:=MC ta tb hb (by omega);have h3:=h3 s ba bb;have h4:(a.length+1-b.length)*(s+8)<=1*(s+8):=Qz _ (by omega);have h5:=hp b.length lb;have h6:(s+8)*1<=(s+8)*3^(b.length-1):=Zt _ (Z2 (by decide));refine tZ ta tb hb (by omega) (by omega) (U0 h3 (by omega)) (TY (s:=2*s+8) 65 b (Ru a b) tb h1 (by omega) h2 (by omega) (U0 bb (by omega)) (U0 h3 (by omega)) ?_);rw [show 2*s+8+8=2*(s+8) by omega,Xv]; omega
theorem qW:Fg []=[]:=rfl
theorem FW {a:Uj} (ta:U9 a):U9 (Fg a)/\(Fg a).length=a.length/\(∀ s,Bd s a->Bd s (Fg a))/\∃ c:Rat,c≠0/\∀ t,U7 a t=c*U7 (Fg a) t:=by
 by_cases h:a.length=0
 ·rw [Qj h];exact ⟨rfl,rfl,λs _=>VL,1,by decide,λt=>by rw [qW]; grind⟩
 ·obtain ⟨h1,h2,h3,h4,h5,h6,h7⟩:=Cg ta h;exact ⟨h1,h2,h5,_,XJ h6,h7⟩
theorem WU {n s:Nat} (hz:Szz n s) {a b:Uj} (ta:U9 a) (tb:U9 b) (la:a.length<=n) (lb:b.length<=n) (ba:Bd s a) (bb:Bd s b) (h0:a.length≠0\/b.length≠0):∃ g,JZ a b=some g/\Gc g a b/\Prm g/\0<Fl g:=by
 obtain ⟨a1,a2,a3,x,xn,ax⟩:=FW ta;obtain ⟨b1,b2,b3,y,yn,bx⟩:=FW tb;obtain ⟨g,e,hg⟩:=Qj4 hz a1 b1 (by omega) (by omega) (a3 s ba) (b3 s bb) (by omega);obtain ⟨g1,g2,g3,g4,g5,g6,g7⟩:=Cg hg.t hg.n;refine ⟨Fg g,?_,hg.scale (XJ g6) xn yn g1 g7 ax bx,g3,g4⟩;unfold JZ; rw [e]; rfl
theorem Qci {a:Uj} (ta:U9 a):JZ [] a=some (Fg (Fg a)):=by
 unfold JZ;rw [qW];by_cases h:(Fg a).length=0
 ·have e:Fg a=[]:=Qj h;rw [e]; rfl
 ·have e:Ru [] (Fg a)=[]:=by
   have e1:Pz [] (Fg a)=[]:=by unfold Pz; rw [show ([]:Uj).length+1-(Fg a).length=0 by simp; omega]; rfl
   unfold Ru;rw [e1];unfold Bj
   split <;> rfl
  have:TJ 66 [] (Fg a)=some (Fg a):=by
   show (if (Fg a).length=0 then _ else _)=_;rw [if_neg h,e]; rfl
  rw [this]; rfl
theorem Qgk {n s:Nat} (hz:Szz n s) {a b:Uj} (ta:U9 a) (tb:U9 b) (la:a.length<=n) (lb:b.length<=n) (ba:Bd s a) (bb:Bd s b) (h0:a.length≠0):∃ g,yX a b=some g/\Gc g a b/\Prm g/\0<Fl g:=by
 obtain ⟨a1,a2,a3,x,xn,ax⟩:=FW ta;obtain ⟨b1,b2,b3,y,yn,bx⟩:=FW a1;obtain ⟨g,e,hg,h1,h2⟩:=WU hz b1 tb (by omega) lb (b3 s (a3 s ba)) bb (by omega);refine ⟨g,?_,hg.scale (x:=1) (y:=x*y) (z:=1) (by decide) (λh=>(Yz.1 h).elim xn yn) (by decide) hg.t (λt=>by grind) (λt=>by rw [ax,bx]; grind) (λt=>by grind),h1,h2⟩;unfold yX;rw [Qci ta]; exact e
theorem iP:∀ {p q:Um} {m n:Nat},HD p m->HD q n->(G0 p q).getD (m+n) 0=p.getD m 0*q.getD n 0
 | [],q,m,n,h,_=>absurd (by simp) h.1
 |
  a::p,q,0,n,h,h'=>by
  have h1:∀ k,p.getD k 0=0:=λk=>by have:=h.2 (k+1) (by omega); rwa [Q4] at this
  simp only [G0];rw [Rh,Ty,Zs,Zz];cases n with
  | zero=>rw [Zs]; grind
  | succ n=>rw [Q4,TO h1]; grind
 |
  a::p,q,m+1,n,h,h'=>by
  have ih:=iP (p:=p) (q:=q) (m:=m) ⟨by have:=h.1; rwa [Q4] at this,λk hk=>by have:=h.2 (k+1) (by omega); rwa [Q4] at this⟩ h';simp only [G0];rw [Rh,Ty,show m+1+n=(m+n)+1 by omega,Q4,h'.2 _ (by omega),ih,Q4]; grind
theorem uD {a b c:Uj} (ta:U9 a) (tb:U9 b) (tc:U9 c) (h:∀ t,U7 c t=U7 a t*U7 b t) (la:0<a.length) (lb:0<b.length):Fl c=Fl a*Fl b:=by
 have h1:=TA ta la;have h2:=TA tb lb;have h3:=iP h1 h2;have hl:=Mj ta tb tc h la lb;rw [<-Dk (p:=cz c) (λt=>by rw [Ff,U8,U8,U8,h]),Mh,Mh,Mh,show a.length-1+(b.length-1)=c.length-1 by omega] at h3;unfold Fl; exact_mod_cast h3
theorem Rx {a b c:Uj} (tc:U9 c) (hc:c.length≠0) (h:∀ t,U7 c t=U7 a t*U7 b t):0<a.length/\0<b.length:=by
 constructor
 ·rcases Q0 a.length with e | e
  ·exact absurd (λt=>by rw [h,Dn e]; grind) (TB tc (by omega))
  ·exact e
 ·rcases Q0 b.length with e | e
  ·exact absurd (λt=>by rw [h,Dn e]; grind) (TB tc (by omega))
  ·exact e
theorem yZ {b:Uj} (tb:U9 b) (hb:b.length≠0):∀ (i:Nat) (a q h:Uj),U9 a->U9 h->(∀ t,U7 a t=U7 b t*U7 h t)->a.length<b.length+i->i<=q.length->(∀ j,j<i->q.getD j 0=0)->∃ q',yQ b i a q=some q'/\q'.length=q.length/\∀ t,U7 q' t=U7 q t+U7 h t
 |
  0,a,q,h,ta,th,e,hl,_,_=>by
  have ha:a.length=0:=by
   rcases Q0 a.length with e' | e'
   ·exact e'
   ·obtain ⟨p1,p2⟩:=Rx ta (by omega) e;have:=Mj tb th ta e p1 p2; omega
  refine ⟨q,by simp only [yQ]; rw [if_pos ha],rfl,λt=>?_⟩;have:∀ t,U7 h t=0:=λt=>by
   have:=pZ (p:=cz b) (q:=cz h) (r:=[]) (λh0=>TB tb (by omega) λt=>by rw [<-U8]; exact h0 t) (λt=>by rw [U8,U8,<-e,Dn ha]; simp only [ev]; grind) t;rwa [U8] at this
  rw [this]; grind
 |
  i+1,a,q,h,ta,th,e,hl,hq,h0=>by
  simp only [yQ];by_cases hlt:a.length<b.length+i
  ·rw [if_pos hlt];exact yZ tb hb i a q h ta th e hlt (by omega) λj hj=>h0 j (by omega)
  ·rw [if_neg hlt];obtain ⟨p1,p2⟩:=Rx ta (by omega) e;have hln:=Mj tb th ta e p1 p2;have hld:=uD tb th ta e p1 p2;have hlb:=Eb tb hb;rw [hld,if_pos (Int.mul_emod_right _ _),Ja _ hlb];have hli:h.length=i+1:=by omega
   have e2:∀ t,U7 (Mx a (Gk (trim (mono i (Fl h))) b)) t=U7 b t*U7 (Mx h (mono i (Fl h))) t:=λt=>by
    rw [Na,Na,Gb,Oe,e]; grind
   have hl2:(Mx a (Gk (trim (mono i (Fl h))) b)).length<b.length+i:=by
    have hl:=eS (i:=i) (x:=Fl h) (b:=b) (a:=a);unfold sta at hl;have:=Qg7 (p:=Mx a (Gk (trim (mono i (Fl h))) b)) (n:=b.length+i-1) (Fv _ _) (by omega) (by
     rw [Om,eO,if_pos (by omega),show b.length+i-1-i=b.length-1 by omega,show b.length+i-1=a.length-1 by omega];have:Fl a=a.getD (a.length-1) 0:=rfl;rw [<-this,hld];unfold Fl;rw [K9,Int.sub_eq_zero])
    omega
   obtain ⟨q',h1,h2,h3⟩:=yZ tb hb i _ (q.set i (Fl h)) (Mx h (mono i (Fl h))) (Fv _ _) (Fv _ _) e2 hl2 (by simp; omega) λj hj=>by
    rw [Qi,Yi,if_neg (by omega),<-Qi];exact h0 j (by omega)
   refine ⟨q',h1,by rw [h2,Jo],λt=>?_⟩;rw [h3,jO q i _ t (by omega),h0 i (by omega),Na,XL]
   push_cast; grind
theorem Qiq {a b h:Uj} {s:Nat} (ta:U9 a) (tb:U9 b) (th:U9 h) (ha:a.length≠0) (la:a.length<=10) (ba:Bd s a) (hs:s+69<=16777216) (e:∀ t,U7 a t=U7 b t*U7 h t):XI a b=some h:=by
 obtain ⟨p1,p2⟩:=Rx ta ha e;have hln:=Mj tb th ta e p1 p2;obtain ⟨q,h1,h2,h3⟩:=yZ tb (by omega) (a.length+1-b.length) a (List.replicate (a.length+1-b.length) 0) h ta th e (by omega) (by simp) λj _=>B9 _ _
 have h4:trim q=h:=aP (Tj _) th λt=>by rw [Oe,h3,qJ]; grind
 unfold XI;rw [if_neg (by omega),h1];show AO (trim q)=_;rw [h4];exact Ey (by omega) (U0 (ZA ba la ta th tb ha λt=>by rw [e]; grind) (by omega))
structure Pr1 (p:List Int):Prop where
 t:U9 p
 m:Prm p
 l:0<Fl p
theorem Pr1.n {p:Uj} (h:Pr1 p):p.length≠0:=λe=>by
 have:=h.l;rw [Qj e] at this;exact absurd this (by decide)
theorem Pr1.one {p:Uj} (h:Pr1 p) (hl:p.length<2):p=[1]:=by
 have hn:=h.n;obtain ⟨c,rfl⟩:∃ c,p=[c]:=Kr.1 (by omega);have h1:=h.m c λk=>by cases k <;> simp
 have h2:0<c:=h.l;have:=Int.le_of_dvd (by decide) h1;rw [show c=1 by omega]
theorem Qoj {p g h:Uj} (hp:Prm p) (e:∀ t,U7 p t=U7 g t*U7 h t):Prm h:=λd hd=>by
 refine hp d λk=>?_
 have:=La (p:=p) (q:=Gk g h) (λt=>by rw [e,Gb]) k;rw [this];have e2:∀ t,U7 (Gk g h) t=(d:Rat)*U7 (Gk g (h.map (· / d))) t:=λt=>by
  have h1:U7 h t=(d:Rat)*U7 (h.map (· / d)) t:=by
   have:=Ce d 0 t (max h.length (h.map (· / d)).length) (h.map (· / d)) [] h (by omega) (by simp) (by omega) λk=>by
    rw [UH,Wa (hd k)]; simp
   rw [this]; simp only [U7]; push_cast; grind
  rw [Gb,Gb,h1]; grind
 have:=La (p:=Gk g h) (q:=Ft (Gk g (h.map (· / d))) d) (λt=>by rw [e2,Ri]; grind) k;rw [this,P9]; exact Y7 _ _
theorem Qoi {p g h:Uj} (hp:Pr1 p) (hg:0<Fl g) (tg:U9 g) (th:U9 h) (e:∀ t,U7 p t=U7 g t*U7 h t):Pr1 h:=by
 obtain ⟨p1,p2⟩:=Rx hp.t hp.n e;have:=uD tg th hp.t e p1 p2;refine ⟨th,Qoj hp.m e,?_⟩;have hl:=hp.l;rw [this] at hl;rcases Kl (Fl h) 0 with h1 | h1 | h1
 ·have:=V6 hg h1; omega
 ·rw [h1] at hl; omega
 ·exact h1
structure Sqp (p g q:List Int):Prop where
 pp:Pr1 p
 pg:Pr1 g
 pq:Pr1 q
 e:∀ t,U7 p t=U7 g t*U7 q t
 c:∃ U V,∀ t,U7 g t=ev U t*U7 p t+ev V t*dv (cz p) t
 d:∃ z,∀ t,dv (cz p) t=U7 g t*ev z t
theorem Sqp.num {p g q:Uj} (h:Sqp p g q) {d:Um} (h1:ZH d (cz q)) (h2:ZH d (Nz (cz q))):∃ c:Rat,c≠0/\∀ t,ev d t=c:=by
 obtain ⟨U,V,hc⟩:=h.c;have hpow:=sqf (k:=1) (a:=cz p) (g:=cz g) (q:=cz q) (d:=d) (U:=U) (V:=V) (by decide) (λt=>by rw [U8,U8,U8,h.e]) (λt=>by rw [U8,U8,hc]; grind) h1 h2;rcases CO d with h3 | ⟨m,_,h3⟩
 ·obtain ⟨u,hu⟩:=h1;exact absurd (λt=>by rw [<-U8,hu,h3]; grind) (TB h.pq.t (by have:=h.pq.n; omega))
 ·obtain rfl:=qK h3 (TA h.pg.t (by have:=h.pg.n; omega)) hpow;refine ⟨d.getD 0 0,h3.1,λt=>?_⟩;cases d with
  | nil=>exact absurd (by simp) h3.1
  |
   cons c l =>
   have:=Dx (p:=l) λk=>by have:=h3.2 (k+1) (by omega); rwa [Q4] at this
   simp only [ev,this,Zs]; grind
theorem Sqp.bez {p g q:Uj} (h:Sqp p g q):∃ X Y,∀ t,ev X t*ev (cz q) t+ev Y t*dv (cz q) t=1:=by
 obtain ⟨d,U,V,h1,h2,h3⟩:=Qgj (cz q) (Nz (cz q));obtain ⟨c,hc,hd⟩:=h.num h1 h2;refine ⟨Dq (1 / c) U,Dq (1 / c) V,λt=>?_⟩;have h5:=h3 t;rw [hd,Ti] at h5;have h4:1 / c*c=1:=Zf hc;rw [Gm,Gm];have:1 / c*ev U t*ev (cz q) t+1 / c*ev V t*dv (cz q) t=1 / c*(ev U t*ev (cz q) t+ev V t*dv (cz q) t):=by grind
 rw [this,<-h5,h4]
theorem Qjy {n s:Nat} (h:Szz n s):s<=8388600:=by
 have:2*(s+8)*1<=2*(s+8)*3^(n-1):=Zt _ (Z2 (by decide));have:=h.2; omega
theorem sY {s:Nat} {p:Uj} (h:Bd s p) (hl:p.length<=10):Bd (s+4) (Gu p):=zM h (t:=4) (by omega)
theorem iH {n s:Nat} (hz:Szz n (s+73)) {p:Uj} (pp:Pr1 p) (l2:2<=p.length) (lp:p.length<=n) (bp:Bd (s+69) p) {p0 h0:Uj} (b0:Bd s p0) (l0:p0.length<=10) (t0:U9 p0) (th0:U9 h0) (z0:p0.length≠0) (e0:∀ t,U7 p0 t=U7 h0 t*U7 p t) :
 ∃ g q,AO (Gu p)=some (Gu p)/\JZ p (Gu p)=some g/\XI p g=some q/\Sqp p g q/\g.length<p.length:=by
 have hn:=hz.1;have hs:=Qjy hz;have bd:=sY bp (by omega);have ld:=M6 p;have td:U9 (Gu p):=Fv _ _;obtain ⟨g,e1,hg,m,l⟩:=WU hz pp.t td lp (by omega) (U0 bp (by omega)) bd (.inl pp.n);obtain ⟨q,tq,eq⟩:=Qgd m hg.da;have hdnz:(Gu p).length≠0:=λh=>by
  have h1:=Bi p (p.length-2);rw [Qj h,show p.length-2+1=p.length-1 by omega] at h1;have h2:p.getD (p.length-1) 0≠0:=H5 pp.t (by omega);rcases Ya.1 (h1.symm.trans (by simp)) with h3 | h3
  ·exact h2 h3
  ·omega
 have pg:Pr1 g:=⟨hg.t,m,l⟩;have hql:=Qiq (s:=s+69) pp.t hg.t tq pp.n (by omega) bp (by omega) eq;refine ⟨g,q,Ey (by omega) (U0 bd (by omega)),e1,hql,⟨pp,pg,Qoi pp l hg.t tq eq,eq,?_,?_⟩,?_⟩
 ·obtain ⟨U,V,hc⟩:=hg.c;exact ⟨U,V,λt=>by rw [hc,Od]⟩
 ·obtain ⟨z,hz⟩:=hg.db;exact ⟨z,λt=>by rw [<-Od,<-U8,hz,U8]⟩
 ·obtain ⟨z,tz,ez⟩:=Qgd m hg.db;obtain ⟨q1,q2⟩:=Rx td hdnz ez;have:=Mj hg.t tz td ez q1 q2;omega
theorem Qn7:Sqp [1] [1] [1]:=by
 have p1:Pr1 [1]:=⟨rfl,λd hd=>by have:=hd 0; rwa [Zs] at this,by decide⟩;have e1:∀ t,U7 [1] t=1:=λt=>by simp only [U7]; push_cast; grind
 exact ⟨p1,p1,p1,λt=>by rw [e1]; grind,⟨[1],[],λt=>by rw [e1,Rw]; simp only [ev]; grind⟩,⟨[],λt=>by simp only [cz,Z0,X5,dv,ev]; grind⟩⟩
structure Okp (n s:Nat) (p:List Int):Prop where
 z:Szz n (s+73)
 t:U9 p
 nz:p.length≠0
 l:p.length<=n
 b:Bd s p
theorem Okp.pr {n s:Nat} {p:Uj} (h:Okp n s p):Pr1 (Fg p)/\(Fg p).length=p.length/\Bd s (Fg p):=by
 obtain ⟨h1,h2,h3,h4,h5,_⟩:=Cg h.t h.nz;exact ⟨⟨h1,h3,h4⟩,h2,h5 s h.b⟩
theorem YB {n s:Nat} {p:Uj} (h:Okp n s p):∃ g q,Pf p=some q/\Sqp (Fg p) g q:=by
 obtain ⟨pp,hl,hb⟩:=h.pr;have hn:=h.z.1;have:=h.l;unfold Pf;by_cases h2:(Fg p).length<2
 ·rw [if_pos h2,pp.one h2]; exact ⟨[1],[1],rfl,Qn7⟩
 ·rw [if_neg h2];obtain ⟨g,q,h3,h4,h5,h6,_⟩:=iH h.z pp (by omega) (by omega) (U0 hb (by omega)) (p0:=Fg p) (h0:=[1]) hb (by omega) pp.t rfl pp.n λt=>by simp only [U7]; push_cast; grind
  exact ⟨g,q,by rw [h3]; show (JZ (Fg p) (Gu (Fg p))).bind _=_; rw [h4]; exact h5,h6⟩
inductive LW:List Int->List (List Int)->Prop
 | nil:LW [1] []
 | cons {g h w:List Int} {ws:List (List Int)} (hs:Sqp g h w) (hl:LW h ws):LW g (w::ws)
theorem Qt7 {g:Uj} {ws:Uk} (h:LW g ws):∀ t,U7 g t=ev (Ob (ws.map cz)) t:=by
 induction h with
 | nil=>intro t; simp only [X5,Ob,U7]; rw [Rw]; push_cast; grind
 | cons hs hl ih=>intro t; simp only [Z0,Ob]; rw [Ff,U8,hs.e,ih]; grind
theorem eA {g:Uj} {w v:Uj} {ws:Uk} (h:LW g (w::v::ws)):∃ f,U9 f/\∀ t,U7 w t=U7 f t*U7 v t:=by
 cases h with
 |
  @cons _ h _ _ hs hl =>
  cases hl with
  |
   @cons _ h2 _ _ hs2 hl2 =>
   obtain ⟨X,Y,hb⟩:=hs2.bez;obtain ⟨z,hz⟩:=hs.d;have hd:=Qpj (a:=cz g) (g:=cz h) (q:=cz w) (z:=z) (r:=cz v) (X:=X) (Y:=Y) (n:=h.length-1) (λt=>by rw [U8,U8,U8,hs.e]) (λt=>by rw [hz,U8]) (TA hs.pg.t (by have:=hs.pg.n; omega)) hb
    ⟨G0 (cz h2) (cz w),λt=>by rw [Ff,U8,U8,U8,U8,hs.e,hs2.e]; grind⟩
   obtain ⟨f,tf,ef⟩:=Qgd hs2.pq.m hd;exact ⟨f,tf,λt=>by rw [ef]; grind⟩
theorem uO {g w:Uj} {ws:Uk} (h:LW g (w::ws)):∀ v∈w::ws,Pr1 v/\ZH (cz v) (cz w):=by
 have key:∀ (ws:Uk) (g w:Uj),LW g (w::ws)->∀ v∈w::ws,Pr1 v/\ZH (cz v) (cz w):=by
  intro ws
  induction ws with
  |
   nil =>
   intro g w h v hv;rw [Qk.1 hv];cases h with
   | cons hs hl=>exact ⟨hs.pq,dvd_refl _⟩
  |
   cons u ws ih =>
   intro g w h v hv;have hn:=eA h;cases h with
   |
    @cons _ h _ _ hs hl =>
    rcases Qm.1 hv with rfl | hv
    ·exact ⟨hs.pq,dvd_refl _⟩
    ·obtain ⟨i1,i2⟩:=ih h u hl v hv;obtain ⟨f,_,hf⟩:=hn;exact ⟨i1,dvd_trans i2 ⟨cz f,λt=>by rw [U8,U8,U8,hf]; grind⟩⟩
 exact key ws g w h
theorem lay_ok {n s:Nat} (hz:Szz n (s+73)) {p0:Uj} (b0:Bd s p0) (l0:p0.length<=10) (t0:U9 p0) (z0:p0.length≠0):∀ (k:Nat) (g h0:Uj),Pr1 g->g.length<=k->g.length<=n->U9 h0->(∀ t,U7 p0 t=U7 h0 t*U7 g t)->∃ ws,HE k g=some ws/\LW g ws
 | 0,g,_,pg,hk,_,_,_=>absurd pg.n (by omega)
 |
  k+1,g,h0,pg,hk,hn,th0,e0=>by
  simp only [HE];by_cases h2:g.length<2
  ·rw [if_pos h2,pg.one h2]; exact ⟨[],rfl,.nil⟩
  ·rw [if_neg h2];have bg:Bd (s+69) g:=ZA b0 l0 t0 pg.t th0 z0 λt=>by rw [e0]; grind
   obtain ⟨h,w,h3,h4,h5,h6,h7⟩:=iH hz pg (by omega) hn bg b0 l0 t0 th0 z0 e0;obtain ⟨ws,i1,i2⟩:=lay_ok hz b0 l0 t0 z0 k h (Gk h0 w) h6.pg (by omega) (by omega) (Hu _ _) λt=>by rw [e0,Gb,h6.e]; grind
   refine ⟨w::ws,?_,.cons h6 i2⟩;rw [h3];show (JZ g (Gu g)).bind _=_;rw [h4];show (XI g h).bind _=_;rw [h5];show (HE k h).bind _=_;rw [i1]; rfl
theorem Qf6 {s:Nat} {p0:Uj} (b0:Bd s p0) (l0:p0.length≤10) (t0:U9 p0) (z0:p0.length≠0) (hs:s+69+69≤16777216):∀ (ws:Uk) (g h0:Uj),LW g ws->U9 h0->(∀ t,U7 p0 t=U7 h0 t*U7 g t)->∃ fs,EE ws=some fs/\Lay (ws.map cz) (fs.map cz)/\∀ f∈fs,U9 f
 | [],g,_,_,_,_=>⟨[],rfl,trivial,λf hf=>by cases hf⟩
 |
  [w],g,_,hl,_,_=>by
  cases hl with
  | cons hs hl=>exact ⟨[w],rfl,λt=>rfl,λf hf=>by rw [Qk.1 hf]; exact hs.pq.t⟩
 |
  w::v::ws,g,h0,hl,th0,e0=>by
  obtain ⟨f,tf,ef⟩:=eA hl;cases hl with
  |
   @cons _ h _ _ hs1 hl =>
   have hpv:=(uO hl v (Qx ..)).1;obtain ⟨fs,i1,i2,i3⟩:=Qf6 b0 l0 t0 z0 hs (v::ws) h (Gk h0 w) hl (Hu _ _) λt=>by rw [e0,Gb,hs1.e]; grind
   have ew:∀ t,U7 p0 t=U7 w t*U7 (Gk h0 h) t:=λt=>by rw [e0,Gb,hs1.e]; grind
   have bw:Bd (s+69) w:=ZA b0 l0 t0 hs1.pq.t (Hu _ _) z0 ew;obtain ⟨p1,p2⟩:=Rx t0 z0 ew;have lw:=Mj hs1.pq.t (Hu _ _) t0 ew p1 p2;have hq:=Qiq (s:=s+69) hs1.pq.t hpv.t tf hs1.pq.n (by omega) bw hs λt=>by rw [ef]; grind
   refine ⟨f::fs,?_,⟨λt=>by rw [U8,U8,U8,ef],i2⟩,λx hx=>?_⟩
   ·show (XI w v).bind _=_;rw [hq];show (EE (v::ws)).bind _=_;rw [i1]; rfl
   ·rcases Qm.1 hx with rfl | hx
    ·exact tf
    ·exact i3 x hx
def M9:Uk->Uj
 | []=>[1]
 | [f]=>f
 | f::_::l=>Gk f (M9 l)
theorem fH:∀ (fs:Uk) (t:Rat),ev (PX (fs.map cz)) t=U7 (M9 fs) t
 | [],t=>by simp only [X5,PX,M9,U7]; rw [Rw]; push_cast; grind
 | [f],t=>by simp only [Z0,X5,PX,M9]; rw [U8]
 | f::g::l,t=>by simp only [Z0,PX,M9]; rw [Ff,U8,Gb,fH l]
theorem Nm (t:Rat):U7 [1] t=1:=by simp only [U7]; push_cast; grind
theorem IN:∀ {w:Uj} {ws fs:Uk},Lay ((w::ws).map cz) (fs.map cz)->(∀ f∈fs,U9 f)->(∀ v∈w::ws,U9 v)->∃ E,U9 E/\∀ t,U7 w t=U7 (M9 fs) t*U7 E t
 |
  w,[],[f],h,_,_=>⟨[1],rfl,λt=>by
  have:=h t;rw [U8,U8] at this;rw [this,Nm]; simp only [M9]; grind⟩
 |
  w,[v],[f,f2],h,_,hw=>⟨v,hw v (by simp),λt=>by
  have:=h.1 t;rw [U8,U8,U8] at this;rw [this]; simp only [M9]; rw [Gb,Nm]; grind⟩
 |
  w,v::x::l,f::f2::fs,h,hf,hw=>by
  obtain ⟨E,hE,e⟩:=IN (w:=x) (ws:=l) (fs:=fs) h.2.2 (λg hg=>hf g (by simp [hg])) (λg hg=>hw g (by simp at hg ⊢; exact .inr (.inr hg)));refine ⟨Gk f2 E,Hu _ _,λt=>?_⟩;have a1:=h.1 t;have a2:=h.2.1 t;rw [U8,U8,U8] at a1 a2;have e2:U7 (M9 (f::f2::fs)) t=U7 f t*U7 (M9 fs) t:=by simp only [M9]; rw [Gb]
  rw [a1,a2,e,e2,Gb]; grind
 | w,[],[],h,_,_=>h.elim
 | w,[],_::_::_,h,_,_=>h.elim
 | w,[v],[],h,_,_=>h.elim
 | w,[v],[f],h,_,_=>h.2.elim
 | w,[v],_::_::_::_,h,_,_=>h.2.elim
 | w,v::x::l,[f],h,_,_=>h.2.elim
 | w,v::x::l,[],h,_,_=>h.elim
theorem YH {s:Nat} {p0:Uj} (b0:Bd s p0) (l0:p0.length≤10) (t0:U9 p0) (z0:p0.length≠0) (hs:s+69≤16777216):∀ (fs:Uk) (i:Nat) (a E:Uj),i % 2=0->U9 a->U9 E->(∀ f∈fs,U9 f)->(∀ t,U7 p0 t=U7 a t*U7 (M9 fs) t*U7 E t)->∃ o,UO i a fs=some o/\U9 o/\∀ t,U7 o t=U7 a t*U7 (M9 fs) t
 | [],i,a,E,hi,ta,_,_,_=>⟨a,rfl,ta,λt=>by simp only [M9]; rw [Nm]; grind⟩
 |
  [f],i,a,E,hi,ta,tE,tf,hE=>by
  have e1:∀ t,U7 p0 t=U7 (Gk a f) t*U7 E t:=λt=>by rw [hE,Gb]; rfl
  have b1:=ZA b0 l0 t0 (Hu a f) tE z0 e1;obtain ⟨p1,p2⟩:=Rx t0 z0 e1;have hl:=Mj (Hu a f) tE t0 e1 p1 p2;refine ⟨Gk a f,?_,Hu _ _,λt=>by rw [Gb]; rfl⟩;simp only [UO];rw [if_pos hi,Ey (by omega) (U0 b1 (by omega))]; rfl
 |
  f::g::fs,i,a,E,hi,ta,tE,tf,hE=>by
  have e0:∀ t,U7 (M9 (f::g::fs)) t=U7 f t*U7 (M9 fs) t:=λt=>by simp only [M9]; rw [Gb]
  have e1:∀ t,U7 p0 t=U7 (Gk a f) t*U7 (Gk (M9 fs) E) t:=λt=>by rw [hE,e0,Gb,Gb]; grind
  have b1:=ZA b0 l0 t0 (Hu a f) (Hu _ _) z0 e1;obtain ⟨p1,p2⟩:=Rx t0 z0 e1;have hl:=Mj (Hu a f) (Hu _ _) t0 e1 p1 p2;obtain ⟨o,o1,o2,o3⟩:=YH b0 l0 t0 z0 hs fs (i+2) (Gk a f) E (by omega) (Hu _ _) tE (λx hx=>tf x (by simp [hx])) λt=>by rw [hE,e0,Gb]; grind
  refine ⟨o,?_,o2,λt=>by rw [o3,e0,Gb]; grind⟩;have h1:UO (i+1) (Gk a f) (g::fs)=UO (i+2) (Gk a f) fs:=by
   show (if (i+1) % 2=0 then _ else _)=_;rw [if_neg (by omega)]
  show (if i % 2=0 then (AO (Gk a f)).bind λq=>UO (i+1) q (g::fs) else _)=_;rw [if_pos hi,Ey (by omega) (U0 b1 (by omega))];exact h1.trans o1
structure Parts (p q o:List Int):Prop where
 sq:∃ g,Sqp (Fg p) g q
 ws:∃ ws:List (List Int),(∀ w∈ws,Pr1 w/\ZH (cz w) (cz q))/\∀ t,U7 (Fg p) t=ev (Ob (ws.map cz)) t
 oq:ZH (cz o) (cz q)
 ot:U9 o
 oh:∃ h,U9 h/\∀ t,U7 (Fg p) t=U7 o t*U7 h t
 os:∃ S,∀ t,U7 (Fg p) t=U7 o t*(ev S t*ev S t)
theorem Qhx {n s:Nat} {p:Uj} (h:Okp n s p):∃ q o,Pf p=some q/\nV p=some o/\Parts p q o:=by
 obtain ⟨pp,hl,hb⟩:=h.pr;have hn:=h.z.1;have hpl:=h.l;have hs:=Qjy h.z;obtain ⟨g,q,hq,sq⟩:=YB h;obtain ⟨ws,w1,w2⟩:=lay_ok h.z hb (by omega) pp.t pp.n 66 (Fg p) [1] pp (by omega) (by omega) rfl λt=>by rw [Nm]; grind
 obtain ⟨fs,f1,f2,f3⟩:=Qf6 hb (by omega) pp.t pp.n (by omega) ws (Fg p) [1] w2 rfl λt=>by rw [Nm]; grind
 have hw:=Qt7 w2;have hfirst:(∀ w∈ws,Pr1 w/\ZH (cz w) (cz q))/\∃ E,U9 E/\∀ t,U7 q t=U7 (M9 fs) t*U7 E t:=by
  cases ws with
  |
   nil =>
   have e:fs=[]:=by
    cases fs with
    | nil=>rfl
    | cons f l=>exact f2.elim
   subst e;exact ⟨(λw hw=>by cases hw),q,sq.pq.t,λt=>by simp only [M9]; rw [Nm]; grind⟩
  |
   cons w ws =>
   have hwq:w=q:=by
    have w3:(if (Fg p).length<2 then some [] else (AO (Gu (Fg p))).bind λd=>(JZ (Fg p) d).bind λh=>(XI (Fg p) h).bind λw=>(HE 65 h).bind λl=>some (w::l))=some (w::ws):=w1;have hlen:¬(Fg p).length<2:=λh2=>by
     rw [if_pos h2] at w3;injection w3 with w3;cases w3
    rw [if_neg hlen] at w3;unfold Pf at hq;rw [if_neg hlen] at hq;obtain ⟨d,d1,w3⟩:=Qd.1 w3;obtain ⟨h,d2,w3⟩:=Qd.1 w3;obtain ⟨w',d3,w3⟩:=Qd.1 w3;obtain ⟨l,d4,w3⟩:=Qd.1 w3;rw [d1] at hq;have hq:(JZ (Fg p) d).bind (λg=>XI (Fg p) g)=some q:=hq;rw [d2] at hq;have hq:XI (Fg p) h=some q:=hq;rw [d3] at hq;injection hq with hq;injection w3 with w3;injection w3 with w3 _;rw [<-w3,hq]
   subst hwq;have hall:=uO w2;exact ⟨hall,IN f2 f3 λv hv=>(hall v hv).1.t⟩
 obtain ⟨ha,E,tE,hE⟩:=hfirst;obtain ⟨o,o1,o2,o3⟩:=YH hb (by omega) pp.t pp.n (by omega) fs 0 [1] (Gk E g) rfl rfl (Hu _ _) f3 λt=>by rw [Nm,Gb,sq.e,hE]; grind
 have o3:∀ t,U7 o t=U7 (M9 fs) t:=λt=>by rw [o3,Nm]; grind
 refine ⟨q,o,hq,?_,⟨g,sq⟩,⟨ws,ha,hw⟩,⟨cz E,λt=>by rw [U8,U8,U8,hE,o3]⟩,o2,⟨Gk E g,Hu _ _,λt=>by rw [sq.e,hE,o3,Gb]; grind⟩,?_⟩
 ·unfold nV;rw [if_neg pp.n,w1];show (EE ws).bind _=_;rw [f1]; exact o1
 ·obtain ⟨S,hS⟩:=eW f2;exact ⟨S,λt=>by rw [hw,hS,fH,o3]⟩
theorem dB {s:Nat}:∀ (k:Nat) (a b:Uj),U9 a->U9 b->b.length≠0->b.length<k->b.length<a.length->a.length<=60->Bd s a->Bd s b->(s+8)*3^(a.length-1)<=16777216->(∀ d,ZH d (cz a)->ZH d (cz b)->∃ c:Rat,c≠0/\∀ t,ev d t=c)->∃ l,tR k a b=some (b::l)/\SCl (cz a) (cz b) (l.map cz)
 | 0,_,_,_,_,_,h,_,_,_,_,_,_=>by omega
 |
  k+1,a,b,ta,tb,hb,hk,hab,hl,ba,bb,hs,hd=>by
  obtain ⟨h1,h2,h3,u,v,up,vp,X,hX⟩:=MC ta tb hb hl;have h3:=h3 s ba bb;obtain ⟨m,hm⟩:=nmE (a.length-b.length);have e1:a.length+1-b.length=m+1:=by omega
  rw [e1] at h3;have e2:s+(m+1)*(s+8)+8=(m+2)*(s+8):=by
   rw [show m+2=(m+1)+1 by omega,Xa (m+1)]; omega
  have e3:(m+2)*(s+8)*3^(b.length-1)<=(s+8)*3^(a.length-1):=by
   rw [show a.length-1=m+(b.length-1) by omega,Xe,<-Xv,Zp (s+8)];exact Qz _ (Qz _ (Qum m (by omega)))
  have e4:s+(m+1)*(s+8)<=16777216:=by
   have:(m+2)*(s+8)<=(m+2)*(s+8)*3^(b.length-1):=Yn _ (Z2 (by decide));omega
  simp only [tR];rw [if_neg hb,Ey (by omega) (U0 h3 e4)];show ∃ l,((tR k b (Mk (Ru a b))).bind λl=>some (b::l))=some (b::l)/\_;have lneg:(Mk (Ru a b)).length<=(Ru a b).length:=XG _;by_cases hr:(Ru a b).length=0
  ·have e:Mk (Ru a b)=[]:=Qj (by omega);rw [e];refine ⟨[],?_,?_⟩
   ·obtain ⟨j,rfl⟩:∃ j,k=j+1:=⟨k-1,by omega⟩;rfl
   ·obtain ⟨c,hc,hcc⟩:=hd (cz b) ⟨Dq (1 / u) X,λt=>by
     have:=hX t;rw [Dn hr] at this;have hu:1 / u*u=1:=Hb up;rw [U8,U8,Gm];have:U7 a t=1 / u*(u*U7 a t):=by grind
     rw [this,hX,Dn hr]; grind⟩ (dvd_refl _)
    exact .base hc hcc
  ·have tn:U9 (Mk (Ru a b)):=Fv _ _;have hn0:(Mk (Ru a b)).length≠0:=λh0=>by
    have:=QT (c:=-1) h1 tn (by decide) λt=>by rw [FX]; grind
    omega
   obtain ⟨l,i1,i2⟩:=dB (s:=s+(m+1)*(s+8)) k b (Mk (Ru a b)) tb tn hn0 (by omega) (by omega) (by omega) (U0 bb (by omega)) (PS h3) (by rw [e2]; omega) λd d1 d2=>by
    refine hd d ?_ d1;obtain ⟨y,hy⟩:=d1;obtain ⟨z,hz⟩:=d2;have hu:1 / u*u=1:=Hb up;refine ⟨Dq (1 / u) (Se (G0 X y) (Dq (-v) z)),λt=>?_⟩;have a1:=hX t; have a2:=hy t; have a3:=hz t;rw [U8] at a2 a3;rw [FX] at a3;rw [U8,Gm,Gy,Ff,Gm];have:U7 a t=1 / u*(u*U7 a t):=by grind
    rw [this,a1,a2,show U7 (Ru a b) t=-(ev d t*ev z t) by grind]; grind
   refine ⟨Mk (Ru a b)::l,by rw [i1]; rfl,?_⟩;rw [Z0];exact .step (q:=X) up vp (λt=>by rw [U8,U8,U8,hX,FX]; clear i2 i1 hd h3 hs; grind) i2
theorem WW (x:Rat):∀ (l:Uk) (n:Nat) (s:Int),(l.foldl (Pj λp=>H7 p x) (n,s)).1=n+tc x s (l.map cz)
 | [],n,s=>rfl
 |
  p::l,n,s=>by
  simp only [Z9,Z0,tc,Pj];rw [Nc,U8]
  split
  ·exact WW x l n s
  ·rw [WW x l]
   split <;> omega
theorem QA (l:Uk) (x:Rat):Co l x=vv (l.map cz) x:=by
 have:=WW x l 0 0;unfold Co Cn vv;rw [this]; omega
theorem Qfb {n s:Nat} (hz:Szz n (s+73)) {P g q:Uj} (sq:Sqp P g q) (lq:q.length<=n) (bq:Bd (s+69) q):∃ d,AO (Gu q)=some d/\∃ l,tR 66 q (Fg d)=some l/\GH (cz q) ((q::l).map cz)/\(q.length<2->l=[]):=by
 have hn:=hz.1;have hs:=Qjy hz;have bd:=sY bq (by omega);have ld:=M6 q;refine ⟨Gu q,Ey (by omega) (U0 bd (by omega)),?_⟩;have hq0:=sq.pq.n;by_cases h2:q.length<2
 ·have e:Fg (Gu q)=[]:=by rw [Qj (l:=Gu q) (by omega)]; rfl
  rw [e];refine ⟨[],rfl,.inl ⟨1,by decide,λt=>?_,rfl⟩,λ_=>rfl⟩;rw [U8,sq.pq.one h2,Nm]
 ·have hdnz:(Gu q).length≠0:=λh=>by
   have h1:=Bi q (q.length-2);rw [Qj h,show q.length-2+1=q.length-1 by omega] at h1;have h3:q.getD (q.length-1) 0≠0:=H5 sq.pq.t (by omega);rcases Ya.1 (h1.symm.trans (by simp)) with h4 | h4
   ·exact h3 h4
   ·omega
  obtain ⟨p1,p2,p3,p4,p5,p6,p7⟩:=Cg (p:=Gu q) (Fv _ _) hdnz;have hdl:Fl (Gu q)=Fl q*((q.length-1:Nat):Int):=by
   have hld:(Gu q).length=q.length-1:=by
    rcases Za (Gu q).length (q.length-1) with h | h
    ·have h1:=Bi q (q.length-2);rw [Qi,Qw (by omega),show q.length-2+1=q.length-1 by omega] at h1;have h3:q.getD (q.length-1) 0≠0:=H5 sq.pq.t (by omega);rcases Ya.1 (h1.symm.trans (by simp)) with h4 | h4
     ·exact absurd h4 h3
     ·omega
    ·omega
   unfold Fl;rw [hld,Bi,show q.length-1-1+1=q.length-1 by omega]
  have hfac:0<Hk (Gu q):=by
   have hlp:0<Fl (Gu q):=by rw [hdl]; exact Int.mul_pos sq.pq.l (by omega)
   have hc:=XD (p:=Gu q) (Fv _ _) hdnz;unfold Hk;rw [if_neg (by omega)];unfold S8 at hc ⊢; omega
  have hfq:((0:Int):Rat)<(Hk (Gu q):Rat):=Jl.2 hfac;have hfq:(0:Rat)<(Hk (Gu q):Rat):=by simpa using hfq
  have hff:1 / (Hk (Gu q):Rat)*(Hk (Gu q):Rat)=1:=Hb hfq;have hz2:=hz.2;have hp3:(s+73+8)*3^(q.length-1)<=16777216:=by
   have:(s+73+8)*3^(q.length-1)<=(s+73+8)*3^(n-1):=Zt _ (Zr (by decide) (by omega));rw [Xv] at hz2; omega
  obtain ⟨l,h3,h4⟩:=dB (s:=s+73) 66 q (Fg (Gu q)) sq.pq.t p1 (by omega) (by omega) (by omega) (by omega) (U0 bq (by omega)) (p5 _ bd) hp3 λd d1 d2=>sq.num d1 (by
   obtain ⟨z,hz⟩:=d2;exact ⟨Dq (Hk (Gu q)) z,λt=>by
    have:=hz t;rw [U8] at this;rw [Ti,<-Od,p7,this,Gm]; grind⟩)
  refine ⟨Fg (Gu q)::l,h3,.inr ⟨cz (Fg (Gu q)),l.map cz,1 / (Hk (Gu q):Rat),E5 (by decide) hfq,λt=>?_,h4,rfl⟩,λh=>absurd h h2⟩;rw [U8,<-Od,p7 t]; grind
theorem chain_ok {n s:Nat} {p:Uj} (h:Okp n s p):∃ q l,Pf p=some q/\Ls p=some (q::l)/\GH (cz q) ((q::l).map cz)/\(q.length<2->l=[]):=by
 obtain ⟨pp,hl,hb⟩:=h.pr;have hn:=h.z.1;have hpl:=h.l;obtain ⟨g,q,hq,sq⟩:=YB h;have e1:∀ t,U7 (Fg p) t=U7 q t*U7 g t:=λt=>by rw [sq.e]; grind
 obtain ⟨p1,p2⟩:=Rx pp.t pp.n e1;have hll:=Mj sq.pq.t sq.pg.t pp.t e1 p1 p2;obtain ⟨d,d1,l,d2,d3⟩:=Qfb h.z sq (by omega) (ZA hb (by omega) pp.t sq.pq.t sq.pg.t pp.n e1);refine ⟨q,l,hq,?_,d3⟩;unfold Ls;rw [hq];show (if q.length=0 then none else _)=_;rw [if_neg sq.pq.n,d1];show (tR 66 q (Fg d)).bind _=_;rw [d2]; rfl
structure Gr (D M k:Nat) (q:Rat):Prop where
 u:∃ u:Int,q*((D*2^k:Nat):Rat)=(u:Rat)
 b:Fh q<=(M:Rat)
 d:0<D
theorem nat_pos {n:Nat} (h:0<n):(0:Rat)<(n:Rat):=by
 have:((0:Nat):Rat)<(n:Rat):=Vo.2 h;simpa using this
theorem OW {D M k:Nat} {q:Rat} (h:Gr D M k q):Gr D M (k+1) q:=by
 obtain ⟨u,hu⟩:=h.u;refine ⟨⟨u*2,?_⟩,h.b,h.d⟩;rw [Zq,<-Xv]
 push_cast at hu ⊢
 rw [<-hu]; grind
theorem Qgq {D M k:Nat} {a b:Rat} (ha:Gr D M k a) (hb:Gr D M k b):Gr D M (k+1) ((a+b) / 2):=by
 obtain ⟨u,hu⟩:=ha.u;obtain ⟨v,hv⟩:=hb.u;have h2:(a+b) / 2*2=a+b:=Hb (by decide);refine ⟨⟨u+v,?_⟩,?_,ha.d⟩
 ·rw [Zq,<-Xv]
  push_cast at hu hv ⊢
  rw [<-hu,<-hv];generalize (a+b) / 2=c at *;generalize (D:Rat)*2^k=z at *;have:c*(z*2)=(c*2)*z:=by grind
  rw [this,h2]; grind
 ·have h3:=ha.b;have h4:=hb.b;rw [Mb] at *;constructor <;> grind
theorem Qtv {D M k:Nat} {q:Rat} (h:Gr D M k q):q.den<=D*2^k:=by
 obtain ⟨u,hu⟩:=h.u;have hp:0<D*2^k:=J1 h.d (Z2 (by decide));have e:q=Rat.divInt u ((D*2^k:Nat):Int):=by
  rw [<-H6,<-hu];have hz:=nat_pos hp;rw [show ((((D*2^k:Nat):Int)):Rat)=((D*2^k:Nat):Rat) from rfl];rw [Jt];have:=Wq ((D*2^k:Nat):Rat) (by grind);generalize ((D*2^k:Nat):Rat)=z at *;have:q*z*z⁻¹=q*(z*z⁻¹):=by grind
  rw [this,‹z*z⁻¹=1›]; grind
 rw [e,Wj,if_neg (by omega),Xg];exact Jy _ _
theorem DJ {a b k:Nat} {z:Int} (h:z.natAbs<=a*(b*2^k)):Fe z<=Fe (a:Int)+Fe (b:Int)+k:=by
 have h1:Fe (a:Int)<=Fe (a:Int):=Ql _;have h2:Fe (b:Int)<=Fe (b:Int):=Ql _;rw [Si] at h1 h2 ⊢;rw [Xg] at h1 h2;rw [Xe,Xe];have h3:a*b<2^Fe (a:Int)*2^Fe (b:Int):=Nat.mul_lt_mul_of_lt_of_le h1 (Yf h2) (Z2 (by decide));have h4:=Xl h3 (show 0<2^k from Z2 (by decide));rw [<-Xv] at h; omega
theorem OK {D M k B:Nat} {q:Rat} (h:Gr D M k q) (hM:0<M) (hs:Fe (D:Int)+Fe (M:Int)+k<=B):Qs B q:=by
 have hd:=Qtv h;have hden:=nat_pos q.den_pos;have h1:(q.num.natAbs:Rat)<=((M*(D*2^k):Nat):Rat):=by
  have e:(q.num:Rat)=q*(q.den:Rat):=by
   have:(q.num:Rat) / (((q.den:Int)):Rat)=q:=by rw [H6,Z4]
   have h2:(q.num:Rat) / (q.den:Rat)*(q.den:Rat)=q.num:=Zf (by grind);rw [show (q.num:Rat) / (q.den:Rat)=q from this] at h2; exact h2.symm
  rw [<-Sj,e];have h3:=G9 (x:=q) (y:=(q.den:Rat)) (b:=((D*2^k:Nat):Rat)) h.b (by
   have:Fh (q.den:Rat)=(q.den:Rat):=by unfold Fh; rw [if_neg (by grind)]
   rw [this]; exact Zm.2 hd)
  push_cast at h3 ⊢; exact h3
 have h1:=Zm.1 h1;refine ⟨?_,?_⟩
 ·have:=DJ (z:=q.num) h1; omega
 ·have:=DJ (z:=(q.den:Int)) (a:=M) (b:=D) (k:=k) (by
   rw [Xg];exact Qc hd (Nat.le_mul_of_pos_left _ hM))
  omega
theorem mN (a b:Rat):mid a b=(a+b) / 2:=by
 unfold mid;rw [<-H6];have ha:(a.num:Rat)=a*(a.den:Rat):=by
  have:(a.num:Rat) / (((a.den:Int)):Rat)=a:=by rw [H6,Z4]
  have h2:(a.num:Rat) / (a.den:Rat)*(a.den:Rat)=a.num:=Zf (by have:=nat_pos a.den_pos; grind);rw [show (a.num:Rat) / (a.den:Rat)=a from this] at h2; exact h2.symm
 have hb:(b.num:Rat)=b*(b.den:Rat):=by
  have:(b.num:Rat) / (((b.den:Int)):Rat)=b:=by rw [H6,Z4]
  have h2:(b.num:Rat) / (b.den:Rat)*(b.den:Rat)=b.num:=Zf (by have:=nat_pos b.den_pos; grind);rw [show (b.num:Rat) / (b.den:Rat)=b from this] at h2; exact h2.symm
 have pa:=nat_pos a.den_pos;have pb:=nat_pos b.den_pos;rw [Kb,Xw,Xw,Xw,Xw,ha,hb];rw [show (((a.den:Int)):Rat)=(a.den:Rat) from rfl,show (((b.den:Int)):Rat)=(b.den:Rat) from rfl,show (((2:Int)):Rat)=2 from rfl];generalize (a.den:Rat)=x at *;generalize (b.den:Rat)=y at *;have hxy:=Il (Il pa pb) (show (0:Rat)<2 by decide);have h1:(a*x*y+b*y*x) / (x*y*2)*(x*y*2)=a*x*y+b*y*x:=Hb hxy;have h2:(a+b) / 2*2=a+b:=Hb (by decide);generalize (a*x*y+b*y*x) / (x*y*2)=c at *;generalize (a+b) / 2=d at *;have h3:(x*y*2)*(c-d)=0:=by grind
 rcases Yz.1 h3 with h4 | h4 <;> grind
theorem ML (a b:Rat):LA a b=a-b:=by
 unfold LA;rw [Rat.sub_def',<-Rat.divInt_ofNat]
 push_cast; rfl
theorem dA {a b:Rat}:Ha a b=0↔a=b:=by
 constructor
 ·intro h;have h1:¬a<b:=λh'=>by have:=Nl.2 h'; omega
  have h2:¬b<a:=λh'=>by have:=L9.2 h'; omega
  grind
 ·intro h; subst h; exact Ej a
theorem MQ {a b:Rat}:Ha a b<=0↔a<=b:=by
 constructor
 ·intro h;have h2:¬b<a:=λh'=>by have:=L9.2 h'; omega
  grind
 ·intro h;have h2:¬0<Ha a b:=λh'=>by have:=L9.1 h'; grind
  omega
theorem PO {a b:Rat}:0<=Ha a b↔b<=a:=by
 constructor
 ·intro h;have h2:¬a<b:=λh'=>by have:=Nl.2 h'; omega
  grind
 ·intro h;have h2:¬Ha a b<0:=λh'=>by have:=Nl.1 h'; grind
  omega
theorem Tw (a b:Rat):Ha a b=1/\b<a\/Ha a b=0/\a=b\/Ha a b=-1/\a<b:=by
 have hb:=QJ a b;rcases (show Ha a b=1\/Ha a b=0\/Ha a b=-1 by omega) with h | h | h
 ·exact .inl ⟨h,L9.1 (by omega)⟩
 ·exact .inr (.inl ⟨h,dA.1 h⟩)
 ·exact .inr (.inr ⟨h,Nl.1 (by omega)⟩)
theorem uI (p:Uj) (x:Rat):low p x=Ph (cz p) x:=by
 unfold low Ph;rw [Nc,Nc,U8,Od]
theorem B6 {t:Tm} (h:t.lo<t.hi) (q:Rat):Fj t q=cq (cz t.p) t.lo t.hi q:=by
 have hp:t.point=false:=by
  unfold Tm.point;have:¬0<=Ha t.lo t.hi:=λh'=>by have:=PO.1 h'; grind
  simp [this]
 unfold Fj cq;rw [hp,if_neg (by decide)];have e1:(Ha q t.lo<=0)=(q<=t.lo):=propext MQ;have e2:(0<Ha q t.hi)=(t.hi<q):=propext L9;rw [Nc,uI,<-U8];simp only [e1,e2]
theorem Ml {t:Tm}:t.point=true↔t.hi<=t.lo:=by
 unfold Tm.point;rw [decide_eq_true_iff]; exact PO
theorem A1 {t:Tm} (h:t.lo=t.hi) (q:Rat):Fj t q=Ha t.lo q:=by
 have hp:t.point=true:=Ml.2 (by rw [h]; exact Qp);unfold Fj; rw [if_pos hp]
theorem Qs8 {c:Rat->Int} {x:Rat} (h:∀ q,c q=Ha x q):Cut c where
 val q:=by rw [h]; have:=QJ x q; omega
 mono q r hqr h1:=by
  rw [h] at h1 ⊢;rcases Tw x q with ⟨e,e'⟩ | ⟨e,e'⟩ | ⟨e,e'⟩
  ·exact absurd e h1
  ·rcases Tw x r with ⟨f,f'⟩ | ⟨f,f'⟩ | ⟨f,f'⟩ <;> grind
  ·rcases Tw x r with ⟨f,f'⟩ | ⟨f,f'⟩ | ⟨f,f'⟩ <;> grind
 up q h1:=by
  rw [h] at h1;have h2:=L9.1 (show 0<Ha x q by omega);have h3:(x+q) / 2*2=x+q:=Hb (by decide);have h4:=L9.2 (show (x+q) / 2<x by grind);have:=QJ x ((x+q) / 2);exact ⟨(x+q) / 2,by grind,by rw [h]; omega⟩
 dn q h1:=by
  rw [h] at h1;have h2:=Nl.1 (show Ha x q<0 by omega);have h3:(x+q) / 2*2=x+q:=Hb (by decide);have h4:=Nl.2 (show x<(x+q) / 2 by grind);have:=QJ x ((x+q) / 2);exact ⟨(x+q) / 2,by grind,by rw [h]; omega⟩
 lo:=⟨x-1,by
  rw [h];have h4:=L9.2 (show x-1<x by grind);have:=QJ x (x-1); omega⟩
 hi:=⟨x+1,by
  rw [h];have h4:=Nl.2 (show x<x+1 by grind);have:=QJ x (x+1); omega⟩
def lim (t:Tm):Nat:=if t.point=true then 3300000 else 1000000
theorem jV {t:Tm} (h:t.point=false):lim t=1000000:=by simp [lim,h]
theorem Qt0 (t:Tm):1000000<=lim t:=by unfold lim; split <;> omega
theorem Qt1 (t:Tm):lim t<=3300000:=by unfold lim; split <;> omega
structure Va (t:Tm):Prop where
 i:t.lo=t.hi/\U7 t.p t.lo=0\/∃ L,Vt (cz t.p) L t.lo t.hi
 tr:U9 t.p
 n:t.p.length<=9
 n2:2<=t.p.length
 b:Bd 3300000 t.p
 bi:t.point=false->Bd 1260 t.p
 sc:t.point=false->∃ (l:List (List Int)) (P g:List Int),tR 66 t.p (Fg (Gu t.p))=some l/\Sqp P g t.p/\Vt (cz t.p) ((t.p::l).map cz) t.lo t.hi
 g:∃ D M k,Gr D M k t.lo/\Gr D M k t.hi/\0<M/\Fe (D:Int)+Fe (M:Int)+k<=lim t
theorem Va.le {t:Tm} (h:Va t):t.lo<=t.hi:=by
 rcases h.i with ⟨e,_⟩ | ⟨L,V⟩
 ·rw [e]; exact Qp
 ·exact Qr V.l
theorem Va.pt {t:Tm} (h:Va t) (hp:t.point=true):t.lo=t.hi/\U7 t.p t.lo=0:=by
 rcases h.i with e | ⟨L,V⟩
 ·exact e
 ·have:=Ml.1 hp;have:=V.l;grind
theorem Va.iv {t:Tm} (h:Va t) (hp:t.point=false):∃ L,Vt (cz t.p) L t.lo t.hi:=by
 rcases h.i with ⟨e,_⟩ | h
 ·have:=Ml.2 (show t.hi<=t.lo by rw [e]; exact Qp);rw [hp] at this; cases this
 ·exact h
theorem Va.cut {t:Tm} (h:Va t):Cut (Fj t):=by
 rcases h.i with ⟨e,_⟩ | ⟨L,V⟩
 ·exact Qs8 (x:=t.lo) λq=>A1 e q
 ·have:Fj t=cq (cz t.p) t.lo t.hi:=funext λq=>B6 V.l q
  rw [this]; exact V.cut
theorem Qvj {c:Rat->Int} (hc:Cut c) {p:Um} {x:Rat} (h:c x=0) (h0:ev p x=0):Ir p c:=by
 rcases JR hc p with h1 | ⟨s,hs,h1⟩
 ·exact h1
 ·have:=fG hc h h1;rw [Gj.2 h0] at this; exact absurd this.symm hs
theorem Va.van {t:Tm} (h:Va t):Ir (cz t.p) (Fj t):=by
 have hc:=h.cut;rcases h.i with ⟨e,h0⟩ | ⟨L,V⟩
 ·exact Qvj hc (x:=t.lo) (by rw [A1 e,Ej]) (by rw [U8]; exact h0)
 ·have:Fj t=cq (cz t.p) t.lo t.hi:=funext λq=>B6 V.l q
  rw [this]; exact V.van
theorem Va.qs {t:Tm} (h:Va t):Qs 3300000 t.lo/\Qs 3300000 t.hi:=by
 obtain ⟨D,M,k,h1,h2,h3,h4⟩:=h.g;have h4:=Qc h4 (Qt1 t);exact ⟨OK h1 h3 h4,OK h2 h3 h4⟩
theorem Va.qsn {t:Tm} (h:Va t) (hp:t.point=false):Qs 1000000 t.lo/\Qs 1000000 t.hi:=by
 obtain ⟨D,M,k,h1,h2,h3,h4⟩:=h.g;rw [jV hp] at h4;exact ⟨OK h1 h3 h4,OK h2 h3 h4⟩
theorem Va.tb {t:Tm} (h:Va t):Tb t:=⟨⟨h.tr,by have:=h.n; omega,U0 h.b (by omega)⟩,h.qs.1.mono (t:=16777216) (by omega),h.qs.2.mono (t:=16777216) (by omega)⟩
structure Hv (t:Tm) (D M k:Nat) (u:Tm):Prop where
 p:u.p=t.p
 i:u.lo=u.hi/\U7 u.p u.lo=0\/∃ L,Vt (cz u.p) L u.lo u.hi
 c:∀ q,Fj u q=Fj t q
 l:Gr D M k u.lo
 h:Gr D M k u.hi
theorem wK {c:Rat->Int} (hc:Cut c) {x:Rat} (h:c x=0) (q:Rat):c q=Ha x q:=by
 rcases Tw x q with ⟨e,e'⟩ | ⟨e,e'⟩ | ⟨e,e'⟩
 ·rw [e]; exact hc.mono' e' (by omega)
 ·rw [e,<-e',h]
 ·rw [e]; exact hc.mono x q e' (by omega)
theorem xI {t u:Tm} {D M k:Nat} (hu:Hv t D M k u) (hM:0<M) (hs:Fe (D:Int)+Fe (M:Int)+(k+1)<=16777216):∃ v,xA u=some v/\Hv t D M (k+1) v/\v.hi-v.lo<=(u.hi-u.lo) / 2/\u.lo<=v.lo/\v.hi<=u.hi:=by
 have h2:∀ x:Rat,x / 2*2=x:=λx=>Hb (by decide)
 unfold xA;rcases hu.i with ⟨e,h0⟩ | ⟨L,V⟩
 ·have hp:u.point=true:=Ml.2 (by rw [e]; exact Qp);rw [if_pos hp];refine ⟨u,rfl,⟨hu.p,hu.i,hu.c,OW hu.l,OW hu.h⟩,?_,Qp,Qp⟩;rw [e]; have:=h2 (u.hi-u.hi); grind
 ·have hp:u.point=false:=by
   have:¬u.point=true:=λh=>by have:=Ml.1 h; have:=V.l; grind
   simpa using this
  rw [hp,if_neg (by decide)];obtain ⟨m,hm⟩:=nmE ((u.lo+u.hi) / 2);have hmg:Gr D M (k+1) m:=by rw [hm]; exact Qgq hu.l hu.h
  have hmm:=h2 (u.lo+u.hi);rw [<-hm] at hmm;have hl:=V.l;have hl1:u.lo<m:=by grind
  have hl2:m<u.hi:=by grind
  have hch:chq (mid u.lo u.hi)=some m:=by
   rw [mN,<-hm];have:=OK hmg hM hs;unfold chq;rw [if_pos ⟨this.1,this.2⟩]
  have hcm:mid u.lo u.hi=m:=by rw [mN,<-hm]
  rw [hch];show ∃ v,some (if Fj u m=0 then (⟨u.p,m,m⟩:Tm) else if Fj u m=-1 then ⟨u.p,u.lo,m⟩ else ⟨u.p,m,u.hi⟩)=some v/\_;have hw:=h2 (u.hi-u.lo);have hcu:=B6 hl;have hcut:=V.cut;have hcut':Cut (Fj u):=by rw [show Fj u=cq (cz u.p) u.lo u.hi from funext hcu]; exact hcut
  by_cases c0:Fj u m=0
  ·rw [if_pos c0];have hz:U7 u.p m=0:=by
    have:=TW hcut (q:=m) (by rw [<-hcu]; exact c0) V.van;rwa [U8] at this
   refine ⟨_,rfl,⟨hu.p,.inl ⟨rfl,hz⟩,λq=>?_,hmg,hmg⟩,by show m-m<=_; grind,by show u.lo<=m; grind,by show m<=u.hi; grind⟩;rw [A1 rfl,<-hu.c];exact (wK hcut' c0 q).symm
  ·rw [if_neg c0];by_cases c1:Fj u m=-1
   ·rw [if_pos c1];have hv:vv L m=vv L u.hi:=V.eq_hi hl1 (Qr hl2) (by rw [<-hcu,c1]; decide);have V':Vt (cz u.p) L u.lo m:=⟨V.s,hl1,by rw [hv]; exact V.v⟩;refine ⟨_,rfl,⟨hu.p,.inr ⟨L,V'⟩,λq=>?_,OW hu.l,hmg⟩,by show m-u.lo<=_; grind,Qp,by show m<=u.hi; grind⟩;rw [B6 hl1,<-hu.c,hcu];exact V.uniq V'.cut (Ez Qp) (by rw [UZ hl1 hl2]; decide) V'.van q
   ·rw [if_neg c1];have c2:Fj u m=1:=by rcases hcut'.val m with h | h | h <;> omega
    have hv:vv L m=vv L u.lo:=V.eq_lo hl1 (Qr hl2) (by rw [<-hcu]; exact c2);have V':Vt (cz u.p) L m u.hi:=⟨V.s,hl2,by rw [hv]; exact V.v⟩;refine ⟨_,rfl,⟨hu.p,.inr ⟨L,V'⟩,λq=>?_,hmg,OW hu.h⟩,by show u.hi-m<=_; grind,by show u.lo<=m; grind,Qp⟩;rw [B6 hl2,<-hu.c,hcu];exact V.uniq V'.cut (Ez (by grind)) V'.hi1 V'.van q
def P0 (a b:Tm):Prop:=∃ q,Fj a q=-1/\Fj b q=1
def TEq (a b:Tm):Prop:=∀ q,Fj a q=Fj b q
theorem tri {a b:Tm} (ha:Cut (Fj a)) (hb:Cut (Fj b)):P0 a b\/TEq a b\/P0 b a:=by
 rcases Classical.em (TEq a b) with h | h
 ·exact .inr (.inl h)
 ·obtain ⟨q,hq⟩:=Classical.not_forall.1 h;obtain ⟨r,⟨h1,h2⟩ | ⟨h1,h2⟩⟩:=wV ha hb hq
  ·exact .inl ⟨r,h1,h2⟩
  ·exact .inr (.inr ⟨r,h2,h1⟩)
theorem Ik {a b:Tm} (ha:Cut (Fj a)) (hb:Cut (Fj b)) (h:P0 a b) (h':P0 b a):False:=by
 obtain ⟨q,q1,q2⟩:=h;obtain ⟨r,r1,r2⟩:=h';have:=ha.lt r2 q1;have:=hb.lt q2 r1;grind
theorem gA {p:Uj} (k:Nat):(p.getD k 0).natAbs<=2^G6 p:=by
 have h:Fe (p.getD k 0)<=G6 p:=by
  have key:∀ (l:Uj) (n:Nat),n≤l.foldl (λn z=>max n (Fe z)) n/\∀ z∈l,Fe z≤l.foldl (λn z=>max n (Fe z)) n:=by
   intro l
   induction l with
   | nil=>exact λn=>⟨Ql _,λz hz=>by cases hz⟩
   |
    cons y l ih =>
    intro n;obtain ⟨i1,i2⟩:=ih (max n (Fe y));refine ⟨by simp only [Z9]; omega,λz hz=>?_⟩;simp only [Z9];rcases Qm.1 hz with rfl | hz
    ·omega
    ·exact i2 z hz
  exact Fo (s:=G6 p) (λz hz=>(key p 0).2 z hz) k
 rw [Si] at h; omega
theorem Qqz {s:Nat}:∀ (B:Uj),(∀ z∈B,z.natAbs≤2^s)->gB B≤2^(s+(B.length-1))
 | [],_=>Qh _
 |
  c::B,h=>by
  have h1:=h c (Qx ..);have h2:=Qqz B λz hz=>h z (Qg _ hz)
  simp only [gB,Q7,J7];have h3:2^s<=2^(s+B.length):=Zr (by decide) (by omega);cases B with
  | nil=>simp only [gB,X4] at *; omega
  |
   cons d B =>
   have h4:2^(s+(d::B).length)=2*2^(s+((d::B).length-1)):=by
    rw [Zp,<-Zq]; congr 1
   rw [h4]; omega
def Tr (A B:Uj):Nat:=(G6 A+G6 B+(A.length+B.length)+8)*(2*(A.length+B.length-2)-1)
theorem Qgb {A B:Uj} (tA:U9 A) (tB:U9 B) (nA:A.length<=9) (nB:B.length<=9) (lA:2<=A.length) (lB:2<=B.length) {R d:Rat} (hR:1<=R) (dp:0<d)
 (hs:∀ e:Rat,0<e->∃ q r,Fh q<=R/\Fh r<=R/\d<=Fh (q-r)/\Fh (q-r)*((2^(Tr A B+1):Nat):Rat)<=1/\Fh (U7 A q)<e/\Fh (U7 B r)<e):False:=by
 obtain ⟨a,ha⟩:∃ a,A.length=a+1:=⟨A.length-1,by omega⟩;obtain ⟨b,hb⟩:∃ b,B.length=b+1:=⟨B.length-1,by omega⟩;obtain ⟨s,hsd⟩:=nmE (G6 A+G6 B+b);obtain ⟨N,hN⟩:∃ N,b*(2*(a*b))+a*(2*(a*b)-b)=N:=⟨_,rfl⟩;have hNt:N<=2^(a+9):=by
  rw [<-hN];have hab:∀ a b:Fin 9,b.1*(2*(a.1*b.1))+a.1*(2*(a.1*b.1)-b.1)<=2^(a.1+9):=by decide
  exact hab ⟨a,by omega⟩ ⟨b,by omega⟩
 have hK:Tr A B=(s+a+10)*(2*(a+b-1)+1):=by
  unfold Tr;rw [ha,hb,hsd,show a+1+(b+1)-2=a+b by omega,show 2*(a+b)-1=2*(a+b-1)+1 by omega];congr 1; omega
 have h0A:A.getD a 0≠0:=by have:=H5 tA (by omega); rwa [ha] at this
 have h0B:B.getD b 0≠0:=by have:=H5 tB (by omega); rwa [hb] at this
 have hp:∀ m,1<=2^m:=λm=>Z2 (by decide)
 refine Qtr (N:=N) (D:=2^(Tr A B-1)) ha hb h0A h0B (by omega) (by omega) (h:=2^s) (hp s) (λk=>Qc (gA k) (Zr (by decide) (by omega))) ?_ hN ?_ hR dp λe ep=>?_
 ·refine Qc (Qqz (s:=G6 B) B λz hz=>?_) (Zr (by decide) (by omega));obtain ⟨i,hi⟩:=Zj.1 hz;have:=gA (p:=B) i;rwa [Qi,hi] at this
 ·have h1:2*(N*2^s)<=2^(s+a+10):=by
   have:N*2^s<=2^(a+9)*2^s:=Qz _ hNt;rw [<-Xe] at this;rw [show s+a+10=(a+9+s)+1 by omega,Zq]; omega
  have h2:N*2^s<=2^(s+a+9):=by
   rw [show s+a+9=(a+9)+s by omega,Xe]; exact Qz _ hNt
  have h3:=Nat.pow_le_pow_left h1 (2*(a+b-1));have h4:=Zi h2 h3;rw [<-Wm,<-Xe] at h4;rw [<-Xv];refine Qc h4 (Zr (by decide) ?_);rw [hK,Xi,Ys]; omega
 ·obtain ⟨q,r,h1,h2,h3,h4,h5,h6⟩:=hs e ep;refine ⟨q,r,h1,h2,h3,?_,h5,h6⟩;have hK1:1<=Tr A B:=by
   rw [hK]; exact J1 (by omega) (by omega)
  have e1:2^(Tr A B+1)=4*2^(Tr A B-1):=by
   obtain ⟨m,hm⟩:∃ m,Tr A B=m+1:=⟨Tr A B-1,by omega⟩;rw [hm,J7,Zq,Zq]; omega
  rw [e1] at h4
  push_cast at h4 ⊢
  exact h4
theorem Hv.lo' {t:Tm} {D M k:Nat} {u:Tm} (h:Hv t D M k u):Fj t u.lo=1\/Fj t u.lo=0/\u.lo=u.hi:=by
 rw [<-h.c];rcases h.i with ⟨e,_⟩ | ⟨L,V⟩
 ·exact .inr ⟨by rw [A1 e,Ej],e⟩
 ·exact .inl (by rw [B6 V.l]; exact Ez Qp)
theorem Hv.hi' {t:Tm} {D M k:Nat} {u:Tm} (h:Hv t D M k u):Fj t u.hi=0\/Fj t u.hi=-1:=by
 rw [<-h.c];rcases h.i with ⟨e,_⟩ | ⟨L,V⟩
 ·exact .inl (by rw [A1 e,e,Ej])
 ·rw [B6 V.l];have:=V.hi1;rcases V.cut.val u.hi with h | h | h <;> omega
theorem Hv.le {t:Tm} {D M k:Nat} {u:Tm} (h:Hv t D M k u):u.lo<=u.hi:=by
 rcases h.i with ⟨e,_⟩ | ⟨L,V⟩
 ·rw [e]; exact Qp
 ·exact Qr V.l
theorem Qgc {a b:Tm} (ha:Va a) (hb:Va b) {D M k D' M' k':Nat} {u v:Tm} (hu:Hv a D M k u) (hv:Hv b D' M' k' v) (h:P0 a b):1<(v.hi-u.lo)*((2^(Tr a.p b.p+1):Nat):Rat):=by
 rcases Ga ((v.hi-u.lo)*((2^(Tr a.p b.p+1):Nat):Rat)) 1 with hw | hw
 ·exfalso;have ca:=ha.cut;have cb:=hb.cut;obtain ⟨m,m1,m2⟩:=h;obtain ⟨m',hm',m3⟩:=ca.dn m m1;have hpow:(0:Rat)<=((2^(Tr a.p b.p+1):Nat):Rat):=Xh;obtain ⟨R,hR⟩:=nmE (Fh u.lo+Fh m'+Fh m+Fh v.hi+1);have n1:=Hp u.lo; have n2:=Hp m'; have n3:=Hp m; have n4:=Hp v.hi;refine Qgb (R:=R) (d:=m-m') ha.tr hb.tr ha.n hb.n ha.n2 hb.n2 (by grind) (by grind) λe ep=>?_
  obtain ⟨q,q1,q2,q3⟩:∃ q,u.lo<=q/\q<=m'/\Fh (U7 a.p q)<e:=by
   rcases hu.lo' with h1 | ⟨h1,_⟩
   ·obtain ⟨x,y,hx,hy,hq⟩:=ha.van e ep;rcases Ga x u.lo with e1 | e1
    ·exact ⟨u.lo,Qp,Qr (ca.lt h1 m3),by rw [<-U8]; exact hq u.lo e1 (Qr (ca.lt h1 hy))⟩
    ·exact ⟨x,Qr e1,Qr (ca.lt hx m3),by rw [<-U8]; exact hq x Qp (Qr (ca.lt hx hy))⟩
   ·refine ⟨u.lo,Qp,?_,by rw [<-U8,TW ca h1 ha.van,Re]; exact ep⟩;rcases Ga u.lo m' with e1 | e1
    ·exact e1
    ·have:=ca.mono m' u.lo e1 (by omega); omega
  obtain ⟨r,r1,r2,r3⟩:∃ r,r<=v.hi/\m<=r/\Fh (U7 b.p r)<e:=by
   rcases hv.hi' with h1 | h1
   ·refine ⟨v.hi,Qp,?_,by rw [<-U8,TW cb h1 hb.van,Re]; exact ep⟩;rcases Ga m v.hi with e1 | e1
    ·exact e1
    ·have:=cb.mono v.hi m e1 (by omega); omega
   ·obtain ⟨x,y,hx,hy,hq⟩:=hb.van e ep;rcases Ga v.hi y with e1 | e1
    ·exact ⟨v.hi,Qp,Qr (cb.lt m2 h1),by rw [<-U8]; exact hq v.hi (Qr (cb.lt hx h1)) e1⟩
    ·exact ⟨y,Qr e1,Qr (cb.lt m2 hy),by rw [<-U8]; exact hq y (Qr (cb.lt hx hy)) Qp⟩
  have e1:Fh (q-r)=r-q:=by unfold Fh; split <;> grind
  have b1:Fh q<=R:=by
   have:=US (R:=R) (x:=u.lo) (y:=m') (t:=q) (by grind) (by grind) q1 q2; exact this
  have b2:Fh r<=R:=by
   have:=US (R:=R) (x:=m) (y:=v.hi) (t:=r) (by grind) (by grind) r2 r1; exact this
  refine ⟨q,r,b1,b2,by rw [e1]; grind,?_,q3,r3⟩;rw [e1];have:=Zc (show r-q<=v.hi-u.lo by grind) hpow;exact Zh this hw
 ·exact hw
theorem vA {a b:Tm} (ha:Va a) (hb:Va b) {D M k D' M' k':Nat} {u v:Tm} (hu:Hv a D M k u) (hv:Hv b D' M' k' v) (hne:¬TEq a b) (h:Dt u v=true):P0 a b:=by
 have h1:=(of_decide_eq_true h).1;have h1:=MQ.1 h1;rcases tri ha.cut hb.cut with h2 | h2 | ⟨m,m1,m2⟩
 ·exact h2
 ·exact absurd h2 hne
 ·exfalso;have e1:m<u.hi:=by
   rcases Ga u.hi m with e | e
   ·rcases Classical.em (u.hi=m) with e' | e'
    ·have:=hu.hi'; rw [e'] at this; omega
    ·have:=ha.cut.mono u.hi m (by grind) (by have:=hu.hi'; omega); omega
   ·exact e
  have e2:v.lo<m:=by
   rcases Ga m v.lo with e | e
   ·rcases Classical.em (m=v.lo) with e' | e'
    ·have:=hv.lo'; rw [<-e'] at this; omega
    ·have:=hb.cut.mono m v.lo (by grind) (by omega);have:=hv.lo'; omega
   ·exact e
  grind
theorem aG {a b:Tm} (ha:Va a) (hb:Va b) {D M k D' M' k':Nat} {u v:Tm} (hu:Hv a D M k u) (hv:Hv b D' M' k' v) (hlt:P0 a b) (h:Dt u v≠true):v.lo<=u.hi:=by
 rcases Ga v.lo u.hi with e | e
 ·exact e
 ·refine absurd (decide_eq_true ⟨MQ.2 (Qr e),λh'=>?_⟩) h;have:=dA.1 h'.2; grind
theorem gK (m:Nat):((2^(m+1):Nat):Rat)=2*((2^m:Nat):Rat):=by rw [Zq]; push_cast; grind
def Qro (a b:Tm) (r:Tm×Tm×Int):Prop:=r.2.2=-1/\P0 a b\/r.2.2=1/\P0 b a
theorem Qba (A B:Uj):Tr A B=Tr B A:=by unfold Tr; rw [Nat.add_comm A.length,Nat.add_comm (G6 A)]
theorem Qv4 {a b:Tm} (ha:Va a) (hb:Va b) (hne:¬TEq a b) {D M D' M':Nat} (hM:0<M) (hM':0<M'):∀ (i j:Nat) (u v:Tm) (k k':Nat) (W:Rat),2*i+1<=j->Hv a D M k u->Hv b D' M' k' v->Fe (D:Int)+Fe (M:Int)+(k+j)<=16777216->Fe (D':Int)+Fe (M':Int)+(k'+j)<=16777216->u.hi-u.lo<=W->v.hi-v.lo<=W->2*W*((2^(Tr a.p b.p+1):Nat):Rat)<=((2^i:Nat):Rat)->∃ r,EC j u v=some r/\Qro a b r:=by
 intro i;have step:∀ (j:Nat) (u v:Tm) (k k':Nat),Hv a D M k u->Hv b D' M' k' v->Fe (D:Int)+Fe (M:Int)+(k+(j+1))<=16777216->Fe (D':Int)+Fe (M':Int)+(k'+(j+1))<=16777216->(∃ r,EC (j+1) u v=some r/\Qro a b r)\/(Dt u v≠true/\Dt v u≠true/\∃ u' v' k1 k1',EC (j+1) u v=EC j u' v'/\Hv a D M k1 u'/\Hv b D' M' k1' v'/\k1<=k+1/\k1'<=k'+1/\(v.hi-v.lo<=u.hi-u.lo/\u'.hi-u'.lo<=(u.hi-u.lo) / 2/\v'=v\/u.hi-u.lo<=v.hi-v.lo/\v'.hi-v'.lo<=(v.hi-v.lo) / 2/\u'=u)):=by
  intro j u v k k' hu hv hs hs';by_cases h1:Dt u v=true
  ·exact .inl ⟨(u,v,-1),by simp only [EC]; rw [if_pos h1],.inl ⟨rfl,vA ha hb hu hv hne h1⟩⟩
  by_cases h2:Dt v u=true
  ·exact .inl ⟨(u,v,1),by simp only [EC]; rw [if_neg h1,if_pos h2],.inr ⟨rfl,vA hb ha hv hu (λh=>hne λq=>(h q).symm) h2⟩⟩
  refine .inr ⟨h1,h2,?_⟩;by_cases h3:0<=Ha (LA u.hi u.lo) (LA v.hi v.lo)
  ·obtain ⟨x,x1,x2,x3,_⟩:=xI hu hM (by omega);refine ⟨x,v,k+1,k',?_,x2,hv,by omega,by omega,.inl ⟨?_,x3,rfl⟩⟩
   ·simp only [EC]; rw [if_neg h1,if_neg h2,if_pos h3,x1]; rfl
   ·have:=PO.1 h3; rwa [ML,ML] at this
  ·obtain ⟨x,x1,x2,x3,_⟩:=xI hv hM' (by omega);refine ⟨u,x,k,k'+1,?_,hu,x2,by omega,by omega,.inr ⟨?_,x3,rfl⟩⟩
   ·simp only [EC]; rw [if_neg h1,if_neg h2,if_neg h3,x1]; rfl
   ·rcases Ga (u.hi-u.lo) (v.hi-v.lo) with e | e
    ·exact e
    ·refine absurd (PO.2 ?_) h3;rw [ML,ML]; exact Qr e
 induction i with
 |
  zero =>
  intro j u v k k' W hj hu hv hs hs' hW hW' hK;obtain ⟨j,rfl⟩:∃ m,j=m+1:=⟨j-1,by omega⟩;rcases step j u v k k' hu hv hs hs' with h | ⟨h1,h2,_⟩
  ·exact h
  ·exfalso;have hpow:(0:Rat)<=((2^(Tr a.p b.p+1):Nat):Rat):=Xh;rw [Vb] at hK;rcases tri ha.cut hb.cut with h3 | h3 | h3
   ·have h4:=aG ha hb hu hv h3 h1;have h5:=Qgc ha hb hu hv h3;have h6:=Zc (show v.hi-u.lo<=2*W by clear step; grind) hpow;have h7:((1:Nat):Rat)=1:=rfl;rw [h7] at hK;clear step; grind
   ·exact hne h3
   ·have h4:=aG hb ha hv hu h3 h2;have h5:=Qgc hb ha hv hu h3;rw [Qba] at h5;have h6:=Zc (show u.hi-v.lo<=2*W by clear step; grind) hpow;have h7:((1:Nat):Rat)=1:=rfl;rw [h7] at hK;clear step; grind
 |
  succ i ih =>
  intro j u v k k' W hj hu hv hs hs' hW hW' hK;obtain ⟨j,rfl⟩:∃ m,j=m+2:=⟨j-2,by omega⟩;have hd:∀ x:Rat,x / 2*2=x:=λx=>Hb (by decide)
  rcases step (j+1) u v k k' hu hv hs hs' with h | ⟨_,_,u1,v1,k1,k1',e1,hu1,hv1,hk1,hk1',hw1⟩
  ·exact h
  ·rw [e1];rcases step j u1 v1 k1 k1' hu1 hv1 (by omega) (by omega) with h | ⟨_,_,u2,v2,k2,k2',e2,hu2,hv2,hk2,hk2',hw2⟩
   ·exact h
   ·rw [e2];have a1:=hd (u.hi-u.lo); have a2:=hd (v.hi-v.lo); have a3:=hd (u1.hi-u1.lo); have a4:=hd (v1.hi-v1.lo); have a5:=hd W;have b1:=hu.le; have b2:=hv.le; have b3:=hu1.le; have b4:=hv1.le; have b5:=hu2.le; have b6:=hv2.le;have hww:u2.hi-u2.lo<=W / 2/\v2.hi-v2.lo<=W / 2:=by
     clear step ih;rcases hw1 with ⟨c1,c2,rfl⟩ | ⟨c1,c2,rfl⟩ <;> rcases hw2 with ⟨d1,d2,rfl⟩ | ⟨d1,d2,rfl⟩ <;> constructor <;> grind
    refine ih j u2 v2 k2 k2' (W / 2) (by omega) hu2 hv2 (by omega) (by omega) hww.1 hww.2 ?_;rw [gK i] at hK;have:2*(W / 2)*((2^(Tr a.p b.p+1):Nat):Rat)*2=2*W*((2^(Tr a.p b.p+1):Nat):Rat):=by clear step ih hw1 hw2; grind
    clear step ih hw1 hw2; grind
def CmpOk (a b:Tm) (c:Int):Prop:=c=-1/\P0 a b\/c=0/\TEq a b\/c=1/\P0 b a
theorem Va.hv0 {t:Tm} (h:Va t):∃ D M k,Hv t D M k t/\0<M/\Fe (D:Int)+Fe (M:Int)+k<=lim t:=by
 obtain ⟨D,M,k,h1,h2,h3,h4⟩:=h.g;exact ⟨D,M,k,⟨rfl,h.i,λ_=>rfl,h1,h2⟩,h3,h4⟩
theorem nH {a:Tm} (ha:Va a) (hp:a.point=true) (q:Rat):Fj a q=Ha a.lo q:=A1 (ha.pt hp).1 q
theorem Qfg {a b:Tm} (hb:Va b) {x:Rat} (hx:∀ q,Fj a q=Ha x q):CmpOk a b (-Fj b x):=by
 have cb:=hb.cut;rcases cb.val x with h | h | h
 ·obtain ⟨q,q1,q2⟩:=cb.up x h;refine .inl ⟨by omega,q,?_,q2⟩;rw [hx]; rcases Tw x q with ⟨e,e'⟩ | ⟨e,e'⟩ | ⟨e,e'⟩ <;> grind
 ·exact .inr (.inl ⟨by omega,λq=>by rw [hx,wK cb h]⟩)
 ·obtain ⟨q,q1,q2⟩:=cb.dn x h;refine .inr (.inr ⟨by omega,q,q2,?_⟩);rw [hx]; rcases Tw x q with ⟨e,e'⟩ | ⟨e,e'⟩ | ⟨e,e'⟩ <;> grind
theorem CmpOk.symm {a b:Tm} {c:Int} (h:CmpOk a b c):CmpOk b a (-c):=by
 rcases h with ⟨h1,h2⟩ | ⟨h1,h2⟩ | ⟨h1,h2⟩
 ·exact .inr (.inr ⟨by omega,h2⟩)
 ·exact .inr (.inl ⟨by omega,λq=>(h2 q).symm⟩)
 ·exact .inl ⟨by omega,h2⟩
theorem Qx1:Szz 9 1260:=⟨by decide,by decide⟩
theorem UT (g:Uj) (lo hi:Rat):UR g lo hi=true↔mQ (cz g) lo hi:=by
 unfold UR mQ;rw [decide_eq_true_iff,Nc,uI,U8]
theorem uR {g:Uj} (tg:U9 g) (hn:g.length≠0) {lo hi:Rat} (h:mQ (cz g) lo hi):1<g.length:=by
 rcases Za 1 g.length with e | e
 ·exact e
 ·exfalso;obtain ⟨c,rfl⟩:∃ c,g=[c]:=Kr.1 (by omega);have hc:c≠0:=by have:=H5 tg (by simp); simpa using this
  have hv:∀ t,ev (cz [c]) t=(c:Rat):=λt=>by rw [U8]; simp only [U7]; grind
  have hs:Fc (c:Rat)≠0:=λh=>XJ hc (Gj.1 h)
  unfold mQ at h;rw [hv,Ae (by rw [hv]; exact hs),hv] at h;rcases h with h | h
  ·exact hs h
  ·exact h rfl
theorem DX {q:Rat}:Fh q<=((2^Fe q.num:Nat):Rat):=by
 have h1:Fe q.num<=Fe q.num:=Ql _;rw [Si] at h1;have e:(q.num:Rat)=q*(q.den:Rat):=by
  have:(q.num:Rat) / (((q.den:Int)):Rat)=q:=by rw [H6,Z4]
  have h2:(q.num:Rat) / (q.den:Rat)*(q.den:Rat)=q.num:=Zf (by have:=nat_pos q.den_pos; grind);rw [show (q.num:Rat) / (q.den:Rat)=q from this] at h2; exact h2.symm
 have hd:(1:Rat)<=(q.den:Rat):=by
  have:((1:Nat):Rat)<=(q.den:Rat):=Zm.2 q.den_pos;exact this
 have h2:Fh q<=Fh (q.num:Rat):=by
  rw [e,Ib];have:Fh (q.den:Rat)=(q.den:Rat):=by unfold Fh; rw [if_neg (by grind)]
  rw [this];have:=Cd (a:=Fh q) (c:=1) (Hp q) Qp (by decide) hd;grind
 rw [Sj] at h2;exact Zh h2 (Zm.2 (Yf h1))
theorem TU {a:Tm} {w:Nat} (h:Fe a.lo.num+Fe a.hi.num<=w):a.hi-a.lo<=((2^(w+1):Nat):Rat):=by
 have h1:=DX (q:=a.lo);have h2:=DX (q:=a.hi);have h3:((2^Fe a.lo.num:Nat):Rat)<=((2^w:Nat):Rat):=Zm.2 (Zr (by decide) (by omega));have h4:((2^Fe a.hi.num:Nat):Rat)<=((2^w:Nat):Rat):=Zm.2 (Zr (by decide) (by omega));rw [gK];rw [Mb] at h1 h2;grind
theorem Ol {p:Uj} {s:Nat} (h:Bd s p):G6 p<=s:=by
 have:=Ma h p.length; rwa [Q5] at this
theorem Qjs {a b:Tm} (ha:Va a) (hb:Va b) (pa:a.point=false) (pb:b.point=false):Pv a b<=9000000:=by
 have q1:=ha.qsn pa; have q2:=hb.qsn pb;have l1:=ha.n; have l2:=hb.n;have s1:=Ol (ha.bi pa); have s2:=Ol (hb.bi pb);have b1:=q1.1.1; have b2:=q1.2.1; have b3:=q2.1.1; have b4:=q2.2.1;have:4*(a.p.length+b.p.length)*(G6 a.p+G6 b.p+(a.p.length+b.p.length)+8)<=4*18*2600:=Zi (by omega) (by omega);unfold Pv; omega
theorem Qc5 {a b:Tm} (ha:Va a) (hb:Va b) (pa:a.point=false) (pb:b.point=false) (hne:¬TEq a b):∃ r,EC (Pv a b) a b=some r/\Qro a b r:=by
 obtain ⟨D,M,k,h1,h2,h3⟩:=ha.hv0;obtain ⟨D',M',k',h1',h2',h3'⟩:=hb.hv0;rw [jV pa] at h3;rw [jV pb] at h3';have hst:=Qjs ha hb pa pb;obtain ⟨w,hw⟩:=nmE (Fe a.lo.num+Fe a.hi.num+Fe b.lo.num+Fe b.hi.num);obtain ⟨K,hK⟩:=nmE (G6 a.p+G6 b.p+(a.p.length+b.p.length)+8);obtain ⟨n,hn⟩:=nmE (a.p.length+b.p.length);have l1:=ha.n2; have l2:=hb.n2;have hsteps:Pv a b=64+2*w+4*n*K:=by unfold Pv; rw [hw,hK,hn]
 have hg:Tr a.p b.p=K*(2*(n-2)-1):=by unfold Tr; rw [hK,hn]
 have hgle:Tr a.p b.p+5*K<=2*n*K:=by
  rw [hg,Zp K,<-Xz];exact Qz _ (by omega)
 have hKp:8<=K:=by omega
 refine Qv4 ha hb hne h2 h2' (31+w+2*n*K) (Pv a b) a b k k' ((2^(w+1):Nat):Rat) ?_ h1 h1' (by omega) (by omega) (TU (by omega)) (TU (by omega)) ?_
 ·rw [hsteps,Xi,Xv 4,Xv 2 n]; omega
 ·have e:2*(2^(w+1))*(2^(Tr a.p b.p+1))<=2^(31+w+2*n*K):=by
   rw [Zp 2,<-Zq,<-Xe];exact Zr (by decide) (by omega)
  have:=Zm.2 e
  push_cast at this ⊢
  exact this
theorem WO {a b:Tm} (ha:Va a) (hb:Va b):∃ c,WI a b=some c/\CmpOk a b c:=by
 unfold WI;by_cases pa:a.point=true
 ·rw [if_pos pa];exact ⟨_,rfl,Qfg hb (nH ha pa)⟩
 rw [if_neg pa];by_cases pb:b.point=true
 ·rw [if_pos pb];have:=(Qfg ha (nH hb pb)).symm;rw [Int.neg_neg] at this;exact ⟨_,rfl,this⟩
 rw [if_neg pb];have pa:a.point=false:=by simpa using pa
 have pb:b.point=false:=by simpa using pb
 obtain ⟨L,V⟩:=ha.iv pa;obtain ⟨L',V'⟩:=hb.iv pb;have eqa:∀ q,Fj a q=cq (cz a.p) a.lo a.hi q:=B6 V.l;have eqb:∀ q,Fj b q=cq (cz b.p) b.lo b.hi q:=B6 V'.l;obtain ⟨lo,hlo⟩:=nmE (if 0<Ha b.lo a.lo then b.lo else a.lo);obtain ⟨hi,hhi⟩:=nmE (if Ha b.hi a.hi<0 then b.hi else a.hi);show ∃ c,(if Ha (if 0<Ha b.lo a.lo then b.lo else a.lo) (if Ha b.hi a.hi<0 then b.hi else a.hi)<0 then _ else _)=some c/\_;rw [<-hlo,<-hhi];have e1:(0<Ha b.lo a.lo)=(a.lo<b.lo):=propext L9;have e2:(Ha b.hi a.hi<0)=(b.hi<a.hi):=propext Nl;have e3:(Ha lo hi<0)=(lo<hi):=propext Nl;simp only [e1] at hlo;simp only [e2] at hhi;simp only [e3];obtain ⟨g,g1,g2,g3,g4⟩:=Qgk Qx1 ha.tr hb.tr ha.n hb.n (ha.bi pa) (hb.bi pb) (by have:=ha.n2; omega);obtain ⟨U,W,hc⟩:=g2.c;obtain ⟨u,hu⟩:=g2.da;obtain ⟨u',hu'⟩:=g2.db;have key:=V.same V' (g:=cz g) (u:=u) (u':=u') (U:=U) (W:=W) (k:=1) (by decide) hu hu' (λt=>by rw [U8,U8,U8,hc]; grind) (a:=lo) (b:=hi) (by rw [hlo]; split <;> grind) (by rw [hlo]; split <;> grind) (by rw [hlo]; split <;> simp) (by rw [hhi]; split <;> grind) (by rw [hhi]; split <;> grind) (by rw [hhi]; split <;> simp);have hTE:(∀ q,cq (cz a.p) a.lo a.hi q=cq (cz b.p) b.lo b.hi q)↔TEq a b:=by
  unfold TEq; constructor
  ·intro h q; rw [eqa,eqb]; exact h q
  ·intro h q; rw [<-eqa,<-eqb]; exact h q
 rw [hTE] at key;have fin:¬TEq a b->∃ c,((EC (Pv a b) a b).bind λr=>some r.2.2)=some c/\CmpOk a b c:=λhne=>by
  obtain ⟨r,r1,r2⟩:=Qc5 ha hb pa pb hne;refine ⟨r.2.2,by rw [r1]; rfl,?_⟩;rcases r2 with h | h
  ·exact .inl h
  ·exact .inr (.inr h)
 by_cases hl:lo<hi
 ·rw [if_pos hl,g1];show ∃ c,(if 1<g.length/\UR g lo hi=true then some 0 else (EC (Pv a b) a b).bind λr=>some r.2.2)=some c/\_;by_cases hh:UR g lo hi=true
  ·have hq:=(UT g lo hi).1 hh;rw [if_pos ⟨uR g2.t g2.n hq,hh⟩];exact ⟨0,rfl,.inr (.inl ⟨rfl,key.1 ⟨hl,hq⟩⟩)⟩
  ·rw [if_neg λh=>hh h.2];exact fin λh=>hh ((UT g lo hi).2 (key.2 h).2)
 ·rw [if_neg hl];exact fin λh=>hl (key.2 h).1
def SgT (p:Uj) (a:Tm) (s:Int):Prop:=s=0/\Ir (cz p) (Fj a)\/s≠0/\NZ (cz p) (Fj a) s
theorem Quz {p:Uj} {c:Rat->Int} (hc:Cut c) {x:Rat} (h:c x=0):H7 p x=0/\Ir (cz p) c\/H7 p x≠0/\NZ (cz p) c (H7 p x):=by
 rw [Nc,<-U8];rcases JR hc (cz p) with h1 | ⟨s,hs,h1⟩
 ·exact .inl ⟨Gj.2 (TW hc h h1),h1⟩
 ·have:=fG hc h h1;rw [this]; exact .inr ⟨hs,h1⟩
theorem O3 {l:Uk} {lo hi:Rat} (h:lo<=hi):Tg l lo hi=(vv (l.map cz) lo:Int)-(vv (l.map cz) hi:Int):=by
 unfold Tg;rw [if_neg λh'=>by have:=Nl.1 h'; grind,QA,QA]
theorem Qu0 {p q:Uj} {L:Un} (hp:U9 p) (np:p.length<=9) (lp:2<=p.length) (hS:GH (cz q) L) (hpq:ZH (cz q) (cz p)) {a:Tm} (ha:Va a) {s:Int} (hnz:NZ (cz p) (Fj a) s) {D M k:Nat} {x:Tm} (hx:Hv a D M k x) (hl:x.lo<x.hi) (hv:vv L x.lo≠vv L x.hi):1<(x.hi-x.lo)*((2^(Tr a.p p+1):Nat):Rat):=by
 rcases Ga ((x.hi-x.lo)*((2^(Tr a.p p+1):Nat):Rat)) 1 with hw | hw
 ·exfalso;have ca:=ha.cut;obtain ⟨d,dp,x1,y1,c1,c2,hn⟩:=hnz;obtain ⟨x2,x12,c3⟩:=ca.up x1 c1;obtain ⟨y2,y12,c4⟩:=ca.dn y1 c2;have hpow:(0:Rat)<=((2^(Tr a.p p+1):Nat):Rat):=Xh;obtain ⟨z,zp,z1,z2⟩:=min2 (a:=x2-x1) (b:=y1-y2) (by clear hn; grind) (by clear hn; grind);obtain ⟨R0,hR0,r1,r2⟩:=zW x.lo x.hi;obtain ⟨u,hu⟩:=hpq;refine Qgb (R:=R0+1) (d:=z) ha.tr hp ha.n np ha.n2 lp (by clear hn; grind) zp λe ep=>?_
  obtain ⟨q0,q1,q2,q3,q4,q5⟩:∃ q0,x.lo<=q0/\q0<=x.hi/\x2<=q0/\q0<=y2/\Fh (U7 a.p q0)<e:=by
   rcases hx.lo' with h1 | ⟨h1,h2⟩
   ·obtain ⟨x',y',hx',hy',hq⟩:=ha.van e ep;obtain ⟨m,m1,m2,m3,m4⟩:∃ m,Fj a m=1/\x.lo<=m/\x2<=m/\x'<=m:=by
     rcases Ga x.lo x2 with e1 | e1
     ·rcases Ga x2 x' with e2 | e2
      ·exact ⟨x',hx',by clear hn hq; grind,e2,Qp⟩
      ·exact ⟨x2,c3,e1,Qp,Qr e2⟩
     ·rcases Ga x.lo x' with e2 | e2
      ·exact ⟨x',hx',e2,by clear hn hq; grind,Qp⟩
      ·exact ⟨x.lo,h1,Qp,Qr e1,Qr e2⟩
    refine ⟨m,m2,?_,m3,Qr (ca.lt m1 c4),by rw [<-U8]; exact hq m m4 (Qr (ca.lt m1 hy'))⟩;rcases hx.hi' with h3 | h3
    ·rcases Ga m x.hi with e1 | e1
     ·exact e1
     ·have:=ca.mono x.hi m e1 (by omega); omega
    ·exact Qr (ca.lt m1 h3)
   ·exact absurd h2 (by clear hn; grind)
  obtain ⟨b,hb⟩:=nmE (wO R0 u);have hb0:0<=b:=by rw [hb]; exact ZE hR0 u
  obtain ⟨f,fp,_,hf⟩:=Hf (b:=b) (d:=if e<=d then e else d) hb0 (by split <;> assumption);obtain ⟨r,r3,r4,r5⟩:=yI hS hl hv fp;have hrR:Fh r<=R0:=US r1 r2 r3 r4;have hpr:Fh (U7 p r)<(if e<=d then e else d):=by
   rw [<-U8,hu];have:=G9 (Qr r5) (TD hrR u);rw [<-hb] at this;exact Jp.1 λh=>absurd (Zh h this) (Jp.2 hf)
  have hpe:Fh (U7 p r)<e:=by split at hpr <;> (clear hn; grind)
  have hpd:Fh (U7 p r)<d:=by split at hpr <;> (clear hn; grind)
  have hrout:r<x1\/y1<r:=by
   rcases Ga x1 r with e1 | e1
   ·rcases Ga r y1 with e2 | e2
    ·have:=(hn r e1 e2).2;rw [U8] at this;exact absurd this (Jp.2 hpd)
    ·exact .inr e2
   ·exact .inl e1
  have hqr:z<=Fh (q0-r):=by
   clear hn;rcases hrout with h | h
   ·have:Fh (q0-r)=q0-r:=by unfold Fh; split <;> grind
    rw [this]; grind
   ·have:Fh (q0-r)=r-q0:=by unfold Fh; split <;> grind
    rw [this]; grind
  have hq0R:Fh q0<=R0:=US r1 r2 q1 q2;refine ⟨q0,r,by clear hn; grind,by clear hn; grind,hqr,?_,q5,hpe⟩;have h1:Fh (q0-r)<=x.hi-x.lo:=by rw [Mb]; clear hn; constructor <;> grind
  exact Zh (Zc h1 hpow) hw
 ·exact hw
theorem Qjd {p q:Uj} {l:Uk} (hp:U9 p) (np:p.length<=9) (lp:2<=p.length) (hS:GH (cz q) (l.map cz)) (hpq:ZH (cz q) (cz p)) {a:Tm} (ha:Va a) {s:Int} (hnz:NZ (cz p) (Fj a) s) {D M:Nat} (hM:0<M):∀ (j i:Nat) (x:Tm) (k:Nat) (W:Rat),i+1<=j->Hv a D M k x->Fe (D:Int)+Fe (M:Int)+(k+j)<=16777216->x.hi-x.lo<=W->W*((2^(Tr a.p p+1):Nat):Rat)<=((2^i:Nat):Rat)->∃ u k',sgF l j x=some u/\Hv a D M k' u/\(u.point=true\/Tg l u.lo u.hi=0)
 | 0,i,x,k,W,h,_,_,_,_=>by omega
 |
  j+1,i,x,k,W,hj,hx,hs,hW,hK=>by
  simp only [sgF];by_cases h:x.point=true\/Tg l x.lo x.hi=0
  ·rw [if_pos h]; exact ⟨x,k,rfl,hx,h⟩
  ·rw [if_neg h];obtain ⟨v,v1,v2,v3,_⟩:=xI hx hM (by omega);rw [v1];show ∃ u k',sgF l j v=some u/\_;have hpt:¬x.hi<=x.lo:=λh'=>h (.inl (Ml.2 h'))
   have hl:x.lo<x.hi:=by grind
   have hvv:vv (l.map cz) x.lo≠vv (l.map cz) x.hi:=λh'=>h (.inr (by rw [O3 (Qr hl)]; omega))
   have hg:=Qu0 hp np lp hS hpq ha hnz hx hl hvv;have hpow:(0:Rat)<=((2^(Tr a.p p+1):Nat):Rat):=Xh;have hd:∀ x:Rat,x / 2*2=x:=λx=>Hb (by decide)
   cases i with
   |
    zero =>
    exfalso;rw [Vb] at hK;have:=Zc hW hpow;have h7:((1:Nat):Rat)=1:=rfl;rw [h7] at hK;grind
   |
    succ i =>
    refine Qjd hp np lp hS hpq ha hnz hM j i v (k+1) (W / 2) (by omega) v2 (by omega) ?_ ?_
    ·have:=hd (x.hi-x.lo); have:=hd W; grind
    ·rw [gK i] at hK;have:=hd W;have:W / 2*((2^(Tr a.p p+1):Nat):Rat)*2=W*((2^(Tr a.p p+1):Nat):Rat):=by grind
     grind
theorem fC {x y:Rat}:∀ {ws:Un},(∀ w∈ws,Fc (ev w x)=Fc (ev w y))->Fc (ev (Ob ws) x)=Fc (ev (Ob ws) y)
 | [],_=>by simp only [Ob]; rw [Rw,Rw]
 |
  w::l,h=>by
  simp only [Ob];rw [Ff,Ff,Sf,Sf,h w (Qx ..),fC λv hv=>h v (Qg _ hv)]
theorem Qby {p q o:Uj} (hpt:Parts p q o) (tp:U9 p) (hp:p.length≠0) {L:Un} (hS:GH (cz q) L) {x y:Rat} (hxy:x<y) (hv:vv L x=vv L y):∃ s,s≠0/\∀ z,x<z->z<=y->Fc (U7 p z)=s:=by
 obtain ⟨ws,w1,w2⟩:=hpt.ws;obtain ⟨_,_,_,_,_,p6,p7⟩:=Cg tp hp;have key:∀ z,x<z->z≤y->∀ w∈ws.map cz,Sm w x z:=λz h1 h2 w hw=>by
  obtain ⟨v,hv',rfl⟩:=Q9.1 hw;obtain ⟨u,hu⟩:=(w1 v hv').2;have a1:=As hS h1;have a2:vv L y<=vv L z:=by
   rcases Classical.em (z=y) with e | e
   ·rw [e]; exact Ql _
   ·exact As hS (by grind)
  exact VB hS hu h1 (by omega)
 have hval:∀ z,U7 p z=(Hk p:Rat)*ev (Ob (ws.map cz)) z:=λz=>by rw [p7,w2]
 refine ⟨Fc (U7 p y),λh0=>?_,λz h1 h2=>?_⟩
 ·rw [hval,Sf] at h0;rcases Ya.1 h0 with h | h
  ·exact XJ p6 (Gj.1 h)
  ·have:∀ l:Un,(∀ w∈l,Fc (ev w y)≠0)->Fc (ev (Ob l) y)≠0:=by
    intro l
    induction l with
    | nil=>intro _; simp only [Ob]; rw [Rw]; decide
    |
     cons w l ih =>
     intro h;simp only [Ob];rw [Ff,Sf];exact Jm (h w (Qx ..)) (ih λv hv=>h v (Qg _ hv))
   refine this _ (λw hw=>?_) h;have hs:=key y hxy Qp w hw;rw [hs.s]; exact hs.n
 ·rw [hval,hval,Sf,Sf,fC (y:=y) λw hw=>(key z h1 h2 w hw).s.trans (key y hxy Qp w hw).s.symm]
theorem Qts {g p P:Uj} {c:Rat->Int} (hc:Cut c) (hg:Gc g p P):Ir (cz g) c↔Ir (cz p) c/\Ir (cz P) c:=by
 constructor
 ·intro h;obtain ⟨u,hu⟩:=hg.da;obtain ⟨v,hv⟩:=hg.db;exact ⟨Px hc hu h,Px hc hv h⟩
 ·rintro ⟨h1,h2⟩
  obtain ⟨U,V,hcc⟩:=hg.c;have a1:Ir (G0 U (cz p)) c:=Px hc (p:=cz p) (q:=U) (λt=>by rw [Ff]; grind) h1;have a2:Ir (G0 V (cz P)) c:=Px hc (p:=cz P) (q:=V) (λt=>by rw [Ff]; grind) h2;exact NJ (λt=>by rw [U8,hcc,Ff,Ff,U8,U8]) a1 a2
theorem Qjk {p:Uj} (hp:Okp 9 1180 p) {a:Tm} (ha:Va a):∃ s,FN p a=some s/\SgT p a s:=by
 unfold FN;rw [if_neg hp.nz];have ca:=ha.cut;by_cases pa:a.point=true
 ·rw [if_pos pa];exact ⟨_,rfl,Quz ca (x:=a.lo) (by rw [nH ha pa,Ej])⟩
 rw [if_neg pa];have pa:a.point=false:=by simpa using pa
 obtain ⟨L,V⟩:=ha.iv pa;have eqa:∀ q,Fj a q=cq (cz a.p) a.lo a.hi q:=B6 V.l;obtain ⟨g,g1,g2,g3,g4⟩:=Qgk Qx1 hp.t ha.tr hp.l ha.n (U0 hp.b (by omega)) (ha.bi pa) hp.nz;obtain ⟨u',hu'⟩:=g2.db;have hhas:=V.has hu' (a:=a.lo) (b:=a.hi) Qp V.l Qp;have hvan:=Qts ca g2;rw [show cq (cz a.p) a.lo a.hi=Fj a from (funext eqa).symm] at hhas;rw [g1];show ∃ s,(if 1<g.length/\UR g a.lo a.hi=true then some 0 else _)=some s/\_;by_cases hh:UR g a.lo a.hi=true
 ·have hq:=(UT g _ _).1 hh;rw [if_pos ⟨uR g2.t g2.n hq,hh⟩];exact ⟨0,rfl,.inl ⟨rfl,(hvan.1 (hhas.1 hq).1).1⟩⟩
 ·rw [if_neg λh=>hh h.2];have hnv:¬Ir (cz p) (Fj a):=λh=>hh ((UT g _ _).2 (hhas.2 ⟨hvan.2 ⟨h,ha.van⟩,by rw [eqa]; exact Ez Qp,by rw [eqa]; exact V.hi1⟩))
  rcases JR ca (cz p) with h | ⟨s,EM,hnz⟩
  ·exact absurd h hnv
  obtain ⟨q,o,q1,q2,hpt⟩:=Qhx hp;obtain ⟨q',l,r1,r2,hS,hl0⟩:=chain_ok hp;rw [q1] at r1;injection r1 with r1;subst r1;rw [r2];show ∃ s,((sgF (q::l) (64+2*(Fe a.lo.num+Fe a.hi.num)+4*(a.p.length+p.length)*(G6 a.p+G6 p+(a.p.length+p.length)+8)) a).bind λx=>some (H7 p x.hi))=some s/\_;obtain ⟨w,hw⟩:=nmE (Fe a.lo.num+Fe a.hi.num);obtain ⟨K,hK⟩:=nmE (G6 a.p+G6 p+(a.p.length+p.length)+8);obtain ⟨n,hn⟩:=nmE (a.p.length+p.length);rw [<-hw,<-hK,<-hn];obtain ⟨gg,sq⟩:=hpt.sq;obtain ⟨_,_,_,_,_,pf0,pfe⟩:=Cg hp.t hp.nz;have hpq:ZH (cz q) (cz p):=⟨Dq (Hk p) (cz gg),λt=>by rw [U8,U8,Gm,U8,pfe,sq.e]; grind⟩;obtain ⟨D,M,k,h1,h2,h3⟩:=ha.hv0;rw [jV pa] at h3;have b1:=(ha.qsn pa).1.1; have b2:=(ha.qsn pa).2.1;have l1:=ha.n; have l2:=hp.l; have l3:=ha.n2;have s1:=Ol (ha.bi pa); have s2:=Ol hp.b;have hst:4*n*K<=4*18*2466:=Zi (by omega) (by omega);have hend:∃ u k',sgF (q::l) (64+2*w+4*n*K) a=some u/\Hv a D M k' u/\(u.point=true\/Tg (q::l) u.lo u.hi=0):=by
   by_cases hpl:p.length<2
   ·have hq1:(Fg p)=[1]:=hp.pr.1.one (by have:=hp.pr.2.1; omega);have hql:q.length<2:=by
     have e:=sq.e;rw [hq1] at e;obtain ⟨p1,p2⟩:=Rx (c:=[1]) rfl (by simp) e;have:=Mj sq.pg.t sq.pq.t (c:=[1]) rfl e p1 p2;simp at this; omega
    have hbt:Tg (q::l) a.lo a.hi=0:=by
     rw [O3 (Qr V.l),hl0 hql,sq.pq.one hql];have hv1:∀ x:Rat,ev (cz [1]) x=1:=λx=>by rw [U8,Nm]
     simp only [Z0,X5,vv,tc,hv1]; omega
    refine ⟨a,k,?_,h1,.inr hbt⟩;obtain ⟨m,hm⟩:∃ m,64+2*w+4*n*K=m+1:=⟨63+2*w+4*n*K,by omega⟩;rw [hm];simp only [sgF];rw [if_pos (.inr hbt)]
   ·have hg:Tr a.p p=K*(2*(n-2)-1):=by unfold Tr; rw [hK,hn]
    have hgle:Tr a.p p+5*K<=2*n*K:=by
     rw [hg,Zp K,<-Xz];exact Qz _ (by omega)
    have hKp:8<=K:=by omega
    have hnK:2*n*K<=4*n*K:=Qz _ (by omega);obtain ⟨u,k',u1,u2,u3⟩:=Qjd hp.t hp.l (by omega) hS hpq ha hnz h2 (64+2*w+4*n*K) (2+w+2*n*K) a k ((2^(w+1):Nat):Rat) (by omega) h1 (by omega) (TU (by omega)) (by
     have e:(2^(w+1))*(2^(Tr a.p p+1))<=2^(2+w+2*n*K):=by
      rw [<-Xe];exact Zr (by decide) (by omega)
     have:=Zm.2 e
     push_cast at this ⊢
     exact this)
    exact ⟨u,k',u1,u2,u3⟩
  obtain ⟨u,k',u1,u2,u3⟩:=hend;rw [u1];refine ⟨_,rfl,.inr ?_⟩;have hfin:H7 p u.hi=s:=by
   rcases u2.hi' with hz | hz
   ·have:=fG ca hz hnz;rw [Nc,<-U8]; exact this
   ·rcases u2.i with ⟨e,_⟩ | ⟨L',V'⟩
    ·have:=u2.c u.hi;rw [A1 e,e,Ej] at this; omega
    ·have hup:u.point=false:=by
      have:¬u.point=true:=λh=>by have:=Ml.1 h; have:=V'.l; grind
      simpa using this
     rcases u3 with h | h
     ·rw [hup] at h; cases h
     ·rw [O3 (Qr V'.l)] at h;obtain ⟨s',hs',hps⟩:=Qby hpt hp.t hp.nz hS V'.l (by omega);obtain ⟨d,dp,x,y,hx,hy,hq⟩:=hnz;have hlo1:Fj a u.lo=1:=by
       rcases u2.lo' with h | ⟨_,h⟩
       ·exact h
       ·have:=V'.l; clear hps hq; grind
      obtain ⟨m,m1,m2,m3⟩:=BM ca hlo1 hx;have e1:=(hq m (Qr m3) (Qr (ca.lt m1 hy))).1;have e2:=hps m m2 (Qr (ca.lt m1 hz));have e3:=hps u.hi V'.l Qp;rw [Nc,e3,<-e2,<-U8,e1]
  rw [hfin]; exact ⟨EM,hnz⟩
structure Dp (p:List Int):Prop where
 t:U9 p
 l:p.length<=9
 b:Bd (1130+4*(9-p.length)) p
theorem aF:Szz 9 1253:=⟨by decide,by decide⟩
theorem Dp.ok {p:Uj} (h:Dp p) (h0:p.length≠0):Okp 9 1180 p:=⟨aF,h.t,h0,h.l,U0 h.b (by omega)⟩
theorem Dp.der {p:Uj} (h:Dp p):Dp (Gu p):=by
 have hl:=M6 p;have hl2:=h.l;refine ⟨Fv _ _,by omega,?_⟩;by_cases h0:p.length=0
 ·rw [Qj (l:=Gu p) (by omega)]; exact VL
 ·exact U0 (sY h.b (by omega)) (by omega)
def Fq (a:Tm) (p:Uj):Int:=(FN p a).getD 0
theorem Qjb {p:Uj} (h:Dp p) {a:Tm} (ha:Va a):FN p a=some (Fq a p)/\SgT p a (Fq a p):=by
 by_cases h0:p.length=0
 ·have e:p=[]:=Qj h0;subst e;refine ⟨rfl,.inl ⟨rfl,λd dp=>?_⟩⟩;obtain ⟨x,y,h1,h2,_⟩:=ha.cut.near (e:=1) (by decide);exact ⟨x,y,h1,h2,λq _ _=>by simp only [cz,X5,ev,Re]; exact dp⟩
 ·obtain ⟨s,h1,h2⟩:=Qjk (h.ok h0) ha;have e:Fq a p=s:=by unfold Fq; rw [h1]; rfl
  rw [e]; exact ⟨h1,h2⟩
theorem Quw {c:Rat->Int} {p q:Um} {s:Int} (h:∀ t,ev p t=ev q t) (hp:RS p c s):RS q c s:=by
 obtain ⟨y,h1,h2⟩:=hp;exact ⟨y,h1,λz h3 h4=>by rw [<-h]; exact h2 z h3 h4⟩
theorem OV {a:Tm} (ha:Va a):∀ (k:Nat) (p:Uj),Dp p->p.length<=k->p.length≠0->RS (cz p) (Fj a) (To (Fq a) k p)/\To (Fq a) k p≠0
 | 0,p,_,h1,h2=>by omega
 |
  k+1,p,h,h1,h2=>by
  simp only [To];rw [if_neg h2];obtain ⟨_,hs⟩:=Qjb h ha;rcases hs with ⟨e,hv⟩ | ⟨e,hn⟩
  ·rw [if_pos e];have hdn:(Gu p).length≠0:=λh0=>by
    by_cases h3:p.length=1
    ·obtain ⟨c,rfl⟩:∃ c,p=[c]:=Kr.1 h3;have hc:c≠0:=by have:=H5 h.t (by simp); simpa using this
     obtain ⟨q,hq,_⟩:=fF ha.cut (hv (Fh (c:Rat)) (Ci (XJ hc)));rw [U8] at hq;have:U7 [c] q=(c:Rat):=by simp only [U7]; grind
     rw [this] at hq; grind
    ·have h4:=Bi p (p.length-2);rw [Qj h0,show p.length-2+1=p.length-1 by omega] at h4;have h5:p.getD (p.length-1) 0≠0:=H5 h.t (by omega);rcases Ya.1 (h4.symm.trans (by simp)) with h6 | h6
     ·exact h5 h6
     ·omega
   have hl:=M6 p;obtain ⟨i1,i2⟩:=OV ha k (Gu p) h.der (by omega) hdn;exact ⟨yT ha.cut hv (Quw (λt=>by rw [U8,Od,Ti]) i1) i2,i2⟩
  ·rw [if_neg e]; exact ⟨qM ha.cut hn,e⟩
theorem Ea {a:Tm} (ha:Va a) {p:Uj} (h:Dp p) (h0:p.length≠0):RS (cz p) (Fj a) (Hg (Fq a) p)/\Hg (Fq a) p≠0:=OV ha _ p h (Ql _) h0
theorem XQ {a:Tm}:Hg (Fq a) []=0:=rfl
theorem Qny {l:Uj}:∀ z∈l,z.natAbs≤most l:=by
 have key:∀ (l:Uj) (m:Nat),m≤l.foldl (λm z=>if m<z.natAbs then z.natAbs else m) m/\∀ z∈l,z.natAbs≤l.foldl (λm z=>if m<z.natAbs then z.natAbs else m) m:=by
  intro l
  induction l with
  | nil=>exact λm=>⟨Ql _,λz hz=>by cases hz⟩
  |
   cons y l ih =>
   intro m;obtain ⟨e,he⟩:=nmE (if m<y.natAbs then y.natAbs else m);have h1:m<=e/\y.natAbs<=e:=by rw [he]; split <;> omega
   obtain ⟨i1,i2⟩:=ih e;simp only [Z9];rw [<-he];refine ⟨by omega,λz hz=>?_⟩;rcases Qm.1 hz with rfl | hz
   ·omega
   ·exact i2 z hz
 exact (key l 0).2
theorem NB {p:Uj} (h:Fl p≠0):Gq p*((Fl p).natAbs:Rat)=((Fl p).natAbs:Rat)+((most (p.take (p.length-1)):Nat):Rat):=by
 unfold Gq;rw [<-H6];have hp:0<(Fl p).natAbs:=by omega
 have:=nat_pos hp;rw [show ((((Fl p).natAbs:Int)):Rat)=((Fl p).natAbs:Rat) from rfl,Hb this];rw [Kb]; rfl
theorem lR {m:Nat} {x:Rat} (hx:1≤Fh x):∀ (p:Uj) (lp:p.length≠0),(∀ z∈p.take (p.length-1),z.natAbs≤m)->Fl p≠0->(m:Rat)≤(Fh x-1)*((Fl p).natAbs:Rat)->((Fl p).natAbs:Rat)≤U7 p x*(((Int.sign (Fl p))*(if x<0/\p.length % 2=0 then -1 else 1):Int):Rat)
 | [],lp,_,_,_=>absurd rfl lp
 |
  [c],_,_,hc,_=>by
  have hl:Fl [c]=c:=rfl;rw [hl] at hc ⊢;rw [if_neg (by simp),W8];have h1:U7 [c] x=(c:Rat):=by simp only [U7]; grind
  rw [h1];have h2:c*Int.sign c=(c.natAbs:Int):=Int.mul_sign_self c;have:=congrArg (λz:Int=>(z:Rat)) h2;rw [Xw] at this;rw [this]; exact Qp
 |
  c::d::p,_,hm,hc,hb=>by
  have hl:Fl (c::d::p)=Fl (d::p):=by unfold Fl; simp [List.getD_cons_succ]
  have ih:=lR hx (d::p) (by simp) (λz hz=>hm z (by
   have e:(c::d::p).take ((c::d::p).length-1)=c::(d::p).take ((d::p).length-1):=by simp
   rw [e]; exact Qg _ hz)) (by rw [<-hl]; exact hc) (by rw [<-hl]; exact hb)
  rw [hl] at hc hb ⊢;have hcm:=hm c (by simp);obtain ⟨s,hs⟩:∃ s:Int,s=Int.sign (Fl (d::p)):=⟨_,rfl⟩;have hsv:s=1\/s=-1:=by
   rw [hs];rcases Kc hc with h | h
   ·exact .inr (J3 h)
   ·exact .inl (Yp h)
  rw [<-hs] at ih ⊢;obtain ⟨ld,hld⟩:∃ ld:Rat,ld=((Fl (d::p)).natAbs:Rat):=⟨_,rfl⟩;rw [<-hld] at ih hb ⊢;have hcq:Fh (c:Rat)<=(m:Rat):=by rw [Sj]; exact Zm.2 hcm
  rw [Mb] at hcq;have e1:U7 (c::d::p) x=(c:Rat)+x*U7 (d::p) x:=rfl;rw [e1];have hlen:(c::d::p).length % 2=0↔¬(d::p).length % 2=0:=by simp only [Q7]; omega
  generalize U7 (d::p) x=y at *;generalize (m:Rat)=mm at *;generalize (c:Rat)=cc at *;have hx0:=hx;by_cases hneg:x<0
  ·have hq:Fh x=-x:=by unfold Fh; rw [if_pos hneg]
   rw [hq] at hx0 hb;by_cases hpar:(d::p).length % 2=0
   ·rw [if_pos ⟨hneg,hpar⟩] at ih;rw [if_neg λh=>(hlen.1 h.2) hpar];rcases hsv with rfl | rfl
    ·have ih:ld<=y*(-1):=by simpa using ih
     have:=Z1 ih (show 0<=-x by grind);have e:(((1:Int)*1:Int):Rat)=1:=rfl;rw [e]; grind
    ·have ih:ld<=y*1:=by simpa using ih
     have:=Z1 ih (show 0<=-x by grind);have e:(((-1:Int)*1:Int):Rat)=-1:=rfl;rw [e]; grind
   ·rw [if_neg λh=>hpar h.2] at ih;rw [if_pos ⟨hneg,hlen.2 hpar⟩];rcases hsv with rfl | rfl
    ·have ih:ld<=y*1:=by simpa using ih
     have:=Z1 ih (show 0<=-x by grind);have e:(((1:Int)*-1:Int):Rat)=-1:=rfl;rw [e]; grind
    ·have ih:ld<=y*(-1):=by simpa using ih
     have:=Z1 ih (show 0<=-x by grind);have e:(((-1:Int)*-1:Int):Rat)=1:=rfl;rw [e]; grind
  ·have hq:Fh x=x:=by unfold Fh; rw [if_neg hneg]
   rw [hq] at hx0 hb;rw [if_neg λh=>hneg h.1] at ih ⊢;rcases hsv with rfl | rfl
   ·have ih:ld<=y*1:=by simpa using ih
    have:=Z1 ih (show 0<=x by grind);have e:(((1:Int)*1:Int):Rat)=1:=rfl;rw [e]; grind
   ·have ih:ld<=y*(-1):=by simpa using ih
    have:=Z1 ih (show 0<=x by grind);have e:(((-1:Int)*1:Int):Rat)=-1:=rfl;rw [e]; grind
theorem sU {p:Uj} (tp:U9 p) (lp:p.length≠0) {x:Rat} (hx:Gq p<=Fh x):1<=Fh (U7 p x)/\(0<=x->H7 p x=UW p)/\(x<0->H7 p x=ZK p):=by
 have hl:=Eb tp lp;have hpos:0<(Fl p).natAbs:=by omega
 have h1:(1:Rat)<=((Fl p).natAbs:Rat):=by
  have:((1:Nat):Rat)<=((Fl p).natAbs:Rat):=Zm.2 hpos;exact this
 have hm0:(0:Rat)<=((most (p.take (p.length-1)):Nat):Rat):=Xh;have hb:=NB hl;have hx1:=Zc hx (show (0:Rat)<=((Fl p).natAbs:Rat) by grind);have hx2:1<=Fh x:=by
  rcases Ga 1 (Fh x) with h | h
  ·exact h
  ·exfalso;have:=Yx h (show (0:Rat)<((Fl p).natAbs:Rat) by grind);grind
 have key:=lR (m:=most (p.take (p.length-1))) hx2 p lp (λz hz=>Qny z hz) hl (by grind);obtain ⟨s,hs⟩:∃ s:Int,s=Int.sign (Fl p)*(if x<0/\p.length % 2=0 then -1 else 1):=⟨_,rfl⟩;rw [<-hs] at key;have hsv:s=1\/s=-1:=by
  rw [hs];rcases Kc hl with h | h
  ·rw [J3 h]; split <;> simp
  ·rw [Yp h]; split <;> simp
 have hsg:H7 p x=s/\1<=Fh (U7 p x):=by
  rw [Nc];rcases hsv with e | e
  ·rw [e] at key ⊢;have key:((Fl p).natAbs:Rat)<=U7 p x:=by simpa using key
   exact ⟨Ht.2 (by grind),by unfold Fh; rw [if_neg (by grind)]; grind⟩
  ·rw [e] at key ⊢;have key:((Fl p).natAbs:Rat)<=U7 p x*(-1):=by simpa using key
   exact ⟨S6.2 (by grind),by unfold Fh; rw [if_pos (by grind)]; grind⟩
 refine ⟨hsg.2,λh=>?_,λh=>?_⟩
 ·rw [hsg.1,hs,if_neg λh'=>by have:=h'.1; grind]; unfold UW; omega
 ·rw [hsg.1,hs]; unfold ZK;by_cases he:p.length % 2=0
  ·rw [if_pos ⟨h,he⟩,if_pos he]; omega
  ·rw [if_neg λh'=>he h'.2,if_neg he]; omega
theorem JG {f g:Uj->Int}:∀ {l:Uk} (s:Nat×Int),(∀ p∈l,f p=g p)->l.foldl (Pj f) s=l.foldl (Pj g) s
 | [],s,_=>rfl
 |
  p::l,s,h=>by
  simp only [Z9];have e:Pj f s p=Pj g s p:=by unfold Pj; rw [h p (List.mem_cons_self ..)]
  rw [e]; exact JG _ λq hq=>h q (Qg _ hq)
theorem lW:∀ (l:Uk),(∀ p∈l,U9 p/\p.length≠0)->∃ X:Rat,0<X/\∀ x,X≤x->(∀ p∈l,H7 p x=UW p)/\∀ p∈l,H7 p (-x)=ZK p
 | [],_=>⟨1,by decide,λx _=>⟨(λp hp=>by cases hp),(λp hp=>by cases hp)⟩⟩
 |
  p::l,h=>by
  obtain ⟨X,hX,hl⟩:=lW l λq hq=>h q (Qg _ hq)
  obtain ⟨tp,lp⟩:=h p (Qx ..);refine ⟨X+Fh (Gq p),by have:=Hp (Gq p); grind,λx hx=>?_⟩;have hb0:=Hp (Gq p);have hb1:Gq p<=Fh (Gq p):=by unfold Fh; split <;> grind
  obtain ⟨l1,l2⟩:=hl x (by grind);have e1:Fh x=x:=by unfold Fh; rw [if_neg (by grind)]
  have e2:Fh (-x)=x:=by rw [Ef,e1]
  refine ⟨λq hq=>?_,λq hq=>?_⟩
  ·rcases Qm.1 hq with rfl | hq
   ·exact (sU tp lp (x:=x) (by rw [e1]; grind)).2.1 (by grind)
   ·exact l1 q hq
  ·rcases Qm.1 hq with rfl | hq
   ·exact (sU tp lp (x:=-x) (by rw [e2]; grind)).2.2 (by grind)
   ·exact l2 q hq
theorem cK {q:Uj} {L:Un} (hS:GH (cz q) L) (tq:U9 q) (lq:q.length≠0) {x y:Rat} (hxy:x<y) (h:Gq q<=x\/y<=-Gq q) (hb:0<Gq q):vv L x=vv L y:=by
 rcases Classical.em (vv L x=vv L y) with e | e
 ·exact e
 ·exfalso;obtain ⟨r,r1,r2,r3⟩:=yI hS hxy e (d:=1) (by decide);have:=(sU tq lq (x:=r) (by rcases h with h | h <;> (unfold Fh; split <;> grind))).1;rw [U8] at r3; grind
theorem GN {p:Uj} (h:Fl p≠0):1<=Gq p:=by
 have hb:=NB h;have hp:=nat_pos (show 0<(Fl p).natAbs by omega);have hm0:(0:Rat)<=((most (p.take (p.length-1)):Nat):Rat):=Xh;rcases Ga 1 (Gq p) with h' | h'
 ·exact h'
 ·have:=Yx h' hp; grind
theorem Qb7 {q:Uj} {l:Uk} (hS:GH (cz q) ((q::l).map cz)) (hl:∀ p∈q::l,U9 p/\p.length≠0):JJ (q::l)=(vv ((q::l).map cz) (-Gq q):Int)-(vv ((q::l).map cz) (Gq q):Int):=by
 obtain ⟨tq,lq⟩:=hl q (Qx ..);have hb:=GN (Eb tq lq);obtain ⟨X,hX,hx⟩:=lW (q::l) hl;obtain ⟨h1,h2⟩:=hx (X+Gq q) (by grind);have e1:Cn UW (q::l)=vv ((q::l).map cz) (X+Gq q):=by
  rw [<-QA]; unfold Co Cn;rw [JG (f:=UW) (g:=λp=>H7 p (X+Gq q)) (0,0) λp hp=>(h1 p hp).symm]
 have e2:Cn ZK (q::l)=vv ((q::l).map cz) (-(X+Gq q)):=by
  rw [<-QA]; unfold Co Cn;rw [JG (f:=ZK) (g:=λp=>H7 p (-(X+Gq q))) (0,0) λp hp=>(h2 p hp).symm]
 unfold JJ;rw [e1,e2,cK hS tq lq (x:=-(X+Gq q)) (y:=-Gq q) (by grind) (.inr Qp) (by grind),<-cK hS tq lq (x:=Gq q) (y:=X+Gq q) (by grind) (.inl Qp) (by grind)]
theorem Qt9 {f:Um} {L:Un} (hS:GH f L) {x y:Rat} (hxy:x<y) (hv:vv L y+2<=vv L x):∃ m,x<m/\m<y/\vv L m<vv L x/\vv L y<vv L m/\ev f m≠0:=by
 obtain ⟨R,hR,hx,hy⟩:=zW x y;obtain ⟨e,ep,he⟩:=Qj7 hS R hR;have key:∀ n:Nat,∀ x,Fh x<=R->x<y->vv L y+2<=vv L x->y-x<=(n:Rat)*e->∃ m,x<m/\m<y/\vv L m<vv L x/\vv L y<vv L m:=by
  intro n
  induction n with
  | zero=>intro x _ hxy _ hn; rw [show ((0:Nat):Rat)=0 from rfl] at hn; exfalso; clear he; grind
  |
   succ n ih =>
   intro x hx hxy hv hn;have hn':(((n+1:Nat):Rat))=(n:Rat)+1:=by push_cast; rfl
   rw [hn'] at hn;rcases Ga (y-x) e with h1 | h1
   ·have:=he x y hx hy hxy h1; omega
   ·have hm:Fh (x+e)<=R:=US hx hy (by clear he ih; grind) (by clear he ih; grind);have h2:=he x (x+e) hx hm (by clear he ih; grind) (by clear he ih; grind);have h3:=As hS (show x<x+e by clear he ih; grind);by_cases h4:vv L x=vv L (x+e)
    ·obtain ⟨m,m1,m2,m3,m4⟩:=ih (x+e) hm (by clear he ih; grind) (by omega) (by clear he ih; grind);exact ⟨m,by clear he ih; grind,m2,by omega,m4⟩
    ·exact ⟨x+e,by clear he ih; grind,by clear he ih; grind,by omega,by omega⟩
 obtain ⟨n,hn⟩:=ZR (z:=y-x) ep;obtain ⟨m,m1,m2,m3,m4⟩:=key n x hx hxy hv hn;rcases Classical.em (ev f m=0) with h0 | h0
 ·-- a little farther on
  obtain ⟨e2,e2p,hl⟩:=loc hR hS (w:=f) (u:=[1]) (λt=>by rw [Rw]; grind);obtain ⟨d,dp,d1,d2⟩:=min2 (a:=e2) (b:=(y-m) / 2) e2p (E5 (by clear he key hl; grind) (by decide));have h2:(y-m) / 2*2=y-m:=Hb (by decide);have hmR:Fh m<=R:=US hx hy (Qr m1) (Qr m2);have hmR2:Fh (m+d)<=R:=US hx hy (by clear he key hl; grind) (by clear he key hl; grind);rcases hl m (m+d) hmR hmR2 (by clear he key hl; grind) (by clear he key hl; grind) with ⟨p1,p2,_⟩ | ⟨_,p1,_,p3,_⟩
  ·refine ⟨m+d,by clear he key hl; grind,by clear he key hl; grind,by omega,by omega,λh'=>?_⟩;have:=p2.s;rw [Gj.2 h'] at this; exact p2.n this.symm
  ·rw [Gj.2 h0] at p3; exact absurd p3.symm p1
 ·exact ⟨m,m1,m2,m3,m4,h0⟩
theorem Qpt {q:Uj} {L:Un} (hS:GH (cz q) L) (tq:U9 q) (nq:q.length<=9) (lq:2<=q.length) {lo hi:Rat} (hl:lo<hi) (hv:vv L hi+2<=vv L lo):1<(hi-lo)*((2^(Tr q q+1):Nat):Rat):=by
 rcases Ga ((hi-lo)*((2^(Tr q q+1):Nat):Rat)) 1 with hw | hw
 ·exfalso;have hpow:(0:Rat)<=((2^(Tr q q+1):Nat):Rat):=Xh;obtain ⟨m,m1,m2,m3,m4,m0⟩:=Qt9 hS hl hv;obtain ⟨R,hR,r1,r2⟩:=zW lo hi;have hd:=Ci m0;obtain ⟨d,dp,_,db⟩:=Hf (b:=EL R (cz q)) (d:=Fh (ev (cz q) m) / 2) (Mw hR _) (E5 hd (by decide));have hd2:Fh (ev (cz q) m) / 2*2=Fh (ev (cz q) m):=Hb (by decide);have hmR:Fh m<=R:=US r1 r2 (Qr m1) (Qr m2);have hnear:∀ r,Fh r<=R->Fh (ev (cz q) r)<Fh (ev (cz q) m) / 2->d<Fh (r-m):=λr hr hs=>by
   rcases Ga (Fh (r-m)) d with h | h
   ·exfalso;have h1:=P7 (p:=cz q) hmR hr hR h db;have h2:=T0 (ev (cz q) m-ev (cz q) r) (ev (cz q) r);rw [show ev (cz q) m-ev (cz q) r+ev (cz q) r=ev (cz q) m by grind,iZ] at h2;grind
   ·exact h
  refine Qgb (R:=R+1) (d:=d+d) tq tq nq nq lq lq (by grind) (by grind) λe ep=>?_
  obtain ⟨e',ep',e1,e2⟩:=min2 (a:=e) (b:=Fh (ev (cz q) m) / 2) ep (E5 hd (by decide));obtain ⟨x,x1,x2,x3⟩:=yI hS m1 (by omega) ep';obtain ⟨y,y1,y2,y3⟩:=yI hS m2 (by omega) ep';have hxR:Fh x<=R:=US r1 r2 x1 (by grind);have hyR:Fh y<=R:=US r1 r2 (by grind) y2;have nx:=hnear x hxR (by grind);have ny:=hnear y hyR (by grind);have ex:Fh (x-m)=m-x:=by unfold Fh; split <;> grind
  have ey:Fh (y-m)=y-m:=by unfold Fh; split <;> grind
  rw [ex] at nx;rw [ey] at ny;have exy:Fh (x-y)=y-x:=by unfold Fh; split <;> grind
  refine ⟨x,y,by grind,by grind,by rw [exy]; grind,?_,by rw [<-U8]; grind,by rw [<-U8]; grind⟩;rw [exy];exact Zh (Zc (show y-x<=hi-lo by grind) hpow) hw
 ·exact hw
end Orq
