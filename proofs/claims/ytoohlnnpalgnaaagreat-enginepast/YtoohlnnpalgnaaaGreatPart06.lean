/- T10 T11 T12 T13 T14 T15 T16 T17 T18 T19 T20 T21 T22 T23 -/
import Derived.Test.YtoohlnnpalgnaaaGreatPart05
import Derived.Test.YtoohlnnpalgnaaaGreatPart00
set_option linter.all false
namespace Orq
def IX(A B:Un)(b J J' n k j:Nat):Int:=if n<b*J then PL (n / J) (n % J) (fA A) k j else PL ((n-b*J) / J') ((n-b*J) % J') (gc B) k j
theorem Qkq{F:Nat->Nat->Int}{h:Nat}(hF:∀k j,(F k j).natAbs<=h)(i j' k j:Nat):(PL i j' F k j).natAbs<=h:=by
 unfold PL;split
 ·split
  ·exact hF _ _
  ·exact Qh _
 ·exact Qh _
theorem Qsc{i b J j:Nat}(hi:i<b)(hj:j<J):i*J+j<b*J:=by
 have:(i+1)*J<=b*J:=Q0 J hi;rw[Xa]at this;omega
theorem RV{i J j:Nat}(hj:j<J):(i*J+j) / J=i/\(i*J+j) % J=j:=by
 rw[Zq,Ua (by omega),Ub,V2 hj,Xt hj];exact⟨by omega,rfl⟩
theorem zD(A B:Un)(a b J J':Nat)(v:Nat->Int)(k j:Nat):sm (b*J+a*J') (λn=>IX A B b J J' n k j*v n) =
 (sm b λi=>sm J λj1=>PL i j1 (fA A) k j*v (i*J+j1))+sm a λi=>sm J' λj1=>PL i j1 (gc B) k j*v (b*J+(i*J'+j1)):=by
 rw[cI,cO,cO];congr 1
 ·refine Lm b λi hi=>Lm J λj1 hj=>?_
  unfold IX;rw[if_pos (Qsc hi hj),(RV hj).1,(RV hj).2]
 ·refine Lm a λi hi=>Lm J' λj1 hj=>?_
  unfold IX;rw[if_neg (by omega),Jk,(RV hj).1,(RV hj).2]
theorem Qx2(A:Un)(v:Nat->Int){i J k j:Nat}(hj:j<J):(sm J λj1=>PL i j1 (fA A) k j*v (i*J+j1))=if i<=k then A.getD (k-i) 0*v (i*J+j)else 0:=by
 rw[EN (k:=j) J hj λj1 _ hne=>?_]
 ·unfold PL fA;by_cases h:i<=k
  ·rw[if_pos h,if_pos h,if_pos (Ql _),if_pos (Ki _)]
  ·rw[if_neg h,if_neg h,Yy]
 ·unfold PL fA;by_cases h:i<=k
  ·rw[if_pos h];by_cases h':j1<=j
   ·rw[if_pos h',if_neg (by omega),Yy]
   ·rw[if_neg h',Yy]
  ·rw[if_neg h,Yy]
section
variable{A B:Un}{a b J J':Nat}(hA:A.length=a+1)(hB:B.length=b+1)(lA:A.getD a 0≠0)(lB:B.getD b 0≠0)(hJ:J=J'+b){v:Nat->Int}(hW:∀k j,k<a+b->j<J->sm (b*J+a*J') (λn=>IX A B b J J' n k j*v n)=0)
include hA lA hW in
theorem Qr1{jj:Nat}(hj:jj<J)(hV:∀k,a<=k->k<a+b->(sm a λi=>sm J' λj1=>PL i j1 (gc B) k jj*v (b*J+(i*J'+j1)))=0):∀d i,i<b->b-i<=d->v (i*J+jj)=0:=by
 intro d
 induction d with
 |zero=>intro i hi hd;omega
 |
  succ d ih =>
  intro i hi hd;have h1:=hW (i+a) jj (by omega) hj;rw[zD,hV (i+a) (by omega) (by omega)]at h1;rw[Lm b (λi' hi'=>Qx2 A v hj)]at h1;rw[EN (k:=i) b hi λi' hi' hne=>?_]at h1
  ·rw[if_pos (by omega),Jk,Int.add_zero]at h1;rcases Yf.1 h1 with h2|h2
   ·exact absurd h2 lA
   ·exact h2
  ·rcases Zb i i' with h|h
   ·rw[ih i' hi' (by omega)];simp
   ·rw[if_pos (by omega),Qi,Qu (by omega)];simp
include hA hB lA lB hJ hW in
theorem Qx7:∀d js,js<J'->J'-js<=d->∀i,i<a->v (b*J+(i*J'+js))=0:=by
 intro d
 induction d with
 |zero=>intro js hi hd;omega
 |
  succ d ih =>
  intro js hjs hd i hi;have hin:∀i' k,i'<a->(sm J' λj1=>PL i' j1 (gc B) k (js+b)*v (b*J+(i'*J'+j1)))=if i'=k then gc B 0 b*v (b*J+(i'*J'+js))else 0:=λi' k hi'=>by
   rw[EN (k:=js) J' hjs λj1 hj1 hne=>?_]
   ·unfold PL;by_cases h:i'<=k
    ·rw[if_pos h,if_pos (by omega),Jk];by_cases h':i'=k
     ·rw[if_pos h',h',Ki]
     ·rw[if_neg h',MM B _ _ (by omega),Yy]
    ·rw[if_neg h,if_neg (by omega),Yy]
   ·rcases Zb js j1 with h|h
    ·rw[ih j1 hj1 (by omega) i' hi',Wb]
    ·unfold PL;by_cases h':i'<=k
     ·rw[if_pos h',if_pos (by omega),MM B _ _ (by omega),Yy]
     ·rw[if_neg h',Yy]
  have hU:=Qr1 hA lA hW (jj:=js+b) (by omega) (λk hk hk'=>VX a λi' hi'=>by rw[hin i' k hi',if_neg (by omega)]) (b+1);have h1:=hW i (js+b) (by omega) (by omega);rw[zD,Lm a (λi' hi'=>hin i' i hi')]at h1;rw[VX b λi' hi'=>by
   rw[Qx2 A v (by omega),hU i' hi' (by omega)];simp]at h1
  rw[EN (k:=i) a hi λi' hi' hne=>if_neg hne,if_pos rfl,Int.zero_add]at h1;rcases Yf.1 h1 with h2|h2
  ·have:=Qhp B b hB;rw[h2]at this;omega
  ·exact h2
include hA hB lA lB hJ hW in
theorem Qd4:∀n,n<b*J+a*J'->v n=0:=by
 intro n hn;have hV:=Qx7 hA hB lA lB hJ hW;rcases Zb n (b*J)with h|h
 ·have hJp:0<J:=by
   rcases Q3 J with e|e
   ·rw[e,Yz]at h;omega
   ·exact e
  have e1:=Z5 n hJp;have e2:n / J<b:=X8 (by rw[Zq];exact h);have:=Qr1 hA lA hW e1 (λk _ _=>VX a λi hi=>VX J' λj1 hj1=>by rw[hV J' j1 hj1 (by omega) i hi,Wb]) (b+1) (n / J) e2 (Qa (Nat.sub_le _ _) (Nat.le_succ _));rwa[Zq,Xe]at this
 ·have hJp:0<J':=by
   rcases Q3 J' with e|e
   ·rw[e,Yz]at hn;omega
   ·exact e
  have e1:=Z5 (n-b*J) hJp;have e2:(n-b*J) / J'<a:=X8 (by rw[Zq J' a];omega);have:=hV J' _ e1 (by omega) _ e2;rw[Zq ((n-b*J) / J'),Xe]at this;rwa[show b*J+(n-b*J)=n by omega]at this
end
theorem YA{R x:Rat}(h1:1<=R)(hx:Fh x<=R):∀k:Nat,Fh (x^k)<=R^k/\1<=R^k
 | 0=>by rw[Xg,Xg];exact⟨by decide,by decide⟩
 |
  k+1=>by
  obtain⟨i1,i2⟩:=YA h1 hx k;rw[Z7,Z7];have:=Ck (a:=1) (c:=1) (by decide) i2 (by decide) h1;exact⟨Ha i1 hx,by grind⟩
theorem oC{R:Rat}(h1:1<=R){i:Nat}:∀k,i<=k->R^i<=R^k
 | 0,h=>by rw[show i=0 by omega];exact Qp
 |
  k+1,h=>by
  rcases Vl h with e|e
  ·have:=oC h1 (i:=i) k (by omega);have h2:=(YA h1 (x:=0) (by rw[Rh];grind) k).2;rw[Z7];have:=Ck (a:=R^k) (b:=R^k) (c:=1) (d:=R) (by grind) Qp (by decide) h1;grind
  ·rw[e];exact Qp
theorem Qkp{F:Nat->Nat->Int}{i j' K J:Nat}{x y R X:Rat}{K2 J2:Nat}(h1:1<=R)(hx:Fh x<=R)(hy:Fh y<=R)(hK:K=i+K2)(hJ:J=j'+J2)(hF:E2 F K2 J2 x y=X):Fh (E2 (PL i j' F) K J x y)<=R^(K+J)*Fh X:=by
 subst hK;subst hJ;rw[CL,hF,Ih];have a1:=(YA h1 hy i).1;have a2:=(YA h1 hx j').1;have a3:=Ha a1 a2;rw[<-GV]at a3;have a4:=oC h1 (i:=i+j') (i+K2+(j'+J2)) (by omega);exact Ck (Ht _) (Zl a3 a4) (Ht _) Qp
theorem Qv5{A B:Un}{a b h:Nat}(hA:A.length=a+1)(hB:B.length=b+1)(lA:A.getD a 0≠0)(lB:B.getD b 0≠0)(ha:0<a)(hb:0<b)(h0:1<=h)(bA:∀k,(A.getD k 0).natAbs<=h)(bB:gB B<=h){J J' N H:Nat}(hJ:J=2*(a*b))(hJ':J=J'+b)(hN:N=b*J+a*J')(hH:H=(2*(N*h))^(2*(a+b-1))) :
 ∃w:Nat->Int,(∃j,j<J/\w j≠0)/\(∀j,(w j).natAbs<=N*(h*H))/\∀R:Rat,1<=R->∃C:Rat,0<=C/\∀x y,Fh x<=R->Fh y<=R->Fh (sq J λj=>(w j:Rat)*x^j)<=C*(Fh (U7 A y)+Fh (U7 B (y-x))):=by
 have hab:0<a*b:=J6 ha hb;have hbd:∀n k j,(IX A B b J J' n k j).natAbs<=h:=λn k j=>by
  unfold IX
  split
  ·exact Qkq (λk j=>by unfold fA;split;exact bA k;exact Nat.zero_le _) _ _ _ _
  ·exact Qkq (λk j=>Qa (Qho B k j) bB) _ _ _ _
 have hJp:0<J:=by omega
 have hNp:1<=N:=by
  have:0<b*J:=J6 hb hJp;omega
 have hNh:1<=N*h:=J6 hNp h0;obtain⟨E,hE⟩:=nmE ((a+b-1)*J);have hNE:N=E+a*b:=by
  have e1:(a+b-1)*J+J=(a+b)*J:=by
   rw[<-Xa];congr 1;omega
  have e2:a*J=a*J'+a*b:=by rw[hJ',Xj]
  rw[X3]at e1;omega
 have hc:(2*(N*(h*H))+1)^E<(H+1)^N:=by
  have c1:2*(N*(h*H))+1<=2*(N*h)*(H+1):=by
   rw[Xj,Yw,Xy 2,Xy N];omega
  refine Z4 (Nat.pow_le_pow_left c1 E) ?_;rw[Nat.mul_pow,hNE,Xf,Zq];refine Nat.mul_lt_mul_of_pos_left ?_ (Z3 (by omega));have e1:(2*(N*h))^E=H^(a*b):=by
   rw[hH,<-Ks,hE,hJ];congr 1;rw[Zq 2 (a+b-1),Xy]
  rw[<-hNE,e1];exact Nat.pow_lt_pow_left (by omega) (by omega)
 obtain⟨v,v1,⟨n0,n1,n2⟩,v3⟩:=Qv9 (M:=λe n=>IX A B b J J' n (e / J+1) (e % J)) (h:=h) (N:=N) (E:=E) (H:=H) (λe n=>hbd n _ _) hc;have hW:∀k j,1<=k->k<a+b->j<J->sm N (λn=>IX A B b J J' n k j*v n)=0:=λk j k1 k2 hj=>by
  have:=v3 ((k-1)*J+j) (by rw[hE];exact Qsc (by omega) hj);rwa[(RV hj).1,(RV hj).2,show k-1+1=k by omega]at this
 refine⟨λj=>sm N λn=>IX A B b J J' n 0 j*v n,?_,λj=>?_,λR hR=>?_⟩
 ·rcases Classical.em (∃j,j<J/\(sm N λn=>IX A B b J J' n 0 j*v n)≠0)with e|e
  ·exact e
  ·exfalso;refine n2 (Qd4 hA hB lA lB hJ' (v:=v) (λk j hk hj=>?_) n0 (by rw[<-hN];exact n1));rw[<-hN];rcases Q3 k with e'|e'
   ·subst e';rcases Classical.em ((sm N λn=>IX A B b J J' n 0 j*v n)=0)with e2|e2
    ·exact e2
    ·exact absurd ⟨j,hj,e2⟩ e
   ·exact hW k j e' hk hj
 ·refine Qkw N λn _=>?_
  rw[J9];exact Zc (hbd n 0 j) (v1 n)
 ·have hRp:∀k:Nat,1<=R^k:=λk=>(YA hR (x:=0) (by rw[Rh];grind) k).2
  have hHn:(0:Rat)<=(H:Rat):=Xi;have hNn:(0:Rat)<=(N:Rat):=Xi;refine⟨(N:Rat)*((H:Rat)*R^(a+b+J)),Be hNn (Be hHn (by have:=hRp (a+b+J);grind)),λx y hx hy=>?_⟩;have e1:(sq J λj=>((sm N λn=>IX A B b J J' n 0 j*v n:Int):Rat)*x^j)=E2 (λk j=>sm N λn=>IX A B b J J' n k j*v n) (a+b) J x y:=by
   unfold E2;obtain⟨m,hm⟩:∃m,a+b=m+1:=⟨a+b-1,by omega⟩;rw[hm,O1,Cx (n:=m)]
   ·have:(sq J λj=>((sm N λn=>IX A B b J J' n 0 j*v n:Int):Rat)*(y^0*x^j))=sq J λj=>((sm N λn=>IX A B b J J' n 0 j*v n:Int):Rat)*x^j:=Pp J λj _=>by rw[Xg];grind
    rw[this];grind
   ·intro k hk;refine Cx J λj hj=>?_
    show((sm N λn=>IX A B b J J' n (k+1) j*v n:Int):Rat)*_=0;rw[hW (k+1) j (by omega) (by omega) hj,show((0:Int):Rat)=0 from rfl];grind
  rw[e1,Qg5];have key:∀n,n<N->Fh ((v n:Rat)*E2 (IX A B b J J' n) (a+b) J x y)<=(H:Rat)*(R^(a+b+J)*(Fh (U7 A y)+Fh (U7 B (y-x)))):=λn hn=>by
   have hvn:Fh (v n:Rat)<=(H:Rat):=by
    have h1:=v1 n;have h2:(v n)<=(H:Int):=by omega
    have h3:-(H:Int)<=v n:=by omega
    have h2:=Jb.2 h2;have h3:=Jb.2 h3;rw[Vm]at h3;rw[Mh];exact⟨h3,h2⟩
   refine Ha hvn ?_;have hRk:=hRp (a+b+J);have n1:=Ht (U7 A y);have n2:=Ht (U7 B (y-x));rcases Zb n (b*J)with h|h
   ·have e:IX A B b J J' n=PL (n / J) (n % J) (fA A):=by funext k j;unfold IX;rw[if_pos h]
    have d1:n / J<b:=X8 (by rw[Zq];exact h);have d2:=Z5 n hJp;rw[e];refine Zl (Qkp (K2:=a+b-n / J) (J2:=J-n % J) hR hx hy (by omega) (by omega) (X:=U7 A y) ?_) (Ck (by grind) Qp n1 (by grind));obtain⟨m,hm⟩:∃m,J-n % J=m+1:=⟨J-n % J-1,by omega⟩;rw[hm];exact Qx9 A _ _ x y (by omega)
   ·have e:IX A B b J J' n=PL ((n-b*J) / J') ((n-b*J) % J') (gc B):=by funext k j;unfold IX;rw[if_neg (by omega)]
    have hJp':0<J':=by
     rcases Q3 J' with e|e
     ·rw[e,Yz]at hN;omega
     ·exact e
    have d1:(n-b*J) / J'<a:=X8 (by rw[Zq J' a];omega);have d2:=Z5 (n-b*J) hJp';rw[e];refine Zl (Qkp (K2:=a+b-(n-b*J) / J') (J2:=J-(n-b*J) % J') hR hx hy (by omega) (by omega) (X:=U7 B (y-x)) ?_) (Ck (by grind) Qp n2 (by grind));exact Quh x y B _ _ (by omega) (by omega)
  have:=Qsr N key;refine Zl this ?_;have:(N:Rat)*((H:Rat)*(R^(a+b+J)*(Fh (U7 A y)+Fh (U7 B (y-x)))))=(N:Rat)*((H:Rat)*R^(a+b+J))*(Fh (U7 A y)+Fh (U7 B (y-x))):=by grind
  rw[this];exact Qp
end Orq
namespace Orq
theorem Qk0{w:Nat->Int}{x:Rat}{D:Rat}(hx:Fh x*2<=1)(hw:∀j,Fh (w j:Rat)<=D):∀J (k:Nat),Fh (sq J λj=>(w (k+j):Rat)*x^j)<=2*D
 | 0,k=>by have:=hw 0;have:=Ht (w 0:Rat);simp only[sq,Rh];clear hw;grind
 |
  J+1,k=>by
  have ih:=Qk0 hx hw J (k+1);rw[O1];have e:(sq J λi=>(w (k+(i+1)):Rat)*x^(i+1))=x*sq J λi=>(w (k+1+i):Rat)*x^i:=by
   rw[<-JM];exact Pp J λi _=>by rw[Z7,show k+(i+1)=k+1+i by omega];grind
  rw[e,Xg,Xm];have h1:=hw k;have h2:=Ss ((w k:Rat)*1) (x*sq J λi=>(w (k+1+i):Rat)*x^i);have h3:=Ha (x:=x) (y:=sq J λi=>(w (k+1+i):Rat)*x^i) Qp ih;have h4:=Ze hx (show(0:Rat)<=D by have:=Ht (w k:Rat);clear hw;grind);have h5:(w k:Rat)*1=w k:=by grind
  rw[h5]at h2 ⊢;clear hw;grind
theorem WY{z:Int}(h:z≠0):1<=Fh (z:Rat):=by
 unfold Fh;rcases Ke h with h|h
 ·have:((z:Int):Rat)<((0:Int):Rat):=Jo.2 h;have h2:((1:Int):Rat)<=((-z:Int):Rat):=Jb.2 (by omega);rw[if_pos (by simpa using this)];rw[Vm]at h2;simpa using h2
 ·have:((0:Int):Rat)<((z:Int):Rat):=Jo.2 h;have h2:((1:Int):Rat)<=((z:Int):Rat):=Jb.2 (by omega);rw[if_neg (by
   have:(0:Rat)<z:=by simpa using this
   grind)]
  simpa using h2
theorem nO{w:Nat->Int}{x:Rat}{D:Rat}(hD:1<=D)(hx0:0<Fh x)(hx:Fh x*(4*D)<=1)(hw:∀j,Fh (w j:Rat)<=D):∀J (k:Nat),(∃j,j<J/\w (k+j)≠0)->Fh x^J / 2<=Fh (sq J λj=>(w (k+j):Rat)*x^j)
 | 0,k,⟨j,h,_⟩=>by omega
 |
  J+1,k,⟨j,h1,h2⟩=>by
  have hx2:Fh x*2<=1:=by
   have:=Ck (a:=Fh x) (c:=2) (Qt hx0) Qp (by decide) (show(2:Rat)<=4*D by clear hw;grind);exact Zl this hx
  have hx1:Fh x<=1:=by clear hw;grind
  have hp:∀k:Nat,Fh x^k<=1/\0<=Fh x^k:=λk=>by
   induction k with
   |zero=>rw[Xg];exact⟨by decide,by decide⟩
   |
    succ k ih =>
    rw[Z7];have:=Ck ih.2 ih.1 (Qt hx0) hx1;have:=Be ih.2 (Qt hx0);constructor <;> (clear hw;grind)
  rw[O1];have e:(sq J λi=>(w (k+(i+1)):Rat)*x^(i+1))=x*sq J λi=>(w (k+1+i):Rat)*x^i:=by
   rw[<-JM];exact Pp J λi _=>by rw[Z7,show k+(i+1)=k+1+i by omega];grind
  rw[e,Xg,Xm k,show(w k:Rat)*1=w k by grind];by_cases h0:w k=0
  ·have hj:j≠0:=λe=>h2 (by rw[e];exact h0)
   have ih:=nO hD hx0 hx hw J (k+1) ⟨j-1,by omega,by rw[show k+1+(j-1)=k+j by omega];exact h2⟩;rw[h0,show((0:Int):Rat)+x*(sq J λi=>(w (k+1+i):Rat)*x^i)=x*sq J λi=>(w (k+1+i):Rat)*x^i by rw[show((0:Int):Rat)=0 from rfl];grind,Ih,Z7];have:=Z0 ih (Qt hx0);have e2:Fh x*(Fh x^J / 2)=Fh x^J*Fh x / 2:=by rw[Jn,Jn];grind
   rw[e2]at this;exact this
  ·have a1:=WY h0;have a2:=Qk0 hx2 hw J (k+1);have a3:=Ha (x:=x) (y:=sq J λi=>(w (k+1+i):Rat)*x^i) Qp a2;have a4:=Ss ((w k:Rat)+x*sq J λi=>(w (k+1+i):Rat)*x^i) (-(x*sq J λi=>(w (k+1+i):Rat)*x^i));rw[Ep,show(w k:Rat)+(x*sq J λi=>(w (k+1+i):Rat)*x^i)+-(x*sq J λi=>(w (k+1+i):Rat)*x^i)=w k by grind]at a4;have a5:=(hp (J+1)).1;have a6:Fh x^(J+1) / 2*2=Fh x^(J+1):=Hd (by decide);have a7:Fh x*(2*D)*2=Fh x*(4*D):=by grind
   clear hw hp;grind
theorem Quz{A B:Un}{a b h:Nat}(hA:A.length=a+1)(hB:B.length=b+1)(lA:A.getD a 0≠0)(lB:B.getD b 0≠0)(ha:0<a)(hb:0<b)(h0:1<=h)(bA:∀k,(A.getD k 0).natAbs<=h)(bB:gB B<=h){N D:Nat}(hN:b*(2*(a*b))+a*(2*(a*b)-b)=N)(hD:N*(h*(2*(N*h))^(2*(a+b-1)))<=D){R d:Rat}(hR:1<=R)(dp:0<d)
 (hs:∀e:Rat,0<e->∃q r,Fh q<=R/\Fh r<=R/\d<=Fh (q-r)/\Fh (q-r)*(4*(D:Rat))<=1/\Fh (U7 A q)<e/\Fh (U7 B r)<e):False:=by
 have hab:0<a*b:=J6 ha hb;have hbab:b<=a*b:=by
  have:=Q0 b (show 1<=a from ha);omega
 obtain⟨w,⟨j,hj,hw0⟩,hw,hC⟩:=Qv5 hA hB lA lB ha hb h0 bA bB (J:=2*(a*b)) (J':=2*(a*b)-b) rfl (by omega) hN.symm rfl;obtain⟨C,hC0,hC⟩:=hC (2*R) (by grind);have hw':∀j,Fh (w j:Rat)<=(D:Rat):=λj=>by
  have h1:=Qa (hw j) hD;have h2:w j<=(D:Int):=by omega
  have h3:-(D:Int)<=w j:=by omega
  have h2:=Jb.2 h2;have h3:=Jb.2 h3;rw[Vm]at h3;rw[Mh];exact⟨h3,h2⟩
 have hD1:(1:Rat)<=(D:Rat):=by
  have:=WY hw0;exact Zl this (hw' j)
 have hdJ:0<d^(2*(a*b)) / 2:=Ae (Rat.pow_pos dp) (by decide);obtain⟨e,ep,_,he⟩:=Hh (b:=C*2) (d:=d^(2*(a*b)) / 2) (by grind) hdJ;obtain⟨q,r,q1,r1,d1,d2,aq,br⟩:=hs e ep;have h1:=hC (q-r) q (by
  have:=Ss q (-r);rw[Ep]at this;have:q-r=q+-r:=by grind
  grind) (by grind)
 rw[show q-(q-r)=r by grind]at h1;have h2:=nO (x:=q-r) hD1 (by grind) d2 hw' (2*(a*b)) 0 ⟨j,hj,by rw[Zy];exact hw0⟩;simp only[Zy]at h2;have h3:C*(Fh (U7 A q)+Fh (U7 B r))<=C*(e+e):=Z0 (by grind) hC0;have h4:d^(2*(a*b))<=Fh (q-r)^(2*(a*b)):=by
  generalize 2*(a*b)=J
  induction J with
  |zero=>rw[Xg,Xg];exact Qp
  |
   succ J ih =>
   rw[Z7,Z7];exact Ck (Qt (Rat.pow_pos dp)) ih (Qt dp) d1
 have h5:d^(2*(a*b)) / 2*2=d^(2*(a*b)):=Hd (by decide);have h6:Fh (q-r)^(2*(a*b)) / 2*2=Fh (q-r)^(2*(a*b)):=Hd (by decide);clear hC hs hw hw';grind
def HD(p:Uq)(n:Nat):Prop:=p.getD n 0≠0/\∀k,n<k->p.getD k 0=0
theorem Rj:∀(p q:Uq) (k:Nat),(Su p q).getD k 0=p.getD k 0+q.getD k 0
 | [],q,k=>by simp only[Su,Kt];grind
 |a::p,[],k=>by simp only[Su,Kt];grind
 |a::p,b::q,0=>by simp only[Su,Zt]
 |a::p,b::q,k+1=>by simp only[Su,Q4];exact Rj p q k
theorem So(c:Rat):∀(p:Uq) (k:Nat),(D2 c p).getD k 0=c*p.getD k 0
 | [],k=>by simp only[D2,X6,Kt];grind
 |a::p,0=>by simp[D2]
 |a::p,k+1=>by have:=So c p k;simp only[D2,Zz,Q4]at *;exact this
theorem Qhx{p:Uq}{k:Nat}(h:∀x∈p,x=0):p.getD k 0=0:=by
 rw[Qi];cases e:p[k]? with
 |none=>rfl
 |some x=>exact h x (Qc e)
theorem Dv{p q:Uq}(h:∀t,ev p t=ev q t)(k:Nat):p.getD k 0=q.getD k 0:=by
 have h1:=Qhx (k:=k) (WA (p:=Su p (D2 (-1) q)) λt _ _=>by rw[Gy,Gs,h t];grind);rw[Rj,So]at h1;grind
theorem D7:∀{p:Uq},(∀k,p.getD k 0=0)->∀t,ev p t=0
 | [],_,t=>rfl
 |
  a::p,h,t=>by
  have h0:=h 0;have h1:=D7 (p:=p) (λk=>by have:=h (k+1);rwa[Q4]at this) t;rw[Zt]at h0;simp only[ev,h0,h1];grind
theorem DL:∀(p:Uq),(∀t,ev p t=0)\/∃n,n<p.length/\HD p n
 | []=>.inl λ_=>rfl
 |
  a::p=>by
  rcases DL p with h|⟨n,hn,h1,h2⟩
  ·rcases Classical.em (a=0)with e|e
   ·exact .inl λt=>by simp only[ev,e,h t];grind
   ·refine .inr ⟨0,by simp,by simpa using e,λk hk=>?_⟩;obtain⟨m,rfl⟩:∃m,k=m+1:=⟨k-1,by omega⟩;rw[Q4];exact(Dv (p:=p) (q:=[]) h m).trans (by simp)
  ·refine .inr ⟨n+1,by simp;omega,by rw[Q4];exact h1,λk hk=>?_⟩;obtain⟨m,rfl⟩:∃m,k=m+1:=⟨k-1,by omega⟩;rw[Q4];exact h2 m (by omega)
theorem Qsa{p q:Uq}{n:Nat}(h:∀t,ev p t=ev q t)(hp:HD p n):HD q n :=
 ⟨by rw[<-Dv h];exact hp.1,λk hk=>by rw[<-Dv h];exact hp.2 k hk⟩
theorem Qsb{p:Uq}{n m:Nat}(h:HD p n)(h':HD p m):n=m:=by
 rcases Kn n m with e|e|e
 ·exact absurd (h.2 m e) h'.1
 ·exact e
 ·exact absurd (h'.2 n e) h.1
theorem aR{p:Uq}{n:Nat}(h:HD p n):¬∀t,ev p t=0:=λh0=>h.1 ((Dv (p:=p) (q:=[]) h0 n).trans (by simp))
theorem SU{p q:Uq}(h:∀k,p.getD k 0=0)(k:Nat):(G5 p q).getD k 0=0:=by
 have:=Dv (p:=G5 p q) (q:=[]) (λt=>by rw[Ff,D7 h t];simp only[ev];grind) k;rw[this];simp
theorem DI:∀{p q:Uq} {m n:Nat},HD p m->HD q n->HD (G5 p q) (m+n)
 | [],q,m,n,h,_=>absurd (by simp) h.1
 |
  a::p,q,0,n,h,h'=>by
  have h1:∀k,p.getD k 0=0:=λk=>by have:=h.2 (k+1) (by omega);rwa[Q4]at this
  have h2:∀k,(G5 (a::p) q).getD k 0=a*q.getD k 0:=λk=>by
   simp only[G5];rw[Rj,So];cases k with
   |zero=>rw[Zt];grind
   |succ k=>rw[Q4,SU h1];grind
  have h3:=h.1;rw[Zt]at h3;refine⟨?_,λk hk=>?_⟩
  ·rw[h2,Zy];exact λh=>(Y3.1 h).elim h3 h'.1
  ·rw[h2,h'.2 k (by omega)];grind
 |
  a::p,q,m+1,n,h,h'=>by
  have ih:=DI (p:=p) (q:=q) (m:=m) ⟨by have:=h.1;rwa[Q4]at this,λk hk=>by have:=h.2 (k+1) (by omega);rwa[Q4]at this⟩ h';refine⟨?_,λk hk=>?_⟩
  ·simp only[G5];rw[Rj,So,show m+1+n=(m+n)+1 by omega,Q4,h'.2 _ (by omega)];have:=ih.1;grind
  ·obtain⟨j,rfl⟩:∃j,k=j+1:=⟨k-1,by omega⟩;simp only[G5];rw[Rj,So,Q4,h'.2 _ (by omega),ih.2 j (by omega)];grind
def ZP(g f:Uq):Prop:=∃u,∀t,ev f t=ev g t*ev u t
theorem dvd_refl(f:Uq):ZP f f:=⟨[1],λt=>by rw[Td];grind⟩
theorem dvd_trans{f g h:Uq}:ZP f g->ZP g h->ZP f h
 |⟨u,hu⟩,⟨v,hv⟩=>⟨G5 u v,λt=>by rw[hv,hu,Ff];grind⟩
theorem gU{p q:Uq}(h:∀t,ev p t*ev q t=0)(hp:¬∀t,ev p t=0):∀t,ev q t=0:=by
 rcases DL p with h1|⟨m,_,h1⟩
 ·exact absurd h1 hp
 ·rcases DL q with h2|⟨n,_,h2⟩
  ·exact h2
  ·exact absurd (λt=>by rw[Ff];exact h t) (aR (DI h1 h2))
theorem mF{p q r:Uq}(hp:¬∀t,ev p t=0)(h:∀t,ev p t*ev q t=ev p t*ev r t)(t:Rat):ev q t=ev r t:=by
 have:=gU (p:=p) (q:=Su q (D2 (-1) r)) (λt=>by rw[Gy,Gs];have:=h t;grind) hp t;rw[Gy,Gs]at this;grind
theorem Qgy{b:Uq}{n:Nat}(hb:HD b n):∀(l:Nat) (a:Uq),(∀k,l<=k->a.getD k 0=0)->∃q r,(∀t,ev a t=ev q t*ev b t+ev r t)/\∀k,n<=k->r.getD k 0=0
 | 0,a,ha=>⟨[],a,λt=>by simp only[ev];grind,λk _=>ha k (Qh _)⟩
 |
  l+1,a,ha=>by
  rcases Zb l n with h|h
  ·exact⟨[],a,λt=>by simp only[ev];grind,λk hk=>ha k (by omega)⟩
  ·-- the leading term is taken away
   obtain⟨c,hc⟩:=nmE (a.getD l 0 / b.getD n 0);have hcb:c*b.getD n 0=a.getD l 0:=by rw[hc];exact Zj hb.1
   obtain⟨m,hm⟩:∃m:Uq,m=List.replicate (l-n) 0++[c]:=⟨_,rfl⟩;have hsh:∀(i:Nat) (k:Nat),(G5 (List.replicate i 0++[c]) b).getD k 0=if i<=k then c*b.getD (k-i) 0 else 0:=λi=>by
    induction i with
    |zero=>intro k;simp only[Wl,Yj,G5];rw[Rj,So];cases k <;> simp <;> grind
    |
     succ i ih =>
     intro k;simp only[J5,Xb,G5];rw[Rj,So];cases k with
     |zero=>rw[Zt,if_neg (by omega)];grind
     |
      succ k =>
      rw[Q4,ih k];by_cases h:i<=k
      ·rw[if_pos h,if_pos (by omega),Nat.add_sub_add_right];grind
      ·rw[if_neg h,if_neg (by omega)];grind
   obtain⟨q,r,h1,h2⟩:=Qgy hb l (Su a (D2 (-1) (G5 m b))) λk hk=>by
    rw[Rj,So,hm,hsh,if_pos (by omega)];rcases Vl hk with e|e
    ·rw[ha k (by omega),hb.2 _ (by omega)];grind
    ·subst e;rw[show l-(l-n)=n by omega,hcb];grind
   refine⟨Su q m,r,λt=>?_,h2⟩;have:=h1 t;rw[Gy,Gs,Ff]at this;rw[Gy];grind
theorem nU:∀(n:Nat) (a b:Uq),(∀k,n<=k->b.getD k 0=0)->∃g U V,ZP g a/\ZP g b/\∀t,ev g t=ev U t*ev a t+ev V t*ev b t
 |
  0,a,b,h=>by
  have h0:=D7 λk=>h k (Qh _)
  exact⟨a,[1],[],dvd_refl a,⟨[],λt=>by rw[h0];simp only[ev];grind⟩,λt=>by rw[Td];simp only[ev];grind⟩
 |
  n+1,a,b,h=>by
  rcases Classical.em (b.getD n 0=0)with e|e
  ·exact nU n a b λk hk=>by
    rcases Vl hk with e'|e'
    ·exact h k (by omega)
    ·rw[<-e'];exact e
  ·obtain⟨q,r,h1,h2⟩:=Qgy (b:=b) (n:=n) ⟨e,λk hk=>h k (by omega)⟩ a.length a λk hk=>by rw[Qi,Qu hk];rfl
   obtain⟨g,U,V,⟨u,hu⟩,⟨v,hv⟩,hg⟩:=nU n b r h2;refine⟨g,V,Su U (D2 (-1) (G5 V q)),⟨Su (G5 q u) v,λt=>?_⟩,⟨u,hu⟩,λt=>?_⟩
   ·rw[h1,hv,Gy,Ff,hu];grind
   ·rw[hg,Gy,Gs,Ff,h1];grind
theorem Qhs(a b:Uq):∃g U V,ZP g a/\ZP g b/\∀t,ev g t=ev U t*ev a t+ev V t*ev b t :=
 nU b.length a b λk hk=>by rw[Qi,Qu hk];rfl
def Cop(a b:Uq):Prop:=∃U V,∀t,ev U t*ev a t+ev V t*ev b t=1
theorem jX{c d e:Uq}(h:Cop c d)(h1:∃u,∀t,ev d t*ev e t=ev c t*ev u t):ZP c e:=by
 obtain⟨U,V,h⟩:=h;obtain⟨u,hu⟩:=h1;refine⟨Su (G5 U e) (G5 V u),λt=>?_⟩;rw[Gy,Ff,Ff];have a1:=h t;have a2:=hu t;have:ev e t=(ev U t*ev c t+ev V t*ev d t)*ev e t:=by rw[a1];grind
 rw[this];have:(ev U t*ev c t+ev V t*ev d t)*ev e t=ev U t*ev c t*ev e t+ev V t*(ev d t*ev e t):=by grind
 rw[this,a2];grind
def EH(d:Uq):Nat->Uq
 | 0=>[1]
 |k+1=>G5 d (EH d k)
theorem cU(d:Uq)(t:Rat):∀k:Nat,ev d t*dv (EH d k) t=(k:Rat)*(dv d t*ev (EH d k) t)
 | 0=>by simp only[EH,dv,ev];rw[show((0:Nat):Rat)=0 from rfl];grind
 |
  k+1=>by
  have ih:=cU d t k;have hn':(((k+1:Nat):Rat))=(k:Rat)+1:=by push_cast;rfl
  simp only[EH];rw[jU,Ff,hn'];grind
theorem Qjy{d:Uq}{m:Nat}(h:HD d m):∀k,HD (EH d k) (k*m)
 | 0=>by rw[Yl];exact⟨by simp[EH],λk hk=>by simp only[EH];rw[Qi,Qu (by simp;omega)];rfl⟩
 |k+1=>by rw[Xa,Jv (k*m) m];exact DI h (Qjy h k)
theorem qO{d g:Uq}{m n:Nat}(hd:HD d m)(hg:HD g n)(h:∀k,ZP (EH d k) g):m=0:=by
 obtain⟨u,hu⟩:=h (n+1);rcases DL u with h1|⟨j,_,h1⟩
 ·exact absurd (λt=>by rw[hu,h1];grind) (aR hg)
 ·have:=Qsb (Qsa (λt=>by rw[hu,Ff]) hg) (DI (Qjy hd (n+1)) h1);rcases Q3 m with e|e
  ·exact e
  ·have:(n+1)*1<=(n+1)*m:=Zu _ e;omega
theorem sqf{a g q d U V:Uq}{k:Rat}(hk:k≠0)(ha:∀t,ev a t=ev g t*ev q t)(hg:∀t,k*ev g t=ev U t*ev a t+ev V t*dv a t)(h1:ZP d q)(h2:ZP d (Bj q)):∀n,ZP (EH d n) g
 | 0=>⟨g,λt=>by simp only[EH];rw[Td];grind⟩
 |
  n+1=>by
  obtain⟨g1,e1⟩:=sqf hk ha hg h1 h2 n;obtain⟨q1,e2⟩:=h1;obtain⟨q2,e3⟩:=h2;have d1:=λt=>QF ha t
  have d2:=λt=>QF e1 t
  have d3:=λt=>QF e2 t
  have d4:=cU d;refine⟨D2 (1 / k) (Su (G5 U (G5 g1 q1)) (G5 V (Su (G5 g1 q2) (Su (D2 n (G5 g1 (Su q2 (D2 (-1) (Bj q1))))) (G5 (Bj g1) q1))))),λt=>?_⟩;have hkk:1 / k*k=1:=Zj hk;simp only[EH,Gs,Gy,Ff,Tp];have b1:=ha t;have b2:=hg t;have b3:=e1 t;have b4:=e2 t;have b5:=e3 t;have b6:=d1 t;have b7:=d2 t;have b8:=d3 t;have b9:=d4 t n;rw[Tp]at b5;generalize ev d t=x0 at *;generalize ev (EH d n) t=x1 at *;generalize ev g t=x2 at *;generalize ev q t=x3 at *;generalize ev a t=x4 at *;generalize dv a t=x5 at *;generalize dv g t=x6 at *;generalize dv q t=x7 at *;generalize ev g1 t=x8 at *;generalize dv g1 t=x9 at *;generalize ev q1 t=y0 at *;generalize dv q1 t=y1 at *;generalize ev q2 t=y2 at *;generalize dv d t=y3 at *;generalize dv (EH d n) t=y4 at *;generalize ev U t=y5 at *;generalize ev V t=y6 at *;generalize (n:Rat)=y7 at *;have:x2=1 / k*(k*x2):=by grind
  rw[this,b2];have c1:x5=x0*x1*(x8*y2+(y7*(x8*(y2+-1*y1))+x9*y0)):=by
   rw[b6,b7,b4,b3];have:y3*y0=x0*y2-x0*y1:=by grind
   have:x0*y4*(x8*y0)=y7*(x1*x8*(x0*y2-x0*y1)):=by rw[b9,<-this];grind
   grind
  have c2:x4=x0*x1*(x8*y0):=by rw[b1,b3,b4];grind
  rw[c1,c2];grind
theorem Qn5{a b c:Uq}(h1:Cop a b)(h2:Cop a c){d:Uq}(hd:∀t,ev d t=ev b t*ev c t):Cop a d:=by
 obtain⟨U,V,h1⟩:=h1;obtain⟨X,Y,h2⟩:=h2;refine⟨Su U (G5 (G5 V b) X),G5 V Y,λt=>?_⟩;have a1:=h1 t;have a2:=h2 t;simp only[Gy,Ff,hd];have:ev V t*ev b t*(ev X t*ev a t+ev Y t*ev c t)=ev V t*ev b t:=by rw[a2];grind
 grind
theorem Qqr{a g q z r X Y:Uq}{n:Nat}(ha:∀t,ev a t=ev g t*ev q t)(hz:∀t,dv a t=ev g t*ev z t)(hg:HD g n)(hr:∀t,ev X t*ev r t+ev Y t*dv r t=1)(h:ZP r a):ZP r q:=by
 obtain⟨b,hb⟩:=h;obtain⟨e,U,V,⟨r1,e1⟩,⟨q3,e2⟩,e3⟩:=Qhs r q;have hr0:¬∀t,ev r t=0:=λh=>by
  have h1:=hr 0;have h2:dv r 0=0:=by have:=Qg3 (p:=r) (q:=[]) h 0;rw[this];rfl
  rw[h,h2]at h1;grind
 have he0:¬∀t,ev e t=0:=λh=>hr0 λt=>by rw[e1,h];grind
 have d1:=λt=>QF e1 t
 have c1:Cop r1 q3:=⟨U,V,λt=>by
  have:=mF (p:=e) (q:=Su (G5 U r1) (G5 V q3)) (r:=[1]) he0 (λt=>by
   rw[Gy,Ff,Ff,Td];have a1:=e1 t;have a2:=e2 t;have a3:=e3 t;rw[a1,a2]at a3;grind) t
  rw[Gy,Ff,Ff,Td]at this;exact this⟩
 have c2:Cop r1 e:=⟨Su (G5 X e) (G5 Y (Bj e)),G5 Y (Bj r1),λt=>by
  have a1:=hr t;have a2:=e1 t;have a3:=d1 t;simp only[Gy,Ff,Tp];rw[a2,a3]at a1;grind⟩
 have c3:Cop r1 (Bj r1):=⟨Su (G5 X e) (G5 Y (Bj e)),G5 Y e,λt=>by
  have a1:=hr t;have a2:=e1 t;have a3:=d1 t;simp only[Gy,Ff,Tp];rw[a2,a3]at a1;grind⟩
 have c4:Cop r1 q:=Qn5 c2 c1 e2;have hgz:=aR hg;have hp:∀k,ZP (EH r1 k) g:=λk=>by
  induction k with
  |zero=>exact⟨g,λt=>by simp only[EH];rw[Td];grind⟩
  |
   succ k ih =>
   obtain⟨h,eh⟩:=ih;have hpz:¬∀t,ev (EH r1 k) t=0:=λh0=>hgz λt=>by rw[eh,h0];grind
   have key:ZP r1 h:=by
    cases k with
    |
     zero =>
     refine jX c4 ⟨G5 e b,λt=>?_⟩;have a1:=ha t;have a2:=hb t;have a3:=e1 t;have a4:=eh t;simp only[EH]at a4;rw[Td]at a4;rw[Ff];grind
    |
     succ k =>
     have hn:((k+1:Nat):Rat)≠0:=by
      have:(0:Rat)<((k+1:Nat):Rat):=by
       have h1:((0:Nat):Rat)<((k+1:Nat):Rat):=Vo.2 (by omega);simpa using h1
      grind
     have d2:=λt=>QF (f:=a) (w:=EH r1 (k+1)) (u:=G5 h q) (λt=>by rw[ha,eh,Ff];grind) t
     have d4:=cU r1;have h3:=mF (p:=EH r1 (k+1)) (q:=G5 (Bj r1) (G5 h q)) (r:=G5 r1 (D2 (1 / ((k+1:Nat):Rat)) (Su (G5 h z) (D2 (-1) (Bj (G5 h q)))))) hpz λt=>by
      simp only[Ff,Gs,Gy,Tp];have a1:=d2 t;have a2:=d4 t (k+1);have a3:=hz t;have a4:=eh t;rw[Ff]at a1;generalize ((k+1:Nat):Rat)=c at *;have hc:1 / c*c=1:=Zj hn;generalize ev (EH r1 (k+1)) t=x0 at *;generalize dv (EH r1 (k+1)) t=x1 at *;generalize dv (G5 h q) t=x2 at *;generalize ev r1 t=x3 at *;generalize dv r1 t=x4 at *;generalize ev h t=x5 at *;generalize ev q t=x6 at *;generalize ev z t=x7 at *;generalize dv a t=x8 at *;generalize ev g t=x9 at *;generalize 1 / c=c' at *;have s1:x0*(x4*(x5*x6))=c'*(c*(x4*x0))*(x5*x6):=by
       have:c'*(c*(x4*x0))=(c'*c)*(x4*x0):=by grind
       rw[this,hc];grind
      rw[s1,<-a2];have s2:x3*(x1*(x5*x6))=x3*(x0*(x5*x7+-1*x2)):=by
       rw[a3,a4]at a1;grind
      grind
     refine jX c4 ?_;obtain⟨u,hu⟩:=jX (e:=G5 q h) c3 ⟨D2 (1 / ((k+1:Nat):Rat)) (Su (G5 h z) (D2 (-1) (Bj (G5 h q)))),λt=>by
      have:=h3 t;simp only[Ff]at this ⊢;rw[<-this];grind⟩
     exact⟨u,λt=>by rw[<-hu,Ff]⟩
   obtain⟨u,hu⟩:=key;exact⟨u,λt=>by simp only[EH];rw[Ff,eh,hu];grind⟩
 rcases DL r1 with h1|⟨m,_,h1⟩
 ·exact absurd (λt=>by rw[e1,h1];grind) hr0
 ·obtain rfl:=qO h1 hg hp;have h2:∀t,ev r1 t=r1.getD 0 0:=λt=>by
   cases r1 with
   |nil=>simp[ev]
   |
    cons c l =>
    have:∀t,ev l t=0:=D7 λk=>by have:=h1.2 (k+1) (by omega);rwa[Q4]at this
    simp only[ev,this,Zt];grind
  have h3:=h1.1;refine⟨D2 (1 / r1.getD 0 0) q3,λt=>?_⟩;rw[e2,e1,h2,Gs];have:1 / r1.getD 0 0*r1.getD 0 0=1:=Zj h3;have:ev e t*r1.getD 0 0*(1 / r1.getD 0 0*ev q3 t)=ev e t*ev q3 t*(1 / r1.getD 0 0*r1.getD 0 0):=by grind
  rw[this,Zj h3];grind
def Oh:Ur->Uq
 | []=>[1]
 |w::l=>G5 w (Oh l)
def Lay:Ur->Ur->Prop
 | [],[]=>True
 | [w],[f]=>∀t,ev w t=ev f t
 |w::v::l,f::fs=>(∀t,ev w t=ev f t*ev v t)/\Lay (v::l) fs
 |_,_=>False
def PN:Ur->Uq
 | []=>[1]
 | [f]=>f
 |f::_::l=>G5 f (PN l)
theorem aA:∀{ws fs:Ur},Lay ws fs->∃S,∀t,ev (Oh ws) t=ev (PN fs) t*(ev S t*ev S t)
 | [],[],_=>⟨[1],λt=>by simp only[Oh,PN];rw[Td];grind⟩
 | [w],[f],h=>⟨[1],λt=>by simp only[Oh,PN];rw[Ff,Td,h t];grind⟩
 |
  [w,v],[f,f2],h=>⟨v,λt=>by
  have h1:=h.1 t;have h2:ev v t=ev f2 t:=h.2 t;simp only[Oh,PN,Ff];rw[Td,h1];grind⟩
 |
  w::v::x::l,f::f2::fs,h=>by
  obtain⟨S,hS⟩:=aA h.2.2;refine⟨G5 v S,λt=>?_⟩;have h1:=h.1 t;have h2:=hS t;have e1:ev (Oh (w::v::x::l)) t=ev w t*(ev v t*ev (Oh (x::l)) t):=by simp only[Oh,Ff]
  rw[e1,h2,h1];have e2:ev (PN (f::f2::fs)) t=ev f t*ev (PN fs) t:=by
   cases fs with
   |nil=>cases l <;> exact False.elim h.2.2
   |cons y l=>simp only[PN,Ff]
  rw[e2,Ff];grind
 | [w],[],h=>h.elim
 | [w],_::_::_,h=>h.elim
 | [],_::_,h=>h.elim
 | [w,v],[f],h=>h.2.elim
 | [w,v],_::_::_::_,h=>h.2.elim
 |w::v::x::l,[f],h=>h.2.elim
 |w::v::l,[],h=>h.elim
end Orq
namespace Orq
open Orr Go
theorem bC(p:Un)(t:Rat):U7 p t=((p.getD 0 0:Int):Rat)+t*U7 p.tail t:=by
 cases p with
 |nil=>show(0:Rat)=((0:Int):Rat)+t*0;grind
 |cons a p=>rfl
theorem RJ(p:Un)(k:Nat):p.tail.getD k 0=p.getD (k+1) 0:=by
 cases p <;> simp
theorem Cm(c d:Int)(t:Rat):∀(n:Nat) (p q r:Un),p.length<=n->q.length<=n->r.length<=n->(∀k,r.getD k 0=c*p.getD k 0+d*q.getD k 0)->U7 r t=(c:Rat)*U7 p t+(d:Rat)*U7 q t
 |
  0,p,q,r,hp,hq,hr,_=>by
  rw[Qj (Nat.le_zero.1 hp),Qj (Nat.le_zero.1 hq),Qj (Nat.le_zero.1 hr)];show(0:Rat)=_*0+_*0;grind
 |
  n+1,p,q,r,hp,hq,hr,h=>by
  have ih:=Cm c d t n p.tail q.tail r.tail (by rw[W0];omega) (by rw[W0];omega) (by rw[W0];omega) λk=>by
   rw[RJ,RJ,RJ];exact h (k+1)
  rw[bC p,bC q,bC r,ih,h 0]
  push_cast
  grind
theorem oQ{p q:Un}(h:∀k,p.getD k 0=q.getD k 0)(t:Rat):U7 p t=U7 q t:=by
 have:=Cm 1 0 t (max p.length q.length) q q p (W4 ..) (W4 ..) (Nat.le_max_left ..) λk=>by rw[h k];omega
 rw[this]
 push_cast
 grind
theorem Ol(p:Un)(t:Rat):U7 (trim p) t=U7 p t:=oQ (VW p) t
theorem Nz{p:Un}{k:Nat}(h:p.length<=k):p.getD k 0=0:=by
 rw[Qi,Qu h];rfl
theorem qC(p q:Un)(k:Nat):(A0 p q).getD k 0=p.getD k 0+q.getD k 0:=by
 unfold A0;rw[S8]
 split
 ·rfl
 ·rename_i h;rw[Nz (p:=p) (by omega),Nz (p:=q) (by omega)];rfl
theorem Ow(p q:Un)(k:Nat):(M4 p q).getD k 0=p.getD k 0-q.getD k 0:=by
 unfold M4;rw[S8]
 split
 ·rfl
 ·rename_i h;rw[Nz (p:=p) (by omega),Nz (p:=q) (by omega)];rfl
theorem Mf(p:Un)(c:Int)(k:Nat):(Ft p c).getD k 0=p.getD k 0*c:=by
 unfold Ft;rw[S8]
 split
 ·rfl
 ·rename_i h;rw[Nz (p:=p) (by omega),Int.zero_mul]
theorem Qc3(p:Un)(k:Nat):(Mr p).getD k 0=-(p.getD k 0):=by
 unfold Mr;rw[S8]
 split
 ·rfl
 ·rename_i h;rw[Nz (p:=p) (by omega)];rfl
theorem Bu(p:Un)(k:Nat):(Gv p).getD k 0=p.getD (k+1) 0*((k+1:Nat):Int):=by
 unfold Gv;rw[S8]
 split
 ·rfl
 ·rename_i h;rw[Nz (p:=p) (by omega),Int.zero_mul]
theorem LI(p q:Un)(t:Rat):U7 (A0 p q) t=U7 p t+U7 q t:=by
 have:=Cm 1 1 t (max (max p.length q.length) (A0 p q).length) p q (A0 p q) (by omega) (by omega) (by omega) λk=>by rw[qC];omega
 rw[this];push_cast;grind
theorem Ng(p q:Un)(t:Rat):U7 (M4 p q) t=U7 p t-U7 q t:=by
 have:=Cm 1 (-1) t (max (max p.length q.length) (M4 p q).length) p q (M4 p q) (by omega) (by omega) (by omega) λk=>by rw[Ow];omega
 rw[this];push_cast;grind
theorem FD(p:Un)(t:Rat):U7 (Mr p) t=-U7 p t:=by
 have:=Cm (-1) 0 t (max p.length (Mr p).length) p p (Mr p) (by omega) (by omega) (by omega) λk=>by rw[Qc3];omega
 rw[this];push_cast;grind
theorem Rk(p:Un)(c:Int)(t:Rat):U7 (Ft p c) t=U7 p t*(c:Rat):=by
 have:=Cm c 0 t (max p.length (Ft p c).length) p p (Ft p c) (by omega) (by omega) (by omega) λk=>by rw[Mf,K9];omega
 rw[this];push_cast;grind
theorem yD:∀(l:Un) (j:Nat) (v:Int) (t:Rat),j<l.length->U7 (l.set j v) t=U7 l t+((v:Rat)-((l.getD j 0:Int):Rat))*t^j
 | [],_,_,_,h=>by simp at h
 |
  a::l,0,v,t,_=>by
  show(v:Rat)+t*U7 l t=(a:Rat)+t*U7 l t+((v:Rat)-(a:Rat))*t^0;rw[Xg];grind
 |
  a::l,j+1,v,t,h=>by
  have ih:=yD l j v t (by simpa using h);show(a:Rat)+t*U7 (l.set j v) t=(a:Rat)+t*U7 l t+((v:Rat)-((l.getD j 0:Int):Rat))*t^(j+1);rw[ih,Z7];grind
theorem LO:∀(l:Un) (k:Nat) (t:Rat),k<l.length->U7 (l.take (k+1)) t=U7 (l.take k) t+((l.getD k 0:Int):Rat)*t^k
 | [],_,_,h=>by simp at h
 |
  a::l,0,t,_=>by
  show(a:Rat)+t*U7 (l.take 0) t=0+(a:Rat)*t^0;rw[Xg,Vu];show(a:Rat)+t*0=_;grind
 |
  a::l,k+1,t,h=>by
  have ih:=LO l k t (by simpa using h);show(a:Rat)+t*U7 (l.take (k+1)) t=(a:Rat)+t*U7 (l.take k) t+((l.getD k 0:Int):Rat)*t^(k+1);rw[ih,Z7];grind
theorem qE(n:Nat)(t:Rat):U7 (List.replicate n 0) t=0:=by
 induction n with
 |zero=>rfl
 |
  succ n ih =>
  show((0:Int):Rat)+t*U7 (List.replicate n 0) t=0;rw[ih];push_cast;grind
theorem tG(t:Rat)(i:Nat):∀k,t^(i+k)=t^i*t^k
 | 0=>by rw[Xm,Xg];grind
 |k+1=>by rw[<-Yp,Z7,Z7,tG t i k];grind
theorem rG(x:Int)(b:Un)(i:Nat)(o:Un)(t:Rat):∀k,k<=b.length->i+k<=o.length->U7 (Oe x b i o k) t=U7 o t+(x:Rat)*t^i*U7 (b.take k) t
 |
  0,_,_=>by
  show U7 o t=U7 o t+(x:Rat)*t^i*0;grind
 |
  k+1,h1,h2=>by
  have ih:=rG x b i o t k (by omega) (by omega);simp only[Oe];rw[yD _ _ _ _ (by rw[Of];omega),ih,LO b k t (by omega)];have hp:t^(i+k)=t^i*t^k:=tG t i k;rw[hp]
  push_cast
  grind
theorem rF(a b o:Un)(t:Rat):∀i,i<=a.length->i+b.length<=o.length+1->U7 (Ap a b o i) t=U7 o t+U7 (a.take i) t*U7 b t
 |
  0,_,_=>by
  show U7 o t=U7 o t+0*U7 b t;grind
 |
  i+1,h1,h2=>by
  have ih:=rF a b o t i (by omega) (by omega);simp only[Ap];rw[rG _ _ _ _ _ b.length (Ql _) (by rw[Lc];omega),ih,LO a i t (by omega),Q6];grind
theorem Gi(a b:Un)(t:Rat):U7 (Gj a b) t=U7 a t*U7 b t:=by
 unfold Gj
 split
 ·rename_i h;rcases h with h|h
  ·rw[Qj h];show(0:Rat)=0*_;grind
  ·rw[Qj h];show(0:Rat)=_*0;grind
 ·rename_i h;rw[Ol,rF a b _ t a.length (Ql _) (by rw[Jd];omega),qE,Q6];grind
theorem H8(z d:Int):(z:Rat) / (d:Rat)=Rat.divInt z d:=by
 by_cases h:d=0
 ·subst h;simp;grind
 ·rw[Jn];exact(Rat.divInt_eq_div z d ▸ by rw[Jn])
theorem Qaq(a:Un)(n d:Int)(hd:(d:Rat)≠0):∀k,k<=a.length->(((L8 a n d k).2:Int):Rat)=(d:Rat)^k/\(((L8 a n d k).1:Int):Rat)*d=(d:Rat)^k*U7 (a.drop (a.length-k)) ((n:Rat) / d)
 |
  0,_=>by
  refine⟨by rw[Xg];rfl,?_⟩;rw[W6,Yt];show((0:Int):Rat)*d=(d:Rat)^0*0
  push_cast;grind
 |
  k+1,hk=>by
  obtain⟨h1,h2⟩:=Qaq a n d hd k (by omega);have hi:a.length-1-k<a.length:=by omega
  have e1:a.drop (a.length-(k+1))=a.getD (a.length-1-k) 0::a.drop (a.length-k):=by
   rw[show a.length-(k+1)=a.length-1-k by omega,Zp hi,show a.length-1-k+1=a.length-k by omega];congr 1;rw[Qi,Qe hi];rfl
  refine⟨?_,?_⟩
  ·show(((L8 a n d k).2*d:Int):Rat)=_;rw[Xz,h1,Z7]
  ·rw[e1];show(((L8 a n d k).1*n+a.getD (a.length-1-k) 0*(L8 a n d k).2:Int):Rat)*d=_*(((a.getD (a.length-1-k) 0:Int):Rat)+(n:Rat) / d*U7 (a.drop (a.length-k)) ((n:Rat) / d));rw[Kc,Xz,Xz,h1,Z7];have h3:(n:Rat) / d*d=n:=by rw[Zj hd]
   have h4:(d:Rat)^k*d*((n:Rat) / d*U7 (a.drop (a.length-k)) ((n:Rat) / d))=((n:Rat) / d*d)*((d:Rat)^k*U7 (a.drop (a.length-k)) ((n:Rat) / d)):=by grind
   have h5:(d:Rat)^k*d*(((a.getD (a.length-1-k) 0:Int):Rat)+(n:Rat) / d*U7 (a.drop (a.length-k)) ((n:Rat) / d))=(d:Rat)^k*d*((a.getD (a.length-1-k) 0:Int):Rat)+(d:Rat)^k*d*((n:Rat) / d*U7 (a.drop (a.length-k)) ((n:Rat) / d)):=by grind
   rw[h5,h4,h3,<-h2];grind
theorem oK{d:Rat}(h:0<d):∀k:Nat,0<d^k
 | 0=>by rw[Xg];decide
 |k+1=>by rw[Z7];exact Xl (oK h k) h
theorem Cw{x y:Rat}(h:0<y):Fe (y*x)=Fe x:=by
 unfold Fe;have h1:y*x<0↔x<0:=by
  constructor
  ·intro h2;rcases Vw (a:=0) (b:=x)with h3|h3
   ·have:=Vx (Qt h) h3;grind
   ·rcases Rat.le_iff_lt_or_eq.1 h3 with h4|h4
    ·exact h4
    ·rw[h4]at h2;grind
  ·intro h2;have:=Xl h (show 0 < -x by grind);grind
 have h2:0<y*x↔0<x:=by
  constructor
  ·intro h2;rcases Vw (a:=x) (b:=0)with h3|h3
   ·have:=Vx (Qt h) (show 0<=-x by grind);grind
   ·rcases Rat.le_iff_lt_or_eq.1 h3 with h4|h4
    ·exact h4
    ·rw[<-h4]at h2;grind
  ·intro h2;exact Xl h h2
 simp only[h1,h2]
theorem Qgo(z:Int):D6 z 0=Fe (z:Rat):=by
 unfold D6 Fe;have h1:((z:Int):Rat)<0↔z<0:=by
  have := @Rat.intCast_lt_intCast z 0;simpa using this
 have h2:0<((z:Int):Rat)↔0<z:=by
  have := @Rat.intCast_lt_intCast 0 z;simpa using this
 simp only[h1,h2]
theorem Ni(p:Un)(q:Rat):H9 p q=Fe (U7 p q):=by
 have hd0:(0:Rat)<((q.den:Int):Rat):=by
  have := @Rat.intCast_lt_intCast 0 (q.den:Int);rw[show((0:Int):Rat)=0 from rfl]at this;exact this.2 (den_pos q)
 have hd:((q.den:Int):Rat)≠0:=by intro h;rw[h]at hd0;exact absurd hd0 (by decide)
 obtain⟨_,h⟩:=Qaq p q.num q.den hd p.length (Ql _);rw[Ki,Xx,H8,Z1]at h;unfold H9;rw[Qgo,<-Cw hd0,W8];show Fe ((((L8 p q.num q.den p.length).1:Int):Rat)*_)=_;rw[h,Cw (oK hd0 _)]
def cz(p:Un):Uq:=p.map λz:Int=>(z:Rat)
theorem U8(t:Rat):∀p,ev (cz p) t=U7 p t
 | []=>rfl
 |a::p=>by have:=U8 t p;simp only[cz,Zz,ev,U7]at *;rw[this]
theorem Mn:∀(p:Un) (k:Nat),(cz p).getD k 0=((p.getD k 0:Int):Rat)
 | [],k=>by simp[cz]
 |a::p,0=>by simp[cz]
 |a::p,k+1=>by have:=Mn p k;simp only[cz,Zz,Q4]at *;exact this
theorem Lk{p q:Un}(h:∀t,U7 p t=U7 q t)(k:Nat):p.getD k 0=q.getD k 0:=by
 have:=Dv (p:=cz p) (q:=cz q) (λt=>by rw[U8,U8,h]) k;rw[Mn,Mn]at this
 exact_mod_cast this
theorem Qqz{p q:Un}(hp:Fc p)(hq:Fc q)(h:∀k,p.getD k 0=q.getD k 0):p=q:=by
 have key:∀{p q:Un},Fc p->Fc q->(∀k,p.getD k 0=q.getD k 0)->p.length<=q.length:=λ{p q} hp hq h=>by
  rcases Zb q.length p.length with e|e
  ·have:=H7 hp (by omega);rw[h,Qi,Qu (by omega)]at this;exact absurd rfl this
  ·exact e
 exact DZ (Kb (key hp hq h) (key hq hp λk=>(h k).symm)) λj _=>h j
theorem oZ{p q:Un}(hp:Fc p)(hq:Fc q)(h:∀t,U7 p t=U7 q t):p=q:=Qqz hp hq (Lk h)
theorem Qpp{p:Un}(hp:Fc p)(h:∀t,U7 p t=0):p=[]:=oZ hp rfl λt=>by rw[h];rfl
theorem Dy{p:Un}(h:p.length=0)(t:Rat):U7 p t=0:=by rw[Qj h];rfl
theorem iO:∀(p r:Un) (t:Rat),(∀k,r.getD k 0=p.getD (k+1) 0*((k+1:Nat):Int))->U7 r t=dv (cz p) t
 |
  [],r,t,h=>by
  rw[oQ (q:=[]) (λk=>by rw[h];simp) t];rfl
 |
  a::p,r,t,h=>by
  have ih:=iO p (Gv p) t λk=>Bu p k
  have e:U7 r t=U7 p t+t*U7 (Gv p) t:=by
   have:=Cm 1 1 t (max (max p.length (0::Gv p).length) r.length) p (0::Gv p) r (by omega) (by omega) (by omega) λk=>by
    rw[h,Q4];cases k with
    |zero=>simp
    |succ k=>rw[Q4,Bu];push_cast;grind
   rw[this];simp only[U7];push_cast;grind
  rw[e,ih];show _=ev (cz p) t+t*dv (cz p) t;rw[U8]
theorem Oj(p:Un)(t:Rat):U7 (Gv p) t=dv (cz p) t:=iO p _ t λk=>Bu p k
theorem SK{p:Un}(hp:Fc p)(h:0<p.length):HD (cz p) (p.length-1):=by
 refine⟨?_,λk hk=>?_⟩
 ·rw[Mn];have:=H7 hp h;exact λe=>this (by exact_mod_cast e)
 ·rw[Mn,Qi,Qu (by omega)];rfl
theorem SZ{p:Un}(hp:Fc p)(h:0<p.length):¬∀t,U7 p t=0:=λh0=>by
 rw[Qpp hp h0]at h;exact absurd h (by simp)
theorem Mq{a b c:Un}(ha:Fc a)(hb:Fc b)(hc:Fc c)(h:∀t,U7 c t=U7 a t*U7 b t)(la:0<a.length)(lb:0<b.length):c.length=a.length+b.length-1:=by
 have h1:=DI (SK ha la) (SK hb lb);have h2:HD (cz c) (a.length-1+(b.length-1)):=Qsa (λt=>by rw[Ff,U8,U8,U8,h]) h1;have lc:0<c.length:=by
  rcases Q3 c.length with e|e
  ·exact absurd (λt=>by rw[U8];exact Dy e t) (aR h2)
  ·exact e
 have:=Qsb (SK hc lc) h2;omega
theorem rN:∀(n m:Nat),m<=n->2<=m->∃P,2<=P/\P∣m/\∀d,2<=d->d∣P->d=P
 | 0,m,h,h2=>by omega
 |
  n+1,m,h,h2=>by
  rcases Classical.em (∃d,2<=d/\d<m/\d∣m)with⟨d,d1,d2,d3⟩|h0
  ·obtain⟨P,p1,p2,p3⟩:=rN n d (by omega) d1;exact⟨P,p1,Nat.dvd_trans p2 d3,p3⟩
  ·refine⟨m,h2,Nat.dvd_refl m,λd d1 d2=>?_⟩;rcases Vl (Kv (by omega) d2)with e|e
   ·exact absurd ⟨d,d1,e,d2⟩ h0
   ·exact e
theorem jR{P:Nat}(h2:2<=P)(hP:∀d,2<=d->d∣P->d=P){x y:Int}(h:(P:Int)∣x*y):(P:Int)∣x\/(P:Int)∣y:=by
 have h:=X2.2 h;rw[J9,Xh]at h;have hg:=W3 P x.natAbs;rcases Zb (Nat.gcd P x.natAbs) 2 with e|e
 ·right;have h1:Nat.gcd P x.natAbs=1:=by
   have:=Nat.gcd_pos_of_pos_left x.natAbs (show 0<P by omega);omega
  have:=Nat.Coprime.dvd_of_dvd_mul_left h1 h;exact X2.1 (by rwa[Xh])
 ·left;have:=hP _ e hg;have h3:=Nat.gcd_dvd_right P x.natAbs;rw[this]at h3;exact X2.1 (by rwa[Xh])
def sE(P:Int)(l:Un):Prop:=∀k,P∣l.getD k 0
theorem HY{P:Nat}(h2:2<=P)(hP:∀d,2<=d->d∣P->d=P):∀(n:Nat) (b h c:Un),b.length+h.length<=n->(∀t,U7 c t=U7 b t*U7 h t)->sE P c->sE P b\/sE P h
 |_,[],h,c,_,_,_=>.inl λk=>by simp
 |_,x::b,[],c,_,_,_=>.inr λk=>by simp
 | 0,x::b,y::h,c,hn,_,_=>by simp at hn
 |
  n+1,x::b,y::h,c,hn,hc,hd=>by
  simp only[Q5]at hn;by_cases hx:(P:Int)∣x
  ·-- x h is taken away
   have e:∀t,U7 (0::Gj b (y::h)) t=U7 (M4 c (Ft (y::h) x)) t:=λt=>by
    rw[Ng,Rk,hc];simp only[U7];rw[Gi];simp only[U7];push_cast;grind
   have hd':sE P (Gj b (y::h)):=λk=>by
    have:=Lk e (k+1);rw[Q4,Ow,Mf]at this;rw[this];exact Int.dvd_sub (hd (k+1)) (V5 hx (Y9 _ _))
   rcases HY h2 hP n b (y::h) _ (by simp only[Q5];omega) (λt=>Gi _ _ t) hd' with h1|h1
   ·refine .inl λk=>?_
    cases k with
    |zero=>rw[Zt];exact hx
    |succ k=>rw[Q4];exact h1 k
   ·exact .inr h1
  ·have h0:(P:Int)∣y:=by
    have e:c.getD 0 0=x*y:=by
     have:=Lk (p:=c) (q:=Gj (x::b) (y::h)) (λt=>by rw[hc,Gi]) 0;have e2:=Lk (p:=Gj (x::b) (y::h)) (q:=A0 (Ft (y::h) x) (0::Gj b (y::h))) (λt=>by
      rw[LI,Rk,Gi];simp only[U7];rw[Gi];simp only[U7];push_cast;grind) 0
     rw[this,e2,qC,Mf,Zt,Zt,K9];omega
    have:=hd 0;rw[e]at this;rcases jR h2 hP this with h1|h1
    ·exact absurd h1 hx
    ·exact h1
   have e:∀t,U7 (0::Gj (x::b) h) t=U7 (M4 c (Ft (x::b) y)) t:=λt=>by
    rw[Ng,Rk,hc];simp only[U7];rw[Gi];simp only[U7];push_cast;grind
   have hd':sE P (Gj (x::b) h):=λk=>by
    have:=Lk e (k+1);rw[Q4,Ow,Mf]at this;rw[this];exact Int.dvd_sub (hd (k+1)) (V5 h0 (Y9 _ _))
   rcases HY h2 hP n (x::b) h _ (by simp only[Q5];omega) (λt=>Gi _ _ t) hd' with h1|h1
   ·exact absurd (by have:=h1 0;rwa[Zt]at this) hx
   ·refine .inr λk=>?_
    cases k with
    |zero=>rw[Zt];exact h0
    |succ k=>rw[Q4];exact h1 k
def Prm(b:Un):Prop:=∀d:Int,sE d b->d∣1
theorem Qhn{a b:Un}(hb:Prm b):∀(n:Nat) (c:Int) (h:Un),c.natAbs<=n->c≠0->(∀t,(c:Rat)*U7 a t=U7 b t*U7 h t)->∃h',∀t,U7 a t=U7 b t*U7 h' t
 | 0,c,h,hn,h0,_=>absurd (by omega) h0
 |
  n+1,c,h,hn,h0,hc=>by
  rcases Zb c.natAbs 2 with h1|h1
  ·refine⟨Ft h c,λt=>?_⟩;have hcc:(c:Rat)*c=1:=by
    have:c*c=1:=by
     rcases(show c=1\/c=-1 by omega)with rfl|rfl <;> rfl
    have:=congrArg (λz:Int=>(z:Rat)) this
    push_cast at this;exact this
   rw[Rk];have:=hc t;have:U7 a t=(c:Rat)*((c:Rat)*U7 a t):=by
    have:(c:Rat)*((c:Rat)*U7 a t)=((c:Rat)*c)*U7 a t:=by grind
    rw[this,hcc];grind
   rw[this,hc];grind
  ·obtain⟨P,p1,p2,p3⟩:=rN c.natAbs c.natAbs (Ql _) h1;obtain⟨d,hd⟩:∃d,c=(P:Int)*d:=Wq.2 p2;have hall:sE P (Ft a c):=λk=>by
    rw[Mf,hd];exact V5 (Int.dvd_mul_right _ _) (Y9 _ _)
   have hP0:(P:Rat)≠0:=by
    have:((0:Nat):Rat)<(P:Rat):=Vo.2 (by omega);grind
   rcases HY p1 p3 _ b h (Ft a c) (Ql _) (λt=>by rw[Rk,W8,hc]) hall with e|e
   ·have:=hb P e;have:=X2.2 this;rw[Xh]at this;have:=Kv (by decide) this;exact absurd this (by show ¬P<=1;omega)
   ·refine Qhn hb n d (h.map (· / (P:Int))) ?_ (λe0=>h0 (by rw[hd,e0,Wb])) λt=>?_
    ·rw[hd,J9,Xh]at hn h1;have:2*d.natAbs<=P*d.natAbs:=Q0 _ p1;omega
    ·have e1:U7 h t=(P:Rat)*U7 (h.map (· / (P:Int))) t:=by
      have:=Cm P 0 t (max h.length (h.map (· / (P:Int))).length) (h.map (· / (P:Int))) [] h (by omega) (by simp) (by omega) λk=>by
       have:=e k;have e2:(h.map (· / (P:Int))).getD k 0=h.getD k 0 / (P:Int):=by
        rw[Qi,Qi,Q9];cases h[k]? <;> simp
       rw[e2,Wa this];simp
      rw[this];simp only[U7];push_cast;grind
     have:=hc t;rw[hd,e1]at this
     push_cast at this
     have h3:(P:Rat)*((d:Rat)*U7 a t)=(P:Rat)*(U7 b t*U7 (h.map (· / (P:Int))) t):=by grind
     have h4:=Y3.1 (show(P:Rat)*((d:Rat)*U7 a t-U7 b t*U7 (h.map (· / (P:Int))) t)=0 by grind);rcases h4 with h4|h4
     ·exact absurd h4 hP0
     ·grind
theorem ID:∀u:Uq,∃c:Int,c≠0/\∃h:Un,∀t,(c:Rat)*ev u t=U7 h t
 | []=>⟨1,by decide,[],λt=>by simp only[ev,U7];grind⟩
 |
  a::u=>by
  obtain⟨c,hc,h,hh⟩:=ID u;refine⟨c*(a.den:Int),Jf hc (by have:=a.den_nz;omega),(c*a.num)::Ft h (a.den:Int),λt=>?_⟩;have e:(a.den:Rat)*a=a.num:=by
   rw[W8];have:(a.num:Rat) / (((a.den:Int)):Rat)=a:=by rw[H8,Z1]
   have hd:(a.den:Rat)≠0:=by
    have:((0:Nat):Rat)<(a.den:Rat):=Vo.2 a.den_pos;grind
   have h2:(a.num:Rat) / (a.den:Rat)*(a.den:Rat)=a.num:=Zj hd;rw[show(a.num:Rat) / (a.den:Rat)=a from this]at h2;exact h2
  simp only[ev,U7];rw[Rk,<-hh]
  push_cast
  rw[<-e];have e3:(((a.den:Int)):Rat)=(a.den:Rat):=rfl;grind
theorem Qhm{a b:Un}(hb:Prm b)(h:ZP (cz b) (cz a)):∃h',Fc h'/\∀t,U7 a t=U7 b t*U7 h' t:=by
 obtain⟨u,hu⟩:=h;obtain⟨c,hc,h,hh⟩:=ID u;obtain⟨h',e⟩:=Qhn hb c.natAbs c h (Ql _) hc λt=>by
  have:=hu t;rw[U8,U8]at this;rw[this,<-hh];grind
 exact⟨trim h',Rm _,λt=>by rw[Ol,e]⟩
def sd(x0:Rat):Uq->Uq
 | []=>[]
 |_::p=>Su p (D2 x0 (sd x0 p))
theorem Qhe(x0 x:Rat):∀p,ev (sd x0 p) x=dq p x x0
 | []=>rfl
 |a::p=>by simp only[sd,dq];rw[Gy,Gs,Qhe x0 x p]
theorem cL(x0:Rat):∀(g:Uq) (n:Nat),(∀j,n<j->g.getD j 0=0)->∀j,n<=j->(sd x0 g).getD j 0=0
 | [],n,_,j,_=>by simp[sd]
 |
  a::p,0,h,j,_=>by
  have hp:∀j,p.getD j 0=0:=λj=>by have:=h (j+1) (by omega);rwa[Q4]at this
  simp only[sd];rw[Rj,So,hp,cL x0 p 0 (λj _=>hp j) j (Qh _)];grind
 |
  a::p,n+1,h,j,hj=>by
  have hp:∀j,n<j->p.getD j 0=0:=λj hj=>by have:=h (j+1) (by omega);rwa[Q4]at this
  simp only[sd];rw[Rj,So,hp j (by omega),cL x0 p n hp j (by omega)];grind
theorem nT{K:Rat}(hK:0≤K):∀(e:Nat) (g:Uq) (pts:Un) (M:Rat),pts.length=e+1->pts.Nodup->(∀x∈pts,Fh (x:Rat)≤K)->(∀k,e<k->g.getD k 0=0)->(∀x∈pts,Fh (ev g (x:Rat))≤M)->∀k,Fh (g.getD k 0)≤(2*K+3)^e*M
 |_,_,[],_,h,_,_,_,_=>by simp at h
 |
  0,g,x0::xs,M,_,_,_,hg,hM=>λk=>by
  have h0:=hM x0 (by simp);rw[Xg];cases k with
  |
   zero =>
   have e:ev g (x0:Rat)=g.getD 0 0:=by
    cases g with
    |nil=>rfl
    |
     cons a p =>
     have hp:=D7 (p:=p) λj=>by have:=hg (j+1) (by omega);rwa[Q4]at this
     simp only[ev,hp,Zt];grind
   rw[<-e];grind
  |
   succ k =>
   rw[hg (k+1) (by omega),Rh];have:=Ht (ev g (x0:Rat));grind
 |
  e+1,g,x0::xs,M,hl,hn,hb,hg,hM=>λk=>by
  have hx0:=hb x0 (by simp);have hM0:=hM x0 (by simp);have hMn:0<=M:=Zl (Ht _) hM0;rw[List.nodup_cons]at hn;have ih:=nT hK e (sd x0 g) xs (2*M) (by simpa using hl) hn.2 (λx hx=>hb x (by simp[hx])) (λj hj=>cL _ g (e+1) hg j (by omega)) λx hx=>by
   have h1:=hM x (by simp[hx]);have h2:=OY (x:Rat) (x0:Rat) g;rw[<-Qhe]at h2;have hne:x-x0≠0:=λh=>hn.1 (by rw[show x0=x by omega];exact hx)
   have h3:=WY hne;rw[Rat.intCast_sub]at h3;have h4:Fh (ev g (x:Rat)-ev g (x0:Rat))<=2*M:=by
    have:=Ss (ev g (x:Rat)) (-ev g (x0:Rat));rw[Ep,show ev g (x:Rat)+-ev g (x0:Rat)=ev g (x:Rat)-ev g (x0:Rat) by grind]at this;clear hM hb hg;grind
   rw[h2,Ih]at h4;have h5:=Ze h3 (Ht (ev (sd x0 g) x));clear hM hb hg;grind
  have e1:∀t,ev g t=ev (Su [ev g x0] (Su (D2 (-x0) (sd x0 g)) (0::sd x0 g))) t:=λt=>by
   have:=OY t (x0:Rat) g;rw[<-Qhe]at this;simp only[Gy,Gs,ev];grind
  have hp1:1<=(2*K+3)^e:=(YA (R:=2*K+3) (x:=0) (by grind) (by rw[Rh];grind) e).2;have hpM:=Be (x:=(2*K+3)^e) (y:=M) (by grind) hMn;have hpM1:=Ze hp1 hMn;rw[Z7,Dv e1 k,Rj,Rj,So];have a1:=ih k;have a2:Fh (-(x0:Rat)*(sd (x0:Rat) g).getD k 0)<=K*((2*K+3)^e*(2*M)):=Ha (by rw[Ep];exact hx0) a1;have fin:∀u v w:Rat,Fh u<=M->Fh v<=K*((2*K+3)^e*(2*M))->Fh w<=(2*K+3)^e*(2*M)->Fh (u+(v+w))<=(2*K+3)^e*(2*K+3)*M:=λu v w h1 h2 h3=>by
   have b1:=Ss u (v+w);have b2:=Ss v w;clear ih e1 hM hb hg a1 a2;grind
  refine fin _ _ _ ?_ a2 ?_
  ·cases k with
   |zero=>rw[Zt];exact hM0
   |succ k=>rw[Q4,Kt,Rh];exact hMn
  ·cases k with
   |zero=>rw[Zt,Rh];clear ih e1 hM hb hg a1 a2 fin;grind
   |succ k=>rw[Q4];exact ih k
theorem Qka{g:Uq}{e:Nat}(hg:∀k,e<k->g.getD k 0=0)(hz:¬∀t,ev g t=0){pts:Un}(hn:pts.Nodup)(hr:∀x∈pts,ev g (x:Rat)=0):pts.length≤e:=by
 rcases Zb e pts.length with h|h
 ·exfalso;obtain⟨K,hK,hb⟩:∃K:Rat,0≤K/\∀x∈pts,Fh (x:Rat)≤K:=by
   clear hn hr h
   induction pts with
   |nil=>exact⟨0,by decide,λx hx=>by cases hx⟩
   |
    cons y pts ih =>
    obtain⟨K,h1,h2⟩:=ih;refine⟨K+Fh (y:Rat),by have:=Ht (y:Rat);grind,λx hx=>?_⟩;have hy:=Ht (y:Rat);rcases Qm.1 hx with rfl|hx
    ·grind
    ·have:=h2 x hx;grind
  refine hz (D7 λk=>?_);have:=nT hK e g (pts.take (e+1)) 0 (by rw[Qq];omega) (hn.sublist (List.take_sublist ..)) (λx hx=>hb x (Qn hx)) hg (λx hx=>by rw[hr x (Qn hx),Rh];exact Qp) k;have h2:=Ht (g.getD k 0);exact Qp0 (by grind)
 ·exact h
def spots:Un:=(List.range 19).map λi:Nat=>(i:Int)-9
theorem spots_nd:spots.Nodup:=by decide
theorem tL:∀x∈spots,x.natAbs≤9:=by decide
theorem DY{α:Type}(p:α->Bool):∀l:List α,(l.filter p).length+(l.filter λx => !p x).length=l.length
 | []=>rfl
 |
  x::l=>by
  have:=DY p l;cases h:p x <;> simp[h] <;> omega
def geo:Nat->Nat
 | 0=>0
 |n+1=>1+9*geo n
theorem aV{B:Rat}:∀(p:Un),(∀z∈p,Fh (z:Rat)≤B)->uI 9 (cz p)≤B*(geo p.length:Nat)
 | [],_=>by simp only[cz,X6,uI,geo,Jg];rw[show((0:Nat):Rat)=0 from rfl];grind
 |
  a::p,h=>by
  have h1:=aV p λz hz=>h z (Qg _ hz)
  have h2:=h a (Qx ..);simp only[cz,Zz,uI,geo,Q5]at *
  push_cast
  clear h;grind
theorem Qhv{m n:Nat}(h:m<=n):geo m<=geo n:=by
 induction h with
 |refl=>exact Ql _
 |step h ih=>simp only[geo];omega
def pz:Un->Int->Int
 | [],_=>0
 |a::p,x=>a+x*pz p x
theorem WU(x:Int):∀p,U7 p (x:Rat)=((pz p x:Int):Rat)
 | []=>rfl
 |a::p=>by simp only[U7,pz,WU x p];push_cast;rfl
theorem Sx(z:Int):Fh (z:Rat)=((z.natAbs:Nat):Rat):=by
 unfold Fh;rcases Kd z 0 with h|h
 ·have h1:(z:Rat)<((0:Int):Rat):=Jo.2 h;rw[if_pos (by simpa using h1)];have:(z.natAbs:Int)=-z:=by omega
  have:=congrArg (λu:Int=>(u:Rat)) this
  push_cast at this
  exact this.symm
 ·have h1:((0:Int):Rat)<=(z:Rat):=Jb.2 h;have h1:(0:Rat)<=(z:Rat):=by simpa using h1
  rw[if_neg (by grind)];have:(z.natAbs:Int)=z:=by omega
  have:=congrArg (λu:Int=>(u:Rat)) this;exact this.symm
theorem XV{p g h:Un}{s:Nat}(hp:Bd s p)(hl:p.length<=10)(tp:Fc p)(tg:Fc g)(th:Fc h)(h0:p.length≠0)(e:∀t,U7 p t=U7 g t*U7 h t):Bd (s+69) g:=by
 have lg:0<g.length:=by
  rcases Q3 g.length with e'|e'
  ·exact absurd (λt=>by rw[e,Dy e'];grind) (SZ tp (by omega))
  ·exact e'
 have lh:0<h.length:=by
  rcases Q3 h.length with e'|e'
  ·exact absurd (λt=>by rw[e,Dy e'];grind) (SZ tp (by omega))
  ·exact e'
 have hlen:=Mq tg th tp e lg lh;obtain⟨q,hq⟩:=nmE (spots.filter λx => !decide (pz p x=0));have hr:(spots.filter λx=>decide (pz p x=0)).length<=9:=by
  refine Qka (g:=cz p) (e:=9) (λk hk=>?_) (λh=>SZ tp (by omega) λt=>by rw[<-U8];exact h t) (spots_nd.sublist List.filter_sublist) λx hx=>?_
  ·rw[Mn,Qi,Qu (by omega)];rfl
  ·have:=(Yi.1 hx).2;rw[U8,WU,of_decide_eq_true this];rfl
 have hc:=DY (λx=>decide (pz p x=0)) spots;rw[<-hq]at hc;have hsl:spots.length=19:=by decide
 have hB:∀z∈p,Fh (z:Rat)≤((2^s:Nat):Rat):=λz hz=>by
  rw[Sx];have:=hp z hz;rw[T0]at this;exact Zm.2 (Yk this)
 have key:=nT (K:=9) (by decide) 9 (cz g) (q.take 10) (((2^s*435848050:Nat)):Rat) (by rw[Qq];omega) ((spots_nd.sublist (by rw[hq];exact List.filter_sublist)).sublist (List.take_sublist ..)) (λx hx=>by
  have hx:=Qn hx;rw[hq]at hx;have:=tL x (Yi.1 hx).1;rw[Sx]
  exact_mod_cast Zm.2 this) (λk hk=>by rw[Mn,Qi,Qu (by omega)];rfl) (λx hx=>by
  have hx:=Qn hx;rw[hq]at hx;obtain⟨hx1,hx2⟩:=Yi.1 hx;have hne:pz p x≠0:=by simpa using hx2
  have e1:=e (x:Rat);rw[WU,WU,WU]at e1;have e2:pz p x=pz g x*pz h x:=by exact_mod_cast e1
  have hh:1<=(pz h x).natAbs:=by
   rcases Q3 (pz h x).natAbs with e'|e'
   ·exact absurd (by rw[e2,Int.natAbs_eq_zero.1 e',Wb]) hne
   ·exact e'
  have h3:(pz g x).natAbs<=(pz p x).natAbs:=by
   rw[e2,J9];exact Ys _ hh
  rw[U8,WU,Sx];refine Zl (Zm.2 h3) ?_;rw[<-Sx,<-WU,<-U8];refine Zl (SJ (R:=9) (by
   have:=tL x hx1;rw[Sx]
   exact_mod_cast Zm.2 this) _) ?_
  refine Zl (aV p hB) ?_;have:2^s*geo p.length<=2^s*435848050:=Zu _ (Qa (Qhv hl) (by decide));have:=Zm.2 this
  push_cast at this ⊢
  exact this)
 refine NE λk=>?_
 have h1:=key k;rw[Mn,Sx]at h1;have e3:(2*(9:Rat)+3)^9*((2^s*435848050:Nat):Rat)=(((794280046581*(2^s*435848050)):Nat):Rat):=by
  rw[show(2*(9:Rat)+3)^9=794280046581 by grind]
  push_cast;rfl
 rw[e3]at h1;have h2:=Zm.1 h1;rw[T0];refine Z4 h2 ?_;have:794280046581*(2^s*435848050)=2^s*(794280046581*435848050):=by
  rw[Nat.mul_left_comm]
 rw[this,Xf];exact Nat.mul_lt_mul_of_pos_left (by decide) (Z3 (by decide))
theorem uN{l:Un}{d:Int}(h:∀z∈l,d∣z):d∣((Rz l:Nat):Int):=by
 have key:∀(l:Un) (g:Nat),d.natAbs∣g->(∀z∈l,d∣z)->d.natAbs∣l.foldl (λg z=>Nat.gcd g z.natAbs) g:=by
  intro l
  induction l with
  |nil=>exact λg h _=>h
  |cons z l ih=>exact λg hg h=>ih _ (Nat.dvd_gcd hg (X2.2 (h z (Qx ..)))) λu hu=>h u (Qg _ hu)
 have:=key l 0 (Nat.dvd_zero _) h;exact X2.1 (by rw[Xh];exact this)
theorem FQ(p:Un)(c:Int)(k:Nat):(p.map (· / c)).getD k 0=p.getD k 0 / c:=by
 rw[Qi,Qi,Q9];cases p[k]? <;> simp
theorem WF(p:Un)(c:Int)(k:Nat):(Da p c).getD k 0=p.getD k 0 / c:=by
 unfold Da;rw[VW,FQ]
theorem qL{p:Un}{c:Int}(h:∀z∈p,c∣z)(t:Rat):U7 p t=(c:Rat)*U7 (Da p c) t:=by
 have:=Cm c 0 t (max p.length (Da p c).length) (Da p c) [] p (by omega) (by simp) (by omega) λk=>by
  rw[WF];have hd:c∣p.getD k 0:=by
   rw[Qi];cases e:p[k]? with
   |none=>exact Int.dvd_zero _
   |some z=>exact h z (Qc e)
  rw[Wa hd];simp
 rw[this];simp only[U7];push_cast;grind
theorem XH{c:Int}(h:c≠0):(c:Rat)≠0:=λe=>h (by exact_mod_cast e)
theorem QN{p q:Un}{c:Rat}(tp:Fc p)(tq:Fc q)(hc:c≠0)(h:∀t,U7 p t=c*U7 q t):p.length=q.length:=by
 have key:∀{p q:Un} {c:Rat},Fc p->Fc q->c≠0->(∀t,U7 p t=c*U7 q t)->p.length<=q.length:=λ{p q c} tp tq hc h=>by
  rcases Zb q.length p.length with e|e
  ·have h1:=H7 tp (by omega);have:=Dv (p:=cz p) (q:=D2 c (cz q)) (λt=>by rw[U8,Gs,U8,h]) (p.length-1);rw[Mn,So,Mn,Qi (l:=q),Qu (by omega)]at this;have:((p.getD (p.length-1) 0:Int):Rat)=0:=by rw[this];simp
   exact absurd (by exact_mod_cast this) h1
  ·exact e
 refine Kb (key tp tq hc h) (key (c:=1 / c) tq tp (λe=>?_) λt=>?_)
 ·have:=Zj (a:=1) hc;rw[e]at this;grind
 ·rw[h];have:=Zj (a:=1) hc;grind
theorem Co{p:Un}(tp:Fc p)(h:p.length≠0):Fc (Fg p)/\(Fg p).length=p.length/\Prm (Fg p)/\0<Fo (Fg p)/\(∀s,Bd s p->Bd s (Fg p))/\Hn p≠0/\∀t,U7 p t=(Hn p:Rat)*U7 (Fg p) t:=by
 have h0:=oJ tp h;have e:Fg p=Da p (Hn p):=by unfold Fg;rw[if_neg h]
 have h1:=qL (p:=p) (c:=Hn p) FA;have hl:=QN tp (QO p (Hn p)) (XH h0) h1;have hcp:0<Pf p:=by
  have:=JY tp h;unfold Pf at this ⊢;omega
 rw[e];refine⟨QO _ _,hl.symm,λd hd=>?_,?_,λs hs=>NA hs _,h0,h1⟩
 ·have h2:∀z∈p,d*Hn p∣z:=λz hz=>by
   obtain⟨i,hi⟩:=Zk.1 hz;have h3:=hd i;rw[WF,Qi,hi]at h3;obtain⟨k,hk⟩:=h3;have h4:=FA z hz;refine⟨k,?_⟩;have:z / Hn p*Hn p=z:=Int.ediv_mul_cancel h4;rw[<-this];rw[show z / Hn p=d*k from hk,Int.mul_right_comm]
  have h3:=uN h2;have h4:Hn p∣((Rz p:Nat):Int)/\((Rz p:Nat):Int)∣Hn p:=by
   unfold Hn Pf;split
   ·exact⟨Ud.2 (K8 _),Int.dvd_neg.2 (K8 _)⟩
   ·exact⟨K8 _,K8 _⟩
  obtain⟨k,hk⟩:=V5 h3 h4.2;refine⟨k,?_⟩;have:Hn p*(d*k)=Hn p*1:=by rw[Uc,<-Int.mul_assoc,K9 (Hn p) d,<-hk]
  exact(Int.eq_of_mul_eq_mul_left h0 this).symm
 ·have h2:Fo (Da p (Hn p))=Fo p / Hn p:=by unfold Fo;rw[<-hl,WF]
  have h3:Hn p∣Fo p:=FA _ (LX h);have h5:Fo p / Hn p*Hn p=Fo p:=Int.ediv_mul_cancel h3;rw[h2];have h6:=Ek tp h;rcases Km (Fo p / Hn p) 0 with e1|e1|e1
  ·exfalso;by_cases hn:Fo p<0
   ·have:Hn p=-Pf p:=by unfold Hn;rw[if_pos hn]
    have:0<Fo p / Hn p*Hn p:=V9 e1 (by omega);omega
   ·have:Hn p=Pf p:=by unfold Hn;rw[if_neg hn]
    have:Fo p / Hn p*Hn p<0:=Int.mul_neg_of_neg_of_pos e1 (by omega);omega
  ·rw[e1]at h5;omega
  ·exact e1
theorem Qjn{r:Un}(tr:Fc r):∃c:Rat,0<c/\∀t,U7 r t=c*U7 (KQ r) t:=by
 unfold KQ;by_cases h:r.length=0
 ·rw[if_pos h];exact⟨1,by decide,λt=>by rw[Dy h,Dy rfl];grind⟩
 ·rw[if_neg h];have h1:0<Pf r:=by
   have:=JY tr h;unfold Pf at this ⊢;omega
  have h2:((0:Int):Rat)<(Pf r:Rat):=Jo.2 h1;exact⟨Pf r,by simpa using h2,qL E5⟩
theorem JV(x:Int)(t:Rat):∀i,U7 (mono i x) t=(x:Rat)*t^i
 | 0=>by simp only[mono,Wl,Yj,U7,Xg];grind
 |
  i+1=>by
  have ih:=JV x t i;simp only[mono,J5,Xb,U7]at *;rw[ih,Z7];push_cast;grind
theorem iU(x:Int)(b:Un)(i k:Nat):(Gj (trim (mono i x)) b).getD k 0=if i<=k then x*b.getD (k-i) 0 else 0:=by
 have e:∀t,U7 (Gj (trim (mono i x)) b) t=U7 (List.replicate i 0++b.map (x * ·)) t:=λt=>by
  rw[Gi,Ol,JV];have h2:∀i,U7 (List.replicate i 0++b.map (x * ·)) t=t^i*((x:Rat)*U7 b t):=λi=>by
   induction i with
   |
    zero =>
    simp only[Wl,Yj,Xg];have:=Cm x 0 t (max b.length (b.map (x * ·)).length) b [] (b.map (x * ·)) (by omega) (by simp) (by omega) λk=>by
     rw[Qi,Qi,Q9];cases b[k]? <;> simp
    rw[this];simp only[U7];push_cast;grind
   |succ i ih=>simp only[J5,Xb,U7,ih,Z7];push_cast;grind
  rw[h2];grind
 rw[Lk e k,Qi,List.getElem?_append,Jd];by_cases h:i<=k
 ·rw[if_neg (by omega),if_pos h,Q9,Qi];cases b[k-i]? <;> simp
 ·rw[if_pos (by omega),if_neg h,J0,if_pos (by omega)];rfl
theorem Qig{p:Un}{n:Nat}(tp:Fc p)(h:p.length<=n+1)(h0:p.getD n 0=0):p.length<=n:=by
 rcases Zb n p.length with e|e
 ·have:=H7 tp (by omega);rw[show p.length-1=n by omega]at this;exact absurd h0 this
 ·exact e
theorem Qqu{b r:Un}{i:Nat}(tr:Fc r)(h:r.length<=b.length+i)(hb:b.length≠0){x:Int}(hx:x=if r.length=b.length+i then Fo r else 0):(str b (Fo b) i x r).length<b.length+i:=by
 have hl:=jO (c:=Fo b) (x:=x) (i:=i) (b:=b) (r:=r);have:=Qig (p:=str b (Fo b) i x r) (n:=b.length+i-1) (Fx _ _) (by omega) (by
  unfold str;rw[Ow,Mf,iU,if_pos (by omega),hx,show b.length+i-1-i=b.length-1 by omega]
  split
  ·rename_i he;unfold Fo;rw[he,Int.sub_eq_zero]
  ·rw[Qi (l:=r),Qu (by omega)];simp)
 omega
theorem Qwf(b r:Un)(c:Int)(i:Nat)(x:Int)(t:Rat):(c:Rat)*U7 r t=(x:Rat)*t^i*U7 b t+U7 (str b c i x r) t:=by
 unfold str;rw[Ng,Rk,Gi,Ol,JV];grind
theorem Qjr(b:Un)(c:Int):∀(i:Nat) (q r:Un),∃X:Uq,∀t,((c^i:Int):Rat)*U7 r t=ev X t*U7 b t+U7 (rD b c i (q,r)).2 t
 | 0,q,r=>⟨[],λt=>by simp only[rD,ev];rw[Wz];push_cast;grind⟩
 |
  i+1,q,r=>by
  obtain⟨x,hx⟩:=nmE (if r.length=b.length+i then Fo r else 0);obtain⟨X,hX⟩:=Qjr b c i (stq c i x q) (str b c i x r);obtain⟨m,hm⟩:∃m:Uq,∀t,ev m t=(x:Rat)*t^i:=⟨cz (mono i x),λt=>by rw[U8,JV]⟩;refine⟨Su (D2 ((c^i:Int):Rat) m) X,λt=>?_⟩;rw[JF hx,Gy,Gs,hm];have h1:=hX t;have h2:=Qwf b r c i x t;rw[Wy]
  push_cast at h1 ⊢
  have:(c:Rat)^i*c*U7 r t=(c:Rat)^i*((c:Rat)*U7 r t):=by grind
  rw[this,h2];grind
theorem oG{b:Un}(hb:b.length≠0):∀(i:Nat) (q r:Un),Fc r->r.length<b.length+i->Fc (rD b (Fo b) i (q,r)).2/\(rD b (Fo b) i (q,r)).2.length<b.length
 | 0,q,r,tr,h=>⟨tr,h⟩
 |
  i+1,q,r,tr,h=>by
  rw[JF rfl];exact oG hb i _ _ (Fx _ _) (Qqu tr (by omega) hb rfl)
theorem Qjq{b:Un}{c:Int}{t:Nat}(hb:Bd t b)(hc:Fb c<=t):∀(i u:Nat) (q r:Un),i<=64->Bd u r->Bd (u+i*(t+8)) (rD b c i (q,r)).2
 | 0,u,q,r,_,h=>by simpa[rD]using h
 |
  i+1,u,q,r,hi,h=>by
  rw[JF rfl];have hx:Fb (if r.length=b.length+i then Fo r else 0)<=u:=by
   split
   ·exact M8 h
   ·rw[M9];exact Qh _
  have:=Qjq hb hc i (u+t+8) (stq c i (if r.length=b.length+i then Fo r else 0) q) (str b c i (if r.length=b.length+i then Fo r else 0) r) (by omega) (pF h hb hc hx (by omega));exact U4 this (by rw[Xa];omega)
theorem EK{c:Int}(h:c<0):∀k:Nat,(k % 2=1->c^k<0)/\(k % 2=0->0<c^k)
 | 0=>⟨λh=>by omega,λ_=>by rw[Wz];decide⟩
 |
  k+1=>by
  obtain⟨i1,i2⟩:=EK h k;rw[Wy];exact⟨λhk=>V8 (i2 (by omega)) h,λhk=>V9 (i1 (by omega)) h⟩
theorem NW{a b:Un}(ta:Fc a)(tb:Fc b)(hb:b.length≠0)(hl:a.length<=60):Fc (Tc a b)/\(Tc a b).length<b.length/\(∀s,Bd s a->Bd s b->Bd (s+(a.length+1-b.length)*(s+8)) (Tc a b)) /\
 ∃u v:Rat,0<u/\0<v/\∃X:Uq,∀t,u*U7 a t=ev X t*U7 b t+v*U7 (Tc a b) t:=by
 obtain⟨k,hk⟩:=nmE (a.length+1-b.length);have h1:Fc (Ma a b)/\(Ma a b).length<b.length:=oG hb _ _ _ ta (by omega);obtain⟨X,hX⟩:=Qjr b (Fo b) k [] a;have hX:∀t,(((Fo b)^k:Int):Rat)*U7 a t=ev X t*U7 b t+U7 (Ma a b) t:=by unfold Ma;rw[<-hk];exact hX
 have h2:=GZ (a:=a) (b:=b) (r:=Ma a b) (n:=(Ma a b).length) (s:=(Ma a b).foldl (λm z=>m+Fb z) 0) h1.1 (Ql _) (λz hz=>by
  have key:∀(l:Un) (m:Nat),m≤l.foldl (λm z=>m+Fb z) m/\∀z∈l,Fb z≤l.foldl (λm z=>m+Fb z) m:=by
   intro l
   induction l with
   |nil=>exact λm=>⟨Ql _,λz hz=>by cases hz⟩
   |
    cons y l ih =>
    intro m;obtain⟨i1,i2⟩:=ih (m+Fb y);refine⟨by simp only[Z9];omega,λz hz=>?_⟩;simp only[Z9];rcases Qm.1 hz with rfl|hz
    ·omega
    ·exact i2 z hz
  exact(key _ 0).2 z hz)
 have h3:=EX (r:=Bv a b (Ma a b)) (n:=(Ma a b).length) h2.2.1 h2.2.2;refine⟨h3.1,by unfold Tc;omega,λs ha hbs=>?_,?_⟩
 ·have h4:=Qjq (c:=Fo b) hbs (M8 hbs) k s [] a (by omega) ha;have h5:=GZ (a:=a) (b:=b) (n:=(Ma a b).length) h1.1 (Nat.le_refl _) (show Bd (s+k*(s+8)) (Ma a b) by unfold Ma;rw[<-hk];exact h4);rw[<-hk];exact(EX h5.2.1 h5.2.2).2.2
 ·obtain⟨v,vp,hv⟩:=Qjn h2.1;have hc:=Ek tb hb;by_cases ht:k % 2=1/\Fo b<0
  ·have e1:Bv a b (Ma a b)=Mr (Ma a b):=by unfold Bv;rw[<-hk,if_pos ht]
   have hneg:(Fo b)^k<0:=(EK ht.2 k).1 ht.1;have h5:(((Fo b)^k:Int):Rat)<((0:Int):Rat):=Jo.2 hneg;have h5:(((Fo b)^k:Int):Rat)<0:=by simpa using h5
   refine⟨-(((Fo b)^k:Int):Rat),v,by grind,vp,D2 (-1) X,λt=>?_⟩;have h6:=hX t;have h7:=hv t;rw[e1,FD]at h7;show _=_+v*U7 (KQ (Bv a b (Ma a b))) t;rw[e1,<-h7,Gs];grind
  ·have e1:Bv a b (Ma a b)=Ma a b:=by unfold Bv;rw[<-hk,if_neg ht]
   have hpos:0<(Fo b)^k:=by
    rcases Ke hc with h|h
    ·exact(EK h k).2 (by omega)
    ·exact Int.pow_pos h
   have h5:((0:Int):Rat)<(((Fo b)^k:Int):Rat):=Jo.2 hpos;refine⟨(((Fo b)^k:Int):Rat),v,by simpa using h5,vp,X,λt=>?_⟩;have h7:=hv t;show _=_+v*U7 (KQ (Bv a b (Ma a b))) t;rw[<-h7,e1,hX]
theorem Ac{p:Un}(h1:p.length<=64)(h2:Bd 16777216 p):IC p=some p:=by
 unfold IC;rw[if_pos ⟨h1,Ju.2 λz hz=>Nat.ble_eq_true_of_le (h2 z hz)⟩]
theorem OX{a b:Un}{g:Uq}{c:Rat}(hc:c≠0)(h:∀t,U7 a t=c*U7 b t):ZP g (cz a)↔ZP g (cz b):=by
 constructor
 ·rintro⟨u,hu⟩
  refine⟨D2 (1 / c) u,λt=>?_⟩;have h1:=hu t;rw[U8,h]at h1;rw[U8,Gs];have h2:1 / c*c=1:=Zj hc;have:U7 b t=1 / c*(c*U7 b t):=by grind
  rw[this,h1];grind
 ·rintro⟨u,hu⟩
  refine⟨D2 c u,λt=>?_⟩;have h1:=hu t;rw[U8]at h1;rw[U8,Gs,h,h1];grind
structure Gc(g a b:List Int):Prop where
 t:Fc g
 da:ZP (cz g) (cz a)
 db:ZP (cz g) (cz b)
 c:∃U V,∀t,U7 g t=ev U t*U7 a t+ev V t*U7 b t
 n:g.length≠0
theorem Gc.scale{g a b g' a' b':Un}{x y z:Rat}(h:Gc g a b)(hx:x≠0)(hy:y≠0)(hz:z≠0)(tg:Fc g')(eg:∀t,U7 g t=x*U7 g' t)(ea:∀t,U7 a' t=y*U7 a t)(eb:∀t,U7 b' t=z*U7 b t):Gc g' a' b':=by
 have hx1:1 / x*x=1:=Zj hx;have hy1:1 / y*y=1:=Zj hy;have hz1:1 / z*z=1:=Zj hz;have hg:∀c,ZP (cz g) c->ZP (cz g') c:=λc ⟨u,hu⟩=>⟨D2 x u,λt=>by rw[hu,U8,U8,eg,Gs];grind⟩
 obtain⟨U,V,hc⟩:=h.c;refine⟨tg,hg _ ((OX hy ea).2 h.da),hg _ ((OX hz eb).2 h.db),⟨D2 (1 / x*(1 / y)) U,D2 (1 / x*(1 / z)) V,λt=>?_⟩,?_⟩
 ·have h1:=hc t;have h2:U7 g' t=1 / x*U7 g t:=by rw[eg];grind
  rw[h2,h1,Gs,Gs,ea,eb];generalize ev U t=u at *;generalize ev V t=v at *;grind
 ·rw[<-QN h.t tg hx eg];exact h.n
theorem Qvt:∀d:Nat,1<=d->d+2<=3^d
 | 0,h=>by omega
 | 1,_=>by decide
 |d+2,_=>by have:=Qvt (d+1) (by omega);rw[Zr];omega
theorem sG{k:Nat}{a b:Un}(ta:Fc a)(tb:Fc b)(hb:b.length≠0)(hl:a.length<=60)(hbl:b.length<=60)(hr:Bd 16777216 (Tc a b))(ih:∃g,TP k b (Tc a b)=some g/\Gc g b (Tc a b)):∃g,TP (k+1) a b=some g/\Gc g a b:=by
 obtain⟨h1,h2,h3,u,v,up,vp,X,hX⟩:=NW ta tb hb hl;obtain⟨g,e,hg⟩:=ih;refine⟨g,?_,?_⟩
 ·simp only[TP];rw[if_neg hb,Ac (by omega) hr];exact e
 ·obtain⟨U,V,hc⟩:=hg.c;obtain⟨y,hy⟩:=hg.da;obtain⟨z,hz⟩:=hg.db;have hu:1 / u*u=1:=Hd up;have hv:1 / v*v=1:=Hd vp;refine⟨hg.t,⟨D2 (1 / u) (Su (G5 X y) (D2 v z)),λt=>?_⟩,hg.da,⟨D2 (u / v) V,Su U (D2 (-1 / v) (G5 V X)),λt=>?_⟩,hg.n⟩
  ·have a1:=hX t;have a2:=hy t;have a3:=hz t;rw[U8,U8]at a2 a3;rw[U8,U8,Gs,Gy,Ff,Gs];have:U7 a t=1 / u*(u*U7 a t):=by grind
   rw[this,a1,a2,a3];grind
  ·have a1:=hX t;have a2:=hc t;rw[Gs,Gy,Gs,Ff,a2];have:U7 (Tc a b) t=1 / v*(v*U7 (Tc a b) t):=by grind
   rw[this,show v*U7 (Tc a b) t=u*U7 a t-ev X t*U7 b t by grind,Jn,Jn,Jn];grind
theorem Qam{k:Nat}{a:Un}(ta:Fc a)(ha:a.length≠0):∃g,TP (k+1) a []=some g/\Gc g a [] :=
 ⟨a,rfl,ta,dvd_refl _,⟨[],λt=>by simp only[cz,X6,ev];grind⟩,⟨[1],[],λt=>by rw[Td];simp only[ev];grind⟩,ha⟩
theorem TM{s:Nat}:∀(k:Nat) (a b:Un),Fc a->Fc b->b.length<k->b.length<a.length->a.length<=60->Bd s a->Bd s b->(s+8)*3^(a.length-1)<=16777216->∃g,TP k a b=some g/\Gc g a b
 | 0,_,_,_,_,h,_,_,_,_,_=>by omega
 |
  k+1,a,b,ta,tb,hk,hab,hl,ba,bb,hs=>by
  by_cases hb:b.length=0
  ·rw[Qj hb];exact Qam ta (by omega)
  ·obtain⟨h1,h2,h3,_⟩:=NW ta tb hb hl;have h3:=h3 s ba bb;obtain⟨m,hm⟩:=nmE (a.length-b.length);have e1:a.length+1-b.length=m+1:=by omega
   rw[e1]at h3;have e2:s+(m+1)*(s+8)+8=(m+2)*(s+8):=by
    rw[show m+2=(m+1)+1 by omega,Xa (m+1)];omega
   have e3:(m+2)*(s+8)*3^(b.length-1)<=(s+8)*3^(a.length-1):=by
    rw[show a.length-1=m+(b.length-1) by omega,Xf,<-Xy,Zq (s+8)];exact Q0 _ (Q0 _ (Qvt m (by omega)))
   have e4:s+(m+1)*(s+8)<=16777216:=by
    have:(m+2)*(s+8)<=(m+2)*(s+8)*3^(b.length-1):=Ys _ (Z3 (by decide));omega
   refine sG ta tb hb hl (by omega) (U4 h3 e4) (TM (s:=s+(m+1)*(s+8)) k b (Tc a b) tb h1 (by omega) h2 (by omega) (U4 bb (by omega)) h3 ?_);rw[e2];omega
def Szz(n s:Nat):Prop:=n<=10/\2*(s+8)*3^(n-1)<=16777216
theorem Qld{n s:Nat}(hz:Szz n s){a b:Un}(ta:Fc a)(tb:Fc b)(la:a.length<=n)(lb:b.length<=n)(ba:Bd s a)(bb:Bd s b)(h0:a.length≠0\/b.length≠0):∃g,TP 66 a b=some g/\Gc g a b:=by
 obtain⟨hn,hz⟩:=hz;have hp:∀l,l<=n->(s+8)*3^(l-1)<=8388608:=λl hl=>by
  have:(s+8)*3^(l-1)<=(s+8)*3^(n-1):=Zu _ (Zs (by decide) (by omega));rw[Xy]at hz;omega
 rcases Zb b.length a.length with h|h
 ·exact TM 66 a b ta tb (by omega) h (by omega) ba bb (by have:=hp a.length la;omega)
 ·by_cases hb:b.length=0
  ·rw[Qj hb];exact Qam ta (by omega)
  ·obtain⟨h1,h2,h3,_⟩:=NW ta tb hb (by omega);have h3:=h3 s ba bb;have h4:(a.length+1-b.length)*(s+8)<=1*(s+8):=Q0 _ (by omega);have h5:=hp b.length lb;have h6:(s+8)*1<=(s+8)*3^(b.length-1):=Zu _ (Z3 (by decide));refine sG ta tb hb (by omega) (by omega) (U4 h3 (by omega)) (TM (s:=2*s+8) 65 b (Tc a b) tb h1 (by omega) h2 (by omega) (U4 bb (by omega)) (U4 h3 (by omega)) ?_);rw[show 2*s+8+8=2*(s+8) by omega,Xy];omega
theorem zQ:Fg []=[]:=rfl
theorem GQ{a:Un}(ta:Fc a):Fc (Fg a)/\(Fg a).length=a.length/\(∀s,Bd s a->Bd s (Fg a))/\∃c:Rat,c≠0/\∀t,U7 a t=c*U7 (Fg a) t:=by
 by_cases h:a.length=0
 ·rw[Qj h];exact⟨rfl,rfl,λs _=>ZC,1,by decide,λt=>by rw[zQ];grind⟩
 ·obtain⟨h1,h2,h3,h4,h5,h6,h7⟩:=Co ta h;exact⟨h1,h2,h5,_,XH h6,h7⟩
theorem WE{n s:Nat}(hz:Szz n s){a b:Un}(ta:Fc a)(tb:Fc b)(la:a.length<=n)(lb:b.length<=n)(ba:Bd s a)(bb:Bd s b)(h0:a.length≠0\/b.length≠0):∃g,JG a b=some g/\Gc g a b/\Prm g/\0<Fo g:=by
 obtain⟨a1,a2,a3,x,xn,ax⟩:=GQ ta;obtain⟨b1,b2,b3,y,yn,bx⟩:=GQ tb;obtain⟨g,e,hg⟩:=Qld hz a1 b1 (by omega) (by omega) (a3 s ba) (b3 s bb) (by omega);obtain⟨g1,g2,g3,g4,g5,g6,g7⟩:=Co hg.t hg.n;refine⟨Fg g,?_,hg.scale (XH g6) xn yn g1 g7 ax bx,g3,g4⟩;unfold JG;rw[e];rfl
theorem Qdl{a:Un}(ta:Fc a):JG [] a=some (Fg (Fg a)):=by
 unfold JG;rw[zQ];by_cases h:(Fg a).length=0
 ·have e:Fg a=[]:=Qj h;rw[e];rfl
 ·have e:Tc [] (Fg a)=[]:=by
   have e1:Ma [] (Fg a)=[]:=by unfold Ma;rw[show([]:Un).length+1-(Fg a).length=0 by simp;omega];rfl
   unfold Tc;rw[e1];unfold Bv
   split <;> rfl
  have:TP 66 [] (Fg a)=some (Fg a):=by
   show(if (Fg a).length=0 then _ else _)=_;rw[if_neg h,e];rfl
  rw[this];rfl
theorem Qht{n s:Nat}(hz:Szz n s){a b:Un}(ta:Fc a)(tb:Fc b)(la:a.length<=n)(lb:b.length<=n)(ba:Bd s a)(bb:Bd s b)(h0:a.length≠0):∃g,yA a b=some g/\Gc g a b/\Prm g/\0<Fo g:=by
 obtain⟨a1,a2,a3,x,xn,ax⟩:=GQ ta;obtain⟨b1,b2,b3,y,yn,bx⟩:=GQ a1;obtain⟨g,e,hg,h1,h2⟩:=WE hz b1 tb (by omega) lb (b3 s (a3 s ba)) bb (by omega);refine⟨g,?_,hg.scale (x:=1) (y:=x*y) (z:=1) (by decide) (λh=>(Y3.1 h).elim xn yn) (by decide) hg.t (λt=>by grind) (λt=>by rw[ax,bx];grind) (λt=>by grind),h1,h2⟩;unfold yA;rw[Qdl ta];exact e
theorem Qaj:∀{p q:Uq} {m n:Nat},HD p m->HD q n->(G5 p q).getD (m+n) 0=p.getD m 0*q.getD n 0
 | [],q,m,n,h,_=>absurd (by simp) h.1
 |
  a::p,q,0,n,h,h'=>by
  have h1:∀k,p.getD k 0=0:=λk=>by have:=h.2 (k+1) (by omega);rwa[Q4]at this
  simp only[G5];rw[Rj,So,Zt,Zy];cases n with
  |zero=>rw[Zt];grind
  |succ n=>rw[Q4,SU h1];grind
 |
  a::p,q,m+1,n,h,h'=>by
  have ih:=Qaj (p:=p) (q:=q) (m:=m) ⟨by have:=h.1;rwa[Q4]at this,λk hk=>by have:=h.2 (k+1) (by omega);rwa[Q4]at this⟩ h';simp only[G5];rw[Rj,So,show m+1+n=(m+n)+1 by omega,Q4,h'.2 _ (by omega),ih,Q4];grind
theorem fD{a b c:Un}(ta:Fc a)(tb:Fc b)(tc:Fc c)(h:∀t,U7 c t=U7 a t*U7 b t)(la:0<a.length)(lb:0<b.length):Fo c=Fo a*Fo b:=by
 have h1:=SK ta la;have h2:=SK tb lb;have h3:=Qaj h1 h2;have hl:=Mq ta tb tc h la lb;rw[<-Dv (p:=cz c) (λt=>by rw[Ff,U8,U8,U8,h]),Mn,Mn,Mn,show a.length-1+(b.length-1)=c.length-1 by omega]at h3;unfold Fo;exact_mod_cast h3
theorem Te{a b c:Un}(tc:Fc c)(hc:c.length≠0)(h:∀t,U7 c t=U7 a t*U7 b t):0<a.length/\0<b.length:=by
 constructor
 ·rcases Q3 a.length with e|e
  ·exact absurd (λt=>by rw[h,Dy e];grind) (SZ tc (by omega))
  ·exact e
 ·rcases Q3 b.length with e|e
  ·exact absurd (λt=>by rw[h,Dy e];grind) (SZ tc (by omega))
  ·exact e
theorem yE{b:Un}(tb:Fc b)(hb:b.length≠0):∀(i:Nat) (a q h:Un),Fc a->Fc h->(∀t,U7 a t=U7 b t*U7 h t)->a.length<b.length+i->i<=q.length->(∀j,j<i->q.getD j 0=0)->∃q',yL b i a q=some q'/\q'.length=q.length/\∀t,U7 q' t=U7 q t+U7 h t
 |
  0,a,q,h,ta,th,e,hl,_,_=>by
  have ha:a.length=0:=by
   rcases Q3 a.length with e'|e'
   ·exact e'
   ·obtain⟨p1,p2⟩:=Te ta (by omega) e;have:=Mq tb th ta e p1 p2;omega
  refine⟨q,by simp only[yL];rw[if_pos ha],rfl,λt=>?_⟩;have:∀t,U7 h t=0:=λt=>by
   have:=mF (p:=cz b) (q:=cz h) (r:=[]) (λh0=>SZ tb (by omega) λt=>by rw[<-U8];exact h0 t) (λt=>by rw[U8,U8,<-e,Dy ha];simp only[ev];grind) t;rwa[U8]at this
  rw[this];grind
 |
  i+1,a,q,h,ta,th,e,hl,hq,h0=>by
  simp only[yL];by_cases hlt:a.length<b.length+i
  ·rw[if_pos hlt];exact yE tb hb i a q h ta th e hlt (by omega) λj hj=>h0 j (by omega)
  ·rw[if_neg hlt];obtain⟨p1,p2⟩:=Te ta (by omega) e;have hln:=Mq tb th ta e p1 p2;have hld:=fD tb th ta e p1 p2;have hlb:=Ek tb hb;rw[hld,if_pos (Int.mul_emod_right _ _),Jc _ hlb];have hli:h.length=i+1:=by omega
   have e2:∀t,U7 (M4 a (Gj (trim (mono i (Fo h))) b)) t=U7 b t*U7 (M4 h (mono i (Fo h))) t:=λt=>by
    rw[Ng,Ng,Gi,Ol,e];grind
   have hl2:(M4 a (Gj (trim (mono i (Fo h))) b)).length<b.length+i:=by
    have hl:=iQ (i:=i) (x:=Fo h) (b:=b) (a:=a);unfold sta at hl;have:=Qig (p:=M4 a (Gj (trim (mono i (Fo h))) b)) (n:=b.length+i-1) (Fx _ _) (by omega) (by
     rw[Ow,iU,if_pos (by omega),show b.length+i-1-i=b.length-1 by omega,show b.length+i-1=a.length-1 by omega];have:Fo a=a.getD (a.length-1) 0:=rfl;rw[<-this,hld];unfold Fo;rw[K9,Int.sub_eq_zero])
    omega
   obtain⟨q',h1,h2,h3⟩:=yE tb hb i _ (q.set i (Fo h)) (M4 h (mono i (Fo h))) (Fx _ _) (Fx _ _) e2 hl2 (by simp;omega) λj hj=>by
    rw[Qi,Yn,if_neg (by omega),<-Qi];exact h0 j (by omega)
   refine⟨q',h1,by rw[h2,Xd],λt=>?_⟩;rw[h3,yD q i _ t (by omega),h0 i (by omega),Ng,JV]
   push_cast;grind
theorem Qj1{a b h:Un}{s:Nat}(ta:Fc a)(tb:Fc b)(th:Fc h)(ha:a.length≠0)(la:a.length<=10)(ba:Bd s a)(hs:s+69<=16777216)(e:∀t,U7 a t=U7 b t*U7 h t):JU a b=some h:=by
 obtain⟨p1,p2⟩:=Te ta ha e;have hln:=Mq tb th ta e p1 p2;obtain⟨q,h1,h2,h3⟩:=yE tb (by omega) (a.length+1-b.length) a (List.replicate (a.length+1-b.length) 0) h ta th e (by omega) (by simp) λj _=>Ch _ _
 have h4:trim q=h:=oZ (Rm _) th λt=>by rw[Ol,h3,qE];grind
 unfold JU;rw[if_neg (by omega),h1];show IC (trim q)=_;rw[h4];exact Ac (by omega) (U4 (XV ba la ta th tb ha λt=>by rw[e];grind) (by omega))
structure Pr1(p:List Int):Prop where
 t:Fc p
 m:Prm p
 l:0<Fo p
theorem Pr1.n{p:Un}(h:Pr1 p):p.length≠0:=λe=>by
 have:=h.l;rw[Qj e]at this;exact absurd this (by decide)
theorem Pr1.one{p:Un}(h:Pr1 p)(hl:p.length<2):p=[1]:=by
 have hn:=h.n;obtain⟨c,rfl⟩:∃c,p=[c]:=Kr.1 (by omega);have h1:=h.m c λk=>by cases k <;> simp
 have h2:0<c:=h.l;have:=Int.le_of_dvd (by decide) h1;rw[show c=1 by omega]
theorem Qps{p g h:Un}(hp:Prm p)(e:∀t,U7 p t=U7 g t*U7 h t):Prm h:=λd hd=>by
 refine hp d λk=>?_
 have:=Lk (p:=p) (q:=Gj g h) (λt=>by rw[e,Gi]) k;rw[this];have e2:∀t,U7 (Gj g h) t=(d:Rat)*U7 (Gj g (h.map (· / d))) t:=λt=>by
  have h1:U7 h t=(d:Rat)*U7 (h.map (· / d)) t:=by
   have:=Cm d 0 t (max h.length (h.map (· / d)).length) (h.map (· / d)) [] h (by omega) (by simp) (by omega) λk=>by
    rw[FQ,Wa (hd k)];simp
   rw[this];simp only[U7];push_cast;grind
  rw[Gi,Gi,h1];grind
 have:=Lk (p:=Gj g h) (q:=Ft (Gj g (h.map (· / d))) d) (λt=>by rw[e2,Rk];grind) k;rw[this,Mf];exact Y9 _ _
theorem Qpr{p g h:Un}(hp:Pr1 p)(hg:0<Fo g)(tg:Fc g)(th:Fc h)(e:∀t,U7 p t=U7 g t*U7 h t):Pr1 h:=by
 obtain⟨p1,p2⟩:=Te hp.t hp.n e;have:=fD tg th hp.t e p1 p2;refine⟨th,Qps hp.m e,?_⟩;have hl:=hp.l;rw[this]at hl;rcases Km (Fo h) 0 with h1|h1|h1
 ·have:=V8 hg h1;omega
 ·rw[h1]at hl;omega
 ·exact h1
structure Sqp(p g q:List Int):Prop where
 pp:Pr1 p
 pg:Pr1 g
 pq:Pr1 q
 e:∀t,U7 p t=U7 g t*U7 q t
 c:∃U V,∀t,U7 g t=ev U t*U7 p t+ev V t*dv (cz p) t
 d:∃z,∀t,dv (cz p) t=U7 g t*ev z t
theorem Sqp.num{p g q:Un}(h:Sqp p g q){d:Uq}(h1:ZP d (cz q))(h2:ZP d (Bj (cz q))):∃c:Rat,c≠0/\∀t,ev d t=c:=by
 obtain⟨U,V,hc⟩:=h.c;have hpow:=sqf (k:=1) (a:=cz p) (g:=cz g) (q:=cz q) (d:=d) (U:=U) (V:=V) (by decide) (λt=>by rw[U8,U8,U8,h.e]) (λt=>by rw[U8,U8,hc];grind) h1 h2;rcases DL d with h3|⟨m,_,h3⟩
 ·obtain⟨u,hu⟩:=h1;exact absurd (λt=>by rw[<-U8,hu,h3];grind) (SZ h.pq.t (by have:=h.pq.n;omega))
 ·obtain rfl:=qO h3 (SK h.pg.t (by have:=h.pg.n;omega)) hpow;refine⟨d.getD 0 0,h3.1,λt=>?_⟩;cases d with
  |nil=>exact absurd (by simp) h3.1
  |
   cons c l =>
   have:=D7 (p:=l) λk=>by have:=h3.2 (k+1) (by omega);rwa[Q4]at this
   simp only[ev,this,Zt];grind
theorem Sqp.bez{p g q:Un}(h:Sqp p g q):∃X Y,∀t,ev X t*ev (cz q) t+ev Y t*dv (cz q) t=1:=by
 obtain⟨d,U,V,h1,h2,h3⟩:=Qhs (cz q) (Bj (cz q));obtain⟨c,hc,hd⟩:=h.num h1 h2;refine⟨D2 (1 / c) U,D2 (1 / c) V,λt=>?_⟩;have h5:=h3 t;rw[hd,Tp]at h5;have h4:1 / c*c=1:=Zj hc;rw[Gs,Gs];have:1 / c*ev U t*ev (cz q) t+1 / c*ev V t*dv (cz q) t=1 / c*(ev U t*ev (cz q) t+ev V t*dv (cz q) t):=by grind
 rw[this,<-h5,h4]
theorem Qk7{n s:Nat}(h:Szz n s):s<=8388600:=by
 have:2*(s+8)*1<=2*(s+8)*3^(n-1):=Zu _ (Z3 (by decide));have:=h.2;omega
theorem pU{s:Nat}{p:Un}(h:Bd s p)(hl:p.length<=10):Bd (s+4) (Gv p):=xU h (t:=4) (by omega)
theorem Qaf{n s:Nat}(hz:Szz n (s+73)){p:Un}(pp:Pr1 p)(l2:2<=p.length)(lp:p.length<=n)(bp:Bd (s+69) p){p0 h0:Un}(b0:Bd s p0)(l0:p0.length<=10)(t0:Fc p0)(th0:Fc h0)(z0:p0.length≠0)(e0:∀t,U7 p0 t=U7 h0 t*U7 p t) :
 ∃g q,IC (Gv p)=some (Gv p)/\JG p (Gv p)=some g/\JU p g=some q/\Sqp p g q/\g.length<p.length:=by
 have hn:=hz.1;have hs:=Qk7 hz;have bd:=pU bp (by omega);have ld:=Na p;have td:Fc (Gv p):=Fx _ _;obtain⟨g,e1,hg,m,l⟩:=WE hz pp.t td lp (by omega) (U4 bp (by omega)) bd (.inl pp.n);obtain⟨q,tq,eq⟩:=Qhm m hg.da;have hdnz:(Gv p).length≠0:=λh=>by
  have h1:=Bu p (p.length-2);rw[Qj h,show p.length-2+1=p.length-1 by omega]at h1;have h2:p.getD (p.length-1) 0≠0:=H7 pp.t (by omega);rcases Yf.1 (h1.symm.trans (by simp))with h3|h3
  ·exact h2 h3
  ·omega
 have pg:Pr1 g:=⟨hg.t,m,l⟩;have hql:=Qj1 (s:=s+69) pp.t hg.t tq pp.n (by omega) bp (by omega) eq;refine⟨g,q,Ac (by omega) (U4 bd (by omega)),e1,hql,⟨pp,pg,Qpr pp l hg.t tq eq,eq,?_,?_⟩,?_⟩
 ·obtain⟨U,V,hc⟩:=hg.c;exact⟨U,V,λt=>by rw[hc,Oj]⟩
 ·obtain⟨z,hz⟩:=hg.db;exact⟨z,λt=>by rw[<-Oj,<-U8,hz,U8]⟩
 ·obtain⟨z,tz,ez⟩:=Qhm m hg.db;obtain⟨q1,q2⟩:=Te td hdnz ez;have:=Mq hg.t tz td ez q1 q2;omega
theorem Qpg:Sqp [1] [1] [1]:=by
 have p1:Pr1 [1]:=⟨rfl,λd hd=>by have:=hd 0;rwa[Zt]at this,by decide⟩;have e1:∀t,U7 [1] t=1:=λt=>by simp only[U7];push_cast;grind
 exact⟨p1,p1,p1,λt=>by rw[e1];grind,⟨[1],[],λt=>by rw[e1,Td];simp only[ev];grind⟩,⟨[],λt=>by simp only[cz,Zz,X6,dv,ev];grind⟩⟩
structure Okp(n s:Nat)(p:List Int):Prop where
 z:Szz n (s+73)
 t:Fc p
 nz:p.length≠0
 l:p.length<=n
 b:Bd s p
theorem Okp.pr{n s:Nat}{p:Un}(h:Okp n s p):Pr1 (Fg p)/\(Fg p).length=p.length/\Bd s (Fg p):=by
 obtain⟨h1,h2,h3,h4,h5,_⟩:=Co h.t h.nz;exact⟨⟨h1,h3,h4⟩,h2,h5 s h.b⟩
theorem VY{n s:Nat}{p:Un}(h:Okp n s p):∃g q,Pk p=some q/\Sqp (Fg p) g q:=by
 obtain⟨pp,hl,hb⟩:=h.pr;have hn:=h.z.1;have:=h.l;unfold Pk;by_cases h2:(Fg p).length<2
 ·rw[if_pos h2,pp.one h2];exact⟨[1],[1],rfl,Qpg⟩
 ·rw[if_neg h2];obtain⟨g,q,h3,h4,h5,h6,_⟩:=Qaf h.z pp (by omega) (by omega) (U4 hb (by omega)) (p0:=Fg p) (h0:=[1]) hb (by omega) pp.t rfl pp.n λt=>by simp only[U7];push_cast;grind
  exact⟨g,q,by rw[h3];show(JG (Fg p) (Gv (Fg p))).bind _=_;rw[h4];exact h5,h6⟩
inductive LW:List Int->List (List Int)->Prop
 |nil:LW [1] []
 |cons {g h w:List Int} {ws:List (List Int)} (hs:Sqp g h w) (hl:LW h ws):LW g (w::ws)
theorem Qvf{g:Un}{ws:Uo}(h:LW g ws):∀t,U7 g t=ev (Oh (ws.map cz)) t:=by
 induction h with
 |nil=>intro t;simp only[X6,Oh,U7];rw[Td];push_cast;grind
 |cons hs hl ih=>intro t;simp only[Zz,Oh];rw[Ff,U8,hs.e,ih];grind
theorem iW{g:Un}{w v:Un}{ws:Uo}(h:LW g (w::v::ws)):∃f,Fc f/\∀t,U7 w t=U7 f t*U7 v t:=by
 cases h with
 |
  @cons _ h _ _ hs hl =>
  cases hl with
  |
   @cons _ h2 _ _ hs2 hl2 =>
   obtain⟨X,Y,hb⟩:=hs2.bez;obtain⟨z,hz⟩:=hs.d;have hd:=Qqr (a:=cz g) (g:=cz h) (q:=cz w) (z:=z) (r:=cz v) (X:=X) (Y:=Y) (n:=h.length-1) (λt=>by rw[U8,U8,U8,hs.e]) (λt=>by rw[hz,U8]) (SK hs.pg.t (by have:=hs.pg.n;omega)) hb
    ⟨G5 (cz h2) (cz w),λt=>by rw[Ff,U8,U8,U8,U8,hs.e,hs2.e];grind⟩
   obtain⟨f,tf,ef⟩:=Qhm hs2.pq.m hd;exact⟨f,tf,λt=>by rw[ef];grind⟩
theorem gZ{g w:Un}{ws:Uo}(h:LW g (w::ws)):∀v∈w::ws,Pr1 v/\ZP (cz v) (cz w):=by
 have key:∀(ws:Uo) (g w:Un),LW g (w::ws)->∀v∈w::ws,Pr1 v/\ZP (cz v) (cz w):=by
  intro ws
  induction ws with
  |
   nil =>
   intro g w h v hv;rw[Qk.1 hv];cases h with
   |cons hs hl=>exact⟨hs.pq,dvd_refl _⟩
  |
   cons u ws ih =>
   intro g w h v hv;have hn:=iW h;cases h with
   |
    @cons _ h _ _ hs hl =>
    rcases Qm.1 hv with rfl|hv
    ·exact⟨hs.pq,dvd_refl _⟩
    ·obtain⟨i1,i2⟩:=ih h u hl v hv;obtain⟨f,_,hf⟩:=hn;exact⟨i1,dvd_trans i2 ⟨cz f,λt=>by rw[U8,U8,U8,hf];grind⟩⟩
 exact key ws g w h
theorem lay_ok{n s:Nat}(hz:Szz n (s+73)){p0:Un}(b0:Bd s p0)(l0:p0.length<=10)(t0:Fc p0)(z0:p0.length≠0):∀(k:Nat) (g h0:Un),Pr1 g->g.length<=k->g.length<=n->Fc h0->(∀t,U7 p0 t=U7 h0 t*U7 g t)->∃ws,RG k g=some ws/\LW g ws
 | 0,g,_,pg,hk,_,_,_=>absurd pg.n (by omega)
 |
  k+1,g,h0,pg,hk,hn,th0,e0=>by
  simp only[RG];by_cases h2:g.length<2
  ·rw[if_pos h2,pg.one h2];exact⟨[],rfl,.nil⟩
  ·rw[if_neg h2];have bg:Bd (s+69) g:=XV b0 l0 t0 pg.t th0 z0 λt=>by rw[e0];grind
   obtain⟨h,w,h3,h4,h5,h6,h7⟩:=Qaf hz pg (by omega) hn bg b0 l0 t0 th0 z0 e0;obtain⟨ws,i1,i2⟩:=lay_ok hz b0 l0 t0 z0 k h (Gj h0 w) h6.pg (by omega) (by omega) (Hx _ _) λt=>by rw[e0,Gi,h6.e];grind
   refine⟨w::ws,?_,.cons h6 i2⟩;rw[h3];show(JG g (Gv g)).bind _=_;rw[h4];show(JU g h).bind _=_;rw[h5];show(RG k h).bind _=_;rw[i1];rfl
theorem Qhf{s:Nat}{p0:Un}(b0:Bd s p0)(l0:p0.length≤10)(t0:Fc p0)(z0:p0.length≠0)(hs:s+69+69≤16777216):∀(ws:Uo) (g h0:Un),LW g ws->Fc h0->(∀t,U7 p0 t=U7 h0 t*U7 g t)->∃fs,AD ws=some fs/\Lay (ws.map cz) (fs.map cz)/\∀f∈fs,Fc f
 | [],g,_,_,_,_=>⟨[],rfl,trivial,λf hf=>by cases hf⟩
 |
  [w],g,_,hl,_,_=>by
  cases hl with
  |cons hs hl=>exact⟨[w],rfl,λt=>rfl,λf hf=>by rw[Qk.1 hf];exact hs.pq.t⟩
 |
  w::v::ws,g,h0,hl,th0,e0=>by
  obtain⟨f,tf,ef⟩:=iW hl;cases hl with
  |
   @cons _ h _ _ hs1 hl =>
   have hpv:=(gZ hl v (Qx ..)).1;obtain⟨fs,i1,i2,i3⟩:=Qhf b0 l0 t0 z0 hs (v::ws) h (Gj h0 w) hl (Hx _ _) λt=>by rw[e0,Gi,hs1.e];grind
   have ew:∀t,U7 p0 t=U7 w t*U7 (Gj h0 h) t:=λt=>by rw[e0,Gi,hs1.e];grind
   have bw:Bd (s+69) w:=XV b0 l0 t0 hs1.pq.t (Hx _ _) z0 ew;obtain⟨p1,p2⟩:=Te t0 z0 ew;have lw:=Mq hs1.pq.t (Hx _ _) t0 ew p1 p2;have hq:=Qj1 (s:=s+69) hs1.pq.t hpv.t tf hs1.pq.n (by omega) bw hs λt=>by rw[ef];grind
   refine⟨f::fs,?_,⟨λt=>by rw[U8,U8,U8,ef],i2⟩,λx hx=>?_⟩
   ·show(JU w v).bind _=_;rw[hq];show(AD (v::ws)).bind _=_;rw[i1];rfl
   ·rcases Qm.1 hx with rfl|hx
    ·exact tf
    ·exact i3 x hx
def Nf:Uo->Un
 | []=>[1]
 | [f]=>f
 |f::_::l=>Gj f (Nf l)
theorem gI:∀(fs:Uo) (t:Rat),ev (PN (fs.map cz)) t=U7 (Nf fs) t
 | [],t=>by simp only[X6,PN,Nf,U7];rw[Td];push_cast;grind
 | [f],t=>by simp only[Zz,X6,PN,Nf];rw[U8]
 |f::g::l,t=>by simp only[Zz,PN,Nf];rw[Ff,U8,Gi,gI l]
theorem Nu(t:Rat):U7 [1] t=1:=by simp only[U7];push_cast;grind
theorem OR:∀{w:Un} {ws fs:Uo},Lay ((w::ws).map cz) (fs.map cz)->(∀f∈fs,Fc f)->(∀v∈w::ws,Fc v)->∃E,Fc E/\∀t,U7 w t=U7 (Nf fs) t*U7 E t
 |
  w,[],[f],h,_,_=>⟨[1],rfl,λt=>by
  have:=h t;rw[U8,U8]at this;rw[this,Nu];simp only[Nf];grind⟩
 |
  w,[v],[f,f2],h,_,hw=>⟨v,hw v (by simp),λt=>by
  have:=h.1 t;rw[U8,U8,U8]at this;rw[this];simp only[Nf];rw[Gi,Nu];grind⟩
 |
  w,v::x::l,f::f2::fs,h,hf,hw=>by
  obtain⟨E,hE,e⟩:=OR (w:=x) (ws:=l) (fs:=fs) h.2.2 (λg hg=>hf g (by simp[hg])) (λg hg=>hw g (by simp at hg ⊢;exact .inr (.inr hg)));refine⟨Gj f2 E,Hx _ _,λt=>?_⟩;have a1:=h.1 t;have a2:=h.2.1 t;rw[U8,U8,U8]at a1 a2;have e2:U7 (Nf (f::f2::fs)) t=U7 f t*U7 (Nf fs) t:=by simp only[Nf];rw[Gi]
  rw[a1,a2,e,e2,Gi];grind
 |w,[],[],h,_,_=>h.elim
 |w,[],_::_::_,h,_,_=>h.elim
 |w,[v],[],h,_,_=>h.elim
 |w,[v],[f],h,_,_=>h.2.elim
 |w,[v],_::_::_::_,h,_,_=>h.2.elim
 |w,v::x::l,[f],h,_,_=>h.2.elim
 |w,v::x::l,[],h,_,_=>h.elim
theorem YD{s:Nat}{p0:Un}(b0:Bd s p0)(l0:p0.length≤10)(t0:Fc p0)(z0:p0.length≠0)(hs:s+69≤16777216):∀(fs:Uo) (i:Nat) (a E:Un),i % 2=0->Fc a->Fc E->(∀f∈fs,Fc f)->(∀t,U7 p0 t=U7 a t*U7 (Nf fs) t*U7 E t)->∃o,FN i a fs=some o/\Fc o/\∀t,U7 o t=U7 a t*U7 (Nf fs) t
 | [],i,a,E,hi,ta,_,_,_=>⟨a,rfl,ta,λt=>by simp only[Nf];rw[Nu];grind⟩
 |
  [f],i,a,E,hi,ta,tE,tf,hE=>by
  have e1:∀t,U7 p0 t=U7 (Gj a f) t*U7 E t:=λt=>by rw[hE,Gi];rfl
  have b1:=XV b0 l0 t0 (Hx a f) tE z0 e1;obtain⟨p1,p2⟩:=Te t0 z0 e1;have hl:=Mq (Hx a f) tE t0 e1 p1 p2;refine⟨Gj a f,?_,Hx _ _,λt=>by rw[Gi];rfl⟩;simp only[FN];rw[if_pos hi,Ac (by omega) (U4 b1 (by omega))];rfl
 |
  f::g::fs,i,a,E,hi,ta,tE,tf,hE=>by
  have e0:∀t,U7 (Nf (f::g::fs)) t=U7 f t*U7 (Nf fs) t:=λt=>by simp only[Nf];rw[Gi]
  have e1:∀t,U7 p0 t=U7 (Gj a f) t*U7 (Gj (Nf fs) E) t:=λt=>by rw[hE,e0,Gi,Gi];grind
  have b1:=XV b0 l0 t0 (Hx a f) (Hx _ _) z0 e1;obtain⟨p1,p2⟩:=Te t0 z0 e1;have hl:=Mq (Hx a f) (Hx _ _) t0 e1 p1 p2;obtain⟨o,o1,o2,o3⟩:=YD b0 l0 t0 z0 hs fs (i+2) (Gj a f) E (by omega) (Hx _ _) tE (λx hx=>tf x (by simp[hx])) λt=>by rw[hE,e0,Gi];grind
  refine⟨o,?_,o2,λt=>by rw[o3,e0,Gi];grind⟩;have h1:FN (i+1) (Gj a f) (g::fs)=FN (i+2) (Gj a f) fs:=by
   show(if (i+1) % 2=0 then _ else _)=_;rw[if_neg (by omega)]
  show(if i % 2=0 then(IC (Gj a f)).bind λq=>FN (i+1) q (g::fs)else _)=_;rw[if_pos hi,Ac (by omega) (U4 b1 (by omega))];exact h1.trans o1
structure Parts(p q o:List Int):Prop where
 sq:∃g,Sqp (Fg p) g q
 ws:∃ws:List (List Int),(∀w∈ws,Pr1 w/\ZP (cz w) (cz q))/\∀t,U7 (Fg p) t=ev (Oh (ws.map cz)) t
 oq:ZP (cz o) (cz q)
 ot:Fc o
 oh:∃h,Fc h/\∀t,U7 (Fg p) t=U7 o t*U7 h t
 os:∃S,∀t,U7 (Fg p) t=U7 o t*(ev S t*ev S t)
theorem Qi8{n s:Nat}{p:Un}(h:Okp n s p):∃q o,Pk p=some q/\bE p=some o/\Parts p q o:=by
 obtain⟨pp,hl,hb⟩:=h.pr;have hn:=h.z.1;have hpl:=h.l;have hs:=Qk7 h.z;obtain⟨g,q,hq,sq⟩:=VY h;obtain⟨ws,w1,w2⟩:=lay_ok h.z hb (by omega) pp.t pp.n 66 (Fg p) [1] pp (by omega) (by omega) rfl λt=>by rw[Nu];grind
 obtain⟨fs,f1,f2,f3⟩:=Qhf hb (by omega) pp.t pp.n (by omega) ws (Fg p) [1] w2 rfl λt=>by rw[Nu];grind
 have hw:=Qvf w2;have hfirst:(∀w∈ws,Pr1 w/\ZP (cz w) (cz q))/\∃E,Fc E/\∀t,U7 q t=U7 (Nf fs) t*U7 E t:=by
  cases ws with
  |
   nil =>
   have e:fs=[]:=by
    cases fs with
    |nil=>rfl
    |cons f l=>exact f2.elim
   subst e;exact⟨(λw hw=>by cases hw),q,sq.pq.t,λt=>by simp only[Nf];rw[Nu];grind⟩
  |
   cons w ws =>
   have hwq:w=q:=by
    have w3:(if (Fg p).length<2 then some []else(IC (Gv (Fg p))).bind λd=>(JG (Fg p) d).bind λh=>(JU (Fg p) h).bind λw=>(RG 65 h).bind λl=>some (w::l))=some (w::ws):=w1;have hlen:¬(Fg p).length<2:=λh2=>by
     rw[if_pos h2]at w3;injection w3 with w3;cases w3
    rw[if_neg hlen]at w3;unfold Pk at hq;rw[if_neg hlen]at hq;obtain⟨d,d1,w3⟩:=Qd.1 w3;obtain⟨h,d2,w3⟩:=Qd.1 w3;obtain⟨w',d3,w3⟩:=Qd.1 w3;obtain⟨l,d4,w3⟩:=Qd.1 w3;rw[d1]at hq;have hq:(JG (Fg p) d).bind (λg=>JU (Fg p) g)=some q:=hq;rw[d2]at hq;have hq:JU (Fg p) h=some q:=hq;rw[d3]at hq;injection hq with hq;injection w3 with w3;injection w3 with w3 _;rw[<-w3,hq]
   subst hwq;have hall:=gZ w2;exact⟨hall,OR f2 f3 λv hv=>(hall v hv).1.t⟩
 obtain⟨ha,E,tE,hE⟩:=hfirst;obtain⟨o,o1,o2,o3⟩:=YD hb (by omega) pp.t pp.n (by omega) fs 0 [1] (Gj E g) rfl rfl (Hx _ _) f3 λt=>by rw[Nu,Gi,sq.e,hE];grind
 have o3:∀t,U7 o t=U7 (Nf fs) t:=λt=>by rw[o3,Nu];grind
 refine⟨q,o,hq,?_,⟨g,sq⟩,⟨ws,ha,hw⟩,⟨cz E,λt=>by rw[U8,U8,U8,hE,o3]⟩,o2,⟨Gj E g,Hx _ _,λt=>by rw[sq.e,hE,o3,Gi];grind⟩,?_⟩
 ·unfold bE;rw[if_neg pp.n,w1];show(AD ws).bind _=_;rw[f1];exact o1
 ·obtain⟨S,hS⟩:=aA f2;exact⟨S,λt=>by rw[hw,hS,gI,o3]⟩
theorem eW{s:Nat}:∀(k:Nat) (a b:Un),Fc a->Fc b->b.length≠0->b.length<k->b.length<a.length->a.length<=60->Bd s a->Bd s b->(s+8)*3^(a.length-1)<=16777216->(∀d,ZP d (cz a)->ZP d (cz b)->∃c:Rat,c≠0/\∀t,ev d t=c)->∃l,sC k a b=some (b::l)/\SCl (cz a) (cz b) (l.map cz)
 | 0,_,_,_,_,_,h,_,_,_,_,_,_=>by omega
 |
  k+1,a,b,ta,tb,hb,hk,hab,hl,ba,bb,hs,hd=>by
  obtain⟨h1,h2,h3,u,v,up,vp,X,hX⟩:=NW ta tb hb hl;have h3:=h3 s ba bb;obtain⟨m,hm⟩:=nmE (a.length-b.length);have e1:a.length+1-b.length=m+1:=by omega
  rw[e1]at h3;have e2:s+(m+1)*(s+8)+8=(m+2)*(s+8):=by
   rw[show m+2=(m+1)+1 by omega,Xa (m+1)];omega
  have e3:(m+2)*(s+8)*3^(b.length-1)<=(s+8)*3^(a.length-1):=by
   rw[show a.length-1=m+(b.length-1) by omega,Xf,<-Xy,Zq (s+8)];exact Q0 _ (Q0 _ (Qvt m (by omega)))
  have e4:s+(m+1)*(s+8)<=16777216:=by
   have:(m+2)*(s+8)<=(m+2)*(s+8)*3^(b.length-1):=Ys _ (Z3 (by decide));omega
  simp only[sC];rw[if_neg hb,Ac (by omega) (U4 h3 e4)];show ∃l,((sC k b (Mr (Tc a b))).bind λl=>some (b::l))=some (b::l)/\_;have lneg:(Mr (Tc a b)).length<=(Tc a b).length:=XB _;by_cases hr:(Tc a b).length=0
  ·have e:Mr (Tc a b)=[]:=Qj (by omega);rw[e];refine⟨[],?_,?_⟩
   ·obtain⟨j,rfl⟩:∃j,k=j+1:=⟨k-1,by omega⟩;rfl
   ·obtain⟨c,hc,hcc⟩:=hd (cz b) ⟨D2 (1 / u) X,λt=>by
     have:=hX t;rw[Dy hr]at this;have hu:1 / u*u=1:=Hd up;rw[U8,U8,Gs];have:U7 a t=1 / u*(u*U7 a t):=by grind
     rw[this,hX,Dy hr];grind⟩ (dvd_refl _)
    exact .base hc hcc
  ·have tn:Fc (Mr (Tc a b)):=Fx _ _;have hn0:(Mr (Tc a b)).length≠0:=λh0=>by
    have:=QN (c:=-1) h1 tn (by decide) λt=>by rw[FD];grind
    omega
   obtain⟨l,i1,i2⟩:=eW (s:=s+(m+1)*(s+8)) k b (Mr (Tc a b)) tb tn hn0 (by omega) (by omega) (by omega) (U4 bb (by omega)) (MZ h3) (by rw[e2];omega) λd d1 d2=>by
    refine hd d ?_ d1;obtain⟨y,hy⟩:=d1;obtain⟨z,hz⟩:=d2;have hu:1 / u*u=1:=Hd up;refine⟨D2 (1 / u) (Su (G5 X y) (D2 (-v) z)),λt=>?_⟩;have a1:=hX t;have a2:=hy t;have a3:=hz t;rw[U8]at a2 a3;rw[FD]at a3;rw[U8,Gs,Gy,Ff,Gs];have:U7 a t=1 / u*(u*U7 a t):=by grind
    rw[this,a1,a2,show U7 (Tc a b) t=-(ev d t*ev z t) by grind];grind
   refine⟨Mr (Tc a b)::l,by rw[i1];rfl,?_⟩;rw[Zz];exact .step (q:=X) up vp (λt=>by rw[U8,U8,U8,hX,FD];clear i2 i1 hd h3 hs;grind) i2
theorem WL(x:Rat):∀(l:Uo) (n:Nat) (s:Int),(l.foldl (Pq λp=>H9 p x) (n,s)).1=n+tc x s (l.map cz)
 | [],n,s=>rfl
 |
  p::l,n,s=>by
  simp only[Z9,Zz,tc,Pq];rw[Ni,U8]
  split
  ·exact WL x l n s
  ·rw[WL x l]
   split <;> omega
theorem ZZ(l:Uo)(x:Rat):Cz l x=vv (l.map cz) x:=by
 have:=WL x l 0 0;unfold Cz Cy vv;rw[this];omega
theorem Qgk{n s:Nat}(hz:Szz n (s+73)){P g q:Un}(sq:Sqp P g q)(lq:q.length<=n)(bq:Bd (s+69) q):∃d,IC (Gv q)=some d/\∃l,sC 66 q (Fg d)=some l/\HJ (cz q) ((q::l).map cz)/\(q.length<2->l=[]):=by
 have hn:=hz.1;have hs:=Qk7 hz;have bd:=pU bq (by omega);have ld:=Na q;refine⟨Gv q,Ac (by omega) (U4 bd (by omega)),?_⟩;have hq0:=sq.pq.n;by_cases h2:q.length<2
 ·have e:Fg (Gv q)=[]:=by rw[Qj (l:=Gv q) (by omega)];rfl
  rw[e];refine⟨[],rfl,.inl ⟨1,by decide,λt=>?_,rfl⟩,λ_=>rfl⟩;rw[U8,sq.pq.one h2,Nu]
 ·have hdnz:(Gv q).length≠0:=λh=>by
   have h1:=Bu q (q.length-2);rw[Qj h,show q.length-2+1=q.length-1 by omega]at h1;have h3:q.getD (q.length-1) 0≠0:=H7 sq.pq.t (by omega);rcases Yf.1 (h1.symm.trans (by simp))with h4|h4
   ·exact h3 h4
   ·omega
  obtain⟨p1,p2,p3,p4,p5,p6,p7⟩:=Co (p:=Gv q) (Fx _ _) hdnz;have hdl:Fo (Gv q)=Fo q*((q.length-1:Nat):Int):=by
   have hld:(Gv q).length=q.length-1:=by
    rcases Zb (Gv q).length (q.length-1)with h|h
    ·have h1:=Bu q (q.length-2);rw[Qi,Qu (by omega),show q.length-2+1=q.length-1 by omega]at h1;have h3:q.getD (q.length-1) 0≠0:=H7 sq.pq.t (by omega);rcases Yf.1 (h1.symm.trans (by simp))with h4|h4
     ·exact absurd h4 h3
     ·omega
    ·omega
   unfold Fo;rw[hld,Bu,show q.length-1-1+1=q.length-1 by omega]
  have hfac:0<Hn (Gv q):=by
   have hlp:0<Fo (Gv q):=by rw[hdl];exact Int.mul_pos sq.pq.l (by omega)
   have hc:=JY (p:=Gv q) (Fx _ _) hdnz;unfold Hn;rw[if_neg (by omega)];unfold Pf at hc ⊢;omega
  have hfq:((0:Int):Rat)<(Hn (Gv q):Rat):=Jo.2 hfac;have hfq:(0:Rat)<(Hn (Gv q):Rat):=by simpa using hfq
  have hff:1 / (Hn (Gv q):Rat)*(Hn (Gv q):Rat)=1:=Hd hfq;have hz2:=hz.2;have hp3:(s+73+8)*3^(q.length-1)<=16777216:=by
   have:(s+73+8)*3^(q.length-1)<=(s+73+8)*3^(n-1):=Zu _ (Zs (by decide) (by omega));rw[Xy]at hz2;omega
  obtain⟨l,h3,h4⟩:=eW (s:=s+73) 66 q (Fg (Gv q)) sq.pq.t p1 (by omega) (by omega) (by omega) (by omega) (U4 bq (by omega)) (p5 _ bd) hp3 λd d1 d2=>sq.num d1 (by
   obtain⟨z,hz⟩:=d2;exact⟨D2 (Hn (Gv q)) z,λt=>by
    have:=hz t;rw[U8]at this;rw[Tp,<-Oj,p7,this,Gs];grind⟩)
  refine⟨Fg (Gv q)::l,h3,.inr ⟨cz (Fg (Gv q)),l.map cz,1 / (Hn (Gv q):Rat),Ae (by decide) hfq,λt=>?_,h4,rfl⟩,λh=>absurd h h2⟩;rw[U8,<-Oj,p7 t];grind
theorem chain_ok{n s:Nat}{p:Un}(h:Okp n s p):∃q l,Pk p=some q/\L9 p=some (q::l)/\HJ (cz q) ((q::l).map cz)/\(q.length<2->l=[]):=by
 obtain⟨pp,hl,hb⟩:=h.pr;have hn:=h.z.1;have hpl:=h.l;obtain⟨g,q,hq,sq⟩:=VY h;have e1:∀t,U7 (Fg p) t=U7 q t*U7 g t:=λt=>by rw[sq.e];grind
 obtain⟨p1,p2⟩:=Te pp.t pp.n e1;have hll:=Mq sq.pq.t sq.pg.t pp.t e1 p1 p2;obtain⟨d,d1,l,d2,d3⟩:=Qgk h.z sq (by omega) (XV hb (by omega) pp.t sq.pq.t sq.pg.t pp.n e1);refine⟨q,l,hq,?_,d3⟩;unfold L9;rw[hq];show(if q.length=0 then none else _)=_;rw[if_neg sq.pq.n,d1];show(sC 66 q (Fg d)).bind _=_;rw[d2];rfl
structure Gr(D M k:Nat)(q:Rat):Prop where
 u:∃u:Int,q*((D*2^k:Nat):Rat)=(u:Rat)
 b:Fh q<=(M:Rat)
 d:0<D
theorem nat_pos{n:Nat}(h:0<n):(0:Rat)<(n:Rat):=by
 have:((0:Nat):Rat)<(n:Rat):=Vo.2 h;simpa using this
theorem qX{D M k:Nat}{q:Rat}(h:Gr D M k q):Gr D M (k+1) q:=by
 obtain⟨u,hu⟩:=h.u;refine⟨⟨u*2,?_⟩,h.b,h.d⟩;rw[Zr,<-Xy]
 push_cast at hu ⊢
 rw[<-hu];grind
theorem Qh1{D M k:Nat}{a b:Rat}(ha:Gr D M k a)(hb:Gr D M k b):Gr D M (k+1) ((a+b) / 2):=by
 obtain⟨u,hu⟩:=ha.u;obtain⟨v,hv⟩:=hb.u;have h2:(a+b) / 2*2=a+b:=Hd (by decide);refine⟨⟨u+v,?_⟩,?_,ha.d⟩
 ·rw[Zr,<-Xy]
  push_cast at hu hv ⊢
  rw[<-hu,<-hv];generalize (a+b) / 2=c at *;generalize (D:Rat)*2^k=z at *;have:c*(z*2)=(c*2)*z:=by grind
  rw[this,h2];grind
 ·have h3:=ha.b;have h4:=hb.b;rw[Mh]at *;constructor <;> grind
theorem Qu3{D M k:Nat}{q:Rat}(h:Gr D M k q):q.den<=D*2^k:=by
 obtain⟨u,hu⟩:=h.u;have hp:0<D*2^k:=J6 h.d (Z3 (by decide));have e:q=Rat.divInt u ((D*2^k:Nat):Int):=by
  rw[<-H8,<-hu];have hz:=nat_pos hp;rw[show((((D*2^k:Nat):Int)):Rat)=((D*2^k:Nat):Rat) from rfl];rw[Jn];have:=Wu ((D*2^k:Nat):Rat) (by grind);generalize ((D*2^k:Nat):Rat)=z at *;have:q*z*z⁻¹=q*(z*z⁻¹):=by grind
  rw[this,‹z*z⁻¹=1›];grind
 rw[e,Wn,if_neg (by omega),Xh];exact Jr _ _
theorem LQ{a b k:Nat}{z:Int}(h:z.natAbs<=a*(b*2^k)):Fb z<=Fb (a:Int)+Fb (b:Int)+k:=by
 have h1:Fb (a:Int)<=Fb (a:Int):=Ql _;have h2:Fb (b:Int)<=Fb (b:Int):=Ql _;rw[T0]at h1 h2 ⊢;rw[Xh]at h1 h2;rw[Xf,Xf];have h3:a*b<2^Fb (a:Int)*2^Fb (b:Int):=Nat.mul_lt_mul_of_lt_of_le h1 (Yk h2) (Z3 (by decide));have h4:=Xn h3 (show 0<2^k from Z3 (by decide));rw[<-Xy]at h;omega
theorem qZ{D M k B:Nat}{q:Rat}(h:Gr D M k q)(hM:0<M)(hs:Fb (D:Int)+Fb (M:Int)+k<=B):Qs B q:=by
 have hd:=Qu3 h;have hden:=nat_pos q.den_pos;have h1:(q.num.natAbs:Rat)<=((M*(D*2^k):Nat):Rat):=by
  have e:(q.num:Rat)=q*(q.den:Rat):=by
   have:(q.num:Rat) / (((q.den:Int)):Rat)=q:=by rw[H8,Z1]
   have h2:(q.num:Rat) / (q.den:Rat)*(q.den:Rat)=q.num:=Zj (by grind);rw[show(q.num:Rat) / (q.den:Rat)=q from this]at h2;exact h2.symm
  rw[<-Sx,e];have h3:=Ha (x:=q) (y:=(q.den:Rat)) (b:=((D*2^k:Nat):Rat)) h.b (by
   have:Fh (q.den:Rat)=(q.den:Rat):=by unfold Fh;rw[if_neg (by grind)]
   rw[this];exact Zm.2 hd)
  push_cast at h3 ⊢;exact h3
 have h1:=Zm.1 h1;refine⟨?_,?_⟩
 ·have:=LQ (z:=q.num) h1;omega
 ·have:=LQ (z:=(q.den:Int)) (a:=M) (b:=D) (k:=k) (by
   rw[Xh];exact Qa hd (Nat.le_mul_of_pos_left _ hM))
  omega
theorem bX(a b:Rat):mid a b=(a+b) / 2:=by
 unfold mid;rw[<-H8];have ha:(a.num:Rat)=a*(a.den:Rat):=by
  have:(a.num:Rat) / (((a.den:Int)):Rat)=a:=by rw[H8,Z1]
  have h2:(a.num:Rat) / (a.den:Rat)*(a.den:Rat)=a.num:=Zj (by have:=nat_pos a.den_pos;grind);rw[show(a.num:Rat) / (a.den:Rat)=a from this]at h2;exact h2.symm
 have hb:(b.num:Rat)=b*(b.den:Rat):=by
  have:(b.num:Rat) / (((b.den:Int)):Rat)=b:=by rw[H8,Z1]
  have h2:(b.num:Rat) / (b.den:Rat)*(b.den:Rat)=b.num:=Zj (by have:=nat_pos b.den_pos;grind);rw[show(b.num:Rat) / (b.den:Rat)=b from this]at h2;exact h2.symm
 have pa:=nat_pos a.den_pos;have pb:=nat_pos b.den_pos;rw[Kc,Xz,Xz,Xz,Xz,ha,hb];rw[show(((a.den:Int)):Rat)=(a.den:Rat) from rfl,show(((b.den:Int)):Rat)=(b.den:Rat) from rfl,show(((2:Int)):Rat)=2 from rfl];generalize (a.den:Rat)=x at *;generalize (b.den:Rat)=y at *;have hxy:=Is (Is pa pb) (show(0:Rat)<2 by decide);have h1:(a*x*y+b*y*x) / (x*y*2)*(x*y*2)=a*x*y+b*y*x:=Hd hxy;have h2:(a+b) / 2*2=a+b:=Hd (by decide);generalize (a*x*y+b*y*x) / (x*y*2)=c at *;generalize (a+b) / 2=d at *;have h3:(x*y*2)*(c-d)=0:=by grind
 rcases Y3.1 h3 with h4|h4 <;> grind
theorem NF(a b:Rat):ES a b=a-b:=by
 unfold ES;rw[Rat.sub_def',<-Rat.divInt_ofNat]
 push_cast;rfl
theorem eM{a b:Rat}:Hb a b=0↔a=b:=by
 constructor
 ·intro h;have h1:¬a<b:=λh'=>by have:=Nt.2 h';omega
  have h2:¬b<a:=λh'=>by have:=Eh.2 h';omega
  grind
 ·intro h;subst h;exact Ew a
theorem MH{a b:Rat}:Hb a b<=0↔a<=b:=by
 constructor
 ·intro h;have h2:¬b<a:=λh'=>by have:=Eh.2 h';omega
  grind
 ·intro h;have h2:¬0<Hb a b:=λh'=>by have:=Eh.1 h';grind
  omega
theorem MG{a b:Rat}:0<=Hb a b↔b<=a:=by
 constructor
 ·intro h;have h2:¬a<b:=λh'=>by have:=Nt.2 h';omega
  grind
 ·intro h;have h2:¬Hb a b<0:=λh'=>by have:=Nt.1 h';grind
  omega
theorem Sk(a b:Rat):Hb a b=1/\b<a\/Hb a b=0/\a=b\/Hb a b=-1/\a<b:=by
 have hb:=QW a b;rcases(show Hb a b=1\/Hb a b=0\/Hb a b=-1 by omega)with h|h|h
 ·exact .inl ⟨h,Eh.1 (by omega)⟩
 ·exact .inr (.inl ⟨h,eM.1 h⟩)
 ·exact .inr (.inr ⟨h,Nt.1 (by omega)⟩)
theorem gQ(p:Un)(x:Rat):low p x=Po (cz p) x:=by
 unfold low Po;rw[Ni,Ni,U8,Oj]
theorem Ce{t:Tm}(h:t.lo<t.hi)(q:Rat):Fl t q=cq (cz t.p) t.lo t.hi q:=by
 have hp:t.point=false:=by
  unfold Tm.point;have:¬0<=Hb t.lo t.hi:=λh'=>by have:=MG.1 h';grind
  simp[this]
 unfold Fl cq;rw[hp,if_neg (by decide)];have e1:(Hb q t.lo<=0)=(q<=t.lo):=propext MH;have e2:(0<Hb q t.hi)=(t.hi<q):=propext Eh;rw[Ni,gQ,<-U8];simp only[e1,e2]
theorem Ms{t:Tm}:t.point=true↔t.hi<=t.lo:=by
 unfold Tm.point;rw[decide_eq_true_iff];exact MG
theorem A8{t:Tm}(h:t.lo=t.hi)(q:Rat):Fl t q=Hb t.lo q:=by
 have hp:t.point=true:=Ms.2 (by rw[h];exact Qp);unfold Fl;rw[if_pos hp]
theorem Que{c:Rat->Int}{x:Rat}(h:∀q,c q=Hb x q):Cut c where
 val q:=by rw[h];have:=QW x q;omega
 mono q r hqr h1:=by
  rw[h]at h1 ⊢;rcases Sk x q with⟨e,e'⟩|⟨e,e'⟩|⟨e,e'⟩
  ·exact absurd e h1
  ·rcases Sk x r with⟨f,f'⟩|⟨f,f'⟩|⟨f,f'⟩ <;> grind
  ·rcases Sk x r with⟨f,f'⟩|⟨f,f'⟩|⟨f,f'⟩ <;> grind
 up q h1:=by
  rw[h]at h1;have h2:=Eh.1 (show 0<Hb x q by omega);have h3:(x+q) / 2*2=x+q:=Hd (by decide);have h4:=Eh.2 (show(x+q) / 2<x by grind);have:=QW x ((x+q) / 2);exact⟨(x+q) / 2,by grind,by rw[h];omega⟩
 dn q h1:=by
  rw[h]at h1;have h2:=Nt.1 (show Hb x q<0 by omega);have h3:(x+q) / 2*2=x+q:=Hd (by decide);have h4:=Nt.2 (show x<(x+q) / 2 by grind);have:=QW x ((x+q) / 2);exact⟨(x+q) / 2,by grind,by rw[h];omega⟩
 lo:=⟨x-1,by
  rw[h];have h4:=Eh.2 (show x-1<x by grind);have:=QW x (x-1);omega⟩
 hi:=⟨x+1,by
  rw[h];have h4:=Nt.2 (show x<x+1 by grind);have:=QW x (x+1);omega⟩
def lim(t:Tm):Nat:=if t.point=true then 3300000 else 1000000
theorem yQ{t:Tm}(h:t.point=false):lim t=1000000:=by simp[lim,h]
theorem Qu8(t:Tm):1000000<=lim t:=by unfold lim;split <;> omega
theorem Qu9(t:Tm):lim t<=3300000:=by unfold lim;split <;> omega
structure Va(t:Tm):Prop where
 i:t.lo=t.hi/\U7 t.p t.lo=0\/∃L,Vt (cz t.p) L t.lo t.hi
 tr:Fc t.p
 n:t.p.length<=9
 n2:2<=t.p.length
 b:Bd 3300000 t.p
 bi:t.point=false->Bd 1260 t.p
 sc:t.point=false->∃(l:List (List Int)) (P g:List Int),sC 66 t.p (Fg (Gv t.p))=some l/\Sqp P g t.p/\Vt (cz t.p) ((t.p::l).map cz) t.lo t.hi
 g:∃D M k,Gr D M k t.lo/\Gr D M k t.hi/\0<M/\Fb (D:Int)+Fb (M:Int)+k<=lim t
theorem Va.le{t:Tm}(h:Va t):t.lo<=t.hi:=by
 rcases h.i with⟨e,_⟩|⟨L,V⟩
 ·rw[e];exact Qp
 ·exact Qt V.l
theorem Va.pt{t:Tm}(h:Va t)(hp:t.point=true):t.lo=t.hi/\U7 t.p t.lo=0:=by
 rcases h.i with e|⟨L,V⟩
 ·exact e
 ·have:=Ms.1 hp;have:=V.l;grind
theorem Va.iv{t:Tm}(h:Va t)(hp:t.point=false):∃L,Vt (cz t.p) L t.lo t.hi:=by
 rcases h.i with⟨e,_⟩|h
 ·have:=Ms.2 (show t.hi<=t.lo by rw[e];exact Qp);rw[hp]at this;cases this
 ·exact h
theorem Va.cut{t:Tm}(h:Va t):Cut (Fl t):=by
 rcases h.i with⟨e,_⟩|⟨L,V⟩
 ·exact Que (x:=t.lo) λq=>A8 e q
 ·have:Fl t=cq (cz t.p) t.lo t.hi:=funext λq=>Ce V.l q
  rw[this];exact V.cut
theorem Qwq{c:Rat->Int}(hc:Cut c){p:Uq}{x:Rat}(h:c x=0)(h0:ev p x=0):Ix p c:=by
 rcases JE hc p with h1|⟨s,hs,h1⟩
 ·exact h1
 ·have:=gA hc h h1;rw[Gp.2 h0]at this;exact absurd this.symm hs
theorem Va.van{t:Tm}(h:Va t):Ix (cz t.p) (Fl t):=by
 have hc:=h.cut;rcases h.i with⟨e,h0⟩|⟨L,V⟩
 ·exact Qwq hc (x:=t.lo) (by rw[A8 e,Ew]) (by rw[U8];exact h0)
 ·have:Fl t=cq (cz t.p) t.lo t.hi:=funext λq=>Ce V.l q
  rw[this];exact V.van
theorem Va.qs{t:Tm}(h:Va t):Qs 3300000 t.lo/\Qs 3300000 t.hi:=by
 obtain⟨D,M,k,h1,h2,h3,h4⟩:=h.g;have h4:=Qa h4 (Qu9 t);exact⟨qZ h1 h3 h4,qZ h2 h3 h4⟩
theorem Va.qsn{t:Tm}(h:Va t)(hp:t.point=false):Qs 1000000 t.lo/\Qs 1000000 t.hi:=by
 obtain⟨D,M,k,h1,h2,h3,h4⟩:=h.g;rw[yQ hp]at h4;exact⟨qZ h1 h3 h4,qZ h2 h3 h4⟩
theorem Va.tb{t:Tm}(h:Va t):Tb t:=⟨⟨h.tr,by have:=h.n;omega,U4 h.b (by omega)⟩,h.qs.1.mono (t:=16777216) (by omega),h.qs.2.mono (t:=16777216) (by omega)⟩
structure Hv(t:Tm)(D M k:Nat)(u:Tm):Prop where
 p:u.p=t.p
 i:u.lo=u.hi/\U7 u.p u.lo=0\/∃L,Vt (cz u.p) L u.lo u.hi
 c:∀q,Fl u q=Fl t q
 l:Gr D M k u.lo
 h:Gr D M k u.hi
theorem uU{c:Rat->Int}(hc:Cut c){x:Rat}(h:c x=0)(q:Rat):c q=Hb x q:=by
 rcases Sk x q with⟨e,e'⟩|⟨e,e'⟩|⟨e,e'⟩
 ·rw[e];exact hc.mono' e' (by omega)
 ·rw[e,<-e',h]
 ·rw[e];exact hc.mono x q e' (by omega)
theorem jC{t u:Tm}{D M k:Nat}(hu:Hv t D M k u)(hM:0<M)(hs:Fb (D:Int)+Fb (M:Int)+(k+1)<=16777216):∃v,jB u=some v/\Hv t D M (k+1) v/\v.hi-v.lo<=(u.hi-u.lo) / 2/\u.lo<=v.lo/\v.hi<=u.hi:=by
 have h2:∀x:Rat,x / 2*2=x:=λx=>Hd (by decide)
 unfold jB;rcases hu.i with⟨e,h0⟩|⟨L,V⟩
 ·have hp:u.point=true:=Ms.2 (by rw[e];exact Qp);rw[if_pos hp];refine⟨u,rfl,⟨hu.p,hu.i,hu.c,qX hu.l,qX hu.h⟩,?_,Qp,Qp⟩;rw[e];have:=h2 (u.hi-u.hi);grind
 ·have hp:u.point=false:=by
   have:¬u.point=true:=λh=>by have:=Ms.1 h;have:=V.l;grind
   simpa using this
  rw[hp,if_neg (by decide)];obtain⟨m,hm⟩:=nmE ((u.lo+u.hi) / 2);have hmg:Gr D M (k+1) m:=by rw[hm];exact Qh1 hu.l hu.h
  have hmm:=h2 (u.lo+u.hi);rw[<-hm]at hmm;have hl:=V.l;have hl1:u.lo<m:=by grind
  have hl2:m<u.hi:=by grind
  have hch:chq (mid u.lo u.hi)=some m:=by
   rw[bX,<-hm];have:=qZ hmg hM hs;unfold chq;rw[if_pos ⟨this.1,this.2⟩]
  have hcm:mid u.lo u.hi=m:=by rw[bX,<-hm]
  rw[hch];show ∃v,some (if Fl u m=0 then(⟨u.p,m,m⟩:Tm)else if Fl u m=-1 then ⟨u.p,u.lo,m⟩else ⟨u.p,m,u.hi⟩)=some v/\_;have hw:=h2 (u.hi-u.lo);have hcu:=Ce hl;have hcut:=V.cut;have hcut':Cut (Fl u):=by rw[show Fl u=cq (cz u.p) u.lo u.hi from funext hcu];exact hcut
  by_cases c0:Fl u m=0
  ·rw[if_pos c0];have hz:U7 u.p m=0:=by
    have:=TC hcut (q:=m) (by rw[<-hcu];exact c0) V.van;rwa[U8]at this
   refine⟨_,rfl,⟨hu.p,.inl ⟨rfl,hz⟩,λq=>?_,hmg,hmg⟩,by show m-m<=_;grind,by show u.lo<=m;grind,by show m<=u.hi;grind⟩;rw[A8 rfl,<-hu.c];exact(uU hcut' c0 q).symm
  ·rw[if_neg c0];by_cases c1:Fl u m=-1
   ·rw[if_pos c1];have hv:vv L m=vv L u.hi:=V.eq_hi hl1 (Qt hl2) (by rw[<-hcu,c1];decide);have V':Vt (cz u.p) L u.lo m:=⟨V.s,hl1,by rw[hv];exact V.v⟩;refine⟨_,rfl,⟨hu.p,.inr ⟨L,V'⟩,λq=>?_,qX hu.l,hmg⟩,by show m-u.lo<=_;grind,Qp,by show m<=u.hi;grind⟩;rw[Ce hl1,<-hu.c,hcu];exact V.uniq V'.cut (Ad Qp) (by rw[UP hl1 hl2];decide) V'.van q
   ·rw[if_neg c1];have c2:Fl u m=1:=by rcases hcut'.val m with h|h|h <;> omega
    have hv:vv L m=vv L u.lo:=V.eq_lo hl1 (Qt hl2) (by rw[<-hcu];exact c2);have V':Vt (cz u.p) L m u.hi:=⟨V.s,hl2,by rw[hv];exact V.v⟩;refine⟨_,rfl,⟨hu.p,.inr ⟨L,V'⟩,λq=>?_,hmg,qX hu.h⟩,by show u.hi-m<=_;grind,by show u.lo<=m;grind,Qp⟩;rw[Ce hl2,<-hu.c,hcu];exact V.uniq V'.cut (Ad (by grind)) V'.hi1 V'.van q
def Mb(a b:Tm):Prop:=∃q,Fl a q=-1/\Fl b q=1
def TEq(a b:Tm):Prop:=∀q,Fl a q=Fl b q
theorem tri{a b:Tm}(ha:Cut (Fl a))(hb:Cut (Fl b)):Mb a b\/TEq a b\/Mb b a:=by
 rcases Classical.em (TEq a b)with h|h
 ·exact .inr (.inl h)
 ·obtain⟨q,hq⟩:=Classical.not_forall.1 h;obtain⟨r,⟨h1,h2⟩|⟨h1,h2⟩⟩:=uW ha hb hq
  ·exact .inl ⟨r,h1,h2⟩
  ·exact .inr (.inr ⟨r,h2,h1⟩)
theorem Ir{a b:Tm}(ha:Cut (Fl a))(hb:Cut (Fl b))(h:Mb a b)(h':Mb b a):False:=by
 obtain⟨q,q1,q2⟩:=h;obtain⟨r,r1,r2⟩:=h';have:=ha.lt r2 q1;have:=hb.lt q2 r1;grind
theorem rL{p:Un}(k:Nat):(p.getD k 0).natAbs<=2^G8 p:=by
 have h:Fb (p.getD k 0)<=G8 p:=by
  have key:∀(l:Un) (n:Nat),n≤l.foldl (λn z=>max n (Fb z)) n/\∀z∈l,Fb z≤l.foldl (λn z=>max n (Fb z)) n:=by
   intro l
   induction l with
   |nil=>exact λn=>⟨Ql _,λz hz=>by cases hz⟩
   |
    cons y l ih =>
    intro n;obtain⟨i1,i2⟩:=ih (max n (Fb y));refine⟨by simp only[Z9];omega,λz hz=>?_⟩;simp only[Z9];rcases Qm.1 hz with rfl|hz
    ·omega
    ·exact i2 z hz
  exact Fq (s:=G8 p) (λz hz=>(key p 0).2 z hz) k
 rw[T0]at h;omega
theorem Qr7{s:Nat}:∀(B:Un),(∀z∈B,z.natAbs≤2^s)->gB B≤2^(s+(B.length-1))
 | [],_=>Qh _
 |
  c::B,h=>by
  have h1:=h c (Qx ..);have h2:=Qr7 B λz hz=>h z (Qg _ hz)
  simp only[gB,Q5,Yb];have h3:2^s<=2^(s+B.length):=Zs (by decide) (by omega);cases B with
  |nil=>simp only[gB,Jg]at *;omega
  |
   cons d B =>
   have h4:2^(s+(d::B).length)=2*2^(s+((d::B).length-1)):=by
    rw[Zq,<-Zr];congr 1
   rw[h4];omega
def Tz(A B:Un):Nat:=(G8 A+G8 B+(A.length+B.length)+8)*(2*(A.length+B.length-2)-1)
theorem Qhk{A B:Un}(tA:Fc A)(tB:Fc B)(nA:A.length<=9)(nB:B.length<=9)(lA:2<=A.length)(lB:2<=B.length){R d:Rat}(hR:1<=R)(dp:0<d)
 (hs:∀e:Rat,0<e->∃q r,Fh q<=R/\Fh r<=R/\d<=Fh (q-r)/\Fh (q-r)*((2^(Tz A B+1):Nat):Rat)<=1/\Fh (U7 A q)<e/\Fh (U7 B r)<e):False:=by
 obtain⟨a,ha⟩:∃a,A.length=a+1:=⟨A.length-1,by omega⟩;obtain⟨b,hb⟩:∃b,B.length=b+1:=⟨B.length-1,by omega⟩;obtain⟨s,hsd⟩:=nmE (G8 A+G8 B+b);obtain⟨N,hN⟩:∃N,b*(2*(a*b))+a*(2*(a*b)-b)=N:=⟨_,rfl⟩;have hNt:N<=2^(a+9):=by
  rw[<-hN];have hab:∀a b:Fin 9,b.1*(2*(a.1*b.1))+a.1*(2*(a.1*b.1)-b.1)<=2^(a.1+9):=by decide
  exact hab ⟨a,by omega⟩ ⟨b,by omega⟩
 have hK:Tz A B=(s+a+10)*(2*(a+b-1)+1):=by
  unfold Tz;rw[ha,hb,hsd,show a+1+(b+1)-2=a+b by omega,show 2*(a+b)-1=2*(a+b-1)+1 by omega];congr 1;omega
 have h0A:A.getD a 0≠0:=by have:=H7 tA (by omega);rwa[ha]at this
 have h0B:B.getD b 0≠0:=by have:=H7 tB (by omega);rwa[hb]at this
 have hp:∀m,1<=2^m:=λm=>Z3 (by decide)
 refine Quz (N:=N) (D:=2^(Tz A B-1)) ha hb h0A h0B (by omega) (by omega) (h:=2^s) (hp s) (λk=>Qa (rL k) (Zs (by decide) (by omega))) ?_ hN ?_ hR dp λe ep=>?_
 ·refine Qa (Qr7 (s:=G8 B) B λz hz=>?_) (Zs (by decide) (by omega));obtain⟨i,hi⟩:=Zk.1 hz;have:=rL (p:=B) i;rwa[Qi,hi]at this
 ·have h1:2*(N*2^s)<=2^(s+a+10):=by
   have:N*2^s<=2^(a+9)*2^s:=Q0 _ hNt;rw[<-Xf]at this;rw[show s+a+10=(a+9+s)+1 by omega,Zr];omega
  have h2:N*2^s<=2^(s+a+9):=by
   rw[show s+a+9=(a+9)+s by omega,Xf];exact Q0 _ hNt
  have h3:=Nat.pow_le_pow_left h1 (2*(a+b-1));have h4:=Zc h2 h3;rw[<-Ks,<-Xf]at h4;rw[<-Xy];refine Qa h4 (Zs (by decide) ?_);rw[hK,Xj,Yw];omega
 ·obtain⟨q,r,h1,h2,h3,h4,h5,h6⟩:=hs e ep;refine⟨q,r,h1,h2,h3,?_,h5,h6⟩;have hK1:1<=Tz A B:=by
   rw[hK];exact J6 (by omega) (by omega)
  have e1:2^(Tz A B+1)=4*2^(Tz A B-1):=by
   obtain⟨m,hm⟩:∃m,Tz A B=m+1:=⟨Tz A B-1,by omega⟩;rw[hm,Yb,Zr,Zr];omega
  rw[e1]at h4
  push_cast at h4 ⊢
  exact h4
theorem Hv.lo'{t:Tm}{D M k:Nat}{u:Tm}(h:Hv t D M k u):Fl t u.lo=1\/Fl t u.lo=0/\u.lo=u.hi:=by
 rw[<-h.c];rcases h.i with⟨e,_⟩|⟨L,V⟩
 ·exact .inr ⟨by rw[A8 e,Ew],e⟩
 ·exact .inl (by rw[Ce V.l];exact Ad Qp)
theorem Hv.hi'{t:Tm}{D M k:Nat}{u:Tm}(h:Hv t D M k u):Fl t u.hi=0\/Fl t u.hi=-1:=by
 rw[<-h.c];rcases h.i with⟨e,_⟩|⟨L,V⟩
 ·exact .inl (by rw[A8 e,e,Ew])
 ·rw[Ce V.l];have:=V.hi1;rcases V.cut.val u.hi with h|h|h <;> omega
theorem Hv.le{t:Tm}{D M k:Nat}{u:Tm}(h:Hv t D M k u):u.lo<=u.hi:=by
 rcases h.i with⟨e,_⟩|⟨L,V⟩
 ·rw[e];exact Qp
 ·exact Qt V.l
theorem Qhl{a b:Tm}(ha:Va a)(hb:Va b){D M k D' M' k':Nat}{u v:Tm}(hu:Hv a D M k u)(hv:Hv b D' M' k' v)(h:Mb a b):1<(v.hi-u.lo)*((2^(Tz a.p b.p+1):Nat):Rat):=by
 rcases Gg ((v.hi-u.lo)*((2^(Tz a.p b.p+1):Nat):Rat)) 1 with hw|hw
 ·exfalso;have ca:=ha.cut;have cb:=hb.cut;obtain⟨m,m1,m2⟩:=h;obtain⟨m',hm',m3⟩:=ca.dn m m1;have hpow:(0:Rat)<=((2^(Tz a.p b.p+1):Nat):Rat):=Xi;obtain⟨R,hR⟩:=nmE (Fh u.lo+Fh m'+Fh m+Fh v.hi+1);have n1:=Ht u.lo;have n2:=Ht m';have n3:=Ht m;have n4:=Ht v.hi;refine Qhk (R:=R) (d:=m-m') ha.tr hb.tr ha.n hb.n ha.n2 hb.n2 (by grind) (by grind) λe ep=>?_
  obtain⟨q,q1,q2,q3⟩:∃q,u.lo<=q/\q<=m'/\Fh (U7 a.p q)<e:=by
   rcases hu.lo' with h1|⟨h1,_⟩
   ·obtain⟨x,y,hx,hy,hq⟩:=ha.van e ep;rcases Gg x u.lo with e1|e1
    ·exact⟨u.lo,Qp,Qt (ca.lt h1 m3),by rw[<-U8];exact hq u.lo e1 (Qt (ca.lt h1 hy))⟩
    ·exact⟨x,Qt e1,Qt (ca.lt hx m3),by rw[<-U8];exact hq x Qp (Qt (ca.lt hx hy))⟩
   ·refine⟨u.lo,Qp,?_,by rw[<-U8,TC ca h1 ha.van,Rh];exact ep⟩;rcases Gg u.lo m' with e1|e1
    ·exact e1
    ·have:=ca.mono m' u.lo e1 (by omega);omega
  obtain⟨r,r1,r2,r3⟩:∃r,r<=v.hi/\m<=r/\Fh (U7 b.p r)<e:=by
   rcases hv.hi' with h1|h1
   ·refine⟨v.hi,Qp,?_,by rw[<-U8,TC cb h1 hb.van,Rh];exact ep⟩;rcases Gg m v.hi with e1|e1
    ·exact e1
    ·have:=cb.mono v.hi m e1 (by omega);omega
   ·obtain⟨x,y,hx,hy,hq⟩:=hb.van e ep;rcases Gg v.hi y with e1|e1
    ·exact⟨v.hi,Qp,Qt (cb.lt m2 h1),by rw[<-U8];exact hq v.hi (Qt (cb.lt hx h1)) e1⟩
    ·exact⟨y,Qt e1,Qt (cb.lt m2 hy),by rw[<-U8];exact hq y (Qt (cb.lt hx hy)) Qp⟩
  have e1:Fh (q-r)=r-q:=by unfold Fh;split <;> grind
  have b1:Fh q<=R:=by
   have:=FY (R:=R) (x:=u.lo) (y:=m') (t:=q) (by grind) (by grind) q1 q2;exact this
  have b2:Fh r<=R:=by
   have:=FY (R:=R) (x:=m) (y:=v.hi) (t:=r) (by grind) (by grind) r2 r1;exact this
  refine⟨q,r,b1,b2,by rw[e1];grind,?_,q3,r3⟩;rw[e1];have:=Ze (show r-q<=v.hi-u.lo by grind) hpow;exact Zl this hw
 ·exact hw
theorem wY{a b:Tm}(ha:Va a)(hb:Va b){D M k D' M' k':Nat}{u v:Tm}(hu:Hv a D M k u)(hv:Hv b D' M' k' v)(hne:¬TEq a b)(h:D4 u v=true):Mb a b:=by
 have h1:=(of_decide_eq_true h).1;have h1:=MH.1 h1;rcases tri ha.cut hb.cut with h2|h2|⟨m,m1,m2⟩
 ·exact h2
 ·exact absurd h2 hne
 ·exfalso;have e1:m<u.hi:=by
   rcases Gg u.hi m with e|e
   ·rcases Classical.em (u.hi=m)with e'|e'
    ·have:=hu.hi';rw[e']at this;omega
    ·have:=ha.cut.mono u.hi m (by grind) (by have:=hu.hi';omega);omega
   ·exact e
  have e2:v.lo<m:=by
   rcases Gg m v.lo with e|e
   ·rcases Classical.em (m=v.lo)with e'|e'
    ·have:=hv.lo';rw[<-e']at this;omega
    ·have:=hb.cut.mono m v.lo (by grind) (by omega);have:=hv.lo';omega
   ·exact e
  grind
theorem iD{a b:Tm}(ha:Va a)(hb:Va b){D M k D' M' k':Nat}{u v:Tm}(hu:Hv a D M k u)(hv:Hv b D' M' k' v)(hlt:Mb a b)(h:D4 u v≠true):v.lo<=u.hi:=by
 rcases Gg v.lo u.hi with e|e
 ·exact e
 ·refine absurd (decide_eq_true ⟨MH.2 (Qt e),λh'=>?_⟩) h;have:=eM.1 h'.2;grind
theorem rP(m:Nat):((2^(m+1):Nat):Rat)=2*((2^m:Nat):Rat):=by rw[Zr];push_cast;grind
def Qsy(a b:Tm)(r:Tm×Tm×Int):Prop:=r.2.2=-1/\Mb a b\/r.2.2=1/\Mb b a
theorem Qcf(A B:Un):Tz A B=Tz B A:=by unfold Tz;rw[Nat.add_comm A.length,Nat.add_comm (G8 A)]
theorem Qxf{a b:Tm}(ha:Va a)(hb:Va b)(hne:¬TEq a b){D M D' M':Nat}(hM:0<M)(hM':0<M'):∀(i j:Nat) (u v:Tm) (k k':Nat) (W:Rat),2*i+1<=j->Hv a D M k u->Hv b D' M' k' v->Fb (D:Int)+Fb (M:Int)+(k+j)<=16777216->Fb (D':Int)+Fb (M':Int)+(k'+j)<=16777216->u.hi-u.lo<=W->v.hi-v.lo<=W->2*W*((2^(Tz a.p b.p+1):Nat):Rat)<=((2^i:Nat):Rat)->∃r,AM j u v=some r/\Qsy a b r:=by
 intro i;have step:∀(j:Nat) (u v:Tm) (k k':Nat),Hv a D M k u->Hv b D' M' k' v->Fb (D:Int)+Fb (M:Int)+(k+(j+1))<=16777216->Fb (D':Int)+Fb (M':Int)+(k'+(j+1))<=16777216->(∃r,AM (j+1) u v=some r/\Qsy a b r)\/(D4 u v≠true/\D4 v u≠true/\∃u' v' k1 k1',AM (j+1) u v=AM j u' v'/\Hv a D M k1 u'/\Hv b D' M' k1' v'/\k1<=k+1/\k1'<=k'+1/\(v.hi-v.lo<=u.hi-u.lo/\u'.hi-u'.lo<=(u.hi-u.lo) / 2/\v'=v\/u.hi-u.lo<=v.hi-v.lo/\v'.hi-v'.lo<=(v.hi-v.lo) / 2/\u'=u)):=by
  intro j u v k k' hu hv hs hs';by_cases h1:D4 u v=true
  ·exact .inl ⟨(u,v,-1),by simp only[AM];rw[if_pos h1],.inl ⟨rfl,wY ha hb hu hv hne h1⟩⟩
  by_cases h2:D4 v u=true
  ·exact .inl ⟨(u,v,1),by simp only[AM];rw[if_neg h1,if_pos h2],.inr ⟨rfl,wY hb ha hv hu (λh=>hne λq=>(h q).symm) h2⟩⟩
  refine .inr ⟨h1,h2,?_⟩;by_cases h3:0<=Hb (ES u.hi u.lo) (ES v.hi v.lo)
  ·obtain⟨x,x1,x2,x3,_⟩:=jC hu hM (by omega);refine⟨x,v,k+1,k',?_,x2,hv,by omega,by omega,.inl ⟨?_,x3,rfl⟩⟩
   ·simp only[AM];rw[if_neg h1,if_neg h2,if_pos h3,x1];rfl
   ·have:=MG.1 h3;rwa[NF,NF]at this
  ·obtain⟨x,x1,x2,x3,_⟩:=jC hv hM' (by omega);refine⟨u,x,k,k'+1,?_,hu,x2,by omega,by omega,.inr ⟨?_,x3,rfl⟩⟩
   ·simp only[AM];rw[if_neg h1,if_neg h2,if_neg h3,x1];rfl
   ·rcases Gg (u.hi-u.lo) (v.hi-v.lo)with e|e
    ·exact e
    ·refine absurd (MG.2 ?_) h3;rw[NF,NF];exact Qt e
 induction i with
 |
  zero =>
  intro j u v k k' W hj hu hv hs hs' hW hW' hK;obtain⟨j,rfl⟩:∃m,j=m+1:=⟨j-1,by omega⟩;rcases step j u v k k' hu hv hs hs' with h|⟨h1,h2,_⟩
  ·exact h
  ·exfalso;have hpow:(0:Rat)<=((2^(Tz a.p b.p+1):Nat):Rat):=Xi;rw[Vd]at hK;rcases tri ha.cut hb.cut with h3|h3|h3
   ·have h4:=iD ha hb hu hv h3 h1;have h5:=Qhl ha hb hu hv h3;have h6:=Ze (show v.hi-u.lo<=2*W by clear step;grind) hpow;have h7:((1:Nat):Rat)=1:=rfl;rw[h7]at hK;clear step;grind
   ·exact hne h3
   ·have h4:=iD hb ha hv hu h3 h2;have h5:=Qhl hb ha hv hu h3;rw[Qcf]at h5;have h6:=Ze (show u.hi-v.lo<=2*W by clear step;grind) hpow;have h7:((1:Nat):Rat)=1:=rfl;rw[h7]at hK;clear step;grind
 |
  succ i ih =>
  intro j u v k k' W hj hu hv hs hs' hW hW' hK;obtain⟨j,rfl⟩:∃m,j=m+2:=⟨j-2,by omega⟩;have hd:∀x:Rat,x / 2*2=x:=λx=>Hd (by decide)
  rcases step (j+1) u v k k' hu hv hs hs' with h|⟨_,_,u1,v1,k1,k1',e1,hu1,hv1,hk1,hk1',hw1⟩
  ·exact h
  ·rw[e1];rcases step j u1 v1 k1 k1' hu1 hv1 (by omega) (by omega)with h|⟨_,_,u2,v2,k2,k2',e2,hu2,hv2,hk2,hk2',hw2⟩
   ·exact h
   ·rw[e2];have a1:=hd (u.hi-u.lo);have a2:=hd (v.hi-v.lo);have a3:=hd (u1.hi-u1.lo);have a4:=hd (v1.hi-v1.lo);have a5:=hd W;have b1:=hu.le;have b2:=hv.le;have b3:=hu1.le;have b4:=hv1.le;have b5:=hu2.le;have b6:=hv2.le;have hww:u2.hi-u2.lo<=W / 2/\v2.hi-v2.lo<=W / 2:=by
     clear step ih;rcases hw1 with⟨c1,c2,rfl⟩|⟨c1,c2,rfl⟩ <;> rcases hw2 with⟨d1,d2,rfl⟩|⟨d1,d2,rfl⟩ <;> constructor <;> grind
    refine ih j u2 v2 k2 k2' (W / 2) (by omega) hu2 hv2 (by omega) (by omega) hww.1 hww.2 ?_;rw[rP i]at hK;have:2*(W / 2)*((2^(Tz a.p b.p+1):Nat):Rat)*2=2*W*((2^(Tz a.p b.p+1):Nat):Rat):=by clear step ih hw1 hw2;grind
    clear step ih hw1 hw2;grind
def CmpOk(a b:Tm)(c:Int):Prop:=c=-1/\Mb a b\/c=0/\TEq a b\/c=1/\Mb b a
theorem Va.hv0{t:Tm}(h:Va t):∃D M k,Hv t D M k t/\0<M/\Fb (D:Int)+Fb (M:Int)+k<=lim t:=by
 obtain⟨D,M,k,h1,h2,h3,h4⟩:=h.g;exact⟨D,M,k,⟨rfl,h.i,λ_=>rfl,h1,h2⟩,h3,h4⟩
theorem cX{a:Tm}(ha:Va a)(hp:a.point=true)(q:Rat):Fl a q=Hb a.lo q:=A8 (ha.pt hp).1 q
theorem Qgp{a b:Tm}(hb:Va b){x:Rat}(hx:∀q,Fl a q=Hb x q):CmpOk a b (-Fl b x):=by
 have cb:=hb.cut;rcases cb.val x with h|h|h
 ·obtain⟨q,q1,q2⟩:=cb.up x h;refine .inl ⟨by omega,q,?_,q2⟩;rw[hx];rcases Sk x q with⟨e,e'⟩|⟨e,e'⟩|⟨e,e'⟩ <;> grind
 ·exact .inr (.inl ⟨by omega,λq=>by rw[hx,uU cb h]⟩)
 ·obtain⟨q,q1,q2⟩:=cb.dn x h;refine .inr (.inr ⟨by omega,q,q2,?_⟩);rw[hx];rcases Sk x q with⟨e,e'⟩|⟨e,e'⟩|⟨e,e'⟩ <;> grind
theorem CmpOk.symm{a b:Tm}{c:Int}(h:CmpOk a b c):CmpOk b a (-c):=by
 rcases h with⟨h1,h2⟩|⟨h1,h2⟩|⟨h1,h2⟩
 ·exact .inr (.inr ⟨by omega,h2⟩)
 ·exact .inr (.inl ⟨by omega,λq=>(h2 q).symm⟩)
 ·exact .inl ⟨by omega,h2⟩
theorem Qy8:Szz 9 1260:=⟨by decide,by decide⟩
theorem FX(g:Un)(lo hi:Rat):FZ g lo hi=true↔nG (cz g) lo hi:=by
 unfold FZ nG;rw[decide_eq_true_iff,Ni,gQ,U8]
theorem fH{g:Un}(tg:Fc g)(hn:g.length≠0){lo hi:Rat}(h:nG (cz g) lo hi):1<g.length:=by
 rcases Zb 1 g.length with e|e
 ·exact e
 ·exfalso;obtain⟨c,rfl⟩:∃c,g=[c]:=Kr.1 (by omega);have hc:c≠0:=by have:=H7 tg (by simp);simpa using this
  have hv:∀t,ev (cz [c]) t=(c:Rat):=λt=>by rw[U8];simp only[U7];grind
  have hs:Fe (c:Rat)≠0:=λh=>XH hc (Gp.1 h)
  unfold nG at h;rw[hv,Ak (by rw[hv];exact hs),hv]at h;rcases h with h|h
  ·exact hs h
  ·exact h rfl
theorem DO{q:Rat}:Fh q<=((2^Fb q.num:Nat):Rat):=by
 have h1:Fb q.num<=Fb q.num:=Ql _;rw[T0]at h1;have e:(q.num:Rat)=q*(q.den:Rat):=by
  have:(q.num:Rat) / (((q.den:Int)):Rat)=q:=by rw[H8,Z1]
  have h2:(q.num:Rat) / (q.den:Rat)*(q.den:Rat)=q.num:=Zj (by have:=nat_pos q.den_pos;grind);rw[show(q.num:Rat) / (q.den:Rat)=q from this]at h2;exact h2.symm
 have hd:(1:Rat)<=(q.den:Rat):=by
  have:((1:Nat):Rat)<=(q.den:Rat):=Zm.2 q.den_pos;exact this
 have h2:Fh q<=Fh (q.num:Rat):=by
  rw[e,Ih];have:Fh (q.den:Rat)=(q.den:Rat):=by unfold Fh;rw[if_neg (by grind)]
  rw[this];have:=Ck (a:=Fh q) (c:=1) (Ht q) Qp (by decide) hd;grind
 rw[Sx]at h2;exact Zl h2 (Zm.2 (Yk h1))
theorem TD{a:Tm}{w:Nat}(h:Fb a.lo.num+Fb a.hi.num<=w):a.hi-a.lo<=((2^(w+1):Nat):Rat):=by
 have h1:=DO (q:=a.lo);have h2:=DO (q:=a.hi);have h3:((2^Fb a.lo.num:Nat):Rat)<=((2^w:Nat):Rat):=Zm.2 (Zs (by decide) (by omega));have h4:((2^Fb a.hi.num:Nat):Rat)<=((2^w:Nat):Rat):=Zm.2 (Zs (by decide) (by omega));rw[rP];rw[Mh]at h1 h2;grind
theorem Ou{p:Un}{s:Nat}(h:Bd s p):G8 p<=s:=by
 have:=Mg h p.length;rwa[Q6]at this
theorem Qk1{a b:Tm}(ha:Va a)(hb:Va b)(pa:a.point=false)(pb:b.point=false):P5 a b<=9000000:=by
 have q1:=ha.qsn pa;have q2:=hb.qsn pb;have l1:=ha.n;have l2:=hb.n;have s1:=Ou (ha.bi pa);have s2:=Ou (hb.bi pb);have b1:=q1.1.1;have b2:=q1.2.1;have b3:=q2.1.1;have b4:=q2.2.1;have:4*(a.p.length+b.p.length)*(G8 a.p+G8 b.p+(a.p.length+b.p.length)+8)<=4*18*2600:=Zc (by omega) (by omega);unfold P5;omega
theorem Qd6{a b:Tm}(ha:Va a)(hb:Va b)(pa:a.point=false)(pb:b.point=false)(hne:¬TEq a b):∃r,AM (P5 a b) a b=some r/\Qsy a b r:=by
 obtain⟨D,M,k,h1,h2,h3⟩:=ha.hv0;obtain⟨D',M',k',h1',h2',h3'⟩:=hb.hv0;rw[yQ pa]at h3;rw[yQ pb]at h3';have hst:=Qk1 ha hb pa pb;obtain⟨w,hw⟩:=nmE (Fb a.lo.num+Fb a.hi.num+Fb b.lo.num+Fb b.hi.num);obtain⟨K,hK⟩:=nmE (G8 a.p+G8 b.p+(a.p.length+b.p.length)+8);obtain⟨n,hn⟩:=nmE (a.p.length+b.p.length);have l1:=ha.n2;have l2:=hb.n2;have hsteps:P5 a b=64+2*w+4*n*K:=by unfold P5;rw[hw,hK,hn]
 have hg:Tz a.p b.p=K*(2*(n-2)-1):=by unfold Tz;rw[hK,hn]
 have hgle:Tz a.p b.p+5*K<=2*n*K:=by
  rw[hg,Zq K,<-X3];exact Q0 _ (by omega)
 have hKp:8<=K:=by omega
 refine Qxf ha hb hne h2 h2' (31+w+2*n*K) (P5 a b) a b k k' ((2^(w+1):Nat):Rat) ?_ h1 h1' (by omega) (by omega) (TD (by omega)) (TD (by omega)) ?_
 ·rw[hsteps,Xj,Xy 4,Xy 2 n];omega
 ·have e:2*(2^(w+1))*(2^(Tz a.p b.p+1))<=2^(31+w+2*n*K):=by
   rw[Zq 2,<-Zr,<-Xf];exact Zs (by decide) (by omega)
  have:=Zm.2 e
  push_cast at this ⊢
  exact this
theorem UT{a b:Tm}(ha:Va a)(hb:Va b):∃c,UR a b=some c/\CmpOk a b c:=by
 unfold UR;by_cases pa:a.point=true
 ·rw[if_pos pa];exact⟨_,rfl,Qgp hb (cX ha pa)⟩
 rw[if_neg pa];by_cases pb:b.point=true
 ·rw[if_pos pb];have:=(Qgp ha (cX hb pb)).symm;rw[Int.neg_neg]at this;exact⟨_,rfl,this⟩
 rw[if_neg pb];have pa:a.point=false:=by simpa using pa
 have pb:b.point=false:=by simpa using pb
 obtain⟨L,V⟩:=ha.iv pa;obtain⟨L',V'⟩:=hb.iv pb;have eqa:∀q,Fl a q=cq (cz a.p) a.lo a.hi q:=Ce V.l;have eqb:∀q,Fl b q=cq (cz b.p) b.lo b.hi q:=Ce V'.l;obtain⟨lo,hlo⟩:=nmE (if 0<Hb b.lo a.lo then b.lo else a.lo);obtain⟨hi,hhi⟩:=nmE (if Hb b.hi a.hi<0 then b.hi else a.hi);show ∃c,(if Hb (if 0<Hb b.lo a.lo then b.lo else a.lo) (if Hb b.hi a.hi<0 then b.hi else a.hi)<0 then _ else _)=some c/\_;rw[<-hlo,<-hhi];have e1:(0<Hb b.lo a.lo)=(a.lo<b.lo):=propext Eh;have e2:(Hb b.hi a.hi<0)=(b.hi<a.hi):=propext Nt;have e3:(Hb lo hi<0)=(lo<hi):=propext Nt;simp only[e1]at hlo;simp only[e2]at hhi;simp only[e3];obtain⟨g,g1,g2,g3,g4⟩:=Qht Qy8 ha.tr hb.tr ha.n hb.n (ha.bi pa) (hb.bi pb) (by have:=ha.n2;omega);obtain⟨U,W,hc⟩:=g2.c;obtain⟨u,hu⟩:=g2.da;obtain⟨u',hu'⟩:=g2.db;have key:=V.same V' (g:=cz g) (u:=u) (u':=u') (U:=U) (W:=W) (k:=1) (by decide) hu hu' (λt=>by rw[U8,U8,U8,hc];grind) (a:=lo) (b:=hi) (by rw[hlo];split <;> grind) (by rw[hlo];split <;> grind) (by rw[hlo];split <;> simp) (by rw[hhi];split <;> grind) (by rw[hhi];split <;> grind) (by rw[hhi];split <;> simp);have hTE:(∀q,cq (cz a.p) a.lo a.hi q=cq (cz b.p) b.lo b.hi q)↔TEq a b:=by
  unfold TEq;constructor
  ·intro h q;rw[eqa,eqb];exact h q
  ·intro h q;rw[<-eqa,<-eqb];exact h q
 rw[hTE]at key;have fin:¬TEq a b->∃c,((AM (P5 a b) a b).bind λr=>some r.2.2)=some c/\CmpOk a b c:=λhne=>by
  obtain⟨r,r1,r2⟩:=Qd6 ha hb pa pb hne;refine⟨r.2.2,by rw[r1];rfl,?_⟩;rcases r2 with h|h
  ·exact .inl h
  ·exact .inr (.inr h)
 by_cases hl:lo<hi
 ·rw[if_pos hl,g1];show ∃c,(if 1<g.length/\FZ g lo hi=true then some 0 else(AM (P5 a b) a b).bind λr=>some r.2.2)=some c/\_;by_cases hh:FZ g lo hi=true
  ·have hq:=(FX g lo hi).1 hh;rw[if_pos ⟨fH g2.t g2.n hq,hh⟩];exact⟨0,rfl,.inr (.inl ⟨rfl,key.1 ⟨hl,hq⟩⟩)⟩
  ·rw[if_neg λh=>hh h.2];exact fin λh=>hh ((FX g lo hi).2 (key.2 h).2)
 ·rw[if_neg hl];exact fin λh=>hl (key.2 h).1
def SgT(p:Un)(a:Tm)(s:Int):Prop:=s=0/\Ix (cz p) (Fl a)\/s≠0/\NZ (cz p) (Fl a) s
theorem Qv6{p:Un}{c:Rat->Int}(hc:Cut c){x:Rat}(h:c x=0):H9 p x=0/\Ix (cz p) c\/H9 p x≠0/\NZ (cz p) c (H9 p x):=by
 rw[Ni,<-U8];rcases JE hc (cz p)with h1|⟨s,hs,h1⟩
 ·exact .inl ⟨Gp.2 (TC hc h h1),h1⟩
 ·have:=gA hc h h1;rw[this];exact .inr ⟨hs,h1⟩
theorem O8{l:Uo}{lo hi:Rat}(h:lo<=hi):To l lo hi=(vv (l.map cz) lo:Int)-(vv (l.map cz) hi:Int):=by
 unfold To;rw[if_neg λh'=>by have:=Nt.1 h';grind,ZZ,ZZ]
theorem Qv7{p q:Un}{L:Ur}(hp:Fc p)(np:p.length<=9)(lp:2<=p.length)(hS:HJ (cz q) L)(hpq:ZP (cz q) (cz p)){a:Tm}(ha:Va a){s:Int}(hnz:NZ (cz p) (Fl a) s){D M k:Nat}{x:Tm}(hx:Hv a D M k x)(hl:x.lo<x.hi)(hv:vv L x.lo≠vv L x.hi):1<(x.hi-x.lo)*((2^(Tz a.p p+1):Nat):Rat):=by
 rcases Gg ((x.hi-x.lo)*((2^(Tz a.p p+1):Nat):Rat)) 1 with hw|hw
 ·exfalso;have ca:=ha.cut;obtain⟨d,dp,x1,y1,c1,c2,hn⟩:=hnz;obtain⟨x2,x12,c3⟩:=ca.up x1 c1;obtain⟨y2,y12,c4⟩:=ca.dn y1 c2;have hpow:(0:Rat)<=((2^(Tz a.p p+1):Nat):Rat):=Xi;obtain⟨z,zp,z1,z2⟩:=min2 (a:=x2-x1) (b:=y1-y2) (by clear hn;grind) (by clear hn;grind);obtain⟨R0,hR0,r1,r2⟩:=xZ x.lo x.hi;obtain⟨u,hu⟩:=hpq;refine Qhk (R:=R0+1) (d:=z) ha.tr hp ha.n np ha.n2 lp (by clear hn;grind) zp λe ep=>?_
  obtain⟨q0,q1,q2,q3,q4,q5⟩:∃q0,x.lo<=q0/\q0<=x.hi/\x2<=q0/\q0<=y2/\Fh (U7 a.p q0)<e:=by
   rcases hx.lo' with h1|⟨h1,h2⟩
   ·obtain⟨x',y',hx',hy',hq⟩:=ha.van e ep;obtain⟨m,m1,m2,m3,m4⟩:∃m,Fl a m=1/\x.lo<=m/\x2<=m/\x'<=m:=by
     rcases Gg x.lo x2 with e1|e1
     ·rcases Gg x2 x' with e2|e2
      ·exact⟨x',hx',by clear hn hq;grind,e2,Qp⟩
      ·exact⟨x2,c3,e1,Qp,Qt e2⟩
     ·rcases Gg x.lo x' with e2|e2
      ·exact⟨x',hx',e2,by clear hn hq;grind,Qp⟩
      ·exact⟨x.lo,h1,Qp,Qt e1,Qt e2⟩
    refine⟨m,m2,?_,m3,Qt (ca.lt m1 c4),by rw[<-U8];exact hq m m4 (Qt (ca.lt m1 hy'))⟩;rcases hx.hi' with h3|h3
    ·rcases Gg m x.hi with e1|e1
     ·exact e1
     ·have:=ca.mono x.hi m e1 (by omega);omega
    ·exact Qt (ca.lt m1 h3)
   ·exact absurd h2 (by clear hn;grind)
  obtain⟨b,hb⟩:=nmE (uI R0 u);have hb0:0<=b:=by rw[hb];exact XY hR0 u
  obtain⟨f,fp,_,hf⟩:=Hh (b:=b) (d:=if e<=d then e else d) hb0 (by split <;> assumption);obtain⟨r,r3,r4,r5⟩:=vL hS hl hv fp;have hrR:Fh r<=R0:=FY r1 r2 r3 r4;have hpr:Fh (U7 p r)<(if e<=d then e else d):=by
   rw[<-U8,hu];have:=Ha (Qt r5) (SJ hrR u);rw[<-hb]at this;exact Js.1 λh=>absurd (Zl h this) (Js.2 hf)
  have hpe:Fh (U7 p r)<e:=by split at hpr <;> (clear hn;grind)
  have hpd:Fh (U7 p r)<d:=by split at hpr <;> (clear hn;grind)
  have hrout:r<x1\/y1<r:=by
   rcases Gg x1 r with e1|e1
   ·rcases Gg r y1 with e2|e2
    ·have:=(hn r e1 e2).2;rw[U8]at this;exact absurd this (Js.2 hpd)
    ·exact .inr e2
   ·exact .inl e1
  have hqr:z<=Fh (q0-r):=by
   clear hn;rcases hrout with h|h
   ·have:Fh (q0-r)=q0-r:=by unfold Fh;split <;> grind
    rw[this];grind
   ·have:Fh (q0-r)=r-q0:=by unfold Fh;split <;> grind
    rw[this];grind
  have hq0R:Fh q0<=R0:=FY r1 r2 q1 q2;refine⟨q0,r,by clear hn;grind,by clear hn;grind,hqr,?_,q5,hpe⟩;have h1:Fh (q0-r)<=x.hi-x.lo:=by rw[Mh];clear hn;constructor <;> grind
  exact Zl (Ze h1 hpow) hw
 ·exact hw
theorem Qkn{p q:Un}{l:Uo}(hp:Fc p)(np:p.length<=9)(lp:2<=p.length)(hS:HJ (cz q) (l.map cz))(hpq:ZP (cz q) (cz p)){a:Tm}(ha:Va a){s:Int}(hnz:NZ (cz p) (Fl a) s){D M:Nat}(hM:0<M):∀(j i:Nat) (x:Tm) (k:Nat) (W:Rat),i+1<=j->Hv a D M k x->Fb (D:Int)+Fb (M:Int)+(k+j)<=16777216->x.hi-x.lo<=W->W*((2^(Tz a.p p+1):Nat):Rat)<=((2^i:Nat):Rat)->∃u k',sgF l j x=some u/\Hv a D M k' u/\(u.point=true\/To l u.lo u.hi=0)
 | 0,i,x,k,W,h,_,_,_,_=>by omega
 |
  j+1,i,x,k,W,hj,hx,hs,hW,hK=>by
  simp only[sgF];by_cases h:x.point=true\/To l x.lo x.hi=0
  ·rw[if_pos h];exact⟨x,k,rfl,hx,h⟩
  ·rw[if_neg h];obtain⟨v,v1,v2,v3,_⟩:=jC hx hM (by omega);rw[v1];show ∃u k',sgF l j v=some u/\_;have hpt:¬x.hi<=x.lo:=λh'=>h (.inl (Ms.2 h'))
   have hl:x.lo<x.hi:=by grind
   have hvv:vv (l.map cz) x.lo≠vv (l.map cz) x.hi:=λh'=>h (.inr (by rw[O8 (Qt hl)];omega))
   have hg:=Qv7 hp np lp hS hpq ha hnz hx hl hvv;have hpow:(0:Rat)<=((2^(Tz a.p p+1):Nat):Rat):=Xi;have hd:∀x:Rat,x / 2*2=x:=λx=>Hd (by decide)
   cases i with
   |
    zero =>
    exfalso;rw[Vd]at hK;have:=Ze hW hpow;have h7:((1:Nat):Rat)=1:=rfl;rw[h7]at hK;grind
   |
    succ i =>
    refine Qkn hp np lp hS hpq ha hnz hM j i v (k+1) (W / 2) (by omega) v2 (by omega) ?_ ?_
    ·have:=hd (x.hi-x.lo);have:=hd W;grind
    ·rw[rP i]at hK;have:=hd W;have:W / 2*((2^(Tz a.p p+1):Nat):Rat)*2=W*((2^(Tz a.p p+1):Nat):Rat):=by grind
     grind
theorem rY{x y:Rat}:∀{ws:Ur},(∀w∈ws,Fe (ev w x)=Fe (ev w y))->Fe (ev (Oh ws) x)=Fe (ev (Oh ws) y)
 | [],_=>by simp only[Oh];rw[Td,Td]
 |
  w::l,h=>by
  simp only[Oh];rw[Ff,Ff,Sv,Sv,h w (Qx ..),rY λv hv=>h v (Qg _ hv)]
theorem Qc2{p q o:Un}(hpt:Parts p q o)(tp:Fc p)(hp:p.length≠0){L:Ur}(hS:HJ (cz q) L){x y:Rat}(hxy:x<y)(hv:vv L x=vv L y):∃s,s≠0/\∀z,x<z->z<=y->Fe (U7 p z)=s:=by
 obtain⟨ws,w1,w2⟩:=hpt.ws;obtain⟨_,_,_,_,_,p6,p7⟩:=Co tp hp;have key:∀z,x<z->z≤y->∀w∈ws.map cz,Sm w x z:=λz h1 h2 w hw=>by
  obtain⟨v,hv',rfl⟩:=Za.1 hw;obtain⟨u,hu⟩:=(w1 v hv').2;have a1:=Ax hS h1;have a2:vv L y<=vv L z:=by
   rcases Classical.em (z=y)with e|e
   ·rw[e];exact Ql _
   ·exact Ax hS (by grind)
  exact KJ hS hu h1 (by omega)
 have hval:∀z,U7 p z=(Hn p:Rat)*ev (Oh (ws.map cz)) z:=λz=>by rw[p7,w2]
 refine⟨Fe (U7 p y),λh0=>?_,λz h1 h2=>?_⟩
 ·rw[hval,Sv]at h0;rcases Yf.1 h0 with h|h
  ·exact XH p6 (Gp.1 h)
  ·have:∀l:Ur,(∀w∈l,Fe (ev w y)≠0)->Fe (ev (Oh l) y)≠0:=by
    intro l
    induction l with
    |nil=>intro _;simp only[Oh];rw[Td];decide
    |
     cons w l ih =>
     intro h;simp only[Oh];rw[Ff,Sv];exact Jf (h w (Qx ..)) (ih λv hv=>h v (Qg _ hv))
   refine this _ (λw hw=>?_) h;have hs:=key y hxy Qp w hw;rw[hs.s];exact hs.n
 ·rw[hval,hval,Sv,Sv,rY (y:=y) λw hw=>(key z h1 h2 w hw).s.trans (key y hxy Qp w hw).s.symm]
theorem Qu0{g p P:Un}{c:Rat->Int}(hc:Cut c)(hg:Gc g p P):Ix (cz g) c↔Ix (cz p) c/\Ix (cz P) c:=by
 constructor
 ·intro h;obtain⟨u,hu⟩:=hg.da;obtain⟨v,hv⟩:=hg.db;exact⟨P8 hc hu h,P8 hc hv h⟩
 ·rintro⟨h1,h2⟩
  obtain⟨U,V,hcc⟩:=hg.c;have a1:Ix (G5 U (cz p)) c:=P8 hc (p:=cz p) (q:=U) (λt=>by rw[Ff];grind) h1;have a2:Ix (G5 V (cz P)) c:=P8 hc (p:=cz P) (q:=V) (λt=>by rw[Ff];grind) h2;exact NS (λt=>by rw[U8,hcc,Ff,Ff,U8,U8]) a1 a2
theorem Qku{p:Un}(hp:Okp 9 1180 p){a:Tm}(ha:Va a):∃s,GG p a=some s/\SgT p a s:=by
 unfold GG;rw[if_neg hp.nz];have ca:=ha.cut;by_cases pa:a.point=true
 ·rw[if_pos pa];exact⟨_,rfl,Qv6 ca (x:=a.lo) (by rw[cX ha pa,Ew])⟩
 rw[if_neg pa];have pa:a.point=false:=by simpa using pa
 obtain⟨L,V⟩:=ha.iv pa;have eqa:∀q,Fl a q=cq (cz a.p) a.lo a.hi q:=Ce V.l;obtain⟨g,g1,g2,g3,g4⟩:=Qht Qy8 hp.t ha.tr hp.l ha.n (U4 hp.b (by omega)) (ha.bi pa) hp.nz;obtain⟨u',hu'⟩:=g2.db;have hhas:=V.has hu' (a:=a.lo) (b:=a.hi) Qp V.l Qp;have hvan:=Qu0 ca g2;rw[show cq (cz a.p) a.lo a.hi=Fl a from(funext eqa).symm]at hhas;rw[g1];show ∃s,(if 1<g.length/\FZ g a.lo a.hi=true then some 0 else _)=some s/\_;by_cases hh:FZ g a.lo a.hi=true
 ·have hq:=(FX g _ _).1 hh;rw[if_pos ⟨fH g2.t g2.n hq,hh⟩];exact⟨0,rfl,.inl ⟨rfl,(hvan.1 (hhas.1 hq).1).1⟩⟩
 ·rw[if_neg λh=>hh h.2];have hnv:¬Ix (cz p) (Fl a):=λh=>hh ((FX g _ _).2 (hhas.2 ⟨hvan.2 ⟨h,ha.van⟩,by rw[eqa];exact Ad Qp,by rw[eqa];exact V.hi1⟩))
  rcases JE ca (cz p)with h|⟨s,AH,hnz⟩
  ·exact absurd h hnv
  obtain⟨q,o,q1,q2,hpt⟩:=Qi8 hp;obtain⟨q',l,r1,r2,hS,hl0⟩:=chain_ok hp;rw[q1]at r1;injection r1 with r1;subst r1;rw[r2];show ∃s,((sgF (q::l) (64+2*(Fb a.lo.num+Fb a.hi.num)+4*(a.p.length+p.length)*(G8 a.p+G8 p+(a.p.length+p.length)+8)) a).bind λx=>some (H9 p x.hi))=some s/\_;obtain⟨w,hw⟩:=nmE (Fb a.lo.num+Fb a.hi.num);obtain⟨K,hK⟩:=nmE (G8 a.p+G8 p+(a.p.length+p.length)+8);obtain⟨n,hn⟩:=nmE (a.p.length+p.length);rw[<-hw,<-hK,<-hn];obtain⟨gg,sq⟩:=hpt.sq;obtain⟨_,_,_,_,_,pf0,pfe⟩:=Co hp.t hp.nz;have hpq:ZP (cz q) (cz p):=⟨D2 (Hn p) (cz gg),λt=>by rw[U8,U8,Gs,U8,pfe,sq.e];grind⟩;obtain⟨D,M,k,h1,h2,h3⟩:=ha.hv0;rw[yQ pa]at h3;have b1:=(ha.qsn pa).1.1;have b2:=(ha.qsn pa).2.1;have l1:=ha.n;have l2:=hp.l;have l3:=ha.n2;have s1:=Ou (ha.bi pa);have s2:=Ou hp.b;have hst:4*n*K<=4*18*2466:=Zc (by omega) (by omega);have hend:∃u k',sgF (q::l) (64+2*w+4*n*K) a=some u/\Hv a D M k' u/\(u.point=true\/To (q::l) u.lo u.hi=0):=by
   by_cases hpl:p.length<2
   ·have hq1:(Fg p)=[1]:=hp.pr.1.one (by have:=hp.pr.2.1;omega);have hql:q.length<2:=by
     have e:=sq.e;rw[hq1]at e;obtain⟨p1,p2⟩:=Te (c:=[1]) rfl (by simp) e;have:=Mq sq.pg.t sq.pq.t (c:=[1]) rfl e p1 p2;simp at this;omega
    have hbt:To (q::l) a.lo a.hi=0:=by
     rw[O8 (Qt V.l),hl0 hql,sq.pq.one hql];have hv1:∀x:Rat,ev (cz [1]) x=1:=λx=>by rw[U8,Nu]
     simp only[Zz,X6,vv,tc,hv1];omega
    refine⟨a,k,?_,h1,.inr hbt⟩;obtain⟨m,hm⟩:∃m,64+2*w+4*n*K=m+1:=⟨63+2*w+4*n*K,by omega⟩;rw[hm];simp only[sgF];rw[if_pos (.inr hbt)]
   ·have hg:Tz a.p p=K*(2*(n-2)-1):=by unfold Tz;rw[hK,hn]
    have hgle:Tz a.p p+5*K<=2*n*K:=by
     rw[hg,Zq K,<-X3];exact Q0 _ (by omega)
    have hKp:8<=K:=by omega
    have hnK:2*n*K<=4*n*K:=Q0 _ (by omega);obtain⟨u,k',u1,u2,u3⟩:=Qkn hp.t hp.l (by omega) hS hpq ha hnz h2 (64+2*w+4*n*K) (2+w+2*n*K) a k ((2^(w+1):Nat):Rat) (by omega) h1 (by omega) (TD (by omega)) (by
     have e:(2^(w+1))*(2^(Tz a.p p+1))<=2^(2+w+2*n*K):=by
      rw[<-Xf];exact Zs (by decide) (by omega)
     have:=Zm.2 e
     push_cast at this ⊢
     exact this)
    exact⟨u,k',u1,u2,u3⟩
  obtain⟨u,k',u1,u2,u3⟩:=hend;rw[u1];refine⟨_,rfl,.inr ?_⟩;have hfin:H9 p u.hi=s:=by
   rcases u2.hi' with hz|hz
   ·have:=gA ca hz hnz;rw[Ni,<-U8];exact this
   ·rcases u2.i with⟨e,_⟩|⟨L',V'⟩
    ·have:=u2.c u.hi;rw[A8 e,e,Ew]at this;omega
    ·have hup:u.point=false:=by
      have:¬u.point=true:=λh=>by have:=Ms.1 h;have:=V'.l;grind
      simpa using this
     rcases u3 with h|h
     ·rw[hup]at h;cases h
     ·rw[O8 (Qt V'.l)]at h;obtain⟨s',hs',hps⟩:=Qc2 hpt hp.t hp.nz hS V'.l (by omega);obtain⟨d,dp,x,y,hx,hy,hq⟩:=hnz;have hlo1:Fl a u.lo=1:=by
       rcases u2.lo' with h|⟨_,h⟩
       ·exact h
       ·have:=V'.l;clear hps hq;grind
      obtain⟨m,m1,m2,m3⟩:=CW ca hlo1 hx;have e1:=(hq m (Qt m3) (Qt (ca.lt m1 hy))).1;have e2:=hps m m2 (Qt (ca.lt m1 hz));have e3:=hps u.hi V'.l Qp;rw[Ni,e3,<-e2,<-U8,e1]
  rw[hfin];exact⟨AH,hnz⟩
structure Dp(p:List Int):Prop where
 t:Fc p
 l:p.length<=9
 b:Bd (1130+4*(9-p.length)) p
theorem iC:Szz 9 1253:=⟨by decide,by decide⟩
theorem Dp.ok{p:Un}(h:Dp p)(h0:p.length≠0):Okp 9 1180 p:=⟨iC,h.t,h0,h.l,U4 h.b (by omega)⟩
theorem Dp.der{p:Un}(h:Dp p):Dp (Gv p):=by
 have hl:=Na p;have hl2:=h.l;refine⟨Fx _ _,by omega,?_⟩;by_cases h0:p.length=0
 ·rw[Qj (l:=Gv p) (by omega)];exact ZC
 ·exact U4 (pU h.b (by omega)) (by omega)
def Fp(a:Tm)(p:Un):Int:=(GG p a).getD 0
theorem Qkl{p:Un}(h:Dp p){a:Tm}(ha:Va a):GG p a=some (Fp a p)/\SgT p a (Fp a p):=by
 by_cases h0:p.length=0
 ·have e:p=[]:=Qj h0;subst e;refine⟨rfl,.inl ⟨rfl,λd dp=>?_⟩⟩;obtain⟨x,y,h1,h2,_⟩:=ha.cut.near (e:=1) (by decide);exact⟨x,y,h1,h2,λq _ _=>by simp only[cz,X6,ev,Rh];exact dp⟩
 ·obtain⟨s,h1,h2⟩:=Qku (h.ok h0) ha;have e:Fp a p=s:=by unfold Fp;rw[h1];rfl
  rw[e];exact⟨h1,h2⟩
theorem Qv3{c:Rat->Int}{p q:Uq}{s:Int}(h:∀t,ev p t=ev q t)(hp:RS p c s):RS q c s:=by
 obtain⟨y,h1,h2⟩:=hp;exact⟨y,h1,λz h3 h4=>by rw[<-h];exact h2 z h3 h4⟩
theorem qQ{a:Tm}(ha:Va a):∀(k:Nat) (p:Un),Dp p->p.length<=k->p.length≠0->RS (cz p) (Fl a) (Tu (Fp a) k p)/\Tu (Fp a) k p≠0
 | 0,p,_,h1,h2=>by omega
 |
  k+1,p,h,h1,h2=>by
  simp only[Tu];rw[if_neg h2];obtain⟨_,hs⟩:=Qkl h ha;rcases hs with⟨e,hv⟩|⟨e,hn⟩
  ·rw[if_pos e];have hdn:(Gv p).length≠0:=λh0=>by
    by_cases h3:p.length=1
    ·obtain⟨c,rfl⟩:∃c,p=[c]:=Kr.1 h3;have hc:c≠0:=by have:=H7 h.t (by simp);simpa using this
     obtain⟨q,hq,_⟩:=gC ha.cut (hv (Fh (c:Rat)) (Cu (XH hc)));rw[U8]at hq;have:U7 [c] q=(c:Rat):=by simp only[U7];grind
     rw[this]at hq;grind
    ·have h4:=Bu p (p.length-2);rw[Qj h0,show p.length-2+1=p.length-1 by omega]at h4;have h5:p.getD (p.length-1) 0≠0:=H7 h.t (by omega);rcases Yf.1 (h4.symm.trans (by simp))with h6|h6
     ·exact h5 h6
     ·omega
   have hl:=Na p;obtain⟨i1,i2⟩:=qQ ha k (Gv p) h.der (by omega) hdn;exact⟨vF ha.cut hv (Qv3 (λt=>by rw[U8,Oj,Tp]) i1) i2,i2⟩
  ·rw[if_neg e];exact⟨zU ha.cut hn,e⟩
theorem Ej{a:Tm}(ha:Va a){p:Un}(h:Dp p)(h0:p.length≠0):RS (cz p) (Fl a) (Hi (Fp a) p)/\Hi (Fp a) p≠0:=qQ ha _ p h (Ql _) h0
theorem XU{a:Tm}:Hi (Fp a) []=0:=rfl
theorem Qo7{l:Un}:∀z∈l,z.natAbs≤most l:=by
 have key:∀(l:Un) (m:Nat),m≤l.foldl (λm z=>if m<z.natAbs then z.natAbs else m) m/\∀z∈l,z.natAbs≤l.foldl (λm z=>if m<z.natAbs then z.natAbs else m) m:=by
  intro l
  induction l with
  |nil=>exact λm=>⟨Ql _,λz hz=>by cases hz⟩
  |
   cons y l ih =>
   intro m;obtain⟨e,he⟩:=nmE (if m<y.natAbs then y.natAbs else m);have h1:m<=e/\y.natAbs<=e:=by rw[he];split <;> omega
   obtain⟨i1,i2⟩:=ih e;simp only[Z9];rw[<-he];refine⟨by omega,λz hz=>?_⟩;rcases Qm.1 hz with rfl|hz
   ·omega
   ·exact i2 z hz
 exact(key l 0).2
theorem BJ{p:Un}(h:Fo p≠0):Gw p*((Fo p).natAbs:Rat)=((Fo p).natAbs:Rat)+((most (p.take (p.length-1)):Nat):Rat):=by
 unfold Gw;rw[<-H8];have hp:0<(Fo p).natAbs:=by omega
 have:=nat_pos hp;rw[show((((Fo p).natAbs:Int)):Rat)=((Fo p).natAbs:Rat) from rfl,Hd this];rw[Kc];rfl
theorem aU{m:Nat}{x:Rat}(hx:1≤Fh x):∀(p:Un) (lp:p.length≠0),(∀z∈p.take (p.length-1),z.natAbs≤m)->Fo p≠0->(m:Rat)≤(Fh x-1)*((Fo p).natAbs:Rat)->((Fo p).natAbs:Rat)≤U7 p x*(((Int.sign (Fo p))*(if x<0/\p.length % 2=0 then -1 else 1):Int):Rat)
 | [],lp,_,_,_=>absurd rfl lp
 |
  [c],_,_,hc,_=>by
  have hl:Fo [c]=c:=rfl;rw[hl]at hc ⊢;rw[if_neg (by simp),Uc];have h1:U7 [c] x=(c:Rat):=by simp only[U7];grind
  rw[h1];have h2:c*Int.sign c=(c.natAbs:Int):=Int.mul_sign_self c;have:=congrArg (λz:Int=>(z:Rat)) h2;rw[Xz]at this;rw[this];exact Qp
 |
  c::d::p,_,hm,hc,hb=>by
  have hl:Fo (c::d::p)=Fo (d::p):=by unfold Fo;simp[List.getD_cons_succ]
  have ih:=aU hx (d::p) (by simp) (λz hz=>hm z (by
   have e:(c::d::p).take ((c::d::p).length-1)=c::(d::p).take ((d::p).length-1):=by simp
   rw[e];exact Qg _ hz)) (by rw[<-hl];exact hc) (by rw[<-hl];exact hb)
  rw[hl]at hc hb ⊢;have hcm:=hm c (by simp);obtain⟨s,hs⟩:∃s:Int,s=Int.sign (Fo (d::p)):=⟨_,rfl⟩;have hsv:s=1\/s=-1:=by
   rw[hs];rcases Ke hc with h|h
   ·exact .inr (J7 h)
   ·exact .inl (Yu h)
  rw[<-hs]at ih ⊢;obtain⟨ld,hld⟩:∃ld:Rat,ld=((Fo (d::p)).natAbs:Rat):=⟨_,rfl⟩;rw[<-hld]at ih hb ⊢;have hcq:Fh (c:Rat)<=(m:Rat):=by rw[Sx];exact Zm.2 hcm
  rw[Mh]at hcq;have e1:U7 (c::d::p) x=(c:Rat)+x*U7 (d::p) x:=rfl;rw[e1];have hlen:(c::d::p).length % 2=0↔¬(d::p).length % 2=0:=by simp only[Q5];omega
  generalize U7 (d::p) x=y at *;generalize (m:Rat)=mm at *;generalize (c:Rat)=cc at *;have hx0:=hx;by_cases hneg:x<0
  ·have hq:Fh x=-x:=by unfold Fh;rw[if_pos hneg]
   rw[hq]at hx0 hb;by_cases hpar:(d::p).length % 2=0
   ·rw[if_pos ⟨hneg,hpar⟩]at ih;rw[if_neg λh=>(hlen.1 h.2) hpar];rcases hsv with rfl|rfl
    ·have ih:ld<=y*(-1):=by simpa using ih
     have:=Z0 ih (show 0<=-x by grind);have e:(((1:Int)*1:Int):Rat)=1:=rfl;rw[e];grind
    ·have ih:ld<=y*1:=by simpa using ih
     have:=Z0 ih (show 0<=-x by grind);have e:(((-1:Int)*1:Int):Rat)=-1:=rfl;rw[e];grind
   ·rw[if_neg λh=>hpar h.2]at ih;rw[if_pos ⟨hneg,hlen.2 hpar⟩];rcases hsv with rfl|rfl
    ·have ih:ld<=y*1:=by simpa using ih
     have:=Z0 ih (show 0<=-x by grind);have e:(((1:Int)*-1:Int):Rat)=-1:=rfl;rw[e];grind
    ·have ih:ld<=y*(-1):=by simpa using ih
     have:=Z0 ih (show 0<=-x by grind);have e:(((-1:Int)*-1:Int):Rat)=1:=rfl;rw[e];grind
  ·have hq:Fh x=x:=by unfold Fh;rw[if_neg hneg]
   rw[hq]at hx0 hb;rw[if_neg λh=>hneg h.1]at ih ⊢;rcases hsv with rfl|rfl
   ·have ih:ld<=y*1:=by simpa using ih
    have:=Z0 ih (show 0<=x by grind);have e:(((1:Int)*1:Int):Rat)=1:=rfl;rw[e];grind
   ·have ih:ld<=y*(-1):=by simpa using ih
    have:=Z0 ih (show 0<=x by grind);have e:(((-1:Int)*1:Int):Rat)=-1:=rfl;rw[e];grind
theorem pT{p:Un}(tp:Fc p)(lp:p.length≠0){x:Rat}(hx:Gw p<=Fh x):1<=Fh (U7 p x)/\(0<=x->H9 p x=UE p)/\(x<0->H9 p x=ZG p):=by
 have hl:=Ek tp lp;have hpos:0<(Fo p).natAbs:=by omega
 have h1:(1:Rat)<=((Fo p).natAbs:Rat):=by
  have:((1:Nat):Rat)<=((Fo p).natAbs:Rat):=Zm.2 hpos;exact this
 have hm0:(0:Rat)<=((most (p.take (p.length-1)):Nat):Rat):=Xi;have hb:=BJ hl;have hx1:=Ze hx (show(0:Rat)<=((Fo p).natAbs:Rat) by grind);have hx2:1<=Fh x:=by
  rcases Gg 1 (Fh x)with h|h
  ·exact h
  ·exfalso;have:=Vy h (show(0:Rat)<((Fo p).natAbs:Rat) by grind);grind
 have key:=aU (m:=most (p.take (p.length-1))) hx2 p lp (λz hz=>Qo7 z hz) hl (by grind);obtain⟨s,hs⟩:∃s:Int,s=Int.sign (Fo p)*(if x<0/\p.length % 2=0 then -1 else 1):=⟨_,rfl⟩;rw[<-hs]at key;have hsv:s=1\/s=-1:=by
  rw[hs];rcases Ke hl with h|h
  ·rw[J7 h];split <;> simp
  ·rw[Yu h];split <;> simp
 have hsg:H9 p x=s/\1<=Fh (U7 p x):=by
  rw[Ni];rcases hsv with e|e
  ·rw[e]at key ⊢;have key:((Fo p).natAbs:Rat)<=U7 p x:=by simpa using key
   exact⟨Hw.2 (by grind),by unfold Fh;rw[if_neg (by grind)];grind⟩
  ·rw[e]at key ⊢;have key:((Fo p).natAbs:Rat)<=U7 p x*(-1):=by simpa using key
   exact⟨Pa.2 (by grind),by unfold Fh;rw[if_pos (by grind)];grind⟩
 refine⟨hsg.2,λh=>?_,λh=>?_⟩
 ·rw[hsg.1,hs,if_neg λh'=>by have:=h'.1;grind];unfold UE;omega
 ·rw[hsg.1,hs];unfold ZG;by_cases he:p.length % 2=0
  ·rw[if_pos ⟨h,he⟩,if_pos he];omega
  ·rw[if_neg λh'=>he h'.2,if_neg he];omega
theorem JD{f g:Un->Int}:∀{l:Uo} (s:Nat×Int),(∀p∈l,f p=g p)->l.foldl (Pq f) s=l.foldl (Pq g) s
 | [],s,_=>rfl
 |
  p::l,s,h=>by
  simp only[Z9];have e:Pq f s p=Pq g s p:=by unfold Pq;rw[h p (List.mem_cons_self ..)]
  rw[e];exact JD _ λq hq=>h q (Qg _ hq)
theorem aJ:∀(l:Uo),(∀p∈l,Fc p/\p.length≠0)->∃X:Rat,0<X/\∀x,X≤x->(∀p∈l,H9 p x=UE p)/\∀p∈l,H9 p (-x)=ZG p
 | [],_=>⟨1,by decide,λx _=>⟨(λp hp=>by cases hp),(λp hp=>by cases hp)⟩⟩
 |
  p::l,h=>by
  obtain⟨X,hX,hl⟩:=aJ l λq hq=>h q (Qg _ hq)
  obtain⟨tp,lp⟩:=h p (Qx ..);refine⟨X+Fh (Gw p),by have:=Ht (Gw p);grind,λx hx=>?_⟩;have hb0:=Ht (Gw p);have hb1:Gw p<=Fh (Gw p):=by unfold Fh;split <;> grind
  obtain⟨l1,l2⟩:=hl x (by grind);have e1:Fh x=x:=by unfold Fh;rw[if_neg (by grind)]
  have e2:Fh (-x)=x:=by rw[Ep,e1]
  refine⟨λq hq=>?_,λq hq=>?_⟩
  ·rcases Qm.1 hq with rfl|hq
   ·exact(pT tp lp (x:=x) (by rw[e1];grind)).2.1 (by grind)
   ·exact l1 q hq
  ·rcases Qm.1 hq with rfl|hq
   ·exact(pT tp lp (x:=-x) (by rw[e2];grind)).2.2 (by grind)
   ·exact l2 q hq
theorem dM{q:Un}{L:Ur}(hS:HJ (cz q) L)(tq:Fc q)(lq:q.length≠0){x y:Rat}(hxy:x<y)(h:Gw q<=x\/y<=-Gw q)(hb:0<Gw q):vv L x=vv L y:=by
 rcases Classical.em (vv L x=vv L y)with e|e
 ·exact e
 ·exfalso;obtain⟨r,r1,r2,r3⟩:=vL hS hxy e (d:=1) (by decide);have:=(pT tq lq (x:=r) (by rcases h with h|h <;> (unfold Fh;split <;> grind))).1;rw[U8]at r3;grind
theorem HU{p:Un}(h:Fo p≠0):1<=Gw p:=by
 have hb:=BJ h;have hp:=nat_pos (show 0<(Fo p).natAbs by omega);have hm0:(0:Rat)<=((most (p.take (p.length-1)):Nat):Rat):=Xi;rcases Gg 1 (Gw p)with h'|h'
 ·exact h'
 ·have:=Vy h' hp;grind
theorem Qdb{q:Un}{l:Uo}(hS:HJ (cz q) ((q::l).map cz))(hl:∀p∈q::l,Fc p/\p.length≠0):WS (q::l)=(vv ((q::l).map cz) (-Gw q):Int)-(vv ((q::l).map cz) (Gw q):Int):=by
 obtain⟨tq,lq⟩:=hl q (Qx ..);have hb:=HU (Ek tq lq);obtain⟨X,hX,hx⟩:=aJ (q::l) hl;obtain⟨h1,h2⟩:=hx (X+Gw q) (by grind);have e1:Cy UE (q::l)=vv ((q::l).map cz) (X+Gw q):=by
  rw[<-ZZ];unfold Cz Cy;rw[JD (f:=UE) (g:=λp=>H9 p (X+Gw q)) (0,0) λp hp=>(h1 p hp).symm]
 have e2:Cy ZG (q::l)=vv ((q::l).map cz) (-(X+Gw q)):=by
  rw[<-ZZ];unfold Cz Cy;rw[JD (f:=ZG) (g:=λp=>H9 p (-(X+Gw q))) (0,0) λp hp=>(h2 p hp).symm]
 unfold WS;rw[e1,e2,dM hS tq lq (x:=-(X+Gw q)) (y:=-Gw q) (by grind) (.inr Qp) (by grind),<-dM hS tq lq (x:=Gw q) (y:=X+Gw q) (by grind) (.inl Qp) (by grind)]
theorem Qvg{f:Uq}{L:Ur}(hS:HJ f L){x y:Rat}(hxy:x<y)(hv:vv L y+2<=vv L x):∃m,x<m/\m<y/\vv L m<vv L x/\vv L y<vv L m/\ev f m≠0:=by
 obtain⟨R,hR,hx,hy⟩:=xZ x y;obtain⟨e,ep,he⟩:=Qlg hS R hR;have key:∀n:Nat,∀x,Fh x<=R->x<y->vv L y+2<=vv L x->y-x<=(n:Rat)*e->∃m,x<m/\m<y/\vv L m<vv L x/\vv L y<vv L m:=by
  intro n
  induction n with
  |zero=>intro x _ hxy _ hn;rw[show((0:Nat):Rat)=0 from rfl]at hn;exfalso;clear he;grind
  |
   succ n ih =>
   intro x hx hxy hv hn;have hn':(((n+1:Nat):Rat))=(n:Rat)+1:=by push_cast;rfl
   rw[hn']at hn;rcases Gg (y-x) e with h1|h1
   ·have:=he x y hx hy hxy h1;omega
   ·have hm:Fh (x+e)<=R:=FY hx hy (by clear he ih;grind) (by clear he ih;grind);have h2:=he x (x+e) hx hm (by clear he ih;grind) (by clear he ih;grind);have h3:=Ax hS (show x<x+e by clear he ih;grind);by_cases h4:vv L x=vv L (x+e)
    ·obtain⟨m,m1,m2,m3,m4⟩:=ih (x+e) hm (by clear he ih;grind) (by omega) (by clear he ih;grind);exact⟨m,by clear he ih;grind,m2,by omega,m4⟩
    ·exact⟨x+e,by clear he ih;grind,by clear he ih;grind,by omega,by omega⟩
 obtain⟨n,hn⟩:=ZN (z:=y-x) ep;obtain⟨m,m1,m2,m3,m4⟩:=key n x hx hxy hv hn;rcases Classical.em (ev f m=0)with h0|h0
 ·-- a little farther on
  obtain⟨e2,e2p,hl⟩:=loc hR hS (w:=f) (u:=[1]) (λt=>by rw[Td];grind);obtain⟨d,dp,d1,d2⟩:=min2 (a:=e2) (b:=(y-m) / 2) e2p (Ae (by clear he key hl;grind) (by decide));have h2:(y-m) / 2*2=y-m:=Hd (by decide);have hmR:Fh m<=R:=FY hx hy (Qt m1) (Qt m2);have hmR2:Fh (m+d)<=R:=FY hx hy (by clear he key hl;grind) (by clear he key hl;grind);rcases hl m (m+d) hmR hmR2 (by clear he key hl;grind) (by clear he key hl;grind)with⟨p1,p2,_⟩|⟨_,p1,_,p3,_⟩
  ·refine⟨m+d,by clear he key hl;grind,by clear he key hl;grind,by omega,by omega,λh'=>?_⟩;have:=p2.s;rw[Gp.2 h']at this;exact p2.n this.symm
  ·rw[Gp.2 h0]at p3;exact absurd p3.symm p1
 ·exact⟨m,m1,m2,m3,m4,h0⟩
theorem Qq1{q:Un}{L:Ur}(hS:HJ (cz q) L)(tq:Fc q)(nq:q.length<=9)(lq:2<=q.length){lo hi:Rat}(hl:lo<hi)(hv:vv L hi+2<=vv L lo):1<(hi-lo)*((2^(Tz q q+1):Nat):Rat):=by
 rcases Gg ((hi-lo)*((2^(Tz q q+1):Nat):Rat)) 1 with hw|hw
 ·exfalso;have hpow:(0:Rat)<=((2^(Tz q q+1):Nat):Rat):=Xi;obtain⟨m,m1,m2,m3,m4,m0⟩:=Qvg hS hl hv;obtain⟨R,hR,r1,r2⟩:=xZ lo hi;have hd:=Cu m0;obtain⟨d,dp,_,db⟩:=Hh (b:=AB R (cz q)) (d:=Fh (ev (cz q) m) / 2) (M3 hR _) (Ae hd (by decide));have hd2:Fh (ev (cz q) m) / 2*2=Fh (ev (cz q) m):=Hd (by decide);have hmR:Fh m<=R:=FY r1 r2 (Qt m1) (Qt m2);have hnear:∀r,Fh r<=R->Fh (ev (cz q) r)<Fh (ev (cz q) m) / 2->d<Fh (r-m):=λr hr hs=>by
   rcases Gg (Fh (r-m)) d with h|h
   ·exfalso;have h1:=Md (p:=cz q) hmR hr hR h db;have h2:=Ss (ev (cz q) m-ev (cz q) r) (ev (cz q) r);rw[show ev (cz q) m-ev (cz q) r+ev (cz q) r=ev (cz q) m by grind,oN]at h2;grind
   ·exact h
  refine Qhk (R:=R+1) (d:=d+d) tq tq nq nq lq lq (by grind) (by grind) λe ep=>?_
  obtain⟨e',ep',e1,e2⟩:=min2 (a:=e) (b:=Fh (ev (cz q) m) / 2) ep (Ae hd (by decide));obtain⟨x,x1,x2,x3⟩:=vL hS m1 (by omega) ep';obtain⟨y,y1,y2,y3⟩:=vL hS m2 (by omega) ep';have hxR:Fh x<=R:=FY r1 r2 x1 (by grind);have hyR:Fh y<=R:=FY r1 r2 (by grind) y2;have nx:=hnear x hxR (by grind);have ny:=hnear y hyR (by grind);have ex:Fh (x-m)=m-x:=by unfold Fh;split <;> grind
  have ey:Fh (y-m)=y-m:=by unfold Fh;split <;> grind
  rw[ex]at nx;rw[ey]at ny;have exy:Fh (x-y)=y-x:=by unfold Fh;split <;> grind
  refine⟨x,y,by grind,by grind,by rw[exy];grind,?_,by rw[<-U8];grind,by rw[<-U8];grind⟩;rw[exy];exact Zl (Ze (show y-x<=hi-lo by grind) hpow) hw
 ·exact hw
end Orq
