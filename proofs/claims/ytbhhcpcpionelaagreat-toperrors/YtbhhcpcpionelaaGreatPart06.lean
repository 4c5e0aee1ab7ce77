/- T10 T11 T12 T13 T14 T15 T16 T17 T18 T19 T20 T21 T22 T23 -/
import Derived.Test.YtbhhcpcpionelaaGreatPart05
import Derived.Test.YtbhhcpcpionelaaGreatPart00
set_option linter.all false
namespace Orq
def AO(A B:Um)(b J J' n k j:Nat):Int:=if n<b*J then PE (n / J) (n % J) (fA A) k j else PE ((n-b*J) / J') ((n-b*J) % J') (gc B) k j
theorem Qks{F:Nat->Nat->Int}{h:Nat}(hF:∀k j,(F k j).natAbs<=h)(i j' k j:Nat):(PE i j' F k j).natAbs<=h:=by
 unfold PE;split
 ·split
  ·exact hF _ _
  ·exact Qh _
 ·exact Qh _
theorem Qsa{i b J j:Nat}(hi:i<b)(hj:j<J):i*J+j<b*J:=by
 have:(i+1)*J<=b*J:=Q0 J hi;rw[Xa]at this;omega
theorem RH{i J j:Nat}(hj:j<J):(i*J+j) / J=i/\(i*J+j) % J=j:=by
 rw[Zq,W9 (by omega),Ua,V2 hj,Xu hj];exact⟨by omega,rfl⟩
theorem zN(A B:Um)(a b J J':Nat)(v:Nat->Int)(k j:Nat):sm (b*J+a*J') (λn=>AO A B b J J' n k j*v n) =
 (sm b λi=>sm J λj1=>PE i j1 (fA A) k j*v (i*J+j1))+sm a λi=>sm J' λj1=>PE i j1 (gc B) k j*v (b*J+(i*J'+j1)):=by
 rw[cD,cL,cL];congr 1
 ·refine Lr b λi hi=>Lr J λj1 hj=>?_
  unfold AO;rw[if_pos (Qsa hi hj),(RH hj).1,(RH hj).2]
 ·refine Lr a λi hi=>Lr J' λj1 hj=>?_
  unfold AO;rw[if_neg (by omega),Jl,(RH hj).1,(RH hj).2]
theorem Qxy(A:Um)(v:Nat->Int){i J k j:Nat}(hj:j<J):(sm J λj1=>PE i j1 (fA A) k j*v (i*J+j1))=if i<=k then A.getD (k-i) 0*v (i*J+j)else 0:=by
 rw[EM (k:=j) J hj λj1 _ hne=>?_]
 ·unfold PE fA;by_cases h:i<=k
  ·rw[if_pos h,if_pos h,if_pos (Ql _),if_pos (Ki _)]
  ·rw[if_neg h,if_neg h,Yy]
 ·unfold PE fA;by_cases h:i<=k
  ·rw[if_pos h];by_cases h':j1<=j
   ·rw[if_pos h',if_neg (by omega),Yy]
   ·rw[if_neg h',Yy]
  ·rw[if_neg h,Yy]
section
variable{A B:Um}{a b J J':Nat}(hA:A.length=a+1)(hB:B.length=b+1)(lA:A.getD a 0≠0)(lB:B.getD b 0≠0)(hJ:J=J'+b){v:Nat->Int}(hW:∀k j,k<a+b->j<J->sm (b*J+a*J') (λn=>AO A B b J J' n k j*v n)=0)
include hA lA hW in
theorem Qry{jj:Nat}(hj:jj<J)(hV:∀k,a<=k->k<a+b->(sm a λi=>sm J' λj1=>PE i j1 (gc B) k jj*v (b*J+(i*J'+j1)))=0):∀d i,i<b->b-i<=d->v (i*J+jj)=0:=by
 intro d
 induction d with
 |zero=>intro i hi hd;omega
 |
  succ d ih =>
  intro i hi hd;have h1:=hW (i+a) jj (by omega) hj;rw[zN,hV (i+a) (by omega) (by omega)]at h1;rw[Lr b (λi' hi'=>Qxy A v hj)]at h1;rw[EM (k:=i) b hi λi' hi' hne=>?_]at h1
  ·rw[if_pos (by omega),Jl,Int.add_zero]at h1;rcases Yf.1 h1 with h2|h2
   ·exact absurd h2 lA
   ·exact h2
  ·rcases Zb i i' with h|h
   ·rw[ih i' hi' (by omega)];simp
   ·rw[if_pos (by omega),Qi,Qw (by omega)];simp
include hA hB lA lB hJ hW in
theorem Qx3:∀d js,js<J'->J'-js<=d->∀i,i<a->v (b*J+(i*J'+js))=0:=by
 intro d
 induction d with
 |zero=>intro js hi hd;omega
 |
  succ d ih =>
  intro js hjs hd i hi;have hin:∀i' k,i'<a->(sm J' λj1=>PE i' j1 (gc B) k (js+b)*v (b*J+(i'*J'+j1)))=if i'=k then gc B 0 b*v (b*J+(i'*J'+js))else 0:=λi' k hi'=>by
   rw[EM (k:=js) J' hjs λj1 hj1 hne=>?_]
   ·unfold PE;by_cases h:i'<=k
    ·rw[if_pos h,if_pos (by omega),Jl];by_cases h':i'=k
     ·rw[if_pos h',h',Ki]
     ·rw[if_neg h',MN B _ _ (by omega),Yy]
    ·rw[if_neg h,if_neg (by omega),Yy]
   ·rcases Zb js j1 with h|h
    ·rw[ih j1 hj1 (by omega) i' hi',Wa]
    ·unfold PE;by_cases h':i'<=k
     ·rw[if_pos h',if_pos (by omega),MN B _ _ (by omega),Yy]
     ·rw[if_neg h',Yy]
  have hU:=Qry hA lA hW (jj:=js+b) (by omega) (λk hk hk'=>VZ a λi' hi'=>by rw[hin i' k hi',if_neg (by omega)]) (b+1);have h1:=hW i (js+b) (by omega) (by omega);rw[zN,Lr a (λi' hi'=>hin i' i hi')]at h1;rw[VZ b λi' hi'=>by
   rw[Qxy A v (by omega),hU i' hi' (by omega)];simp]at h1
  rw[EM (k:=i) a hi λi' hi' hne=>if_neg hne,if_pos rfl,Int.zero_add]at h1;rcases Yf.1 h1 with h2|h2
  ·have:=Qhx B b hB;rw[h2]at this;omega
  ·exact h2
include hA hB lA lB hJ hW in
theorem Qd8:∀n,n<b*J+a*J'->v n=0:=by
 intro n hn;have hV:=Qx3 hA hB lA lB hJ hW;rcases Zb n (b*J)with h|h
 ·have hJp:0<J:=by
   rcases Q3 J with e|e
   ·rw[e,Yz]at h;omega
   ·exact e
  have e1:=Z4 n hJp;have e2:n / J<b:=Ja (by rw[Zq];exact h);have:=Qry hA lA hW e1 (λk _ _=>VZ a λi hi=>VZ J' λj1 hj1=>by rw[hV J' j1 hj1 (by omega) i hi,Wa]) (b+1) (n / J) e2 (Qa (Nat.sub_le _ _) (Nat.le_succ _));rwa[Zq,Xe]at this
 ·have hJp:0<J':=by
   rcases Q3 J' with e|e
   ·rw[e,Yz]at hn;omega
   ·exact e
  have e1:=Z4 (n-b*J) hJp;have e2:(n-b*J) / J'<a:=Ja (by rw[Zq J' a];omega);have:=hV J' _ e1 (by omega) _ e2;rw[Zq ((n-b*J) / J'),Xe]at this;rwa[show b*J+(n-b*J)=n by omega]at this
end
theorem YA{R x:Rat}(h1:1<=R)(hx:Fj x<=R):∀k:Nat,Fj (x^k)<=R^k/\1<=R^k
 | 0=>by rw[Xg,Xg];exact⟨by decide,by decide⟩
 |
  k+1=>by
  obtain⟨i1,i2⟩:=YA h1 hx k;rw[Z7,Z7];have:=Cu (a:=1) (c:=1) (by decide) i2 (by decide) h1;exact⟨Hd i1 hx,by grind⟩
theorem oC{R:Rat}(h1:1<=R){i:Nat}:∀k,i<=k->R^i<=R^k
 | 0,h=>by rw[show i=0 by omega];exact Qp
 |
  k+1,h=>by
  rcases Vl h with e|e
  ·have:=oC h1 (i:=i) k (by omega);have h2:=(YA h1 (x:=0) (by rw[Rj];grind) k).2;rw[Z7];have:=Cu (a:=R^k) (b:=R^k) (c:=1) (d:=R) (by grind) Qp (by decide) h1;grind
  ·rw[e];exact Qp
theorem Qkr{F:Nat->Nat->Int}{i j' K J:Nat}{x y R X:Rat}{K2 J2:Nat}(h1:1<=R)(hx:Fj x<=R)(hy:Fj y<=R)(hK:K=i+K2)(hJ:J=j'+J2)(hF:E2 F K2 J2 x y=X):Fj (E2 (PE i j' F) K J x y)<=R^(K+J)*Fj X:=by
 subst hK;subst hJ;rw[CL,hF,Il];have a1:=(YA h1 hy i).1;have a2:=(YA h1 hx j').1;have a3:=Hd a1 a2;rw[<-GW]at a3;have a4:=oC h1 (i:=i+j') (i+K2+(j'+J2)) (by omega);exact Cu (Hw _) (Zl a3 a4) (Hw _) Qp
theorem Qv4{A B:Um}{a b h:Nat}(hA:A.length=a+1)(hB:B.length=b+1)(lA:A.getD a 0≠0)(lB:B.getD b 0≠0)(ha:0<a)(hb:0<b)(h0:1<=h)(bA:∀k,(A.getD k 0).natAbs<=h)(bB:gB B<=h){J J' N H:Nat}(hJ:J=2*(a*b))(hJ':J=J'+b)(hN:N=b*J+a*J')(hH:H=(2*(N*h))^(2*(a+b-1))) :
 ∃w:Nat->Int,(∃j,j<J/\w j≠0)/\(∀j,(w j).natAbs<=N*(h*H))/\∀R:Rat,1<=R->∃C:Rat,0<=C/\∀x y,Fj x<=R->Fj y<=R->Fj (sq J λj=>(w j:Rat)*x^j)<=C*(Fj (U9 A y)+Fj (U9 B (y-x))):=by
 have hab:0<a*b:=J5 ha hb;have hbd:∀n k j,(AO A B b J J' n k j).natAbs<=h:=λn k j=>by
  unfold AO
  split
  ·exact Qks (λk j=>by unfold fA;split;exact bA k;exact Nat.zero_le _) _ _ _ _
  ·exact Qks (λk j=>Qa (Qhw B k j) bB) _ _ _ _
 have hJp:0<J:=by omega
 have hNp:1<=N:=by
  have:0<b*J:=J5 hb hJp;omega
 have hNh:1<=N*h:=J5 hNp h0;obtain⟨E,hE⟩:=nmE ((a+b-1)*J);have hNE:N=E+a*b:=by
  have e1:(a+b-1)*J+J=(a+b)*J:=by
   rw[<-Xa];congr 1;omega
  have e2:a*J=a*J'+a*b:=by rw[hJ',Xj]
  rw[X5]at e1;omega
 have hc:(2*(N*(h*H))+1)^E<(H+1)^N:=by
  have c1:2*(N*(h*H))+1<=2*(N*h)*(H+1):=by
   rw[Xj,Yw,Xz 2,Xz N];omega
  refine Z3 (Nat.pow_le_pow_left c1 E) ?_;rw[Nat.mul_pow,hNE,Xf,Zq];refine Nat.mul_lt_mul_of_pos_left ?_ (Z2 (by omega));have e1:(2*(N*h))^E=H^(a*b):=by
   rw[hH,<-Ks,hE,hJ];congr 1;rw[Zq 2 (a+b-1),Xz]
  rw[<-hNE,e1];exact Nat.pow_lt_pow_left (by omega) (by omega)
 obtain⟨v,v1,⟨n0,n1,n2⟩,v3⟩:=Qv8 (M:=λe n=>AO A B b J J' n (e / J+1) (e % J)) (h:=h) (N:=N) (E:=E) (H:=H) (λe n=>hbd n _ _) hc;have hW:∀k j,1<=k->k<a+b->j<J->sm N (λn=>AO A B b J J' n k j*v n)=0:=λk j k1 k2 hj=>by
  have:=v3 ((k-1)*J+j) (by rw[hE];exact Qsa (by omega) hj);rwa[(RH hj).1,(RH hj).2,show k-1+1=k by omega]at this
 refine⟨λj=>sm N λn=>AO A B b J J' n 0 j*v n,?_,λj=>?_,λR hR=>?_⟩
 ·rcases Classical.em (∃j,j<J/\(sm N λn=>AO A B b J J' n 0 j*v n)≠0)with e|e
  ·exact e
  ·exfalso;refine n2 (Qd8 hA hB lA lB hJ' (v:=v) (λk j hk hj=>?_) n0 (by rw[<-hN];exact n1));rw[<-hN];rcases Q3 k with e'|e'
   ·subst e';rcases Classical.em ((sm N λn=>AO A B b J J' n 0 j*v n)=0)with e2|e2
    ·exact e2
    ·exact absurd ⟨j,hj,e2⟩ e
   ·exact hW k j e' hk hj
 ·refine Qky N λn _=>?_
  rw[J9];exact Zc (hbd n 0 j) (v1 n)
 ·have hRp:∀k:Nat,1<=R^k:=λk=>(YA hR (x:=0) (by rw[Rj];grind) k).2
  have hHn:(0:Rat)<=(H:Rat):=Xi;have hNn:(0:Rat)<=(N:Rat):=Xi;refine⟨(N:Rat)*((H:Rat)*R^(a+b+J)),Bl hNn (Bl hHn (by have:=hRp (a+b+J);grind)),λx y hx hy=>?_⟩;have e1:(sq J λj=>((sm N λn=>AO A B b J J' n 0 j*v n:Int):Rat)*x^j)=E2 (λk j=>sm N λn=>AO A B b J J' n k j*v n) (a+b) J x y:=by
   unfold E2;obtain⟨m,hm⟩:∃m,a+b=m+1:=⟨a+b-1,by omega⟩;rw[hm,O6,C6 (n:=m)]
   ·have:(sq J λj=>((sm N λn=>AO A B b J J' n 0 j*v n:Int):Rat)*(y^0*x^j))=sq J λj=>((sm N λn=>AO A B b J J' n 0 j*v n:Int):Rat)*x^j:=Pw J λj _=>by rw[Xg];grind
    rw[this];grind
   ·intro k hk;refine C6 J λj hj=>?_
    show((sm N λn=>AO A B b J J' n (k+1) j*v n:Int):Rat)*_=0;rw[hW (k+1) j (by omega) (by omega) hj,show((0:Int):Rat)=0 from rfl];grind
  rw[e1,Qha];have key:∀n,n<N->Fj ((v n:Rat)*E2 (AO A B b J J' n) (a+b) J x y)<=(H:Rat)*(R^(a+b+J)*(Fj (U9 A y)+Fj (U9 B (y-x)))):=λn hn=>by
   have hvn:Fj (v n:Rat)<=(H:Rat):=by
    have h1:=v1 n;have h2:(v n)<=(H:Int):=by omega
    have h3:-(H:Int)<=v n:=by omega
    have h2:=Jd.2 h2;have h3:=Jd.2 h3;rw[Vm]at h3;rw[Mj];exact⟨h3,h2⟩
   refine Hd hvn ?_;have hRk:=hRp (a+b+J);have n1:=Hw (U9 A y);have n2:=Hw (U9 B (y-x));rcases Zb n (b*J)with h|h
   ·have e:AO A B b J J' n=PE (n / J) (n % J) (fA A):=by funext k j;unfold AO;rw[if_pos h]
    have d1:n / J<b:=Ja (by rw[Zq];exact h);have d2:=Z4 n hJp;rw[e];refine Zl (Qkr (K2:=a+b-n / J) (J2:=J-n % J) hR hx hy (by omega) (by omega) (X:=U9 A y) ?_) (Cu (by grind) Qp n1 (by grind));obtain⟨m,hm⟩:∃m,J-n % J=m+1:=⟨J-n % J-1,by omega⟩;rw[hm];exact Qx5 A _ _ x y (by omega)
   ·have e:AO A B b J J' n=PE ((n-b*J) / J') ((n-b*J) % J') (gc B):=by funext k j;unfold AO;rw[if_neg (by omega)]
    have hJp':0<J':=by
     rcases Q3 J' with e|e
     ·rw[e,Yz]at hN;omega
     ·exact e
    have d1:(n-b*J) / J'<a:=Ja (by rw[Zq J' a];omega);have d2:=Z4 (n-b*J) hJp';rw[e];refine Zl (Qkr (K2:=a+b-(n-b*J) / J') (J2:=J-(n-b*J) % J') hR hx hy (by omega) (by omega) (X:=U9 B (y-x)) ?_) (Cu (by grind) Qp n2 (by grind));exact Quh x y B _ _ (by omega) (by omega)
  have:=Qso N key;refine Zl this ?_;have:(N:Rat)*((H:Rat)*(R^(a+b+J)*(Fj (U9 A y)+Fj (U9 B (y-x)))))=(N:Rat)*((H:Rat)*R^(a+b+J))*(Fj (U9 A y)+Fj (U9 B (y-x))):=by grind
  rw[this];exact Qp
end Orq
namespace Orq
theorem Qk2{w:Nat->Int}{x:Rat}{D:Rat}(hx:Fj x*2<=1)(hw:∀j,Fj (w j:Rat)<=D):∀J (k:Nat),Fj (sq J λj=>(w (k+j):Rat)*x^j)<=2*D
 | 0,k=>by have:=hw 0;have:=Hw (w 0:Rat);simp only[sq,Rj];clear hw;grind
 |
  J+1,k=>by
  have ih:=Qk2 hx hw J (k+1);rw[O6];have e:(sq J λi=>(w (k+(i+1)):Rat)*x^(i+1))=x*sq J λi=>(w (k+1+i):Rat)*x^i:=by
   rw[<-JC];exact Pw J λi _=>by rw[Z7,show k+(i+1)=k+1+i by omega];grind
  rw[e,Xg,Xm];have h1:=hw k;have h2:=Sr ((w k:Rat)*1) (x*sq J λi=>(w (k+1+i):Rat)*x^i);have h3:=Hd (x:=x) (y:=sq J λi=>(w (k+1+i):Rat)*x^i) Qp ih;have h4:=Ze hx (show(0:Rat)<=D by have:=Hw (w k:Rat);clear hw;grind);have h5:(w k:Rat)*1=w k:=by grind
  rw[h5]at h2 ⊢;clear hw;grind
theorem WJ{z:Int}(h:z≠0):1<=Fj (z:Rat):=by
 unfold Fj;rcases Ke h with h|h
 ·have:((z:Int):Rat)<((0:Int):Rat):=Jn.2 h;have h2:((1:Int):Rat)<=((-z:Int):Rat):=Jd.2 (by omega);rw[if_pos (by simpa using this)];rw[Vm]at h2;simpa using h2
 ·have:((0:Int):Rat)<((z:Int):Rat):=Jn.2 h;have h2:((1:Int):Rat)<=((z:Int):Rat):=Jd.2 (by omega);rw[if_neg (by
   have:(0:Rat)<z:=by simpa using this
   grind)]
  simpa using h2
theorem nD{w:Nat->Int}{x:Rat}{D:Rat}(hD:1<=D)(hx0:0<Fj x)(hx:Fj x*(4*D)<=1)(hw:∀j,Fj (w j:Rat)<=D):∀J (k:Nat),(∃j,j<J/\w (k+j)≠0)->Fj x^J / 2<=Fj (sq J λj=>(w (k+j):Rat)*x^j)
 | 0,k,⟨j,h,_⟩=>by omega
 |
  J+1,k,⟨j,h1,h2⟩=>by
  have hx2:Fj x*2<=1:=by
   have:=Cu (a:=Fj x) (c:=2) (Qt hx0) Qp (by decide) (show(2:Rat)<=4*D by clear hw;grind);exact Zl this hx
  have hx1:Fj x<=1:=by clear hw;grind
  have hp:∀k:Nat,Fj x^k<=1/\0<=Fj x^k:=λk=>by
   induction k with
   |zero=>rw[Xg];exact⟨by decide,by decide⟩
   |
    succ k ih =>
    rw[Z7];have:=Cu ih.2 ih.1 (Qt hx0) hx1;have:=Bl ih.2 (Qt hx0);constructor <;> (clear hw;grind)
  rw[O6];have e:(sq J λi=>(w (k+(i+1)):Rat)*x^(i+1))=x*sq J λi=>(w (k+1+i):Rat)*x^i:=by
   rw[<-JC];exact Pw J λi _=>by rw[Z7,show k+(i+1)=k+1+i by omega];grind
  rw[e,Xg,Xm k,show(w k:Rat)*1=w k by grind];by_cases h0:w k=0
  ·have hj:j≠0:=λe=>h2 (by rw[e];exact h0)
   have ih:=nD hD hx0 hx hw J (k+1) ⟨j-1,by omega,by rw[show k+1+(j-1)=k+j by omega];exact h2⟩;rw[h0,show((0:Int):Rat)+x*(sq J λi=>(w (k+1+i):Rat)*x^i)=x*sq J λi=>(w (k+1+i):Rat)*x^i by rw[show((0:Int):Rat)=0 from rfl];grind,Il,Z7];have:=Z1 ih (Qt hx0);have e2:Fj x*(Fj x^J / 2)=Fj x^J*Fj x / 2:=by rw[J6,J6];grind
   rw[e2]at this;exact this
  ·have a1:=WJ h0;have a2:=Qk2 hx2 hw J (k+1);have a3:=Hd (x:=x) (y:=sq J λi=>(w (k+1+i):Rat)*x^i) Qp a2;have a4:=Sr ((w k:Rat)+x*sq J λi=>(w (k+1+i):Rat)*x^i) (-(x*sq J λi=>(w (k+1+i):Rat)*x^i));rw[Eu,show(w k:Rat)+(x*sq J λi=>(w (k+1+i):Rat)*x^i)+-(x*sq J λi=>(w (k+1+i):Rat)*x^i)=w k by grind]at a4;have a5:=(hp (J+1)).1;have a6:Fj x^(J+1) / 2*2=Fj x^(J+1):=Hf (by decide);have a7:Fj x*(2*D)*2=Fj x*(4*D):=by grind
   clear hw hp;grind
theorem Qux{A B:Um}{a b h:Nat}(hA:A.length=a+1)(hB:B.length=b+1)(lA:A.getD a 0≠0)(lB:B.getD b 0≠0)(ha:0<a)(hb:0<b)(h0:1<=h)(bA:∀k,(A.getD k 0).natAbs<=h)(bB:gB B<=h){N D:Nat}(hN:b*(2*(a*b))+a*(2*(a*b)-b)=N)(hD:N*(h*(2*(N*h))^(2*(a+b-1)))<=D){R d:Rat}(hR:1<=R)(dp:0<d)
 (hs:∀e:Rat,0<e->∃q r,Fj q<=R/\Fj r<=R/\d<=Fj (q-r)/\Fj (q-r)*(4*(D:Rat))<=1/\Fj (U9 A q)<e/\Fj (U9 B r)<e):False:=by
 have hab:0<a*b:=J5 ha hb;have hbab:b<=a*b:=by
  have:=Q0 b (show 1<=a from ha);omega
 obtain⟨w,⟨j,hj,hw0⟩,hw,hC⟩:=Qv4 hA hB lA lB ha hb h0 bA bB (J:=2*(a*b)) (J':=2*(a*b)-b) rfl (by omega) hN.symm rfl;obtain⟨C,hC0,hC⟩:=hC (2*R) (by grind);have hw':∀j,Fj (w j:Rat)<=(D:Rat):=λj=>by
  have h1:=Qa (hw j) hD;have h2:w j<=(D:Int):=by omega
  have h3:-(D:Int)<=w j:=by omega
  have h2:=Jd.2 h2;have h3:=Jd.2 h3;rw[Vm]at h3;rw[Mj];exact⟨h3,h2⟩
 have hD1:(1:Rat)<=(D:Rat):=by
  have:=WJ hw0;exact Zl this (hw' j)
 have hdJ:0<d^(2*(a*b)) / 2:=Ai (Rat.pow_pos dp) (by decide);obtain⟨e,ep,_,he⟩:=Hi (b:=C*2) (d:=d^(2*(a*b)) / 2) (by grind) hdJ;obtain⟨q,r,q1,r1,d1,d2,aq,br⟩:=hs e ep;have h1:=hC (q-r) q (by
  have:=Sr q (-r);rw[Eu]at this;have:q-r=q+-r:=by grind
  grind) (by grind)
 rw[show q-(q-r)=r by grind]at h1;have h2:=nD (x:=q-r) hD1 (by grind) d2 hw' (2*(a*b)) 0 ⟨j,hj,by rw[Zz];exact hw0⟩;simp only[Zz]at h2;have h3:C*(Fj (U9 A q)+Fj (U9 B r))<=C*(e+e):=Z1 (by grind) hC0;have h4:d^(2*(a*b))<=Fj (q-r)^(2*(a*b)):=by
  generalize 2*(a*b)=J
  induction J with
  |zero=>rw[Xg,Xg];exact Qp
  |
   succ J ih =>
   rw[Z7,Z7];exact Cu (Qt (Rat.pow_pos dp)) ih (Qt dp) d1
 have h5:d^(2*(a*b)) / 2*2=d^(2*(a*b)):=Hf (by decide);have h6:Fj (q-r)^(2*(a*b)) / 2*2=Fj (q-r)^(2*(a*b)):=Hf (by decide);clear hC hs hw hw';grind
def HD(p:Up)(n:Nat):Prop:=p.getD n 0≠0/\∀k,n<k->p.getD k 0=0
theorem Rl:∀(p q:Up) (k:Nat),(Ss p q).getD k 0=p.getD k 0+q.getD k 0
 | [],q,k=>by simp only[Ss,Kt];grind
 |a::p,[],k=>by simp only[Ss,Kt];grind
 |a::p,b::q,0=>by simp only[Ss,Zt]
 |a::p,b::q,k+1=>by simp only[Ss,Q4];exact Rl p q k
theorem Sl(c:Rat):∀(p:Up) (k:Nat),(D6 c p).getD k 0=c*p.getD k 0
 | [],k=>by simp only[D6,X8,Kt];grind
 |a::p,0=>by simp[D6]
 |a::p,k+1=>by have:=Sl c p k;simp only[D6,Z0,Q4]at *;exact this
theorem Qh5{p:Up}{k:Nat}(h:∀x∈p,x=0):p.getD k 0=0:=by
 rw[Qi];cases e:p[k]? with
 |none=>rfl
 |some x=>exact h x (Qc e)
theorem Dz{p q:Up}(h:∀t,ev p t=ev q t)(k:Nat):p.getD k 0=q.getD k 0:=by
 have h1:=Qh5 (k:=k) (WE (p:=Ss p (D6 (-1) q)) λt _ _=>by rw[Gz,Gt,h t];grind);rw[Rl,Sl]at h1;grind
theorem Lb:∀{p:Up},(∀k,p.getD k 0=0)->∀t,ev p t=0
 | [],_,t=>rfl
 |
  a::p,h,t=>by
  have h0:=h 0;have h1:=Lb (p:=p) (λk=>by have:=h (k+1);rwa[Q4]at this) t;rw[Zt]at h0;simp only[ev,h0,h1];grind
theorem DD:∀(p:Up),(∀t,ev p t=0)\/∃n,n<p.length/\HD p n
 | []=>.inl λ_=>rfl
 |
  a::p=>by
  rcases DD p with h|⟨n,hn,h1,h2⟩
  ·rcases Classical.em (a=0)with e|e
   ·exact .inl λt=>by simp only[ev,e,h t];grind
   ·refine .inr ⟨0,by simp,by simpa using e,λk hk=>?_⟩;obtain⟨m,rfl⟩:∃m,k=m+1:=⟨k-1,by omega⟩;rw[Q4];exact(Dz (p:=p) (q:=[]) h m).trans (by simp)
  ·refine .inr ⟨n+1,by simp;omega,by rw[Q4];exact h1,λk hk=>?_⟩;obtain⟨m,rfl⟩:∃m,k=m+1:=⟨k-1,by omega⟩;rw[Q4];exact h2 m (by omega)
theorem Qr7{p q:Up}{n:Nat}(h:∀t,ev p t=ev q t)(hp:HD p n):HD q n :=
 ⟨by rw[<-Dz h];exact hp.1,λk hk=>by rw[<-Dz h];exact hp.2 k hk⟩
theorem Qr8{p:Up}{n m:Nat}(h:HD p n)(h':HD p m):n=m:=by
 rcases Kn n m with e|e|e
 ·exact absurd (h.2 m e) h'.1
 ·exact e
 ·exact absurd (h'.2 n e) h.1
theorem aR{p:Up}{n:Nat}(h:HD p n):¬∀t,ev p t=0:=λh0=>h.1 ((Dz (p:=p) (q:=[]) h0 n).trans (by simp))
theorem SS{p q:Up}(h:∀k,p.getD k 0=0)(k:Nat):(G7 p q).getD k 0=0:=by
 have:=Dz (p:=G7 p q) (q:=[]) (λt=>by rw[Fh,Lb h t];simp only[ev];grind) k;rw[this];simp
theorem DL:∀{p q:Up} {m n:Nat},HD p m->HD q n->HD (G7 p q) (m+n)
 | [],q,m,n,h,_=>absurd (by simp) h.1
 |
  a::p,q,0,n,h,h'=>by
  have h1:∀k,p.getD k 0=0:=λk=>by have:=h.2 (k+1) (by omega);rwa[Q4]at this
  have h2:∀k,(G7 (a::p) q).getD k 0=a*q.getD k 0:=λk=>by
   simp only[G7];rw[Rl,Sl];cases k with
   |zero=>rw[Zt];grind
   |succ k=>rw[Q4,SS h1];grind
  have h3:=h.1;rw[Zt]at h3;refine⟨?_,λk hk=>?_⟩
  ·rw[h2,Zz];exact λh=>(Y3.1 h).elim h3 h'.1
  ·rw[h2,h'.2 k (by omega)];grind
 |
  a::p,q,m+1,n,h,h'=>by
  have ih:=DL (p:=p) (q:=q) (m:=m) ⟨by have:=h.1;rwa[Q4]at this,λk hk=>by have:=h.2 (k+1) (by omega);rwa[Q4]at this⟩ h';refine⟨?_,λk hk=>?_⟩
  ·simp only[G7];rw[Rl,Sl,show m+1+n=(m+n)+1 by omega,Q4,h'.2 _ (by omega)];have:=ih.1;grind
  ·obtain⟨j,rfl⟩:∃j,k=j+1:=⟨k-1,by omega⟩;simp only[G7];rw[Rl,Sl,Q4,h'.2 _ (by omega),ih.2 j (by omega)];grind
def ZC(g f:Up):Prop:=∃u,∀t,ev f t=ev g t*ev u t
theorem dvd_refl(f:Up):ZC f f:=⟨[1],λt=>by rw[Tf];grind⟩
theorem dvd_trans{f g h:Up}:ZC f g->ZC g h->ZC f h
 |⟨u,hu⟩,⟨v,hv⟩=>⟨G7 u v,λt=>by rw[hv,hu,Fh];grind⟩
theorem gJ{p q:Up}(h:∀t,ev p t*ev q t=0)(hp:¬∀t,ev p t=0):∀t,ev q t=0:=by
 rcases DD p with h1|⟨m,_,h1⟩
 ·exact absurd h1 hp
 ·rcases DD q with h2|⟨n,_,h2⟩
  ·exact h2
  ·exact absurd (λt=>by rw[Fh];exact h t) (aR (DL h1 h2))
theorem mF{p q r:Up}(hp:¬∀t,ev p t=0)(h:∀t,ev p t*ev q t=ev p t*ev r t)(t:Rat):ev q t=ev r t:=by
 have:=gJ (p:=p) (q:=Ss q (D6 (-1) r)) (λt=>by rw[Gz,Gt];have:=h t;grind) hp t;rw[Gz,Gt]at this;grind
theorem Qg3{b:Up}{n:Nat}(hb:HD b n):∀(l:Nat) (a:Up),(∀k,l<=k->a.getD k 0=0)->∃q r,(∀t,ev a t=ev q t*ev b t+ev r t)/\∀k,n<=k->r.getD k 0=0
 | 0,a,ha=>⟨[],a,λt=>by simp only[ev];grind,λk _=>ha k (Qh _)⟩
 |
  l+1,a,ha=>by
  rcases Zb l n with h|h
  ·exact⟨[],a,λt=>by simp only[ev];grind,λk hk=>ha k (by omega)⟩
  ·-- the leading term is taken away
   obtain⟨c,hc⟩:=nmE (a.getD l 0 / b.getD n 0);have hcb:c*b.getD n 0=a.getD l 0:=by rw[hc];exact Zj hb.1
   obtain⟨m,hm⟩:∃m:Up,m=List.replicate (l-n) 0++[c]:=⟨_,rfl⟩;have hsh:∀(i:Nat) (k:Nat),(G7 (List.replicate i 0++[c]) b).getD k 0=if i<=k then c*b.getD (k-i) 0 else 0:=λi=>by
    induction i with
    |zero=>intro k;simp only[Wj,Yj,G7];rw[Rl,Sl];cases k <;> simp <;> grind
    |
     succ i ih =>
     intro k;simp only[J4,Xb,G7];rw[Rl,Sl];cases k with
     |zero=>rw[Zt,if_neg (by omega)];grind
     |
      succ k =>
      rw[Q4,ih k];by_cases h:i<=k
      ·rw[if_pos h,if_pos (by omega),Nat.add_sub_add_right];grind
      ·rw[if_neg h,if_neg (by omega)];grind
   obtain⟨q,r,h1,h2⟩:=Qg3 hb l (Ss a (D6 (-1) (G7 m b))) λk hk=>by
    rw[Rl,Sl,hm,hsh,if_pos (by omega)];rcases Vl hk with e|e
    ·rw[ha k (by omega),hb.2 _ (by omega)];grind
    ·subst e;rw[show l-(l-n)=n by omega,hcb];grind
   refine⟨Ss q m,r,λt=>?_,h2⟩;have:=h1 t;rw[Gz,Gt,Fh]at this;rw[Gz];grind
theorem nY:∀(n:Nat) (a b:Up),(∀k,n<=k->b.getD k 0=0)->∃g U V,ZC g a/\ZC g b/\∀t,ev g t=ev U t*ev a t+ev V t*ev b t
 |
  0,a,b,h=>by
  have h0:=Lb λk=>h k (Qh _)
  exact⟨a,[1],[],dvd_refl a,⟨[],λt=>by rw[h0];simp only[ev];grind⟩,λt=>by rw[Tf];simp only[ev];grind⟩
 |
  n+1,a,b,h=>by
  rcases Classical.em (b.getD n 0=0)with e|e
  ·exact nY n a b λk hk=>by
    rcases Vl hk with e'|e'
    ·exact h k (by omega)
    ·rw[<-e'];exact e
  ·obtain⟨q,r,h1,h2⟩:=Qg3 (b:=b) (n:=n) ⟨e,λk hk=>h k (by omega)⟩ a.length a λk hk=>by rw[Qi,Qw hk];rfl
   obtain⟨g,U,V,⟨u,hu⟩,⟨v,hv⟩,hg⟩:=nY n b r h2;refine⟨g,V,Ss U (D6 (-1) (G7 V q)),⟨Ss (G7 q u) v,λt=>?_⟩,⟨u,hu⟩,λt=>?_⟩
   ·rw[h1,hv,Gz,Fh,hu];grind
   ·rw[hg,Gz,Gt,Fh,h1];grind
theorem Qh0(a b:Up):∃g U V,ZC g a/\ZC g b/\∀t,ev g t=ev U t*ev a t+ev V t*ev b t :=
 nY b.length a b λk hk=>by rw[Qi,Qw hk];rfl
def Cop(a b:Up):Prop:=∃U V,∀t,ev U t*ev a t+ev V t*ev b t=1
theorem jZ{c d e:Up}(h:Cop c d)(h1:∃u,∀t,ev d t*ev e t=ev c t*ev u t):ZC c e:=by
 obtain⟨U,V,h⟩:=h;obtain⟨u,hu⟩:=h1;refine⟨Ss (G7 U e) (G7 V u),λt=>?_⟩;rw[Gz,Fh,Fh];have a1:=h t;have a2:=hu t;have:ev e t=(ev U t*ev c t+ev V t*ev d t)*ev e t:=by rw[a1];grind
 rw[this];have:(ev U t*ev c t+ev V t*ev d t)*ev e t=ev U t*ev c t*ev e t+ev V t*(ev d t*ev e t):=by grind
 rw[this,a2];grind
def EG(d:Up):Nat->Up
 | 0=>[1]
 |k+1=>G7 d (EG d k)
theorem cJ(d:Up)(t:Rat):∀k:Nat,ev d t*dv (EG d k) t=(k:Rat)*(dv d t*ev (EG d k) t)
 | 0=>by simp only[EG,dv,ev];rw[show((0:Nat):Rat)=0 from rfl];grind
 |
  k+1=>by
  have ih:=cJ d t k;have hn':(((k+1:Nat):Rat))=(k:Rat)+1:=by push_cast;rfl
  simp only[EG];rw[jW,Fh,hn'];grind
theorem Qj3{d:Up}{m:Nat}(h:HD d m):∀k,HD (EG d k) (k*m)
 | 0=>by rw[Yl];exact⟨by simp[EG],λk hk=>by simp only[EG];rw[Qi,Qw (by simp;omega)];rfl⟩
 |k+1=>by rw[Xa,Ju (k*m) m];exact DL h (Qj3 h k)
theorem qD{d g:Up}{m n:Nat}(hd:HD d m)(hg:HD g n)(h:∀k,ZC (EG d k) g):m=0:=by
 obtain⟨u,hu⟩:=h (n+1);rcases DD u with h1|⟨j,_,h1⟩
 ·exact absurd (λt=>by rw[hu,h1];grind) (aR hg)
 ·have:=Qr8 (Qr7 (λt=>by rw[hu,Fh]) hg) (DL (Qj3 hd (n+1)) h1);rcases Q3 m with e|e
  ·exact e
  ·have:(n+1)*1<=(n+1)*m:=Zu _ e;omega
theorem sqf{a g q d U V:Up}{k:Rat}(hk:k≠0)(ha:∀t,ev a t=ev g t*ev q t)(hg:∀t,k*ev g t=ev U t*ev a t+ev V t*dv a t)(h1:ZC d q)(h2:ZC d (Bp q)):∀n,ZC (EG d n) g
 | 0=>⟨g,λt=>by simp only[EG];rw[Tf];grind⟩
 |
  n+1=>by
  obtain⟨g1,e1⟩:=sqf hk ha hg h1 h2 n;obtain⟨q1,e2⟩:=h1;obtain⟨q2,e3⟩:=h2;have d1:=λt=>QT ha t
  have d2:=λt=>QT e1 t
  have d3:=λt=>QT e2 t
  have d4:=cJ d;refine⟨D6 (1 / k) (Ss (G7 U (G7 g1 q1)) (G7 V (Ss (G7 g1 q2) (Ss (D6 n (G7 g1 (Ss q2 (D6 (-1) (Bp q1))))) (G7 (Bp g1) q1))))),λt=>?_⟩;have hkk:1 / k*k=1:=Zj hk;simp only[EG,Gt,Gz,Fh,Ts];have b1:=ha t;have b2:=hg t;have b3:=e1 t;have b4:=e2 t;have b5:=e3 t;have b6:=d1 t;have b7:=d2 t;have b8:=d3 t;have b9:=d4 t n;rw[Ts]at b5;generalize ev d t=x0 at *;generalize ev (EG d n) t=x1 at *;generalize ev g t=x2 at *;generalize ev q t=x3 at *;generalize ev a t=x4 at *;generalize dv a t=x5 at *;generalize dv g t=x6 at *;generalize dv q t=x7 at *;generalize ev g1 t=x8 at *;generalize dv g1 t=x9 at *;generalize ev q1 t=y0 at *;generalize dv q1 t=y1 at *;generalize ev q2 t=y2 at *;generalize dv d t=y3 at *;generalize dv (EG d n) t=y4 at *;generalize ev U t=y5 at *;generalize ev V t=y6 at *;generalize (n:Rat)=y7 at *;have:x2=1 / k*(k*x2):=by grind
  rw[this,b2];have c1:x5=x0*x1*(x8*y2+(y7*(x8*(y2+-1*y1))+x9*y0)):=by
   rw[b6,b7,b4,b3];have:y3*y0=x0*y2-x0*y1:=by grind
   have:x0*y4*(x8*y0)=y7*(x1*x8*(x0*y2-x0*y1)):=by rw[b9,<-this];grind
   grind
  have c2:x4=x0*x1*(x8*y0):=by rw[b1,b3,b4];grind
  rw[c1,c2];grind
theorem Qn9{a b c:Up}(h1:Cop a b)(h2:Cop a c){d:Up}(hd:∀t,ev d t=ev b t*ev c t):Cop a d:=by
 obtain⟨U,V,h1⟩:=h1;obtain⟨X,Y,h2⟩:=h2;refine⟨Ss U (G7 (G7 V b) X),G7 V Y,λt=>?_⟩;have a1:=h1 t;have a2:=h2 t;simp only[Gz,Fh,hd];have:ev V t*ev b t*(ev X t*ev a t+ev Y t*ev c t)=ev V t*ev b t:=by rw[a2];grind
 grind
theorem Qqo{a g q z r X Y:Up}{n:Nat}(ha:∀t,ev a t=ev g t*ev q t)(hz:∀t,dv a t=ev g t*ev z t)(hg:HD g n)(hr:∀t,ev X t*ev r t+ev Y t*dv r t=1)(h:ZC r a):ZC r q:=by
 obtain⟨b,hb⟩:=h;obtain⟨e,U,V,⟨r1,e1⟩,⟨q3,e2⟩,e3⟩:=Qh0 r q;have hr0:¬∀t,ev r t=0:=λh=>by
  have h1:=hr 0;have h2:dv r 0=0:=by have:=Qg8 (p:=r) (q:=[]) h 0;rw[this];rfl
  rw[h,h2]at h1;grind
 have he0:¬∀t,ev e t=0:=λh=>hr0 λt=>by rw[e1,h];grind
 have d1:=λt=>QT e1 t
 have c1:Cop r1 q3:=⟨U,V,λt=>by
  have:=mF (p:=e) (q:=Ss (G7 U r1) (G7 V q3)) (r:=[1]) he0 (λt=>by
   rw[Gz,Fh,Fh,Tf];have a1:=e1 t;have a2:=e2 t;have a3:=e3 t;rw[a1,a2]at a3;grind) t
  rw[Gz,Fh,Fh,Tf]at this;exact this⟩
 have c2:Cop r1 e:=⟨Ss (G7 X e) (G7 Y (Bp e)),G7 Y (Bp r1),λt=>by
  have a1:=hr t;have a2:=e1 t;have a3:=d1 t;simp only[Gz,Fh,Ts];rw[a2,a3]at a1;grind⟩
 have c3:Cop r1 (Bp r1):=⟨Ss (G7 X e) (G7 Y (Bp e)),G7 Y e,λt=>by
  have a1:=hr t;have a2:=e1 t;have a3:=d1 t;simp only[Gz,Fh,Ts];rw[a2,a3]at a1;grind⟩
 have c4:Cop r1 q:=Qn9 c2 c1 e2;have hgz:=aR hg;have hp:∀k,ZC (EG r1 k) g:=λk=>by
  induction k with
  |zero=>exact⟨g,λt=>by simp only[EG];rw[Tf];grind⟩
  |
   succ k ih =>
   obtain⟨h,eh⟩:=ih;have hpz:¬∀t,ev (EG r1 k) t=0:=λh0=>hgz λt=>by rw[eh,h0];grind
   have key:ZC r1 h:=by
    cases k with
    |
     zero =>
     refine jZ c4 ⟨G7 e b,λt=>?_⟩;have a1:=ha t;have a2:=hb t;have a3:=e1 t;have a4:=eh t;simp only[EG]at a4;rw[Tf]at a4;rw[Fh];grind
    |
     succ k =>
     have hn:((k+1:Nat):Rat)≠0:=by
      have:(0:Rat)<((k+1:Nat):Rat):=by
       have h1:((0:Nat):Rat)<((k+1:Nat):Rat):=Vo.2 (by omega);simpa using h1
      grind
     have d2:=λt=>QT (f:=a) (w:=EG r1 (k+1)) (u:=G7 h q) (λt=>by rw[ha,eh,Fh];grind) t
     have d4:=cJ r1;have h3:=mF (p:=EG r1 (k+1)) (q:=G7 (Bp r1) (G7 h q)) (r:=G7 r1 (D6 (1 / ((k+1:Nat):Rat)) (Ss (G7 h z) (D6 (-1) (Bp (G7 h q)))))) hpz λt=>by
      simp only[Fh,Gt,Gz,Ts];have a1:=d2 t;have a2:=d4 t (k+1);have a3:=hz t;have a4:=eh t;rw[Fh]at a1;generalize ((k+1:Nat):Rat)=c at *;have hc:1 / c*c=1:=Zj hn;generalize ev (EG r1 (k+1)) t=x0 at *;generalize dv (EG r1 (k+1)) t=x1 at *;generalize dv (G7 h q) t=x2 at *;generalize ev r1 t=x3 at *;generalize dv r1 t=x4 at *;generalize ev h t=x5 at *;generalize ev q t=x6 at *;generalize ev z t=x7 at *;generalize dv a t=x8 at *;generalize ev g t=x9 at *;generalize 1 / c=c' at *;have s1:x0*(x4*(x5*x6))=c'*(c*(x4*x0))*(x5*x6):=by
       have:c'*(c*(x4*x0))=(c'*c)*(x4*x0):=by grind
       rw[this,hc];grind
      rw[s1,<-a2];have s2:x3*(x1*(x5*x6))=x3*(x0*(x5*x7+-1*x2)):=by
       rw[a3,a4]at a1;grind
      grind
     refine jZ c4 ?_;obtain⟨u,hu⟩:=jZ (e:=G7 q h) c3 ⟨D6 (1 / ((k+1:Nat):Rat)) (Ss (G7 h z) (D6 (-1) (Bp (G7 h q)))),λt=>by
      have:=h3 t;simp only[Fh]at this ⊢;rw[<-this];grind⟩
     exact⟨u,λt=>by rw[<-hu,Fh]⟩
   obtain⟨u,hu⟩:=key;exact⟨u,λt=>by simp only[EG];rw[Fh,eh,hu];grind⟩
 rcases DD r1 with h1|⟨m,_,h1⟩
 ·exact absurd (λt=>by rw[e1,h1];grind) hr0
 ·obtain rfl:=qD h1 hg hp;have h2:∀t,ev r1 t=r1.getD 0 0:=λt=>by
   cases r1 with
   |nil=>simp[ev]
   |
    cons c l =>
    have:∀t,ev l t=0:=Lb λk=>by have:=h1.2 (k+1) (by omega);rwa[Q4]at this
    simp only[ev,this,Zt];grind
  have h3:=h1.1;refine⟨D6 (1 / r1.getD 0 0) q3,λt=>?_⟩;rw[e2,e1,h2,Gt];have:1 / r1.getD 0 0*r1.getD 0 0=1:=Zj h3;have:ev e t*r1.getD 0 0*(1 / r1.getD 0 0*ev q3 t)=ev e t*ev q3 t*(1 / r1.getD 0 0*r1.getD 0 0):=by grind
  rw[this,Zj h3];grind
def On:Uq->Up
 | []=>[1]
 |w::l=>G7 w (On l)
def Lay:Uq->Uq->Prop
 | [],[]=>True
 | [w],[f]=>∀t,ev w t=ev f t
 |w::v::l,f::fs=>(∀t,ev w t=ev f t*ev v t)/\Lay (v::l) fs
 |_,_=>False
def PC:Uq->Up
 | []=>[1]
 | [f]=>f
 |f::_::l=>G7 f (PC l)
theorem aA:∀{ws fs:Uq},Lay ws fs->∃S,∀t,ev (On ws) t=ev (PC fs) t*(ev S t*ev S t)
 | [],[],_=>⟨[1],λt=>by simp only[On,PC];rw[Tf];grind⟩
 | [w],[f],h=>⟨[1],λt=>by simp only[On,PC];rw[Fh,Tf,h t];grind⟩
 |
  [w,v],[f,f2],h=>⟨v,λt=>by
  have h1:=h.1 t;have h2:ev v t=ev f2 t:=h.2 t;simp only[On,PC,Fh];rw[Tf,h1];grind⟩
 |
  w::v::x::l,f::f2::fs,h=>by
  obtain⟨S,hS⟩:=aA h.2.2;refine⟨G7 v S,λt=>?_⟩;have h1:=h.1 t;have h2:=hS t;have e1:ev (On (w::v::x::l)) t=ev w t*(ev v t*ev (On (x::l)) t):=by simp only[On,Fh]
  rw[e1,h2,h1];have e2:ev (PC (f::f2::fs)) t=ev f t*ev (PC fs) t:=by
   cases fs with
   |nil=>cases l <;> exact False.elim h.2.2
   |cons y l=>simp only[PC,Fh]
  rw[e2,Fh];grind
 | [w],[],h=>h.elim
 | [w],_::_::_,h=>h.elim
 | [],_::_,h=>h.elim
 | [w,v],[f],h=>h.2.elim
 | [w,v],_::_::_::_,h=>h.2.elim
 |w::v::x::l,[f],h=>h.2.elim
 |w::v::l,[],h=>h.elim
end Orq
namespace Orq
open Orr Go
theorem bG(p:Um)(t:Rat):U9 p t=((p.getD 0 0:Int):Rat)+t*U9 p.tail t:=by
 cases p with
 |nil=>show(0:Rat)=((0:Int):Rat)+t*0;grind
 |cons a p=>rfl
theorem RF(p:Um)(k:Nat):p.tail.getD k 0=p.getD (k+1) 0:=by
 cases p <;> simp
theorem Cv(c d:Int)(t:Rat):∀(n:Nat) (p q r:Um),p.length<=n->q.length<=n->r.length<=n->(∀k,r.getD k 0=c*p.getD k 0+d*q.getD k 0)->U9 r t=(c:Rat)*U9 p t+(d:Rat)*U9 q t
 |
  0,p,q,r,hp,hq,hr,_=>by
  rw[Qj (Nat.le_zero.1 hp),Qj (Nat.le_zero.1 hq),Qj (Nat.le_zero.1 hr)];show(0:Rat)=_*0+_*0;grind
 |
  n+1,p,q,r,hp,hq,hr,h=>by
  have ih:=Cv c d t n p.tail q.tail r.tail (by rw[Wz];omega) (by rw[Wz];omega) (by rw[Wz];omega) λk=>by
   rw[RF,RF,RF];exact h (k+1)
  rw[bG p,bG q,bG r,ih,h 0]
  push_cast
  grind
theorem oQ{p q:Um}(h:∀k,p.getD k 0=q.getD k 0)(t:Rat):U9 p t=U9 q t:=by
 have:=Cv 1 0 t (max p.length q.length) q q p (W3 ..) (W3 ..) (Nat.le_max_left ..) λk=>by rw[h k];omega
 rw[this]
 push_cast
 grind
theorem Ot(p:Um)(t:Rat):U9 (trim p) t=U9 p t:=oQ (VV p) t
theorem Bh{p:Um}{k:Nat}(h:p.length<=k):p.getD k 0=0:=by
 rw[Qi,Qw h];rfl
theorem qS(p q:Um)(k:Nat):(A5 p q).getD k 0=p.getD k 0+q.getD k 0:=by
 unfold A5;rw[Pd]
 split
 ·rfl
 ·rename_i h;rw[Bh (p:=p) (by omega),Bh (p:=q) (by omega)];rfl
theorem O2(p q:Um)(k:Nat):(Na p q).getD k 0=p.getD k 0-q.getD k 0:=by
 unfold Na;rw[Pd]
 split
 ·rfl
 ·rename_i h;rw[Bh (p:=p) (by omega),Bh (p:=q) (by omega)];rfl
theorem Mh(p:Um)(c:Int)(k:Nat):(Fw p c).getD k 0=p.getD k 0*c:=by
 unfold Fw;rw[Pd]
 split
 ·rfl
 ·rename_i h;rw[Bh (p:=p) (by omega),Int.zero_mul]
theorem Qc6(p:Um)(k:Nat):(Mv p).getD k 0=-(p.getD k 0):=by
 unfold Mv;rw[Pd]
 split
 ·rfl
 ·rename_i h;rw[Bh (p:=p) (by omega)];rfl
theorem Bz(p:Um)(k:Nat):(Gw p).getD k 0=p.getD (k+1) 0*((k+1:Nat):Int):=by
 unfold Gw;rw[Pd]
 split
 ·rfl
 ·rename_i h;rw[Bh (p:=p) (by omega),Int.zero_mul]
theorem LA(p q:Um)(t:Rat):U9 (A5 p q) t=U9 p t+U9 q t:=by
 have:=Cv 1 1 t (max (max p.length q.length) (A5 p q).length) p q (A5 p q) (by omega) (by omega) (by omega) λk=>by rw[qS];omega
 rw[this];push_cast;grind
theorem Nn(p q:Um)(t:Rat):U9 (Na p q) t=U9 p t-U9 q t:=by
 have:=Cv 1 (-1) t (max (max p.length q.length) (Na p q).length) p q (Na p q) (by omega) (by omega) (by omega) λk=>by rw[O2];omega
 rw[this];push_cast;grind
theorem FI(p:Um)(t:Rat):U9 (Mv p) t=-U9 p t:=by
 have:=Cv (-1) 0 t (max p.length (Mv p).length) p p (Mv p) (by omega) (by omega) (by omega) λk=>by rw[Qc6];omega
 rw[this];push_cast;grind
theorem Ro(p:Um)(c:Int)(t:Rat):U9 (Fw p c) t=U9 p t*(c:Rat):=by
 have:=Cv c 0 t (max p.length (Fw p c).length) p p (Fw p c) (by omega) (by omega) (by omega) λk=>by rw[Mh,K8];omega
 rw[this];push_cast;grind
theorem yC:∀(l:Um) (j:Nat) (v:Int) (t:Rat),j<l.length->U9 (l.set j v) t=U9 l t+((v:Rat)-((l.getD j 0:Int):Rat))*t^j
 | [],_,_,_,h=>by simp at h
 |
  a::l,0,v,t,_=>by
  show(v:Rat)+t*U9 l t=(a:Rat)+t*U9 l t+((v:Rat)-(a:Rat))*t^0;rw[Xg];grind
 |
  a::l,j+1,v,t,h=>by
  have ih:=yC l j v t (by simpa using h);show(a:Rat)+t*U9 (l.set j v) t=(a:Rat)+t*U9 l t+((v:Rat)-((l.getD j 0:Int):Rat))*t^(j+1);rw[ih,Z7];grind
theorem LI:∀(l:Um) (k:Nat) (t:Rat),k<l.length->U9 (l.take (k+1)) t=U9 (l.take k) t+((l.getD k 0:Int):Rat)*t^k
 | [],_,_,h=>by simp at h
 |
  a::l,0,t,_=>by
  show(a:Rat)+t*U9 (l.take 0) t=0+(a:Rat)*t^0;rw[Xg,Vu];show(a:Rat)+t*0=_;grind
 |
  a::l,k+1,t,h=>by
  have ih:=LI l k t (by simpa using h);show(a:Rat)+t*U9 (l.take (k+1)) t=(a:Rat)+t*U9 (l.take k) t+((l.getD k 0:Int):Rat)*t^(k+1);rw[ih,Z7];grind
theorem qN(n:Nat)(t:Rat):U9 (List.replicate n 0) t=0:=by
 induction n with
 |zero=>rfl
 |
  succ n ih =>
  show((0:Int):Rat)+t*U9 (List.replicate n 0) t=0;rw[ih];push_cast;grind
theorem tV(t:Rat)(i:Nat):∀k,t^(i+k)=t^i*t^k
 | 0=>by rw[Xm,Xg];grind
 |k+1=>by rw[<-Yp,Z7,Z7,tV t i k];grind
theorem rK(x:Int)(b:Um)(i:Nat)(o:Um)(t:Rat):∀k,k<=b.length->i+k<=o.length->U9 (Oj x b i o k) t=U9 o t+(x:Rat)*t^i*U9 (b.take k) t
 |
  0,_,_=>by
  show U9 o t=U9 o t+(x:Rat)*t^i*0;grind
 |
  k+1,h1,h2=>by
  have ih:=rK x b i o t k (by omega) (by omega);simp only[Oj];rw[yC _ _ _ _ (by rw[Ol];omega),ih,LI b k t (by omega)];have hp:t^(i+k)=t^i*t^k:=tV t i k;rw[hp]
  push_cast
  grind
theorem rV(a b o:Um)(t:Rat):∀i,i<=a.length->i+b.length<=o.length+1->U9 (Au a b o i) t=U9 o t+U9 (a.take i) t*U9 b t
 |
  0,_,_=>by
  show U9 o t=U9 o t+0*U9 b t;grind
 |
  i+1,h1,h2=>by
  have ih:=rV a b o t i (by omega) (by omega);simp only[Au];rw[rK _ _ _ _ _ b.length (Ql _) (by rw[Li];omega),ih,LI a i t (by omega),Q6];grind
theorem Gk(a b:Um)(t:Rat):U9 (Gl a b) t=U9 a t*U9 b t:=by
 unfold Gl
 split
 ·rename_i h;rcases h with h|h
  ·rw[Qj h];show(0:Rat)=0*_;grind
  ·rw[Qj h];show(0:Rat)=_*0;grind
 ·rename_i h;rw[Ot,rV a b _ t a.length (Ql _) (by rw[Jf];omega),qN,Q6];grind
theorem H9(z d:Int):(z:Rat) / (d:Rat)=Rat.divInt z d:=by
 by_cases h:d=0
 ·subst h;simp;grind
 ·rw[J6];exact(Rat.divInt_eq_div z d ▸ by rw[J6])
theorem Qas(a:Um)(n d:Int)(hd:(d:Rat)≠0):∀k,k<=a.length->(((Ec a n d k).2:Int):Rat)=(d:Rat)^k/\(((Ec a n d k).1:Int):Rat)*d=(d:Rat)^k*U9 (a.drop (a.length-k)) ((n:Rat) / d)
 |
  0,_=>by
  refine⟨by rw[Xg];rfl,?_⟩;rw[W5,Yt];show((0:Int):Rat)*d=(d:Rat)^0*0
  push_cast;grind
 |
  k+1,hk=>by
  obtain⟨h1,h2⟩:=Qas a n d hd k (by omega);have hi:a.length-1-k<a.length:=by omega
  have e1:a.drop (a.length-(k+1))=a.getD (a.length-1-k) 0::a.drop (a.length-k):=by
   rw[show a.length-(k+1)=a.length-1-k by omega,Zp hi,show a.length-1-k+1=a.length-k by omega];congr 1;rw[Qi,Qe hi];rfl
  refine⟨?_,?_⟩
  ·show(((Ec a n d k).2*d:Int):Rat)=_;rw[X1,h1,Z7]
  ·rw[e1];show(((Ec a n d k).1*n+a.getD (a.length-1-k) 0*(Ec a n d k).2:Int):Rat)*d=_*(((a.getD (a.length-1-k) 0:Int):Rat)+(n:Rat) / d*U9 (a.drop (a.length-k)) ((n:Rat) / d));rw[Kc,X1,X1,h1,Z7];have h3:(n:Rat) / d*d=n:=by rw[Zj hd]
   have h4:(d:Rat)^k*d*((n:Rat) / d*U9 (a.drop (a.length-k)) ((n:Rat) / d))=((n:Rat) / d*d)*((d:Rat)^k*U9 (a.drop (a.length-k)) ((n:Rat) / d)):=by grind
   have h5:(d:Rat)^k*d*(((a.getD (a.length-1-k) 0:Int):Rat)+(n:Rat) / d*U9 (a.drop (a.length-k)) ((n:Rat) / d))=(d:Rat)^k*d*((a.getD (a.length-1-k) 0:Int):Rat)+(d:Rat)^k*d*((n:Rat) / d*U9 (a.drop (a.length-k)) ((n:Rat) / d)):=by grind
   rw[h5,h4,h3,<-h2];grind
theorem oK{d:Rat}(h:0<d):∀k:Nat,0<d^k
 | 0=>by rw[Xg];decide
 |k+1=>by rw[Z7];exact Xs (oK h k) h
theorem C5{x y:Rat}(h:0<y):Fg (y*x)=Fg x:=by
 unfold Fg;have h1:y*x<0↔x<0:=by
  constructor
  ·intro h2;rcases Vw (a:=0) (b:=x)with h3|h3
   ·have:=Vx (Qt h) h3;grind
   ·rcases Rat.le_iff_lt_or_eq.1 h3 with h4|h4
    ·exact h4
    ·rw[h4]at h2;grind
  ·intro h2;have:=Xs h (show 0 < -x by grind);grind
 have h2:0<y*x↔0<x:=by
  constructor
  ·intro h2;rcases Vw (a:=x) (b:=0)with h3|h3
   ·have:=Vx (Qt h) (show 0<=-x by grind);grind
   ·rcases Rat.le_iff_lt_or_eq.1 h3 with h4|h4
    ·exact h4
    ·rw[<-h4]at h2;grind
  ·intro h2;exact Xs h h2
 simp only[h1,h2]
theorem Qgu(z:Int):La z 0=Fg (z:Rat):=by
 unfold La Fg;have h1:((z:Int):Rat)<0↔z<0:=by
  have := @Rat.intCast_lt_intCast z 0;simpa using this
 have h2:0<((z:Int):Rat)↔0<z:=by
  have := @Rat.intCast_lt_intCast 0 z;simpa using this
 simp only[h1,h2]
theorem Np(p:Um)(q:Rat):Ra p q=Fg (U9 p q):=by
 have hd0:(0:Rat)<((q.den:Int):Rat):=by
  have := @Rat.intCast_lt_intCast 0 (q.den:Int);rw[show((0:Int):Rat)=0 from rfl]at this;exact this.2 (den_pos q)
 have hd:((q.den:Int):Rat)≠0:=by intro h;rw[h]at hd0;exact absurd hd0 (by decide)
 obtain⟨_,h⟩:=Qas p q.num q.den hd p.length (Ql _);rw[Ki,Xy,H9,Z5]at h;unfold Ra;rw[Qgu,<-C5 hd0,W7];show Fg ((((Ec p q.num q.den p.length).1:Int):Rat)*_)=_;rw[h,C5 (oK hd0 _)]
def cz(p:Um):Up:=p.map λz:Int=>(z:Rat)
theorem Fa(t:Rat):∀p,ev (cz p) t=U9 p t
 | []=>rfl
 |a::p=>by have:=Fa t p;simp only[cz,Z0,ev,U9]at *;rw[this]
theorem Mq:∀(p:Um) (k:Nat),(cz p).getD k 0=((p.getD k 0:Int):Rat)
 | [],k=>by simp[cz]
 |a::p,0=>by simp[cz]
 |a::p,k+1=>by have:=Mq p k;simp only[cz,Z0,Q4]at *;exact this
theorem Lp{p q:Um}(h:∀t,U9 p t=U9 q t)(k:Nat):p.getD k 0=q.getD k 0:=by
 have:=Dz (p:=cz p) (q:=cz q) (λt=>by rw[Fa,Fa,h]) k;rw[Mq,Mq]at this
 exact_mod_cast this
theorem Qqw{p q:Um}(hp:Ff p)(hq:Ff q)(h:∀k,p.getD k 0=q.getD k 0):p=q:=by
 have key:∀{p q:Um},Ff p->Ff q->(∀k,p.getD k 0=q.getD k 0)->p.length<=q.length:=λ{p q} hp hq h=>by
  rcases Zb q.length p.length with e|e
  ·have:=H8 hp (by omega);rw[h,Qi,Qw (by omega)]at this;exact absurd rfl this
  ·exact e
 exact CO (Kb (key hp hq h) (key hq hp λk=>(h k).symm)) λj _=>h j
theorem oZ{p q:Um}(hp:Ff p)(hq:Ff q)(h:∀t,U9 p t=U9 q t):p=q:=Qqw hp hq (Lp h)
theorem Qpp{p:Um}(hp:Ff p)(h:∀t,U9 p t=0):p=[]:=oZ hp rfl λt=>by rw[h];rfl
theorem D4{p:Um}(h:p.length=0)(t:Rat):U9 p t=0:=by rw[Qj h];rfl
theorem iO:∀(p r:Um) (t:Rat),(∀k,r.getD k 0=p.getD (k+1) 0*((k+1:Nat):Int))->U9 r t=dv (cz p) t
 |
  [],r,t,h=>by
  rw[oQ (q:=[]) (λk=>by rw[h];simp) t];rfl
 |
  a::p,r,t,h=>by
  have ih:=iO p (Gw p) t λk=>Bz p k
  have e:U9 r t=U9 p t+t*U9 (Gw p) t:=by
   have:=Cv 1 1 t (max (max p.length (0::Gw p).length) r.length) p (0::Gw p) r (by omega) (by omega) (by omega) λk=>by
    rw[h,Q4];cases k with
    |zero=>simp
    |succ k=>rw[Q4,Bz];push_cast;grind
   rw[this];simp only[U9];push_cast;grind
  rw[e,ih];show _=ev (cz p) t+t*dv (cz p) t;rw[Fa]
theorem Oq(p:Um)(t:Rat):U9 (Gw p) t=dv (cz p) t:=iO p _ t λk=>Bz p k
theorem SR{p:Um}(hp:Ff p)(h:0<p.length):HD (cz p) (p.length-1):=by
 refine⟨?_,λk hk=>?_⟩
 ·rw[Mq];have:=H8 hp h;exact λe=>this (by exact_mod_cast e)
 ·rw[Mq,Qi,Qw (by omega)];rfl
theorem SV{p:Um}(hp:Ff p)(h:0<p.length):¬∀t,U9 p t=0:=λh0=>by
 rw[Qpp hp h0]at h;exact absurd h (by simp)
theorem Ms{a b c:Um}(ha:Ff a)(hb:Ff b)(hc:Ff c)(h:∀t,U9 c t=U9 a t*U9 b t)(la:0<a.length)(lb:0<b.length):c.length=a.length+b.length-1:=by
 have h1:=DL (SR ha la) (SR hb lb);have h2:HD (cz c) (a.length-1+(b.length-1)):=Qr7 (λt=>by rw[Fh,Fa,Fa,Fa,h]) h1;have lc:0<c.length:=by
  rcases Q3 c.length with e|e
  ·exact absurd (λt=>by rw[Fa];exact D4 e t) (aR h2)
  ·exact e
 have:=Qr8 (SR hc lc) h2;omega
theorem rT:∀(n m:Nat),m<=n->2<=m->∃P,2<=P/\P∣m/\∀d,2<=d->d∣P->d=P
 | 0,m,h,h2=>by omega
 |
  n+1,m,h,h2=>by
  rcases Classical.em (∃d,2<=d/\d<m/\d∣m)with⟨d,d1,d2,d3⟩|h0
  ·obtain⟨P,p1,p2,p3⟩:=rT n d (by omega) d1;exact⟨P,p1,Nat.dvd_trans p2 d3,p3⟩
  ·refine⟨m,h2,Nat.dvd_refl m,λd d1 d2=>?_⟩;rcases Vl (Kv (by omega) d2)with e|e
   ·exact absurd ⟨d,d1,e,d2⟩ h0
   ·exact e
theorem jR{P:Nat}(h2:2<=P)(hP:∀d,2<=d->d∣P->d=P){x y:Int}(h:(P:Int)∣x*y):(P:Int)∣x\/(P:Int)∣y:=by
 have h:=X4.2 h;rw[J9,Xh]at h;have hg:=W0 P x.natAbs;rcases Zb (Nat.gcd P x.natAbs) 2 with e|e
 ·right;have h1:Nat.gcd P x.natAbs=1:=by
   have:=Nat.gcd_pos_of_pos_left x.natAbs (show 0<P by omega);omega
  have:=Nat.Coprime.dvd_of_dvd_mul_left h1 h;exact X4.1 (by rwa[Xh])
 ·left;have:=hP _ e hg;have h3:=Nat.gcd_dvd_right P x.natAbs;rw[this]at h3;exact X4.1 (by rwa[Xh])
def sL(P:Int)(l:Um):Prop:=∀k,P∣l.getD k 0
theorem HK{P:Nat}(h2:2<=P)(hP:∀d,2<=d->d∣P->d=P):∀(n:Nat) (b h c:Um),b.length+h.length<=n->(∀t,U9 c t=U9 b t*U9 h t)->sL P c->sL P b\/sL P h
 |_,[],h,c,_,_,_=>.inl λk=>by simp
 |_,x::b,[],c,_,_,_=>.inr λk=>by simp
 | 0,x::b,y::h,c,hn,_,_=>by simp at hn
 |
  n+1,x::b,y::h,c,hn,hc,hd=>by
  simp only[Q5]at hn;by_cases hx:(P:Int)∣x
  ·-- x h is taken away
   have e:∀t,U9 (0::Gl b (y::h)) t=U9 (Na c (Fw (y::h) x)) t:=λt=>by
    rw[Nn,Ro,hc];simp only[U9];rw[Gk];simp only[U9];push_cast;grind
   have hd':sL P (Gl b (y::h)):=λk=>by
    have:=Lp e (k+1);rw[Q4,O2,Mh]at this;rw[this];exact Int.dvd_sub (hd (k+1)) (V5 hx (Y9 _ _))
   rcases HK h2 hP n b (y::h) _ (by simp only[Q5];omega) (λt=>Gk _ _ t) hd' with h1|h1
   ·refine .inl λk=>?_
    cases k with
    |zero=>rw[Zt];exact hx
    |succ k=>rw[Q4];exact h1 k
   ·exact .inr h1
  ·have h0:(P:Int)∣y:=by
    have e:c.getD 0 0=x*y:=by
     have:=Lp (p:=c) (q:=Gl (x::b) (y::h)) (λt=>by rw[hc,Gk]) 0;have e2:=Lp (p:=Gl (x::b) (y::h)) (q:=A5 (Fw (y::h) x) (0::Gl b (y::h))) (λt=>by
      rw[LA,Ro,Gk];simp only[U9];rw[Gk];simp only[U9];push_cast;grind) 0
     rw[this,e2,qS,Mh,Zt,Zt,K8];omega
    have:=hd 0;rw[e]at this;rcases jR h2 hP this with h1|h1
    ·exact absurd h1 hx
    ·exact h1
   have e:∀t,U9 (0::Gl (x::b) h) t=U9 (Na c (Fw (x::b) y)) t:=λt=>by
    rw[Nn,Ro,hc];simp only[U9];rw[Gk];simp only[U9];push_cast;grind
   have hd':sL P (Gl (x::b) h):=λk=>by
    have:=Lp e (k+1);rw[Q4,O2,Mh]at this;rw[this];exact Int.dvd_sub (hd (k+1)) (V5 h0 (Y9 _ _))
   rcases HK h2 hP n (x::b) h _ (by simp only[Q5];omega) (λt=>Gk _ _ t) hd' with h1|h1
   ·exact absurd (by have:=h1 0;rwa[Zt]at this) hx
   ·refine .inr λk=>?_
    cases k with
    |zero=>rw[Zt];exact h0
    |succ k=>rw[Q4];exact h1 k
def Prm(b:Um):Prop:=∀d:Int,sL d b->d∣1
theorem Qhv{a b:Um}(hb:Prm b):∀(n:Nat) (c:Int) (h:Um),c.natAbs<=n->c≠0->(∀t,(c:Rat)*U9 a t=U9 b t*U9 h t)->∃h',∀t,U9 a t=U9 b t*U9 h' t
 | 0,c,h,hn,h0,_=>absurd (by omega) h0
 |
  n+1,c,h,hn,h0,hc=>by
  rcases Zb c.natAbs 2 with h1|h1
  ·refine⟨Fw h c,λt=>?_⟩;have hcc:(c:Rat)*c=1:=by
    have:c*c=1:=by
     rcases(show c=1\/c=-1 by omega)with rfl|rfl <;> rfl
    have:=congrArg (λz:Int=>(z:Rat)) this
    push_cast at this;exact this
   rw[Ro];have:=hc t;have:U9 a t=(c:Rat)*((c:Rat)*U9 a t):=by
    have:(c:Rat)*((c:Rat)*U9 a t)=((c:Rat)*c)*U9 a t:=by grind
    rw[this,hcc];grind
   rw[this,hc];grind
  ·obtain⟨P,p1,p2,p3⟩:=rT c.natAbs c.natAbs (Ql _) h1;obtain⟨d,hd⟩:∃d,c=(P:Int)*d:=Wp.2 p2;have hall:sL P (Fw a c):=λk=>by
    rw[Mh,hd];exact V5 (Int.dvd_mul_right _ _) (Y9 _ _)
   have hP0:(P:Rat)≠0:=by
    have:((0:Nat):Rat)<(P:Rat):=Vo.2 (by omega);grind
   rcases HK p1 p3 _ b h (Fw a c) (Ql _) (λt=>by rw[Ro,W7,hc]) hall with e|e
   ·have:=hb P e;have:=X4.2 this;rw[Xh]at this;have:=Kv (by decide) this;exact absurd this (by show ¬P<=1;omega)
   ·refine Qhv hb n d (h.map (· / (P:Int))) ?_ (λe0=>h0 (by rw[hd,e0,Wa])) λt=>?_
    ·rw[hd,J9,Xh]at hn h1;have:2*d.natAbs<=P*d.natAbs:=Q0 _ p1;omega
    ·have e1:U9 h t=(P:Rat)*U9 (h.map (· / (P:Int))) t:=by
      have:=Cv P 0 t (max h.length (h.map (· / (P:Int))).length) (h.map (· / (P:Int))) [] h (by omega) (by simp) (by omega) λk=>by
       have:=e k;have e2:(h.map (· / (P:Int))).getD k 0=h.getD k 0 / (P:Int):=by
        rw[Qi,Qi,Q9];cases h[k]? <;> simp
       rw[e2,K9 this];simp
      rw[this];simp only[U9];push_cast;grind
     have:=hc t;rw[hd,e1]at this
     push_cast at this
     have h3:(P:Rat)*((d:Rat)*U9 a t)=(P:Rat)*(U9 b t*U9 (h.map (· / (P:Int))) t):=by grind
     have h4:=Y3.1 (show(P:Rat)*((d:Rat)*U9 a t-U9 b t*U9 (h.map (· / (P:Int))) t)=0 by grind);rcases h4 with h4|h4
     ·exact absurd h4 hP0
     ·grind
theorem IB:∀u:Up,∃c:Int,c≠0/\∃h:Um,∀t,(c:Rat)*ev u t=U9 h t
 | []=>⟨1,by decide,[],λt=>by simp only[ev,U9];grind⟩
 |
  a::u=>by
  obtain⟨c,hc,h,hh⟩:=IB u;refine⟨c*(a.den:Int),Jh hc (by have:=a.den_nz;omega),(c*a.num)::Fw h (a.den:Int),λt=>?_⟩;have e:(a.den:Rat)*a=a.num:=by
   rw[W7];have:(a.num:Rat) / (((a.den:Int)):Rat)=a:=by rw[H9,Z5]
   have hd:(a.den:Rat)≠0:=by
    have:((0:Nat):Rat)<(a.den:Rat):=Vo.2 a.den_pos;grind
   have h2:(a.num:Rat) / (a.den:Rat)*(a.den:Rat)=a.num:=Zj hd;rw[show(a.num:Rat) / (a.den:Rat)=a from this]at h2;exact h2
  simp only[ev,U9];rw[Ro,<-hh]
  push_cast
  rw[<-e];have e3:(((a.den:Int)):Rat)=(a.den:Rat):=rfl;grind
theorem Qhu{a b:Um}(hb:Prm b)(h:ZC (cz b) (cz a)):∃h',Ff h'/\∀t,U9 a t=U9 b t*U9 h' t:=by
 obtain⟨u,hu⟩:=h;obtain⟨c,hc,h,hh⟩:=IB u;obtain⟨h',e⟩:=Qhv hb c.natAbs c h (Ql _) hc λt=>by
  have:=hu t;rw[Fa,Fa]at this;rw[this,<-hh];grind
 exact⟨trim h',Rq _,λt=>by rw[Ot,e]⟩
def sd(x0:Rat):Up->Up
 | []=>[]
 |_::p=>Ss p (D6 x0 (sd x0 p))
theorem Qhm(x0 x:Rat):∀p,ev (sd x0 p) x=dq p x x0
 | []=>rfl
 |a::p=>by simp only[sd,dq];rw[Gz,Gt,Qhm x0 x p]
theorem cM(x0:Rat):∀(g:Up) (n:Nat),(∀j,n<j->g.getD j 0=0)->∀j,n<=j->(sd x0 g).getD j 0=0
 | [],n,_,j,_=>by simp[sd]
 |
  a::p,0,h,j,_=>by
  have hp:∀j,p.getD j 0=0:=λj=>by have:=h (j+1) (by omega);rwa[Q4]at this
  simp only[sd];rw[Rl,Sl,hp,cM x0 p 0 (λj _=>hp j) j (Qh _)];grind
 |
  a::p,n+1,h,j,hj=>by
  have hp:∀j,n<j->p.getD j 0=0:=λj hj=>by have:=h (j+1) (by omega);rwa[Q4]at this
  simp only[sd];rw[Rl,Sl,hp j (by omega),cM x0 p n hp j (by omega)];grind
theorem nF{K:Rat}(hK:0≤K):∀(e:Nat) (g:Up) (pts:Um) (M:Rat),pts.length=e+1->pts.Nodup->(∀x∈pts,Fj (x:Rat)≤K)->(∀k,e<k->g.getD k 0=0)->(∀x∈pts,Fj (ev g (x:Rat))≤M)->∀k,Fj (g.getD k 0)≤(2*K+3)^e*M
 |_,_,[],_,h,_,_,_,_=>by simp at h
 |
  0,g,x0::xs,M,_,_,_,hg,hM=>λk=>by
  have h0:=hM x0 (by simp);rw[Xg];cases k with
  |
   zero =>
   have e:ev g (x0:Rat)=g.getD 0 0:=by
    cases g with
    |nil=>rfl
    |
     cons a p =>
     have hp:=Lb (p:=p) λj=>by have:=hg (j+1) (by omega);rwa[Q4]at this
     simp only[ev,hp,Zt];grind
   rw[<-e];grind
  |
   succ k =>
   rw[hg (k+1) (by omega),Rj];have:=Hw (ev g (x0:Rat));grind
 |
  e+1,g,x0::xs,M,hl,hn,hb,hg,hM=>λk=>by
  have hx0:=hb x0 (by simp);have hM0:=hM x0 (by simp);have hMn:0<=M:=Zl (Hw _) hM0;rw[List.nodup_cons]at hn;have ih:=nF hK e (sd x0 g) xs (2*M) (by simpa using hl) hn.2 (λx hx=>hb x (by simp[hx])) (λj hj=>cM _ g (e+1) hg j (by omega)) λx hx=>by
   have h1:=hM x (by simp[hx]);have h2:=OZ (x:Rat) (x0:Rat) g;rw[<-Qhm]at h2;have hne:x-x0≠0:=λh=>hn.1 (by rw[show x0=x by omega];exact hx)
   have h3:=WJ hne;rw[Rat.intCast_sub]at h3;have h4:Fj (ev g (x:Rat)-ev g (x0:Rat))<=2*M:=by
    have:=Sr (ev g (x:Rat)) (-ev g (x0:Rat));rw[Eu,show ev g (x:Rat)+-ev g (x0:Rat)=ev g (x:Rat)-ev g (x0:Rat) by grind]at this;clear hM hb hg;grind
   rw[h2,Il]at h4;have h5:=Ze h3 (Hw (ev (sd x0 g) x));clear hM hb hg;grind
  have e1:∀t,ev g t=ev (Ss [ev g x0] (Ss (D6 (-x0) (sd x0 g)) (0::sd x0 g))) t:=λt=>by
   have:=OZ t (x0:Rat) g;rw[<-Qhm]at this;simp only[Gz,Gt,ev];grind
  have hp1:1<=(2*K+3)^e:=(YA (R:=2*K+3) (x:=0) (by grind) (by rw[Rj];grind) e).2;have hpM:=Bl (x:=(2*K+3)^e) (y:=M) (by grind) hMn;have hpM1:=Ze hp1 hMn;rw[Z7,Dz e1 k,Rl,Rl,Sl];have a1:=ih k;have a2:Fj (-(x0:Rat)*(sd (x0:Rat) g).getD k 0)<=K*((2*K+3)^e*(2*M)):=Hd (by rw[Eu];exact hx0) a1;have fin:∀u v w:Rat,Fj u<=M->Fj v<=K*((2*K+3)^e*(2*M))->Fj w<=(2*K+3)^e*(2*M)->Fj (u+(v+w))<=(2*K+3)^e*(2*K+3)*M:=λu v w h1 h2 h3=>by
   have b1:=Sr u (v+w);have b2:=Sr v w;clear ih e1 hM hb hg a1 a2;grind
  refine fin _ _ _ ?_ a2 ?_
  ·cases k with
   |zero=>rw[Zt];exact hM0
   |succ k=>rw[Q4,Kt,Rj];exact hMn
  ·cases k with
   |zero=>rw[Zt,Rj];clear ih e1 hM hb hg a1 a2 fin;grind
   |succ k=>rw[Q4];exact ih k
theorem Qkc{g:Up}{e:Nat}(hg:∀k,e<k->g.getD k 0=0)(hz:¬∀t,ev g t=0){pts:Um}(hn:pts.Nodup)(hr:∀x∈pts,ev g (x:Rat)=0):pts.length≤e:=by
 rcases Zb e pts.length with h|h
 ·exfalso;obtain⟨K,hK,hb⟩:∃K:Rat,0≤K/\∀x∈pts,Fj (x:Rat)≤K:=by
   clear hn hr h
   induction pts with
   |nil=>exact⟨0,by decide,λx hx=>by cases hx⟩
   |
    cons y pts ih =>
    obtain⟨K,h1,h2⟩:=ih;refine⟨K+Fj (y:Rat),by have:=Hw (y:Rat);grind,λx hx=>?_⟩;have hy:=Hw (y:Rat);rcases Qm.1 hx with rfl|hx
    ·grind
    ·have:=h2 x hx;grind
  refine hz (Lb λk=>?_);have:=nF hK e g (pts.take (e+1)) 0 (by rw[Qq];omega) (hn.sublist (List.take_sublist ..)) (λx hx=>hb x (Qo hx)) hg (λx hx=>by rw[hr x (Qo hx),Rj];exact Qp) k;have h2:=Hw (g.getD k 0);exact Qpy (by grind)
 ·exact h
def spots:Um:=(List.range 19).map λi:Nat=>(i:Int)-9
theorem spots_nd:spots.Nodup:=by decide
theorem tN:∀x∈spots,x.natAbs≤9:=by decide
theorem DJ{α:Type}(p:α->Bool):∀l:List α,(l.filter p).length+(l.filter λx => !p x).length=l.length
 | []=>rfl
 |
  x::l=>by
  have:=DJ p l;cases h:p x <;> simp[h] <;> omega
def geo:Nat->Nat
 | 0=>0
 |n+1=>1+9*geo n
theorem aV{B:Rat}:∀(p:Um),(∀z∈p,Fj (z:Rat)≤B)->uC 9 (cz p)≤B*(geo p.length:Nat)
 | [],_=>by simp only[cz,X8,uC,geo,Xk];rw[show((0:Nat):Rat)=0 from rfl];grind
 |
  a::p,h=>by
  have h1:=aV p λz hz=>h z (Qg _ hz)
  have h2:=h a (Qy ..);simp only[cz,Z0,uC,geo,Q5]at *
  push_cast
  clear h;grind
theorem Qh3{m n:Nat}(h:m<=n):geo m<=geo n:=by
 induction h with
 |refl=>exact Ql _
 |step h ih=>simp only[geo];omega
def pz:Um->Int->Int
 | [],_=>0
 |a::p,x=>a+x*pz p x
theorem WW(x:Int):∀p,U9 p (x:Rat)=((pz p x:Int):Rat)
 | []=>rfl
 |a::p=>by simp only[U9,pz,WW x p];push_cast;rfl
theorem Sx(z:Int):Fj (z:Rat)=((z.natAbs:Nat):Rat):=by
 unfold Fj;rcases Kd z 0 with h|h
 ·have h1:(z:Rat)<((0:Int):Rat):=Jn.2 h;rw[if_pos (by simpa using h1)];have:(z.natAbs:Int)=-z:=by omega
  have:=congrArg (λu:Int=>(u:Rat)) this
  push_cast at this
  exact this.symm
 ·have h1:((0:Int):Rat)<=(z:Rat):=Jd.2 h;have h1:(0:Rat)<=(z:Rat):=by simpa using h1
  rw[if_neg (by grind)];have:(z.natAbs:Int)=z:=by omega
  have:=congrArg (λu:Int=>(u:Rat)) this;exact this.symm
theorem XW{p g h:Um}{s:Nat}(hp:Bd s p)(hl:p.length<=10)(tp:Ff p)(tg:Ff g)(th:Ff h)(h0:p.length≠0)(e:∀t,U9 p t=U9 g t*U9 h t):Bd (s+69) g:=by
 have lg:0<g.length:=by
  rcases Q3 g.length with e'|e'
  ·exact absurd (λt=>by rw[e,D4 e'];grind) (SV tp (by omega))
  ·exact e'
 have lh:0<h.length:=by
  rcases Q3 h.length with e'|e'
  ·exact absurd (λt=>by rw[e,D4 e'];grind) (SV tp (by omega))
  ·exact e'
 have hlen:=Ms tg th tp e lg lh;obtain⟨q,hq⟩:=nmE (spots.filter λx => !decide (pz p x=0));have hr:(spots.filter λx=>decide (pz p x=0)).length<=9:=by
  refine Qkc (g:=cz p) (e:=9) (λk hk=>?_) (λh=>SV tp (by omega) λt=>by rw[<-Fa];exact h t) (spots_nd.sublist List.filter_sublist) λx hx=>?_
  ·rw[Mq,Qi,Qw (by omega)];rfl
  ·have:=(Yi.1 hx).2;rw[Fa,WW,of_decide_eq_true this];rfl
 have hc:=DJ (λx=>decide (pz p x=0)) spots;rw[<-hq]at hc;have hsl:spots.length=19:=by decide
 have hB:∀z∈p,Fj (z:Rat)≤((2^s:Nat):Rat):=λz hz=>by
  rw[Sx];have:=hp z hz;rw[Sw]at this;exact Zm.2 (Yk this)
 have key:=nF (K:=9) (by decide) 9 (cz g) (q.take 10) (((2^s*435848050:Nat)):Rat) (by rw[Qq];omega) ((spots_nd.sublist (by rw[hq];exact List.filter_sublist)).sublist (List.take_sublist ..)) (λx hx=>by
  have hx:=Qo hx;rw[hq]at hx;have:=tN x (Yi.1 hx).1;rw[Sx]
  exact_mod_cast Zm.2 this) (λk hk=>by rw[Mq,Qi,Qw (by omega)];rfl) (λx hx=>by
  have hx:=Qo hx;rw[hq]at hx;obtain⟨hx1,hx2⟩:=Yi.1 hx;have hne:pz p x≠0:=by simpa using hx2
  have e1:=e (x:Rat);rw[WW,WW,WW]at e1;have e2:pz p x=pz g x*pz h x:=by exact_mod_cast e1
  have hh:1<=(pz h x).natAbs:=by
   rcases Q3 (pz h x).natAbs with e'|e'
   ·exact absurd (by rw[e2,Int.natAbs_eq_zero.1 e',Wa]) hne
   ·exact e'
  have h3:(pz g x).natAbs<=(pz p x).natAbs:=by
   rw[e2,J9];exact Ys _ hh
  rw[Fa,WW,Sx];refine Zl (Zm.2 h3) ?_;rw[<-Sx,<-WW,<-Fa];refine Zl (SU (R:=9) (by
   have:=tN x hx1;rw[Sx]
   exact_mod_cast Zm.2 this) _) ?_
  refine Zl (aV p hB) ?_;have:2^s*geo p.length<=2^s*435848050:=Zu _ (Qa (Qh3 hl) (by decide));have:=Zm.2 this
  push_cast at this ⊢
  exact this)
 refine NA λk=>?_
 have h1:=key k;rw[Mq,Sx]at h1;have e3:(2*(9:Rat)+3)^9*((2^s*435848050:Nat):Rat)=(((794280046581*(2^s*435848050)):Nat):Rat):=by
  rw[show(2*(9:Rat)+3)^9=794280046581 by grind]
  push_cast;rfl
 rw[e3]at h1;have h2:=Zm.1 h1;rw[Sw];refine Z3 h2 ?_;have:794280046581*(2^s*435848050)=2^s*(794280046581*435848050):=by
  rw[Nat.mul_left_comm]
 rw[this,Xf];exact Nat.mul_lt_mul_of_pos_left (by decide) (Z2 (by decide))
theorem uH{l:Um}{d:Int}(h:∀z∈l,d∣z):d∣((Rz l:Nat):Int):=by
 have key:∀(l:Um) (g:Nat),d.natAbs∣g->(∀z∈l,d∣z)->d.natAbs∣l.foldl (λg z=>Nat.gcd g z.natAbs) g:=by
  intro l
  induction l with
  |nil=>exact λg h _=>h
  |cons z l ih=>exact λg hg h=>ih _ (Nat.dvd_gcd hg (X4.2 (h z (Qy ..)))) λu hu=>h u (Qg _ hu)
 have:=key l 0 (Nat.dvd_zero _) h;exact X4.1 (by rw[Xh];exact this)
theorem FZ(p:Um)(c:Int)(k:Nat):(p.map (· / c)).getD k 0=p.getD k 0 / c:=by
 rw[Qi,Qi,Q9];cases p[k]? <;> simp
theorem WU(p:Um)(c:Int)(k:Nat):(De p c).getD k 0=p.getD k 0 / c:=by
 unfold De;rw[VV,FZ]
theorem qM{p:Um}{c:Int}(h:∀z∈p,c∣z)(t:Rat):U9 p t=(c:Rat)*U9 (De p c) t:=by
 have:=Cv c 0 t (max p.length (De p c).length) (De p c) [] p (by omega) (by simp) (by omega) λk=>by
  rw[WU];have hd:c∣p.getD k 0:=by
   rw[Qi];cases e:p[k]? with
   |none=>exact Int.dvd_zero _
   |some z=>exact h z (Qc e)
  rw[K9 hd];simp
 rw[this];simp only[U9];push_cast;grind
theorem XT{c:Int}(h:c≠0):(c:Rat)≠0:=λe=>h (by exact_mod_cast e)
theorem QL{p q:Um}{c:Rat}(tp:Ff p)(tq:Ff q)(hc:c≠0)(h:∀t,U9 p t=c*U9 q t):p.length=q.length:=by
 have key:∀{p q:Um} {c:Rat},Ff p->Ff q->c≠0->(∀t,U9 p t=c*U9 q t)->p.length<=q.length:=λ{p q c} tp tq hc h=>by
  rcases Zb q.length p.length with e|e
  ·have h1:=H8 tp (by omega);have:=Dz (p:=cz p) (q:=D6 c (cz q)) (λt=>by rw[Fa,Gt,Fa,h]) (p.length-1);rw[Mq,Sl,Mq,Qi (l:=q),Qw (by omega)]at this;have:((p.getD (p.length-1) 0:Int):Rat)=0:=by rw[this];simp
   exact absurd (by exact_mod_cast this) h1
  ·exact e
 refine Kb (key tp tq hc h) (key (c:=1 / c) tq tp (λe=>?_) λt=>?_)
 ·have:=Zj (a:=1) hc;rw[e]at this;grind
 ·rw[h];have:=Zj (a:=1) hc;grind
theorem Cx{p:Um}(tp:Ff p)(h:p.length≠0):Ff (Fi p)/\(Fi p).length=p.length/\Prm (Fi p)/\0<Fq (Fi p)/\(∀s,Bd s p->Bd s (Fi p))/\Ho p≠0/\∀t,U9 p t=(Ho p:Rat)*U9 (Fi p) t:=by
 have h0:=oJ tp h;have e:Fi p=De p (Ho p):=by unfold Fi;rw[if_neg h]
 have h1:=qM (p:=p) (c:=Ho p) FO;have hl:=QL tp (ZX p (Ho p)) (XT h0) h1;have hcp:0<Pk p:=by
  have:=JK tp h;unfold Pk at this ⊢;omega
 rw[e];refine⟨ZX _ _,hl.symm,λd hd=>?_,?_,λs hs=>BQ hs _,h0,h1⟩
 ·have h2:∀z∈p,d*Ho p∣z:=λz hz=>by
   obtain⟨i,hi⟩:=Zk.1 hz;have h3:=hd i;rw[WU,Qi,hi]at h3;obtain⟨k,hk⟩:=h3;have h4:=FO z hz;refine⟨k,?_⟩;have:z / Ho p*Ho p=z:=Int.ediv_mul_cancel h4;rw[<-this];rw[show z / Ho p=d*k from hk,Int.mul_right_comm]
  have h3:=uH h2;have h4:Ho p∣((Rz p:Nat):Int)/\((Rz p:Nat):Int)∣Ho p:=by
   unfold Ho Pk;split
   ·exact⟨Uc.2 (K7 _),Int.dvd_neg.2 (K7 _)⟩
   ·exact⟨K7 _,K7 _⟩
  obtain⟨k,hk⟩:=V5 h3 h4.2;refine⟨k,?_⟩;have:Ho p*(d*k)=Ho p*1:=by rw[Ub,<-Int.mul_assoc,K8 (Ho p) d,<-hk]
  exact(Int.eq_of_mul_eq_mul_left h0 this).symm
 ·have h2:Fq (De p (Ho p))=Fq p / Ho p:=by unfold Fq;rw[<-hl,WU]
  have h3:Ho p∣Fq p:=FO _ (LZ h);have h5:Fq p / Ho p*Ho p=Fq p:=Int.ediv_mul_cancel h3;rw[h2];have h6:=Eo tp h;rcases Km (Fq p / Ho p) 0 with e1|e1|e1
  ·exfalso;by_cases hn:Fq p<0
   ·have:Ho p=-Pk p:=by unfold Ho;rw[if_pos hn]
    have:0<Fq p / Ho p*Ho p:=V9 e1 (by omega);omega
   ·have:Ho p=Pk p:=by unfold Ho;rw[if_neg hn]
    have:Fq p / Ho p*Ho p<0:=Int.mul_neg_of_neg_of_pos e1 (by omega);omega
  ·rw[e1]at h5;omega
  ·exact e1
theorem Qjs{r:Um}(tr:Ff r):∃c:Rat,0<c/\∀t,U9 r t=c*U9 (VO r) t:=by
 unfold VO;by_cases h:r.length=0
 ·rw[if_pos h];exact⟨1,by decide,λt=>by rw[D4 h,D4 rfl];grind⟩
 ·rw[if_neg h];have h1:0<Pk r:=by
   have:=JK tr h;unfold Pk at this ⊢;omega
  have h2:((0:Int):Rat)<(Pk r:Rat):=Jn.2 h1;exact⟨Pk r,by simpa using h2,qM E7⟩
theorem JW(x:Int)(t:Rat):∀i,U9 (mono i x) t=(x:Rat)*t^i
 | 0=>by simp only[mono,Wj,Yj,U9,Xg];grind
 |
  i+1=>by
  have ih:=JW x t i;simp only[mono,J4,Xb,U9]at *;rw[ih,Z7];push_cast;grind
theorem iU(x:Int)(b:Um)(i k:Nat):(Gl (trim (mono i x)) b).getD k 0=if i<=k then x*b.getD (k-i) 0 else 0:=by
 have e:∀t,U9 (Gl (trim (mono i x)) b) t=U9 (List.replicate i 0++b.map (x * ·)) t:=λt=>by
  rw[Gk,Ot,JW];have h2:∀i,U9 (List.replicate i 0++b.map (x * ·)) t=t^i*((x:Rat)*U9 b t):=λi=>by
   induction i with
   |
    zero =>
    simp only[Wj,Yj,Xg];have:=Cv x 0 t (max b.length (b.map (x * ·)).length) b [] (b.map (x * ·)) (by omega) (by simp) (by omega) λk=>by
     rw[Qi,Qi,Q9];cases b[k]? <;> simp
    rw[this];simp only[U9];push_cast;grind
   |succ i ih=>simp only[J4,Xb,U9,ih,Z7];push_cast;grind
  rw[h2];grind
 rw[Lp e k,Qi,List.getElem?_append,Jf];by_cases h:i<=k
 ·rw[if_neg (by omega),if_pos h,Q9,Qi];cases b[k-i]? <;> simp
 ·rw[if_pos (by omega),if_neg h,Jz,if_pos (by omega)];rfl
theorem Qin{p:Um}{n:Nat}(tp:Ff p)(h:p.length<=n+1)(h0:p.getD n 0=0):p.length<=n:=by
 rcases Zb n p.length with e|e
 ·have:=H8 tp (by omega);rw[show p.length-1=n by omega]at this;exact absurd h0 this
 ·exact e
theorem Qqr{b r:Um}{i:Nat}(tr:Ff r)(h:r.length<=b.length+i)(hb:b.length≠0){x:Int}(hx:x=if r.length=b.length+i then Fq r else 0):(str b (Fq b) i x r).length<b.length+i:=by
 have hl:=jO (c:=Fq b) (x:=x) (i:=i) (b:=b) (r:=r);have:=Qin (p:=str b (Fq b) i x r) (n:=b.length+i-1) (Fy _ _) (by omega) (by
  unfold str;rw[O2,Mh,iU,if_pos (by omega),hx,show b.length+i-1-i=b.length-1 by omega]
  split
  ·rename_i he;unfold Fq;rw[he,Int.sub_eq_zero]
  ·rw[Qi (l:=r),Qw (by omega)];simp)
 omega
theorem Qwe(b r:Um)(c:Int)(i:Nat)(x:Int)(t:Rat):(c:Rat)*U9 r t=(x:Rat)*t^i*U9 b t+U9 (str b c i x r) t:=by
 unfold str;rw[Nn,Ro,Gk,Ot,JW];grind
theorem Qjw(b:Um)(c:Int):∀(i:Nat) (q r:Um),∃X:Up,∀t,((c^i:Int):Rat)*U9 r t=ev X t*U9 b t+U9 (rM b c i (q,r)).2 t
 | 0,q,r=>⟨[],λt=>by simp only[rM,ev];rw[Wy];push_cast;grind⟩
 |
  i+1,q,r=>by
  obtain⟨x,hx⟩:=nmE (if r.length=b.length+i then Fq r else 0);obtain⟨X,hX⟩:=Qjw b c i (stq c i x q) (str b c i x r);obtain⟨m,hm⟩:∃m:Up,∀t,ev m t=(x:Rat)*t^i:=⟨cz (mono i x),λt=>by rw[Fa,JW]⟩;refine⟨Ss (D6 ((c^i:Int):Rat) m) X,λt=>?_⟩;rw[JH hx,Gz,Gt,hm];have h1:=hX t;have h2:=Qwe b r c i x t;rw[Wx]
  push_cast at h1 ⊢
  have:(c:Rat)^i*c*U9 r t=(c:Rat)^i*((c:Rat)*U9 r t):=by grind
  rw[this,h2];grind
theorem oG{b:Um}(hb:b.length≠0):∀(i:Nat) (q r:Um),Ff r->r.length<b.length+i->Ff (rM b (Fq b) i (q,r)).2/\(rM b (Fq b) i (q,r)).2.length<b.length
 | 0,q,r,tr,h=>⟨tr,h⟩
 |
  i+1,q,r,tr,h=>by
  rw[JH rfl];exact oG hb i _ _ (Fy _ _) (Qqr tr (by omega) hb rfl)
theorem Qjv{b:Um}{c:Int}{t:Nat}(hb:Bd t b)(hc:Fe c<=t):∀(i u:Nat) (q r:Um),i<=64->Bd u r->Bd (u+i*(t+8)) (rM b c i (q,r)).2
 | 0,u,q,r,_,h=>by simpa[rM]using h
 |
  i+1,u,q,r,hi,h=>by
  rw[JH rfl];have hx:Fe (if r.length=b.length+i then Fq r else 0)<=u:=by
   split
   ·exact Nh h
   ·rw[Ni];exact Qh _
  have:=Qjv hb hc i (u+t+8) (stq c i (if r.length=b.length+i then Fq r else 0) q) (str b c i (if r.length=b.length+i then Fq r else 0) r) (by omega) (pW h hb hc hx (by omega));exact U5 this (by rw[Xa];omega)
theorem EV{c:Int}(h:c<0):∀k:Nat,(k % 2=1->c^k<0)/\(k % 2=0->0<c^k)
 | 0=>⟨λh=>by omega,λ_=>by rw[Wy];decide⟩
 |
  k+1=>by
  obtain⟨i1,i2⟩:=EV h k;rw[Wx];exact⟨λhk=>V8 (i2 (by omega)) h,λhk=>V9 (i1 (by omega)) h⟩
theorem NW{a b:Um}(ta:Ff a)(tb:Ff b)(hb:b.length≠0)(hl:a.length<=60):Ff (Ta a b)/\(Ta a b).length<b.length/\(∀s,Bd s a->Bd s b->Bd (s+(a.length+1-b.length)*(s+8)) (Ta a b)) /\
 ∃u v:Rat,0<u/\0<v/\∃X:Up,∀t,u*U9 a t=ev X t*U9 b t+v*U9 (Ta a b) t:=by
 obtain⟨k,hk⟩:=nmE (a.length+1-b.length);have h1:Ff (Me a b)/\(Me a b).length<b.length:=oG hb _ _ _ ta (by omega);obtain⟨X,hX⟩:=Qjw b (Fq b) k [] a;have hX:∀t,(((Fq b)^k:Int):Rat)*U9 a t=ev X t*U9 b t+U9 (Me a b) t:=by unfold Me;rw[<-hk];exact hX
 have h2:=GY (a:=a) (b:=b) (r:=Me a b) (n:=(Me a b).length) (s:=(Me a b).foldl (λm z=>m+Fe z) 0) h1.1 (Ql _) (λz hz=>by
  have key:∀(l:Um) (m:Nat),m≤l.foldl (λm z=>m+Fe z) m/\∀z∈l,Fe z≤l.foldl (λm z=>m+Fe z) m:=by
   intro l
   induction l with
   |nil=>exact λm=>⟨Ql _,λz hz=>by cases hz⟩
   |
    cons y l ih =>
    intro m;obtain⟨i1,i2⟩:=ih (m+Fe y);refine⟨by simp only[Z9];omega,λz hz=>?_⟩;simp only[Z9];rcases Qm.1 hz with rfl|hz
    ·omega
    ·exact i2 z hz
  exact(key _ 0).2 z hz)
 have h3:=EZ (r:=B5 a b (Me a b)) (n:=(Me a b).length) h2.2.1 h2.2.2;refine⟨h3.1,by unfold Ta;omega,λs ha hbs=>?_,?_⟩
 ·have h4:=Qjv (c:=Fq b) hbs (Nh hbs) k s [] a (by omega) ha;have h5:=GY (a:=a) (b:=b) (n:=(Me a b).length) h1.1 (Nat.le_refl _) (show Bd (s+k*(s+8)) (Me a b) by unfold Me;rw[<-hk];exact h4);rw[<-hk];exact(EZ h5.2.1 h5.2.2).2.2
 ·obtain⟨v,vp,hv⟩:=Qjs h2.1;have hc:=Eo tb hb;by_cases ht:k % 2=1/\Fq b<0
  ·have e1:B5 a b (Me a b)=Mv (Me a b):=by unfold B5;rw[<-hk,if_pos ht]
   have hneg:(Fq b)^k<0:=(EV ht.2 k).1 ht.1;have h5:(((Fq b)^k:Int):Rat)<((0:Int):Rat):=Jn.2 hneg;have h5:(((Fq b)^k:Int):Rat)<0:=by simpa using h5
   refine⟨-(((Fq b)^k:Int):Rat),v,by grind,vp,D6 (-1) X,λt=>?_⟩;have h6:=hX t;have h7:=hv t;rw[e1,FI]at h7;show _=_+v*U9 (VO (B5 a b (Me a b))) t;rw[e1,<-h7,Gt];grind
  ·have e1:B5 a b (Me a b)=Me a b:=by unfold B5;rw[<-hk,if_neg ht]
   have hpos:0<(Fq b)^k:=by
    rcases Ke hc with h|h
    ·exact(EV h k).2 (by omega)
    ·exact Int.pow_pos h
   have h5:((0:Int):Rat)<(((Fq b)^k:Int):Rat):=Jn.2 hpos;refine⟨(((Fq b)^k:Int):Rat),v,by simpa using h5,vp,X,λt=>?_⟩;have h7:=hv t;show _=_+v*U9 (VO (B5 a b (Me a b))) t;rw[<-h7,e1,hX]
theorem Ag{p:Um}(h1:p.length<=64)(h2:Bd 16777216 p):IN p=some p:=by
 unfold IN;rw[if_pos ⟨h1,Jt.2 λz hz=>Nat.ble_eq_true_of_le (h2 z hz)⟩]
theorem II{a b:Um}{g:Up}{c:Rat}(hc:c≠0)(h:∀t,U9 a t=c*U9 b t):ZC g (cz a)↔ZC g (cz b):=by
 constructor
 ·rintro⟨u,hu⟩
  refine⟨D6 (1 / c) u,λt=>?_⟩;have h1:=hu t;rw[Fa,h]at h1;rw[Fa,Gt];have h2:1 / c*c=1:=Zj hc;have:U9 b t=1 / c*(c*U9 b t):=by grind
  rw[this,h1];grind
 ·rintro⟨u,hu⟩
  refine⟨D6 c u,λt=>?_⟩;have h1:=hu t;rw[Fa]at h1;rw[Fa,Gt,h,h1];grind
structure Gc(g a b:List Int):Prop where
 t:Ff g
 da:ZC (cz g) (cz a)
 db:ZC (cz g) (cz b)
 c:∃U V,∀t,U9 g t=ev U t*U9 a t+ev V t*U9 b t
 n:g.length≠0
theorem Gc.scale{g a b g' a' b':Um}{x y z:Rat}(h:Gc g a b)(hx:x≠0)(hy:y≠0)(hz:z≠0)(tg:Ff g')(eg:∀t,U9 g t=x*U9 g' t)(ea:∀t,U9 a' t=y*U9 a t)(eb:∀t,U9 b' t=z*U9 b t):Gc g' a' b':=by
 have hx1:1 / x*x=1:=Zj hx;have hy1:1 / y*y=1:=Zj hy;have hz1:1 / z*z=1:=Zj hz;have hg:∀c,ZC (cz g) c->ZC (cz g') c:=λc ⟨u,hu⟩=>⟨D6 x u,λt=>by rw[hu,Fa,Fa,eg,Gt];grind⟩
 obtain⟨U,V,hc⟩:=h.c;refine⟨tg,hg _ ((II hy ea).2 h.da),hg _ ((II hz eb).2 h.db),⟨D6 (1 / x*(1 / y)) U,D6 (1 / x*(1 / z)) V,λt=>?_⟩,?_⟩
 ·have h1:=hc t;have h2:U9 g' t=1 / x*U9 g t:=by rw[eg];grind
  rw[h2,h1,Gt,Gt,ea,eb];generalize ev U t=u at *;generalize ev V t=v at *;grind
 ·rw[<-QL h.t tg hx eg];exact h.n
theorem Qvr:∀d:Nat,1<=d->d+2<=3^d
 | 0,h=>by omega
 | 1,_=>by decide
 |d+2,_=>by have:=Qvr (d+1) (by omega);rw[Zr];omega
theorem sU{k:Nat}{a b:Um}(ta:Ff a)(tb:Ff b)(hb:b.length≠0)(hl:a.length<=60)(hbl:b.length<=60)(hr:Bd 16777216 (Ta a b))(ih:∃g,TC k b (Ta a b)=some g/\Gc g b (Ta a b)):∃g,TC (k+1) a b=some g/\Gc g a b:=by
 obtain⟨h1,h2,h3,u,v,up,vp,X,hX⟩:=NW ta tb hb hl;obtain⟨g,e,hg⟩:=ih;refine⟨g,?_,?_⟩
 ·simp only[TC];rw[if_neg hb,Ag (by omega) hr];exact e
 ·obtain⟨U,V,hc⟩:=hg.c;obtain⟨y,hy⟩:=hg.da;obtain⟨z,hz⟩:=hg.db;have hu:1 / u*u=1:=Hf up;have hv:1 / v*v=1:=Hf vp;refine⟨hg.t,⟨D6 (1 / u) (Ss (G7 X y) (D6 v z)),λt=>?_⟩,hg.da,⟨D6 (u / v) V,Ss U (D6 (-1 / v) (G7 V X)),λt=>?_⟩,hg.n⟩
  ·have a1:=hX t;have a2:=hy t;have a3:=hz t;rw[Fa,Fa]at a2 a3;rw[Fa,Fa,Gt,Gz,Fh,Gt];have:U9 a t=1 / u*(u*U9 a t):=by grind
   rw[this,a1,a2,a3];grind
  ·have a1:=hX t;have a2:=hc t;rw[Gt,Gz,Gt,Fh,a2];have:U9 (Ta a b) t=1 / v*(v*U9 (Ta a b) t):=by grind
   rw[this,show v*U9 (Ta a b) t=u*U9 a t-ev X t*U9 b t by grind,J6,J6,J6];grind
theorem Qao{k:Nat}{a:Um}(ta:Ff a)(ha:a.length≠0):∃g,TC (k+1) a []=some g/\Gc g a [] :=
 ⟨a,rfl,ta,dvd_refl _,⟨[],λt=>by simp only[cz,X8,ev];grind⟩,⟨[1],[],λt=>by rw[Tf];simp only[ev];grind⟩,ha⟩
theorem TD{s:Nat}:∀(k:Nat) (a b:Um),Ff a->Ff b->b.length<k->b.length<a.length->a.length<=60->Bd s a->Bd s b->(s+8)*3^(a.length-1)<=16777216->∃g,TC k a b=some g/\Gc g a b
 | 0,_,_,_,_,h,_,_,_,_,_=>by omega
 |
  k+1,a,b,ta,tb,hk,hab,hl,ba,bb,hs=>by
  by_cases hb:b.length=0
  ·rw[Qj hb];exact Qao ta (by omega)
  ·obtain⟨h1,h2,h3,_⟩:=NW ta tb hb hl;have h3:=h3 s ba bb;obtain⟨m,hm⟩:=nmE (a.length-b.length);have e1:a.length+1-b.length=m+1:=by omega
   rw[e1]at h3;have e2:s+(m+1)*(s+8)+8=(m+2)*(s+8):=by
    rw[show m+2=(m+1)+1 by omega,Xa (m+1)];omega
   have e3:(m+2)*(s+8)*3^(b.length-1)<=(s+8)*3^(a.length-1):=by
    rw[show a.length-1=m+(b.length-1) by omega,Xf,<-Xz,Zq (s+8)];exact Q0 _ (Q0 _ (Qvr m (by omega)))
   have e4:s+(m+1)*(s+8)<=16777216:=by
    have:(m+2)*(s+8)<=(m+2)*(s+8)*3^(b.length-1):=Ys _ (Z2 (by decide));omega
   refine sU ta tb hb hl (by omega) (U5 h3 e4) (TD (s:=s+(m+1)*(s+8)) k b (Ta a b) tb h1 (by omega) h2 (by omega) (U5 bb (by omega)) h3 ?_);rw[e2];omega
def Szz(n s:Nat):Prop:=n<=10/\2*(s+8)*3^(n-1)<=16777216
theorem Qlg{n s:Nat}(hz:Szz n s){a b:Um}(ta:Ff a)(tb:Ff b)(la:a.length<=n)(lb:b.length<=n)(ba:Bd s a)(bb:Bd s b)(h0:a.length≠0\/b.length≠0):∃g,TC 66 a b=some g/\Gc g a b:=by
 obtain⟨hn,hz⟩:=hz;have hp:∀l,l<=n->(s+8)*3^(l-1)<=8388608:=λl hl=>by
  have:(s+8)*3^(l-1)<=(s+8)*3^(n-1):=Zu _ (Zs (by decide) (by omega));rw[Xz]at hz;omega
 rcases Zb b.length a.length with h|h
 ·exact TD 66 a b ta tb (by omega) h (by omega) ba bb (by have:=hp a.length la;omega)
 ·by_cases hb:b.length=0
  ·rw[Qj hb];exact Qao ta (by omega)
  ·obtain⟨h1,h2,h3,_⟩:=NW ta tb hb (by omega);have h3:=h3 s ba bb;have h4:(a.length+1-b.length)*(s+8)<=1*(s+8):=Q0 _ (by omega);have h5:=hp b.length lb;have h6:(s+8)*1<=(s+8)*3^(b.length-1):=Zu _ (Z2 (by decide));refine sU ta tb hb (by omega) (by omega) (U5 h3 (by omega)) (TD (s:=2*s+8) 65 b (Ta a b) tb h1 (by omega) h2 (by omega) (U5 bb (by omega)) (U5 h3 (by omega)) ?_);rw[show 2*s+8+8=2*(s+8) by omega,Xz];omega
theorem qL:Fi []=[]:=rfl
theorem GX{a:Um}(ta:Ff a):Ff (Fi a)/\(Fi a).length=a.length/\(∀s,Bd s a->Bd s (Fi a))/\∃c:Rat,c≠0/\∀t,U9 a t=c*U9 (Fi a) t:=by
 by_cases h:a.length=0
 ·rw[Qj h];exact⟨rfl,rfl,λs _=>KV,1,by decide,λt=>by rw[qL];grind⟩
 ·obtain⟨h1,h2,h3,h4,h5,h6,h7⟩:=Cx ta h;exact⟨h1,h2,h5,_,XT h6,h7⟩
theorem WL{n s:Nat}(hz:Szz n s){a b:Um}(ta:Ff a)(tb:Ff b)(la:a.length<=n)(lb:b.length<=n)(ba:Bd s a)(bb:Bd s b)(h0:a.length≠0\/b.length≠0):∃g,JR a b=some g/\Gc g a b/\Prm g/\0<Fq g:=by
 obtain⟨a1,a2,a3,x,xn,ax⟩:=GX ta;obtain⟨b1,b2,b3,y,yn,bx⟩:=GX tb;obtain⟨g,e,hg⟩:=Qlg hz a1 b1 (by omega) (by omega) (a3 s ba) (b3 s bb) (by omega);obtain⟨g1,g2,g3,g4,g5,g6,g7⟩:=Cx hg.t hg.n;refine⟨Fi g,?_,hg.scale (XT g6) xn yn g1 g7 ax bx,g3,g4⟩;unfold JR;rw[e];rfl
theorem Qdo{a:Um}(ta:Ff a):JR [] a=some (Fi (Fi a)):=by
 unfold JR;rw[qL];by_cases h:(Fi a).length=0
 ·have e:Fi a=[]:=Qj h;rw[e];rfl
 ·have e:Ta [] (Fi a)=[]:=by
   have e1:Me [] (Fi a)=[]:=by unfold Me;rw[show([]:Um).length+1-(Fi a).length=0 by simp;omega];rfl
   unfold Ta;rw[e1];unfold B5
   split <;> rfl
  have:TC 66 [] (Fi a)=some (Fi a):=by
   show(if (Fi a).length=0 then _ else _)=_;rw[if_neg h,e];rfl
  rw[this];rfl
theorem Qh1{n s:Nat}(hz:Szz n s){a b:Um}(ta:Ff a)(tb:Ff b)(la:a.length<=n)(lb:b.length<=n)(ba:Bd s a)(bb:Bd s b)(h0:a.length≠0):∃g,yE a b=some g/\Gc g a b/\Prm g/\0<Fq g:=by
 obtain⟨a1,a2,a3,x,xn,ax⟩:=GX ta;obtain⟨b1,b2,b3,y,yn,bx⟩:=GX a1;obtain⟨g,e,hg,h1,h2⟩:=WL hz b1 tb (by omega) lb (b3 s (a3 s ba)) bb (by omega);refine⟨g,?_,hg.scale (x:=1) (y:=x*y) (z:=1) (by decide) (λh=>(Y3.1 h).elim xn yn) (by decide) hg.t (λt=>by grind) (λt=>by rw[ax,bx];grind) (λt=>by grind),h1,h2⟩;unfold yE;rw[Qdo ta];exact e
theorem Qak:∀{p q:Up} {m n:Nat},HD p m->HD q n->(G7 p q).getD (m+n) 0=p.getD m 0*q.getD n 0
 | [],q,m,n,h,_=>absurd (by simp) h.1
 |
  a::p,q,0,n,h,h'=>by
  have h1:∀k,p.getD k 0=0:=λk=>by have:=h.2 (k+1) (by omega);rwa[Q4]at this
  simp only[G7];rw[Rl,Sl,Zt,Zz];cases n with
  |zero=>rw[Zt];grind
  |succ n=>rw[Q4,SS h1];grind
 |
  a::p,q,m+1,n,h,h'=>by
  have ih:=Qak (p:=p) (q:=q) (m:=m) ⟨by have:=h.1;rwa[Q4]at this,λk hk=>by have:=h.2 (k+1) (by omega);rwa[Q4]at this⟩ h';simp only[G7];rw[Rl,Sl,show m+1+n=(m+n)+1 by omega,Q4,h'.2 _ (by omega),ih,Q4];grind
theorem fP{a b c:Um}(ta:Ff a)(tb:Ff b)(tc:Ff c)(h:∀t,U9 c t=U9 a t*U9 b t)(la:0<a.length)(lb:0<b.length):Fq c=Fq a*Fq b:=by
 have h1:=SR ta la;have h2:=SR tb lb;have h3:=Qak h1 h2;have hl:=Ms ta tb tc h la lb;rw[<-Dz (p:=cz c) (λt=>by rw[Fh,Fa,Fa,Fa,h]),Mq,Mq,Mq,show a.length-1+(b.length-1)=c.length-1 by omega]at h3;unfold Fq;exact_mod_cast h3
theorem Tg{a b c:Um}(tc:Ff c)(hc:c.length≠0)(h:∀t,U9 c t=U9 a t*U9 b t):0<a.length/\0<b.length:=by
 constructor
 ·rcases Q3 a.length with e|e
  ·exact absurd (λt=>by rw[h,D4 e];grind) (SV tc (by omega))
  ·exact e
 ·rcases Q3 b.length with e|e
  ·exact absurd (λt=>by rw[h,D4 e];grind) (SV tc (by omega))
  ·exact e
theorem yL{b:Um}(tb:Ff b)(hb:b.length≠0):∀(i:Nat) (a q h:Um),Ff a->Ff h->(∀t,U9 a t=U9 b t*U9 h t)->a.length<b.length+i->i<=q.length->(∀j,j<i->q.getD j 0=0)->∃q',yD b i a q=some q'/\q'.length=q.length/\∀t,U9 q' t=U9 q t+U9 h t
 |
  0,a,q,h,ta,th,e,hl,_,_=>by
  have ha:a.length=0:=by
   rcases Q3 a.length with e'|e'
   ·exact e'
   ·obtain⟨p1,p2⟩:=Tg ta (by omega) e;have:=Ms tb th ta e p1 p2;omega
  refine⟨q,by simp only[yD];rw[if_pos ha],rfl,λt=>?_⟩;have:∀t,U9 h t=0:=λt=>by
   have:=mF (p:=cz b) (q:=cz h) (r:=[]) (λh0=>SV tb (by omega) λt=>by rw[<-Fa];exact h0 t) (λt=>by rw[Fa,Fa,<-e,D4 ha];simp only[ev];grind) t;rwa[Fa]at this
  rw[this];grind
 |
  i+1,a,q,h,ta,th,e,hl,hq,h0=>by
  simp only[yD];by_cases hlt:a.length<b.length+i
  ·rw[if_pos hlt];exact yL tb hb i a q h ta th e hlt (by omega) λj hj=>h0 j (by omega)
  ·rw[if_neg hlt];obtain⟨p1,p2⟩:=Tg ta (by omega) e;have hln:=Ms tb th ta e p1 p2;have hld:=fP tb th ta e p1 p2;have hlb:=Eo tb hb;rw[hld,if_pos (Int.mul_emod_right _ _),Je _ hlb];have hli:h.length=i+1:=by omega
   have e2:∀t,U9 (Na a (Gl (trim (mono i (Fq h))) b)) t=U9 b t*U9 (Na h (mono i (Fq h))) t:=λt=>by
    rw[Nn,Nn,Gk,Ot,e];grind
   have hl2:(Na a (Gl (trim (mono i (Fq h))) b)).length<b.length+i:=by
    have hl:=iQ (i:=i) (x:=Fq h) (b:=b) (a:=a);unfold sta at hl;have:=Qin (p:=Na a (Gl (trim (mono i (Fq h))) b)) (n:=b.length+i-1) (Fy _ _) (by omega) (by
     rw[O2,iU,if_pos (by omega),show b.length+i-1-i=b.length-1 by omega,show b.length+i-1=a.length-1 by omega];have:Fq a=a.getD (a.length-1) 0:=rfl;rw[<-this,hld];unfold Fq;rw[K8,Int.sub_eq_zero])
    omega
   obtain⟨q',h1,h2,h3⟩:=yL tb hb i _ (q.set i (Fq h)) (Na h (mono i (Fq h))) (Fy _ _) (Fy _ _) e2 hl2 (by simp;omega) λj hj=>by
    rw[Qi,Yn,if_neg (by omega),<-Qi];exact h0 j (by omega)
   refine⟨q',h1,by rw[h2,Xd],λt=>?_⟩;rw[h3,yC q i _ t (by omega),h0 i (by omega),Nn,JW]
   push_cast;grind
theorem Qj4{a b h:Um}{s:Nat}(ta:Ff a)(tb:Ff b)(th:Ff h)(ha:a.length≠0)(la:a.length<=10)(ba:Bd s a)(hs:s+69<=16777216)(e:∀t,U9 a t=U9 b t*U9 h t):JG a b=some h:=by
 obtain⟨p1,p2⟩:=Tg ta ha e;have hln:=Ms tb th ta e p1 p2;obtain⟨q,h1,h2,h3⟩:=yL tb (by omega) (a.length+1-b.length) a (List.replicate (a.length+1-b.length) 0) h ta th e (by omega) (by simp) λj _=>Cn _ _
 have h4:trim q=h:=oZ (Rq _) th λt=>by rw[Ot,h3,qN];grind
 unfold JG;rw[if_neg (by omega),h1];show IN (trim q)=_;rw[h4];exact Ag (by omega) (U5 (XW ba la ta th tb ha λt=>by rw[e];grind) (by omega))
structure Pr1(p:List Int):Prop where
 t:Ff p
 m:Prm p
 l:0<Fq p
theorem Pr1.n{p:Um}(h:Pr1 p):p.length≠0:=λe=>by
 have:=h.l;rw[Qj e]at this;exact absurd this (by decide)
theorem Pr1.one{p:Um}(h:Pr1 p)(hl:p.length<2):p=[1]:=by
 have hn:=h.n;obtain⟨c,rfl⟩:∃c,p=[c]:=Kr.1 (by omega);have h1:=h.m c λk=>by cases k <;> simp
 have h2:0<c:=h.l;have:=Int.le_of_dvd (by decide) h1;rw[show c=1 by omega]
theorem Qps{p g h:Um}(hp:Prm p)(e:∀t,U9 p t=U9 g t*U9 h t):Prm h:=λd hd=>by
 refine hp d λk=>?_
 have:=Lp (p:=p) (q:=Gl g h) (λt=>by rw[e,Gk]) k;rw[this];have e2:∀t,U9 (Gl g h) t=(d:Rat)*U9 (Gl g (h.map (· / d))) t:=λt=>by
  have h1:U9 h t=(d:Rat)*U9 (h.map (· / d)) t:=by
   have:=Cv d 0 t (max h.length (h.map (· / d)).length) (h.map (· / d)) [] h (by omega) (by simp) (by omega) λk=>by
    rw[FZ,K9 (hd k)];simp
   rw[this];simp only[U9];push_cast;grind
  rw[Gk,Gk,h1];grind
 have:=Lp (p:=Gl g h) (q:=Fw (Gl g (h.map (· / d))) d) (λt=>by rw[e2,Ro];grind) k;rw[this,Mh];exact Y9 _ _
theorem Qpr{p g h:Um}(hp:Pr1 p)(hg:0<Fq g)(tg:Ff g)(th:Ff h)(e:∀t,U9 p t=U9 g t*U9 h t):Pr1 h:=by
 obtain⟨p1,p2⟩:=Tg hp.t hp.n e;have:=fP tg th hp.t e p1 p2;refine⟨th,Qps hp.m e,?_⟩;have hl:=hp.l;rw[this]at hl;rcases Km (Fq h) 0 with h1|h1|h1
 ·have:=V8 hg h1;omega
 ·rw[h1]at hl;omega
 ·exact h1
structure Sqp(p g q:List Int):Prop where
 pp:Pr1 p
 pg:Pr1 g
 pq:Pr1 q
 e:∀t,U9 p t=U9 g t*U9 q t
 c:∃U V,∀t,U9 g t=ev U t*U9 p t+ev V t*dv (cz p) t
 d:∃z,∀t,dv (cz p) t=U9 g t*ev z t
theorem Sqp.num{p g q:Um}(h:Sqp p g q){d:Up}(h1:ZC d (cz q))(h2:ZC d (Bp (cz q))):∃c:Rat,c≠0/\∀t,ev d t=c:=by
 obtain⟨U,V,hc⟩:=h.c;have hpow:=sqf (k:=1) (a:=cz p) (g:=cz g) (q:=cz q) (d:=d) (U:=U) (V:=V) (by decide) (λt=>by rw[Fa,Fa,Fa,h.e]) (λt=>by rw[Fa,Fa,hc];grind) h1 h2;rcases DD d with h3|⟨m,_,h3⟩
 ·obtain⟨u,hu⟩:=h1;exact absurd (λt=>by rw[<-Fa,hu,h3];grind) (SV h.pq.t (by have:=h.pq.n;omega))
 ·obtain rfl:=qD h3 (SR h.pg.t (by have:=h.pg.n;omega)) hpow;refine⟨d.getD 0 0,h3.1,λt=>?_⟩;cases d with
  |nil=>exact absurd (by simp) h3.1
  |
   cons c l =>
   have:=Lb (p:=l) λk=>by have:=h3.2 (k+1) (by omega);rwa[Q4]at this
   simp only[ev,this,Zt];grind
theorem Sqp.bez{p g q:Um}(h:Sqp p g q):∃X Y,∀t,ev X t*ev (cz q) t+ev Y t*dv (cz q) t=1:=by
 obtain⟨d,U,V,h1,h2,h3⟩:=Qh0 (cz q) (Bp (cz q));obtain⟨c,hc,hd⟩:=h.num h1 h2;refine⟨D6 (1 / c) U,D6 (1 / c) V,λt=>?_⟩;have h5:=h3 t;rw[hd,Ts]at h5;have h4:1 / c*c=1:=Zj hc;rw[Gt,Gt];have:1 / c*ev U t*ev (cz q) t+1 / c*ev V t*dv (cz q) t=1 / c*(ev U t*ev (cz q) t+ev V t*dv (cz q) t):=by grind
 rw[this,<-h5,h4]
theorem Qk9{n s:Nat}(h:Szz n s):s<=8388600:=by
 have:2*(s+8)*1<=2*(s+8)*3^(n-1):=Zu _ (Z2 (by decide));have:=h.2;omega
theorem pK{s:Nat}{p:Um}(h:Bd s p)(hl:p.length<=10):Bd (s+4) (Gw p):=xU h (t:=4) (by omega)
theorem Qaf{n s:Nat}(hz:Szz n (s+73)){p:Um}(pp:Pr1 p)(l2:2<=p.length)(lp:p.length<=n)(bp:Bd (s+69) p){p0 h0:Um}(b0:Bd s p0)(l0:p0.length<=10)(t0:Ff p0)(th0:Ff h0)(z0:p0.length≠0)(e0:∀t,U9 p0 t=U9 h0 t*U9 p t) :
 ∃g q,IN (Gw p)=some (Gw p)/\JR p (Gw p)=some g/\JG p g=some q/\Sqp p g q/\g.length<p.length:=by
 have hn:=hz.1;have hs:=Qk9 hz;have bd:=pK bp (by omega);have ld:=Nj p;have td:Ff (Gw p):=Fy _ _;obtain⟨g,e1,hg,m,l⟩:=WL hz pp.t td lp (by omega) (U5 bp (by omega)) bd (.inl pp.n);obtain⟨q,tq,eq⟩:=Qhu m hg.da;have hdnz:(Gw p).length≠0:=λh=>by
  have h1:=Bz p (p.length-2);rw[Qj h,show p.length-2+1=p.length-1 by omega]at h1;have h2:p.getD (p.length-1) 0≠0:=H8 pp.t (by omega);rcases Yf.1 (h1.symm.trans (by simp))with h3|h3
  ·exact h2 h3
  ·omega
 have pg:Pr1 g:=⟨hg.t,m,l⟩;have hql:=Qj4 (s:=s+69) pp.t hg.t tq pp.n (by omega) bp (by omega) eq;refine⟨g,q,Ag (by omega) (U5 bd (by omega)),e1,hql,⟨pp,pg,Qpr pp l hg.t tq eq,eq,?_,?_⟩,?_⟩
 ·obtain⟨U,V,hc⟩:=hg.c;exact⟨U,V,λt=>by rw[hc,Oq]⟩
 ·obtain⟨z,hz⟩:=hg.db;exact⟨z,λt=>by rw[<-Oq,<-Fa,hz,Fa]⟩
 ·obtain⟨z,tz,ez⟩:=Qhu m hg.db;obtain⟨q1,q2⟩:=Tg td hdnz ez;have:=Ms hg.t tz td ez q1 q2;omega
theorem Qpg:Sqp [1] [1] [1]:=by
 have p1:Pr1 [1]:=⟨rfl,λd hd=>by have:=hd 0;rwa[Zt]at this,by decide⟩;have e1:∀t,U9 [1] t=1:=λt=>by simp only[U9];push_cast;grind
 exact⟨p1,p1,p1,λt=>by rw[e1];grind,⟨[1],[],λt=>by rw[e1,Tf];simp only[ev];grind⟩,⟨[],λt=>by simp only[cz,Z0,X8,dv,ev];grind⟩⟩
structure Okp(n s:Nat)(p:List Int):Prop where
 z:Szz n (s+73)
 t:Ff p
 nz:p.length≠0
 l:p.length<=n
 b:Bd s p
theorem Okp.pr{n s:Nat}{p:Um}(h:Okp n s p):Pr1 (Fi p)/\(Fi p).length=p.length/\Bd s (Fi p):=by
 obtain⟨h1,h2,h3,h4,h5,_⟩:=Cx h.t h.nz;exact⟨⟨h1,h3,h4⟩,h2,h5 s h.b⟩
theorem VX{n s:Nat}{p:Um}(h:Okp n s p):∃g q,Pq p=some q/\Sqp (Fi p) g q:=by
 obtain⟨pp,hl,hb⟩:=h.pr;have hn:=h.z.1;have:=h.l;unfold Pq;by_cases h2:(Fi p).length<2
 ·rw[if_pos h2,pp.one h2];exact⟨[1],[1],rfl,Qpg⟩
 ·rw[if_neg h2];obtain⟨g,q,h3,h4,h5,h6,_⟩:=Qaf h.z pp (by omega) (by omega) (U5 hb (by omega)) (p0:=Fi p) (h0:=[1]) hb (by omega) pp.t rfl pp.n λt=>by simp only[U9];push_cast;grind
  exact⟨g,q,by rw[h3];show(JR (Fi p) (Gw (Fi p))).bind _=_;rw[h4];exact h5,h6⟩
inductive LW:List Int->List (List Int)->Prop
 |nil:LW [1] []
 |cons {g h w:List Int} {ws:List (List Int)} (hs:Sqp g h w) (hl:LW h ws):LW g (w::ws)
theorem Qvd{g:Um}{ws:Un}(h:LW g ws):∀t,U9 g t=ev (On (ws.map cz)) t:=by
 induction h with
 |nil=>intro t;simp only[X8,On,U9];rw[Tf];push_cast;grind
 |cons hs hl ih=>intro t;simp only[Z0,On];rw[Fh,Fa,hs.e,ih];grind
theorem iW{g:Um}{w v:Um}{ws:Un}(h:LW g (w::v::ws)):∃f,Ff f/\∀t,U9 w t=U9 f t*U9 v t:=by
 cases h with
 |
  @cons _ h _ _ hs hl =>
  cases hl with
  |
   @cons _ h2 _ _ hs2 hl2 =>
   obtain⟨X,Y,hb⟩:=hs2.bez;obtain⟨z,hz⟩:=hs.d;have hd:=Qqo (a:=cz g) (g:=cz h) (q:=cz w) (z:=z) (r:=cz v) (X:=X) (Y:=Y) (n:=h.length-1) (λt=>by rw[Fa,Fa,Fa,hs.e]) (λt=>by rw[hz,Fa]) (SR hs.pg.t (by have:=hs.pg.n;omega)) hb
    ⟨G7 (cz h2) (cz w),λt=>by rw[Fh,Fa,Fa,Fa,Fa,hs.e,hs2.e];grind⟩
   obtain⟨f,tf,ef⟩:=Qhu hs2.pq.m hd;exact⟨f,tf,λt=>by rw[ef];grind⟩
theorem fD{g w:Um}{ws:Un}(h:LW g (w::ws)):∀v∈w::ws,Pr1 v/\ZC (cz v) (cz w):=by
 have key:∀(ws:Un) (g w:Um),LW g (w::ws)->∀v∈w::ws,Pr1 v/\ZC (cz v) (cz w):=by
  intro ws
  induction ws with
  |
   nil =>
   intro g w h v hv;rw[Qk.1 hv];cases h with
   |cons hs hl=>exact⟨hs.pq,dvd_refl _⟩
  |
   cons u ws ih =>
   intro g w h v hv;have hn:=iW h;cases h with
   |
    @cons _ h _ _ hs hl =>
    rcases Qm.1 hv with rfl|hv
    ·exact⟨hs.pq,dvd_refl _⟩
    ·obtain⟨i1,i2⟩:=ih h u hl v hv;obtain⟨f,_,hf⟩:=hn;exact⟨i1,dvd_trans i2 ⟨cz f,λt=>by rw[Fa,Fa,Fa,hf];grind⟩⟩
 exact key ws g w h
theorem lay_ok{n s:Nat}(hz:Szz n (s+73)){p0:Um}(b0:Bd s p0)(l0:p0.length<=10)(t0:Ff p0)(z0:p0.length≠0):∀(k:Nat) (g h0:Um),Pr1 g->g.length<=k->g.length<=n->Ff h0->(∀t,U9 p0 t=U9 h0 t*U9 g t)->∃ws,RN k g=some ws/\LW g ws
 | 0,g,_,pg,hk,_,_,_=>absurd pg.n (by omega)
 |
  k+1,g,h0,pg,hk,hn,th0,e0=>by
  simp only[RN];by_cases h2:g.length<2
  ·rw[if_pos h2,pg.one h2];exact⟨[],rfl,.nil⟩
  ·rw[if_neg h2];have bg:Bd (s+69) g:=XW b0 l0 t0 pg.t th0 z0 λt=>by rw[e0];grind
   obtain⟨h,w,h3,h4,h5,h6,h7⟩:=Qaf hz pg (by omega) hn bg b0 l0 t0 th0 z0 e0;obtain⟨ws,i1,i2⟩:=lay_ok hz b0 l0 t0 z0 k h (Gl h0 w) h6.pg (by omega) (by omega) (Hz _ _) λt=>by rw[e0,Gk,h6.e];grind
   refine⟨w::ws,?_,.cons h6 i2⟩;rw[h3];show(JR g (Gw g)).bind _=_;rw[h4];show(JG g h).bind _=_;rw[h5];show(RN k h).bind _=_;rw[i1];rfl
theorem Qhn{s:Nat}{p0:Um}(b0:Bd s p0)(l0:p0.length≤10)(t0:Ff p0)(z0:p0.length≠0)(hs:s+69+69≤16777216):∀(ws:Un) (g h0:Um),LW g ws->Ff h0->(∀t,U9 p0 t=U9 h0 t*U9 g t)->∃fs,AN ws=some fs/\Lay (ws.map cz) (fs.map cz)/\∀f∈fs,Ff f
 | [],g,_,_,_,_=>⟨[],rfl,trivial,λf hf=>by cases hf⟩
 |
  [w],g,_,hl,_,_=>by
  cases hl with
  |cons hs hl=>exact⟨[w],rfl,λt=>rfl,λf hf=>by rw[Qk.1 hf];exact hs.pq.t⟩
 |
  w::v::ws,g,h0,hl,th0,e0=>by
  obtain⟨f,tf,ef⟩:=iW hl;cases hl with
  |
   @cons _ h _ _ hs1 hl =>
   have hpv:=(fD hl v (Qy ..)).1;obtain⟨fs,i1,i2,i3⟩:=Qhn b0 l0 t0 z0 hs (v::ws) h (Gl h0 w) hl (Hz _ _) λt=>by rw[e0,Gk,hs1.e];grind
   have ew:∀t,U9 p0 t=U9 w t*U9 (Gl h0 h) t:=λt=>by rw[e0,Gk,hs1.e];grind
   have bw:Bd (s+69) w:=XW b0 l0 t0 hs1.pq.t (Hz _ _) z0 ew;obtain⟨p1,p2⟩:=Tg t0 z0 ew;have lw:=Ms hs1.pq.t (Hz _ _) t0 ew p1 p2;have hq:=Qj4 (s:=s+69) hs1.pq.t hpv.t tf hs1.pq.n (by omega) bw hs λt=>by rw[ef];grind
   refine⟨f::fs,?_,⟨λt=>by rw[Fa,Fa,Fa,ef],i2⟩,λx hx=>?_⟩
   ·show(JG w v).bind _=_;rw[hq];show(AN (v::ws)).bind _=_;rw[i1];rfl
   ·rcases Qm.1 hx with rfl|hx
    ·exact tf
    ·exact i3 x hx
def Nm:Un->Um
 | []=>[1]
 | [f]=>f
 |f::_::l=>Gl f (Nm l)
theorem gG:∀(fs:Un) (t:Rat),ev (PC (fs.map cz)) t=U9 (Nm fs) t
 | [],t=>by simp only[X8,PC,Nm,U9];rw[Tf];push_cast;grind
 | [f],t=>by simp only[Z0,X8,PC,Nm];rw[Fa]
 |f::g::l,t=>by simp only[Z0,PC,Nm];rw[Fh,Fa,Gk,gG l]
theorem Nz(t:Rat):U9 [1] t=1:=by simp only[U9];push_cast;grind
theorem OU:∀{w:Um} {ws fs:Un},Lay ((w::ws).map cz) (fs.map cz)->(∀f∈fs,Ff f)->(∀v∈w::ws,Ff v)->∃E,Ff E/\∀t,U9 w t=U9 (Nm fs) t*U9 E t
 |
  w,[],[f],h,_,_=>⟨[1],rfl,λt=>by
  have:=h t;rw[Fa,Fa]at this;rw[this,Nz];simp only[Nm];grind⟩
 |
  w,[v],[f,f2],h,_,hw=>⟨v,hw v (by simp),λt=>by
  have:=h.1 t;rw[Fa,Fa,Fa]at this;rw[this];simp only[Nm];rw[Gk,Nz];grind⟩
 |
  w,v::x::l,f::f2::fs,h,hf,hw=>by
  obtain⟨E,hE,e⟩:=OU (w:=x) (ws:=l) (fs:=fs) h.2.2 (λg hg=>hf g (by simp[hg])) (λg hg=>hw g (by simp at hg ⊢;exact .inr (.inr hg)));refine⟨Gl f2 E,Hz _ _,λt=>?_⟩;have a1:=h.1 t;have a2:=h.2.1 t;rw[Fa,Fa,Fa]at a1 a2;have e2:U9 (Nm (f::f2::fs)) t=U9 f t*U9 (Nm fs) t:=by simp only[Nm];rw[Gk]
  rw[a1,a2,e,e2,Gk];grind
 |w,[],[],h,_,_=>h.elim
 |w,[],_::_::_,h,_,_=>h.elim
 |w,[v],[],h,_,_=>h.elim
 |w,[v],[f],h,_,_=>h.2.elim
 |w,[v],_::_::_::_,h,_,_=>h.2.elim
 |w,v::x::l,[f],h,_,_=>h.2.elim
 |w,v::x::l,[],h,_,_=>h.elim
theorem YD{s:Nat}{p0:Um}(b0:Bd s p0)(l0:p0.length≤10)(t0:Ff p0)(z0:p0.length≠0)(hs:s+69≤16777216):∀(fs:Un) (i:Nat) (a E:Um),i % 2=0->Ff a->Ff E->(∀f∈fs,Ff f)->(∀t,U9 p0 t=U9 a t*U9 (Nm fs) t*U9 E t)->∃o,FC i a fs=some o/\Ff o/\∀t,U9 o t=U9 a t*U9 (Nm fs) t
 | [],i,a,E,hi,ta,_,_,_=>⟨a,rfl,ta,λt=>by simp only[Nm];rw[Nz];grind⟩
 |
  [f],i,a,E,hi,ta,tE,tf,hE=>by
  have e1:∀t,U9 p0 t=U9 (Gl a f) t*U9 E t:=λt=>by rw[hE,Gk];rfl
  have b1:=XW b0 l0 t0 (Hz a f) tE z0 e1;obtain⟨p1,p2⟩:=Tg t0 z0 e1;have hl:=Ms (Hz a f) tE t0 e1 p1 p2;refine⟨Gl a f,?_,Hz _ _,λt=>by rw[Gk];rfl⟩;simp only[FC];rw[if_pos hi,Ag (by omega) (U5 b1 (by omega))];rfl
 |
  f::g::fs,i,a,E,hi,ta,tE,tf,hE=>by
  have e0:∀t,U9 (Nm (f::g::fs)) t=U9 f t*U9 (Nm fs) t:=λt=>by simp only[Nm];rw[Gk]
  have e1:∀t,U9 p0 t=U9 (Gl a f) t*U9 (Gl (Nm fs) E) t:=λt=>by rw[hE,e0,Gk,Gk];grind
  have b1:=XW b0 l0 t0 (Hz a f) (Hz _ _) z0 e1;obtain⟨p1,p2⟩:=Tg t0 z0 e1;have hl:=Ms (Hz a f) (Hz _ _) t0 e1 p1 p2;obtain⟨o,o1,o2,o3⟩:=YD b0 l0 t0 z0 hs fs (i+2) (Gl a f) E (by omega) (Hz _ _) tE (λx hx=>tf x (by simp[hx])) λt=>by rw[hE,e0,Gk];grind
  refine⟨o,?_,o2,λt=>by rw[o3,e0,Gk];grind⟩;have h1:FC (i+1) (Gl a f) (g::fs)=FC (i+2) (Gl a f) fs:=by
   show(if (i+1) % 2=0 then _ else _)=_;rw[if_neg (by omega)]
  show(if i % 2=0 then(IN (Gl a f)).bind λq=>FC (i+1) q (g::fs)else _)=_;rw[if_pos hi,Ag (by omega) (U5 b1 (by omega))];exact h1.trans o1
structure Parts(p q o:List Int):Prop where
 sq:∃g,Sqp (Fi p) g q
 ws:∃ws:List (List Int),(∀w∈ws,Pr1 w/\ZC (cz w) (cz q))/\∀t,U9 (Fi p) t=ev (On (ws.map cz)) t
 oq:ZC (cz o) (cz q)
 ot:Ff o
 oh:∃h,Ff h/\∀t,U9 (Fi p) t=U9 o t*U9 h t
 os:∃S,∀t,U9 (Fi p) t=U9 o t*(ev S t*ev S t)
theorem Qjd{n s:Nat}{p:Um}(h:Okp n s p):∃q o,Pq p=some q/\bM p=some o/\Parts p q o:=by
 obtain⟨pp,hl,hb⟩:=h.pr;have hn:=h.z.1;have hpl:=h.l;have hs:=Qk9 h.z;obtain⟨g,q,hq,sq⟩:=VX h;obtain⟨ws,w1,w2⟩:=lay_ok h.z hb (by omega) pp.t pp.n 66 (Fi p) [1] pp (by omega) (by omega) rfl λt=>by rw[Nz];grind
 obtain⟨fs,f1,f2,f3⟩:=Qhn hb (by omega) pp.t pp.n (by omega) ws (Fi p) [1] w2 rfl λt=>by rw[Nz];grind
 have hw:=Qvd w2;have hfirst:(∀w∈ws,Pr1 w/\ZC (cz w) (cz q))/\∃E,Ff E/\∀t,U9 q t=U9 (Nm fs) t*U9 E t:=by
  cases ws with
  |
   nil =>
   have e:fs=[]:=by
    cases fs with
    |nil=>rfl
    |cons f l=>exact f2.elim
   subst e;exact⟨(λw hw=>by cases hw),q,sq.pq.t,λt=>by simp only[Nm];rw[Nz];grind⟩
  |
   cons w ws =>
   have hwq:w=q:=by
    have w3:(if (Fi p).length<2 then some []else(IN (Gw (Fi p))).bind λd=>(JR (Fi p) d).bind λh=>(JG (Fi p) h).bind λw=>(RN 65 h).bind λl=>some (w::l))=some (w::ws):=w1;have hlen:¬(Fi p).length<2:=λh2=>by
     rw[if_pos h2]at w3;injection w3 with w3;cases w3
    rw[if_neg hlen]at w3;unfold Pq at hq;rw[if_neg hlen]at hq;obtain⟨d,d1,w3⟩:=Qd.1 w3;obtain⟨h,d2,w3⟩:=Qd.1 w3;obtain⟨w',d3,w3⟩:=Qd.1 w3;obtain⟨l,d4,w3⟩:=Qd.1 w3;rw[d1]at hq;have hq:(JR (Fi p) d).bind (λg=>JG (Fi p) g)=some q:=hq;rw[d2]at hq;have hq:JG (Fi p) h=some q:=hq;rw[d3]at hq;injection hq with hq;injection w3 with w3;injection w3 with w3 _;rw[<-w3,hq]
   subst hwq;have hall:=fD w2;exact⟨hall,OU f2 f3 λv hv=>(hall v hv).1.t⟩
 obtain⟨ha,E,tE,hE⟩:=hfirst;obtain⟨o,o1,o2,o3⟩:=YD hb (by omega) pp.t pp.n (by omega) fs 0 [1] (Gl E g) rfl rfl (Hz _ _) f3 λt=>by rw[Nz,Gk,sq.e,hE];grind
 have o3:∀t,U9 o t=U9 (Nm fs) t:=λt=>by rw[o3,Nz];grind
 refine⟨q,o,hq,?_,⟨g,sq⟩,⟨ws,ha,hw⟩,⟨cz E,λt=>by rw[Fa,Fa,Fa,hE,o3]⟩,o2,⟨Gl E g,Hz _ _,λt=>by rw[sq.e,hE,o3,Gk];grind⟩,?_⟩
 ·unfold bM;rw[if_neg pp.n,w1];show(AN ws).bind _=_;rw[f1];exact o1
 ·obtain⟨S,hS⟩:=aA f2;exact⟨S,λt=>by rw[hw,hS,gG,o3]⟩
theorem eK{s:Nat}:∀(k:Nat) (a b:Um),Ff a->Ff b->b.length≠0->b.length<k->b.length<a.length->a.length<=60->Bd s a->Bd s b->(s+8)*3^(a.length-1)<=16777216->(∀d,ZC d (cz a)->ZC d (cz b)->∃c:Rat,c≠0/\∀t,ev d t=c)->∃l,sB k a b=some (b::l)/\SCl (cz a) (cz b) (l.map cz)
 | 0,_,_,_,_,_,h,_,_,_,_,_,_=>by omega
 |
  k+1,a,b,ta,tb,hb,hk,hab,hl,ba,bb,hs,hd=>by
  obtain⟨h1,h2,h3,u,v,up,vp,X,hX⟩:=NW ta tb hb hl;have h3:=h3 s ba bb;obtain⟨m,hm⟩:=nmE (a.length-b.length);have e1:a.length+1-b.length=m+1:=by omega
  rw[e1]at h3;have e2:s+(m+1)*(s+8)+8=(m+2)*(s+8):=by
   rw[show m+2=(m+1)+1 by omega,Xa (m+1)];omega
  have e3:(m+2)*(s+8)*3^(b.length-1)<=(s+8)*3^(a.length-1):=by
   rw[show a.length-1=m+(b.length-1) by omega,Xf,<-Xz,Zq (s+8)];exact Q0 _ (Q0 _ (Qvr m (by omega)))
  have e4:s+(m+1)*(s+8)<=16777216:=by
   have:(m+2)*(s+8)<=(m+2)*(s+8)*3^(b.length-1):=Ys _ (Z2 (by decide));omega
  simp only[sB];rw[if_neg hb,Ag (by omega) (U5 h3 e4)];show ∃l,((sB k b (Mv (Ta a b))).bind λl=>some (b::l))=some (b::l)/\_;have lneg:(Mv (Ta a b)).length<=(Ta a b).length:=XD _;by_cases hr:(Ta a b).length=0
  ·have e:Mv (Ta a b)=[]:=Qj (by omega);rw[e];refine⟨[],?_,?_⟩
   ·obtain⟨j,rfl⟩:∃j,k=j+1:=⟨k-1,by omega⟩;rfl
   ·obtain⟨c,hc,hcc⟩:=hd (cz b) ⟨D6 (1 / u) X,λt=>by
     have:=hX t;rw[D4 hr]at this;have hu:1 / u*u=1:=Hf up;rw[Fa,Fa,Gt];have:U9 a t=1 / u*(u*U9 a t):=by grind
     rw[this,hX,D4 hr];grind⟩ (dvd_refl _)
    exact .base hc hcc
  ·have tn:Ff (Mv (Ta a b)):=Fy _ _;have hn0:(Mv (Ta a b)).length≠0:=λh0=>by
    have:=QL (c:=-1) h1 tn (by decide) λt=>by rw[FI];grind
    omega
   obtain⟨l,i1,i2⟩:=eK (s:=s+(m+1)*(s+8)) k b (Mv (Ta a b)) tb tn hn0 (by omega) (by omega) (by omega) (U5 bb (by omega)) (MX h3) (by rw[e2];omega) λd d1 d2=>by
    refine hd d ?_ d1;obtain⟨y,hy⟩:=d1;obtain⟨z,hz⟩:=d2;have hu:1 / u*u=1:=Hf up;refine⟨D6 (1 / u) (Ss (G7 X y) (D6 (-v) z)),λt=>?_⟩;have a1:=hX t;have a2:=hy t;have a3:=hz t;rw[Fa]at a2 a3;rw[FI]at a3;rw[Fa,Gt,Gz,Fh,Gt];have:U9 a t=1 / u*(u*U9 a t):=by grind
    rw[this,a1,a2,show U9 (Ta a b) t=-(ev d t*ev z t) by grind];grind
   refine⟨Mv (Ta a b)::l,by rw[i1];rfl,?_⟩;rw[Z0];exact .step (q:=X) up vp (λt=>by rw[Fa,Fa,Fa,hX,FI];clear i2 i1 hd h3 hs;grind) i2
theorem WC(x:Rat):∀(l:Un) (n:Nat) (s:Int),(l.foldl (Px λp=>Ra p x) (n,s)).1=n+tc x s (l.map cz)
 | [],n,s=>rfl
 |
  p::l,n,s=>by
  simp only[Z9,Z0,tc,Px];rw[Np,Fa]
  split
  ·exact WC x l n s
  ·rw[WC x l]
   split <;> omega
theorem ZY(l:Un)(x:Rat):C9 l x=vv (l.map cz) x:=by
 have:=WC x l 0 0;unfold C9 C7 vv;rw[this];omega
theorem Qgq{n s:Nat}(hz:Szz n (s+73)){P g q:Um}(sq:Sqp P g q)(lq:q.length<=n)(bq:Bd (s+69) q):∃d,IN (Gw q)=some d/\∃l,sB 66 q (Fi d)=some l/\HV (cz q) ((q::l).map cz)/\(q.length<2->l=[]):=by
 have hn:=hz.1;have hs:=Qk9 hz;have bd:=pK bq (by omega);have ld:=Nj q;refine⟨Gw q,Ag (by omega) (U5 bd (by omega)),?_⟩;have hq0:=sq.pq.n;by_cases h2:q.length<2
 ·have e:Fi (Gw q)=[]:=by rw[Qj (l:=Gw q) (by omega)];rfl
  rw[e];refine⟨[],rfl,.inl ⟨1,by decide,λt=>?_,rfl⟩,λ_=>rfl⟩;rw[Fa,sq.pq.one h2,Nz]
 ·have hdnz:(Gw q).length≠0:=λh=>by
   have h1:=Bz q (q.length-2);rw[Qj h,show q.length-2+1=q.length-1 by omega]at h1;have h3:q.getD (q.length-1) 0≠0:=H8 sq.pq.t (by omega);rcases Yf.1 (h1.symm.trans (by simp))with h4|h4
   ·exact h3 h4
   ·omega
  obtain⟨p1,p2,p3,p4,p5,p6,p7⟩:=Cx (p:=Gw q) (Fy _ _) hdnz;have hdl:Fq (Gw q)=Fq q*((q.length-1:Nat):Int):=by
   have hld:(Gw q).length=q.length-1:=by
    rcases Zb (Gw q).length (q.length-1)with h|h
    ·have h1:=Bz q (q.length-2);rw[Qi,Qw (by omega),show q.length-2+1=q.length-1 by omega]at h1;have h3:q.getD (q.length-1) 0≠0:=H8 sq.pq.t (by omega);rcases Yf.1 (h1.symm.trans (by simp))with h4|h4
     ·exact absurd h4 h3
     ·omega
    ·omega
   unfold Fq;rw[hld,Bz,show q.length-1-1+1=q.length-1 by omega]
  have hfac:0<Ho (Gw q):=by
   have hlp:0<Fq (Gw q):=by rw[hdl];exact Int.mul_pos sq.pq.l (by omega)
   have hc:=JK (p:=Gw q) (Fy _ _) hdnz;unfold Ho;rw[if_neg (by omega)];unfold Pk at hc ⊢;omega
  have hfq:((0:Int):Rat)<(Ho (Gw q):Rat):=Jn.2 hfac;have hfq:(0:Rat)<(Ho (Gw q):Rat):=by simpa using hfq
  have hff:1 / (Ho (Gw q):Rat)*(Ho (Gw q):Rat)=1:=Hf hfq;have hz2:=hz.2;have hp3:(s+73+8)*3^(q.length-1)<=16777216:=by
   have:(s+73+8)*3^(q.length-1)<=(s+73+8)*3^(n-1):=Zu _ (Zs (by decide) (by omega));rw[Xz]at hz2;omega
  obtain⟨l,h3,h4⟩:=eK (s:=s+73) 66 q (Fi (Gw q)) sq.pq.t p1 (by omega) (by omega) (by omega) (by omega) (U5 bq (by omega)) (p5 _ bd) hp3 λd d1 d2=>sq.num d1 (by
   obtain⟨z,hz⟩:=d2;exact⟨D6 (Ho (Gw q)) z,λt=>by
    have:=hz t;rw[Fa]at this;rw[Ts,<-Oq,p7,this,Gt];grind⟩)
  refine⟨Fi (Gw q)::l,h3,.inr ⟨cz (Fi (Gw q)),l.map cz,1 / (Ho (Gw q):Rat),Ai (by decide) hfq,λt=>?_,h4,rfl⟩,λh=>absurd h h2⟩;rw[Fa,<-Oq,p7 t];grind
theorem chain_ok{n s:Nat}{p:Um}(h:Okp n s p):∃q l,Pq p=some q/\Ed p=some (q::l)/\HV (cz q) ((q::l).map cz)/\(q.length<2->l=[]):=by
 obtain⟨pp,hl,hb⟩:=h.pr;have hn:=h.z.1;have hpl:=h.l;obtain⟨g,q,hq,sq⟩:=VX h;have e1:∀t,U9 (Fi p) t=U9 q t*U9 g t:=λt=>by rw[sq.e];grind
 obtain⟨p1,p2⟩:=Tg pp.t pp.n e1;have hll:=Ms sq.pq.t sq.pg.t pp.t e1 p1 p2;obtain⟨d,d1,l,d2,d3⟩:=Qgq h.z sq (by omega) (XW hb (by omega) pp.t sq.pq.t sq.pg.t pp.n e1);refine⟨q,l,hq,?_,d3⟩;unfold Ed;rw[hq];show(if q.length=0 then none else _)=_;rw[if_neg sq.pq.n,d1];show(sB 66 q (Fi d)).bind _=_;rw[d2];rfl
structure Gr(D M k:Nat)(q:Rat):Prop where
 u:∃u:Int,q*((D*2^k:Nat):Rat)=(u:Rat)
 b:Fj q<=(M:Rat)
 d:0<D
theorem nat_pos{n:Nat}(h:0<n):(0:Rat)<(n:Rat):=by
 have:((0:Nat):Rat)<(n:Rat):=Vo.2 h;simpa using this
theorem OI{D M k:Nat}{q:Rat}(h:Gr D M k q):Gr D M (k+1) q:=by
 obtain⟨u,hu⟩:=h.u;refine⟨⟨u*2,?_⟩,h.b,h.d⟩;rw[Zr,<-Xz]
 push_cast at hu ⊢
 rw[<-hu];grind
theorem Qh8{D M k:Nat}{a b:Rat}(ha:Gr D M k a)(hb:Gr D M k b):Gr D M (k+1) ((a+b) / 2):=by
 obtain⟨u,hu⟩:=ha.u;obtain⟨v,hv⟩:=hb.u;have h2:(a+b) / 2*2=a+b:=Hf (by decide);refine⟨⟨u+v,?_⟩,?_,ha.d⟩
 ·rw[Zr,<-Xz]
  push_cast at hu hv ⊢
  rw[<-hu,<-hv];generalize (a+b) / 2=c at *;generalize (D:Rat)*2^k=z at *;have:c*(z*2)=(c*2)*z:=by grind
  rw[this,h2];grind
 ·have h3:=ha.b;have h4:=hb.b;rw[Mj]at *;constructor <;> grind
theorem Qu1{D M k:Nat}{q:Rat}(h:Gr D M k q):q.den<=D*2^k:=by
 obtain⟨u,hu⟩:=h.u;have hp:0<D*2^k:=J5 h.d (Z2 (by decide));have e:q=Rat.divInt u ((D*2^k:Nat):Int):=by
  rw[<-H9,<-hu];have hz:=nat_pos hp;rw[show((((D*2^k:Nat):Int)):Rat)=((D*2^k:Nat):Rat) from rfl];rw[J6];have:=Ws ((D*2^k:Nat):Rat) (by grind);generalize ((D*2^k:Nat):Rat)=z at *;have:q*z*z⁻¹=q*(z*z⁻¹):=by grind
  rw[this,‹z*z⁻¹=1›];grind
 rw[e,Wm,if_neg (by omega),Xh];exact Jq _ _
theorem DO{a b k:Nat}{z:Int}(h:z.natAbs<=a*(b*2^k)):Fe z<=Fe (a:Int)+Fe (b:Int)+k:=by
 have h1:Fe (a:Int)<=Fe (a:Int):=Ql _;have h2:Fe (b:Int)<=Fe (b:Int):=Ql _;rw[Sw]at h1 h2 ⊢;rw[Xh]at h1 h2;rw[Xf,Xf];have h3:a*b<2^Fe (a:Int)*2^Fe (b:Int):=Nat.mul_lt_mul_of_lt_of_le h1 (Yk h2) (Z2 (by decide));have h4:=Xn h3 (show 0<2^k from Z2 (by decide));rw[<-Xz]at h;omega
theorem OA{D M k B:Nat}{q:Rat}(h:Gr D M k q)(hM:0<M)(hs:Fe (D:Int)+Fe (M:Int)+k<=B):Qs B q:=by
 have hd:=Qu1 h;have hden:=nat_pos q.den_pos;have h1:(q.num.natAbs:Rat)<=((M*(D*2^k):Nat):Rat):=by
  have e:(q.num:Rat)=q*(q.den:Rat):=by
   have:(q.num:Rat) / (((q.den:Int)):Rat)=q:=by rw[H9,Z5]
   have h2:(q.num:Rat) / (q.den:Rat)*(q.den:Rat)=q.num:=Zj (by grind);rw[show(q.num:Rat) / (q.den:Rat)=q from this]at h2;exact h2.symm
  rw[<-Sx,e];have h3:=Hd (x:=q) (y:=(q.den:Rat)) (b:=((D*2^k:Nat):Rat)) h.b (by
   have:Fj (q.den:Rat)=(q.den:Rat):=by unfold Fj;rw[if_neg (by grind)]
   rw[this];exact Zm.2 hd)
  push_cast at h3 ⊢;exact h3
 have h1:=Zm.1 h1;refine⟨?_,?_⟩
 ·have:=DO (z:=q.num) h1;omega
 ·have:=DO (z:=(q.den:Int)) (a:=M) (b:=D) (k:=k) (by
   rw[Xh];exact Qa hd (Nat.le_mul_of_pos_left _ hM))
  omega
theorem nI(a b:Rat):mid a b=(a+b) / 2:=by
 unfold mid;rw[<-H9];have ha:(a.num:Rat)=a*(a.den:Rat):=by
  have:(a.num:Rat) / (((a.den:Int)):Rat)=a:=by rw[H9,Z5]
  have h2:(a.num:Rat) / (a.den:Rat)*(a.den:Rat)=a.num:=Zj (by have:=nat_pos a.den_pos;grind);rw[show(a.num:Rat) / (a.den:Rat)=a from this]at h2;exact h2.symm
 have hb:(b.num:Rat)=b*(b.den:Rat):=by
  have:(b.num:Rat) / (((b.den:Int)):Rat)=b:=by rw[H9,Z5]
  have h2:(b.num:Rat) / (b.den:Rat)*(b.den:Rat)=b.num:=Zj (by have:=nat_pos b.den_pos;grind);rw[show(b.num:Rat) / (b.den:Rat)=b from this]at h2;exact h2.symm
 have pa:=nat_pos a.den_pos;have pb:=nat_pos b.den_pos;rw[Kc,X1,X1,X1,X1,ha,hb];rw[show(((a.den:Int)):Rat)=(a.den:Rat) from rfl,show(((b.den:Int)):Rat)=(b.den:Rat) from rfl,show(((2:Int)):Rat)=2 from rfl];generalize (a.den:Rat)=x at *;generalize (b.den:Rat)=y at *;have hxy:=Iy (Iy pa pb) (show(0:Rat)<2 by decide);have h1:(a*x*y+b*y*x) / (x*y*2)*(x*y*2)=a*x*y+b*y*x:=Hf hxy;have h2:(a+b) / 2*2=a+b:=Hf (by decide);generalize (a*x*y+b*y*x) / (x*y*2)=c at *;generalize (a+b) / 2=d at *;have h3:(x*y*2)*(c-d)=0:=by grind
 rcases Y3.1 h3 with h4|h4 <;> grind
theorem NF(a b:Rat):ER a b=a-b:=by
 unfold ER;rw[Rat.sub_def',<-Rat.divInt_ofNat]
 push_cast;rfl
theorem eP{a b:Rat}:He a b=0↔a=b:=by
 constructor
 ·intro h;have h1:¬a<b:=λh'=>by have:=Ny.2 h';omega
  have h2:¬b<a:=λh'=>by have:=Ek.2 h';omega
  grind
 ·intro h;subst h;exact Ey a
theorem MR{a b:Rat}:He a b<=0↔a<=b:=by
 constructor
 ·intro h;have h2:¬b<a:=λh'=>by have:=Ek.2 h';omega
  grind
 ·intro h;have h2:¬0<He a b:=λh'=>by have:=Ek.1 h';grind
  omega
theorem MH{a b:Rat}:0<=He a b↔b<=a:=by
 constructor
 ·intro h;have h2:¬a<b:=λh'=>by have:=Ny.2 h';omega
  grind
 ·intro h;have h2:¬He a b<0:=λh'=>by have:=Ny.1 h';grind
  omega
theorem Nc(a b:Rat):He a b=1/\b<a\/He a b=0/\a=b\/He a b=-1/\a<b:=by
 have hb:=QH a b;rcases(show He a b=1\/He a b=0\/He a b=-1 by omega)with h|h|h
 ·exact .inl ⟨h,Ek.1 (by omega)⟩
 ·exact .inr (.inl ⟨h,eP.1 h⟩)
 ·exact .inr (.inr ⟨h,Ny.1 (by omega)⟩)
theorem fC(p:Um)(x:Rat):low p x=Pv (cz p) x:=by
 unfold low Pv;rw[Np,Np,Fa,Oq]
theorem Cj{t:Tm}(h:t.lo<t.hi)(q:Rat):Fp t q=cq (cz t.p) t.lo t.hi q:=by
 have hp:t.point=false:=by
  unfold Tm.point;have:¬0<=He t.lo t.hi:=λh'=>by have:=MH.1 h';grind
  simp[this]
 unfold Fp cq;rw[hp,if_neg (by decide)];have e1:(He q t.lo<=0)=(q<=t.lo):=propext MR;have e2:(0<He q t.hi)=(t.hi<q):=propext Ek;rw[Np,fC,<-Fa];simp only[e1,e2]
theorem Mw{t:Tm}:t.point=true↔t.hi<=t.lo:=by
 unfold Tm.point;rw[decide_eq_true_iff];exact MH
theorem Ic{t:Tm}(h:t.lo=t.hi)(q:Rat):Fp t q=He t.lo q:=by
 have hp:t.point=true:=Mw.2 (by rw[h];exact Qp);unfold Fp;rw[if_pos hp]
theorem Que{c:Rat->Int}{x:Rat}(h:∀q,c q=He x q):Cut c where
 val q:=by rw[h];have:=QH x q;omega
 mono q r hqr h1:=by
  rw[h]at h1 ⊢;rcases Nc x q with⟨e,e'⟩|⟨e,e'⟩|⟨e,e'⟩
  ·exact absurd e h1
  ·rcases Nc x r with⟨f,f'⟩|⟨f,f'⟩|⟨f,f'⟩ <;> grind
  ·rcases Nc x r with⟨f,f'⟩|⟨f,f'⟩|⟨f,f'⟩ <;> grind
 up q h1:=by
  rw[h]at h1;have h2:=Ek.1 (show 0<He x q by omega);have h3:(x+q) / 2*2=x+q:=Hf (by decide);have h4:=Ek.2 (show(x+q) / 2<x by grind);have:=QH x ((x+q) / 2);exact⟨(x+q) / 2,by grind,by rw[h];omega⟩
 dn q h1:=by
  rw[h]at h1;have h2:=Ny.1 (show He x q<0 by omega);have h3:(x+q) / 2*2=x+q:=Hf (by decide);have h4:=Ny.2 (show x<(x+q) / 2 by grind);have:=QH x ((x+q) / 2);exact⟨(x+q) / 2,by grind,by rw[h];omega⟩
 lo:=⟨x-1,by
  rw[h];have h4:=Ek.2 (show x-1<x by grind);have:=QH x (x-1);omega⟩
 hi:=⟨x+1,by
  rw[h];have h4:=Ny.2 (show x<x+1 by grind);have:=QH x (x+1);omega⟩
def lim(t:Tm):Nat:=if t.point=true then 3300000 else 1000000
theorem yQ{t:Tm}(h:t.point=false):lim t=1000000:=by simp[lim,h]
theorem Qu6(t:Tm):1000000<=lim t:=by unfold lim;split <;> omega
theorem Qu7(t:Tm):lim t<=3300000:=by unfold lim;split <;> omega
structure Va(t:Tm):Prop where
 i:t.lo=t.hi/\U9 t.p t.lo=0\/∃L,Vt (cz t.p) L t.lo t.hi
 tr:Ff t.p
 n:t.p.length<=9
 n2:2<=t.p.length
 b:Bd 3300000 t.p
 bi:t.point=false->Bd 1260 t.p
 sc:t.point=false->∃(l:List (List Int)) (P g:List Int),sB 66 t.p (Fi (Gw t.p))=some l/\Sqp P g t.p/\Vt (cz t.p) ((t.p::l).map cz) t.lo t.hi
 g:∃D M k,Gr D M k t.lo/\Gr D M k t.hi/\0<M/\Fe (D:Int)+Fe (M:Int)+k<=lim t
theorem Va.le{t:Tm}(h:Va t):t.lo<=t.hi:=by
 rcases h.i with⟨e,_⟩|⟨L,V⟩
 ·rw[e];exact Qp
 ·exact Qt V.l
theorem Va.pt{t:Tm}(h:Va t)(hp:t.point=true):t.lo=t.hi/\U9 t.p t.lo=0:=by
 rcases h.i with e|⟨L,V⟩
 ·exact e
 ·have:=Mw.1 hp;have:=V.l;grind
theorem Va.iv{t:Tm}(h:Va t)(hp:t.point=false):∃L,Vt (cz t.p) L t.lo t.hi:=by
 rcases h.i with⟨e,_⟩|h
 ·have:=Mw.2 (show t.hi<=t.lo by rw[e];exact Qp);rw[hp]at this;cases this
 ·exact h
theorem Va.cut{t:Tm}(h:Va t):Cut (Fp t):=by
 rcases h.i with⟨e,_⟩|⟨L,V⟩
 ·exact Que (x:=t.lo) λq=>Ic e q
 ·have:Fp t=cq (cz t.p) t.lo t.hi:=funext λq=>Cj V.l q
  rw[this];exact V.cut
theorem Qwp{c:Rat->Int}(hc:Cut c){p:Up}{x:Rat}(h:c x=0)(h0:ev p x=0):I2 p c:=by
 rcases JA hc p with h1|⟨s,hs,h1⟩
 ·exact h1
 ·have:=gU hc h h1;rw[Gq.2 h0]at this;exact absurd this.symm hs
theorem Va.van{t:Tm}(h:Va t):I2 (cz t.p) (Fp t):=by
 have hc:=h.cut;rcases h.i with⟨e,h0⟩|⟨L,V⟩
 ·exact Qwp hc (x:=t.lo) (by rw[Ic e,Ey]) (by rw[Fa];exact h0)
 ·have:Fp t=cq (cz t.p) t.lo t.hi:=funext λq=>Cj V.l q
  rw[this];exact V.van
theorem Va.qs{t:Tm}(h:Va t):Qs 3300000 t.lo/\Qs 3300000 t.hi:=by
 obtain⟨D,M,k,h1,h2,h3,h4⟩:=h.g;have h4:=Qa h4 (Qu7 t);exact⟨OA h1 h3 h4,OA h2 h3 h4⟩
theorem Va.qsn{t:Tm}(h:Va t)(hp:t.point=false):Qs 1000000 t.lo/\Qs 1000000 t.hi:=by
 obtain⟨D,M,k,h1,h2,h3,h4⟩:=h.g;rw[yQ hp]at h4;exact⟨OA h1 h3 h4,OA h2 h3 h4⟩
theorem Va.tb{t:Tm}(h:Va t):Tb t:=⟨⟨h.tr,by have:=h.n;omega,U5 h.b (by omega)⟩,h.qs.1.mono (t:=16777216) (by omega),h.qs.2.mono (t:=16777216) (by omega)⟩
structure Hv(t:Tm)(D M k:Nat)(u:Tm):Prop where
 p:u.p=t.p
 i:u.lo=u.hi/\U9 u.p u.lo=0\/∃L,Vt (cz u.p) L u.lo u.hi
 c:∀q,Fp u q=Fp t q
 l:Gr D M k u.lo
 h:Gr D M k u.hi
theorem uX{c:Rat->Int}(hc:Cut c){x:Rat}(h:c x=0)(q:Rat):c q=He x q:=by
 rcases Nc x q with⟨e,e'⟩|⟨e,e'⟩|⟨e,e'⟩
 ·rw[e];exact hc.mono' e' (by omega)
 ·rw[e,<-e',h]
 ·rw[e];exact hc.mono x q e' (by omega)
theorem jC{t u:Tm}{D M k:Nat}(hu:Hv t D M k u)(hM:0<M)(hs:Fe (D:Int)+Fe (M:Int)+(k+1)<=16777216):∃v,jB u=some v/\Hv t D M (k+1) v/\v.hi-v.lo<=(u.hi-u.lo) / 2/\u.lo<=v.lo/\v.hi<=u.hi:=by
 have h2:∀x:Rat,x / 2*2=x:=λx=>Hf (by decide)
 unfold jB;rcases hu.i with⟨e,h0⟩|⟨L,V⟩
 ·have hp:u.point=true:=Mw.2 (by rw[e];exact Qp);rw[if_pos hp];refine⟨u,rfl,⟨hu.p,hu.i,hu.c,OI hu.l,OI hu.h⟩,?_,Qp,Qp⟩;rw[e];have:=h2 (u.hi-u.hi);grind
 ·have hp:u.point=false:=by
   have:¬u.point=true:=λh=>by have:=Mw.1 h;have:=V.l;grind
   simpa using this
  rw[hp,if_neg (by decide)];obtain⟨m,hm⟩:=nmE ((u.lo+u.hi) / 2);have hmg:Gr D M (k+1) m:=by rw[hm];exact Qh8 hu.l hu.h
  have hmm:=h2 (u.lo+u.hi);rw[<-hm]at hmm;have hl:=V.l;have hl1:u.lo<m:=by grind
  have hl2:m<u.hi:=by grind
  have hch:chq (mid u.lo u.hi)=some m:=by
   rw[nI,<-hm];have:=OA hmg hM hs;unfold chq;rw[if_pos ⟨this.1,this.2⟩]
  have hcm:mid u.lo u.hi=m:=by rw[nI,<-hm]
  rw[hch];show ∃v,some (if Fp u m=0 then(⟨u.p,m,m⟩:Tm)else if Fp u m=-1 then ⟨u.p,u.lo,m⟩else ⟨u.p,m,u.hi⟩)=some v/\_;have hw:=h2 (u.hi-u.lo);have hcu:=Cj hl;have hcut:=V.cut;have hcut':Cut (Fp u):=by rw[show Fp u=cq (cz u.p) u.lo u.hi from funext hcu];exact hcut
  by_cases c0:Fp u m=0
  ·rw[if_pos c0];have hz:U9 u.p m=0:=by
    have:=TE hcut (q:=m) (by rw[<-hcu];exact c0) V.van;rwa[Fa]at this
   refine⟨_,rfl,⟨hu.p,.inl ⟨rfl,hz⟩,λq=>?_,hmg,hmg⟩,by show m-m<=_;grind,by show u.lo<=m;grind,by show m<=u.hi;grind⟩;rw[Ic rfl,<-hu.c];exact(uX hcut' c0 q).symm
  ·rw[if_neg c0];by_cases c1:Fp u m=-1
   ·rw[if_pos c1];have hv:vv L m=vv L u.hi:=V.eq_hi hl1 (Qt hl2) (by rw[<-hcu,c1];decide);have V':Vt (cz u.p) L u.lo m:=⟨V.s,hl1,by rw[hv];exact V.v⟩;refine⟨_,rfl,⟨hu.p,.inr ⟨L,V'⟩,λq=>?_,OI hu.l,hmg⟩,by show m-u.lo<=_;grind,Qp,by show m<=u.hi;grind⟩;rw[Cj hl1,<-hu.c,hcu];exact V.uniq V'.cut (Ah Qp) (by rw[US hl1 hl2];decide) V'.van q
   ·rw[if_neg c1];have c2:Fp u m=1:=by rcases hcut'.val m with h|h|h <;> omega
    have hv:vv L m=vv L u.lo:=V.eq_lo hl1 (Qt hl2) (by rw[<-hcu];exact c2);have V':Vt (cz u.p) L m u.hi:=⟨V.s,hl2,by rw[hv];exact V.v⟩;refine⟨_,rfl,⟨hu.p,.inr ⟨L,V'⟩,λq=>?_,hmg,OI hu.h⟩,by show u.hi-m<=_;grind,by show u.lo<=m;grind,Qp⟩;rw[Cj hl2,<-hu.c,hcu];exact V.uniq V'.cut (Ah (by grind)) V'.hi1 V'.van q
def Be(a b:Tm):Prop:=∃q,Fp a q=-1/\Fp b q=1
def TEq(a b:Tm):Prop:=∀q,Fp a q=Fp b q
theorem tri{a b:Tm}(ha:Cut (Fp a))(hb:Cut (Fp b)):Be a b\/TEq a b\/Be b a:=by
 rcases Classical.em (TEq a b)with h|h
 ·exact .inr (.inl h)
 ·obtain⟨q,hq⟩:=Classical.not_forall.1 h;obtain⟨r,⟨h1,h2⟩|⟨h1,h2⟩⟩:=uZ ha hb hq
  ·exact .inl ⟨r,h1,h2⟩
  ·exact .inr (.inr ⟨r,h2,h1⟩)
theorem Ix{a b:Tm}(ha:Cut (Fp a))(hb:Cut (Fp b))(h:Be a b)(h':Be b a):False:=by
 obtain⟨q,q1,q2⟩:=h;obtain⟨r,r1,r2⟩:=h';have:=ha.lt r2 q1;have:=hb.lt q2 r1;grind
theorem rN{p:Um}(k:Nat):(p.getD k 0).natAbs<=2^Ha p:=by
 have h:Fe (p.getD k 0)<=Ha p:=by
  have key:∀(l:Um) (n:Nat),n≤l.foldl (λn z=>max n (Fe z)) n/\∀z∈l,Fe z≤l.foldl (λn z=>max n (Fe z)) n:=by
   intro l
   induction l with
   |nil=>exact λn=>⟨Ql _,λz hz=>by cases hz⟩
   |
    cons y l ih =>
    intro n;obtain⟨i1,i2⟩:=ih (max n (Fe y));refine⟨by simp only[Z9];omega,λz hz=>?_⟩;simp only[Z9];rcases Qm.1 hz with rfl|hz
    ·omega
    ·exact i2 z hz
  exact Ft (s:=Ha p) (λz hz=>(key p 0).2 z hz) k
 rw[Sw]at h;omega
theorem Qr4{s:Nat}:∀(B:Um),(∀z∈B,z.natAbs≤2^s)->gB B≤2^(s+(B.length-1))
 | [],_=>Qh _
 |
  c::B,h=>by
  have h1:=h c (Qy ..);have h2:=Qr4 B λz hz=>h z (Qg _ hz)
  simp only[gB,Q5,Yb];have h3:2^s<=2^(s+B.length):=Zs (by decide) (by omega);cases B with
  |nil=>simp only[gB,Xk]at *;omega
  |
   cons d B =>
   have h4:2^(s+(d::B).length)=2*2^(s+((d::B).length-1)):=by
    rw[Zq,<-Zr];congr 1
   rw[h4];omega
def T0(A B:Um):Nat:=(Ha A+Ha B+(A.length+B.length)+8)*(2*(A.length+B.length-2)-1)
theorem Qhs{A B:Um}(tA:Ff A)(tB:Ff B)(nA:A.length<=9)(nB:B.length<=9)(lA:2<=A.length)(lB:2<=B.length){R d:Rat}(hR:1<=R)(dp:0<d)
 (hs:∀e:Rat,0<e->∃q r,Fj q<=R/\Fj r<=R/\d<=Fj (q-r)/\Fj (q-r)*((2^(T0 A B+1):Nat):Rat)<=1/\Fj (U9 A q)<e/\Fj (U9 B r)<e):False:=by
 obtain⟨a,ha⟩:∃a,A.length=a+1:=⟨A.length-1,by omega⟩;obtain⟨b,hb⟩:∃b,B.length=b+1:=⟨B.length-1,by omega⟩;obtain⟨s,hsd⟩:=nmE (Ha A+Ha B+b);obtain⟨N,hN⟩:∃N,b*(2*(a*b))+a*(2*(a*b)-b)=N:=⟨_,rfl⟩;have hNt:N<=2^(a+9):=by
  rw[<-hN];have hab:∀a b:Fin 9,b.1*(2*(a.1*b.1))+a.1*(2*(a.1*b.1)-b.1)<=2^(a.1+9):=by decide
  exact hab ⟨a,by omega⟩ ⟨b,by omega⟩
 have hK:T0 A B=(s+a+10)*(2*(a+b-1)+1):=by
  unfold T0;rw[ha,hb,hsd,show a+1+(b+1)-2=a+b by omega,show 2*(a+b)-1=2*(a+b-1)+1 by omega];congr 1;omega
 have h0A:A.getD a 0≠0:=by have:=H8 tA (by omega);rwa[ha]at this
 have h0B:B.getD b 0≠0:=by have:=H8 tB (by omega);rwa[hb]at this
 have hp:∀m,1<=2^m:=λm=>Z2 (by decide)
 refine Qux (N:=N) (D:=2^(T0 A B-1)) ha hb h0A h0B (by omega) (by omega) (h:=2^s) (hp s) (λk=>Qa (rN k) (Zs (by decide) (by omega))) ?_ hN ?_ hR dp λe ep=>?_
 ·refine Qa (Qr4 (s:=Ha B) B λz hz=>?_) (Zs (by decide) (by omega));obtain⟨i,hi⟩:=Zk.1 hz;have:=rN (p:=B) i;rwa[Qi,hi]at this
 ·have h1:2*(N*2^s)<=2^(s+a+10):=by
   have:N*2^s<=2^(a+9)*2^s:=Q0 _ hNt;rw[<-Xf]at this;rw[show s+a+10=(a+9+s)+1 by omega,Zr];omega
  have h2:N*2^s<=2^(s+a+9):=by
   rw[show s+a+9=(a+9)+s by omega,Xf];exact Q0 _ hNt
  have h3:=Nat.pow_le_pow_left h1 (2*(a+b-1));have h4:=Zc h2 h3;rw[<-Ks,<-Xf]at h4;rw[<-Xz];refine Qa h4 (Zs (by decide) ?_);rw[hK,Xj,Yw];omega
 ·obtain⟨q,r,h1,h2,h3,h4,h5,h6⟩:=hs e ep;refine⟨q,r,h1,h2,h3,?_,h5,h6⟩;have hK1:1<=T0 A B:=by
   rw[hK];exact J5 (by omega) (by omega)
  have e1:2^(T0 A B+1)=4*2^(T0 A B-1):=by
   obtain⟨m,hm⟩:∃m,T0 A B=m+1:=⟨T0 A B-1,by omega⟩;rw[hm,Yb,Zr,Zr];omega
  rw[e1]at h4
  push_cast at h4 ⊢
  exact h4
theorem Hv.lo'{t:Tm}{D M k:Nat}{u:Tm}(h:Hv t D M k u):Fp t u.lo=1\/Fp t u.lo=0/\u.lo=u.hi:=by
 rw[<-h.c];rcases h.i with⟨e,_⟩|⟨L,V⟩
 ·exact .inr ⟨by rw[Ic e,Ey],e⟩
 ·exact .inl (by rw[Cj V.l];exact Ah Qp)
theorem Hv.hi'{t:Tm}{D M k:Nat}{u:Tm}(h:Hv t D M k u):Fp t u.hi=0\/Fp t u.hi=-1:=by
 rw[<-h.c];rcases h.i with⟨e,_⟩|⟨L,V⟩
 ·exact .inl (by rw[Ic e,e,Ey])
 ·rw[Cj V.l];have:=V.hi1;rcases V.cut.val u.hi with h|h|h <;> omega
theorem Hv.le{t:Tm}{D M k:Nat}{u:Tm}(h:Hv t D M k u):u.lo<=u.hi:=by
 rcases h.i with⟨e,_⟩|⟨L,V⟩
 ·rw[e];exact Qp
 ·exact Qt V.l
theorem Qht{a b:Tm}(ha:Va a)(hb:Va b){D M k D' M' k':Nat}{u v:Tm}(hu:Hv a D M k u)(hv:Hv b D' M' k' v)(h:Be a b):1<(v.hi-u.lo)*((2^(T0 a.p b.p+1):Nat):Rat):=by
 rcases Gh ((v.hi-u.lo)*((2^(T0 a.p b.p+1):Nat):Rat)) 1 with hw|hw
 ·exfalso;have ca:=ha.cut;have cb:=hb.cut;obtain⟨m,m1,m2⟩:=h;obtain⟨m',hm',m3⟩:=ca.dn m m1;have hpow:(0:Rat)<=((2^(T0 a.p b.p+1):Nat):Rat):=Xi;obtain⟨R,hR⟩:=nmE (Fj u.lo+Fj m'+Fj m+Fj v.hi+1);have n1:=Hw u.lo;have n2:=Hw m';have n3:=Hw m;have n4:=Hw v.hi;refine Qhs (R:=R) (d:=m-m') ha.tr hb.tr ha.n hb.n ha.n2 hb.n2 (by grind) (by grind) λe ep=>?_
  obtain⟨q,q1,q2,q3⟩:∃q,u.lo<=q/\q<=m'/\Fj (U9 a.p q)<e:=by
   rcases hu.lo' with h1|⟨h1,_⟩
   ·obtain⟨x,y,hx,hy,hq⟩:=ha.van e ep;rcases Gh x u.lo with e1|e1
    ·exact⟨u.lo,Qp,Qt (ca.lt h1 m3),by rw[<-Fa];exact hq u.lo e1 (Qt (ca.lt h1 hy))⟩
    ·exact⟨x,Qt e1,Qt (ca.lt hx m3),by rw[<-Fa];exact hq x Qp (Qt (ca.lt hx hy))⟩
   ·refine⟨u.lo,Qp,?_,by rw[<-Fa,TE ca h1 ha.van,Rj];exact ep⟩;rcases Gh u.lo m' with e1|e1
    ·exact e1
    ·have:=ca.mono m' u.lo e1 (by omega);omega
  obtain⟨r,r1,r2,r3⟩:∃r,r<=v.hi/\m<=r/\Fj (U9 b.p r)<e:=by
   rcases hv.hi' with h1|h1
   ·refine⟨v.hi,Qp,?_,by rw[<-Fa,TE cb h1 hb.van,Rj];exact ep⟩;rcases Gh m v.hi with e1|e1
    ·exact e1
    ·have:=cb.mono v.hi m e1 (by omega);omega
   ·obtain⟨x,y,hx,hy,hq⟩:=hb.van e ep;rcases Gh v.hi y with e1|e1
    ·exact⟨v.hi,Qp,Qt (cb.lt m2 h1),by rw[<-Fa];exact hq v.hi (Qt (cb.lt hx h1)) e1⟩
    ·exact⟨y,Qt e1,Qt (cb.lt m2 hy),by rw[<-Fa];exact hq y (Qt (cb.lt hx hy)) Qp⟩
  have e1:Fj (q-r)=r-q:=by unfold Fj;split <;> grind
  have b1:Fj q<=R:=by
   have:=FV (R:=R) (x:=u.lo) (y:=m') (t:=q) (by grind) (by grind) q1 q2;exact this
  have b2:Fj r<=R:=by
   have:=FV (R:=R) (x:=m) (y:=v.hi) (t:=r) (by grind) (by grind) r2 r1;exact this
  refine⟨q,r,b1,b2,by rw[e1];grind,?_,q3,r3⟩;rw[e1];have:=Ze (show r-q<=v.hi-u.lo by grind) hpow;exact Zl this hw
 ·exact hw
theorem wZ{a b:Tm}(ha:Va a)(hb:Va b){D M k D' M' k':Nat}{u v:Tm}(hu:Hv a D M k u)(hv:Hv b D' M' k' v)(hne:¬TEq a b)(h:D8 u v=true):Be a b:=by
 have h1:=(of_decide_eq_true h).1;have h1:=MR.1 h1;rcases tri ha.cut hb.cut with h2|h2|⟨m,m1,m2⟩
 ·exact h2
 ·exact absurd h2 hne
 ·exfalso;have e1:m<u.hi:=by
   rcases Gh u.hi m with e|e
   ·rcases Classical.em (u.hi=m)with e'|e'
    ·have:=hu.hi';rw[e']at this;omega
    ·have:=ha.cut.mono u.hi m (by grind) (by have:=hu.hi';omega);omega
   ·exact e
  have e2:v.lo<m:=by
   rcases Gh m v.lo with e|e
   ·rcases Classical.em (m=v.lo)with e'|e'
    ·have:=hv.lo';rw[<-e']at this;omega
    ·have:=hb.cut.mono m v.lo (by grind) (by omega);have:=hv.lo';omega
   ·exact e
  grind
theorem iD{a b:Tm}(ha:Va a)(hb:Va b){D M k D' M' k':Nat}{u v:Tm}(hu:Hv a D M k u)(hv:Hv b D' M' k' v)(hlt:Be a b)(h:D8 u v≠true):v.lo<=u.hi:=by
 rcases Gh v.lo u.hi with e|e
 ·exact e
 ·refine absurd (decide_eq_true ⟨MR.2 (Qt e),λh'=>?_⟩) h;have:=eP.1 h'.2;grind
theorem rH(m:Nat):((2^(m+1):Nat):Rat)=2*((2^m:Nat):Rat):=by rw[Zr];push_cast;grind
def Qsv(a b:Tm)(r:Tm×Tm×Int):Prop:=r.2.2=-1/\Be a b\/r.2.2=1/\Be b a
theorem Qci(A B:Um):T0 A B=T0 B A:=by unfold T0;rw[Nat.add_comm A.length,Nat.add_comm (Ha A)]
theorem Qxa{a b:Tm}(ha:Va a)(hb:Va b)(hne:¬TEq a b){D M D' M':Nat}(hM:0<M)(hM':0<M'):∀(i j:Nat) (u v:Tm) (k k':Nat) (W:Rat),2*i+1<=j->Hv a D M k u->Hv b D' M' k' v->Fe (D:Int)+Fe (M:Int)+(k+j)<=16777216->Fe (D':Int)+Fe (M':Int)+(k'+j)<=16777216->u.hi-u.lo<=W->v.hi-v.lo<=W->2*W*((2^(T0 a.p b.p+1):Nat):Rat)<=((2^i:Nat):Rat)->∃r,AT j u v=some r/\Qsv a b r:=by
 intro i;have step:∀(j:Nat) (u v:Tm) (k k':Nat),Hv a D M k u->Hv b D' M' k' v->Fe (D:Int)+Fe (M:Int)+(k+(j+1))<=16777216->Fe (D':Int)+Fe (M':Int)+(k'+(j+1))<=16777216->(∃r,AT (j+1) u v=some r/\Qsv a b r)\/(D8 u v≠true/\D8 v u≠true/\∃u' v' k1 k1',AT (j+1) u v=AT j u' v'/\Hv a D M k1 u'/\Hv b D' M' k1' v'/\k1<=k+1/\k1'<=k'+1/\(v.hi-v.lo<=u.hi-u.lo/\u'.hi-u'.lo<=(u.hi-u.lo) / 2/\v'=v\/u.hi-u.lo<=v.hi-v.lo/\v'.hi-v'.lo<=(v.hi-v.lo) / 2/\u'=u)):=by
  intro j u v k k' hu hv hs hs';by_cases h1:D8 u v=true
  ·exact .inl ⟨(u,v,-1),by simp only[AT];rw[if_pos h1],.inl ⟨rfl,wZ ha hb hu hv hne h1⟩⟩
  by_cases h2:D8 v u=true
  ·exact .inl ⟨(u,v,1),by simp only[AT];rw[if_neg h1,if_pos h2],.inr ⟨rfl,wZ hb ha hv hu (λh=>hne λq=>(h q).symm) h2⟩⟩
  refine .inr ⟨h1,h2,?_⟩;by_cases h3:0<=He (ER u.hi u.lo) (ER v.hi v.lo)
  ·obtain⟨x,x1,x2,x3,_⟩:=jC hu hM (by omega);refine⟨x,v,k+1,k',?_,x2,hv,by omega,by omega,.inl ⟨?_,x3,rfl⟩⟩
   ·simp only[AT];rw[if_neg h1,if_neg h2,if_pos h3,x1];rfl
   ·have:=MH.1 h3;rwa[NF,NF]at this
  ·obtain⟨x,x1,x2,x3,_⟩:=jC hv hM' (by omega);refine⟨u,x,k,k'+1,?_,hu,x2,by omega,by omega,.inr ⟨?_,x3,rfl⟩⟩
   ·simp only[AT];rw[if_neg h1,if_neg h2,if_neg h3,x1];rfl
   ·rcases Gh (u.hi-u.lo) (v.hi-v.lo)with e|e
    ·exact e
    ·refine absurd (MH.2 ?_) h3;rw[NF,NF];exact Qt e
 induction i with
 |
  zero =>
  intro j u v k k' W hj hu hv hs hs' hW hW' hK;obtain⟨j,rfl⟩:∃m,j=m+1:=⟨j-1,by omega⟩;rcases step j u v k k' hu hv hs hs' with h|⟨h1,h2,_⟩
  ·exact h
  ·exfalso;have hpow:(0:Rat)<=((2^(T0 a.p b.p+1):Nat):Rat):=Xi;rw[Vd]at hK;rcases tri ha.cut hb.cut with h3|h3|h3
   ·have h4:=iD ha hb hu hv h3 h1;have h5:=Qht ha hb hu hv h3;have h6:=Ze (show v.hi-u.lo<=2*W by clear step;grind) hpow;have h7:((1:Nat):Rat)=1:=rfl;rw[h7]at hK;clear step;grind
   ·exact hne h3
   ·have h4:=iD hb ha hv hu h3 h2;have h5:=Qht hb ha hv hu h3;rw[Qci]at h5;have h6:=Ze (show u.hi-v.lo<=2*W by clear step;grind) hpow;have h7:((1:Nat):Rat)=1:=rfl;rw[h7]at hK;clear step;grind
 |
  succ i ih =>
  intro j u v k k' W hj hu hv hs hs' hW hW' hK;obtain⟨j,rfl⟩:∃m,j=m+2:=⟨j-2,by omega⟩;have hd:∀x:Rat,x / 2*2=x:=λx=>Hf (by decide)
  rcases step (j+1) u v k k' hu hv hs hs' with h|⟨_,_,u1,v1,k1,k1',e1,hu1,hv1,hk1,hk1',hw1⟩
  ·exact h
  ·rw[e1];rcases step j u1 v1 k1 k1' hu1 hv1 (by omega) (by omega)with h|⟨_,_,u2,v2,k2,k2',e2,hu2,hv2,hk2,hk2',hw2⟩
   ·exact h
   ·rw[e2];have a1:=hd (u.hi-u.lo);have a2:=hd (v.hi-v.lo);have a3:=hd (u1.hi-u1.lo);have a4:=hd (v1.hi-v1.lo);have a5:=hd W;have b1:=hu.le;have b2:=hv.le;have b3:=hu1.le;have b4:=hv1.le;have b5:=hu2.le;have b6:=hv2.le;have hww:u2.hi-u2.lo<=W / 2/\v2.hi-v2.lo<=W / 2:=by
     clear step ih;rcases hw1 with⟨c1,c2,rfl⟩|⟨c1,c2,rfl⟩ <;> rcases hw2 with⟨d1,d2,rfl⟩|⟨d1,d2,rfl⟩ <;> constructor <;> grind
    refine ih j u2 v2 k2 k2' (W / 2) (by omega) hu2 hv2 (by omega) (by omega) hww.1 hww.2 ?_;rw[rH i]at hK;have:2*(W / 2)*((2^(T0 a.p b.p+1):Nat):Rat)*2=2*W*((2^(T0 a.p b.p+1):Nat):Rat):=by clear step ih hw1 hw2;grind
    clear step ih hw1 hw2;grind
def CmpOk(a b:Tm)(c:Int):Prop:=c=-1/\Be a b\/c=0/\TEq a b\/c=1/\Be b a
theorem Va.hv0{t:Tm}(h:Va t):∃D M k,Hv t D M k t/\0<M/\Fe (D:Int)+Fe (M:Int)+k<=lim t:=by
 obtain⟨D,M,k,h1,h2,h3,h4⟩:=h.g;exact⟨D,M,k,⟨rfl,h.i,λ_=>rfl,h1,h2⟩,h3,h4⟩
theorem bI{a:Tm}(ha:Va a)(hp:a.point=true)(q:Rat):Fp a q=He a.lo q:=Ic (ha.pt hp).1 q
theorem Qgv{a b:Tm}(hb:Va b){x:Rat}(hx:∀q,Fp a q=He x q):CmpOk a b (-Fp b x):=by
 have cb:=hb.cut;rcases cb.val x with h|h|h
 ·obtain⟨q,q1,q2⟩:=cb.up x h;refine .inl ⟨by omega,q,?_,q2⟩;rw[hx];rcases Nc x q with⟨e,e'⟩|⟨e,e'⟩|⟨e,e'⟩ <;> grind
 ·exact .inr (.inl ⟨by omega,λq=>by rw[hx,uX cb h]⟩)
 ·obtain⟨q,q1,q2⟩:=cb.dn x h;refine .inr (.inr ⟨by omega,q,q2,?_⟩);rw[hx];rcases Nc x q with⟨e,e'⟩|⟨e,e'⟩|⟨e,e'⟩ <;> grind
theorem CmpOk.symm{a b:Tm}{c:Int}(h:CmpOk a b c):CmpOk b a (-c):=by
 rcases h with⟨h1,h2⟩|⟨h1,h2⟩|⟨h1,h2⟩
 ·exact .inr (.inr ⟨by omega,h2⟩)
 ·exact .inr (.inl ⟨by omega,λq=>(h2 q).symm⟩)
 ·exact .inl ⟨by omega,h2⟩
theorem Qy6:Szz 9 1260:=⟨by decide,by decide⟩
theorem FY(g:Um)(lo hi:Rat):FX g lo hi=true↔nK (cz g) lo hi:=by
 unfold FX nK;rw[decide_eq_true_iff,Np,fC,Fa]
theorem fK{g:Um}(tg:Ff g)(hn:g.length≠0){lo hi:Rat}(h:nK (cz g) lo hi):1<g.length:=by
 rcases Zb 1 g.length with e|e
 ·exact e
 ·exfalso;obtain⟨c,rfl⟩:∃c,g=[c]:=Kr.1 (by omega);have hc:c≠0:=by have:=H8 tg (by simp);simpa using this
  have hv:∀t,ev (cz [c]) t=(c:Rat):=λt=>by rw[Fa];simp only[U9];grind
  have hs:Fg (c:Rat)≠0:=λh=>XT hc (Gq.1 h)
  unfold nK at h;rw[hv,Ao (by rw[hv];exact hs),hv]at h;rcases h with h|h
  ·exact hs h
  ·exact h rfl
theorem DI{q:Rat}:Fj q<=((2^Fe q.num:Nat):Rat):=by
 have h1:Fe q.num<=Fe q.num:=Ql _;rw[Sw]at h1;have e:(q.num:Rat)=q*(q.den:Rat):=by
  have:(q.num:Rat) / (((q.den:Int)):Rat)=q:=by rw[H9,Z5]
  have h2:(q.num:Rat) / (q.den:Rat)*(q.den:Rat)=q.num:=Zj (by have:=nat_pos q.den_pos;grind);rw[show(q.num:Rat) / (q.den:Rat)=q from this]at h2;exact h2.symm
 have hd:(1:Rat)<=(q.den:Rat):=by
  have:((1:Nat):Rat)<=(q.den:Rat):=Zm.2 q.den_pos;exact this
 have h2:Fj q<=Fj (q.num:Rat):=by
  rw[e,Il];have:Fj (q.den:Rat)=(q.den:Rat):=by unfold Fj;rw[if_neg (by grind)]
  rw[this];have:=Cu (a:=Fj q) (c:=1) (Hw q) Qp (by decide) hd;grind
 rw[Sx]at h2;exact Zl h2 (Zm.2 (Yk h1))
theorem TA{a:Tm}{w:Nat}(h:Fe a.lo.num+Fe a.hi.num<=w):a.hi-a.lo<=((2^(w+1):Nat):Rat):=by
 have h1:=DI (q:=a.lo);have h2:=DI (q:=a.hi);have h3:((2^Fe a.lo.num:Nat):Rat)<=((2^w:Nat):Rat):=Zm.2 (Zs (by decide) (by omega));have h4:((2^Fe a.hi.num:Nat):Rat)<=((2^w:Nat):Rat):=Zm.2 (Zs (by decide) (by omega));rw[rH];rw[Mj]at h1 h2;grind
theorem O1{p:Um}{s:Nat}(h:Bd s p):Ha p<=s:=by
 have:=Mi h p.length;rwa[Q6]at this
theorem Qk3{a b:Tm}(ha:Va a)(hb:Va b)(pa:a.point=false)(pb:b.point=false):P9 a b<=9000000:=by
 have q1:=ha.qsn pa;have q2:=hb.qsn pb;have l1:=ha.n;have l2:=hb.n;have s1:=O1 (ha.bi pa);have s2:=O1 (hb.bi pb);have b1:=q1.1.1;have b2:=q1.2.1;have b3:=q2.1.1;have b4:=q2.2.1;have:4*(a.p.length+b.p.length)*(Ha a.p+Ha b.p+(a.p.length+b.p.length)+8)<=4*18*2600:=Zc (by omega) (by omega);unfold P9;omega
theorem Qd9{a b:Tm}(ha:Va a)(hb:Va b)(pa:a.point=false)(pb:b.point=false)(hne:¬TEq a b):∃r,AT (P9 a b) a b=some r/\Qsv a b r:=by
 obtain⟨D,M,k,h1,h2,h3⟩:=ha.hv0;obtain⟨D',M',k',h1',h2',h3'⟩:=hb.hv0;rw[yQ pa]at h3;rw[yQ pb]at h3';have hst:=Qk3 ha hb pa pb;obtain⟨w,hw⟩:=nmE (Fe a.lo.num+Fe a.hi.num+Fe b.lo.num+Fe b.hi.num);obtain⟨K,hK⟩:=nmE (Ha a.p+Ha b.p+(a.p.length+b.p.length)+8);obtain⟨n,hn⟩:=nmE (a.p.length+b.p.length);have l1:=ha.n2;have l2:=hb.n2;have hsteps:P9 a b=64+2*w+4*n*K:=by unfold P9;rw[hw,hK,hn]
 have hg:T0 a.p b.p=K*(2*(n-2)-1):=by unfold T0;rw[hK,hn]
 have hgle:T0 a.p b.p+5*K<=2*n*K:=by
  rw[hg,Zq K,<-X5];exact Q0 _ (by omega)
 have hKp:8<=K:=by omega
 refine Qxa ha hb hne h2 h2' (31+w+2*n*K) (P9 a b) a b k k' ((2^(w+1):Nat):Rat) ?_ h1 h1' (by omega) (by omega) (TA (by omega)) (TA (by omega)) ?_
 ·rw[hsteps,Xj,Xz 4,Xz 2 n];omega
 ·have e:2*(2^(w+1))*(2^(T0 a.p b.p+1))<=2^(31+w+2*n*K):=by
   rw[Zq 2,<-Zr,<-Xf];exact Zs (by decide) (by omega)
  have:=Zm.2 e
  push_cast at this ⊢
  exact this
theorem UR{a b:Tm}(ha:Va a)(hb:Va b):∃c,UH a b=some c/\CmpOk a b c:=by
 unfold UH;by_cases pa:a.point=true
 ·rw[if_pos pa];exact⟨_,rfl,Qgv hb (bI ha pa)⟩
 rw[if_neg pa];by_cases pb:b.point=true
 ·rw[if_pos pb];have:=(Qgv ha (bI hb pb)).symm;rw[Int.neg_neg]at this;exact⟨_,rfl,this⟩
 rw[if_neg pb];have pa:a.point=false:=by simpa using pa
 have pb:b.point=false:=by simpa using pb
 obtain⟨L,V⟩:=ha.iv pa;obtain⟨L',V'⟩:=hb.iv pb;have eqa:∀q,Fp a q=cq (cz a.p) a.lo a.hi q:=Cj V.l;have eqb:∀q,Fp b q=cq (cz b.p) b.lo b.hi q:=Cj V'.l;obtain⟨lo,hlo⟩:=nmE (if 0<He b.lo a.lo then b.lo else a.lo);obtain⟨hi,hhi⟩:=nmE (if He b.hi a.hi<0 then b.hi else a.hi);show ∃c,(if He (if 0<He b.lo a.lo then b.lo else a.lo) (if He b.hi a.hi<0 then b.hi else a.hi)<0 then _ else _)=some c/\_;rw[<-hlo,<-hhi];have e1:(0<He b.lo a.lo)=(a.lo<b.lo):=propext Ek;have e2:(He b.hi a.hi<0)=(b.hi<a.hi):=propext Ny;have e3:(He lo hi<0)=(lo<hi):=propext Ny;simp only[e1]at hlo;simp only[e2]at hhi;simp only[e3];obtain⟨g,g1,g2,g3,g4⟩:=Qh1 Qy6 ha.tr hb.tr ha.n hb.n (ha.bi pa) (hb.bi pb) (by have:=ha.n2;omega);obtain⟨U,W,hc⟩:=g2.c;obtain⟨u,hu⟩:=g2.da;obtain⟨u',hu'⟩:=g2.db;have key:=V.same V' (g:=cz g) (u:=u) (u':=u') (U:=U) (W:=W) (k:=1) (by decide) hu hu' (λt=>by rw[Fa,Fa,Fa,hc];grind) (a:=lo) (b:=hi) (by rw[hlo];split <;> grind) (by rw[hlo];split <;> grind) (by rw[hlo];split <;> simp) (by rw[hhi];split <;> grind) (by rw[hhi];split <;> grind) (by rw[hhi];split <;> simp);have hTE:(∀q,cq (cz a.p) a.lo a.hi q=cq (cz b.p) b.lo b.hi q)↔TEq a b:=by
  unfold TEq;constructor
  ·intro h q;rw[eqa,eqb];exact h q
  ·intro h q;rw[<-eqa,<-eqb];exact h q
 rw[hTE]at key;have fin:¬TEq a b->∃c,((AT (P9 a b) a b).bind λr=>some r.2.2)=some c/\CmpOk a b c:=λhne=>by
  obtain⟨r,r1,r2⟩:=Qd9 ha hb pa pb hne;refine⟨r.2.2,by rw[r1];rfl,?_⟩;rcases r2 with h|h
  ·exact .inl h
  ·exact .inr (.inr h)
 by_cases hl:lo<hi
 ·rw[if_pos hl,g1];show ∃c,(if 1<g.length/\FX g lo hi=true then some 0 else(AT (P9 a b) a b).bind λr=>some r.2.2)=some c/\_;by_cases hh:FX g lo hi=true
  ·have hq:=(FY g lo hi).1 hh;rw[if_pos ⟨fK g2.t g2.n hq,hh⟩];exact⟨0,rfl,.inr (.inl ⟨rfl,key.1 ⟨hl,hq⟩⟩)⟩
  ·rw[if_neg λh=>hh h.2];exact fin λh=>hh ((FY g lo hi).2 (key.2 h).2)
 ·rw[if_neg hl];exact fin λh=>hl (key.2 h).1
def SgT(p:Um)(a:Tm)(s:Int):Prop:=s=0/\I2 (cz p) (Fp a)\/s≠0/\NZ (cz p) (Fp a) s
theorem Qv5{p:Um}{c:Rat->Int}(hc:Cut c){x:Rat}(h:c x=0):Ra p x=0/\I2 (cz p) c\/Ra p x≠0/\NZ (cz p) c (Ra p x):=by
 rw[Np,<-Fa];rcases JA hc (cz p)with h1|⟨s,hs,h1⟩
 ·exact .inl ⟨Gq.2 (TE hc h h1),h1⟩
 ·have:=gU hc h h1;rw[this];exact .inr ⟨hs,h1⟩
theorem QX{l:Un}{lo hi:Rat}(h:lo<=hi):Tr l lo hi=(vv (l.map cz) lo:Int)-(vv (l.map cz) hi:Int):=by
 unfold Tr;rw[if_neg λh'=>by have:=Ny.1 h';grind,ZY,ZY]
theorem Qv6{p q:Um}{L:Uq}(hp:Ff p)(np:p.length<=9)(lp:2<=p.length)(hS:HV (cz q) L)(hpq:ZC (cz q) (cz p)){a:Tm}(ha:Va a){s:Int}(hnz:NZ (cz p) (Fp a) s){D M k:Nat}{x:Tm}(hx:Hv a D M k x)(hl:x.lo<x.hi)(hv:vv L x.lo≠vv L x.hi):1<(x.hi-x.lo)*((2^(T0 a.p p+1):Nat):Rat):=by
 rcases Gh ((x.hi-x.lo)*((2^(T0 a.p p+1):Nat):Rat)) 1 with hw|hw
 ·exfalso;have ca:=ha.cut;obtain⟨d,dp,x1,y1,c1,c2,hn⟩:=hnz;obtain⟨x2,x12,c3⟩:=ca.up x1 c1;obtain⟨y2,y12,c4⟩:=ca.dn y1 c2;have hpow:(0:Rat)<=((2^(T0 a.p p+1):Nat):Rat):=Xi;obtain⟨z,zp,z1,z2⟩:=min2 (a:=x2-x1) (b:=y1-y2) (by clear hn;grind) (by clear hn;grind);obtain⟨R0,hR0,r1,r2⟩:=xQ x.lo x.hi;obtain⟨u,hu⟩:=hpq;refine Qhs (R:=R0+1) (d:=z) ha.tr hp ha.n np ha.n2 lp (by clear hn;grind) zp λe ep=>?_
  obtain⟨q0,q1,q2,q3,q4,q5⟩:∃q0,x.lo<=q0/\q0<=x.hi/\x2<=q0/\q0<=y2/\Fj (U9 a.p q0)<e:=by
   rcases hx.lo' with h1|⟨h1,h2⟩
   ·obtain⟨x',y',hx',hy',hq⟩:=ha.van e ep;obtain⟨m,m1,m2,m3,m4⟩:∃m,Fp a m=1/\x.lo<=m/\x2<=m/\x'<=m:=by
     rcases Gh x.lo x2 with e1|e1
     ·rcases Gh x2 x' with e2|e2
      ·exact⟨x',hx',by clear hn hq;grind,e2,Qp⟩
      ·exact⟨x2,c3,e1,Qp,Qt e2⟩
     ·rcases Gh x.lo x' with e2|e2
      ·exact⟨x',hx',e2,by clear hn hq;grind,Qp⟩
      ·exact⟨x.lo,h1,Qp,Qt e1,Qt e2⟩
    refine⟨m,m2,?_,m3,Qt (ca.lt m1 c4),by rw[<-Fa];exact hq m m4 (Qt (ca.lt m1 hy'))⟩;rcases hx.hi' with h3|h3
    ·rcases Gh m x.hi with e1|e1
     ·exact e1
     ·have:=ca.mono x.hi m e1 (by omega);omega
    ·exact Qt (ca.lt m1 h3)
   ·exact absurd h2 (by clear hn;grind)
  obtain⟨b,hb⟩:=nmE (uC R0 u);have hb0:0<=b:=by rw[hb];exact XK hR0 u
  obtain⟨f,fp,_,hf⟩:=Hi (b:=b) (d:=if e<=d then e else d) hb0 (by split <;> assumption);obtain⟨r,r3,r4,r5⟩:=vC hS hl hv fp;have hrR:Fj r<=R0:=FV r1 r2 r3 r4;have hpr:Fj (U9 p r)<(if e<=d then e else d):=by
   rw[<-Fa,hu];have:=Hd (Qt r5) (SU hrR u);rw[<-hb]at this;exact Jr.1 λh=>absurd (Zl h this) (Jr.2 hf)
  have hpe:Fj (U9 p r)<e:=by split at hpr <;> (clear hn;grind)
  have hpd:Fj (U9 p r)<d:=by split at hpr <;> (clear hn;grind)
  have hrout:r<x1\/y1<r:=by
   rcases Gh x1 r with e1|e1
   ·rcases Gh r y1 with e2|e2
    ·have:=(hn r e1 e2).2;rw[Fa]at this;exact absurd this (Jr.2 hpd)
    ·exact .inr e2
   ·exact .inl e1
  have hqr:z<=Fj (q0-r):=by
   clear hn;rcases hrout with h|h
   ·have:Fj (q0-r)=q0-r:=by unfold Fj;split <;> grind
    rw[this];grind
   ·have:Fj (q0-r)=r-q0:=by unfold Fj;split <;> grind
    rw[this];grind
  have hq0R:Fj q0<=R0:=FV r1 r2 q1 q2;refine⟨q0,r,by clear hn;grind,by clear hn;grind,hqr,?_,q5,hpe⟩;have h1:Fj (q0-r)<=x.hi-x.lo:=by rw[Mj];clear hn;constructor <;> grind
  exact Zl (Ze h1 hpow) hw
 ·exact hw
theorem Qkp{p q:Um}{l:Un}(hp:Ff p)(np:p.length<=9)(lp:2<=p.length)(hS:HV (cz q) (l.map cz))(hpq:ZC (cz q) (cz p)){a:Tm}(ha:Va a){s:Int}(hnz:NZ (cz p) (Fp a) s){D M:Nat}(hM:0<M):∀(j i:Nat) (x:Tm) (k:Nat) (W:Rat),i+1<=j->Hv a D M k x->Fe (D:Int)+Fe (M:Int)+(k+j)<=16777216->x.hi-x.lo<=W->W*((2^(T0 a.p p+1):Nat):Rat)<=((2^i:Nat):Rat)->∃u k',sgF l j x=some u/\Hv a D M k' u/\(u.point=true\/Tr l u.lo u.hi=0)
 | 0,i,x,k,W,h,_,_,_,_=>by omega
 |
  j+1,i,x,k,W,hj,hx,hs,hW,hK=>by
  simp only[sgF];by_cases h:x.point=true\/Tr l x.lo x.hi=0
  ·rw[if_pos h];exact⟨x,k,rfl,hx,h⟩
  ·rw[if_neg h];obtain⟨v,v1,v2,v3,_⟩:=jC hx hM (by omega);rw[v1];show ∃u k',sgF l j v=some u/\_;have hpt:¬x.hi<=x.lo:=λh'=>h (.inl (Mw.2 h'))
   have hl:x.lo<x.hi:=by grind
   have hvv:vv (l.map cz) x.lo≠vv (l.map cz) x.hi:=λh'=>h (.inr (by rw[QX (Qt hl)];omega))
   have hg:=Qv6 hp np lp hS hpq ha hnz hx hl hvv;have hpow:(0:Rat)<=((2^(T0 a.p p+1):Nat):Rat):=Xi;have hd:∀x:Rat,x / 2*2=x:=λx=>Hf (by decide)
   cases i with
   |
    zero =>
    exfalso;rw[Vd]at hK;have:=Ze hW hpow;have h7:((1:Nat):Rat)=1:=rfl;rw[h7]at hK;grind
   |
    succ i =>
    refine Qkp hp np lp hS hpq ha hnz hM j i v (k+1) (W / 2) (by omega) v2 (by omega) ?_ ?_
    ·have:=hd (x.hi-x.lo);have:=hd W;grind
    ·rw[rH i]at hK;have:=hd W;have:W / 2*((2^(T0 a.p p+1):Nat):Rat)*2=W*((2^(T0 a.p p+1):Nat):Rat):=by grind
     grind
theorem rQ{x y:Rat}:∀{ws:Uq},(∀w∈ws,Fg (ev w x)=Fg (ev w y))->Fg (ev (On ws) x)=Fg (ev (On ws) y)
 | [],_=>by simp only[On];rw[Tf,Tf]
 |
  w::l,h=>by
  simp only[On];rw[Fh,Fh,Sv,Sv,h w (Qy ..),rQ λv hv=>h v (Qg _ hv)]
theorem Qc5{p q o:Um}(hpt:Parts p q o)(tp:Ff p)(hp:p.length≠0){L:Uq}(hS:HV (cz q) L){x y:Rat}(hxy:x<y)(hv:vv L x=vv L y):∃s,s≠0/\∀z,x<z->z<=y->Fg (U9 p z)=s:=by
 obtain⟨ws,w1,w2⟩:=hpt.ws;obtain⟨_,_,_,_,_,p6,p7⟩:=Cx tp hp;have key:∀z,x<z->z≤y->∀w∈ws.map cz,Sm w x z:=λz h1 h2 w hw=>by
  obtain⟨v,hv',rfl⟩:=Za.1 hw;obtain⟨u,hu⟩:=(w1 v hv').2;have a1:=A2 hS h1;have a2:vv L y<=vv L z:=by
   rcases Classical.em (z=y)with e|e
   ·rw[e];exact Ql _
   ·exact A2 hS (by grind)
  exact KX hS hu h1 (by omega)
 have hval:∀z,U9 p z=(Ho p:Rat)*ev (On (ws.map cz)) z:=λz=>by rw[p7,w2]
 refine⟨Fg (U9 p y),λh0=>?_,λz h1 h2=>?_⟩
 ·rw[hval,Sv]at h0;rcases Yf.1 h0 with h|h
  ·exact XT p6 (Gq.1 h)
  ·have:∀l:Uq,(∀w∈l,Fg (ev w y)≠0)->Fg (ev (On l) y)≠0:=by
    intro l
    induction l with
    |nil=>intro _;simp only[On];rw[Tf];decide
    |
     cons w l ih =>
     intro h;simp only[On];rw[Fh,Sv];exact Jh (h w (Qy ..)) (ih λv hv=>h v (Qg _ hv))
   refine this _ (λw hw=>?_) h;have hs:=key y hxy Qp w hw;rw[hs.s];exact hs.n
 ·rw[hval,hval,Sv,Sv,rQ (y:=y) λw hw=>(key z h1 h2 w hw).s.trans (key y hxy Qp w hw).s.symm]
theorem Quy{g p P:Um}{c:Rat->Int}(hc:Cut c)(hg:Gc g p P):I2 (cz g) c↔I2 (cz p) c/\I2 (cz P) c:=by
 constructor
 ·intro h;obtain⟨u,hu⟩:=hg.da;obtain⟨v,hv⟩:=hg.db;exact⟨Mc hc hu h,Mc hc hv h⟩
 ·rintro⟨h1,h2⟩
  obtain⟨U,V,hcc⟩:=hg.c;have a1:I2 (G7 U (cz p)) c:=Mc hc (p:=cz p) (q:=U) (λt=>by rw[Fh];grind) h1;have a2:I2 (G7 V (cz P)) c:=Mc hc (p:=cz P) (q:=V) (λt=>by rw[Fh];grind) h2;exact NS (λt=>by rw[Fa,hcc,Fh,Fh,Fa,Fa]) a1 a2
theorem Qkw{p:Um}(hp:Okp 9 1180 p){a:Tm}(ha:Va a):∃s,GR p a=some s/\SgT p a s:=by
 unfold GR;rw[if_neg hp.nz];have ca:=ha.cut;by_cases pa:a.point=true
 ·rw[if_pos pa];exact⟨_,rfl,Qv5 ca (x:=a.lo) (by rw[bI ha pa,Ey])⟩
 rw[if_neg pa];have pa:a.point=false:=by simpa using pa
 obtain⟨L,V⟩:=ha.iv pa;have eqa:∀q,Fp a q=cq (cz a.p) a.lo a.hi q:=Cj V.l;obtain⟨g,g1,g2,g3,g4⟩:=Qh1 Qy6 hp.t ha.tr hp.l ha.n (U5 hp.b (by omega)) (ha.bi pa) hp.nz;obtain⟨u',hu'⟩:=g2.db;have hhas:=V.has hu' (a:=a.lo) (b:=a.hi) Qp V.l Qp;have hvan:=Quy ca g2;rw[show cq (cz a.p) a.lo a.hi=Fp a from(funext eqa).symm]at hhas;rw[g1];show ∃s,(if 1<g.length/\FX g a.lo a.hi=true then some 0 else _)=some s/\_;by_cases hh:FX g a.lo a.hi=true
 ·have hq:=(FY g _ _).1 hh;rw[if_pos ⟨fK g2.t g2.n hq,hh⟩];exact⟨0,rfl,.inl ⟨rfl,(hvan.1 (hhas.1 hq).1).1⟩⟩
 ·rw[if_neg λh=>hh h.2];have hnv:¬I2 (cz p) (Fp a):=λh=>hh ((FY g _ _).2 (hhas.2 ⟨hvan.2 ⟨h,ha.van⟩,by rw[eqa];exact Ah Qp,by rw[eqa];exact V.hi1⟩))
  rcases JA ca (cz p)with h|⟨s,AU,hnz⟩
  ·exact absurd h hnv
  obtain⟨q,o,q1,q2,hpt⟩:=Qjd hp;obtain⟨q',l,r1,r2,hS,hl0⟩:=chain_ok hp;rw[q1]at r1;injection r1 with r1;subst r1;rw[r2];show ∃s,((sgF (q::l) (64+2*(Fe a.lo.num+Fe a.hi.num)+4*(a.p.length+p.length)*(Ha a.p+Ha p+(a.p.length+p.length)+8)) a).bind λx=>some (Ra p x.hi))=some s/\_;obtain⟨w,hw⟩:=nmE (Fe a.lo.num+Fe a.hi.num);obtain⟨K,hK⟩:=nmE (Ha a.p+Ha p+(a.p.length+p.length)+8);obtain⟨n,hn⟩:=nmE (a.p.length+p.length);rw[<-hw,<-hK,<-hn];obtain⟨gg,sq⟩:=hpt.sq;obtain⟨_,_,_,_,_,pf0,pfe⟩:=Cx hp.t hp.nz;have hpq:ZC (cz q) (cz p):=⟨D6 (Ho p) (cz gg),λt=>by rw[Fa,Fa,Gt,Fa,pfe,sq.e];grind⟩;obtain⟨D,M,k,h1,h2,h3⟩:=ha.hv0;rw[yQ pa]at h3;have b1:=(ha.qsn pa).1.1;have b2:=(ha.qsn pa).2.1;have l1:=ha.n;have l2:=hp.l;have l3:=ha.n2;have s1:=O1 (ha.bi pa);have s2:=O1 hp.b;have hst:4*n*K<=4*18*2466:=Zc (by omega) (by omega);have hend:∃u k',sgF (q::l) (64+2*w+4*n*K) a=some u/\Hv a D M k' u/\(u.point=true\/Tr (q::l) u.lo u.hi=0):=by
   by_cases hpl:p.length<2
   ·have hq1:(Fi p)=[1]:=hp.pr.1.one (by have:=hp.pr.2.1;omega);have hql:q.length<2:=by
     have e:=sq.e;rw[hq1]at e;obtain⟨p1,p2⟩:=Tg (c:=[1]) rfl (by simp) e;have:=Ms sq.pg.t sq.pq.t (c:=[1]) rfl e p1 p2;simp at this;omega
    have hbt:Tr (q::l) a.lo a.hi=0:=by
     rw[QX (Qt V.l),hl0 hql,sq.pq.one hql];have hv1:∀x:Rat,ev (cz [1]) x=1:=λx=>by rw[Fa,Nz]
     simp only[Z0,X8,vv,tc,hv1];omega
    refine⟨a,k,?_,h1,.inr hbt⟩;obtain⟨m,hm⟩:∃m,64+2*w+4*n*K=m+1:=⟨63+2*w+4*n*K,by omega⟩;rw[hm];simp only[sgF];rw[if_pos (.inr hbt)]
   ·have hg:T0 a.p p=K*(2*(n-2)-1):=by unfold T0;rw[hK,hn]
    have hgle:T0 a.p p+5*K<=2*n*K:=by
     rw[hg,Zq K,<-X5];exact Q0 _ (by omega)
    have hKp:8<=K:=by omega
    have hnK:2*n*K<=4*n*K:=Q0 _ (by omega);obtain⟨u,k',u1,u2,u3⟩:=Qkp hp.t hp.l (by omega) hS hpq ha hnz h2 (64+2*w+4*n*K) (2+w+2*n*K) a k ((2^(w+1):Nat):Rat) (by omega) h1 (by omega) (TA (by omega)) (by
     have e:(2^(w+1))*(2^(T0 a.p p+1))<=2^(2+w+2*n*K):=by
      rw[<-Xf];exact Zs (by decide) (by omega)
     have:=Zm.2 e
     push_cast at this ⊢
     exact this)
    exact⟨u,k',u1,u2,u3⟩
  obtain⟨u,k',u1,u2,u3⟩:=hend;rw[u1];refine⟨_,rfl,.inr ?_⟩;have hfin:Ra p u.hi=s:=by
   rcases u2.hi' with hz|hz
   ·have:=gU ca hz hnz;rw[Np,<-Fa];exact this
   ·rcases u2.i with⟨e,_⟩|⟨L',V'⟩
    ·have:=u2.c u.hi;rw[Ic e,e,Ey]at this;omega
    ·have hup:u.point=false:=by
      have:¬u.point=true:=λh=>by have:=Mw.1 h;have:=V'.l;grind
      simpa using this
     rcases u3 with h|h
     ·rw[hup]at h;cases h
     ·rw[QX (Qt V'.l)]at h;obtain⟨s',hs',hps⟩:=Qc5 hpt hp.t hp.nz hS V'.l (by omega);obtain⟨d,dp,x,y,hx,hy,hq⟩:=hnz;have hlo1:Fp a u.lo=1:=by
       rcases u2.lo' with h|⟨_,h⟩
       ·exact h
       ·have:=V'.l;clear hps hq;grind
      obtain⟨m,m1,m2,m3⟩:=CW ca hlo1 hx;have e1:=(hq m (Qt m3) (Qt (ca.lt m1 hy))).1;have e2:=hps m m2 (Qt (ca.lt m1 hz));have e3:=hps u.hi V'.l Qp;rw[Np,e3,<-e2,<-Fa,e1]
  rw[hfin];exact⟨AU,hnz⟩
structure Dp(p:List Int):Prop where
 t:Ff p
 l:p.length<=9
 b:Bd (1130+4*(9-p.length)) p
theorem iC:Szz 9 1253:=⟨by decide,by decide⟩
theorem Dp.ok{p:Um}(h:Dp p)(h0:p.length≠0):Okp 9 1180 p:=⟨iC,h.t,h0,h.l,U5 h.b (by omega)⟩
theorem Dp.der{p:Um}(h:Dp p):Dp (Gw p):=by
 have hl:=Nj p;have hl2:=h.l;refine⟨Fy _ _,by omega,?_⟩;by_cases h0:p.length=0
 ·rw[Qj (l:=Gw p) (by omega)];exact KV
 ·exact U5 (pK h.b (by omega)) (by omega)
def Fu(a:Tm)(p:Um):Int:=(GR p a).getD 0
theorem Qkn{p:Um}(h:Dp p){a:Tm}(ha:Va a):GR p a=some (Fu a p)/\SgT p a (Fu a p):=by
 by_cases h0:p.length=0
 ·have e:p=[]:=Qj h0;subst e;refine⟨rfl,.inl ⟨rfl,λd dp=>?_⟩⟩;obtain⟨x,y,h1,h2,_⟩:=ha.cut.near (e:=1) (by decide);exact⟨x,y,h1,h2,λq _ _=>by simp only[cz,X8,ev,Rj];exact dp⟩
 ·obtain⟨s,h1,h2⟩:=Qkw (h.ok h0) ha;have e:Fu a p=s:=by unfold Fu;rw[h1];rfl
  rw[e];exact⟨h1,h2⟩
theorem Qv2{c:Rat->Int}{p q:Up}{s:Int}(h:∀t,ev p t=ev q t)(hp:RS p c s):RS q c s:=by
 obtain⟨y,h1,h2⟩:=hp;exact⟨y,h1,λz h3 h4=>by rw[<-h];exact h2 z h3 h4⟩
theorem OE{a:Tm}(ha:Va a):∀(k:Nat) (p:Um),Dp p->p.length<=k->p.length≠0->RS (cz p) (Fp a) (Tv (Fu a) k p)/\Tv (Fu a) k p≠0
 | 0,p,_,h1,h2=>by omega
 |
  k+1,p,h,h1,h2=>by
  simp only[Tv];rw[if_neg h2];obtain⟨_,hs⟩:=Qkn h ha;rcases hs with⟨e,hv⟩|⟨e,hn⟩
  ·rw[if_pos e];have hdn:(Gw p).length≠0:=λh0=>by
    by_cases h3:p.length=1
    ·obtain⟨c,rfl⟩:∃c,p=[c]:=Kr.1 h3;have hc:c≠0:=by have:=H8 h.t (by simp);simpa using this
     obtain⟨q,hq,_⟩:=gW ha.cut (hv (Fj (c:Rat)) (Cz (XT hc)));rw[Fa]at hq;have:U9 [c] q=(c:Rat):=by simp only[U9];grind
     rw[this]at hq;grind
    ·have h4:=Bz p (p.length-2);rw[Qj h0,show p.length-2+1=p.length-1 by omega]at h4;have h5:p.getD (p.length-1) 0≠0:=H8 h.t (by omega);rcases Yf.1 (h4.symm.trans (by simp))with h6|h6
     ·exact h5 h6
     ·omega
   have hl:=Nj p;obtain⟨i1,i2⟩:=OE ha k (Gw p) h.der (by omega) hdn;exact⟨vU ha.cut hv (Qv2 (λt=>by rw[Fa,Oq,Ts]) i1) i2,i2⟩
  ·rw[if_neg e];exact⟨zV ha.cut hn,e⟩
theorem En{a:Tm}(ha:Va a){p:Um}(h:Dp p)(h0:p.length≠0):RS (cz p) (Fp a) (Hj (Fu a) p)/\Hj (Fu a) p≠0:=OE ha _ p h (Ql _) h0
theorem XG{a:Tm}:Hj (Fu a) []=0:=rfl
theorem Qo7{l:Um}:∀z∈l,z.natAbs≤most l:=by
 have key:∀(l:Um) (m:Nat),m≤l.foldl (λm z=>if m<z.natAbs then z.natAbs else m) m/\∀z∈l,z.natAbs≤l.foldl (λm z=>if m<z.natAbs then z.natAbs else m) m:=by
  intro l
  induction l with
  |nil=>exact λm=>⟨Ql _,λz hz=>by cases hz⟩
  |
   cons y l ih =>
   intro m;obtain⟨e,he⟩:=nmE (if m<y.natAbs then y.natAbs else m);have h1:m<=e/\y.natAbs<=e:=by rw[he];split <;> omega
   obtain⟨i1,i2⟩:=ih e;simp only[Z9];rw[<-he];refine⟨by omega,λz hz=>?_⟩;rcases Qm.1 hz with rfl|hz
   ·omega
   ·exact i2 z hz
 exact(key l 0).2
theorem BY{p:Um}(h:Fq p≠0):Gx p*((Fq p).natAbs:Rat)=((Fq p).natAbs:Rat)+((most (p.take (p.length-1)):Nat):Rat):=by
 unfold Gx;rw[<-H9];have hp:0<(Fq p).natAbs:=by omega
 have:=nat_pos hp;rw[show((((Fq p).natAbs:Int)):Rat)=((Fq p).natAbs:Rat) from rfl,Hf this];rw[Kc];rfl
theorem aU{m:Nat}{x:Rat}(hx:1≤Fj x):∀(p:Um) (lp:p.length≠0),(∀z∈p.take (p.length-1),z.natAbs≤m)->Fq p≠0->(m:Rat)≤(Fj x-1)*((Fq p).natAbs:Rat)->((Fq p).natAbs:Rat)≤U9 p x*(((Int.sign (Fq p))*(if x<0/\p.length % 2=0 then -1 else 1):Int):Rat)
 | [],lp,_,_,_=>absurd rfl lp
 |
  [c],_,_,hc,_=>by
  have hl:Fq [c]=c:=rfl;rw[hl]at hc ⊢;rw[if_neg (by simp),Ub];have h1:U9 [c] x=(c:Rat):=by simp only[U9];grind
  rw[h1];have h2:c*Int.sign c=(c.natAbs:Int):=Int.mul_sign_self c;have:=congrArg (λz:Int=>(z:Rat)) h2;rw[X1]at this;rw[this];exact Qp
 |
  c::d::p,_,hm,hc,hb=>by
  have hl:Fq (c::d::p)=Fq (d::p):=by unfold Fq;simp[List.getD_cons_succ]
  have ih:=aU hx (d::p) (by simp) (λz hz=>hm z (by
   have e:(c::d::p).take ((c::d::p).length-1)=c::(d::p).take ((d::p).length-1):=by simp
   rw[e];exact Qg _ hz)) (by rw[<-hl];exact hc) (by rw[<-hl];exact hb)
  rw[hl]at hc hb ⊢;have hcm:=hm c (by simp);obtain⟨s,hs⟩:∃s:Int,s=Int.sign (Fq (d::p)):=⟨_,rfl⟩;have hsv:s=1\/s=-1:=by
   rw[hs];rcases Ke hc with h|h
   ·exact .inr (J7 h)
   ·exact .inl (Yu h)
  rw[<-hs]at ih ⊢;obtain⟨ld,hld⟩:∃ld:Rat,ld=((Fq (d::p)).natAbs:Rat):=⟨_,rfl⟩;rw[<-hld]at ih hb ⊢;have hcq:Fj (c:Rat)<=(m:Rat):=by rw[Sx];exact Zm.2 hcm
  rw[Mj]at hcq;have e1:U9 (c::d::p) x=(c:Rat)+x*U9 (d::p) x:=rfl;rw[e1];have hlen:(c::d::p).length % 2=0↔¬(d::p).length % 2=0:=by simp only[Q5];omega
  generalize U9 (d::p) x=y at *;generalize (m:Rat)=mm at *;generalize (c:Rat)=cc at *;have hx0:=hx;by_cases hneg:x<0
  ·have hq:Fj x=-x:=by unfold Fj;rw[if_pos hneg]
   rw[hq]at hx0 hb;by_cases hpar:(d::p).length % 2=0
   ·rw[if_pos ⟨hneg,hpar⟩]at ih;rw[if_neg λh=>(hlen.1 h.2) hpar];rcases hsv with rfl|rfl
    ·have ih:ld<=y*(-1):=by simpa using ih
     have:=Z1 ih (show 0<=-x by grind);have e:(((1:Int)*1:Int):Rat)=1:=rfl;rw[e];grind
    ·have ih:ld<=y*1:=by simpa using ih
     have:=Z1 ih (show 0<=-x by grind);have e:(((-1:Int)*1:Int):Rat)=-1:=rfl;rw[e];grind
   ·rw[if_neg λh=>hpar h.2]at ih;rw[if_pos ⟨hneg,hlen.2 hpar⟩];rcases hsv with rfl|rfl
    ·have ih:ld<=y*1:=by simpa using ih
     have:=Z1 ih (show 0<=-x by grind);have e:(((1:Int)*-1:Int):Rat)=-1:=rfl;rw[e];grind
    ·have ih:ld<=y*(-1):=by simpa using ih
     have:=Z1 ih (show 0<=-x by grind);have e:(((-1:Int)*-1:Int):Rat)=1:=rfl;rw[e];grind
  ·have hq:Fj x=x:=by unfold Fj;rw[if_neg hneg]
   rw[hq]at hx0 hb;rw[if_neg λh=>hneg h.1]at ih ⊢;rcases hsv with rfl|rfl
   ·have ih:ld<=y*1:=by simpa using ih
    have:=Z1 ih (show 0<=x by grind);have e:(((1:Int)*1:Int):Rat)=1:=rfl;rw[e];grind
   ·have ih:ld<=y*(-1):=by simpa using ih
    have:=Z1 ih (show 0<=x by grind);have e:(((-1:Int)*1:Int):Rat)=-1:=rfl;rw[e];grind
theorem pG{p:Um}(tp:Ff p)(lp:p.length≠0){x:Rat}(hx:Gx p<=Fj x):1<=Fj (U9 p x)/\(0<=x->Ra p x=UA p)/\(x<0->Ra p x=ZS p):=by
 have hl:=Eo tp lp;have hpos:0<(Fq p).natAbs:=by omega
 have h1:(1:Rat)<=((Fq p).natAbs:Rat):=by
  have:((1:Nat):Rat)<=((Fq p).natAbs:Rat):=Zm.2 hpos;exact this
 have hm0:(0:Rat)<=((most (p.take (p.length-1)):Nat):Rat):=Xi;have hb:=BY hl;have hx1:=Ze hx (show(0:Rat)<=((Fq p).natAbs:Rat) by grind);have hx2:1<=Fj x:=by
  rcases Gh 1 (Fj x)with h|h
  ·exact h
  ·exfalso;have:=Vy h (show(0:Rat)<((Fq p).natAbs:Rat) by grind);grind
 have key:=aU (m:=most (p.take (p.length-1))) hx2 p lp (λz hz=>Qo7 z hz) hl (by grind);obtain⟨s,hs⟩:∃s:Int,s=Int.sign (Fq p)*(if x<0/\p.length % 2=0 then -1 else 1):=⟨_,rfl⟩;rw[<-hs]at key;have hsv:s=1\/s=-1:=by
  rw[hs];rcases Ke hl with h|h
  ·rw[J7 h];split <;> simp
  ·rw[Yu h];split <;> simp
 have hsg:Ra p x=s/\1<=Fj (U9 p x):=by
  rw[Np];rcases hsv with e|e
  ·rw[e]at key ⊢;have key:((Fq p).natAbs:Rat)<=U9 p x:=by simpa using key
   exact⟨Hy.2 (by grind),by unfold Fj;rw[if_neg (by grind)];grind⟩
  ·rw[e]at key ⊢;have key:((Fq p).natAbs:Rat)<=U9 p x*(-1):=by simpa using key
   exact⟨Pi.2 (by grind),by unfold Fj;rw[if_pos (by grind)];grind⟩
 refine⟨hsg.2,λh=>?_,λh=>?_⟩
 ·rw[hsg.1,hs,if_neg λh'=>by have:=h'.1;grind];unfold UA;omega
 ·rw[hsg.1,hs];unfold ZS;by_cases he:p.length % 2=0
  ·rw[if_pos ⟨h,he⟩,if_pos he];omega
  ·rw[if_neg λh'=>he h'.2,if_neg he];omega
theorem JL{f g:Um->Int}:∀{l:Un} (s:Nat×Int),(∀p∈l,f p=g p)->l.foldl (Px f) s=l.foldl (Px g) s
 | [],s,_=>rfl
 |
  p::l,s,h=>by
  simp only[Z9];have e:Px f s p=Px g s p:=by unfold Px;rw[h p (List.mem_cons_self ..)]
  rw[e];exact JL _ λq hq=>h q (Qg _ hq)
theorem aJ:∀(l:Un),(∀p∈l,Ff p/\p.length≠0)->∃X:Rat,0<X/\∀x,X≤x->(∀p∈l,Ra p x=UA p)/\∀p∈l,Ra p (-x)=ZS p
 | [],_=>⟨1,by decide,λx _=>⟨(λp hp=>by cases hp),(λp hp=>by cases hp)⟩⟩
 |
  p::l,h=>by
  obtain⟨X,hX,hl⟩:=aJ l λq hq=>h q (Qg _ hq)
  obtain⟨tp,lp⟩:=h p (Qy ..);refine⟨X+Fj (Gx p),by have:=Hw (Gx p);grind,λx hx=>?_⟩;have hb0:=Hw (Gx p);have hb1:Gx p<=Fj (Gx p):=by unfold Fj;split <;> grind
  obtain⟨l1,l2⟩:=hl x (by grind);have e1:Fj x=x:=by unfold Fj;rw[if_neg (by grind)]
  have e2:Fj (-x)=x:=by rw[Eu,e1]
  refine⟨λq hq=>?_,λq hq=>?_⟩
  ·rcases Qm.1 hq with rfl|hq
   ·exact(pG tp lp (x:=x) (by rw[e1];grind)).2.1 (by grind)
   ·exact l1 q hq
  ·rcases Qm.1 hq with rfl|hq
   ·exact(pG tp lp (x:=-x) (by rw[e2];grind)).2.2 (by grind)
   ·exact l2 q hq
theorem dH{q:Um}{L:Uq}(hS:HV (cz q) L)(tq:Ff q)(lq:q.length≠0){x y:Rat}(hxy:x<y)(h:Gx q<=x\/y<=-Gx q)(hb:0<Gx q):vv L x=vv L y:=by
 rcases Classical.em (vv L x=vv L y)with e|e
 ·exact e
 ·exfalso;obtain⟨r,r1,r2,r3⟩:=vC hS hxy e (d:=1) (by decide);have:=(pG tq lq (x:=r) (by rcases h with h|h <;> (unfold Fj;split <;> grind))).1;rw[Fa]at r3;grind
theorem HG{p:Um}(h:Fq p≠0):1<=Gx p:=by
 have hb:=BY h;have hp:=nat_pos (show 0<(Fq p).natAbs by omega);have hm0:(0:Rat)<=((most (p.take (p.length-1)):Nat):Rat):=Xi;rcases Gh 1 (Gx p)with h'|h'
 ·exact h'
 ·have:=Vy h' hp;grind
theorem Qde{q:Um}{l:Un}(hS:HV (cz q) ((q::l).map cz))(hl:∀p∈q::l,Ff p/\p.length≠0):WT (q::l)=(vv ((q::l).map cz) (-Gx q):Int)-(vv ((q::l).map cz) (Gx q):Int):=by
 obtain⟨tq,lq⟩:=hl q (Qy ..);have hb:=HG (Eo tq lq);obtain⟨X,hX,hx⟩:=aJ (q::l) hl;obtain⟨h1,h2⟩:=hx (X+Gx q) (by grind);have e1:C7 UA (q::l)=vv ((q::l).map cz) (X+Gx q):=by
  rw[<-ZY];unfold C9 C7;rw[JL (f:=UA) (g:=λp=>Ra p (X+Gx q)) (0,0) λp hp=>(h1 p hp).symm]
 have e2:C7 ZS (q::l)=vv ((q::l).map cz) (-(X+Gx q)):=by
  rw[<-ZY];unfold C9 C7;rw[JL (f:=ZS) (g:=λp=>Ra p (-(X+Gx q))) (0,0) λp hp=>(h2 p hp).symm]
 unfold WT;rw[e1,e2,dH hS tq lq (x:=-(X+Gx q)) (y:=-Gx q) (by grind) (.inr Qp) (by grind),<-dH hS tq lq (x:=Gx q) (y:=X+Gx q) (by grind) (.inl Qp) (by grind)]
theorem Qve{f:Up}{L:Uq}(hS:HV f L){x y:Rat}(hxy:x<y)(hv:vv L y+2<=vv L x):∃m,x<m/\m<y/\vv L m<vv L x/\vv L y<vv L m/\ev f m≠0:=by
 obtain⟨R,hR,hx,hy⟩:=xQ x y;obtain⟨e,ep,he⟩:=Qlj hS R hR;have key:∀n:Nat,∀x,Fj x<=R->x<y->vv L y+2<=vv L x->y-x<=(n:Rat)*e->∃m,x<m/\m<y/\vv L m<vv L x/\vv L y<vv L m:=by
  intro n
  induction n with
  |zero=>intro x _ hxy _ hn;rw[show((0:Nat):Rat)=0 from rfl]at hn;exfalso;clear he;grind
  |
   succ n ih =>
   intro x hx hxy hv hn;have hn':(((n+1:Nat):Rat))=(n:Rat)+1:=by push_cast;rfl
   rw[hn']at hn;rcases Gh (y-x) e with h1|h1
   ·have:=he x y hx hy hxy h1;omega
   ·have hm:Fj (x+e)<=R:=FV hx hy (by clear he ih;grind) (by clear he ih;grind);have h2:=he x (x+e) hx hm (by clear he ih;grind) (by clear he ih;grind);have h3:=A2 hS (show x<x+e by clear he ih;grind);by_cases h4:vv L x=vv L (x+e)
    ·obtain⟨m,m1,m2,m3,m4⟩:=ih (x+e) hm (by clear he ih;grind) (by omega) (by clear he ih;grind);exact⟨m,by clear he ih;grind,m2,by omega,m4⟩
    ·exact⟨x+e,by clear he ih;grind,by clear he ih;grind,by omega,by omega⟩
 obtain⟨n,hn⟩:=ZE (z:=y-x) ep;obtain⟨m,m1,m2,m3,m4⟩:=key n x hx hxy hv hn;rcases Classical.em (ev f m=0)with h0|h0
 ·-- a little farther on
  obtain⟨e2,e2p,hl⟩:=loc hR hS (w:=f) (u:=[1]) (λt=>by rw[Tf];grind);obtain⟨d,dp,d1,d2⟩:=min2 (a:=e2) (b:=(y-m) / 2) e2p (Ai (by clear he key hl;grind) (by decide));have h2:(y-m) / 2*2=y-m:=Hf (by decide);have hmR:Fj m<=R:=FV hx hy (Qt m1) (Qt m2);have hmR2:Fj (m+d)<=R:=FV hx hy (by clear he key hl;grind) (by clear he key hl;grind);rcases hl m (m+d) hmR hmR2 (by clear he key hl;grind) (by clear he key hl;grind)with⟨p1,p2,_⟩|⟨_,p1,_,p3,_⟩
  ·refine⟨m+d,by clear he key hl;grind,by clear he key hl;grind,by omega,by omega,λh'=>?_⟩;have:=p2.s;rw[Gq.2 h']at this;exact p2.n this.symm
  ·rw[Gq.2 h0]at p3;exact absurd p3.symm p1
 ·exact⟨m,m1,m2,m3,m4,h0⟩
theorem Qqy{q:Um}{L:Uq}(hS:HV (cz q) L)(tq:Ff q)(nq:q.length<=9)(lq:2<=q.length){lo hi:Rat}(hl:lo<hi)(hv:vv L hi+2<=vv L lo):1<(hi-lo)*((2^(T0 q q+1):Nat):Rat):=by
 rcases Gh ((hi-lo)*((2^(T0 q q+1):Nat):Rat)) 1 with hw|hw
 ·exfalso;have hpow:(0:Rat)<=((2^(T0 q q+1):Nat):Rat):=Xi;obtain⟨m,m1,m2,m3,m4,m0⟩:=Qve hS hl hv;obtain⟨R,hR,r1,r2⟩:=xQ lo hi;have hd:=Cz m0;obtain⟨d,dp,_,db⟩:=Hi (b:=AM R (cz q)) (d:=Fj (ev (cz q) m) / 2) (M8 hR _) (Ai hd (by decide));have hd2:Fj (ev (cz q) m) / 2*2=Fj (ev (cz q) m):=Hf (by decide);have hmR:Fj m<=R:=FV r1 r2 (Qt m1) (Qt m2);have hnear:∀r,Fj r<=R->Fj (ev (cz q) r)<Fj (ev (cz q) m) / 2->d<Fj (r-m):=λr hr hs=>by
   rcases Gh (Fj (r-m)) d with h|h
   ·exfalso;have h1:=Mg (p:=cz q) hmR hr hR h db;have h2:=Sr (ev (cz q) m-ev (cz q) r) (ev (cz q) r);rw[show ev (cz q) m-ev (cz q) r+ev (cz q) r=ev (cz q) m by grind,oN]at h2;grind
   ·exact h
  refine Qhs (R:=R+1) (d:=d+d) tq tq nq nq lq lq (by grind) (by grind) λe ep=>?_
  obtain⟨e',ep',e1,e2⟩:=min2 (a:=e) (b:=Fj (ev (cz q) m) / 2) ep (Ai hd (by decide));obtain⟨x,x1,x2,x3⟩:=vC hS m1 (by omega) ep';obtain⟨y,y1,y2,y3⟩:=vC hS m2 (by omega) ep';have hxR:Fj x<=R:=FV r1 r2 x1 (by grind);have hyR:Fj y<=R:=FV r1 r2 (by grind) y2;have nx:=hnear x hxR (by grind);have ny:=hnear y hyR (by grind);have ex:Fj (x-m)=m-x:=by unfold Fj;split <;> grind
  have ey:Fj (y-m)=y-m:=by unfold Fj;split <;> grind
  rw[ex]at nx;rw[ey]at ny;have exy:Fj (x-y)=y-x:=by unfold Fj;split <;> grind
  refine⟨x,y,by grind,by grind,by rw[exy];grind,?_,by rw[<-Fa];grind,by rw[<-Fa];grind⟩;rw[exy];exact Zl (Ze (show y-x<=hi-lo by grind) hpow) hw
 ·exact hw
end Orq
